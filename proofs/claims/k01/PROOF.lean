import PyProof.Rows.All
import Wide.All
import OpenK.AllK
import Wide.FinOn
import PySem.Challenge.RW_signsquares_k01_whole_tables
import HandS.ForMost
import HandS.TupAny
import HandS.TupMul
import HandS.Style
import HandS.Deep
import HandS.Conv
import HandS.IsInst
import HandS.Zip
import HandS.Exc
import HandS.WordsExc
import HandS.HeadHook4
import KE.KTupSum
import HandS.SetFor
import KE.KRevSl
import KE.GoesNew
import HandS.Iter
import HandS.Walk
import HandS.Head0
import HandS.Head1
import HandS.Head2
import HandS.HeadEnd
import HandS.HeadHook1
import HandS.HeadHook2
set_option Elab.async false
set_option linter.all false
set_option maxRecDepth 100000
/- SSA -/
set_option Elab.async false
set_option linter.all false
set_option maxRecDepth 100000
/-! The evaluator: core syntax, values, meaning. -/
namespace SS
open PySem

/-- a value of the evaluator: data (lists in it are never changed), a memory cell, a list of one holder, rows of one holder, a list that is lent, the script -/
inductive Vl where
  | dat (d : PyData)
  | ref (c : Nat)
  | new (xs : List PyData)
  | new2 (rows : List (List PyData))
  | bor (xs : List PyData)
  | bor2 (rows : List (List PyData))
  | scr (ns : List Int)

inductive Cell where
  | lst (xs : List PyData)
  | ins (fs : List (Str × Vl))
abbrev Mem := List Cell
abbrev Sg := List (Option Vl)

inductive Rs (α : Type) where
  | ok (a : α) (m : Mem)
  | ex (c : Str) (m : Mem)
  | bad

def Rs.bind {α β : Type} (r : Rs α) (f : α → Mem → Rs β) : Rs β := match r with
  | .ok a m => f a m
  | .ex c m => .ex c m
  | .bad => .bad
@[simp] theorem Rs.bind_ok {α β : Type} (a : α) (m : Mem) (f : α → Mem → Rs β) : (Rs.ok a m).bind f = f a m := rfl
@[simp] theorem Rs.bind_ex {α β : Type} (c : Str) (m : Mem) (f : α → Mem → Rs β) : (Rs.ex c m).bind f = .ex c m := rfl
@[simp] theorem Rs.bind_bad {α β : Type} (f : α → Mem → Rs β) : (Rs.bad : Rs α).bind f = .bad := rfl

def Rs.opt {α : Type} (m : Mem) : Option α → Rs α
  | some a => .ok a m
  | none => .bad
@[simp] theorem Rs.opt_some {α : Type} (m : Mem) (a : α) : Rs.opt m (some a) = .ok a m := rfl
@[simp] theorem Rs.opt_none {α : Type} (m : Mem) : Rs.opt m (none : Option α) = .bad := rfl

/-- the functions that may be called -/
abbrev Fo := Nat → List Vl → Mem → Rs Vl

/-! ### values -/
/-- a slot as it is read -/
def rdV : Vl → Vl
  | .new xs => .bor xs
  | .new2 r => .bor2 r
  | v => v
def getS (η : Sg) (i : Nat) : Option Vl := match η[i]? with
  | some (some v) => some v
  | _ => none
/-- data, as it stands now -/
def toPy (m : Mem) : Vl → Option PyData
  | .dat d => some d
  | .new xs => some (.list xs)
  | .bor xs => some (.list xs)
  | .ref c => (match m[c]? with
    | some (.lst xs) => some (.list xs)
    | _ => none)
  | .scr ns => some (.list (ns.map .int))
  | _ => none
/-- what may be held by another: a fresh list is handed over -/
def keep : Vl → Option PyData
  | .dat d => some d
  | .new xs => some (.list xs)
  | _ => none
/-- the items of a list, a tuple -/
def itemsOf (m : Mem) : Vl → Option (List PyData)
  | .dat (.list xs) => some xs
  | .dat (.tuple xs) => some xs
  | .new xs => some xs
  | .bor xs => some xs
  | .ref c => (match m[c]? with
    | some (.lst xs) => some xs
    | _ => none)
  | _ => none
/-- the items of a list -/
def listOf (m : Mem) : Vl → Option (List PyData)
  | .dat (.list xs) => some xs
  | .new xs => some xs
  | .bor xs => some xs
  | .ref c => (match m[c]? with
    | some (.lst xs) => some xs
    | _ => none)
  | _ => none
def intsOf : List PyData → Option (List Int)
  | [] => some []
  | .int i :: r => (intsOf r).map (i :: ·)
  | _ :: _ => none
def boolsOf : List PyData → Option (List Bool)
  | [] => some []
  | .bool i :: r => (boolsOf r).map (i :: ·)
  | _ :: _ => none
def strsOf : List PyData → Option (List Str)
  | [] => some []
  | .str i :: r => (strsOf r).map (i :: ·)
  | _ :: _ => none
/-- the items of what may be walked -/
def walkOf : Vl → Option (List PyData)
  | .dat (.list xs) => some xs
  | .dat (.tuple xs) => some xs
  | .new xs => some xs
  | .bor xs => some xs
  | _ => none
/-- a loop's source must not be lent -/
def steady : Vl → Bool
  | .bor _ => false
  | .bor2 _ => false
  | .ref _ => false
  | .scr _ => false
  | _ => true
def rowsOf : List PyData → Option (List (List PyData))
  | [] => some []
  | .tuple es :: r => (rowsOf r).map (es :: ·)
  | _ :: _ => none
mutual
/-- no list in it -/
def noLst : PyData → Bool
  | .none => true
  | .bool _ => true
  | .int _ => true
  | .str _ => true
  | .tuple xs => noLsts xs
  | _ => false
def noLsts : List PyData → Bool
  | [] => true
  | x :: xs => noLst x && noLsts xs
end
def noLstV : Vl → Bool
  | .dat d => noLst d
  | .new xs => noLsts xs
  | .ref _ => true
  | _ => false

/-! ### operators -/
def small64 (i : Int) : Bool := decide (-(2 ^ 64) < i) && decide (i < 2 ^ 64)
def fits (n : Nat) : Bool := decide (n ≤ 16000000)
def binI (op : Operator) (i j : Int) : Option Int := match op with
  | .Add => some (i + j)
  | .Sub => some (i - j)
  | .Mult => if small64 i || small64 j then some (i * j) else none
  | .FloorDiv => if decide (0 < j) && decide (j < 1073741824) then some (i / j) else none
  | .Mod => if 0 < j then some (i % j) else none
  | .Pow => if decide (0 ≤ j) && decide (j ≤ 1000000) && decide (i.natAbs < 2 ^ 64) then some (i ^ j.toNat) else none
  | _ => none
def rep {α : Type} (n : Nat) (xs : List α) : List α := (List.replicate n xs).flatten
def smallRep (k : Int) (n : Nat) : Bool := decide (-1000 ≤ k) && decide (k ≤ 1000) && decide (n ≤ 1000)
def binV (m : Mem) (op : Operator) (x y : Vl) : Option Vl := match x, y with
  | .dat (.int i), .dat (.int j) => (binI op i j).map fun k => .dat (.int k)
  | .dat (.str a), .dat (.str b) => (match op with
    | .Add => if fits (a.length + b.length) then some (.dat (.str (a ++ b))) else none
    | _ => none)
  | .dat (.tuple a), .dat (.tuple b) => (match op with
    | .Add => if fits (a.length + b.length) then some (.dat (.tuple (a ++ b))) else none
    | _ => none)
  | .dat (.tuple a), .dat (.int k) => (match op with
    | .Mult => if smallRep k a.length then some (.dat (.tuple (rep k.toNat a))) else none
    | _ => none)
  | .dat (.str a), .dat (.int k) => (match op with
    | .Mult => if smallRep k a.length then some (.dat (.str ⟨(rep k.toNat a.cps.toList).toArray⟩)) else none
    | _ => none)
  | _, _ => (match op, listOf m x, listOf m y, y with
    | .Add, some a, some b, _ => if fits (a.length + b.length) then some (.new (a ++ b)) else none
    | .Mult, some a, _, .dat (.int k) => if smallRep k a.length then some (.new (rep k.toNat a)) else none
    | _, _, _, _ => none)

def eqPy (a b : PyData) : Option Bool := if SeqAt.shaped a && SeqAt.shaped b then some (PyData.eqv a b) else none
def flatP : PyData → Bool
  | .none => true
  | .bool _ => true
  | .int _ => true
  | .str _ => true
  | _ => false
def inPy (x : PyData) (ys : List PyData) : Bool := ys.any fun y => PyData.eqv y x
def inV (m : Mem) (x y : Vl) : Option Bool := match y with
  | .dat (.str z) => (match x with
    | .dat (.str s) => (match s.cps.toList with
      | [c] => some (decide (c ∈ z.cps.toList))
      | _ => none)
    | _ => none)
  | .dat (.tuple ys) => (match x with
    | .dat d => if flatP d && ys.all flatP then some (inPy d ys) else none
    | _ => none)
  | _ => (match toPy m x, listOf m y with
    | some d, some ys => if SeqAt.shaped d && SeqAt.shaped (.list ys) then some (inPy d ys) else none
    | _, _ => none)
def isV : Vl → Vl → Option Bool
  | .dat (.bool a), .dat (.bool b) => some (decide (a = b))
  | .dat .none, .dat .none => some true
  | _, .dat .none => some false
  | _, _ => none
def cmpI (op : CmpOp) (i j : Int) : Option Bool := match op with
  | .Lt => some (decide (i < j))
  | .LtE => some (decide (i ≤ j))
  | .Gt => some (decide (j < i))
  | .GtE => some (decide (j ≤ i))
  | _ => none
def cmpV (m : Mem) (op : CmpOp) (x y : Vl) : Option Bool := match op with
  | .Eq => (match toPy m x, toPy m y with
    | some a, some b => eqPy a b
    | _, _ => none)
  | .NotEq => (match toPy m x, toPy m y with
    | some a, some b => (eqPy a b).map not
    | _, _ => none)
  | .In => inV m x y
  | .NotIn => (inV m x y).map not
  | .Is => isV x y
  | .IsNot => (isV x y).map not
  | _ => (match x, y with
    | .dat (.int i), .dat (.int j) => cmpI op i j
    | _, _ => none)

/-! ### subscripts -/
def ixV (m : Mem) (x y : Vl) : Option Vl := match y with
  | .dat (.int i) => (match x with
    | .bor2 rows => (L2.atI rows i).map .bor
    | .scr ns => (L2.atI ns i).map fun n => .dat (.int n)
    | .dat (.str z) => if fits z.length then (L2.atI z.cps.toList i).map fun c => .dat (.str ⟨#[c]⟩) else none
    | _ => (match itemsOf m x with
      | some xs => (L2.atI xs i).map .dat
      | none => none))
  | _ => none
def cut {α : Type} (xs : List α) (lo hi : Option Int) : List α := (xs.drop (HT.sIx xs.length 0 lo)).take (HT.sIx xs.length xs.length hi - HT.sIx xs.length 0 lo)
def slV (m : Mem) (x : Vl) (lo hi : Option Int) : Option Vl := match x with
  | .dat (.tuple xs) => some (.dat (.tuple (cut xs lo hi)))
  | _ => (listOf m x).map fun xs => .new (cut xs lo hi)
def revV (m : Mem) (x : Vl) : Option Vl := match x with
  | .dat (.tuple xs) => some (.dat (.tuple xs.reverse))
  | _ => (listOf m x).map fun xs => .new xs.reverse

/-! ### order of data: ints, tuples of such -/
mutual
def cmpPy : PyData → PyData → Option Ordering
  | .int i, .int j => some (if i < j then .lt else if j < i then .gt else .eq)
  | .tuple xs, .tuple ys => cmpPys xs ys
  | _, _ => none
def cmpPys : List PyData → List PyData → Option Ordering
  | [], [] => some .eq
  | [], _ :: _ => some .lt
  | _ :: _, [] => some .gt
  | x :: xs, y :: ys => match cmpPy x y with
    | some .eq => cmpPys xs ys
    | o => o
end

/-! ### built-ins -/
inductive B1 where
  | len | tuple | list | sum | min | max | all | any | sorted
deriving DecidableEq
inductive Ty where
  | int | bool | str | tuple | list
deriving DecidableEq
def isiD : PyData → Ty → Bool
  | .bool _, .bool => true
  | .bool _, .int => true
  | .int _, .int => true
  | .str _, .str => true
  | .tuple _, .tuple => true
  | .list _, .list => true
  | _, _ => false
def isiV (m : Mem) (x : Vl) (t : Ty) : Option Bool := match x with
  | .dat d => (match d with
    | .dict _ => none
    | _ => some (isiD d t))
  | .new _ => some (decide (t = .list))
  | .bor _ => some (decide (t = .list))
  | _ => none
def maxL : Int → List Int → Int
  | a, [] => a
  | a, b :: r => maxL (if a < b then b else a) r
def minL : Int → List Int → Int
  | a, [] => a
  | a, b :: r => minL (if b < a then b else a) r
def b1V (m : Mem) (f : B1) (x : Vl) : Option Vl := match f with
  | .len => (match x with
    | .dat (.str z) => if fits z.length then some (.dat (.int z.length)) else none
    | .scr ns => some (.dat (.int ns.length))
    | .bor2 rows => some (.dat (.int rows.length))
    | _ => (itemsOf m x).map fun xs => .dat (.int xs.length))
  | .tuple => (itemsOf m x).map fun xs => .dat (.tuple xs)
  | .list => (itemsOf m x).map fun xs => .new xs
  | .sum => ((itemsOf m x).bind intsOf).map fun ns => .dat (.int ns.sum)
  | .max => (match (itemsOf m x).bind intsOf with
    | some (a :: r) => some (.dat (.int (maxL a r)))
    | _ => none)
  | .min => (match (itemsOf m x).bind intsOf with
    | some (a :: r) => some (.dat (.int (minL a r)))
    | _ => none)
  | .all => ((listOf m x).bind boolsOf).map fun bs => .dat (.bool (bs.all id))
  | .any => ((listOf m x).bind boolsOf).map fun bs => .dat (.bool (bs.any id))
  | .sorted => none
/-- max(a, b), min(a, b) of ints -/
def mm2V (mx : Bool) (x y : Vl) : Option Vl := match x, y with
  | .dat (.int i), .dat (.int j) => some (.dat (.int (if mx then (if j > i then j else i) else (if j < i then j else i))))
  | _, _ => none
inductive Me where
  | count | index | join | split
deriving DecidableEq
def findIx (x : PyData) : List PyData → Option Nat
  | [] => none
  | y :: ys => if PyData.eqv y x then some 0 else (findIx x ys).map (· + 1)
def meV (m : Mem) (f : Me) (x y : Vl) : Option Vl := match f with
  | .count => (match (walkOf x).bind intsOf, y with
    | some ns, .dat (.int k) => some (.dat (.int (ns.count k)))
    | _, _ => none)
  | _ => none
/-- may this method be looked up -/
def meRdy (f : Me) (x : Vl) : Option Unit := match f with
  | .count => (walkOf x).map fun _ => ()
  | _ => none
def rangeL (a b : Int) : List PyData := (List.range (b - a).toNat).map fun i => .int (a + (i : Nat))
def rangeOk (a b : Int) : Bool := decide (-1000000 ≤ a) && decide (a ≤ 1000000) && decide (-1000000 ≤ b) && decide (b ≤ 1000000)

/-! ### core syntax -/
inductive Tg where
  | one (i : Nat)
  | tup (is : List Nat)
mutual
inductive CE where
  | cint (i : Int) | cbl (b : Bool) | cnon | cstr (s : Str)
  | var (i : Nat)
  | gint (x : Str) (i : Int) | gstr (x : Str) (s : Str)
  | bin (op : Operator) (a b : CE)
  | neg (a : CE)
  | nt (a : CE)
  | and_ (a r : CE) | or_ (a r : CE) | one (a : CE)
  | ite (c a b : CE)
  | cmp (op : CmpOp) (a b : CE)
  | chain (op op' : CmpOp) (a b c : CE)
  | tup (es : CEs) | lst (es : CEs)
  | call (f : Nat) (es : CEs)
  | b1 (f : B1) (a : CE)
  | mm2 (mx : Bool) (a b : CE)
  | isi (t : Ty) (a : CE)
  | me (f : Me) (o a : CE)
  | ix (a b : CE)
  | sl (a : CE) (lo hi : CO)
  | rev (a : CE)
  | lc (elt : CE) (t : Tg) (it : CI) (cond : CO)
  | rows (x : Nat) (a : CE)
  | rng (tp : Bool) (a : CE)
inductive CEs where
  | nil
  | cons (a : CE) (r : CEs)
inductive CO where
  | no
  | yes (a : CE)
inductive CI where
  | seq (a : CE)
  | rng1 (a : CE)
  | rng2 (a b : CE)
  | enum (a : CE)
  | zip (a b : CE)
end

/-- what is handed to a def; whether it is lent -/
def argOf : Vl → Option (Vl × Bool)
  | .dat d => some (.dat d, false)
  | .ref c => some (.ref c, false)
  | .scr ns => some (.scr ns, false)
  | .new xs => some (.dat (.list xs), false)
  | .bor xs => some (.dat (.list xs), true)
  | .bor2 rows => some (.dat (.list (rows.map .list)), true)
  | .new2 _ => none
def argsOf : List Vl → Option (List Vl × Bool)
  | [] => some ([], false)
  | v :: r => match argOf v, argsOf r with
    | some (a, b), some (as, bs) => some (a :: as, b || bs)
    | _, _ => none
def callV (S : Fo) (f : Nat) (vs : List Vl) (m : Mem) : Rs Vl := match argsOf vs with
  | none => .bad
  | some (as, lent) => (S f as m).bind fun r m' => if lent && !noLstV r then .bad else .ok r m'
def keeps : List Vl → Option (List PyData)
  | [] => some []
  | v :: r => match keep v, keeps r with
    | some d, some ds => some (d :: ds)
    | _, _ => none
def boolV : Vl → Option Bool
  | .dat (.bool b) => some b
  | _ => none
/-- an item into a target -/
def setMany : Sg → List Nat → List PyData → Option Sg
  | η, [], [] => some η
  | η, i :: is, d :: ds => setMany (η.set i (some (.dat d))) is ds
  | _, _, _ => none
def bindTg (η : Sg) (d : PyData) : Tg → Option Sg
  | .one i => some (η.set i (some (.dat d)))
  | .tup is => (match d with
    | .tuple ds => setMany η is ds
    | _ => none)
def tgSlots : Tg → List Nat
  | .one i => [i]
  | .tup is => is
def wipeS (η : Sg) : List Nat → Sg
  | [] => η
  | i :: is => (wipeS η is).set i none
def enumL (ds : List PyData) : List PyData := ds.zipIdx.map fun p => .tuple [.int (p.2 : Nat), p.1]
def zipL (as bs : List PyData) : List PyData := (as.zip bs).map fun p => .tuple [p.1, p.2]
/-- one after another: the list of what the elements are -/
def lcRun (body : PyData → Mem → Rs (Option PyData)) : List PyData → Mem → Rs (List PyData)
  | [], m => .ok [] m
  | d :: ds, m => (body d m).bind fun o m1 => (lcRun body ds m1).bind fun r m2 => .ok (match o with | some y => y :: r | none => r) m2
/-- nothing may be raised here -/
def noEx {α : Type} : Rs α → Rs α
  | .ex _ _ => .bad
  | r => r
def strItems (z : Str) : List PyData := z.cps.toList.map fun c => .str ⟨#[c]⟩
def iterOf (v : Vl) : Option (List PyData) := match v with
  | .dat (.str z) => some (strItems z)
  | _ => walkOf v

mutual
def den : CE → Fo → Sg → Mem → Rs Vl
  | .cint i, _, _, m => .ok (.dat (.int i)) m
  | .cbl b, _, _, m => .ok (.dat (.bool b)) m
  | .cnon, _, _, m => .ok (.dat .none) m
  | .cstr s, _, _, m => .ok (.dat (.str s)) m
  | .var i, _, η, m => Rs.opt m ((getS η i).map rdV)
  | .gint _ i, _, _, m => .ok (.dat (.int i)) m
  | .gstr _ s, _, _, m => .ok (.dat (.str s)) m
  | .bin op a b, S, η, m => (den a S η m).bind fun x m1 => (den b S η m1).bind fun y m2 => Rs.opt m2 (binV m2 op x y)
  | .neg a, S, η, m => (den a S η m).bind fun x m1 => match x with
    | .dat (.int i) => .ok (.dat (.int (-i))) m1
    | _ => .bad
  | .nt a, S, η, m => (den a S η m).bind fun x m1 => (Rs.opt m1 (boolV x)).bind fun b m2 => .ok (.dat (.bool (!b))) m2
  | .and_ a r, S, η, m => (den a S η m).bind fun x m1 => (Rs.opt m1 (boolV x)).bind fun b m2 => if b then den r S η m2 else .ok (.dat (.bool false)) m2
  | .or_ a r, S, η, m => (den a S η m).bind fun x m1 => (Rs.opt m1 (boolV x)).bind fun b m2 => if b then .ok (.dat (.bool true)) m2 else den r S η m2
  | .one a, S, η, m => den a S η m
  | .ite c a b, S, η, m => (den c S η m).bind fun x m1 => (Rs.opt m1 (boolV x)).bind fun k m2 => if k then den a S η m2 else den b S η m2
  | .cmp op a b, S, η, m => (den a S η m).bind fun x m1 => (den b S η m1).bind fun y m2 => (Rs.opt m2 (cmpV m2 op x y)).bind fun k m3 => .ok (.dat (.bool k)) m3
  | .chain op op' a b c, S, η, m => (den a S η m).bind fun x m1 => (den b S η m1).bind fun y m2 => (Rs.opt m2 (cmpV m2 op x y)).bind fun k m3 =>
      if k then (den c S η m3).bind fun z m4 => (Rs.opt m4 (cmpV m4 op' y z)).bind fun k' m5 => .ok (.dat (.bool k')) m5 else .ok (.dat (.bool false)) m3
  | .tup es, S, η, m => (dens es S η m).bind fun vs m1 => (Rs.opt m1 (keeps vs)).bind fun ds m2 => if fits ds.length then .ok (.dat (.tuple ds)) m2 else .bad
  | .lst es, S, η, m => (dens es S η m).bind fun vs m1 => (Rs.opt m1 (keeps vs)).bind fun ds m2 => if fits ds.length then .ok (.new ds) m2 else .bad
  | .call f es, S, η, m => (dens es S η m).bind fun vs m1 => callV S f vs m1
  | .b1 f a, S, η, m => (den a S η m).bind fun x m1 => Rs.opt m1 (b1V m1 f x)
  | .mm2 mx a b, S, η, m => (den a S η m).bind fun x m1 => (den b S η m1).bind fun y m2 => Rs.opt m2 (mm2V mx x y)
  | .isi t a, S, η, m => (den a S η m).bind fun x m1 => (Rs.opt m1 (isiV m1 x t)).bind fun k m2 => .ok (.dat (.bool k)) m2
  | .me f o a, S, η, m => (den o S η m).bind fun x m1 => (Rs.opt m1 (meRdy f x)).bind fun _ m1 => (den a S η m1).bind fun y m2 => Rs.opt m2 (meV m2 f x y)
  | .ix a b, S, η, m => (den a S η m).bind fun x m1 => (den b S η m1).bind fun y m2 => Rs.opt m2 (ixV m2 x y)
  | .sl a lo hi, S, η, m => (den a S η m).bind fun x m1 => (denO lo S η m1).bind fun l m2 => (denO hi S η m2).bind fun h m3 => Rs.opt m3 (slV m3 x l h)
  | .rev a, S, η, m => (den a S η m).bind fun x m1 => Rs.opt m1 (revV m1 x)
  | .lc elt t it cond, S, η, m => (denI false it S η m).bind fun ds m1 => (lcRun (fun d m => match bindTg (wipeS η (tgSlots t)) d t with
      | none => .bad
      | some η1 => noEx ((denC cond S η1 m).bind fun k m2 => if k then (den elt S η1 m2).bind fun v m3 => (Rs.opt m3 (keep v)).bind fun d m4 => .ok (some d) m4 else .ok none m2)) ds m1).bind fun r m2 => if fits r.length then .ok (.new r) m2 else .bad
  | .rows _ a, S, η, m => (den a S η m).bind fun x m1 => match x with
    | .dat (.tuple ds) => Rs.opt m1 ((rowsOf ds).bind fun rows => if fits rows.length then some (Vl.new2 rows) else none)
    | _ => .bad
  | .rng tp a, S, η, m => (den a S η m).bind fun x m1 => match x with
    | .dat (.int n) => if rangeOk 0 n then .ok (if tp then .dat (.tuple (rangeL 0 n)) else .new (rangeL 0 n)) m1 else .bad
    | _ => .bad
def dens : CEs → Fo → Sg → Mem → Rs (List Vl)
  | .nil, _, _, m => .ok [] m
  | .cons a r, S, η, m => (den a S η m).bind fun x m1 => (dens r S η m1).bind fun xs m2 => .ok (x :: xs) m2
def denO : CO → Fo → Sg → Mem → Rs (Option Int)
  | .no, _, _, m => .ok none m
  | .yes a, S, η, m => (den a S η m).bind fun x m1 => match x with
    | .dat (.int i) => .ok (some i) m1
    | _ => .bad
def denC : CO → Fo → Sg → Mem → Rs Bool
  | .no, _, _, m => .ok true m
  | .yes a, S, η, m => (den a S η m).bind fun x m1 => Rs.opt m1 (boolV x)
def denI (fs : Bool) : CI → Fo → Sg → Mem → Rs (List PyData)
  | .seq a, S, η, m => (den a S η m).bind fun x m1 => if !fs || steady x then Rs.opt m1 (iterOf x) else .bad
  | .rng1 a, S, η, m => (den a S η m).bind fun x m1 => match x with
    | .dat (.int n) => if rangeOk 0 n then .ok (rangeL 0 n) m1 else .bad
    | _ => .bad
  | .rng2 a b, S, η, m => (den a S η m).bind fun x m1 => (den b S η m1).bind fun y m2 => match x, y with
    | .dat (.int i), .dat (.int j) => if rangeOk i j then .ok (rangeL i j) m2 else .bad
    | _, _ => .bad
  | .enum a, S, η, m => (den a S η m).bind fun x m1 => if !fs || steady x then (Rs.opt m1 (walkOf x)).bind fun ds m2 => .ok (enumL ds) m2 else .bad
  | .zip a b, S, η, m => (den a S η m).bind fun x m1 => (den b S η m1).bind fun y m2 => if !fs || (steady x && steady y) then (match walkOf x, walkOf y with
    | some as, some bs => .ok (zipL as bs) m2
    | _, _ => .bad) else .bad
end

/-! ### statements -/
inductive So where
  | nx (η : Sg) (m : Mem)
  | rt (v : Vl) (m : Mem)
  | ex (c : Str) (m : Mem)
  | bad
def So.then (r : So) (f : Sg → Mem → So) : So := match r with
  | .nx η m => f η m
  | .rt v m => .rt v m
  | .ex c m => .ex c m
  | .bad => .bad
@[simp] theorem So.then_nx (η : Sg) (m : Mem) (f : Sg → Mem → So) : (So.nx η m).then f = f η m := rfl
@[simp] theorem So.then_rt (v : Vl) (m : Mem) (f : Sg → Mem → So) : (So.rt v m).then f = .rt v m := rfl
@[simp] theorem So.then_ex (c : Str) (m : Mem) (f : Sg → Mem → So) : (So.ex c m).then f = .ex c m := rfl
@[simp] theorem So.then_bad (f : Sg → Mem → So) : So.bad.then f = .bad := rfl
def Rs.so {α : Type} (r : Rs α) (f : α → Mem → So) : So := match r with
  | .ok a m => f a m
  | .ex c m => .ex c m
  | .bad => .bad
@[simp] theorem Rs.so_ok {α : Type} (a : α) (m : Mem) (f : α → Mem → So) : (Rs.ok a m).so f = f a m := rfl
@[simp] theorem Rs.so_ex {α : Type} (c : Str) (m : Mem) (f : α → Mem → So) : (Rs.ex c m : Rs α).so f = .ex c m := rfl
@[simp] theorem Rs.so_bad {α : Type} (f : α → Mem → So) : (Rs.bad : Rs α).so f = .bad := rfl

mutual
inductive CS where
  | asg (i : Nat) (e : CE)
  | asgT (is : List Nat) (e : CE)
  | par (is : List Nat) (es : CEs)
  | mv (i j : Nat)
  | aug (i : Nat) (op : Operator) (e : CE)
  | aug1 (i : Nat) (a : CE) (op : Operator) (e : CE)
  | aug2 (i : Nat) (a b : CE) (op : Operator) (e : CE)
  | app (i : Nat) (e : CE)
  | ext (i : Nat) (e : CE)
  | rem (i : Nat) (e : CE)
  | ex (e : CE)
  | ret (e : CE)
  | retv (i : Nat)
  | ifs (c : CE) (a b : CSs)
  | for_ (t : Tg) (it : CI) (body : CSs)
  | whl (c : CE) (body : CSs)
  | rais (c : Str)
  | frz (i : Nat)
  | cel (i : Nat)
  | wip (is : List Nat)
  | never
inductive CSs where
  | nil
  | cons (a : CS) (r : CSs)
end
def storeV : Vl → Option Vl
  | .bor _ => none
  | .bor2 _ => none
  | v => some v
def storeP : Vl → Option Vl
  | .bor _ => none
  | .bor2 _ => none
  | .new2 _ => none
  | v => some v
def stores : Sg → List Nat → List Vl → Option Sg
  | η, [], [] => some η
  | η, i :: is, v :: vs => (storeP v).bind fun w => stores (η.set i (some w)) is vs
  | _, _, _ => none
def forRun (body : PyData → Sg → Mem → So) : List PyData → Sg → Mem → So
  | [], η, m => .nx η m
  | d :: ds, η, m => (body d η m).then fun η1 m1 => forRun body ds η1 m1
def whlRun (c : Sg → Mem → Rs Bool) (body : Sg → Mem → So) : Nat → Sg → Mem → So
  | 0, _, _ => .bad
  | n + 1, η, m => (c η m).so fun k m1 => if k then (body η m1).then fun η1 m2 => whlRun c body n η1 m2 else .nx η m1
def whlMost : Nat := 2000
def augI (op : Operator) (y : Vl) (x : Int) : Option Int := match y, op with
  | .dat (.int b), .Add => some (x + b)
  | .dat (.int b), .Sub => some (x - b)
  | _, _ => none
def isOwn (η : Sg) (i : Nat) : Bool := match getS η i with
  | some (.new _) => true
  | some (.new2 _) => true
  | _ => false
def itemOf (xs : List PyData) (k : Vl) : Option (Nat × Int) := match k with
  | .dat (.int k) => (match L2.ixN xs.length k with
    | some j => (match xs[j]? with
      | some (.int x) => some (j, x)
      | _ => none)
    | none => none)
  | _ => none
def itemAt1 (η : Sg) (i : Nat) (k : Vl) : Option (List PyData × Nat × Int) := match getS η i with
  | some (.new xs) => (itemOf xs k).map fun p => (xs, p.1, p.2)
  | _ => none
def rowAt (η : Sg) (i : Nat) (k : Vl) : Option (List (List PyData) × Nat × List PyData) := match getS η i, k with
  | some (.new2 rows), .dat (.int k) => (match L2.ixN rows.length k with
    | some q => (match rows[q]? with
      | some xs => some (rows, q, xs)
      | none => none)
    | none => none)
  | _, _ => none
/-- a slot that holds a list which may grow -/
def lstS (η : Sg) (m : Mem) (i : Nat) : Bool := match getS η i with
  | some (.new _) => true
  | some (.ref c) => (match m[c]? with
    | some (.lst _) => true
    | _ => false)
  | _ => false
def appTo (η : Sg) (m : Mem) (i : Nat) (ds : List PyData) : Option (Sg × Mem) := match getS η i with
  | some (.new xs) => if fits (xs.length + ds.length) then some (η.set i (some (.new (xs ++ ds))), m) else none
  | some (.ref c) => (match m[c]? with
    | some (.lst xs) => if fits (xs.length + ds.length) && noLsts ds then some (η, m.set c (.lst (xs ++ ds))) else none
    | _ => none)
  | _ => none
mutual
def denS : CS → Fo → Sg → Mem → So
  | .asg i e, S, η, m => (den e S η m).so fun x m1 => match storeV x with
    | some v => .nx (η.set i (some v)) m1
    | none => .bad
  | .asgT is e, S, η, m => (den e S η m).so fun x m1 => match x with
    | .dat d => (match bindTg η d (.tup is) with
      | some η1 => .nx η1 m1
      | none => .bad)
    | _ => .bad
  | .par is es, S, η, m => (dens es S η m).so fun vs m1 => match stores η is vs with
    | some η1 => .nx η1 m1
    | none => .bad
  | .mv i j, _, η, m => (match getS η j with
    | some (.new xs) => .nx ((η.set j (some (.dat (.list xs)))).set i (some (.dat (.list xs)))) m
    | some (.dat d) => .nx (η.set i (some (.dat d))) m
    | some (.ref c) => .nx (η.set i (some (.ref c))) m
    | _ => .bad)
  | .aug i op e, S, η, m => (match getS η i with
    | some (.dat (.int a)) => (den e S η m).so fun x m1 => match x with
      | .dat (.int b) => (match op with
        | .Add => .nx (η.set i (some (.dat (.int (a + b))))) m1
        | .Sub => .nx (η.set i (some (.dat (.int (a - b))))) m1
        | _ => .bad)
      | _ => .bad
    | _ => .bad)
  | .aug1 i a op e, S, η, m => if isOwn η i then (den a S η m).so fun k m1 => match itemAt1 η i k with
    | some (xs, j, x) => (den e S η m1).so fun y m2 => (match augI op y x with
      | some z => .nx (η.set i (some (.new (xs.set j (.int z))))) m2
      | none => .bad)
    | none => .bad else .bad
  | .aug2 i a c op e, S, η, m => if isOwn η i then (den a S η m).so fun k m1 => match rowAt η i k with
    | some (rows, q, xs) => (den c S η m1).so fun l m2 => (match itemOf xs l with
      | some (j, x) => (den e S η m2).so fun y m3 => (match augI op y x with
        | some z => .nx (η.set i (some (.new2 (rows.set q (xs.set j (.int z)))))) m3
        | none => .bad)
      | none => .bad)
    | none => .bad else .bad
  | .app i e, S, η, m => if lstS η m i then (den e S η m).so fun x m1 => match keep x with
    | some d => (match appTo η m1 i [d] with
      | some (η1, m2) => .nx η1 m2
      | none => .bad)
    | none => .bad else .bad
  | .ext i e, S, η, m => if lstS η m i then (den e S η m).so fun x m1 => match x with
    | .new ds => (match appTo η m1 i ds with
      | some (η1, m2) => .nx η1 m2
      | none => .bad)
    | _ => .bad else .bad
  | .rem i e, S, η, m => if lstS η m i then (den e S η m).so fun x m1 => match getS η i, x with
    | some (.new xs), .dat (.int k) => (match intsOf xs with
      | some ns => if k ∈ ns then .nx (η.set i (some (.new ((ns.erase k).map .int)))) m1 else .bad
      | none => .bad)
    | _, _ => .bad else .bad
  | .ex e, S, η, m => (den e S η m).so fun _ m1 => .nx η m1
  | .ret e, S, η, m => (den e S η m).so fun x m1 => match storeV x with
    | some v => .rt v m1
    | none => .bad
  | .retv i, _, η, m => (match getS η i with
    | some v => .rt v m
    | none => .bad)
  | .ifs c a b, S, η, m => (den c S η m).so fun x m1 => (Rs.opt m1 (boolV x)).so fun k m2 => if k then denSs a S η m2 else denSs b S η m2
  | .for_ t it body, S, η, m => (denI true it S η m).so fun ds m1 => forRun (fun d η m => match bindTg η d t with
      | some η1 => denSs body S η1 m
      | none => .bad) ds η m1
  | .whl c body, S, η, m => whlRun (fun η m => (den c S η m).bind fun x m1 => Rs.opt m1 (boolV x)) (fun η m => denSs body S η m) whlMost η m
  | .rais c, _, _, m => .ex c m
  | .frz i, _, η, m => (match getS η i with
    | some (.new xs) => .nx (η.set i (some (.dat (.list xs)))) m
    | some v => .nx η m
    | none => .bad)
  | .cel i, _, η, m => (match getS η i with
    | some (.new xs) => if noLsts xs then .nx (η.set i (some (.ref m.length))) (m ++ [.lst xs]) else .bad
    | _ => .bad)
  | .wip is, _, η, m => .nx (wipeS η is) m
  | .never, _, _, _ => .bad
def denSs : CSs → Fo → Sg → Mem → So
  | .nil, _, η, m => .nx η m
  | .cons a r, S, η, m => (denS a S η m).then fun η1 m1 => denSs r S η1 m1
end

/-! ### defs -/
structure CD where
  np : Nat
  ns : Nat
  body : CSs
def fin : So → Rs Vl
  | .nx _ m => .ok (.dat .none) m
  | .rt v m => .ok v m
  | .ex c m => .ex c m
  | .bad => .bad
def runD (S : Fo) (d : CD) (as : List Vl) (m : Mem) : Rs Vl := if as.length = d.np then fin (denSs d.body S (as.map some ++ List.replicate (d.ns - d.np) none) m) else .bad
def sem (tab : Nat → Option CD) : Nat → Fo
  | 0 => fun _ _ _ => .bad
  | k + 1 => fun f as m => match tab f with
    | none => .bad
    | some d => runD (sem tab k) d as m
end SS
/- SSB -/
set_option Elab.async false
set_option linter.all false
set_option maxRecDepth 100000
/-! The evaluator stands for the machine: worlds, how values lie in the heap. -/
namespace SS
open PySem PySem.Spec PyProof.Rows L2

/-- F: lists that no one changes; ρ: the memory's cells; ω: what a slot holds alone -/
structure Wd where
  F : Addr → Prop
  ρ : List Addr
  ω : Nat → Addr → Prop

/-- a tuple whose object is known, without a dict -/
def TupH (H : Hp) (a : Addr) (vs : List V) : Prop := ∃ o : Obj, H a = some (.frz o (.tup vs)) ∧ o.dict = none
theorem TupH.sq {K : PySem.W.Frag} {H : Hp} {a : Addr} {vs : List V} (h : TupH H a vs) : SqT K H a vs := by
  obtain ⟨o, h, _⟩ := h
  exact .inl (.inr ⟨o, h⟩)
mutual
def RD (F : Addr → Prop) (H : Hp) : PyData → V → Prop
  | .none, v => v = .non
  | .bool b, v => v = .bl b
  | .int i, v => v = .int i
  | .str s, v => v = .str s
  | .list ds, v => ∃ a vs, v = .ref a ∧ F a ∧ H a = some (.lst vs) ∧ RDs F H ds vs
  | .tuple ds, v => ∃ a vs, v = .ref a ∧ TupH H a vs ∧ RDs F H ds vs
  | .dict _, _ => False
def RDs (F : Addr → Prop) (H : Hp) : List PyData → List V → Prop
  | [], vs => vs = []
  | d :: ds, vs => ∃ v r, vs = v :: r ∧ RD F H d v ∧ RDs F H ds r
end

mutual
theorem RD.mono {F F' : Addr → Prop} {H H' : Hp} (hf : ∀ a, F a → F' a) (hl : ∀ a vs, F a → H a = some (.lst vs) → H' a = some (.lst vs)) (ht : ∀ a vs, TupH H a vs → TupH H' a vs) :
    ∀ (d : PyData) (v : V), RD F H d v → RD F' H' d v
  | .none, v, h => by simpa only [RD] using h
  | .bool b, v, h => by simpa only [RD] using h
  | .int i, v, h => by simpa only [RD] using h
  | .str s, v, h => by simpa only [RD] using h
  | .list ds, v, h => by
    simp only [RD] at h ⊢
    obtain ⟨a, vs, e, fa, ha, r⟩ := h
    exact ⟨a, vs, e, hf a fa, hl a vs fa ha, RDs.mono hf hl ht ds vs r⟩
  | .tuple ds, v, h => by
    simp only [RD] at h ⊢
    obtain ⟨a, vs, e, ha, r⟩ := h
    exact ⟨a, vs, e, ht a vs ha, RDs.mono hf hl ht ds vs r⟩
  | .dict _, v, h => by simpa only [RD] using h
theorem RDs.mono {F F' : Addr → Prop} {H H' : Hp} (hf : ∀ a, F a → F' a) (hl : ∀ a vs, F a → H a = some (.lst vs) → H' a = some (.lst vs)) (ht : ∀ a vs, TupH H a vs → TupH H' a vs) :
    ∀ (ds : List PyData) (vs : List V), RDs F H ds vs → RDs F' H' ds vs
  | [], vs, h => by simpa only [RDs] using h
  | d :: ds, vs, h => by
    simp only [RDs] at h ⊢
    obtain ⟨v, r, e, h1, h2⟩ := h
    exact ⟨v, r, e, RD.mono hf hl ht d v h1, RDs.mono hf hl ht ds r h2⟩
end

mutual
/-- data without lists lean on no F -/
theorem RD.noLst {F F' : Addr → Prop} {H : Hp} : ∀ (d : PyData) (v : V), SS.noLst d = true → RD F H d v → RD F' H d v
  | .none, v, _, h => by simpa only [RD] using h
  | .bool b, v, _, h => by simpa only [RD] using h
  | .int i, v, _, h => by simpa only [RD] using h
  | .str s, v, _, h => by simpa only [RD] using h
  | .list ds, v, n, h => by simp [SS.noLst] at n
  | .tuple ds, v, n, h => by
    simp only [RD] at h ⊢
    obtain ⟨a, vs, e, ha, r⟩ := h
    exact ⟨a, vs, e, ha, RDs.noLst ds vs (by simpa only [SS.noLst] using n) r⟩
  | .dict _, v, _, h => by simpa only [RD] using h
theorem RDs.noLst {F F' : Addr → Prop} {H : Hp} : ∀ (ds : List PyData) (vs : List V), SS.noLsts ds = true → RDs F H ds vs → RDs F' H ds vs
  | [], vs, _, h => by simpa only [RDs] using h
  | d :: ds, vs, n, h => by
    simp only [RDs] at h ⊢
    simp only [SS.noLsts, Bool.and_eq_true] at n
    obtain ⟨v, r, e, h1, h2⟩ := h
    exact ⟨v, r, e, RD.noLst d v n.1 h1, RDs.noLst ds r n.2 h2⟩
end

mutual
theorem RD.dp {F : Addr → Prop} {H : Hp} {K : PySem.W.Frag} : ∀ (d : PyData) (v : V), RD F H d v → Dp K H v d
  | .none, v, h => by simp only [RD] at h; subst h; exact .non
  | .bool b, v, h => by simp only [RD] at h; subst h; exact .bl b
  | .int i, v, h => by simp only [RD] at h; subst h; exact .int i
  | .str s, v, h => by simp only [RD] at h; subst h; exact .str s
  | .list ds, v, h => by
    simp only [RD] at h
    obtain ⟨a, vs, rfl, fa, ha, r⟩ := h
    exact .lst (SqL.of ha) (RDs.dp ds vs r)
  | .tuple ds, v, h => by
    simp only [RD] at h
    obtain ⟨a, vs, rfl, ha, r⟩ := h
    exact .tup ha.sq (RDs.dp ds vs r)
  | .dict _, v, h => by simp only [RD] at h
theorem RDs.dp {F : Addr → Prop} {H : Hp} {K : PySem.W.Frag} : ∀ (ds : List PyData) (vs : List V), RDs F H ds vs → DpAll K H vs ds
  | [], vs, h => by simp only [RDs] at h; subst h; exact .nil
  | d :: ds, vs, h => by
    simp only [RDs] at h
    obtain ⟨v, r, rfl, h1, h2⟩ := h
    exact .cons (RD.dp d v h1) (RDs.dp ds r h2)
end
section
variable {F : Addr → Prop} {H : Hp}
theorem RDs.len : ∀ {ds : List PyData} {vs : List V}, RDs F H ds vs → vs.length = ds.length
  | [], vs, h => by simp only [RDs] at h; subst h; rfl
  | d :: ds, vs, h => by
    simp only [RDs] at h
    obtain ⟨v, r, rfl, _, h2⟩ := h
    simp [RDs.len h2]
theorem RDs.get : ∀ {ds : List PyData} {vs : List V} {i : Nat} {d : PyData}, RDs F H ds vs → ds[i]? = some d → ∃ v, vs[i]? = some v ∧ RD F H d v
  | [], _, _, _, _, h => by simp at h
  | d :: ds, vs, 0, e, h, q => by
    simp only [RDs] at h
    obtain ⟨v, r, rfl, h1, _⟩ := h
    simp at q
    subst q
    exact ⟨v, rfl, h1⟩
  | d :: ds, vs, i + 1, e, h, q => by
    simp only [RDs] at h
    obtain ⟨v, r, rfl, _, h2⟩ := h
    simpa using RDs.get (i := i) h2 (by simpa using q)
theorem RDs.nil : RDs F H [] [] := by simp only [RDs]
theorem RDs.cons {d : PyData} {ds : List PyData} {v : V} {vs : List V} (h : RD F H d v) (r : RDs F H ds vs) : RDs F H (d :: ds) (v :: vs) := by
  simp only [RDs]
  exact ⟨v, vs, rfl, h, r⟩
theorem RDs.append : ∀ {ds es : List PyData} {vs us : List V}, RDs F H ds vs → RDs F H es us → RDs F H (ds ++ es) (vs ++ us)
  | [], es, vs, us, h, q => by simp only [RDs] at h; subst h; exact q
  | d :: ds, es, vs, us, h, q => by
    simp only [RDs] at h
    obtain ⟨v, r, rfl, h1, h2⟩ := h
    exact RDs.cons h1 (RDs.append h2 q)
theorem RDs.take : ∀ {ds : List PyData} {vs : List V} (n : Nat), RDs F H ds vs → RDs F H (ds.take n) (vs.take n)
  | _, _, 0, _ => by simp [RDs]
  | [], vs, n + 1, h => by simp only [RDs] at h; subst h; simp [RDs]
  | d :: ds, vs, n + 1, h => by
    simp only [RDs] at h
    obtain ⟨v, r, rfl, h1, h2⟩ := h
    exact RDs.cons h1 (RDs.take n h2)
theorem RDs.drop : ∀ {ds : List PyData} {vs : List V} (n : Nat), RDs F H ds vs → RDs F H (ds.drop n) (vs.drop n)
  | _, _, 0, h => h
  | [], vs, n + 1, h => by simp only [RDs] at h; subst h; simp [RDs]
  | d :: ds, vs, n + 1, h => by
    simp only [RDs] at h
    obtain ⟨v, r, rfl, h1, h2⟩ := h
    exact RDs.drop n h2
theorem RDs.reverse : ∀ {ds : List PyData} {vs : List V}, RDs F H ds vs → RDs F H ds.reverse vs.reverse
  | [], vs, h => by simp only [RDs] at h; subst h; exact RDs.nil
  | d :: ds, vs, h => by
    simp only [RDs] at h
    obtain ⟨v, r, rfl, h1, h2⟩ := h
    rw [List.reverse_cons, List.reverse_cons]
    exact RDs.append (RDs.reverse h2) (RDs.cons h1 RDs.nil)
theorem RDs.rep {ds : List PyData} {vs : List V} (h : RDs F H ds vs) : ∀ n : Nat, RDs F H (SS.rep n ds) (List.replicate n vs).flatten
  | 0 => RDs.nil
  | n + 1 => by
    unfold SS.rep
    rw [List.replicate_succ, List.replicate_succ, List.flatten_cons, List.flatten_cons]
    exact RDs.append h (RDs.rep h n)
theorem RDs.set : ∀ {ds : List PyData} {vs : List V} (i : Nat) {d : PyData} {v : V}, RDs F H ds vs → RD F H d v → RDs F H (ds.set i d) (vs.set i v)
  | [], vs, _, _, _, h, _ => by simp only [RDs] at h; subst h; exact RDs.nil
  | e :: ds, vs, 0, d, v, h, q => by
    simp only [RDs] at h
    obtain ⟨v, r, rfl, h1, h2⟩ := h
    exact RDs.cons q h2
  | e :: ds, vs, i + 1, d, v, h, q => by
    simp only [RDs] at h
    obtain ⟨v, r, rfl, h1, h2⟩ := h
    exact RDs.cons h1 (RDs.set i h2 q)
theorem RDs.ints : ∀ {ds : List PyData} {ns : List Int} {vs : List V}, intsOf ds = some ns → RDs F H ds vs → vs = ns.map V.int
  | [], ns, vs, e, h => by
    simp only [RDs] at h; subst h
    simp only [intsOf, Option.some.injEq] at e; subst e; rfl
  | .int i :: ds, ns, vs, e, h => by
    simp only [RDs, RD] at h
    obtain ⟨v, r, rfl, rfl, h2⟩ := h
    simp only [intsOf, Option.map_eq_some_iff] at e
    obtain ⟨ms, e1, rfl⟩ := e
    rw [RDs.ints e1 h2]; rfl
  | .none :: _, _, _, e, _ => by simp [intsOf] at e
  | .bool _ :: _, _, _, e, _ => by simp [intsOf] at e
  | .str _ :: _, _, _, e, _ => by simp [intsOf] at e
  | .list _ :: _, _, _, e, _ => by simp [intsOf] at e
  | .tuple _ :: _, _, _, e, _ => by simp [intsOf] at e
  | .dict _ :: _, _, _, e, _ => by simp [intsOf] at e
theorem RDs.ofInts : ∀ (ns : List Int), RDs F H (ns.map PyData.int) (ns.map V.int)
  | [] => RDs.nil
  | n :: ns => RDs.cons (by simp only [RD]) (RDs.ofInts ns)
theorem RDs.bools : ∀ {ds : List PyData} {ns : List Bool} {vs : List V}, boolsOf ds = some ns → RDs F H ds vs → vs = ns.map V.bl
  | [], ns, vs, e, h => by
    simp only [RDs] at h; subst h
    simp only [boolsOf, Option.some.injEq] at e; subst e; rfl
  | .bool i :: ds, ns, vs, e, h => by
    simp only [RDs, RD] at h
    obtain ⟨v, r, rfl, rfl, h2⟩ := h
    simp only [boolsOf, Option.map_eq_some_iff] at e
    obtain ⟨ms, e1, rfl⟩ := e
    rw [RDs.bools e1 h2]; rfl
  | .none :: _, _, _, e, _ => by simp [boolsOf] at e
  | .int _ :: _, _, _, e, _ => by simp [boolsOf] at e
  | .str _ :: _, _, _, e, _ => by simp [boolsOf] at e
  | .list _ :: _, _, _, e, _ => by simp [boolsOf] at e
  | .tuple _ :: _, _, _, e, _ => by simp [boolsOf] at e
  | .dict _ :: _, _, _, e, _ => by simp [boolsOf] at e
end

/-! ### worlds -/
structure Sep (w : Wd) (H : Hp) : Prop where
  fr : ∀ a, w.F a → a ∉ w.ρ
  fo : ∀ a i, w.F a → ¬ w.ω i a
  ro : ∀ a i, a ∈ w.ρ → ¬ w.ω i a
  oo : ∀ a i j, w.ω i a → w.ω j a → i = j
  rn : w.ρ.Nodup
  fh : ∀ a, w.F a → ∃ vs, H a = some (.lst vs)
  oh : ∀ a i, w.ω i a → ∃ vs, H a = some (.lst vs)
  rh : ∀ a, a ∈ w.ρ → ∃ o, H a = some o ∧ ∀ ob u, o ≠ .frz ob u

def CellR (F : Addr → Prop) (H : Hp) : Cell → Addr → Prop
  | .lst xs, a => noLsts xs = true ∧ ∃ vs, H a = some (.lst vs) ∧ RDs F H xs vs
  | .ins _, _ => False
def MR (w : Wd) (m : Mem) (H : Hp) : Prop := m.length = w.ρ.length ∧ ∀ (c : Nat) (cell : Cell) (a : Addr), m[c]? = some cell → w.ρ[c]? = some a → CellR w.F H cell a

/-- the script -/
def ScrR (K : PySem.W.Frag) (H : Hp) (a : Addr) (xs : List V) : Prop := (∃ o, H a = some (.frz o (.lst xs))) ∨ ∀ H', SqL K H' a xs
/-- rows: a list of lists -/
def RwR (F : Addr → Prop) (H : Hp) : List (List PyData) → List Addr → Prop
  | [], as => as = []
  | r :: rs, as => ∃ a as', as = a :: as' ∧ (∃ vs, H a = some (.lst vs) ∧ RDs F H r vs) ∧ RwR F H rs as'
def VR (K : PySem.W.Frag) (w : Wd) (H : Hp) : Vl → V → Prop
  | .dat d, v => RD w.F H d v
  | .ref c, v => ∃ a, v = .ref a ∧ w.ρ[c]? = some a
  | .new xs, v => ∃ a vs, v = .ref a ∧ H a = some (.lst vs) ∧ RDs w.F H xs vs ∧ ¬ w.F a ∧ a ∉ w.ρ ∧ ∀ i, ¬ w.ω i a
  | .bor xs, v => ∃ a vs, v = .ref a ∧ H a = some (.lst vs) ∧ RDs w.F H xs vs ∧ a ∉ w.ρ
  | .new2 rows, v => ∃ a as, v = .ref a ∧ H a = some (.lst (as.map V.ref)) ∧ RwR w.F H rows as ∧ (a :: as).Nodup ∧ ∀ b ∈ a :: as, ¬ w.F b ∧ b ∉ w.ρ ∧ ∀ i, ¬ w.ω i b
  | .bor2 rows, v => ∃ a as, v = .ref a ∧ H a = some (.lst (as.map V.ref)) ∧ RwR w.F H rows as ∧ ∀ b ∈ a :: as, b ∉ w.ρ
  | .scr ns, v => ∃ a, v = .ref a ∧ ScrR K H a (ns.map V.int)
/-- what a slot holds -/
def SlotR (K : PySem.W.Frag) (w : Wd) (H : Hp) (i : Nat) : Vl → V → Prop
  | .dat d, v => RD w.F H d v
  | .ref c, v => ∃ a, v = .ref a ∧ w.ρ[c]? = some a
  | .new xs, v => ∃ a vs, v = .ref a ∧ H a = some (.lst vs) ∧ RDs w.F H xs vs ∧ w.ω i a
  | .new2 rows, v => ∃ a as, v = .ref a ∧ H a = some (.lst (as.map V.ref)) ∧ RwR w.F H rows as ∧ (a :: as).Nodup ∧ ∀ b ∈ a :: as, w.ω i b
  | .scr ns, v => ∃ a, v = .ref a ∧ ScrR K H a (ns.map V.int)
  | .bor _, _ => False
  | .bor2 _, _ => False
def SR (K : PySem.W.Frag) (w : Wd) (H : Hp) (η : Sg) (σ : L2.St) : Prop := η.length = σ.length ∧ ∀ i v, getS η i = some v → ∃ u, σ[i]? = some (some u) ∧ SlotR K w H i v u
structure Rel (K : PySem.W.Frag) (w : Wd) (η : Sg) (m : Mem) (σ : L2.St) (H : Hp) : Prop where
  sep : Sep w H
  mem : MR w m H
  slo : SR K w H η σ

/-- behind an expression -/
structure ExtE (w : Wd) (H : Hp) (w' : Wd) (H' : Hp) : Prop where
  F : ∀ a, w.F a → w'.F a
  F' : ∀ a, w'.F a → w.F a ∨ H a = none
  ρ : ∃ r, w'.ρ = w.ρ ++ r ∧ ∀ a ∈ r, H a = none
  ω : w'.ω = w.ω
  fr : ∀ a o, H a = some o → a ∉ w.ρ → H' a = some o
  dm : ∀ a, H a ≠ none → H' a ≠ none
theorem ExtE.refl (w : Wd) (H : Hp) : ExtE w H w H := ⟨fun _ h => h, fun _ h => .inl h, ⟨[], by simp, by simp⟩, rfl, fun _ _ h _ => h, fun _ h => h⟩
theorem ExtE.mem {w w' : Wd} {H H' : Hp} (e : ExtE w H w' H') {a : Addr} (h : a ∈ w'.ρ) : a ∈ w.ρ ∨ H a = none := by
  obtain ⟨r, e1, e2⟩ := e.ρ
  rw [e1, List.mem_append] at h
  rcases h with h | h
  · exact .inl h
  · exact .inr (e2 a h)
theorem ExtE.trans {w w1 w2 : Wd} {H H1 H2 : Hp} (a : ExtE w H w1 H1) (b : ExtE w1 H1 w2 H2) : ExtE w H w2 H2 := by
  have nn : ∀ x, H1 x = none → H x = none := fun x h => by
    cases e : H x with
    | none => rfl
    | some o => exact absurd h (a.dm x (by rw [e]; simp))
  refine ⟨fun x h => b.F x (a.F x h), fun x h => ?_, ?_, b.ω.trans a.ω, fun x o h n => ?_, fun x h => b.dm x (a.dm x h)⟩
  · rcases b.F' x h with q | q
    · exact a.F' x q
    · exact .inr (nn x q)
  · obtain ⟨r, e1, e2⟩ := a.ρ
    obtain ⟨r', e3, e4⟩ := b.ρ
    refine ⟨r ++ r', by rw [e3, e1, List.append_assoc], fun x hx => ?_⟩
    rw [List.mem_append] at hx
    rcases hx with hx | hx
    · exact e2 x hx
    · exact nn x (e4 x hx)
  · refine b.fr x o (a.fr x o h n) fun q => ?_
    rcases a.mem q with q | q
    · exact n q
    · rw [h] at q; cases q
section
variable {K : PySem.W.Frag} {w w' : Wd} {H H' : Hp}
theorem Sep.frz_out (s : Sep w H) {a : Addr} {ob : Obj} {u : HO} (h : H a = some (.frz ob u)) : a ∉ w.ρ := fun q => by
  obtain ⟨o, e, n⟩ := s.rh a q
  rw [h] at e
  cases e
  exact n ob u rfl
theorem ExtE.tups (s : Sep w H) (e : ExtE w H w' H') : ∀ a vs, TupH H a vs → TupH H' a vs := fun a vs ⟨o, h, d⟩ => ⟨o, e.fr a _ h (s.frz_out h), d⟩
theorem ExtE.lsts (s : Sep w H) (e : ExtE w H w' H') : ∀ a vs, w.F a → H a = some (.lst vs) → H' a = some (.lst vs) := fun a vs f h => e.fr a _ h (s.fr a f)
theorem RD.ext {d : PyData} {v : V} (h : RD w.F H d v) (s : Sep w H) (e : ExtE w H w' H') : RD w'.F H' d v := RD.mono e.F (e.lsts s) (e.tups s) d v h
theorem RDs.ext {d : List PyData} {v : List V} (h : RDs w.F H d v) (s : Sep w H) (e : ExtE w H w' H') : RDs w'.F H' d v := RDs.mono e.F (e.lsts s) (e.tups s) d v h
theorem RwR.ext : ∀ {rows : List (List PyData)} {as : List Addr}, RwR w.F H rows as → Sep w H → ExtE w H w' H' → (∀ b ∈ as, b ∉ w.ρ) → RwR w'.F H' rows as
  | [], as, h, s, e, n => by simpa only [RwR] using h
  | r :: rs, as, h, s, e, n => by
    simp only [RwR] at h ⊢
    obtain ⟨a, as', rfl, ⟨vs, h1, h2⟩, h3⟩ := h
    exact ⟨a, as', rfl, ⟨vs, e.fr a _ h1 (n a (by simp)), h2.ext s e⟩, RwR.ext h3 s e fun b hb => n b (by simp [hb])⟩
theorem ExtE.out (e : ExtE w H w' H') {a : Addr} {o : HO} (h : H a = some o) (n : a ∉ w.ρ) : a ∉ w'.ρ := fun q => by
  rcases e.mem q with q | q
  · exact n q
  · rw [h] at q; cases q
theorem ExtE.nf (e : ExtE w H w' H') {a : Addr} {o : HO} (h : H a = some o) (n : ¬ w.F a) : ¬ w'.F a := fun q => by
  rcases e.F' a q with q | q
  · exact n q
  · rw [h] at q; cases q
theorem RwR.there : ∀ {rows : List (List PyData)} {as : List Addr} {F : Addr → Prop}, RwR F H rows as → ∀ b ∈ as, ∃ vs, H b = some (.lst vs)
  | [], as, F, h, b, hb => by simp only [RwR] at h; subst h; simp at hb
  | r :: rs, as, F, h, b, hb => by
    simp only [RwR] at h
    obtain ⟨a, as', rfl, ⟨vs, h1, h2⟩, h3⟩ := h
    simp only [List.mem_cons] at hb
    rcases hb with rfl | hb
    · exact ⟨vs, h1⟩
    · exact RwR.there h3 b hb
theorem ScrR.ext {a : Addr} {xs : List V} (h : ScrR K H a xs) (s : Sep w H) (e : ExtE w H w' H') : ScrR K H' a xs := by
  rcases h with ⟨o, h⟩ | h
  · exact .inl ⟨o, e.fr a _ h (s.frz_out h)⟩
  · exact .inr h
theorem ScrR.sq {a : Addr} {xs : List V} (h : ScrR K H a xs) : SqL K H a xs := by
  rcases h with ⟨o, h⟩ | h
  · exact .inl (.inr ⟨o, h⟩)
  · exact h H
theorem ref_ext (e : ExtE w H w' H') {c : Nat} {a : Addr} (h : w.ρ[c]? = some a) : w'.ρ[c]? = some a := by
  obtain ⟨r, e1, _⟩ := e.ρ
  rw [e1, List.getElem?_append_left (List.getElem?_eq_some_iff.mp h).1]
  exact h
theorem VR.ext {x : Vl} {v : V} (h : VR K w H x v) (s : Sep w H) (e : ExtE w H w' H') : VR K w' H' x v := by
  cases x with
  | dat d => exact RD.ext h s e
  | ref c =>
    obtain ⟨a, rfl, h⟩ := h
    exact ⟨a, rfl, ref_ext e h⟩
  | new xs =>
    obtain ⟨a, vs, rfl, h1, h2, h3, h4, h5⟩ := h
    exact ⟨a, vs, rfl, e.fr a _ h1 h4, h2.ext s e, e.nf h1 h3, e.out h1 h4, by rw [e.ω]; exact h5⟩
  | bor xs =>
    obtain ⟨a, vs, rfl, h1, h2, h4⟩ := h
    exact ⟨a, vs, rfl, e.fr a _ h1 h4, h2.ext s e, e.out h1 h4⟩
  | new2 rows =>
    obtain ⟨a, as, rfl, h1, h2, h3, h4⟩ := h
    have th : ∀ b ∈ a :: as, ∃ vs, H b = some (.lst vs) := fun b hb => by
      simp only [List.mem_cons] at hb
      rcases hb with rfl | hb
      · exact ⟨_, h1⟩
      · exact h2.there b hb
    refine ⟨a, as, rfl, e.fr a _ h1 (h4 a (by simp)).2.1, h2.ext s e fun b hb => (h4 b (by simp [hb])).2.1, h3, fun b hb => ?_⟩
    obtain ⟨vs, hv⟩ := th b hb
    exact ⟨e.nf hv (h4 b hb).1, e.out hv (h4 b hb).2.1, by rw [e.ω]; exact (h4 b hb).2.2⟩
  | bor2 rows =>
    obtain ⟨a, as, rfl, h1, h2, h4⟩ := h
    have th : ∀ b ∈ a :: as, ∃ vs, H b = some (.lst vs) := fun b hb => by
      simp only [List.mem_cons] at hb
      rcases hb with rfl | hb
      · exact ⟨_, h1⟩
      · exact h2.there b hb
    refine ⟨a, as, rfl, e.fr a _ h1 (h4 a (by simp)), h2.ext s e fun b hb => h4 b (by simp [hb]), fun b hb => ?_⟩
    obtain ⟨vs, hv⟩ := th b hb
    exact e.out hv (h4 b hb)
  | scr ns =>
    obtain ⟨a, rfl, h⟩ := h
    exact ⟨a, rfl, h.ext s e⟩
theorem SlotR.ext {i : Nat} {x : Vl} {v : V} (h : SlotR K w H i x v) (s : Sep w H) (e : ExtE w H w' H') : SlotR K w' H' i x v := by
  cases x with
  | dat d => exact RD.ext h s e
  | ref c =>
    obtain ⟨a, rfl, h⟩ := h
    exact ⟨a, rfl, ref_ext e h⟩
  | new xs =>
    obtain ⟨a, vs, rfl, h1, h2, h3⟩ := h
    exact ⟨a, vs, rfl, e.fr a _ h1 fun q => s.ro a i q h3, h2.ext s e, by rw [e.ω]; exact h3⟩
  | bor xs => exact h.elim
  | new2 rows =>
    obtain ⟨a, as, rfl, h1, h2, h3, h4⟩ := h
    exact ⟨a, as, rfl, e.fr a _ h1 fun q => s.ro a i q (h4 a (by simp)), h2.ext s e fun b hb q => s.ro b i q (h4 b (by simp [hb])), h3, fun b hb => by rw [e.ω]; exact h4 b hb⟩
  | bor2 rows => exact h.elim
  | scr ns =>
    obtain ⟨a, rfl, h⟩ := h
    exact ⟨a, rfl, h.ext s e⟩
/-- a slot, read -/
theorem SlotR.read {i : Nat} {x : Vl} {v : V} (h : SlotR K w H i x v) (s : Sep w H) : VR K w H (rdV x) v := by
  cases x with
  | dat d => exact h
  | ref c => exact h
  | new xs =>
    obtain ⟨a, vs, rfl, h1, h2, h3⟩ := h
    exact ⟨a, vs, rfl, h1, h2, fun q => s.ro a i q h3⟩
  | bor xs => exact h.elim
  | new2 rows =>
    obtain ⟨a, as, rfl, h1, h2, h3, h4⟩ := h
    exact ⟨a, as, rfl, h1, h2, fun b hb q => s.ro b i q (h4 b hb)⟩
  | bor2 rows => exact h.elim
  | scr ns => exact h
theorem SR.ext {η : Sg} {σ : L2.St} (h : SR K w H η σ) (s : Sep w H) (e : ExtE w H w' H') : SR K w' H' η σ := ⟨h.1, fun i v q => by
  obtain ⟨u, h1, h2⟩ := h.2 i v q
  exact ⟨u, h1, h2.ext s e⟩⟩
/-- the cells are as they were -/
theorem MR.ext {m : Mem} (h : MR w m H) (s : Sep w H) (e : ExtE w H w' H') (hρ : w'.ρ = w.ρ) (hk : ∀ a ∈ w.ρ, H' a = H a) : MR w' m H' := by
  refine ⟨by rw [hρ]; exact h.1, fun c cell a h1 h2 => ?_⟩
  rw [hρ] at h2
  have q := h.2 c cell a h1 h2
  cases cell with
  | lst xs =>
    obtain ⟨n, vs, q1, q2⟩ := q
    exact ⟨n, vs, by rw [hk a (List.mem_of_getElem? h2)]; exact q1, q2.ext s e⟩
  | ins fs => exact q.elim
/-- a new object, not tracked by anyone -/
theorem ext_new {p : Addr} {o : HO} (s : Sep w H) (np : H p = none) : ExtE w H w (upd H p o) := by
  refine ⟨fun _ h => h, fun _ h => .inl h, ⟨[], by simp, by simp⟩, rfl, fun a o' h _ => ?_, fun a h => ?_⟩
  · rw [upd_ne (ne_of_none h np)]; exact h
  · by_cases q : a = p
    · subst q; rw [upd_same]; simp
    · rw [upd_ne q]; exact h
theorem Sep.new {p : Addr} {o : HO} (s : Sep w H) (np : H p = none) : Sep w (upd H p o) := by
  have k : ∀ a u, H a = some u → upd H p o a = some u := fun a u h => by rw [upd_ne (ne_of_none h np)]; exact h
  refine ⟨s.fr, s.fo, s.ro, s.oo, s.rn, fun a h => ?_, fun a i h => ?_, fun a h => ?_⟩
  · obtain ⟨vs, q⟩ := s.fh a h
    exact ⟨vs, k a _ q⟩
  · obtain ⟨vs, q⟩ := s.oh a i h
    exact ⟨vs, k a _ q⟩
  · obtain ⟨u, q, z⟩ := s.rh a h
    exact ⟨u, k a _ q, z⟩
theorem Rel.new {η : Sg} {m : Mem} {σ : L2.St} {p : Addr} {o : HO} (r : Rel K w η m σ H) (np : H p = none) : Rel K w η m σ (upd H p o) :=
  ⟨r.sep.new np, r.mem.ext r.sep (ext_new r.sep np) rfl fun a h => by
    obtain ⟨u, q, _⟩ := r.sep.rh a h
    rw [upd_ne (ne_of_none q np)], r.slo.ext r.sep (ext_new r.sep np)⟩
/-- a list that no one else holds is handed over to all -/
def Wd.froze (w : Wd) (a : Addr) : Wd := { w with F := fun b => w.F b ∨ b = a }
theorem RD.froze {a : Addr} {d : PyData} {v : V} (h : RD w.F H d v) : RD (w.froze a).F H d v := RD.mono (fun _ h => .inl h) (fun _ _ _ h => h) (fun _ _ h => h) d v h
theorem RDs.froze {a : Addr} {d : List PyData} {v : List V} (h : RDs w.F H d v) : RDs (w.froze a).F H d v := RDs.mono (fun _ h => .inl h) (fun _ _ _ h => h) (fun _ _ h => h) d v h
theorem RwR.froze : ∀ {rows : List (List PyData)} {as : List Addr} {a : Addr}, RwR w.F H rows as → RwR (w.froze a).F H rows as
  | [], as, a, h => by simpa only [RwR] using h
  | r :: rs, as, b, h => by
    simp only [RwR] at h ⊢
    obtain ⟨a, as', rfl, ⟨vs, h1, h2⟩, h3⟩ := h
    exact ⟨a, as', rfl, ⟨vs, h1, h2.froze⟩, RwR.froze h3⟩
theorem Sep.froze {a : Addr} {vs : List V} (s : Sep w H) (h : H a = some (.lst vs)) (n : a ∉ w.ρ) (no : ∀ i, ¬ w.ω i a) : Sep (w.froze a) H := by
  refine ⟨fun b q => ?_, fun b i q => ?_, s.ro, s.oo, s.rn, fun b q => ?_, s.oh, s.rh⟩
  · rcases q with q | rfl
    · exact s.fr b q
    · exact n
  · rcases q with q | rfl
    · exact s.fo b i q
    · exact no i
  · rcases q with q | rfl
    · exact s.fh b q
    · exact ⟨vs, h⟩
theorem SlotR.froze {a : Addr} {i : Nat} {x : Vl} {v : V} (h : SlotR K w H i x v) : SlotR K (w.froze a) H i x v := by
  cases x with
  | dat d => exact RD.froze h
  | ref c => exact h
  | new xs =>
    obtain ⟨a, vs, rfl, h1, h2, h3⟩ := h
    exact ⟨a, vs, rfl, h1, h2.froze, h3⟩
  | bor xs => exact h.elim
  | new2 rows =>
    obtain ⟨a, as, rfl, h1, h2, h3, h4⟩ := h
    exact ⟨a, as, rfl, h1, h2.froze, h3, h4⟩
  | bor2 rows => exact h.elim
  | scr ns => exact h
theorem MR.froze {a : Addr} {m : Mem} (h : MR w m H) : MR (w.froze a) m H := ⟨h.1, fun c cell b h1 h2 => by
  have q := h.2 c cell b h1 h2
  cases cell with
  | lst xs =>
    obtain ⟨n, vs, q1, q2⟩ := q
    exact ⟨n, vs, q1, q2.froze⟩
  | ins fs => exact q.elim⟩
theorem Rel.froze {η : Sg} {m : Mem} {σ : L2.St} {a : Addr} {vs : List V} (r : Rel K w η m σ H) (h : H a = some (.lst vs)) (n : a ∉ w.ρ) (no : ∀ i, ¬ w.ω i a) : Rel K (w.froze a) η m σ H :=
  ⟨r.sep.froze h n no, r.mem.froze, r.slo.1, fun i v q => by
    obtain ⟨u, h1, h2⟩ := r.slo.2 i v q
    exact ⟨u, h1, h2.froze⟩⟩
end
end SS
/- SSC -/
set_option Elab.async false
set_option linter.all false
set_option maxRecDepth 100000
/-! Expressions: the evaluator's answers are the machine's. -/
namespace SS
open PySem PySem.Spec PyProof.Rows L2

/-- new objects are new since H -/
def FrV (H H' : Hp) : Vl → V → Prop
  | .new _, v => ∀ a, v = .ref a → H a = none
  | .new2 _, v => ∀ a as, v = .ref a → H' a = some (.lst (as.map V.ref)) → ∀ b ∈ a :: as, H b = none
  | _, _ => True
abbrev VF (K : PySem.W.Frag) (H : Hp) (w' : Wd) (H' : Hp) (x : Vl) (v : V) : Prop := VR K w' H' x v ∧ FrV H H' x v
def AnsE (K : PySem.W.Frag) (W : XK) (w : Wd) (η : Sg) (σ : L2.St) (H : Hp) {α β : Type} (R : Wd → Hp → α → β → Prop) (r : Rs α) (Q : β → Hp → Prop) : Prop := match r with
  | .ok a m' => ∀ w' b H', ExtE w H w' H' → Rel K w' η m' σ H' → R w' H' a b → Q b H'
  | .ex c m' => ∀ w' H', ExtE w H w' H' → Rel K w' η m' σ H' → W (.ref (He.ga K c)) none H'
  | .bad => False
/-- the reading of an evaluator's function -/
def rdE (K : PySem.W.Frag) (W : XK) (f : Sg → Mem → Rs Vl) : TE := fun σ H Q => ∃ w η m, Rel K w η m σ H ∧ AnsE K W w η σ H (VF K H) (f η m) Q
theorem PE.imp {X : Cx} {e : Expr} {t t' : TE} (h : PE X e t) (k : ∀ σ H Q, t' σ H Q → t σ H Q) : PE X e t' := ⟨fun pins s σ H Q I q => h.run pins s σ H Q I (k σ H Q q)⟩

section
variable {K : PySem.W.Frag} {W : XK} {w w1 : Wd} {η : Sg} {σ : L2.St} {H H1 : Hp} {m1 : Mem} {α β γ δ : Type} {R : Wd → Hp → β → δ → Prop} {Q : δ → Hp → Prop}
theorem FrV.back {H2 : Hp} {x : Vl} {v : V} (e : ExtE w H w1 H1) (h : FrV H1 H2 x v) : FrV H H2 x v := by
  have nn : ∀ x, H1 x = none → H x = none := fun x h => by
    cases q : H x with
    | none => rfl
    | some o => exact absurd h (e.dm x (by rw [q]; simp))
  cases x with
  | new xs => exact fun a ha => nn a (h a ha)
  | new2 rows => exact fun a as ha hh b hb => nn b (h a as ha hh b hb)
  | _ => trivial
theorem FrV.on {H2 : Hp} {w2 : Wd} {x : Vl} {v : V} (vr : VR K w1 H1 x v) (e : ExtE w1 H1 w2 H2) (h : FrV H H1 x v) : FrV H H2 x v := by
  cases x with
  | new xs => exact h
  | new2 rows =>
    obtain ⟨a, as, rfl, h1, h2, h3, h4⟩ := vr
    intro a' as' ha hh b hb
    cases ha
    have q := e.fr a _ h1 (h4 a (by simp)).2.1
    rw [q] at hh
    have z : as = as' := by
      have z1 : as.map V.ref = as'.map V.ref := by
        injection hh with hh
        injection hh
      exact (List.map_inj_right (fun x y z => by injection z)).mp z1
    subst z
    exact h a as rfl h1 b hb
  | _ => trivial
/-- one expression, then another -/
theorem rd_bind {f : Sg → Mem → Rs Vl} {g : Vl → Mem → Rs β} {Qc : VK} (e : ExtE w H w1 H1) (rel : Rel K w1 η m1 σ H1) (hA : AnsE K W w η σ H R ((f η m1).bind g) Q)
    (k : ∀ x m2 w2 v H2, ExtE w1 H1 w2 H2 → Rel K w2 η m2 σ H2 → VR K w2 H2 x v → FrV H1 H2 x v → AnsE K W w η σ H R (g x m2) Q → Qc v H2) : rdE K W f σ H1 Qc := by
  refine ⟨w1, η, m1, rel, ?_⟩
  cases h : f η m1 with
  | ok x m2 =>
    rw [h] at hA
    exact fun w2 v H2 e2 rel2 vr => k x m2 w2 v H2 e2 rel2 vr.1 vr.2 hA
  | ex c m2 =>
    rw [h] at hA
    exact fun w2 H2 e2 rel2 => hA w2 H2 (e.trans e2) rel2
  | bad =>
    rw [h] at hA
    exact hA.elim
theorem ans_opt {o : Option α} {g : α → Mem → Rs β} (hA : AnsE K W w η σ H R ((Rs.opt m1 o).bind g) Q) : ∃ a, o = some a ∧ AnsE K W w η σ H R (g a m1) Q := by
  cases o with
  | none => exact hA.elim
  | some a => exact ⟨a, rfl, hA⟩
theorem ans_opt' {o : Option β} (hA : AnsE K W w η σ H R (Rs.opt m1 o) Q) : ∃ a, o = some a ∧ AnsE K W w η σ H R (.ok a m1) Q := by
  cases o with
  | none => exact hA.elim
  | some a => exact ⟨a, rfl, hA⟩
theorem ans_if {c : Prop} [Decidable c] {r : Rs β} (hA : AnsE K W w η σ H R (if c then r else .bad) Q) : c ∧ AnsE K W w η σ H R r Q := by
  by_cases h : c
  · rw [if_pos h] at hA; exact ⟨h, hA⟩
  · rw [if_neg h] at hA; exact hA.elim
end

/-! ### what a value is in the heap -/
section
variable {K : PySem.W.Frag} {w : Wd} {η : Sg} {m : Mem} {σ : L2.St} {H : Hp}
theorem MR.cell (h : MR w m H) {c : Nat} {xs : List PyData} {a : Addr} (h1 : m[c]? = some (.lst xs)) (h2 : w.ρ[c]? = some a) : noLsts xs = true ∧ ∃ vs, H a = some (.lst vs) ∧ RDs w.F H xs vs := h.2 c (.lst xs) a h1 h2
theorem listOf_R (r : Rel K w η m σ H) {x : Vl} {v : V} {xs : List PyData} (vr : VR K w H x v) (h : listOf m x = some xs) : ∃ a vs, v = .ref a ∧ H a = some (.lst vs) ∧ RDs w.F H xs vs := by
  cases x with
  | dat d =>
    cases d with
    | list ys =>
      simp only [listOf, Option.some.injEq] at h; subst h
      simp only [VR, RD] at vr
      obtain ⟨a, vs, h1, h2, h3, h4⟩ := vr
      exact ⟨a, vs, h1, h3, h4⟩
    | _ => simp [listOf] at h
  | new ys =>
    simp only [listOf, Option.some.injEq] at h; subst h
    obtain ⟨a, vs, h1, h2, h3, _⟩ := vr
    exact ⟨a, vs, h1, h2, h3⟩
  | bor ys =>
    simp only [listOf, Option.some.injEq] at h; subst h
    obtain ⟨a, vs, h1, h2, h3, _⟩ := vr
    exact ⟨a, vs, h1, h2, h3⟩
  | ref c =>
    simp only [listOf] at h
    split at h
    · rename_i ys hc
      cases h
      obtain ⟨a, rfl, h2⟩ := vr
      obtain ⟨_, vs, h3, h4⟩ := r.mem.cell hc h2
      exact ⟨a, vs, rfl, h3, h4⟩
    · cases h
  | _ => simp [listOf] at h
theorem itemsOf_R (r : Rel K w η m σ H) {x : Vl} {v : V} {xs : List PyData} (vr : VR K w H x v) (h : itemsOf m x = some xs) : ∃ a vs, v = .ref a ∧ (H a = some (.lst vs) ∨ TupH H a vs) ∧ RDs w.F H xs vs := by
  have lst : listOf m x = some xs → ∃ a vs, v = .ref a ∧ (H a = some (.lst vs) ∨ TupH H a vs) ∧ RDs w.F H xs vs := fun h => by
    obtain ⟨a, vs, h1, h2, h3⟩ := listOf_R r vr h
    exact ⟨a, vs, h1, .inl h2, h3⟩
  cases x with
  | dat d =>
    cases d with
    | tuple ys =>
      simp only [itemsOf, Option.some.injEq] at h; subst h
      simp only [VR, RD] at vr
      obtain ⟨a, vs, h1, h3, h4⟩ := vr
      exact ⟨a, vs, h1, .inr h3, h4⟩
    | list ys => exact lst h
    | _ => simp [itemsOf] at h
  | new ys => exact lst h
  | bor ys => exact lst h
  | ref c => exact lst h
  | _ => simp [itemsOf] at h
theorem toPy_R (r : Rel K w η m σ H) {x : Vl} {v : V} {d : PyData} (vr : VR K w H x v) (h : toPy m x = some d) : Dp K H v d := by
  have lst : ∀ xs, d = .list xs → listOf m x = some xs → Dp K H v d := fun xs e h => by
    obtain ⟨a, vs, rfl, h2, h3⟩ := listOf_R r vr h
    subst e
    exact .lst (SqL.of h2) (RDs.dp _ _ h3)
  cases x with
  | dat d' =>
    simp only [toPy, Option.some.injEq] at h; subst h
    exact RD.dp _ _ vr
  | new ys => simp only [toPy, Option.some.injEq] at h; exact lst ys h.symm rfl
  | bor ys => simp only [toPy, Option.some.injEq] at h; exact lst ys h.symm rfl
  | ref c =>
    simp only [toPy] at h
    split at h
    · rename_i ys hc
      cases h
      exact lst ys rfl (by simp only [listOf, hc])
    · cases h
  | scr ns =>
    simp only [toPy, Option.some.injEq] at h; subst h
    obtain ⟨a, rfl, h⟩ := vr
    exact .lst h.sq (RDs.dp (F := fun _ => True) (H := H) _ _ (RDs.ofInts ns))
  | _ => simp [toPy] at h
/-- held by others -/
theorem keep_R {x : Vl} {v : V} {d : PyData} {H0 : Hp} (r : Rel K w η m σ H) (vr : VR K w H x v) (fv : FrV H0 H x v) (h : keep x = some d) :
    (RD w.F H d v ∧ ∃ d', x = .dat d') ∨ ∃ a vs xs, x = .new xs ∧ d = .list xs ∧ v = .ref a ∧ H a = some (.lst vs) ∧ RDs w.F H xs vs ∧ ¬ w.F a ∧ a ∉ w.ρ ∧ (∀ i, ¬ w.ω i a) ∧ H0 a = none := by
  cases x with
  | dat d' => simp only [keep, Option.some.injEq] at h; subst h; exact .inl ⟨vr, _, rfl⟩
  | new xs =>
    simp only [keep, Option.some.injEq] at h; subst h
    obtain ⟨a, vs, h1, h2, h3, h4, h5, h6⟩ := vr
    exact .inr ⟨a, vs, xs, rfl, rfl, h1, h2, h3, h4, h5, h6, fv a h1⟩
  | _ => simp [keep] at h
theorem line_fits {n : Nat} (h : fits n = true) : n ≤ sizeLine := by
  have q : n ≤ 16000000 := of_decide_eq_true h
  exact Nat.le_trans q (by decide)
theorem line_fits_lt {n : Nat} (h : fits n = true) : n < sizeLine := by
  have q : n ≤ 16000000 := of_decide_eq_true h
  exact Nat.lt_of_le_of_lt q (by decide)
end

/-! ### judgements -/
/-- the machine's expression e does what the evaluator's f says -/
abbrev SE (X : Cx) (W : XK) (e : Expr) (f : Sg → Mem → Rs Vl) : Prop := PE X e (rdE X.K W f)
section
variable {X : Cx} {W : XK}
theorem se_const {e : Expr} {v : V} {d : PyData} (h : PE X e (tC v)) (hd : ∀ F H, RD F H d v) : SE X W e (fun _ m => .ok (.dat d) m) :=
  PE.imp h fun σ H Q ⟨w, η, m, rel, hA⟩ => hA w v H (ExtE.refl w H) rel ⟨hd w.F H, trivial⟩
theorem se_int {i j pos} : SE X W (.Constant (.int i) j pos) (fun _ m => .ok (.dat (.int i)) m) := se_const pe_int fun _ _ => by simp only [RD]
theorem se_bl {b j pos} : SE X W (.Constant (.bool b) j pos) (fun _ m => .ok (.dat (.bool b)) m) := se_const pe_bl fun _ _ => by simp only [RD]
theorem se_non {j pos} : SE X W (.Constant .none j pos) (fun _ m => .ok (.dat .none) m) := se_const pe_non fun _ _ => by simp only [RD]
theorem se_str {x j pos} : SE X W (.Constant (.str x) j pos) (fun _ m => .ok (.dat (.str x)) m) := se_const pe_str fun _ _ => by simp only [RD]
theorem se_var {i : Nat} {x : Str} {pos : Pos} (hN : X.N[i]? = some x) (hv : Vis X.env.scope x) (hd : (x == ("__debug__" : Str)) = false) (hcd : (x == ("__classdict__" : Str)) = false) :
    SE X W (.Name x pos) (fun η m => Rs.opt m ((getS η i).map rdV)) := by
  refine PE.imp (pe_var hN hv hd hcd) fun σ H Q ⟨w, η, m, rel, hA⟩ => ?_
  obtain ⟨v, e, hA⟩ := ans_opt' hA
  obtain ⟨u, h1, rfl⟩ := Option.map_eq_some_iff.mp e
  obtain ⟨z, h2, h3⟩ := rel.slo.2 i u h1
  refine ⟨z, h2, hA w z H (ExtE.refl w H) rel ⟨h3.read rel.sep, ?_⟩⟩
  cases u <;> trivial
theorem se_gint {x : Str} {i : Int} {pos : Pos} (hg : Gl X x) (hm : ∃ t, X.mg x = some (.int i t)) (hd : (x == ("__debug__" : Str)) = false) : SE X W (.Name x pos) (fun _ m => .ok (.dat (.int i)) m) := by
  obtain ⟨t, hm⟩ := hm
  exact se_const (pe_glob (v := .int i) hg hm ⟨t, rfl⟩ hd) fun _ _ => by simp only [RD]
theorem se_gstr {x s : Str} {pos : Pos} (hg : Gl X x) (hm : ∃ t, X.mg x = some (.str s t)) (hd : (x == ("__debug__" : Str)) = false) : SE X W (.Name x pos) (fun _ m => .ok (.dat (.str s)) m) := by
  obtain ⟨t, hm⟩ := hm
  exact se_const (pe_glob (v := .str s) hg hm ⟨t, rfl⟩ hd) fun _ _ => by simp only [RD]
end
end SS
/- SSD -/
set_option Elab.async false
set_option linter.all false
set_option maxRecDepth 100000
/-! Operators. -/
namespace SS
open PySem PySem.Spec PyProof.Rows L2
/-- an operation of two values, by the evaluator's function -/
def rOp (K : PySem.W.Frag) (g : Mem → Vl → Vl → Option Vl) : R2 := fun u v H Q => ∃ w η m σ x y z, Rel K w η m σ H ∧ VR K w H x u ∧ VR K w H y v ∧ g m x y = some z ∧
  ∀ w' v' H', ExtE w H w' H' → Rel K w' η m σ H' → VF K H w' H' z v' → Q v' H'
def rUn (K : PySem.W.Frag) (g : Mem → Vl → Option Vl) : V → Hp → VK → Prop := fun u H Q => ∃ w η m σ x z, Rel K w η m σ H ∧ VR K w H x u ∧ g m x = some z ∧
  ∀ w' v' H', ExtE w H w' H' → Rel K w' η m σ H' → VF K H w' H' z v' → Q v' H'
section
variable {K : PySem.W.Frag} {w : Wd} {η : Sg} {m : Mem} {σ : L2.St} {H : Hp}
theorem Rel.out_new (r : Rel K w η m σ H) {p : Addr} (np : H p = none) : ¬ w.F p ∧ p ∉ w.ρ ∧ ∀ i, ¬ w.ω i p := by
  refine ⟨fun q => ?_, fun q => ?_, fun i q => ?_⟩
  · obtain ⟨_, e⟩ := r.sep.fh p q
    rw [np] at e; cases e
  · obtain ⟨_, e, _⟩ := r.sep.rh p q
    rw [np] at e; cases e
  · obtain ⟨_, e⟩ := r.sep.oh p i q
    rw [np] at e; cases e
theorem new_lst (r : Rel K w η m σ H) {p : Addr} (np : H p = none) {xs : List PyData} {vs : List V} (h : RDs w.F H xs vs) : VF K H w (upd H p (.lst vs)) (.new xs) (.ref p) :=
  ⟨⟨p, vs, rfl, upd_same, h.ext r.sep (ext_new r.sep np), (r.out_new np).1, (r.out_new np).2.1, (r.out_new np).2.2⟩, fun a e => by cases e; exact np⟩
theorem new_tup (r : Rel K w η m σ H) {p : Addr} (np : H p = none) {xs : List PyData} {vs : List V} (h : RDs w.F H xs vs) {o : Obj} (hd : o.dict = none) : VF K H w (upd H p (.frz o (.tup vs))) (.dat (.tuple xs)) (.ref p) := by
  refine ⟨?_, trivial⟩
  simp only [VR, RD]
  exact ⟨p, vs, rfl, ⟨o, upd_same, hd⟩, h.ext r.sep (ext_new r.sep np)⟩
/-- the end at the same heap -/
theorem end_same {z : Vl} {v : V} {Q : VK} (r : Rel K w η m σ H) (k : ∀ w' v' H', ExtE w H w' H' → Rel K w' η m σ H' → VF K H w' H' z v' → Q v' H') (h : VR K w H z v) (f : FrV H H z v) : Q v H := k w v H (ExtE.refl w H) r ⟨h, f⟩
theorem end_lst {xs : List PyData} {vs : List V} {Q : VK} (r : Rel K w η m σ H) (k : ∀ w' v' H', ExtE w H w' H' → Rel K w' η m σ H' → VF K H w' H' (.new xs) v' → Q v' H') (h : RDs w.F H xs vs) : ∀ p, H p = none → Q (.ref p) (upd H p (.lst vs)) :=
  fun p np => k w _ _ (ext_new r.sep np) (r.new np) (new_lst r np h)
theorem end_tup {xs : List PyData} {vs : List V} {Q : VK} (r : Rel K w η m σ H) (k : ∀ w' v' H', ExtE w H w' H' → Rel K w' η m σ H' → VF K H w' H' (.dat (.tuple xs)) v' → Q v' H') (h : RDs w.F H xs vs) : ∀ (p : Addr) (o : Obj), H p = none → o.dict = none → Q (.ref p) (upd H p (.frz o (.tup vs))) :=
  fun p o np hd => k w _ _ (ext_new r.sep np) (r.new np) (new_tup r np h hd)
theorem VR.tuple {xs : List PyData} {v : V} (h : VR K w H (.dat (.tuple xs)) v) : ∃ a vs, v = .ref a ∧ TupH H a vs ∧ RDs w.F H xs vs := by simpa only [VR, RD] using h
theorem VR.int {i : Int} {v : V} (h : VR K w H (.dat (.int i)) v) : v = .int i := by simpa only [VR, RD] using h
theorem VR.bool {i : Bool} {v : V} (h : VR K w H (.dat (.bool i)) v) : v = .bl i := by simpa only [VR, RD] using h
theorem VR.str {i : Str} {v : V} (h : VR K w H (.dat (.str i)) v) : v = .str i := by simpa only [VR, RD] using h
theorem VR.none {v : V} (h : VR K w H (.dat .none) v) : v = .non := by simpa only [VR, RD] using h
theorem VR.ofInt {i : Int} : VR K w H (.dat (.int i)) (.int i) := by simp only [VR, RD]
theorem VR.ofBool {i : Bool} : VR K w H (.dat (.bool i)) (.bl i) := by simp only [VR, RD]
theorem VR.ofStr {i : Str} : VR K w H (.dat (.str i)) (.str i) := by simp only [VR, RD]
theorem VR.ofNone : VR K w H (.dat .none) .non := by simp only [VR, RD]
end
theorem small64_ok {i j : Int} (h : (small64 i || small64 j) = true) : CMul i j := by
  unfold small64 at h
  simp only [Bool.or_eq_true, Bool.and_eq_true, decide_eq_true_eq] at h
  exact h
/-- a tuple (tp) or a list -/
def SqK (K : PySem.W.Frag) (tp : Bool) (H : Hp) (a : Addr) (xs : List V) : Prop := if tp = true then SqT K H a xs else SqL K H a xs
def IteG (K : PySem.W.Frag) (tp : Bool) (a : Addr) : It :=
  ⟨fun i H => ∃ (xs : List V) (x : V), SqK K tp H a xs ∧ xs[i]? = some x, fun i H v H' => ∃ T x, v = .ref T ∧ H T = none ∧ H' = upd H T (.tup [.int (i : Nat), x]) ∧ ∀ xs, SqK K tp H a xs → xs[i]? = some x, fun i H => ∃ xs : List V, SqK K tp H a xs ∧ xs.length = i⟩
def ItzG (K : PySem.W.Frag) (tp tq : Bool) (a b : Addr) : It :=
  ⟨fun i H => ∃ (xs ys : List V) (x y : V), SqK K tp H a xs ∧ SqK K tq H b ys ∧ xs[i]? = some x ∧ ys[i]? = some y,
    fun i H v H' => ∃ T x y, v = .ref T ∧ H T = none ∧ H' = upd H T (.tup [x, y]) ∧ (∀ xs, SqK K tp H a xs → xs[i]? = some x) ∧ ∀ ys, SqK K tq H b ys → ys[i]? = some y,
    fun i H => ∃ xs ys : List V, SqK K tp H a xs ∧ SqK K tq H b ys ∧ min xs.length ys.length = i⟩
/-- the pair is kept by a name -/
def ItzF (K : PySem.W.Frag) (tp tq : Bool) (a b : Addr) : It :=
  ⟨fun i H => ∃ (xs ys : List V) (x y : V), SqK K tp H a xs ∧ SqK K tq H b ys ∧ xs[i]? = some x ∧ ys[i]? = some y,
    fun i H v H' => ∃ (T : Addr) (o : Obj) (x y : V), v = .ref T ∧ H T = none ∧ o.dict = none ∧ H' = upd H T (.frz o (.tup [x, y])) ∧ (∀ xs, SqK K tp H a xs → xs[i]? = some x) ∧ ∀ ys, SqK K tq H b ys → ys[i]? = some y,
    fun i H => ∃ xs ys : List V, SqK K tp H a xs ∧ SqK K tq H b ys ∧ min xs.length ys.length = i⟩
def isStarB : Expr → Bool
  | .Starred _ _ => true
  | _ => false
def isTupE : Expr → Bool
  | .Tuple _ _ _ => true
  | _ => false
def isNameE : Expr → Bool
  | .Name _ _ => true
  | _ => false
section
variable {X : Cx}
/-- further rules of the machine (see SSG) -/
structure Gaps (X : Cx) : Prop where
  repT : OpR X (binaryOp .Mult) (fun x y H Q => ∃ l k xs, x = .ref l ∧ y = .int k ∧ TupH H l xs ∧ -1000 ≤ k ∧ k ≤ 1000 ∧ xs.length ≤ 1000 ∧ ((List.replicate k.toNat xs).flatten = xs → Q (.ref l) H) ∧ ∀ (p : Addr) (o : Obj), H p = none → o.dict = none → Q (.ref p) (upd H p (.frz o (.tup (List.replicate k.toNat xs).flatten))))
  sumT : CallR X (.builtin "sum") (fun vs H Q => ∃ (a : Addr) (ns : List Int), vs = [V.ref a] ∧ TupH H a (ns.map V.int) ∧ Q (.int ns.sum) H)
  maxT : CallR X (.builtin "max") (fun vs H Q => ∃ (a : Addr) (ns : List Int), vs = [V.ref a] ∧ TupH H a (ns.map V.int) ∧ 0 < ns.length ∧ ∀ m, m ∈ ns → (∀ y, y ∈ ns → y ≤ m) → Q (.int m) H)
  minT : CallR X (.builtin "min") (fun vs H Q => ∃ (a : Addr) (ns : List Int), vs = [V.ref a] ∧ TupH H a (ns.map V.int) ∧ 0 < ns.length ∧ ∀ m, m ∈ ns → (∀ y, y ∈ ns → m ≤ y) → Q (.int m) H)
  catT : OpR X (binaryOp .Add) (fun x y H Q => ∃ a b xs ys, x = .ref a ∧ y = .ref b ∧ TupH H a xs ∧ TupH H b ys ∧ xs.length + ys.length ≤ sizeLine ∧
    (xs = [] → Q (.ref b) H) ∧ (xs ≠ [] → ys = [] → Q (.ref a) H) ∧ (xs ≠ [] → ys ≠ [] → ∀ (p : Addr) (o : Obj), H p = none → o.dict = none → Q (.ref p) (upd H p (.frz o (.tup (xs ++ ys))))))
  enumG : ∀ {tg e : Expr} {te : TE} {p pos : Pos}, isTupE tg = true → Gl X "enumerate" → X.mg "enumerate" = none → PE X e te → starEach [e] X.env = [(false, eval e X.env)] →
    PI X tg (.Call (.Name "enumerate" p) [e] [] pos) (fun σ H R => te σ H fun x H1 => ∃ a xs tp, x = .ref a ∧ SqK X.K tp H1 a xs ∧ R (IteG X.K tp a) H1)
  zipG : ∀ {tg e e' : Expr} {te te' : TE} {p pos : Pos}, isTupE tg = true → Gl X "zip" → X.mg "zip" = none → PE X e te → PE X e' te' → starEach [e, e'] X.env = [(false, eval e X.env), (false, eval e' X.env)] →
    PI X tg (.Call (.Name "zip" p) [e, e'] [] pos) (fun σ H R => te σ H fun x H1 => te' σ H1 fun y H2 => ∃ a b xs ys tp tq, x = .ref a ∧ y = .ref b ∧ SqK X.K tp H2 a xs ∧ SqK X.K tq H2 b ys ∧ R (ItzG X.K tp tq a b) H2)
  revT : ∀ {e : Expr} {te : TE} {k : Nat} {p1 p2 p3 pos : Pos}, PE X e te → PE X (.Subscript e (.Slice none none (some (.UnaryOp .USub (.Constant (.int 1) k p1) p2)) p3) pos)
    (fun σ H Q => te σ H fun x H1 => ∃ a xs, x = .ref a ∧ ((SqL X.K H1 a xs ∧ ∀ p, H1 p = none → Q (.ref p) (upd H1 p (.lst xs.reverse))) ∨ (TupH H1 a xs ∧ ∀ (p : Addr) (o : Obj), H1 p = none → o.dict = none → Q (.ref p) (upd H1 p (.frz o (.tup xs.reverse))))))
  count : ∀ {o e : Expr} {to te : TE} {apos cpos : Pos}, attributeBase o "count" X.env (eval o X.env) = eval o X.env → (apos.endLine == cpos.line) = true → PE X o to → PE X e te → isStarB e = false →
    PE X (.Call (.Attribute o "count" apos) [e] [] cpos) (fun σ H Q => to σ H fun x H1 => ∃ (a : Addr) (tp : Bool), x = .ref a ∧ (∃ xs, if tp = true then TupH H1 a xs else SqL X.K H1 a xs) ∧ te σ H1 fun y H2 => ∃ (ns : List Int) (k : Int), y = .int k ∧ (if tp = true then TupH H2 a (ns.map V.int) else SqL X.K H2 a (ns.map V.int)) ∧ Q (.int (ns.count k)) H2)
  repS : OpR X (binaryOp .Mult) (fun x y H Q => ∃ a k, x = .str a ∧ y = .int k ∧ -1000 ≤ k ∧ k ≤ 1000 ∧ a.length ≤ 1000 ∧ Q (.str ⟨(rep k.toNat a.cps.toList).toArray⟩) H)

theorem opv_int {op : Operator} {pins : List (Addr × Obj)} {s : Shared} {σ : L2.St} {H : Hp} {v u : Value} {Q : VK} {i j k : Int} (I : Inv X pins σ H s) (rx : RelV (.int i) v) (ry : RelV (.int j) u) (h : binI op i j = some k) (q : Q (.int k) H) :
    wpAny (model X.prog X.w) X.A (binaryOp op v u) (EP X pins σ Q) X.xe s := by
  cases op with
  | Add => simp only [binI, Option.some.injEq] at h; subst h; exact op_add pins s σ H _ _ v u Q I rx ry ⟨i, j, rfl, rfl, q⟩
  | Sub => simp only [binI, Option.some.injEq] at h; subst h; exact op_sub pins s σ H _ _ v u Q I rx ry ⟨i, j, rfl, rfl, q⟩
  | Mult =>
    simp only [binI] at h
    split at h
    · rename_i c
      cases h
      exact op_mul pins s σ H _ _ v u Q I rx ry ⟨i, j, rfl, rfl, small64_ok c, q⟩
    · cases h
  | FloorDiv =>
    simp only [binI] at h
    split at h
    · rename_i c
      cases h
      simp only [Bool.and_eq_true, decide_eq_true_eq] at c
      exact op_fdiv pins s σ H _ _ v u Q I rx ry ⟨i, j, rfl, rfl, c, q⟩
    · cases h
  | Mod =>
    simp only [binI] at h
    split at h
    · rename_i c
      cases h
      exact op_mod pins s σ H _ _ v u Q I rx ry ⟨i, j, rfl, rfl, c, q⟩
    · cases h
  | Pow =>
    simp only [binI] at h
    split at h
    · rename_i c
      cases h
      simp only [Bool.and_eq_true, decide_eq_true_eq] at c
      exact op_pow pins s σ H _ _ v u Q I rx ry ⟨i, j, rfl, rfl, ⟨c.1.1, c.1.2, c.2⟩, q⟩
    · cases h
  | _ => simp [binI] at h
theorem smallRep_ok {k : Int} {n : Nat} (h : smallRep k n = true) : -1000 ≤ k ∧ k ≤ 1000 ∧ n ≤ 1000 := by
  unfold smallRep at h
  simp only [Bool.and_eq_true, decide_eq_true_eq] at h
  exact ⟨h.1.1, h.1.2, h.2⟩
theorem opv_bin (G : Gaps X) {op : Operator} : OpR X (binaryOp op) (rOp X.K fun m => binV m op) := by
  intro pins s σ H u v uv vv Q I ru rv h
  obtain ⟨w, η, m, σ', x, y, z, rel, vx, vy, hz, k⟩ := h
  change binV m op x y = some z at hz
  unfold binV at hz
  split at hz
  · rename_i i j
    cases vx.int; cases vy.int
    obtain ⟨n, e, rfl⟩ := Option.map_eq_some_iff.mp hz
    exact opv_int I ru rv e (end_same rel k VR.ofInt trivial)
  · rename_i a b
    cases vx.str; cases vy.str
    cases op with
    | Add =>
      simp only at hz
      split at hz
      · rename_i c
        cases hz
        exact op_add_str pins s σ H _ _ uv vv Q I ru rv ⟨a, b, rfl, rfl, line_fits c, end_same rel k VR.ofStr trivial⟩
      · cases hz
    | _ => simp at hz
  · rename_i a b
    obtain ⟨p, vs, rfl, hp, rp⟩ := vx.tuple
    obtain ⟨q, us, rfl, hq, rq⟩ := vy.tuple
    cases op with
    | Add =>
      simp only at hz
      split at hz
      · rename_i c
        cases hz
        refine G.catT pins s σ H _ _ uv vv Q I ru rv ⟨p, q, vs, us, rfl, rfl, hp, hq, by rw [rp.len, rq.len]; exact line_fits c, fun e => ?_, fun _ e => ?_, fun _ _ => end_tup rel k (rp.append rq)⟩
        · have ea : a = [] := List.eq_nil_of_length_eq_zero (by rw [← rp.len, e]; rfl)
          subst ea
          exact end_same rel k vy trivial
        · have eb : b = [] := List.eq_nil_of_length_eq_zero (by rw [← rq.len, e]; rfl)
          subst eb
          rw [List.append_nil] at k
          exact end_same rel k vx trivial
      · cases hz
    | _ => simp at hz
  · rename_i a n
    obtain ⟨p, vs, rfl, hp, rp⟩ := vx.tuple
    cases vy.int
    cases op with
    | Mult =>
      simp only at hz
      split at hz
      · rename_i c
        cases hz
        obtain ⟨c1, c2, c3⟩ := smallRep_ok c
        refine G.repT pins s σ H _ _ uv vv Q I ru rv ⟨p, n, vs, rfl, rfl, hp, c1, c2, by rw [rp.len]; exact c3, fun e => ?_, end_tup rel k (rp.rep n.toNat)⟩
        refine end_same rel k ?_ trivial
        simp only [VR, RD]
        exact ⟨p, vs, rfl, hp, e ▸ rp.rep n.toNat⟩
      · cases hz
    | _ => simp at hz
  · rename_i a n
    cases vx.str; cases vy.int
    cases op with
    | Mult =>
      simp only at hz
      split at hz
      · rename_i c
        cases hz
        obtain ⟨c1, c2, c3⟩ := smallRep_ok c
        exact G.repS pins s σ H _ _ uv vv Q I ru rv ⟨a, n, rfl, rfl, c1, c2, c3, end_same rel k VR.ofStr trivial⟩
      · cases hz
    | _ => simp at hz
  · split at hz
    · split at hz
      · rename_i c
        cases hz
        obtain ⟨p, vs, rfl, hp, rp⟩ := listOf_R rel vx (by assumption)
        obtain ⟨q, us, rfl, hq, rq⟩ := listOf_R rel vy (by assumption)
        exact op_cat pins s σ H _ _ uv vv Q I ru rv ⟨p, q, vs, us, rfl, rfl, hp, hq, by rw [rp.len, rq.len]; exact line_fits c, end_lst rel k (rp.append rq)⟩
      · cases hz
    · split at hz
      · rename_i c
        cases hz
        cases vy.int
        obtain ⟨p, vs, rfl, hp, rp⟩ := listOf_R rel vx (by assumption)
        obtain ⟨c1, c2, c3⟩ := smallRep_ok c
        refine op_rep pins s σ H _ _ uv vv Q I ru rv ⟨p, _, vs, rfl, rfl, hp, by omega, by omega, ?_, end_lst rel k (rp.rep _)⟩
        rw [rp.len]
        exact Nat.le_trans (Nat.mul_le_mul c3 (by omega : (_ : Nat) ≤ 1000)) (by decide)
      · cases hz
    · cases hz
end
end SS
/- SSX -/
section
set_option Elab.async false
set_option linter.all false
set_option maxRecDepth 100000
set_option maxHeartbeats 4000000
/-! Rules of the machine that the layer lacks. -/
namespace SS
open PySem PySem.Spec PyProof.Rows L2
section
variable {prog : Program} {w : World} {A : Around} {E : Value → Shared → Prop} {s : Shared} {l : Addr} {its : List Value} {ns : List Int} {Q : Value → Shared → Prop}
theorem tsum_raw (hh : A.handled = none) (hl : s.heap.IsTuple l its.toArray) (hi : IntsAre its ns)
    (h : ∀ h' tk t', (∀ b o, s.heap.get? b = some o → h'.get? b = some o) → Q (.int ns.sum t') { s with heap := h', toks := tk }) : wpAny (model prog w) A (call (.builtin "sum") [.ref l]) Q E s := by
  obtain ⟨xs, e⟩ := hi.allInts.items
  have hn : numsOf (intItems xs).toList = ns := by rw [← e]; exact hi.numsOf
  rw [nums_intItems] at hn
  rw [e] at hl
  refine PySem.W.ktm_sumG hh hl fun h' tk t' hk => ?_
  have := h h' tk t' hk
  rw [preSum_eq, List.take_of_length_le (by simp), hn]; exact this
theorem iter_intTup {xs : Array (Int × Tok)} {Q : Value → Shared → Prop} (hl : s.heap.IsTuple l (intItems xs))
    (h : ∀ s₂ : Shared, s₂ = { s with heap := s.heap.push { cls := .type "tuple_iterator", data := .fields #[.ref l, .int 0 0] } } →
      (s₂.heap.IsTupleIter s.heap.objs.size l 0 ∧ s₂.heap.IsTuple l (intItems xs)) → (∀ b ∈ [s.heap.objs.size, l], b < s₂.heap.objs.size) → l ≠ s.heap.objs.size → Q (.ref s.heap.objs.size) s₂) :
    wpAny (model prog w) A (pyIter (.ref l)) Q E s := by
  have hlt : l < s.heap.objs.size := by obtain ⟨_, e, _⟩ := hl; exact Heap.lt_size e
  refine wpAny_pyIter_tuple hl (h _ rfl ⟨⟨_, Heap.get?_push_size _ rfl, rfl, rfl⟩, hl.at fun o e => Heap.get?_push_of_some _ e⟩ (fun b hb => ?_) (Nat.ne_of_lt hlt))
  show b < (s.heap.push _).objs.size
  rw [Heap.size_push]
  rcases List.mem_cons.mp hb with rfl | hb
  · exact Nat.lt_succ_self _
  · rcases List.mem_cons.mp hb with rfl | hb
    · exact Nat.lt_succ_of_lt hlt
    · cases hb
theorem old_keptT {o' : Obj} {h' : Heap} (hk : ∀ b o, b ∉ [s.heap.objs.size] → (s.heap.push o').get? b = some o → h'.get? b = some o) :
    ∀ b o, s.heap.get? b = some o → h'.get? b = some o := fun b o e => by
  refine hk b o (fun hm => ?_) (Heap.get?_push_of_some _ e)
  rcases List.mem_cons.mp hm with e1 | hm
  · exact absurd (e1 ▸ Heap.lt_size e) (Nat.lt_irrefl _)
  · cases hm
theorem max_intTup {xs : Array (Int × Tok)} {Q : Value → Shared → Prop} (hh : A.handled = none) (hl : s.heap.IsTuple l (intItems xs)) (hne : 0 < xs.size)
    (h : ∀ v h' tk, (intItems xs)[argBest (fun i j => decide (numAt xs i > numAt xs j)) (xs.size - 1)]? = some v → (∀ b o, s.heap.get? b = some o → h'.get? b = some o) → Q v { s with heap := h', toks := tk }) :
    wpAny (model prog w) A (call (.builtin "max") [.ref l]) Q E s := by
  refine call_max_walk (iter_intTup hl fun s₂ e st hfp hlI => ?_)
  subst e
  refine ⟨_, _, _, _, _, _, _, rfl, Walks.tuple (A := A.in1) hh _ l hlI (intItems xs), st, hfp, by simpa [intItems] using hne, CmpOf.ints_gt (numAt xs) (fun _ _ => intItems_at), fun v h' tk hP hk => ?_⟩
  exact h v h' tk (by simpa [intItems] using hP) (old_keptT hk)
theorem min_intTup {xs : Array (Int × Tok)} {Q : Value → Shared → Prop} (hh : A.handled = none) (hl : s.heap.IsTuple l (intItems xs)) (hne : 0 < xs.size)
    (h : ∀ v h' tk, (intItems xs)[argBest (fun i j => decide (numAt xs i < numAt xs j)) (xs.size - 1)]? = some v → (∀ b o, s.heap.get? b = some o → h'.get? b = some o) → Q v { s with heap := h', toks := tk }) :
    wpAny (model prog w) A (call (.builtin "min") [.ref l]) Q E s := by
  refine call_min_walk (iter_intTup hl fun s₂ e st hfp hlI => ?_)
  subst e
  refine ⟨_, _, _, _, _, _, _, rfl, Walks.tuple (A := A.in1) hh _ l hlI (intItems xs), st, hfp, by simpa [intItems] using hne, CmpOf.ints_lt (numAt xs) (fun _ _ => intItems_at), fun v h' tk hP hk => ?_⟩
  exact h v h' tk (by simpa [intItems] using hP) (old_keptT hk)
theorem tmax_raw (hh : A.handled = none) (hl : s.heap.IsTuple l its.toArray) (hi : IntsAre its ns) (hne : 0 < ns.length)
    (h : ∀ h' tk M t', (∀ b o, s.heap.get? b = some o → h'.get? b = some o) → M ∈ ns → (∀ a, a ∈ ns → a ≤ M) → Q (.int M t') { s with heap := h', toks := tk }) : wpAny (model prog w) A (call (.builtin "max") [.ref l]) Q E s := by
  obtain ⟨xs, e⟩ := hi.allInts.items
  have hn : numsOf (intItems xs).toList = ns := by rw [← e]; exact hi.numsOf
  rw [nums_intItems] at hn
  subst hn
  rw [e] at hl
  have hsz : 0 < xs.size := by simpa using hne
  refine max_intTup hh hl hsz fun v h' tk hv hk => ?_
  obtain ⟨t, rfl⟩ := intItems_at hv
  obtain ⟨h1, h2⟩ := argBest_gt (numAt xs) (xs.size - 1)
  refine h h' tk _ t hk ?_ fun a ha => ?_
  · rw [numAt_eq]; exact PySem.getD_mem (by rw [List.length_map, Array.length_toList]; omega)
  · obtain ⟨j, hj, rfl⟩ := mem_getD ha
    rw [List.length_map, Array.length_toList] at hj
    rw [← numAt_eq]; exact h2 j (by omega)
theorem tmin_raw (hh : A.handled = none) (hl : s.heap.IsTuple l its.toArray) (hi : IntsAre its ns) (hne : 0 < ns.length)
    (h : ∀ h' tk M t', (∀ b o, s.heap.get? b = some o → h'.get? b = some o) → M ∈ ns → (∀ a, a ∈ ns → M ≤ a) → Q (.int M t') { s with heap := h', toks := tk }) : wpAny (model prog w) A (call (.builtin "min") [.ref l]) Q E s := by
  obtain ⟨xs, e⟩ := hi.allInts.items
  have hn : numsOf (intItems xs).toList = ns := by rw [← e]; exact hi.numsOf
  rw [nums_intItems] at hn
  subst hn
  rw [e] at hl
  have hsz : 0 < xs.size := by simpa using hne
  refine min_intTup hh hl hsz fun v h' tk hv hk => ?_
  obtain ⟨t, rfl⟩ := intItems_at hv
  obtain ⟨h1, h2⟩ := argBest_lt (numAt xs) (xs.size - 1)
  refine h h' tk _ t hk ?_ fun a ha => ?_
  · rw [numAt_eq]; exact PySem.getD_mem (by rw [List.length_map, Array.length_toList]; omega)
  · obtain ⟨j, hj, rfl⟩ := mem_getD ha
    rw [List.length_map, Array.length_toList] at hj
    rw [← numAt_eq]; exact h2 j (by omega)
end
section
variable {X : Cx}
theorem gap_sumT (hc : X.calm = true) : CallR X (.builtin "sum") (fun vs H Q => ∃ (a : Addr) (ns : List Int), vs = [V.ref a] ∧ TupH H a (ns.map V.int) ∧ Q (.int ns.sum) H) := by
  intro pins s σ H vs us Q I r h
  obtain ⟨a, ns, rfl, hs, q⟩ := h
  obtain ⟨its, rv, hl, _⟩ := I.tuple (TupH.sq hs)
  rw [Vals.ref1 r]
  exact tsum_raw (I.ok.hd hc) hl rv.ints fun h' tk t' hk => ⟨.int _, H, I.kept hk, ⟨_, rfl⟩, q⟩
theorem gap_maxT (hc : X.calm = true) : CallR X (.builtin "max") (fun vs H Q => ∃ (a : Addr) (ns : List Int), vs = [V.ref a] ∧ TupH H a (ns.map V.int) ∧ 0 < ns.length ∧ ∀ m, m ∈ ns → (∀ y, y ∈ ns → y ≤ m) → Q (.int m) H) := by
  intro pins s σ H vs us Q I r h
  obtain ⟨a, ns, rfl, hs, hne, q⟩ := h
  obtain ⟨its, rv, hl, _⟩ := I.tuple (TupH.sq hs)
  rw [Vals.ref1 r]
  exact tmax_raw (I.ok.hd hc) hl rv.ints hne fun h' tk m t' hk h1 h2 => ⟨.int _, H, I.kept hk, ⟨_, rfl⟩, q m h1 h2⟩
theorem gap_minT (hc : X.calm = true) : CallR X (.builtin "min") (fun vs H Q => ∃ (a : Addr) (ns : List Int), vs = [V.ref a] ∧ TupH H a (ns.map V.int) ∧ 0 < ns.length ∧ ∀ m, m ∈ ns → (∀ y, y ∈ ns → m ≤ y) → Q (.int m) H) := by
  intro pins s σ H vs us Q I r h
  obtain ⟨a, ns, rfl, hs, hne, q⟩ := h
  obtain ⟨its, rv, hl, _⟩ := I.tuple (TupH.sq hs)
  rw [Vals.ref1 r]
  exact tmin_raw (I.ok.hd hc) hl rv.ints hne fun h' tk m t' hk h1 h2 => ⟨.int _, H, I.kept hk, ⟨_, rfl⟩, q m h1 h2⟩
/-- a new tuple lies in the heap -/
theorem lay_tup {pins : List (Addr × Obj)} {σ : L2.St} {H : Hp} {s : Shared} {xs : List V} {us : List Value} {Q : VK} (I : Inv X pins σ H s) (r : Vals xs us) (hz : xs.length ≤ sizeLine) (q : ∀ (p : Addr) (o : Obj), H p = none → o.dict = none → Q (.ref p) (upd H p (.frz o (.tup xs)))) :
    EP X pins σ Q (.ref s.heap.objs.size) { s with heap := s.heap.push { cls := .type "tuple", data := .seq us.toArray }, toks := s.toks } := by
  have hf : H s.heap.objs.size = none := I.hok.fresh (Nat.le_refl _)
  refine ⟨.ref s.heap.objs.size, upd H s.heap.objs.size (.frz { cls := .type "tuple", data := .seq us.toArray } (.tup xs)), I.laid (t' := s.toks) (fun b u e => Heap.get?_push_of_some _ e) (Nat.le_refl _) ?_, rfl, q _ _ hf rfl⟩
  exact ⟨Heap.get?_push_size _ rfl, hz, us, r, ⟨_, Heap.get?_push_size _ rfl, rfl, _, rfl⟩⟩
theorem gap_catT : OpR X (binaryOp .Add) (fun x y H Q => ∃ a b xs ys, x = .ref a ∧ y = .ref b ∧ TupH H a xs ∧ TupH H b ys ∧ xs.length + ys.length ≤ sizeLine ∧
    (xs = [] → Q (.ref b) H) ∧ (xs ≠ [] → ys = [] → Q (.ref a) H) ∧ (xs ≠ [] → ys ≠ [] → ∀ (p : Addr) (o : Obj), H p = none → o.dict = none → Q (.ref p) (upd H p (.frz o (.tup (xs ++ ys)))))) := by
  intro pins s σ H x y v u Q I rx ry h
  obtain ⟨a, b, xs, ys, rfl, rfl, ha, hb, hz, q0, q1, q2⟩ := h
  cases rx
  cases ry
  obtain ⟨its, r1, p1, _⟩ := I.tuple (TupH.sq ha)
  obtain ⟨its2, r2, p2, _⟩ := I.tuple (TupH.sq hb)
  by_cases hx : xs = []
  · subst hx
    cases r1
    exact cat_tup0 p1 p2 ⟨.ref b, H, I, rfl, q0 rfl⟩
  · refine HT.cat_tup p1 p2 (fun z => hx (r1.nil_iff.mp z)) (fun z => ⟨.ref a, H, I, rfl, q1 hx (r2.nil_iff.mp z)⟩) (fun z => ?_) (by rw [← r1.length, ← r2.length]; exact hz)
    exact lay_tup I (r1.append r2) (by rw [List.length_append]; exact hz) (q2 hx fun e => z (r2.nil_iff.mpr e))
/-- t * k with nothing to do -/
theorem tuple_mulS (l : Addr) (items : Array Value) (n : Nat) (dd : Option Addr) (sl : Array (Option Value)) (x : Int) (u : Tok) (c0 : (decide (x < -(2 ^ 63)) || decide (x ≥ 2 ^ 63)) = false) (c1 : (items.isEmpty || x == 1) = true) :
    Meets (Builtin.«tuple.__mul__» ⟨[.ref l, .int x u], []⟩) (fun _ R s => s.heap.get? l = some { cls := .type "tuple", dict := dd, data := .seq items n, slots := sl } ∧ R (.ok (.ret (Value.ref l))) s) :=
  .of_wp fun prog w A R s h => by
    obtain ⟨hp, g, d, tk, os⟩ := s
    obtain ⟨hl, h⟩ := h
    have f1 := AutoSeq1.idx_int
    wp_walk using wpAny_loadPart' hl
    repeat (first
      | (refine wpAny_ite_false (decide_eq_false (by rw [c0]; exact Bool.false_ne_true)) ?_; wp_walk using wpAny_loadPart' hl)
      | (refine wpAny_ite_true (decide_eq_true c1) ?_; wp_walk using wpAny_loadPart' hl))
    exact ⟨_, rfl, h⟩
theorem tuple_mul0 (l : Addr) (items : Array Value) (n : Nat) (dd : Option Addr) (sl : Array (Option Value)) (x : Int) (u : Tok) (c0 : (decide (x < -(2 ^ 63)) || decide (x ≥ 2 ^ 63)) = false) (c1 : (items.isEmpty || x == 1) = false) (c2 : (decide (x ≤ 0) || items.isEmpty) = true) :
    Meets (Builtin.«tuple.__mul__» ⟨[.ref l, .int x u], []⟩) (fun _ R s => s.heap.get? l = some { cls := .type "tuple", dict := dd, data := .seq items n, slots := sl } ∧
      R (.ok (.ret (Value.ref s.heap.objs.size))) { s with heap := s.heap.push { cls := Value.type "tuple", data := Data.seq #[] }, toks := s.toks }) :=
  .of_wp fun prog w A R s h => by
    obtain ⟨hp, g, d, tk, os⟩ := s
    obtain ⟨hl, h⟩ := h
    have f1 := AutoSeq1.idx_int
    wp_walk using wpAny_loadPart' hl
    repeat (first
      | (refine wpAny_ite_false (decide_eq_false (by rw [c0]; exact Bool.false_ne_true)) ?_; wp_walk using wpAny_loadPart' hl)
      | (refine wpAny_ite_false (decide_eq_false (by rw [c1]; exact Bool.false_ne_true)) ?_; wp_walk using wpAny_loadPart' hl)
      | (refine wpAny_ite_true (decide_eq_true c2) ?_; wp_walk using wpAny_loadPart' hl))
    exact ⟨_, rfl, h⟩
end
end SS
end
/- SSY -/
section
set_option Elab.async false
set_option linter.all false
set_option maxRecDepth 100000
set_option maxHeartbeats 4000000
/-! Rules of the machine that the layer lacks, 2. -/
namespace SS
open PySem PySem.Spec PyProof.Rows L2
section
variable {X : Cx}
theorem gap_repT : OpR X (binaryOp .Mult) (fun x y H Q => ∃ l k xs, x = .ref l ∧ y = .int k ∧ TupH H l xs ∧ -1000 ≤ k ∧ k ≤ 1000 ∧ xs.length ≤ 1000 ∧ ((List.replicate k.toNat xs).flatten = xs → Q (.ref l) H) ∧ ∀ (p : Addr) (o : Obj), H p = none → o.dict = none → Q (.ref p) (upd H p (.frz o (.tup (List.replicate k.toNat xs).flatten)))) := by
  intro pins s σ H x y v u Q I rx ry h
  obtain ⟨l, k, xs, rfl, rfl, hT, h1, h2, hz, qS, q⟩ := h
  cases rx
  obtain ⟨t, rfl⟩ := ry
  obtain ⟨its, r, ⟨⟨cls, dd, data, sl⟩, ho, hc, n, hd⟩, hs⟩ := I.tuple (TupH.sq hT)
  simp only at hc hd
  subst hc hd
  have hle : its.length = xs.length := r.length.symm
  have hsz0 : its.toArray.size = xs.length := by rw [List.size_toArray, hle]
  have flen : (List.replicate k.toNat its).flatten.length ≤ sizeLine := by
    rw [PyProof.Rows.lm_len_rep_flat, hle, sizeLine_eq]
    have a1 : k.toNat * xs.length ≤ 1000 * 1000 := Nat.mul_le_mul (by omega) hz
    omega
  have flenx : (List.replicate k.toNat xs).flatten.length ≤ sizeLine := by
    rw [PyProof.Rows.lm_len_rep_flat, sizeLine_eq]
    have a1 : k.toNat * xs.length ≤ 1000 * 1000 := Nat.mul_le_mul (by omega) hz
    omega
  have c0 : (decide (k < -(2 ^ 63)) || decide (k ≥ 2 ^ 63)) = false := by
    rw [decide_eq_false (by omega), decide_eq_false (by omega)] <;> rfl
  refine wpAny_binaryOp_repeat_ref (T := "tuple") (U := "int") (by decide) ⟨_, ho, rfl⟩ (fun s' => typeIs_int s' k t) noFill_tuple_mul F.fills_int_mul F.slot_int_rmul repeat_tuple F.slot_int_index.lookup
    (call_meets F.slot_int_rmul (typeIs_int s k t) F.entry_int_rmul (F.args_int_rmul_2 _ _) (int_rmul_tuple k t l its.toArray n dd sl) ⟨ho, rfl, ⟨_, ho, rfl⟩, ?_⟩)
  cases e1 : (its.toArray.isEmpty || k == 1) with
  | true =>
    refine call_meets F.slot_tuple_mul ⟨_, ho, rfl⟩ F.entry_tuple_mul (F.args_tuple_mul_2 _ _) (tuple_mulS l its.toArray n dd sl k t c0 e1) ⟨ho, .ref l, H, I, rfl, qS ?_⟩
    simp only [Bool.or_eq_true, List.isEmpty_toArray, List.isEmpty_iff, beq_iff_eq] at e1
    rcases e1 with e1 | e1
    · have : xs = [] := by
        rw [e1] at hle
        exact List.eq_nil_of_length_eq_zero hle.symm
      rw [this]
      induction k.toNat with
      | zero => rfl
      | succ n ih => rw [List.replicate_succ, List.flatten_cons, ih]; rfl
    · rw [e1]
      show (List.replicate 1 xs).flatten = xs
      simp
  | false =>
    cases e2 : (decide (k ≤ 0) || its.toArray.isEmpty) with
    | true =>
      refine call_meets F.slot_tuple_mul ⟨_, ho, rfl⟩ F.entry_tuple_mul (F.args_tuple_mul_2 _ _) (tuple_mul0 l its.toArray n dd sl k t c0 e1 e2) ⟨ho, ?_⟩
      have ek : k.toNat = 0 := by
        simp only [Bool.or_eq_false_iff] at e1
        rw [e1.1, Bool.or_false, decide_eq_true_eq] at e2
        omega
      rw [ek] at q
      exact lay_tup I (us := []) .nil (Nat.zero_le _) q
    | false =>
      have k1 : 0 < k := by
        simp only [Bool.or_eq_false_iff, decide_eq_false_iff_not] at e2
        omega
      have hm : ((its.toArray.size : Nat) : Int) * k ≤ 1000000 := by
        rw [hsz0]
        have a1 : ((xs.length : Nat) : Int) * k ≤ 1000 * k := Int.mul_le_mul_of_nonneg_right (by omega) (by omega)
        omega
      have c4 : Builtin.Tuple.tupleTooMany (((its.toArray.size : Nat) : Int) * k) = false := by
        unfold Builtin.Tuple.tupleTooMany
        rw [sizeLine_eq]
        exact decide_eq_false (by omega)
      refine call_meets F.slot_tuple_mul ⟨_, ho, rfl⟩ F.entry_tuple_mul (F.args_tuple_mul_2 _ _) (tuple_mulW l its.toArray n dd sl k t c0 e1 e2 (by omega) c4 (by rw [size_rep, List.size_toArray]; exact flen)) ⟨ho, ?_⟩
      rw [size_rep]
      exact lay_tup I (r.rep k.toNat) flenx q
theorem foldl_cps (xs : Array Nat) : ∀ (m : Nat) (acc : Array Nat), List.foldl (fun x1 x2 => x1 ++ x2) acc (List.replicate m xs) = (acc.toList ++ (List.replicate m xs.toList).flatten).toArray
  | 0, acc => by simp
  | m + 1, acc => by
    rw [List.replicate_succ, List.foldl_cons, foldl_cps xs m]
    simp [List.replicate_succ]
theorem gap_repS : OpR X (binaryOp .Mult) (fun x y H Q => ∃ a k, x = .str a ∧ y = .int k ∧ -1000 ≤ k ∧ k ≤ 1000 ∧ a.length ≤ 1000 ∧ Q (.str ⟨(rep k.toNat a.cps.toList).toArray⟩) H) := by
  intro pins s σ H x y v u Q I rx ry h
  obtain ⟨a, k, rfl, rfl, h1, h2, hz, q⟩ := h
  obtain ⟨t, rfl⟩ := rx
  obtain ⟨t', rfl⟩ := ry
  have hr : (decide (k < -(2 ^ 63 : Int)) || decide (k ≥ 2 ^ 63)) = false := by
    rw [decide_eq_false (by omega), decide_eq_false (by omega)] <;> rfl
  have hfl : a.length * k.toNat ≤ 1000 * 1000 := Nat.mul_le_mul hz (by omega)
  refine PySem.P.mul_str hr (fun h _ => ?_) (fun _ _ => ?_) ?_
  · have : (2 ^ 63 - 1 : Int) / 1000 ≤ (2 ^ 63 - 1) / k := by
      have hk : 0 < k := by omega
      rw [Int.le_ediv_iff_mul_le hk]
      have : (2 ^ 63 - 1 : Int) / 1000 * k ≤ (2 ^ 63 - 1 : Int) / 1000 * 1000 := Int.mul_le_mul_of_nonneg_left h2 (by decide)
      have e : (2 ^ 63 - 1 : Int) / 1000 * 1000 ≤ 2 ^ 63 - 1 := by decide
      omega
    have e2 : (1000 : Int) < (2 ^ 63 - 1 : Int) / 1000 := by decide
    omega
  · exact decide_eq_false (by rw [sizeLine_eq]; omega)
  · have ecp : (rep k.toNat a.cps.toList).length = k.toNat * a.length := by
      unfold rep
      rw [PyProof.Rows.lm_len_rep_flat]
      rfl
    split
    · rename_i hk
      have e0 : k.toNat = 0 := by omega
      rw [e0] at q
      exact ⟨by decide, .str Str.empty, H, I.tok _, ⟨_, rfl⟩, q⟩
    · rename_i hk
      split
      · rename_i he
        refine ⟨.str a, H, I, ⟨_, rfl⟩, ?_⟩
        have : (⟨(rep k.toNat a.cps.toList).toArray⟩ : Str) = a := by
          simp only [Bool.or_eq_true, beq_iff_eq] at he
          rcases he with he | he
          · rw [he]
            show (⟨(List.replicate 1 a.cps.toList).flatten.toArray⟩ : Str) = a
            simp
          · have ea : a.cps.toList = [] := by
              have : a.cps.size = 0 := he
              simpa using this
            have er : rep k.toNat a.cps.toList = [] := by
              rw [ea]
              unfold rep
              induction k.toNat with
              | zero => rfl
              | succ n ih => rw [List.replicate_succ, List.flatten_cons, ih]; rfl
            rw [er]
            obtain ⟨c⟩ := a
            simp at ea
            subst ea
            rfl
        rw [this] at q
        exact q
      · rw [foldl_cps]
        have e : (#[] : Array Nat).toList ++ (List.replicate k.toNat a.cps.toList).flatten = rep k.toNat a.cps.toList := rfl
        rw [e]
        refine ⟨?_, .str _, H, I.tok _, ⟨_, rfl⟩, q⟩
        show (rep k.toNat a.cps.toList).toArray.size ≤ sizeLine
        rw [List.size_toArray, ecp, sizeLine_eq, Nat.mul_comm]
        omega
/-! ### t[::-1] -/
theorem sliceApplied_rev {prog : Program} {w : World} {A : Around} {E : Value → Shared → Prop} {s : Shared} {sl : Addr} {vl vu vs : Value} {n : Nat} {Q : Int × Int × Nat → Shared → Prop} (hs : s.heap.IsSliceOf sl vl vu vs) (pl : IsPart vl none) (pu : IsPart vu none) (ps : IsPart vs (some (-1)))
    (h : Q ((n : Int) - 1, -1, n) s) : wpAny (model prog w) A (Builtin.Slice.sliceApplied (.ref sl) (pure (n : Int))) Q E s := by
  obtain ⟨os, hos, hcs, hds⟩ := id hs
  unfold Builtin.Slice.sliceApplied Builtin.Slice.sliceFields
  refine wpAny_bind (wpAny_bind (wpAny_field hos hds (x := vl) rfl (wpAny_bind (wpAny_field hos hds (x := vu) rfl (wpAny_bind (wpAny_field hos hds (x := vs) rfl (wpAny_pure ?_)))))))
  refine wpAny_bind (HT.slicePart_ ps ?_)
  show wpAny _ _ (if ((-1 : Int) == 0) = true then _ else _) _ _ s
  rw [if_neg (by decide)]
  refine wpAny_bind (HT.slicePart_ pl (wpAny_bind (HT.slicePart_ pu (wpAny_bind (wpAny_pure ?_)))))
  show wpAny _ _ (pure ((n : Int) - 1, (-1 : Int), Builtin.Slice.slicePlaces ((n : Int) - 1) (-1) (-1))) _ _ s
  have : Builtin.Slice.slicePlaces ((n : Int) - 1) (-1) (-1) = n := by
    unfold Builtin.Slice.slicePlaces
    rw [if_neg (by omega)]
    split
    · have : ((n : Int) - 1 - -1 - 1) / (- -1) + 1 = n := by
        have : (- -1 : Int) = 1 := by decide
        rw [this, Int.ediv_one]; omega
      rw [this]; simp
    · have : n = 0 := by omega
      rw [this]; rfl
  rw [this]
  exact wpAny_pure h
theorem pick_rev (xs : List Value) : (((List.range xs.length).filterMap fun (k : Nat) => xs.toArray[(((xs.length : Nat) : Int) - 1 + (k : Int) * (-1)).toNat]?).toArray) = xs.reverse.toArray := by
  congr 1
  apply List.ext_getElem?
  intro i
  have e : ∀ k, k < xs.length → xs.toArray[(((xs.length : Nat) : Int) - 1 + (k : Int) * (-1)).toNat]? = some (xs.reverse[k]?.getD .none) := by
    intro k hk
    have : (((xs.length : Nat) : Int) - 1 + (k : Int) * (-1)).toNat = xs.length - 1 - k := by omega
    rw [this]
    have h2 : xs.length - 1 - k < xs.length := by omega
    simp [hk, h2]
  have : ((List.range xs.length).filterMap fun (k : Nat) => xs.toArray[(((xs.length : Nat) : Int) - 1 + (k : Int) * (-1)).toNat]?) = (List.range xs.length).map fun k => xs.reverse[k]?.getD .none := by
    have gen : ∀ (l : List Nat), (∀ k ∈ l, k < xs.length) → (l.filterMap fun (k : Nat) => xs.toArray[(((xs.length : Nat) : Int) - 1 + (k : Int) * (-1)).toNat]?) = l.map fun k => xs.reverse[k]?.getD .none := by
      intro l
      induction l with
      | nil => intro _; rfl
      | cons a l ih =>
        intro hl
        rw [List.filterMap_cons, e a (hl a List.mem_cons_self), List.map_cons]
        simp only
        rw [ih fun k hk => hl k (List.mem_cons_of_mem _ hk)]
    exact gen _ fun k hk => List.mem_range.mp hk
  rw [this, List.getElem?_map]
  by_cases hi : i < xs.length
  · rw [List.getElem?_range hi]
    simp [hi]
  · rw [List.getElem?_eq_none (by simp; omega), List.getElem?_eq_none (by simp; omega)]
    rfl
theorem getItem_tuple_rev {prog : Program} {w : World} {A : Around} {E : Value → Shared → Prop} {s : Shared} {t sl : Addr} {its : List Value} {vl vu vs : Value} {Q : Value → Shared → Prop} (ht : IsTup s.heap t its.toArray) (hs : s.heap.IsSliceOf sl vl vu vs) (pl : IsPart vl none) (pu : IsPart vu none) (ps : IsPart vs (some (-1)))
    (h : Q (.ref s.heap.objs.size) { s with heap := s.heap.push { cls := .type "tuple", data := .seq its.reverse.toArray } })
    (hsz : its.length ≤ sizeLine) : wpAny (model prog w) A (getItem (.ref t) (.ref sl)) Q E s := by
  have htake : sizeOk (.seq its.reverse.toArray) := by
    show its.reverse.toArray.size ≤ sizeLine
    rw [List.size_toArray, List.length_reverse]
    exact hsz
  obtain ⟨os, hos, hcs, hds⟩ := id hs
  have hTs : s.TypeIs (.ref sl) "slice" := ⟨os, hos, hcs⟩
  unfold getItem
  try with_reducible refine wpAny_holding ?_
  first | refine wpAny_bind (wpAny_pure ?_) | skip
  refine wpAny_bind (wpAny_sequenceKey ht.typeIs (by decide) ?_)
  refine wpAny_bind (wpAny_callSpecial?_slot (name := Str.ofString "__getitem__") ht.typeIs PyProof.Rows.slot_tuple_getitem
    (wpAny_call_entry PyProof.Rows.slot_tuple_getitem ht.typeIs entry_tuple_getitem ?_ (args_tuple_getitem _ _)))
  show wpAny _ _ (Builtin.Tuple.tupleItemsOf (.ref t) >>= _) _ _ s
  refine wpAny_bind (tupleItemsOf_ ht ?_)
  refine wpAny_bind (wpAny_typeOf hTs ?_)
  rw [if_pos (by decide)]
  refine wpAny_bind (sliceApplied_rev (n := its.toArray.size) hs pl pu ps ?_)
  have hno : ¬ (((((its.toArray.size : Nat) : Int) - 1) == 0 && (-1 : Int) == 1 && its.toArray.size == its.toArray.size) = true) := by
    rw [Bool.and_eq_true, Bool.and_eq_true]
    exact fun q => absurd q.1.2 (by decide)
  show wpAny _ _ (if ((((its.toArray.size : Nat) : Int) - 1) == 0 && (-1 : Int) == 1 && its.toArray.size == its.toArray.size) = true then _ else _) _ _ s
  rw [if_neg hno, List.size_toArray, pick_rev]
  first
    | exact wpAny_bind (m := Builtin.Tuple.tupleExact _) (wpAny_newObj_type (wpAny_pure ⟨_, rfl, wpAny_pure h⟩) htake)
    | exact wpAny_bind (m := Builtin.Tuple.tupleExact _) (wpAny_newObj_type (wpAny_bind (wpAny_pure (wpAny_pure ⟨_, rfl, wpAny_pure h⟩))) htake)
    | exact wpAny_bind (wpAny_bind (m := Builtin.Tuple.tupleExact _) (wpAny_newObj_type (wpAny_pure (wpAny_pure ⟨_, rfl, wpAny_pure h⟩)) htake))
    | exact wpAny_bind (wpAny_bind (m := Builtin.Tuple.tupleExact _) (wpAny_newObj_type (wpAny_pure ⟨_, rfl, wpAny_pure h⟩) htake))
theorem gap_revT {e : Expr} {te : TE} {k : Nat} {p1 p2 p3 pos : Pos} (he : PE X e te) : PE X (.Subscript e (.Slice none none (some (.UnaryOp .USub (.Constant (.int 1) k p1) p2)) p3) pos)
    (fun σ H Q => te σ H fun x H1 => ∃ a xs, x = .ref a ∧ ((SqL X.K H1 a xs ∧ ∀ p, H1 p = none → Q (.ref p) (upd H1 p (.lst xs.reverse))) ∨ (TupH H1 a xs ∧ ∀ (p : Addr) (o : Obj), H1 p = none → o.dict = none → Q (.ref p) (upd H1 p (.frz o (.tup xs.reverse)))))) := by
  refine ⟨fun pins s σ H Q I h => ?_⟩
  refine Subscript_ (thn (he.run pins s σ H _ I h) fun v s1 ⟨x, H1, I1, r1, q1⟩ => ?_)
  obtain ⟨a, xs, ex, hx⟩ := q1
  subst ex
  cases r1
  have hst : PO X (some (.UnaryOp .USub (.Constant (.int 1) k p1) p2)) (tPart (tUn (rU fun i => .int (-i)) (tC (.int 1)))) := po_some (pe_un un_neg pe_int)
  refine wpAny_Slice (thn (po_none.run pins s1 σ H1 (fun o H2 => o = none ∧ H2 = H1) I1 ⟨rfl, rfl⟩) fun vl s2 ⟨l, H2, I2, pl, el, e2⟩ => ?_)
  subst el e2
  refine thn (po_none.run pins s2 σ H2 (fun o H3 => o = none ∧ H3 = H2) I2 ⟨rfl, rfl⟩) fun vu s3 ⟨u, H3, I3, pu, eu, e3⟩ => ?_
  subst eu e3
  refine thn (hst.run pins s3 σ H3 (fun o H4 => o = some (-1) ∧ H4 = H3) I3 ⟨1, rfl, -1, rfl, rfl, rfl⟩) fun vs s4 ⟨o, H4, I4, ps, eo, e4⟩ => ?_
  subst eo e4
  have I5 : Inv X pins σ H4 { s4 with heap := s4.heap.push { cls := .type "slice", data := .fields #[vl, vu, vs] } } := I4.kept (t' := s4.toks) fun b ob q => Heap.get?_push_of_some _ q
  show wpAny (model X.prog X.w) X.A (subscriptTail e (.Slice none none (some (.UnaryOp .USub (.Constant (.int 1) k p1) p2)) p3) (.ref a) (.ref s4.heap.objs.size)) (EP X pins σ Q) X.xe { s4 with heap := s4.heap.push { cls := .type "slice", data := .fields #[vl, vu, vs] } }
  rcases hx with ⟨hx, q⟩ | ⟨hx, q⟩
  · obtain ⟨its, r, ht, hz⟩ := I5.list hx
    have hlen := r.length
    refine tail_any (ops := [.ref a, .ref s4.heap.objs.size]) ht.isList.typeIs (PySem.slot_list_getitem.lookup) ?_ (by with_unfolding_all rfl)
    refine wpAny_getItem_list_slice ht.isList (Heap.IsSliceOf.new _ vl vu vs) pl pu ps (by decide) ?_ (by rw [List.size_toArray]; omega)
    rw [PySem.W.krv_pick]
    refine ⟨.ref _, _, I5.laid (t' := s4.toks) (o := .lst xs.reverse) (fun b ob q => Heap.get?_push_of_some _ q) (Nat.le_refl _) ?_, rfl, q _ (I5.hok.fresh (Nat.le_refl _))⟩
    exact ⟨by rw [List.length_reverse]; exact hz, _, 0, r.reverse, Heap.get?_push_size _ rfl⟩
  · obtain ⟨its, r, ht, hz⟩ := I5.tuple (TupH.sq hx)
    have hlen := r.length
    refine tail_any (ops := [.ref a, .ref s4.heap.objs.size]) ht.typeIs (PyProof.Rows.slot_tuple_getitem.lookup) ?_ (by with_unfolding_all rfl)
    refine getItem_tuple_rev ht (Heap.IsSliceOf.new _ vl vu vs) pl pu ps ?_ (by omega)
    exact lay_tup I5 r.reverse (by rw [List.length_reverse]; exact hz) q
/-! ### t.count(k) -/
theorem mt_tcount : MtR X "tuple.count" (fun x xs H Q => ∃ (p : Addr) (ns : List Int) (k : Int), x = .ref p ∧ xs = [.int k] ∧ TupH H p (ns.map V.int) ∧ Q (.int (ns.count k : Nat)) H) := by
  intro pins s σ H x xs v us Q I rx rxs h
  obtain ⟨p, ns, k, rfl, rfl, hs, q⟩ := h
  cases rx
  obtain ⟨u, rfl, ru⟩ := rxs.one
  obtain ⟨t, rfl⟩ := ru
  obtain ⟨its, rv, ⟨⟨cls, dd, data, sl⟩, ho, hc, n, hd⟩, hlen⟩ := I.tuple (TupH.sq hs)
  simp only at hc hd
  subst hc hd
  have hi := ints_of_vals rv
  refine call_meets PySem.F.slot_tuple_count ⟨_, ho, rfl⟩ PySem.F.entry_tuple_count (PySem.F.args_tuple_count_2 _ _)
    (SeqAt.tuple_countAt p its.toArray n dd sl (.int k t) (eqk k)) ⟨ho, fun y hy => (eqk_gives hi y (by simpa using hy)).at _ _, ?_⟩
  have ec : its.toArray.toList.countP (eqk k) = ns.count k := eqk_count hi
  refine ⟨.int (ns.count k : Nat), H, I.tok _, ⟨s.toks, ?_⟩, q⟩
  show Value.int ((its.toArray.toList.countP (eqk k) : Nat) : Int) s.toks = Value.int ((ns.count k : Nat) : Int) s.toks
  rw [ec]
theorem starB_ok {e : Expr} {env : PySem.Env} (h : isStarB e = false) : starEach [e] env = [(false, eval e env)] := by
  cases e <;> first | rfl | simp [isStarB] at h
theorem gap_count {o e : Expr} {to te : TE} {apos cpos : Pos} (hbase : attributeBase o "count" X.env (eval o X.env) = eval o X.env) (hline : (apos.endLine == cpos.line) = true) (ho : PE X o to) (he : PE X e te) (hsb : isStarB e = false) :
    PE X (.Call (.Attribute o "count" apos) [e] [] cpos) (fun σ H Q => to σ H fun x H1 => ∃ (a : Addr) (tp : Bool), x = .ref a ∧ (∃ xs, if tp = true then TupH H1 a xs else SqL X.K H1 a xs) ∧ te σ H1 fun y H2 => ∃ (ns : List Int) (k : Int), y = .int k ∧ (if tp = true then TupH H2 a (ns.map V.int) else SqL X.K H2 a (ns.map V.int)) ∧ Q (.int (ns.count k)) H2) := by
  have hs := starB_ok (env := X.env) hsb
  have pa : PA X [e] (tCons te tNil) := pa_cons he pa_nil hs
  refine ⟨fun pins s σ H Q I h => ?_⟩
  refine wpAny_Call_method_late hbase (by rw [hs]; rfl) hline rfl (thn (ho.run pins s σ H _ I h) fun v s1 ⟨x, H1, I1, r1, a, tp, ex, ⟨xs, hx⟩, q1⟩ => ?_)
  subst ex
  cases r1
  have hA := pa.run cpos pins s1 σ H1 (fun ys H2 => match ys with
    | [y] => ∃ (ns : List Int) (k : Int), y = .int k ∧ (if tp = true then TupH H2 a (ns.map V.int) else SqL X.K H2 a (ns.map V.int)) ∧ Q (.int (ns.count k)) H2
    | _ => False) I1 q1
  rw [hs] at hA ⊢
  have one : ∀ {vs : List V} {H2 : Hp}, (match vs with
    | [y] => ∃ (ns : List Int) (k : Int), y = .int k ∧ (if tp = true then TupH H2 a (ns.map V.int) else SqL X.K H2 a (ns.map V.int)) ∧ Q (.int (ns.count k)) H2
    | _ => False) → ∃ (ns : List Int) (k : Int), vs = [.int k] ∧ (if tp = true then TupH H2 a (ns.map V.int) else SqL X.K H2 a (ns.map V.int)) ∧ Q (.int (ns.count k)) H2 := by
    intro vs H2 h
    match vs, h with
    | [y], h =>
      obtain ⟨ns, k, rfl, h1, h2⟩ := h
      exact ⟨ns, k, rfl, h1, h2⟩
  cases tp with
  | true =>
    simp only [if_true] at hx
    obtain ⟨ob, hb1, hb2⟩ := hx
    obtain ⟨its, rv, ht, _⟩ := I1.tuple (TupH.sq ⟨ob, hb1, hb2⟩)
    refine ⟨"tuple", "tuple.count", PySem.F.plainAttrs_tuple, PySem.F.slot_tuple_count, PySem.F.type_tuple_count, ht.typeIs, fun b eb => ?_, ?_⟩
    · cases eb
      obtain ⟨g, _⟩ := I1.hok a _ hb1
      exact ⟨ob, g, hb2⟩
    · refine Calls.callWith_builtin rfl (Calls.evalArgs_plain ?_)
      refine thn hA fun us s2 ⟨vs, H2, I2, r2, q2⟩ => ?_
      obtain ⟨ns, k, rfl, z1, z2⟩ := one q2
      simp only [if_true] at z1
      exact mt_tcount pins s2 σ H2 (.ref a) _ (.ref a) us Q I2 rfl r2 ⟨a, ns, k, rfl, rfl, z1, z2⟩
  | false =>
    simp only [Bool.false_eq_true, if_false] at hx
    obtain ⟨its, rv, ht, _⟩ := I1.list hx
    refine ⟨"list", "list.count", PySem.F.plainAttrs_list, PySem.F.slot_list_count, PySem.F.type_list_count, ht.isList.typeIs, fun b eb => ?_, ?_⟩
    · cases eb
      obtain ⟨ob, n, g, c, hd, _⟩ := ht
      exact ⟨ob, g, hd⟩
    · refine Calls.callWith_builtin rfl (Calls.evalArgs_plain ?_)
      refine thn hA fun us s2 ⟨vs, H2, I2, r2, q2⟩ => ?_
      obtain ⟨ns, k, rfl, z1, z2⟩ := one q2
      simp only [Bool.false_eq_true, if_false] at z1
      exact mt_lcount pins s2 σ H2 (.ref a) _ (.ref a) us Q I2 rfl r2 ⟨a, ns, k, rfl, rfl, z1, z2⟩
end
end SS
end
/- SSZ -/
section
set_option Elab.async false
set_option linter.all false
set_option maxRecDepth 100000
set_option maxHeartbeats 4000000
/-! Rules of the machine that the layer lacks, 3: enumerate, zip over lists and tuples. -/
namespace SS
open PySem PySem.Spec PyProof.Rows L2
/-- an iterator over a list or a tuple -/
def ItAt (tp : Bool) (h : Heap) (it a : Addr) (i : Nat) : Prop := if tp = true then h.IsTupleIter it a i else h.IsListIter it a i
def SeqIn (tp : Bool) (h : Heap) (a : Addr) (items : Array Value) : Prop := if tp = true then h.IsTuple a items else h.IsList a items
def itObj (tp : Bool) (a : Addr) : Obj := { cls := .type (if tp = true then "tuple_iterator" else "list_iterator"), data := .fields #[.ref a, .int 0 0] }
theorem SqK.here {X : Cx} {pins : List (Addr × Obj)} {σ : L2.St} {H : Hp} {s : Shared} {tp : Bool} {a : Addr} {xs : List V} (I : Inv X pins σ H s) (h : SqK X.K tp H a xs) : ∃ its : List Value, Vals xs its ∧ SeqIn tp s.heap a its.toArray ∧ xs.length ≤ sizeLine := by
  cases tp with
  | true => exact I.tuple h
  | false =>
    obtain ⟨its, r, p, z⟩ := I.list h
    exact ⟨its, r, p.isList, z⟩
theorem SqK.inj {X : Cx} {pins : List (Addr × Obj)} {σ : L2.St} {H : Hp} {s : Shared} {tp : Bool} {a : Addr} {xs ys : List V} (I : Inv X pins σ H s) (h : SqK X.K tp H a xs) (h' : SqK X.K tp H a ys) : xs = ys := by
  cases tp with
  | true => exact I.tuple_inj h h'
  | false => exact I.list_inj h h'
theorem SeqIn.lt {tp : Bool} {h : Heap} {a : Addr} {items : Array Value} (x : SeqIn tp h a items) : a < h.objs.size := by
  cases tp with
  | true => obtain ⟨_, e, _⟩ := x; exact Heap.lt_size e
  | false => obtain ⟨_, e, _⟩ := x; exact Heap.lt_size e
theorem ItAt.at {tp : Bool} {h h' : Heap} {it a : Addr} {i : Nat} (x : ItAt tp h it a i) (k : ∀ o, h.get? it = some o → h'.get? it = some o) : ItAt tp h' it a i := by
  cases tp with
  | true => exact Heap.IsTupleIter.at x k
  | false => exact Heap.IsListIter.at x k
theorem ItAt.obj {tp : Bool} {h : Heap} {it a : Addr} {i : Nat} (x : ItAt tp h it a i) : ∃ o, h.get? it = some o ∧ ∀ v, o.data ≠ .cell v := by
  cases tp with
  | true =>
    obtain ⟨o, e, _, d⟩ := x
    exact ⟨o, e, fun v q => by rw [d] at q; cases q⟩
  | false =>
    obtain ⟨o, e, _, d⟩ := x
    exact ⟨o, e, fun v q => by rw [d] at q; cases q⟩
theorem drawsK {prog : Program} {w : World} {A : Around} (tp : Bool) (hh : A.handled = none) (it a : Addr) (hne : a ≠ it) (items : Array Value) :
    Draws prog w A it [it, a] items.size (fun i v => items[i]? = some v) (fun i h => ItAt tp h it a i ∧ SeqIn tp h a items) := by
  cases tp with
  | true => exact Draws.tuple hh it a hne items
  | false => exact Draws.list hh it a hne items
theorem beginsK (tp : Bool) (a : Addr) (items : Array Value) : Begins (.ref a) (itObj tp a) fun h => SeqIn tp h a items := by
  cases tp with
  | true => exact begins_tuple a items
  | false => exact begins_list a items
theorem itAt0 {tp : Bool} {h : Heap} {it a : Addr} (e : h.get? it = some (itObj tp a)) : ItAt tp h it a 0 := by
  cases tp with
  | true => exact ⟨_, e, rfl, rfl⟩
  | false => exact ⟨_, e, rfl, rfl⟩
/-! ### enumerate(v) begins -/
theorem meets_enum0 {v : Value} {o : Obj} {H : Heap → Prop} (B : Begins v o H) :
    Meets (Builtin.«enumerate.__new__» ⟨[.type "enumerate", v], []⟩) (fun _ R s => H s.heap ∧
      R (.ok (.ret (.ref (s.heap.push o).objs.size))) { s with heap := (s.heap.push o).push { cls := .type "enumerate", data := .fields #[.none, .bool false, .ref s.heap.objs.size, rawInt 0, .none, .none] } }) :=
  .of_wp fun prog w A R s h => by
    obtain ⟨hp, g, d, tk, os⟩ := s; obtain ⟨h1, h⟩ := h
    have hsub := sub_enumerate
    have q1 : ∀ {A' : Around} {E : Value → Shared → Prop} {Q : Value → Shared → Prop}, Q (.ref hp.objs.size) ⟨hp.push o, g, d, tk, os⟩ → wpAny (model prog w) A' (pyIter v) Q E ⟨hp, g, d, tk, os⟩ :=
      fun q => B.iter prog w _ _ ⟨hp, g, d, tk, os⟩ _ h1 q
    wp_walk using q1
    refine wpAny_stack_any fun st => wpAny_pure ?_
    split
    · rename_i c _ _ _ _ _
      cases (c == Value.type "enumerate")
      · wp_walk using q1
        exact ⟨_, rfl, h⟩
      · wp_walk using q1
        exact ⟨_, rfl, h⟩
    · wp_walk using q1
      exact ⟨_, rfl, h⟩
theorem call_enum0 {prog : Program} {w : World} {A : Around} {E : Value → Shared → Prop} {s : Shared} {v : Value} {o : Obj} {H : Heap → Prop} {Q : Value → Shared → Prop} (B : Begins v o H) (h1 : H s.heap)
    (h : ∀ h', IsEnum h' (s.heap.objs.size + 1) s.heap.objs.size 0 .none → h'.get? s.heap.objs.size = some o → h'.objs.size = s.heap.objs.size + 2 →
      (∀ b o, s.heap.get? b = some o → h'.get? b = some o) → Q (.ref (s.heap.objs.size + 1)) { s with heap := h' }) :
    wpAny (model prog w) A (call (.type "enumerate") [v]) Q E s := by
  refine callType_new F.called_enumerate (by decide) (F.typeCall_enumerate_1 _) (F.newCall_enumerate_1 _) (fun obj => F.args_object_init_2 obj _) F.entry_enumerate_new
    (meets_enum0 B) ⟨h1, ?_⟩
  have hz : (s.heap.push o).objs.size = s.heap.objs.size + 1 := Heap.size_push ..
  show _ ∧ _
  rw [hz]
  have he : IsEnum ((s.heap.push o).push { cls := .type "enumerate", data := .fields #[.none, .bool false, .ref s.heap.objs.size, rawInt 0, .none, .none] }) (s.heap.objs.size + 1) s.heap.objs.size 0 .none := by
    have := Heap.get?_push_size (s.heap.push o) (o := { cls := .type "enumerate", data := .fields #[.none, .bool false, .ref s.heap.objs.size, rawInt 0, .none, .none] }) rfl
    rw [hz] at this; exact this
  refine ⟨⟨_, he, rfl⟩, h _ he (Heap.get?_push_of_some _ (Heap.get?_push_size _ B.free)) (by rw [Heap.size_push, hz]) fun b o x => Heap.get?_push_of_some _ (Heap.get?_push_of_some _ x)⟩
theorem turn_enumG {P : Program} {w : World} {K : PySem.W.Frag} {elts : List Expr} {kk : Nat} {tpos : Pos} (tp : Bool) (a e it : Addr) (hae : a ≠ e) (hai : a ≠ it) (hei : e ≠ it) :
    Turn P w K (.Tuple elts kk tpos) (IteG K tp a) [e, it] e (fun i h => (∃ old, IsEnum h e it ((i : Nat) : Int) old) ∧ ItAt tp h it a i) where
  mem := by simp
  obj := fun i h st b hb => by
    obtain ⟨⟨old, he⟩, hi⟩ := st
    have e' : b = e ∨ b = it := by simpa using hb
    rcases e' with z | z
    · rw [z]; exact ⟨_, he, fun v q => nomatch q⟩
    · rw [z]; exact hi.obj
  keep := fun i h h' st k => let ⟨⟨old, he⟩, hi⟩ := st; ⟨⟨old, k e (by simp) _ he⟩, hi.at fun o q => k it (by simp) o q⟩
  item := by
    intro X hP hw hK hc i pins s σ H E I hf st hg
    subst hP hw hK
    obtain ⟨⟨old, he⟩, hit⟩ := st
    obtain ⟨xs, x, hq, hx⟩ := hg
    obtain ⟨its, rv, p, hz⟩ := SqK.here I hq
    obtain ⟨u, hu, ru⟩ := rv.get hx
    have hel : e < s.heap.objs.size := Heap.lt_size he
    have hil : it < s.heap.objs.size := by obtain ⟨_, q, _⟩ := hit.obj; exact Heap.lt_size q
    have D := drawsK (prog := X.prog) (w := X.w) (A := X.A.in1) tp (I.ok.hd hc) it a hai its.toArray
    have G := GoesN.enumFrom (elts := elts) (x1 := kk) (pos := tpos) 0 D e hei (by simp [hei, Ne.symm hae]) (by simp)
    refine G.goes i s _ E ?_ ⟨⟨old, by rw [Int.zero_add]; exact he⟩, hit, p⟩ ?_
    · rw [List.size_toArray]
      exact (List.getElem?_eq_some_iff.mp hu).1
    · rintro v h' tk ⟨T, t, x', rfl, hT0, hx', hT⟩ ⟨⟨old', he'⟩, hit', _⟩ hk _
      have ex : x' = u := by
        have hx' : its.toArray[i]? = some x' := hx'
        rw [List.getElem?_toArray, hu] at hx'
        exact (Option.some.inj hx').symm
      subst ex
      have new : ObjOk X.prog X.w (upd H T (.tup [.int (i : Nat), x])) h' T (.tup [.int (i : Nat), x]) := by
        refine ⟨by show 2 ≤ sizeLine; decide, [.int (0 + (i : Int)) t, x'], .cons ⟨_, by rw [Int.zero_add]⟩ (.cons ru .nil), hT⟩
      have I1 : Inv X pins σ (upd H T (.tup [.int (i : Nat), x])) { s with heap := h', toks := tk } :=
        I.turnedNew (ch := [e, it]) (fun b ob hb q => hk b ob hb q) hf hT0 new
      refine ⟨.ref T, _, I1, rfl, ⟨T, x, rfl, I.hok.fresh hT0, rfl, fun ys hy => by rw [SqK.inj I hy hq]; exact hx⟩, ⟨⟨old', ?_⟩, hit'⟩, fun b hb => ?_⟩
      · have e1 : ((i + 1 : Nat) : Int) = 0 + ((i + 1 : Nat) : Int) := by omega
        rw [e1]; exact he'
      · have hb' : b < s.heap.objs.size := by
          have e' : b = e ∨ b = it := by simpa using hb
          rcases e' with z | z
          · rw [z]; exact hel
          · rw [z]; exact hil
        rw [upd_ne (Nat.ne_of_lt (Nat.lt_of_lt_of_le hb' hT0))]
        exact (hf b hb).1
  done := by
    intro X hP hw hK hc i pins s σ H E I hf st hg
    subst hP hw hK
    obtain ⟨⟨old, he⟩, hit⟩ := st
    obtain ⟨xs, hq, hx⟩ := hg
    obtain ⟨its, rv, p, hz⟩ := SqK.here I hq
    have hl := rv.length
    have D := drawsK (prog := X.prog) (w := X.w) (A := X.A.in1) tp (I.ok.hd hc) it a hai its.toArray
    have G := GoesN.enumFrom (elts := elts) (x1 := kk) (pos := tpos) 0 D e hei (by simp [hei, Ne.symm hae]) (by simp)
    have ei : i = its.toArray.size := by rw [List.size_toArray]; omega
    subst ei
    refine G.stops s (fun s1 => Inv X pins σ H s1) E ⟨⟨old, by rw [Int.zero_add]; exact he⟩, hit, p⟩ fun h' tk hk _ => ?_
    exact I.turnedL (t' := tk) (ch := [e, it]) (fun b ob hb q => hk b ob hb q) hf
  self := fun A i s Q E st h => let ⟨⟨_, he⟩, _⟩ := st; wpAny_pyIter_enum he h

theorem nlt {a b : Nat} (h : a < b) : a ≠ b := Nat.ne_of_lt h
theorem ngt {a b : Nat} (h : b < a) : a ≠ b := Nat.ne_of_gt h
theorem star1 {e : Expr} {env : PySem.Env} {pos : Pos} (h : starEach [e] env = [(false, eval e env)]) : starEach [e] env = (false, eval e env) :: starEach [] env := h
theorem gap_enumG {X : Cx} {tg e : Expr} {te : TE} {p pos : Pos} (ht : isTupE tg = true) (hg : Gl X "enumerate") (hm : X.mg "enumerate" = none) (he : PE X e te) (hs : starEach [e] X.env = [(false, eval e X.env)]) :
    PI X tg (.Call (.Name "enumerate" p) [e] [] pos) (fun σ H R => te σ H fun x H1 => ∃ a xs tp, x = .ref a ∧ SqK X.K tp H1 a xs ∧ R (IteG X.K tp a) H1) := by
  cases tg with
  | Tuple elts kk tpos =>
    refine ⟨fun pins s σ H R I h => ?_⟩
    have pa : PA X [e] (tCons te tNil) := pa_cons he pa_nil hs
    refine Call_ (ld_blt I hg hm boot_enumerate (PyProof.Rows.callWith_type1 (thn (pa.run pos pins s σ H (fun ys H1 => match ys with
      | [x] => ∃ a xs tp, x = .ref a ∧ SqK X.K tp H1 a xs ∧ R (IteG X.K tp a) H1
      | _ => False) I h) fun us s1 ⟨vs, H1, I1, r1, q1⟩ => ?_) hs rfl))
    match vs, q1, r1 with
    | [x], q1, r1 =>
      obtain ⟨a, xs, tp, rfl, hq, q⟩ := q1
      obtain ⟨u, rfl, ru⟩ := Vals.one r1
      cases ru
      obtain ⟨its, rv, p', hz⟩ := SqK.here I1 hq
      have la := p'.lt
      refine call_enum0 (beginsK tp a its.toArray) p' fun h' he hit hsz hk => wpAny_pyIter_enum he ?_
      have I2 : Inv X pins σ H1 { s1 with heap := h' } := I1.kept (t' := s1.toks) hk
      refine ⟨s1.heap.objs.size + 1, [s1.heap.objs.size + 1, s1.heap.objs.size], _, _, H1, rfl, I2, turn_enumG tp a (s1.heap.objs.size + 1) s1.heap.objs.size (nlt (Nat.lt_succ_of_lt la)) (nlt la) (Nat.succ_ne_self _), ⟨⟨.none, he⟩, itAt0 hit⟩, fun b hb => ?_, q⟩
      have e' : b = s1.heap.objs.size + 1 ∨ b = s1.heap.objs.size := by simpa using hb
      have hle : s1.heap.objs.size ≤ b := by
        rcases e' with z | z
        · rw [z]; exact Nat.le_add_right _ _
        · rw [z]; exact Nat.le_refl _
      exact I1.fpOk hle (I1.hok.fresh hle)
  | _ => simp [isTupE] at ht
/-! ### zip -/
theorem turn_zipG {P : Program} {w : World} {K : PySem.W.Frag} {elts : List Expr} {kk : Nat} {tpos : Pos} {tp tq : Bool} {a b z TI TO i1 i2 : Addr} (S : ZipSep2 z TI TO i1 i2 [i1, a] [i2, b]) (h1a : a ≠ i1) (h2b : b ≠ i2) :
    Turn P w K (.Tuple elts kk tpos) (ItzG K tp tq a b) [z, TI, TO, i1, i2] z (fun i h => IsZip h z TI TO .none ∧ IsTupOf2 h TI (.ref i1) (.ref i2) ∧ (∃ x y, IsTupOf2 h TO x y) ∧ ItAt tp h i1 a i ∧ ItAt tq h i2 b i) where
  mem := by simp
  obj := fun i h st c hc => by
    obtain ⟨hz, hTI, ⟨x, y, hTO⟩, h1, h2⟩ := st
    have e' : c = z ∨ c = TI ∨ c = TO ∨ c = i1 ∨ c = i2 := by simpa using hc
    rcases e' with q | q | q | q | q
    · rw [q]; exact ⟨_, hz, fun v q => nomatch q⟩
    · rw [q]; exact ⟨_, hTI, fun v q => nomatch q⟩
    · rw [q]; exact ⟨_, hTO, fun v q => nomatch q⟩
    · rw [q]; exact h1.obj
    · rw [q]; exact h2.obj
  keep := fun i h h' st k => by
    obtain ⟨hz, hTI, ⟨x, y, hTO⟩, h1, h2⟩ := st
    exact ⟨k z (by simp) _ hz, k TI (by simp) _ hTI, ⟨x, y, k TO (by simp) _ hTO⟩, h1.at fun o q => k i1 (by simp) o q, h2.at fun o q => k i2 (by simp) o q⟩
  item := by
    intro X hP hw hK hc i pins s σ H E I hf st hg
    subst hP hw hK
    obtain ⟨hz, hTI, hTO, h1, h2⟩ := st
    obtain ⟨xs, ys, x, y, hqx, hqy, hx, hy⟩ := hg
    obtain ⟨its, rv, p, _⟩ := SqK.here I hqx
    obtain ⟨its2, rv2, p2, _⟩ := SqK.here I hqy
    obtain ⟨u, hu, ru⟩ := rv.get hx
    obtain ⟨u2, hu2, ru2⟩ := rv2.get hy
    have D1 := drawsK (prog := X.prog) (w := X.w) (A := X.A.in1) tp (I.ok.hd hc) i1 a h1a its.toArray
    have D2 := drawsK (prog := X.prog) (w := X.w) (A := X.A.in1) tq (I.ok.hd hc) i2 b h2b its2.toArray
    have G := GoesN.zip2 (elts := elts) (x1 := kk) (pos := tpos) S D1 D2
    have hzl : z < s.heap.objs.size := Heap.lt_size hz
    have hTIl : TI < s.heap.objs.size := Heap.lt_size hTI
    obtain ⟨x0, y0, hTO'⟩ := hTO
    have hTOl : TO < s.heap.objs.size := Heap.lt_size hTO'
    have h1l : i1 < s.heap.objs.size := by obtain ⟨_, q, _⟩ := h1.obj; exact Heap.lt_size q
    have h2l : i2 < s.heap.objs.size := by obtain ⟨_, q, _⟩ := h2.obj; exact Heap.lt_size q
    refine G.goes i s _ E ?_ ⟨hz, hTI, ⟨x0, y0, hTO'⟩, ⟨h1, p⟩, h2, p2⟩ ?_
    · rw [List.size_toArray, List.size_toArray]
      have a1 := (List.getElem?_eq_some_iff.mp hu).1
      have a2 := (List.getElem?_eq_some_iff.mp hu2).1
      omega
    · rintro v h' tk ⟨T, x', y', rfl, hT0, hx', hy', hT⟩ ⟨z', TI', TO', ⟨h1', _⟩, h2', _⟩ hk _
      have ex : x' = u := by
        have hx' : its.toArray[i]? = some x' := hx'
        rw [List.getElem?_toArray, hu] at hx'
        exact (Option.some.inj hx').symm
      have ey : y' = u2 := by
        have hy' : its2.toArray[i]? = some y' := hy'
        rw [List.getElem?_toArray, hu2] at hy'
        exact (Option.some.inj hy').symm
      subst ex ey
      have new : ObjOk X.prog X.w (upd H T (.tup [x, y])) h' T (.tup [x, y]) :=
        ⟨by show 2 ≤ sizeLine; decide, [x', y'], .cons ru (.cons ru2 .nil), hT⟩
      have I1 : Inv X pins σ (upd H T (.tup [x, y])) { s with heap := h', toks := tk } :=
        I.turnedNew (ch := [z, TI, TO, i1, i2]) (fun c ob hb q => hk c ob (fun m => hb (by
          simp only [List.mem_cons, List.not_mem_nil, or_false] at m ⊢
          rcases m with m | m | m | m <;> simp [m])) q) hf hT0 new
      refine ⟨.ref T, _, I1, rfl, ⟨T, x, y, rfl, I.hok.fresh hT0, rfl, fun l hl => by rw [SqK.inj I hl hqx]; exact hx, fun l hl => by rw [SqK.inj I hl hqy]; exact hy⟩, ⟨z', TI', TO', h1', h2'⟩, fun c hcm => ?_⟩
      have hlt : c < s.heap.objs.size := by
        have e' : c = z ∨ c = TI ∨ c = TO ∨ c = i1 ∨ c = i2 := by simpa using hcm
        rcases e' with q | q | q | q | q <;> rw [q] <;> assumption
      rw [upd_ne (Nat.ne_of_lt (Nat.lt_of_lt_of_le hlt hT0))]
      exact (hf c hcm).1
  done := by
    intro X hP hw hK hc i pins s σ H E I hf st hg
    subst hP hw hK
    obtain ⟨hz, hTI, hTO, h1, h2⟩ := st
    obtain ⟨xs, ys, hqx, hqy, hend⟩ := hg
    obtain ⟨its, rv, p, _⟩ := SqK.here I hqx
    obtain ⟨its2, rv2, p2, _⟩ := SqK.here I hqy
    have l1 := rv.length
    have l2 := rv2.length
    have D1 := drawsK (prog := X.prog) (w := X.w) (A := X.A.in1) tp (I.ok.hd hc) i1 a h1a its.toArray
    have D2 := drawsK (prog := X.prog) (w := X.w) (A := X.A.in1) tq (I.ok.hd hc) i2 b h2b its2.toArray
    have G := GoesN.zip2 (elts := elts) (x1 := kk) (pos := tpos) S D1 D2
    have ei : i = min its.toArray.size its2.toArray.size := by rw [List.size_toArray, List.size_toArray]; omega
    subst ei
    refine G.stops s (fun s1 => Inv X pins σ H s1) E ⟨hz, hTI, hTO, ⟨h1, p⟩, h2, p2⟩ fun h' tk hk _ => ?_
    exact I.turnedL (t' := tk) (ch := [z, TI, TO, i1, i2]) (fun c ob hb q => hk c ob (fun m => hb (by
      simp only [List.mem_cons, List.not_mem_nil, or_false] at m ⊢
      rcases m with m | m | m | m <;> simp [m])) q) hf
  self := fun A i s Q E st h => wpAny_pyIter_zip st.1 h
theorem nin2 {c x y : Nat} (h1 : c ≠ x) (h2 : c ≠ y) : c ∉ [x, y] := by simp [h1, h2]
theorem zip_sep {n a b : Nat} (la : a < n) (lb : b < n) : ZipSep2 (n + 4) (n + 2) (n + 3) n (n + 1) [n, a] [n + 1, b] :=
  ⟨nlt (by omega), nlt (by omega), nlt (by omega), ngt (by omega), List.mem_cons_self, nin2 (by omega) (by omega), nin2 (by omega) (by omega), ngt (by omega), List.mem_cons_self, nin2 (by omega) (by omega), nin2 (by omega) (by omega), nin2 (by omega) (by omega), nin2 (by omega) (by omega)⟩
theorem gap_zipG {X : Cx} {tg e e' : Expr} {te te' : TE} {p pos : Pos} (ht : isTupE tg = true) (hg : Gl X "zip") (hm : X.mg "zip" = none) (he : PE X e te) (he' : PE X e' te') (hs : starEach [e, e'] X.env = [(false, eval e X.env), (false, eval e' X.env)]) :
    PI X tg (.Call (.Name "zip" p) [e, e'] [] pos) (fun σ H R => te σ H fun x H1 => te' σ H1 fun y H2 => ∃ a b xs ys tp tq, x = .ref a ∧ y = .ref b ∧ SqK X.K tp H2 a xs ∧ SqK X.K tq H2 b ys ∧ R (ItzG X.K tp tq a b) H2) := by
  cases tg with
  | Tuple elts kk tpos =>
    refine ⟨fun pins s σ H R I h => ?_⟩
    have hs2 : starEach [e'] X.env = [(false, eval e' X.env)] := by
      cases e' <;> first | rfl | skip
      cases e <;> simp [starEach] at hs
    have pa : PA X [e, e'] (tCons te (tCons te' tNil)) := pa_cons he (pa_cons he' pa_nil hs2) (by rw [hs, hs2])
    refine Call_ (ld_blt I hg hm PyProof.Rows.boot_zip (PyProof.Rows.callWith_type1 (thn (pa.run pos pins s σ H (fun vs H2 => match vs with
      | [x, y] => ∃ a b xs ys tp tq, x = .ref a ∧ y = .ref b ∧ SqK X.K tp H2 a xs ∧ SqK X.K tq H2 b ys ∧ R (ItzG X.K tp tq a b) H2
      | _ => False) I h) fun us s1 ⟨vs, H1, I1, r1, q1⟩ => ?_) (by rw [hs, hs2]) (by rw [hs2]; rfl)))
    match vs, q1, r1 with
    | [x, y], q1, r1 =>
      obtain ⟨a, b, xs, ys, tp, tq, rfl, rfl, hqx, hqy, q⟩ := q1
      obtain ⟨u, u', rfl, ru, ru'⟩ := Vals.two r1
      cases ru
      cases ru'
      obtain ⟨its, rv, p1, _⟩ := SqK.here I1 hqx
      obtain ⟨its2, rv2, p2, _⟩ := SqK.here I1 hqy
      have la := p1.lt
      have lb := p2.lt
      refine zip_begins2 (beginsK tp a its.toArray) (beginsK tq b its2.toArray) p1 p2 fun h' hz hTI hTO h1 h2 hsz hk => wpAny_pyIter_zip hz ?_
      have I2 : Inv X pins σ H1 { s1 with heap := h' } := I1.kept (t' := s1.toks) hk
      refine ⟨s1.heap.objs.size + 4, [s1.heap.objs.size + 4, s1.heap.objs.size + 2, s1.heap.objs.size + 3, s1.heap.objs.size, s1.heap.objs.size + 1], _, _, H1, rfl, I2, turn_zipG (tp := tp) (tq := tq) (zip_sep la lb) (nlt la) (nlt (Nat.lt_succ_of_lt lb)), ⟨hz, hTI, ⟨_, _, hTO⟩, itAt0 h1, itAt0 h2⟩, fun c hcm => ?_, q⟩
      have e' : c = s1.heap.objs.size + 4 ∨ c = s1.heap.objs.size + 2 ∨ c = s1.heap.objs.size + 3 ∨ c = s1.heap.objs.size ∨ c = s1.heap.objs.size + 1 := by simpa using hcm
      have hle : s1.heap.objs.size ≤ c := by
        rcases e' with z | z | z | z | z
        · rw [z]; exact Nat.le_add_right _ _
        · rw [z]; exact Nat.le_add_right _ _
        · rw [z]; exact Nat.le_add_right _ _
        · rw [z]; exact Nat.le_refl _
        · rw [z]; exact Nat.le_add_right _ _
      exact I1.fpOk hle (I1.hok.fresh hle)
  | _ => simp [isTupE] at ht
end SS
end
/- SSW -/
set_option Elab.async false
set_option linter.all false
namespace SS
open PySem PySem.Spec PyProof.Rows L2
theorem gaps_all : ∀ X : Cx, X.calm = true → Gaps X := fun X hc => ⟨gap_repT, gap_sumT hc, gap_maxT hc, gap_minT hc, gap_catT, gap_enumG, gap_zipG, gap_revT, gap_count, gap_repS⟩
end SS
/- SSE -/
set_option Elab.async false
set_option linter.all false
set_option maxRecDepth 100000
/-! Comparisons. -/
namespace SS
open PySem PySem.Spec PyProof.Rows L2
section
variable {K : PySem.W.Frag} {w : Wd} {H : Hp}
theorem RD.flat {F : Addr → Prop} {d : PyData} {v : V} (f : flatP d = true) (h : RD F H d v) : flatV v = true := by
  cases d with
  | none => simp only [RD] at h; subst h; rfl
  | bool b => simp only [RD] at h; subst h; rfl
  | int b => simp only [RD] at h; subst h; rfl
  | str b => simp only [RD] at h; subst h; rfl
  | _ => simp [flatP] at f
theorem RD.eqFlat {F F' : Addr → Prop} {d e : PyData} {v u : V} (f : flatP d = true) (g : flatP e = true) (h : RD F H d v) (q : RD F' H e u) : L2.eqV v u = PyData.eqv d e := by
  cases d <;> simp only [flatP, Bool.false_eq_true] at f <;> cases e <;> simp only [flatP, Bool.false_eq_true] at g <;> simp only [RD] at h q <;> subst h <;> subst q <;> simp [L2.eqV, PyData.eqv]
theorem RDs.flat {F : Addr → Prop} : ∀ {ds : List PyData} {vs : List V}, ds.all flatP = true → RDs F H ds vs → vs.all flatV = true
  | [], vs, _, h => by simp only [RDs] at h; subst h; rfl
  | d :: ds, vs, f, h => by
    simp only [RDs] at h
    obtain ⟨v, r, rfl, h1, h2⟩ := h
    simp only [List.all_cons, Bool.and_eq_true] at f ⊢
    exact ⟨RD.flat f.1 h1, RDs.flat f.2 h2⟩
theorem RDs.inFlat {F : Addr → Prop} {d : PyData} {v : V} (f : flatP d = true) (h : RD F H d v) : ∀ {ds : List PyData} {vs : List V}, ds.all flatP = true → RDs F H ds vs → L2.inV v vs = inPy d ds
  | [], vs, _, h => by simp only [RDs] at h; subst h; rfl
  | e :: ds, vs, g, q => by
    simp only [RDs] at q
    obtain ⟨u, r, rfl, h1, h2⟩ := q
    simp only [List.all_cons, Bool.and_eq_true] at g
    have ih := RDs.inFlat f h g.2 h2
    unfold L2.inV inPy at *
    simp only [List.any_cons]
    rw [ih, RD.eqFlat g.1 f h1 h]
theorem VR.notNone {x : Vl} {u : V} (h : VR K w H x u) (n : x ≠ .dat .none) : u ≠ .non := by
  intro e
  subst e
  cases x with
  | dat d =>
    cases d with
    | none => exact n rfl
    | bool b => simp [VR, RD] at h
    | int b => simp [VR, RD] at h
    | str b => simp [VR, RD] at h
    | list b => simp [VR, RD] at h
    | tuple b => simp [VR, RD] at h
    | dict b => simp [VR, RD] at h
  | ref c => obtain ⟨a, h, _⟩ := h; cases h
  | new c => obtain ⟨a, _, h, _⟩ := h; cases h
  | new2 c => obtain ⟨a, _, h, _⟩ := h; cases h
  | bor c => obtain ⟨a, _, h, _⟩ := h; cases h
  | bor2 c => obtain ⟨a, _, h, _⟩ := h; cases h
  | scr c => obtain ⟨a, h, _⟩ := h; cases h
end
section
variable {X : Cx}
def cmpB (op : CmpOp) (m : Mem) (x y : Vl) : Option Vl := (cmpV m op x y).map fun b => .dat (.bool b)
theorem isV_R {w : Wd} {H : Hp} {x y : Vl} {u v : V} {b : Bool} (h : isV x y = some b) (vx : VR X.K w H x u) (vy : VR X.K w H y v) :
    (∃ p q : Bool, u = .bl p ∧ v = .bl q ∧ b = decide (p = q)) ∨ (v = .non ∧ b = decide (u = .non)) := by
  unfold isV at h
  split at h
  · cases vx.bool; cases vy.bool; cases h
    exact .inl ⟨_, _, rfl, rfl, rfl⟩
  · cases vx.none; cases vy.none; cases h
    exact .inr ⟨rfl, rfl⟩
  · rename_i n
    cases vy.none; cases h
    exact .inr ⟨rfl, (decide_eq_false (vx.notNone n)).symm⟩
  · cases h
theorem opv_in (hu : X.A.units + 65 < cLine) {pins : List (Addr × Obj)} {s : Shared} {σ σ' : L2.St} {H : Hp} {u v : V} {uv vv : Value} {Q : VK} (I : Inv X pins σ H s) (ru : RelV u uv) (rv : RelV v vv)
    {w : Wd} {η : Sg} {m : Mem} {x y : Vl} {b neg : Bool} (rel : Rel X.K w η m σ' H) (vx : VR X.K w H x u) (vy : VR X.K w H y v) (hz : inV m x y = some b) (q : Q (.bl (if neg then !b else b)) H) :
    wpAny (model X.prog X.w) X.A (compareOp (if neg then .NotIn else .In) uv vv) (EP X pins σ Q) X.xe s := by
  unfold inV at hz
  split at hz
  · rename_i z
    cases vy.str
    split at hz
    · rename_i t
      cases vx.str
      split at hz
      · rename_i c e
        cases hz
        have et : t = ⟨#[c]⟩ := by
          cases t with
          | mk cps =>
            congr
            rw [← Array.toArray_toList (xs := cps)]
            show (cps.toList).toArray = _
            rw [show cps.toList = [c] from e]
        subst et
        cases neg with
        | false => exact op_in_sign pins s σ H _ _ uv vv Q I ru rv ⟨c, z, rfl, rfl, q⟩
        | true => exact op_notIn_sign pins s σ H _ _ uv vv Q I ru rv ⟨c, z, rfl, rfl, q⟩
      · cases hz
    · cases hz
  · rename_i ys
    obtain ⟨p, vs, rfl, hp, rp⟩ := vy.tuple
    split at hz
    · rename_i d
      split at hz
      · rename_i c
        cases hz
        simp only [Bool.and_eq_true] at c
        have e := RDs.inFlat c.1 vx c.2 rp
        cases neg with
        | false => exact op_in_seq pins s σ H _ _ uv vv Q I ru rv ⟨p, vs, rfl, .inr hp.sq, RD.flat c.1 vx, RDs.flat c.2 rp, by rw [e]; exact q⟩
        | true => exact op_notIn_seq pins s σ H _ _ uv vv Q I ru rv ⟨p, vs, rfl, .inr hp.sq, RD.flat c.1 vx, RDs.flat c.2 rp, by rw [e]; exact q⟩
      · cases hz
    · cases hz
  · split at hz
    · rename_i d ys h1 h2
      split at hz
      · rename_i c
        cases hz
        simp only [Bool.and_eq_true] at c
        obtain ⟨p, vs, rfl, hp, rp⟩ := listOf_R rel vy h2
        have dy : Dp X.K H (.ref p) (.list ys) := .lst (SqL.of hp) (RDs.dp _ _ rp)
        cases neg with
        | false => exact op_inD hu pins s σ H _ _ uv vv Q I ru rv ⟨d, ys, toPy_R rel vx h1, dy, c.1, c.2, q⟩
        | true => exact op_notInD hu pins s σ H _ _ uv vv Q I ru rv ⟨d, ys, toPy_R rel vx h1, dy, c.1, c.2, q⟩
      · cases hz
    · cases hz
theorem eqPy_ok {a b : PyData} {k : Bool} (h : eqPy a b = some k) : SeqAt.shaped a = true ∧ SeqAt.shaped b = true ∧ k = PyData.eqv a b := by
  unfold eqPy at h
  split at h
  · rename_i c
    simp only [Bool.and_eq_true] at c
    cases h
    exact ⟨c.1, c.2, rfl⟩
  · cases h
theorem opv_cmp (hu : X.A.units + 65 < cLine) {op : CmpOp} : OpR X (compareOp op) (rOp X.K (cmpB op)) := by
  intro pins s σ H u v uv vv Q I ru rv h
  obtain ⟨w, η, m, σ', x, y, z, rel, vx, vy, hz, k⟩ := h
  unfold cmpB at hz
  obtain ⟨b, hb, rfl⟩ := Option.map_eq_some_iff.mp hz
  have q : Q (.bl b) H := end_same rel k VR.ofBool trivial
  have hu' : X.A.units + 64 < cLine := by omega
  unfold cmpV at hb
  cases op with
  | Eq =>
    simp only at hb
    split at hb
    · rename_i d e h1 h2
      obtain ⟨s1, s2, rfl⟩ := eqPy_ok hb
      exact op_eqD hu' pins s σ H _ _ uv vv Q I ru rv ⟨d, e, toPy_R rel vx h1, toPy_R rel vy h2, s1, s2, q⟩
    · cases hb
  | NotEq =>
    simp only at hb
    split at hb
    · rename_i d e h1 h2
      obtain ⟨k', hk, rfl⟩ := Option.map_eq_some_iff.mp hb
      obtain ⟨s1, s2, rfl⟩ := eqPy_ok hk
      exact op_neD hu' pins s σ H _ _ uv vv Q I ru rv ⟨d, e, toPy_R rel vx h1, toPy_R rel vy h2, s1, s2, q⟩
    · cases hb
  | In => exact opv_in (neg := false) hu I ru rv rel vx vy hb q
  | NotIn =>
    simp only at hb
    obtain ⟨k', hk, rfl⟩ := Option.map_eq_some_iff.mp hb
    exact opv_in (neg := true) hu I ru rv rel vx vy hk q
  | Is =>
    rcases isV_R hb vx vy with ⟨p, q', rfl, rfl, rfl⟩ | ⟨rfl, rfl⟩
    · exact op_isBl pins s σ H _ _ uv vv Q I ru rv ⟨p, q', rfl, rfl, q⟩
    · exact op_isN pins s σ H _ _ uv vv Q I ru rv ⟨rfl, q⟩
  | IsNot =>
    simp only at hb
    obtain ⟨k', hk, rfl⟩ := Option.map_eq_some_iff.mp hb
    rcases isV_R hk vx vy with ⟨p, q', rfl, rfl, rfl⟩ | ⟨rfl, rfl⟩
    · exact op_notBl pins s σ H _ _ uv vv Q I ru rv ⟨p, q', rfl, rfl, q⟩
    · exact op_notN pins s σ H _ _ uv vv Q I ru rv ⟨rfl, q⟩
  | Lt =>
    simp only at hb
    split at hb
    · cases vx.int; cases vy.int
      simp only [cmpI, Option.some.injEq] at hb; subst hb
      exact op_lt pins s σ H _ _ uv vv Q I ru rv ⟨_, _, rfl, rfl, q⟩
    · cases hb
  | LtE =>
    simp only at hb
    split at hb
    · cases vx.int; cases vy.int
      simp only [cmpI, Option.some.injEq] at hb; subst hb
      exact op_le pins s σ H _ _ uv vv Q I ru rv ⟨_, _, rfl, rfl, q⟩
    · cases hb
  | Gt =>
    simp only at hb
    split at hb
    · cases vx.int; cases vy.int
      simp only [cmpI, Option.some.injEq] at hb; subst hb
      exact op_gt pins s σ H _ _ uv vv Q I ru rv ⟨_, _, rfl, rfl, q⟩
    · cases hb
  | GtE =>
    simp only at hb
    split at hb
    · cases vx.int; cases vy.int
      simp only [cmpI, Option.some.injEq] at hb; subst hb
      exact op_ge pins s σ H _ _ uv vv Q I ru rv ⟨_, _, rfl, rfl, q⟩
    · cases hb
end
end SS
/- SSF -/
set_option Elab.async false
set_option linter.all false
set_option maxRecDepth 100000
/-! Expressions put together. -/
namespace SS
open PySem PySem.Spec PyProof.Rows L2
section
variable {X : Cx} {W : XK} {a b c : Expr} {fa fb fc : Sg → Mem → Rs Vl} {pos : Pos}
/-- the last step: an operation of two values -/
theorem op2_end {K : PySem.W.Frag} {w w1 w2 : Wd} {η : Sg} {σ : L2.St} {H H1 H2 : Hp} {m2 : Mem} {x y : Vl} {u v : V} {g : Mem → Vl → Vl → Option Vl} {Q : VK} (e1 : ExtE w H w1 H1) (r1 : Sep w1 H1) (vx : VR K w1 H1 x u) (e2 : ExtE w1 H1 w2 H2)
    (r2 : Rel K w2 η m2 σ H2) (vy : VR K w2 H2 y v) (hA : AnsE K W w η σ H (VF K H) (Rs.opt m2 (g m2 x y)) Q) : rOp K g u v H2 Q := by
  obtain ⟨z, hz, hA⟩ := ans_opt' hA
  exact ⟨w2, η, m2, σ, x, y, z, r2, vx.ext r1 e2, vy, hz, fun w' v' H' e rel f => hA w' v' H' ((e1.trans e2).trans e) rel ⟨f.1, f.2.back (e1.trans e2)⟩⟩
theorem se_op2 {op : Operator} {g : Mem → Vl → Vl → Option Vl} (ho : OpR X (binaryOp op) (rOp X.K g)) (ha : SE X W a fa) (hb : SE X W b fb) :
    SE X W (.BinOp a op b pos) (fun η m => (fa η m).bind fun x m1 => (fb η m1).bind fun y m2 => Rs.opt m2 (g m2 x y)) :=
  PE.imp (pe_op ho ha hb) fun σ H Q ⟨w, η, m, rel, hA⟩ =>
    rd_bind (ExtE.refl w H) rel hA fun x m1 w1 u H1 e1 rel1 vx fx hA1 => rd_bind e1 rel1 hA1 fun y m2 w2 v H2 e2 rel2 vy fy hA2 => op2_end e1 rel1.sep vx e2 rel2 vy hA2
theorem se_cmp {op : CmpOp} (hu : X.A.units + 65 < cLine) (ha : SE X W a fa) (hb : SE X W b fb) (hm : behindInMarks op b = false) :
    SE X W (.Compare a [op] [b] pos) (fun η m => (fa η m).bind fun x m1 => (fb η m1).bind fun y m2 => (Rs.opt m2 (cmpV m2 op x y)).bind fun k m3 => .ok (.dat (.bool k)) m3) :=
  PE.imp (pe_cmpR (opv_cmp hu) ha hb hm) fun σ H Q ⟨w, η, m, rel, hA⟩ =>
    rd_bind (ExtE.refl w H) rel hA fun x m1 w1 u H1 e1 rel1 vx fx hA1 => rd_bind e1 rel1 hA1 fun y m2 w2 v H2 e2 rel2 vy fy hA2 => by
      refine op2_end (W := W) (g := cmpB op) e1 rel1.sep vx e2 rel2 vy ?_
      obtain ⟨k, hk, hA3⟩ := ans_opt hA2
      unfold cmpB
      rw [hk]
      exact hA3
theorem se_neg (ha : SE X W a fa) : SE X W (.UnaryOp .USub a pos) (fun η m => (fa η m).bind fun x m1 => match x with
    | .dat (.int i) => .ok (.dat (.int (-i))) m1
    | _ => .bad) :=
  PE.imp (pe_un un_neg ha) fun σ H Q ⟨w, η, m, rel, hA⟩ =>
    rd_bind (ExtE.refl w H) rel hA fun x m1 w1 u H1 e1 rel1 vx fx hA1 => by
      split at hA1
      · rename_i i
        exact ⟨i, vx.int, hA1 w1 _ H1 e1 rel1 ⟨VR.ofInt, trivial⟩⟩
      · exact hA1.elim
theorem boolV_R {K : PySem.W.Frag} {w : Wd} {H : Hp} {x : Vl} {u : V} {b : Bool} (vx : VR K w H x u) (h : boolV x = some b) : u = .bl b := by
  unfold boolV at h
  split at h
  · cases h; exact vx.bool
  · cases h
theorem se_not (ha : SE X W a fa) : SE X W (.UnaryOp .Not a pos) (fun η m => (fa η m).bind fun x m1 => (Rs.opt m1 (boolV x)).bind fun b m2 => .ok (.dat (.bool (!b))) m2) :=
  PE.imp (pe_not ha) fun σ H Q ⟨w, η, m, rel, hA⟩ =>
    rd_bind (ExtE.refl w H) rel hA fun x m1 w1 u H1 e1 rel1 vx fx hA1 => by
      obtain ⟨k, hk, hA2⟩ := ans_opt hA1
      exact ⟨k, boolV_R vx hk, hA2 w1 _ H1 e1 rel1 ⟨VR.ofBool, trivial⟩⟩
theorem se_and {b : Expr} {rest : List Expr} (ha : SE X W a fa) (hb : SE X W (.BoolOp .And (b :: rest) pos) fb) : SE X W (.BoolOp .And (a :: b :: rest) pos)
    (fun η m => (fa η m).bind fun x m1 => (Rs.opt m1 (boolV x)).bind fun b m2 => if b then fb η m2 else .ok (.dat (.bool false)) m2) :=
  PE.imp (pe_and ha hb) fun σ H Q ⟨w, η, m, rel, hA⟩ =>
    rd_bind (ExtE.refl w H) rel hA fun x m1 w1 u H1 e1 rel1 vx fx hA1 => by
      obtain ⟨k, hk, hA2⟩ := ans_opt hA1
      refine ⟨k, boolV_R vx hk, ?_⟩
      cases k with
      | true =>
        rw [if_pos rfl] at hA2 ⊢
        refine ⟨w1, η, m1, rel1, ?_⟩
        cases h : fb η m1 with
        | ok y m2 => rw [h] at hA2; exact fun w2 v H2 e2 rel2 f => hA2 w2 v H2 (e1.trans e2) rel2 ⟨f.1, f.2.back e1⟩
        | ex c m2 => rw [h] at hA2; exact fun w2 H2 e2 rel2 => hA2 w2 H2 (e1.trans e2) rel2
        | bad => rw [h] at hA2; exact hA2.elim
      | false => exact hA2 w1 _ H1 e1 rel1 ⟨VR.ofBool, trivial⟩
theorem se_or {b : Expr} {rest : List Expr} (ha : SE X W a fa) (hb : SE X W (.BoolOp .Or (b :: rest) pos) fb) : SE X W (.BoolOp .Or (a :: b :: rest) pos)
    (fun η m => (fa η m).bind fun x m1 => (Rs.opt m1 (boolV x)).bind fun b m2 => if b then .ok (.dat (.bool true)) m2 else fb η m2) :=
  PE.imp (pe_or ha hb) fun σ H Q ⟨w, η, m, rel, hA⟩ =>
    rd_bind (ExtE.refl w H) rel hA fun x m1 w1 u H1 e1 rel1 vx fx hA1 => by
      obtain ⟨k, hk, hA2⟩ := ans_opt hA1
      refine ⟨k, boolV_R vx hk, ?_⟩
      cases k with
      | false =>
        simp only [Bool.false_eq_true, if_false] at hA2 ⊢
        refine ⟨w1, η, m1, rel1, ?_⟩
        cases h : fb η m1 with
        | ok y m2 => rw [h] at hA2; exact fun w2 v H2 e2 rel2 f => hA2 w2 v H2 (e1.trans e2) rel2 ⟨f.1, f.2.back e1⟩
        | ex c m2 => rw [h] at hA2; exact fun w2 H2 e2 rel2 => hA2 w2 H2 (e1.trans e2) rel2
        | bad => rw [h] at hA2; exact hA2.elim
      | true => exact hA2 w1 _ H1 e1 rel1 ⟨VR.ofBool, trivial⟩
/-- an expression as a test -/
def rdT (K : PySem.W.Frag) (W : XK) (f : Sg → Mem → Rs Vl) : TT := fun σ H Q => rdE K W f σ H fun x H' => ∃ k, x = .bl k ∧ Q k H'
/-- what is left to do from a later state -/
theorem rd_go {K : PySem.W.Frag} {w w1 : Wd} {η : Sg} {σ : L2.St} {H H1 : Hp} {m1 : Mem} {f : Sg → Mem → Rs Vl} {Q : VK} (e1 : ExtE w H w1 H1) (rel1 : Rel K w1 η m1 σ H1) (hA : AnsE K W w η σ H (VF K H) (f η m1) Q) : rdE K W f σ H1 Q := by
  refine ⟨w1, η, m1, rel1, ?_⟩
  cases h : f η m1 with
  | ok y m2 => rw [h] at hA; exact fun w2 v H2 e2 rel2 f => hA w2 v H2 (e1.trans e2) rel2 ⟨f.1, f.2.back e1⟩
  | ex c m2 => rw [h] at hA; exact fun w2 H2 e2 rel2 => hA w2 H2 (e1.trans e2) rel2
  | bad => rw [h] at hA; exact hA.elim
/-- the forms of tests: the truth of an expression is what isTrue makes of it -/
structure ST (X : Cx) (W : XK) (e : Expr) (f : Sg → Mem → Rs Vl) : Prop where
  t : PT X e (rdT X.K W f)
theorem PT.imp {e : Expr} {t t' : TT} (h : PT X e t) (k : ∀ σ H Q, t' σ H Q → t σ H Q) : PT X e t' := ⟨fun pins s σ H Q I q => h.run pins s σ H Q I (k σ H Q q)⟩
theorem PW.imp {e : Expr} {t t' : TT} (h : PW X e t) (k : ∀ σ H Q, t' σ H Q → t σ H Q) : PW X e t' := ⟨fun whole pins s σ H Q I q => h.run whole pins s σ H Q I (k σ H Q q)⟩
theorem st_val (ha : SE X W a fa) (he : ∀ whole, isTrue a X.env whole = (do let v ← whole; standAt a.pos; holding [v] (truthy v))) : PT X a (rdT X.K W fa) := pt_val ha he
theorem st_cmp {op : CmpOp} (hu : X.A.units + 65 < cLine) (ha : SE X W a fa) (hb : SE X W b fb) (hm : behindInMarks op b = false) :
    PT X (.Compare a [op] [b] pos) (rdT X.K W fun η m => (fa η m).bind fun x m1 => (fb η m1).bind fun y m2 => (Rs.opt m2 (cmpV m2 op x y)).bind fun k m3 => .ok (.dat (.bool k)) m3) :=
  PT.imp (pt_cmpR (opv_cmp hu) ha hb hm) fun σ H Q ⟨w, η, m, rel, hA⟩ =>
    rd_bind (ExtE.refl w H) rel hA fun x m1 w1 u H1 e1 rel1 vx fx hA1 => rd_bind e1 rel1 hA1 fun y m2 w2 v H2 e2 rel2 vy fy hA2 => by
      refine op2_end (W := W) (g := cmpB op) e1 rel1.sep vx e2 rel2 vy ?_
      obtain ⟨k, hk, hA3⟩ := ans_opt hA2
      unfold cmpB
      rw [hk]
      exact hA3
theorem st_not (ha : PT X a (rdT X.K W fa)) : PT X (.UnaryOp .Not a pos) (rdT X.K W fun η m => (fa η m).bind fun x m1 => (Rs.opt m1 (boolV x)).bind fun b m2 => .ok (.dat (.bool (!b))) m2) :=
  PT.imp (pt_not ha) fun σ H Q ⟨w, η, m, rel, hA⟩ =>
    rd_bind (ExtE.refl w H) rel hA fun x m1 w1 u H1 e1 rel1 vx fx hA1 => by
      obtain ⟨k, hk, hA2⟩ := ans_opt hA1
      obtain ⟨k', e, q⟩ := hA2 w1 _ H1 e1 rel1 ⟨VR.ofBool, trivial⟩
      cases e
      exact ⟨k, boolV_R vx hk, q⟩
theorem st_one {op} (ha : PT X a (rdT X.K W fa)) : PW X (.BoolOp op [a] pos) (rdT X.K W fa) := match op with
  | .And => pw_and1 ha
  | .Or => pw_or1 ha
theorem st_and {b : Expr} {rest : List Expr} (ha : PT X a (rdT X.K W fa)) (hb : PW X (.BoolOp .And (b :: rest) pos) (rdT X.K W fb)) : PW X (.BoolOp .And (a :: b :: rest) pos)
    (rdT X.K W fun η m => (fa η m).bind fun x m1 => (Rs.opt m1 (boolV x)).bind fun b m2 => if b then fb η m2 else .ok (.dat (.bool false)) m2) :=
  PW.imp (pw_and ha hb) fun σ H Q ⟨w, η, m, rel, hA⟩ =>
    rd_bind (ExtE.refl w H) rel hA fun x m1 w1 u H1 e1 rel1 vx fx hA1 => by
      obtain ⟨k, hk, hA2⟩ := ans_opt hA1
      refine ⟨k, boolV_R vx hk, ?_⟩
      cases k with
      | true =>
        rw [if_pos rfl] at hA2 ⊢
        exact rd_go e1 rel1 hA2
      | false =>
        obtain ⟨k', e, q⟩ := hA2 w1 _ H1 e1 rel1 ⟨VR.ofBool, trivial⟩
        cases e
        exact q
theorem st_or {b : Expr} {rest : List Expr} (ha : PT X a (rdT X.K W fa)) (hb : PW X (.BoolOp .Or (b :: rest) pos) (rdT X.K W fb)) : PW X (.BoolOp .Or (a :: b :: rest) pos)
    (rdT X.K W fun η m => (fa η m).bind fun x m1 => (Rs.opt m1 (boolV x)).bind fun b m2 => if b then .ok (.dat (.bool true)) m2 else fb η m2) :=
  PW.imp (pw_or ha hb) fun σ H Q ⟨w, η, m, rel, hA⟩ =>
    rd_bind (ExtE.refl w H) rel hA fun x m1 w1 u H1 e1 rel1 vx fx hA1 => by
      obtain ⟨k, hk, hA2⟩ := ans_opt hA1
      refine ⟨k, boolV_R vx hk, ?_⟩
      cases k with
      | false =>
        simp only [Bool.false_eq_true, if_false] at hA2 ⊢
        exact rd_go e1 rel1 hA2
      | true =>
        obtain ⟨k', e, q⟩ := hA2 w1 _ H1 e1 rel1 ⟨VR.ofBool, trivial⟩
        cases e
        exact q
theorem se_ite (hc : PT X c (rdT X.K W fc)) (ha : SE X W a fa) (hb : SE X W b fb) : SE X W (.IfExp c a b pos)
    (fun η m => (fc η m).bind fun x m1 => (Rs.opt m1 (boolV x)).bind fun k m2 => if k then fa η m2 else fb η m2) :=
  PE.imp (pe_ifExp hc ha hb) fun σ H Q ⟨w, η, m, rel, hA⟩ =>
    rd_bind (ExtE.refl w H) rel hA fun x m1 w1 u H1 e1 rel1 vx fx hA1 => by
      obtain ⟨k, hk, hA2⟩ := ans_opt hA1
      refine ⟨k, boolV_R vx hk, ?_⟩
      cases k with
      | true =>
        rw [if_pos rfl] at hA2 ⊢
        exact rd_go e1 rel1 hA2
      | false =>
        simp only [Bool.false_eq_true, if_false] at hA2 ⊢
        exact rd_go e1 rel1 hA2
/-- a op b op' c -/
def chainF (op op' : CmpOp) (fa fb fc : Sg → Mem → Rs Vl) : Sg → Mem → Rs Vl := fun η m => (fa η m).bind fun x m1 => (fb η m1).bind fun y m2 => (Rs.opt m2 (cmpV m2 op x y)).bind fun k m3 =>
      if k then (fc η m3).bind fun z m4 => (Rs.opt m4 (cmpV m4 op' y z)).bind fun k' m5 => .ok (.dat (.bool k')) m5 else .ok (.dat (.bool false)) m3
theorem chain_rd {K : PySem.W.Frag} {op op' : CmpOp} {σ : L2.St} {H : Hp} {Q : VK} (h : rdE K W (chainF op op' fa fb fc) σ H Q) : tChain (rOp K (cmpB op)) (rOp K (cmpB op')) (rdE K W fa) (rdE K W fb) (rdE K W fc) σ H Q := by
  obtain ⟨w, η, m, rel, hA⟩ := h
  refine rd_bind (ExtE.refl w H) rel hA fun x m1 w1 u H1 e1 rel1 vx fx hA1 => rd_bind e1 rel1 hA1 fun y m2 w2 v H2 e2 rel2 vy fy hA2 => ?_
  obtain ⟨k, hk, hA3⟩ := ans_opt hA2
  refine ⟨w2, η, m2, σ, x, y, .dat (.bool k), rel2, vx.ext rel1.sep e2, vy, by unfold cmpB; rw [hk]; rfl, fun w3 v3 H3 e3 rel3 f3 => ?_⟩
  refine ⟨k, f3.1.bool, ?_⟩
  cases k with
  | true =>
    rw [if_pos rfl] at hA3 ⊢
    refine rd_bind ((e1.trans e2).trans e3) rel3 hA3 fun z m4 w4 v4 H4 e4 rel4 vz fz hA4 => ?_
    refine op2_end (W := W) (g := cmpB op') ((e1.trans e2).trans e3) rel3.sep (vy.ext rel2.sep e3) e4 rel4 vz ?_
    obtain ⟨k', hk', hA5⟩ := ans_opt hA4
    unfold cmpB
    rw [hk']
    exact hA5
  | false => exact hA3 w3 _ H3 ((e1.trans e2).trans e3) rel3 ⟨VR.ofBool, trivial⟩
theorem se_chain {op op' : CmpOp} (hu : X.A.units + 65 < cLine) (ha : SE X W a fa) (hb : SE X W b fb) (hc : SE X W c fc) (hm : lastMarks [op, op'] [b, c] = false) : SE X W (.Compare a [op, op'] [b, c] pos) (chainF op op' fa fb fc) :=
  PE.imp (pe_chain (opv_cmp hu) (opv_cmp hu) ha hb hc hm) fun σ H Q h => chain_rd h
theorem st_chain {op op' : CmpOp} (hu : X.A.units + 65 < cLine) (ha : SE X W a fa) (hb : SE X W b fb) (hc : SE X W c fc) (hm : lastMarks [op, op'] [b, c] = false) : PT X (.Compare a [op, op'] [b, c] pos) (rdT X.K W (chainF op op' fa fb fc)) :=
  PT.imp (pt_chain (opv_cmp hu) (opv_cmp hu) ha hb hc hm) fun σ H Q h => chain_rd h
end
end SS
/- SSG -/
set_option Elab.async false
set_option linter.all false
set_option maxRecDepth 100000
/-! Arguments, displays, calls. -/
namespace SS
open PySem PySem.Spec PyProof.Rows L2
def newAd : Vl → V → List Addr
  | .new _, .ref a => [a]
  | _, _ => []
def newAds : List Vl → List V → List Addr
  | x :: xs, v :: vs => newAd x v ++ newAds xs vs
  | _, _ => []
def VFs (K : PySem.W.Frag) (H : Hp) (w' : Wd) (H' : Hp) : List Vl → List V → Prop
  | [], vs => vs = []
  | x :: xs, vs => ∃ v r, vs = v :: r ∧ VR K w' H' x v ∧ FrV H H' x v ∧ VFs K H w' H' xs r ∧ ∀ a ∈ newAd x v, a ∉ newAds xs r
def rdA (K : PySem.W.Frag) (W : XK) (f : Sg → Mem → Rs (List Vl)) : TA := fun σ H Q => ∃ w η m, Rel K w η m σ H ∧ AnsE K W w η σ H (VFs K H) (f η m) Q
abbrev SA (X : Cx) (W : XK) (es : List Expr) (f : Sg → Mem → Rs (List Vl)) : Prop := PA X es (rdA X.K W f)
abbrev isStar : Expr → Bool := isStarB
theorem star_ok {e : Expr} {es : List Expr} {env : PySem.Env} (h : isStar e = false) : starEach (e :: es) env = (false, eval e env) :: starEach es env := by
  cases e <;> first | rfl | simp [isStarB] at h
section
variable {K : PySem.W.Frag} {W : XK} {w w1 : Wd} {η : Sg} {σ : L2.St} {H H1 : Hp} {m1 : Mem}
theorem nn_of (e : ExtE w H w1 H1) : ∀ x, H1 x = none → H x = none := fun x h => by
  cases q : H x with
  | none => rfl
  | some o => exact absurd h (e.dm x (by rw [q]; simp))
theorem VFs.back (e : ExtE w H w1 H1) : ∀ {H2 : Hp} {w2 : Wd} {xs : List Vl} {vs : List V}, VFs K H1 w2 H2 xs vs → VFs K H w2 H2 xs vs
  | _, _, [], _, h => h
  | _, _, x :: xs, vs, h => by
    obtain ⟨v, r, rfl, h1, h2, h3, h4⟩ := h
    exact ⟨v, r, rfl, h1, h2.back e, VFs.back e h3, h4⟩
theorem newAds_fresh : ∀ {H2 : Hp} {w2 : Wd} {xs : List Vl} {vs : List V}, VFs K H w2 H2 xs vs → ∀ a ∈ newAds xs vs, H a = none ∧ ¬ w2.F a ∧ a ∉ w2.ρ ∧ (∀ i, ¬ w2.ω i a) ∧ ∃ us, H2 a = some (.lst us)
  | _, _, [], vs, h, a, ha => by simp [newAds] at ha
  | _, _, x :: xs, vs, h, a, ha => by
    obtain ⟨v, r, rfl, h1, h2, h3, h4⟩ := h
    simp only [newAds, List.mem_append] at ha
    rcases ha with ha | ha
    · cases x with
      | new ys =>
        obtain ⟨b, us, rfl, q1, q2, q3, q4, q5⟩ := h1
        simp only [newAd, List.mem_singleton] at ha
        subst ha
        exact ⟨h2 a rfl, q3, q4, q5, us, q1⟩
      | _ => simp [newAd] at ha
    · exact newAds_fresh h3 a ha
theorem VFs.ext : ∀ {w2 : Wd} {H2 : Hp} {xs : List Vl} {vs : List V}, Sep w1 H1 → VFs K H w1 H1 xs vs → ExtE w1 H1 w2 H2 → VFs K H w2 H2 xs vs
  | _, _, [], _, _, h, _ => h
  | _, _, x :: xs, vs, s, h, e => by
    obtain ⟨v, r, rfl, h1, h2, h3, h4⟩ := h
    exact ⟨v, r, rfl, h1.ext s e, FrV.on h1 e h2, VFs.ext s h3 e, h4⟩
/-- arguments, then something -/
theorem rdA_bind {α β : Type} {R : Wd → Hp → α → β → Prop} {Q : β → Hp → Prop} {f : Sg → Mem → Rs (List Vl)} {g : List Vl → Mem → Rs α} {Qc : List V → Hp → Prop} (e : ExtE w H w1 H1) (rel : Rel K w1 η m1 σ H1) (hA : AnsE K W w η σ H R ((f η m1).bind g) Q)
    (k : ∀ x m2 w2 v H2, ExtE w1 H1 w2 H2 → Rel K w2 η m2 σ H2 → VFs K H1 w2 H2 x v → AnsE K W w η σ H R (g x m2) Q → Qc v H2) : rdA K W f σ H1 Qc := by
  refine ⟨w1, η, m1, rel, ?_⟩
  cases h : f η m1 with
  | ok x m2 =>
    rw [h] at hA
    exact fun w2 v H2 e2 rel2 vr => k x m2 w2 v H2 e2 rel2 vr hA
  | ex c m2 =>
    rw [h] at hA
    exact fun w2 H2 e2 rel2 => hA w2 H2 (e.trans e2) rel2
  | bad =>
    rw [h] at hA
    exact hA.elim
theorem PA.imp {X : Cx} {es : List Expr} {t t' : TA} (h : PA X es t) (k : ∀ σ H Q, t' σ H Q → t σ H Q) : PA X es t' := ⟨fun pos pins s σ H Q I q => h.run pos pins s σ H Q I (k σ H Q q)⟩
theorem sa_nil {X : Cx} : SA X W [] (fun _ m => .ok [] m) := PA.imp pa_nil fun σ H Q ⟨w, η, m, rel, hA⟩ => hA w [] H (ExtE.refl w H) rel rfl
theorem sa_cons {X : Cx} {e : Expr} {es : List Expr} {f : Sg → Mem → Rs Vl} {g : Sg → Mem → Rs (List Vl)} (ha : SE X W e f) (hr : SA X W es g) (hs : isStar e = false) :
    SA X W (e :: es) (fun η m => (f η m).bind fun x m1 => (g η m1).bind fun xs m2 => .ok (x :: xs) m2) :=
  PA.imp (pa_cons ha hr (star_ok hs)) fun σ H Q ⟨w, η, m, rel, hA⟩ =>
    rd_bind (ExtE.refl w H) rel hA fun x m1 w1 u H1 e1 rel1 vx fx hA1 => rdA_bind e1 rel1 hA1 fun xs m2 w2 us H2 e2 rel2 vs hA2 =>
      hA2 w2 (u :: us) H2 (e1.trans e2) rel2 ⟨u, us, rfl, vx.ext rel1.sep e2, FrV.on vx e2 fx, VFs.back e1 vs, fun a ha hn => by
        cases x with
        | new ys =>
          obtain ⟨b, zs, rfl, q1, _⟩ := vx
          simp only [newAd, List.mem_singleton] at ha
          subst ha
          have z := (newAds_fresh vs a hn).1
          rw [q1] at z
          cases z
        | _ => simp [newAd] at ha⟩
/-- a fresh list is frozen -/
theorem ext_froze {w2 : Wd} {H2 : Hp} {a : Addr} (e : ExtE w H w2 H2) (h : H a = none) : ExtE w H (w2.froze a) H2 := by
  refine ⟨fun b q => .inl (e.F b q), fun b q => ?_, e.ρ, e.ω, e.fr, e.dm⟩
  rcases q with q | rfl
  · exact e.F' b q
  · exact .inr h
theorem keeps_R {m : Mem} {H2 : Hp} : ∀ {xs : List Vl} {us : List V} {ds : List PyData} {w2 : Wd}, Rel K w2 η m σ H2 → ExtE w H w2 H2 → VFs K H w2 H2 xs us → keeps xs = some ds →
    ∃ w3, Rel K w3 η m σ H2 ∧ ExtE w H w3 H2 ∧ RDs w3.F H2 ds us ∧ (∀ b, w2.F b → w3.F b) ∧ w3.ρ = w2.ρ ∧ w3.ω = w2.ω
  | [], us, ds, w2, rel, e, vs, h => by
    cases vs
    simp only [keeps, Option.some.injEq] at h; subst h
    exact ⟨w2, rel, e, RDs.nil, fun _ q => q, rfl, rfl⟩
  | x :: xs, us, ds, w2, rel, e, vs, h => by
    obtain ⟨v, r, rfl, h1, h2, h3, h4⟩ := vs
    simp only [keeps] at h
    split at h
    · rename_i d ds' k1 k2
      cases h
      obtain ⟨w3, rel3, e3, r3, f3, p3, o3⟩ := keeps_R rel e h3 k2
      rcases keep_R rel h1 h2 k1 with ⟨q, _⟩ | ⟨a, us', xs', rfl, rfl, rfl, q1, q2, q3, q4, q5, q6⟩
      · exact ⟨w3, rel3, e3, RDs.cons (RD.mono f3 (fun _ _ _ h => h) (fun _ _ h => h) _ _ q) r3, f3, p3, o3⟩
      · refine ⟨w3.froze a, rel3.froze q1 (by rw [p3]; exact q4) (by rw [o3]; exact q5), ext_froze e3 q6, RDs.cons ?_ r3.froze, fun b q => .inl (f3 b q), p3, o3⟩
        simp only [RD]
        exact ⟨a, us', rfl, .inr rfl, q1, (RDs.mono f3 (fun _ _ _ h => h) (fun _ _ h => h) _ _ q2).froze⟩
    · cases h
end
section
variable {X : Cx} {W : XK} {es : List Expr} {f : Sg → Mem → Rs (List Vl)} {pos : Pos}
theorem pe_tupF {es : List Expr} {t : TA} {x1 : Nat} {pos : Pos} (h : PA X es t) : PE X (.Tuple es x1 pos) (fun σ H Q => t σ H fun xs H1 => xs.length ≤ sizeLine ∧ ∀ (p : Addr) (o : Obj), H1 p = none → o.dict = none → Q (.ref p) (upd H1 p (.frz o (.tup xs)))) := by
  refine ⟨fun pins s σ H Q I hq => ?_⟩
  refine wpAny_Tuple_spliced (thn (h.run pos pins s σ H _ I hq) fun us s1 ⟨xs, H1, I1, r, z, q⟩ => ⟨by rw [← r.length]; exact z, ?_⟩)
  have hf : H1 s1.heap.objs.size = none := I1.hok.fresh (Nat.le_refl _)
  refine ⟨.ref s1.heap.objs.size, upd H1 s1.heap.objs.size (.frz { cls := .type "tuple", data := .seq us.toArray } (.tup xs)), I1.laid (t' := s1.toks) (fun b u e => Heap.get?_push_of_some _ e) (Nat.le_refl _) ?_, rfl, q _ _ hf rfl⟩
  exact ⟨Heap.get?_push_size _ rfl, z, us, r, ⟨_, Heap.get?_push_size _ rfl, rfl, _, rfl⟩⟩
theorem se_tup {k : Nat} (h : SA X W es f) : SE X W (.Tuple es k pos) (fun η m => (f η m).bind fun vs m1 => (Rs.opt m1 (keeps vs)).bind fun ds m2 => if fits ds.length then .ok (.dat (.tuple ds)) m2 else .bad) :=
  PE.imp (pe_tupF h) fun σ H Q ⟨w, η, m, rel, hA⟩ => rdA_bind (ExtE.refl w H) rel hA fun xs m2 w2 us H2 e2 rel2 vs hA2 => by
    obtain ⟨ds, hk, hA3⟩ := ans_opt hA2
    obtain ⟨hf, hA4⟩ := ans_if hA3
    obtain ⟨w3, rel3, e3, r3, _⟩ := keeps_R rel2 e2 vs hk
    refine ⟨by rw [r3.len]; exact line_fits hf, fun p o np hd => ?_⟩
    have z := new_tup rel3 np r3 hd
    exact hA4 w3 _ _ (e3.trans (ext_new rel3.sep np)) (rel3.new np) ⟨z.1, trivial⟩
theorem se_lst (h : SA X W es f) : SE X W (.List es pos) (fun η m => (f η m).bind fun vs m1 => (Rs.opt m1 (keeps vs)).bind fun ds m2 => if fits ds.length then .ok (.new ds) m2 else .bad) :=
  PE.imp (pe_lst h) fun σ H Q ⟨w, η, m, rel, hA⟩ => rdA_bind (ExtE.refl w H) rel hA fun xs m2 w2 us H2 e2 rel2 vs hA2 => by
    obtain ⟨ds, hk, hA3⟩ := ans_opt hA2
    obtain ⟨hf, hA4⟩ := ans_if hA3
    obtain ⟨w3, rel3, e3, r3, _⟩ := keeps_R rel2 e2 vs hk
    refine ⟨by rw [r3.len]; exact line_fits hf, fun p np => ?_⟩
    have z := new_lst rel3 np r3
    exact hA4 w3 _ _ (e3.trans (ext_new rel3.sep np)) (rel3.new np) ⟨z.1, z.2.back e3⟩
end
/-! ### calls of the program's own defs -/
def ArgsR (K : PySem.W.Frag) (w : Wd) (H : Hp) : List Vl → List V → Prop
  | [], vs => vs = []
  | x :: xs, vs => ∃ v r, vs = v :: r ∧ VR K w H x v ∧ (∀ i, SlotR K w H i x v) ∧ ArgsR K w H xs r
def AnsF (K : PySem.W.Frag) (E : XK) (w : Wd) (H : Hp) (r : Rs Vl) (Q : VK) : Prop := match r with
  | .ok r m' => ∀ w' v H', ExtE w H w' H' → Sep w' H' → MR w' m' H' → VF K H w' H' r v → Q v H'
  | .ex c m' => ∀ w' H', ExtE w H w' H' → Sep w' H' → MR w' m' H' → E (.ref (He.ga K c)) none H'
  | .bad => False
/-- a def's promise, by the evaluator -/
def spF (K : PySem.W.Frag) (S : List Vl → Mem → Rs Vl) (np : Nat) : Sp := fun vs H Q E => vs.length = np ∧ ∃ w as m, Sep w H ∧ (∀ i a, ¬ w.ω i a) ∧ MR w m H ∧ ArgsR K w H as vs ∧ AnsF K E w H (S as m) Q
def Wd.bare (w : Wd) (L : Addr → Prop) : Wd := { F := fun b => w.F b ∨ L b, ρ := w.ρ, ω := fun _ _ => False }
section
variable {K : PySem.W.Frag} {W : XK} {w w1 : Wd} {η : Sg} {σ : L2.St} {H H1 : Hp} {m1 : Mem}
/-- what is lent -/
def lentR (H : Hp) : Vl → V → Addr → Prop
  | .bor _, .ref a, b => b = a
  | .bor2 rows, .ref a, b => b = a ∨ ∃ as : List Addr, H a = some (.lst (as.map V.ref)) ∧ b ∈ as
  | _, _, _ => False
theorem RD.bare {w : Wd} {L : Addr → Prop} {d : PyData} {v : V} (h : RD w.F H d v) : RD (w.bare L).F H d v := RD.mono (fun _ h => .inl h) (fun _ _ _ h => h) (fun _ _ h => h) d v h
theorem RDs.bare {w : Wd} {L : Addr → Prop} {d : List PyData} {v : List V} (h : RDs w.F H d v) : RDs (w.bare L).F H d v := RDs.mono (fun _ h => .inl h) (fun _ _ _ h => h) (fun _ _ h => h) d v h
theorem RwR.lists : ∀ {rows : List (List PyData)} {as : List Addr} {w : Wd} {L : Addr → Prop}, RwR w.F H rows as → (∀ b ∈ as, L b) → RDs (w.bare L).F H (rows.map .list) (as.map V.ref)
  | [], as, w, L, h, _ => by simp only [RwR] at h; subst h; exact RDs.nil
  | r :: rs, as, w, L, h, k => by
    simp only [RwR] at h
    obtain ⟨a, as', rfl, ⟨vs, h1, h2⟩, h3⟩ := h
    refine RDs.cons ?_ (RwR.lists h3 fun b hb => k b (by simp [hb]))
    simp only [RD]
    exact ⟨a, vs, rfl, .inr (k a (by simp)), h1, h2.bare⟩
def lents (H : Hp) : List Vl → List V → Addr → Prop
  | x :: xs, v :: vs, b => lentR H x v b ∨ lents H xs vs b
  | _, _, _ => False
theorem args_R {m : Mem} {H2 : Hp} : ∀ {xs : List Vl} {us : List V} {as : List Vl} {lent : Bool} {w2 : Wd}, Rel K w2 η m σ H2 → ExtE w H w2 H2 → VFs K H w2 H2 xs us → argsOf xs = some (as, lent) →
    ∃ w3, Rel K w3 η m σ H2 ∧ ExtE w H w3 H2 ∧ (∀ b, w2.F b → w3.F b) ∧ w3.ρ = w2.ρ ∧ w3.ω = w2.ω ∧ (∀ L : Addr → Prop, (∀ b, lents H2 xs us b → L b) → ArgsR K (w3.bare L) H2 as us) ∧
      (∀ b, lents H2 xs us b → b ∉ w2.ρ ∧ ∃ vs, H2 b = some (.lst vs)) ∧ (lent = false → ∀ b, ¬ lents H2 xs us b)
  | [], us, as, lent, w2, rel, e, vs, h => by
    cases vs
    simp only [argsOf, Option.some.injEq, Prod.mk.injEq] at h
    obtain ⟨rfl, rfl⟩ := h
    exact ⟨w2, rel, e, fun _ q => q, rfl, rfl, fun _ _ => rfl, fun b hb => hb.elim, fun _ b hb => hb⟩
  | x :: xs, us, as, lent, w2, rel, e, vs, h => by
    obtain ⟨v, r, rfl, h1, h2, h3, h4⟩ := vs
    simp only [argsOf] at h
    split at h
    · rename_i a' b' as' bs' k1 k2
      simp only [Option.some.injEq, Prod.mk.injEq] at h
      obtain ⟨rfl, rfl⟩ := h
      obtain ⟨w3, rel3, e3, f3, p3, o3, A3, l3, n3⟩ := args_R rel e h3 k2
      have mono : ∀ {d v}, RD w2.F H2 d v → RD w3.F H2 d v := fun {d v} q => RD.mono f3 (fun _ _ _ h => h) (fun _ _ h => h) d v q
      have monos : ∀ {d v}, RDs w2.F H2 d v → RDs w3.F H2 d v := fun {d v} q => RDs.mono f3 (fun _ _ _ h => h) (fun _ _ h => h) d v q
      cases x with
      | dat d =>
        simp only [argOf, Option.some.injEq, Prod.mk.injEq] at k1
        obtain ⟨rfl, rfl⟩ := k1
        refine ⟨w3, rel3, e3, f3, p3, o3, fun L hL => ⟨v, r, rfl, (mono h1).bare, fun i => (mono h1).bare, A3 L fun b hb => hL b (.inr hb)⟩, fun b hb => ?_, fun hl b hb => ?_⟩
        · rcases hb with hb | hb
          · exact hb.elim
          · exact l3 b hb
        · rcases hb with hb | hb
          · exact hb
          · exact n3 (by simpa using hl) b hb
      | ref c =>
        simp only [argOf, Option.some.injEq, Prod.mk.injEq] at k1
        obtain ⟨rfl, rfl⟩ := k1
        obtain ⟨z, rfl, hz⟩ := h1
        refine ⟨w3, rel3, e3, f3, p3, o3, fun L hL => ⟨_, r, rfl, ⟨z, rfl, by rw [← p3] at hz; exact hz⟩, fun i => ⟨z, rfl, by rw [← p3] at hz; exact hz⟩, A3 L fun b hb => hL b (.inr hb)⟩, fun b hb => ?_, fun hl b hb => ?_⟩
        · rcases hb with hb | hb
          · exact hb.elim
          · exact l3 b hb
        · rcases hb with hb | hb
          · exact hb
          · exact n3 (by simpa using hl) b hb
      | scr ns =>
        simp only [argOf, Option.some.injEq, Prod.mk.injEq] at k1
        obtain ⟨rfl, rfl⟩ := k1
        obtain ⟨z, rfl, hz⟩ := h1
        refine ⟨w3, rel3, e3, f3, p3, o3, fun L hL => ⟨_, r, rfl, ⟨z, rfl, hz⟩, fun i => ⟨z, rfl, hz⟩, A3 L fun b hb => hL b (.inr hb)⟩, fun b hb => ?_, fun hl b hb => ?_⟩
        · rcases hb with hb | hb
          · exact hb.elim
          · exact l3 b hb
        · rcases hb with hb | hb
          · exact hb
          · exact n3 (by simpa using hl) b hb
      | new ys =>
        simp only [argOf, Option.some.injEq, Prod.mk.injEq] at k1
        obtain ⟨rfl, rfl⟩ := k1
        obtain ⟨z, zs, rfl, q1, q2, q3, q4, q5⟩ := h1
        have rd : ∀ L, RD ((w3.froze z).bare L).F H2 (.list ys) (.ref z) := fun L => by
          simp only [RD]
          exact ⟨z, zs, rfl, .inl (.inr rfl), q1, (monos q2).froze.bare⟩
        have up : ∀ {L x v}, (VR K (w3.bare L) H2 x v ∧ ∀ i, SlotR K (w3.bare L) H2 i x v) → True := fun _ => trivial
        refine ⟨w3.froze z, rel3.froze q1 (by rw [p3]; exact q4) (by rw [o3]; exact q5), ext_froze e3 (h2 z rfl), fun b q => .inl (f3 b q), p3, o3, fun L hL => ⟨_, r, rfl, rd L, fun i => rd L, ?_⟩, fun b hb => ?_, fun hl b hb => ?_⟩
        · have z2 := A3 (fun b => L b ∨ b = z) fun b hb => .inl (hL b (.inr hb))
          have e1 : (w3.froze z).bare L = w3.bare (fun b => L b ∨ b = z) := by
            unfold Wd.froze Wd.bare
            congr
            funext b
            apply propext
            constructor
            · rintro ((h | h) | h)
              · exact .inl h
              · exact .inr (.inr h)
              · exact .inr (.inl h)
            · rintro (h | h | h)
              · exact .inl (.inl h)
              · exact .inr h
              · exact .inl (.inr h)
          rw [e1]
          exact z2
        · rcases hb with hb | hb
          · exact hb.elim
          · exact l3 b hb
        · rcases hb with hb | hb
          · exact hb
          · exact n3 (by simpa using hl) b hb
      | bor ys =>
        simp only [argOf, Option.some.injEq, Prod.mk.injEq] at k1
        obtain ⟨rfl, rfl⟩ := k1
        obtain ⟨z, zs, rfl, q1, q2, q3⟩ := h1
        have rd : ∀ L : Addr → Prop, L z → RD (w3.bare L).F H2 (.list ys) (.ref z) := fun L hz => by
          simp only [RD]
          exact ⟨z, zs, rfl, .inr hz, q1, (monos q2).bare⟩
        refine ⟨w3, rel3, e3, f3, p3, o3, fun L hL => ⟨_, r, rfl, rd L (hL z (.inl rfl)), fun i => rd L (hL z (.inl rfl)), A3 L fun b hb => hL b (.inr hb)⟩, fun b hb => ?_, fun hl => by simp at hl⟩
        rcases hb with hb | hb
        · cases hb; exact ⟨q3, zs, q1⟩
        · exact l3 b hb
      | bor2 rows =>
        simp only [argOf, Option.some.injEq, Prod.mk.injEq] at k1
        obtain ⟨rfl, rfl⟩ := k1
        obtain ⟨z, zs, rfl, q1, q2, q3⟩ := h1
        have q2' : RwR w3.F H2 rows zs := by
          clear k2
          have go : ∀ {rows : List (List PyData)} {zs : List Addr}, RwR w2.F H2 rows zs → RwR w3.F H2 rows zs := by
            intro rows
            induction rows with
            | nil => intro zs h; simpa only [RwR] using h
            | cons r rs ih =>
              intro zs h
              simp only [RwR] at h ⊢
              obtain ⟨a, as', rfl, ⟨vs, h1, h2⟩, h3⟩ := h
              exact ⟨a, as', rfl, ⟨vs, h1, monos h2⟩, ih h3⟩
          exact go q2
        have rd : ∀ L : Addr → Prop, (∀ b, lentR H2 (.bor2 rows) (.ref z) b → L b) → RD (w3.bare L).F H2 (.list (rows.map .list)) (.ref z) := fun L hz => by
          simp only [RD]
          exact ⟨z, _, rfl, .inr (hz z (.inl rfl)), q1, RwR.lists q2' fun b hb => hz b (.inr ⟨zs, q1, hb⟩)⟩
        refine ⟨w3, rel3, e3, f3, p3, o3, fun L hL => ⟨_, r, rfl, rd L fun b hb => hL b (.inl hb), fun i => rd L fun b hb => hL b (.inl hb), A3 L fun b hb => hL b (.inr hb)⟩, fun b hb => ?_, fun hl => by simp at hl⟩
        rcases hb with hb | hb
        · rcases hb with rfl | ⟨as, ha, hb⟩
          · exact ⟨q3 b (by simp), _, q1⟩
          · have ez : as = zs := by
              rw [q1] at ha
              injection ha with ha
              injection ha with ha
              exact ((List.map_inj_right (fun x y z => by injection z)).mp ha).symm
            subst ez
            exact ⟨q3 b (by simp [hb]), q2.there b hb⟩
        · exact l3 b hb
      | new2 rows => simp [argOf] at k1
    · cases h
end
end SS
/- SSH -/
set_option Elab.async false
set_option linter.all false
set_option maxRecDepth 100000
/-! The call of a def. -/
namespace SS
open PySem PySem.Spec PyProof.Rows L2
section
variable {K : PySem.W.Frag} {W : XK} {w w1 : Wd} {η : Sg} {σ : L2.St} {H H1 : Hp} {m1 : Mem}
theorem ArgsR.len : ∀ {as : List Vl} {us : List V} {w : Wd} {H : Hp}, ArgsR K w H as us → us.length = as.length
  | [], us, _, _, h => by cases h; rfl
  | a :: as, us, _, _, h => by
    obtain ⟨v, r, rfl, _, _, h⟩ := h
    simp [ArgsR.len h]
/-- the caller's world behind a call -/
theorem call_back {m m' : Mem} {w3 wc : Wd} {H2 H' : Hp} {L : Addr → Prop} {r : Vl} {v : V} {lent : Bool} (rel : Rel K w3 η m σ H2) (hL : ∀ b, L b → b ∉ w3.ρ ∧ ∃ vs, H2 b = some (.lst vs)) (hn : lent = false → ∀ b, ¬ L b) (hr : (lent && !noLstV r) = false)
    (e : ExtE (w3.bare L) H2 wc H') (sp : Sep wc H') (mr : MR wc m' H') (vf : VF K H2 wc H' r v) : ∃ w4, ExtE w3 H2 w4 H' ∧ Rel K w4 η m' σ H' ∧ VF K H2 w4 H' r v := by
  have h3 : ∀ a i, w3.ω i a → ∃ vs, H2 a = some (.lst vs) ∧ a ∉ w3.ρ := fun a i q => by
    obtain ⟨vs, z⟩ := rel.sep.oh a i q
    exact ⟨vs, z, fun y => rel.sep.ro a i y q⟩
  have nω : ∀ a i, H2 a = none → ¬ w3.ω i a := fun a i q z => by
    obtain ⟨vs, y, _⟩ := h3 a i z
    rw [q] at y; cases y
  have mρ : ∀ a, a ∈ wc.ρ → a ∈ w3.ρ ∨ H2 a = none := fun a q => e.mem q
  cases lent with
  | false =>
    have hF : ∀ a, wc.F a → w3.F a ∨ H2 a = none := fun a q => by
      rcases e.F' a q with (q | q) | q
      · exact .inl q
      · exact (hn rfl a q).elim
      · exact .inr q
    have e4 : ExtE w3 H2 { wc with ω := w3.ω } H' := ⟨fun a q => e.F a (.inl q), hF, e.ρ, rfl, e.fr, e.dm⟩
    refine ⟨{ wc with ω := w3.ω }, e4, ⟨⟨sp.fr, fun a i q z => ?_, fun a i q z => ?_, rel.sep.oo, sp.rn, sp.fh, fun a i q => ?_, sp.rh⟩, mr, rel.slo.ext rel.sep e4⟩, ?_, vf.2⟩
    · rcases hF a q with q | q
      · exact rel.sep.fo a i q z
      · exact nω a i q z
    · rcases mρ a q with q | q
      · exact rel.sep.ro a i q z
      · exact nω a i q z
    · obtain ⟨vs, z, y⟩ := h3 a i q
      exact ⟨vs, e.fr a _ z y⟩
    · obtain ⟨vr, fv⟩ := vf
      cases r with
      | new xs =>
        obtain ⟨a, vs, rfl, q1, q2, q3, q4, q5⟩ := vr
        exact ⟨a, vs, rfl, q1, q2, q3, q4, fun i => nω a i (fv a rfl)⟩
      | new2 rows =>
        obtain ⟨a, as, rfl, q1, q2, q3, q4⟩ := vr
        exact ⟨a, as, rfl, q1, q2, q3, fun b hb => ⟨(q4 b hb).1, (q4 b hb).2.1, fun i => nω b i (fv a as rfl q1 b hb)⟩⟩
      | dat d => exact vr
      | ref c => exact vr
      | bor xs => exact vr
      | bor2 xs => exact vr
      | scr xs => exact vr
  | true =>
    have hr' : noLstV r = true := by simpa using hr
    have e4 : ExtE w3 H2 { F := w3.F, ρ := wc.ρ, ω := w3.ω } H' := ⟨fun a q => q, fun a q => .inl q, e.ρ, rfl, e.fr, e.dm⟩
    refine ⟨{ F := w3.F, ρ := wc.ρ, ω := w3.ω }, e4, ⟨⟨fun a q z => ?_, rel.sep.fo, fun a i q z => ?_, rel.sep.oo, sp.rn, fun a q => ?_, fun a i q => ?_, sp.rh⟩, ⟨mr.1, fun c cell a q1 q2 => ?_⟩, rel.slo.ext rel.sep e4⟩, ?_, vf.2⟩
    · rcases mρ a z with z | z
      · exact rel.sep.fr a q z
      · obtain ⟨_, y⟩ := rel.sep.fh a q
        rw [z] at y; cases y
    · rcases mρ a q with q | q
      · exact rel.sep.ro a i q z
      · exact nω a i q z
    · obtain ⟨vs, y⟩ := rel.sep.fh a q
      exact ⟨vs, e.fr a _ y (rel.sep.fr a q)⟩
    · obtain ⟨vs, z, y⟩ := h3 a i q
      exact ⟨vs, e.fr a _ z y⟩
    · have z := mr.2 c cell a q1 q2
      cases cell with
      | lst xs =>
        obtain ⟨n, vs, z1, z2⟩ := z
        exact ⟨n, vs, z1, RDs.noLst _ _ n z2⟩
      | ins fs => exact z.elim
    · obtain ⟨vr, fv⟩ := vf
      cases r with
      | new xs =>
        obtain ⟨a, vs, rfl, q1, q2, q3, q4, q5⟩ := vr
        refine ⟨a, vs, rfl, q1, RDs.noLst _ _ hr' q2, fun z => q3 (e.F a (.inl z)), q4, fun i => nω a i (fv a rfl)⟩
      | dat d => exact RD.noLst _ _ hr' vr
      | ref c => exact vr
      | _ => simp [noLstV] at hr'
theorem stars_ok {env : PySem.Env} {pos : Pos} : ∀ {es : List Expr}, es.all (fun e => !isStar e) = true → (backTo pos (starEach es env)).any (·.1) = false
  | [], _ => rfl
  | e :: es, h => by
    simp only [List.all_cons, Bool.and_eq_true, Bool.not_eq_true'] at h
    rw [star_ok h.1]
    have ih := stars_ok (env := env) (pos := pos) h.2
    unfold backTo at ih ⊢
    simp only [List.map_cons, List.any_cons, Bool.false_or]
    exact ih
end
section
variable {X : Cx} {W : XK} {CX : CXT} {k : Nat} {f : Addr} {fd : FuncData} {ps : List Str} {x : Str} {p pos : Pos} {e : Expr} {es : List Expr} {g : Sg → Mem → Rs (List Vl)} {S : Fo} {fid : Nat}
theorem call_rd {σ : L2.St} {H : Hp} {Q : VK} (hlen : ∀ as m, as.length ≠ ps.length → S fid as m = .bad) (h : rdE X.K W (fun η m => (g η m).bind fun vs m1 => callV S fid vs m1) σ H Q) : tCall (spF X.K (S fid) ps.length) [] W (rdA X.K W g) σ H Q := by
  obtain ⟨w, η, m, rel, hA⟩ := h
  refine rdA_bind (ExtE.refl w H) rel hA fun xs m2 w2 us H2 e2 rel2 vs hA2 => ?_
  show spF X.K (S fid) ps.length (us ++ []) H2 Q W
  rw [List.append_nil]
  unfold callV at hA2
  split at hA2
  · exact hA2.elim
  · rename_i as lent ha
    obtain ⟨w3, rel3, e3, f3, p3, o3, A3, l3, n3⟩ := args_R rel2 e2 vs ha
    have hL : ∀ b, lents H2 xs us b → b ∉ w3.ρ ∧ ∃ vs, H2 b = some (.lst vs) := fun b hb => by rw [p3]; exact l3 b hb
    have AR := A3 (lents H2 xs us) fun _ h => h
    have hl : us.length = ps.length := by
      rw [AR.len]
      refine Decidable.byContradiction fun n => ?_
      rw [hlen as m2 n] at hA2
      exact hA2
    have sp : Sep (w3.bare (lents H2 xs us)) H2 := by
      refine ⟨fun a q => ?_, fun a i _ z => z, fun a i _ z => z, fun a i j z => z.elim, rel3.sep.rn, fun a q => ?_, fun a i z => z.elim, rel3.sep.rh⟩
      · rcases q with q | q
        · exact rel3.sep.fr a q
        · exact (hL a q).1
      · rcases q with q | q
        · exact rel3.sep.fh a q
        · exact (hL a q).2
    have mr : MR (w3.bare (lents H2 xs us)) m2 H2 := ⟨rel3.mem.1, fun c cell a q1 q2 => by
      have z := rel3.mem.2 c cell a q1 q2
      cases cell with
      | lst ys =>
        obtain ⟨n, vs, z1, z2⟩ := z
        exact ⟨n, vs, z1, z2.bare⟩
      | ins fs => exact z.elim⟩
    refine ⟨hl, w3.bare (lents H2 xs us), as, m2, sp, fun _ _ z => z, mr, AR, ?_⟩
    cases hS : S fid as m2 with
    | ok r m' =>
      rw [hS] at hA2
      simp only [Rs.bind_ok] at hA2
      intro wc v H' ec spc mrc vf
      cases hb : (lent && !noLstV r) with
      | true => rw [hb] at hA2; exact hA2.elim
      | false =>
        rw [hb] at hA2
        obtain ⟨w4, e4, rel4, vf4⟩ := call_back rel3 hL n3 hb ec spc mrc vf
        exact hA2 w4 v H' (e3.trans e4) rel4 ⟨vf4.1, vf4.2.back e3⟩
    | ex c m' =>
      rw [hS] at hA2
      intro wc H' ec spc mrc
      obtain ⟨w4, e4, rel4, vf4⟩ := call_back (r := .dat .none) (v := .non) (lent := lent) rel3 hL n3 (by simp [noLstV, noLst]) ec spc mrc ⟨VR.ofNone, trivial⟩
      exact hA2 w4 H' (e3.trans e4) rel4
    | bad => rw [hS] at hA2; exact hA2.elim
theorem se_call (F : FnOk X.prog X.w X.K X.mg X.base CX k f fd ps (spF X.K (S fid) ps.length)) (hlen : ∀ as m, as.length ≠ ps.length → S fid as m = .bad) (hr : Room k X.A) (hg : Gl X x) (hm : X.mg x = some (.ref f)) (hk : PySem.W.keepIn X.K (.ref f) = true) (hb : Binds X.K fd ps [])
    (hx : Passes CX X W) (ha : SA X W (e :: es) g) (hdb : (x == ("__debug__" : Str)) = false) (he : isStar e = false) (hpl : es.all (fun e => !isStar e) = true) :
    SE X W (.Call (.Name x p) (e :: es) [] pos) (fun η m => (g η m).bind fun vs m1 => callV S fid vs m1) :=
  PE.imp (pe_call F hr hg hm hk hb .nil hx ha hdb (star_ok he) (stars_ok hpl)) fun σ H Q h => call_rd hlen h
end
end SS
/- SSI -/
set_option Elab.async false
set_option linter.all false
set_option maxRecDepth 100000
/-! Built-ins, subscripts, slices. -/
namespace SS
open PySem PySem.Spec PyProof.Rows L2
def rUnC (K : PySem.W.Frag) (g : Mem → Vl → Option Vl) : List V → Hp → VK → Prop := fun vs H Q => ∃ u, vs = [u] ∧ rUn K g u H Q
section
variable {K : PySem.W.Frag} {W : XK} {w w1 : Wd} {η : Sg} {σ : L2.St} {H H1 : Hp} {m1 : Mem}
theorem un_end {x : Vl} {u : V} {g : Mem → Vl → Option Vl} {Q : VK} (e1 : ExtE w H w1 H1) (r1 : Rel K w1 η m1 σ H1) (vx : VR K w1 H1 x u) (hA : AnsE K W w η σ H (VF K H) (Rs.opt m1 (g m1 x)) Q) : rUn K g u H1 Q := by
  obtain ⟨z, hz, hA⟩ := ans_opt' hA
  exact ⟨w1, η, m1, σ, x, z, r1, vx, hz, fun w' v' H' e rel f => hA w' v' H' (e1.trans e) rel ⟨f.1, f.2.back e1⟩⟩
theorem RwR.len : ∀ {rows : List (List PyData)} {as : List Addr} {F : Addr → Prop}, RwR F H rows as → as.length = rows.length
  | [], as, F, h => by simp only [RwR] at h; subst h; rfl
  | r :: rs, as, F, h => by
    simp only [RwR] at h
    obtain ⟨a, as', rfl, _, h3⟩ := h
    simp [RwR.len h3]
theorem RwR.get : ∀ {rows : List (List PyData)} {as : List Addr} {F : Addr → Prop} {i : Nat} {r : List PyData}, RwR F H rows as → rows[i]? = some r → ∃ a vs, as[i]? = some a ∧ H a = some (.lst vs) ∧ RDs F H r vs
  | [], as, F, i, r, h, q => by simp at q
  | r :: rs, as, F, 0, r', h, q => by
    simp only [RwR] at h
    obtain ⟨a, as', rfl, ⟨vs, h1, h2⟩, h3⟩ := h
    simp at q; subst q
    exact ⟨a, vs, rfl, h1, h2⟩
  | r :: rs, as, F, i + 1, r', h, q => by
    simp only [RwR] at h
    obtain ⟨a, as', rfl, _, h3⟩ := h
    obtain ⟨b, vs, h4, h5⟩ := RwR.get (i := i) h3 (by simpa using q)
    exact ⟨b, vs, by simpa using h4, h5⟩
theorem maxL_mem : ∀ (r : List Int) (a : Int), maxL a r ∈ a :: r
  | [], a => by simp [maxL]
  | b :: r, a => by
    simp only [maxL]
    by_cases c : a < b
    · rw [if_pos c]
      have ih := maxL_mem r b
      simp only [List.mem_cons] at ih ⊢
      exact .inr ih
    · rw [if_neg c]
      have ih := maxL_mem r a
      simp only [List.mem_cons] at ih ⊢
      rcases ih with ih | ih
      · exact .inl ih
      · exact .inr (.inr ih)
theorem maxL_le : ∀ (r : List Int) (a : Int), ∀ y ∈ a :: r, y ≤ maxL a r
  | [], a, y, h => by simp only [List.mem_singleton] at h; subst h; simp [maxL]
  | b :: r, a, y, h => by
    have ih := maxL_le r (if a < b then b else a)
    simp only [maxL]
    have h0 := ih (if a < b then b else a) (by simp)
    simp only [List.mem_cons] at h
    rcases h with rfl | rfl | h
    · split at h0 <;> split <;> omega
    · split at h0 <;> split <;> omega
    · exact ih y (by simp [h])
theorem minL_mem : ∀ (r : List Int) (a : Int), minL a r ∈ a :: r
  | [], a => by simp [minL]
  | b :: r, a => by
    simp only [minL]
    by_cases c : b < a
    · rw [if_pos c]
      have ih := minL_mem r b
      simp only [List.mem_cons] at ih ⊢
      exact .inr ih
    · rw [if_neg c]
      have ih := minL_mem r a
      simp only [List.mem_cons] at ih ⊢
      rcases ih with ih | ih
      · exact .inl ih
      · exact .inr (.inr ih)
theorem minL_le : ∀ (r : List Int) (a : Int), ∀ y ∈ a :: r, minL a r ≤ y
  | [], a, y, h => by simp only [List.mem_singleton] at h; subst h; simp [minL]
  | b :: r, a, y, h => by
    have ih := minL_le r (if b < a then b else a)
    simp only [minL]
    have h0 := ih (if b < a then b else a) (by simp)
    simp only [List.mem_cons] at h
    rcases h with rfl | rfl | h
    · split at h0 <;> split <;> omega
    · split at h0 <;> split <;> omega
    · exact ih y (by simp [h])
end
section
variable {X : Cx} {W : XK} {a b : Expr} {fa fb : Sg → Mem → Rs Vl} {p pos : Pos} {x : Str} {id : String}
/-- f(a), f a built-in function -/
theorem se_bf {g : Mem → Vl → Option Vl} (hc : CallR X (.builtin id) (rUnC X.K g)) (hg : Gl X x) (hm : X.mg x = none) (hv : bootBuiltins x = some (.builtin id)) (ha : SE X W a fa) (hn : x ≠ "__name__") (hdb : (x == ("__debug__" : Str)) = false) (hs : isStar a = false) :
    SE X W (.Call (.Name x p) [a] [] pos) (fun η m => (fa η m).bind fun x m1 => Rs.opt m1 (g m1 x)) :=
  PE.imp (pe_callB hc hg hm hv (pa_cons ha pa_nil (star_ok hs)) hn hdb (star_ok hs) rfl) fun σ H Q ⟨w, η, m, rel, hA⟩ =>
    rd_bind (ExtE.refl w H) rel hA fun x m1 w1 u H1 e1 rel1 vx fx hA1 => ⟨u, rfl, un_end e1 rel1 vx hA1⟩
theorem se_bt {g : Mem → Vl → Option Vl} (hc : CallR X (.type id) (rUnC X.K g)) (hg : Gl X x) (hm : X.mg x = none) (hv : bootBuiltins x = some (.type id)) (ha : SE X W a fa) (hn : x ≠ "__name__") (hdb : (x == ("__debug__" : Str)) = false) (hs : isStar a = false) :
    SE X W (.Call (.Name x p) [a] [] pos) (fun η m => (fa η m).bind fun x m1 => Rs.opt m1 (g m1 x)) :=
  PE.imp (pe_callTy hc hg hm hv (pa_cons ha pa_nil (star_ok hs)) hn hdb (star_ok hs) rfl) fun σ H Q ⟨w, η, m, rel, hA⟩ =>
    rd_bind (ExtE.refl w H) rel hA fun x m1 w1 u H1 e1 rel1 vx fx hA1 => ⟨u, rfl, un_end e1 rel1 vx hA1⟩
theorem cr_len : CallR X (.builtin "len") (rUnC X.K fun m => b1V m .len) := by
  intro pins s σ H xs us Q I r h
  obtain ⟨u, rfl, w, η, m, σ', x, z, rel, vx, hz, k⟩ := h
  have fin : itemsOf m x = none ∨ ∀ ys, itemsOf m x = some ys → z = .dat (.int ys.length) → wpAny (model X.prog X.w) X.A (call (.builtin "len") us) (EP X pins σ Q) X.xe s := .inr fun ys h e => by
    subst e
    obtain ⟨a, vs, rfl, hv, rv⟩ := itemsOf_R rel vx h
    refine call_len_seq pins s σ H _ us Q I r ⟨a, vs, rfl, ?_, by rw [rv.len]; exact end_same rel k VR.ofInt trivial⟩
    rcases hv with hv | hv
    · exact .inl (SqL.of hv)
    · exact .inr hv.sq
  have fin2 : (itemsOf m x).map (fun xs => Vl.dat (.int xs.length)) = some z → wpAny (model X.prog X.w) X.A (call (.builtin "len") us) (EP X pins σ Q) X.xe s := fun h => by
    obtain ⟨ys, h1, h2⟩ := Option.map_eq_some_iff.mp h
    rcases fin with f | f
    · rw [f] at h1; cases h1
    · exact f ys h1 h2.symm
  change b1V m .len x = some z at hz
  unfold b1V at hz
  simp only at hz
  split at hz
  · rename_i y
    split at hz
    · rename_i c
      cases hz
      cases vx.str
      exact call_len_str pins s σ H _ us Q I r ⟨y, rfl, line_fits c, end_same rel k VR.ofInt trivial⟩
    · cases hz
  · rename_i ns
    cases hz
    obtain ⟨a, rfl, h⟩ := vx
    exact call_len_seq pins s σ H _ us Q I r ⟨a, _, rfl, .inl h.sq, by rw [List.length_map]; exact end_same rel k VR.ofInt trivial⟩
  · rename_i rows
    cases hz
    obtain ⟨a, as, rfl, h1, h2, _⟩ := vx
    exact call_len_seq pins s σ H _ us Q I r ⟨a, _, rfl, .inl (SqL.of h1), by rw [List.length_map, h2.len]; exact end_same rel k VR.ofInt trivial⟩
  · exact fin2 hz
theorem call_tupleF : CallR X (.type "tuple") (fun xs H Q => ∃ p ys, xs = [.ref p] ∧ ((SqL X.K H p ys ∧ ∀ (l : Addr) (o : Obj), H l = none → o.dict = none → Q (.ref l) (upd H l (.frz o (.tup ys)))) ∨ (SqT X.K H p ys ∧ Q (.ref p) H))) := by
  intro pins s σ H xs us Q I r h
  obtain ⟨p, ys, rfl, h⟩ := h
  obtain ⟨u, rfl, rx⟩ := vals1 r
  cases rx
  rcases h with ⟨hq, q⟩ | ⟨hq, q⟩
  · obtain ⟨its, r', pl, hz⟩ := I.list hq
    have hlen := r'.length
    refine call_tuple_list pl.isList (fun h' kp => ?_) (by simp only [List.size_toArray] <;> omega)
    have I1 : Inv X pins σ H { s with heap := h' } := I.kept (t' := s.toks) kp
    have I2 : Inv X pins σ (upd H h'.objs.size (.frz { cls := .type "tuple", data := .seq its.toArray } (.tup ys))) { s with heap := h'.push { cls := .type "tuple", data := .seq its.toArray } } :=
      I1.laid (t' := s.toks) (fun b o e => Heap.get?_push_of_some _ e) (Nat.le_refl _) (show ObjOk X.prog X.w _ _ _ (.frz _ (.tup ys)) from ⟨Heap.get?_push_size _ rfl, hz, its, r', IsTup.new _ _⟩)
    exact ⟨.ref h'.objs.size, _, I2, rfl, q _ _ (I1.hok.fresh (Nat.le_refl _)) rfl⟩
  · obtain ⟨its, r', pl, hz⟩ := I.tuple hq
    exact call_tuple_same pl ⟨.ref p, H, I, rfl, q⟩
theorem cr_tuple : CallR X (.type "tuple") (rUnC X.K fun m => b1V m .tuple) := by
  intro pins s σ H xs us Q I r h
  obtain ⟨u, rfl, w, η, m, σ', x, z, rel, vx, hz, k⟩ := h
  change (itemsOf m x).map (fun xs => Vl.dat (.tuple xs)) = some z at hz
  obtain ⟨ys, h1, rfl⟩ := Option.map_eq_some_iff.mp hz
  obtain ⟨a, vs, rfl, hv, rv⟩ := itemsOf_R rel vx h1
  refine call_tupleF pins s σ H _ us Q I r ⟨a, vs, rfl, ?_⟩
  rcases hv with hv | hv
  · exact .inl ⟨SqL.of hv, end_tup rel k rv⟩
  · refine .inr ⟨hv.sq, end_same rel k ?_ trivial⟩
    simp only [VR, RD]
    exact ⟨a, vs, rfl, hv, rv⟩
theorem cr_list : CallR X (.type "list") (rUnC X.K fun m => b1V m .list) := by
  intro pins s σ H xs us Q I r h
  obtain ⟨u, rfl, w, η, m, σ', x, z, rel, vx, hz, k⟩ := h
  change (itemsOf m x).map (fun xs => Vl.new xs) = some z at hz
  obtain ⟨ys, h1, rfl⟩ := Option.map_eq_some_iff.mp hz
  obtain ⟨a, vs, rfl, hv, rv⟩ := itemsOf_R rel vx h1
  refine call_list_of pins s σ H _ us Q I r ⟨a, vs, rfl, ?_, end_lst rel k rv⟩
  rcases hv with hv | hv
  · exact .inl (SqL.of hv)
  · exact .inr hv.sq
theorem ints_R {K : PySem.W.Frag} {w : Wd} {η : Sg} {m : Mem} {σ : L2.St} {H : Hp} (r : Rel K w η m σ H) {x : Vl} {v : V} {ns : List Int} (vr : VR K w H x v) (h : (itemsOf m x).bind intsOf = some ns) : ∃ a, v = .ref a ∧ (H a = some (.lst (ns.map V.int)) ∨ TupH H a (ns.map V.int)) := by
  obtain ⟨ys, h1, h2⟩ := Option.bind_eq_some_iff.mp h
  obtain ⟨a, vs, rfl, hv, rv⟩ := itemsOf_R r vr h1
  rw [rv.ints h2] at hv
  exact ⟨a, rfl, hv⟩
theorem crv_sum (hc : X.calm = true) (G : Gaps X) : CallR X (.builtin "sum") (rUnC X.K fun m => b1V m .sum) := by
  intro pins s σ H xs us Q I r h
  obtain ⟨u, rfl, w, η, m, σ', x, z, rel, vx, hz, k⟩ := h
  change ((itemsOf m x).bind intsOf).map (fun ns => Vl.dat (.int ns.sum)) = some z at hz
  obtain ⟨ns, h1, rfl⟩ := Option.map_eq_some_iff.mp hz
  obtain ⟨a, rfl, hv⟩ := ints_R rel vx h1
  have q := end_same rel k VR.ofInt trivial
  rcases hv with hv | hv
  · exact cr_sum hc pins s σ H _ us Q I r ⟨a, ns, rfl, SqL.of hv, q⟩
  · exact G.sumT pins s σ H _ us Q I r ⟨a, ns, rfl, hv, q⟩
theorem max_uniq {a m : Int} {r : List Int} (h : m ∈ a :: r) (h' : ∀ y ∈ a :: r, y ≤ m) : m = maxL a r := Int.le_antisymm (maxL_le r a m h) (h' _ (maxL_mem r a))
theorem min_uniq {a m : Int} {r : List Int} (h : m ∈ a :: r) (h' : ∀ y ∈ a :: r, m ≤ y) : m = minL a r := Int.le_antisymm (h' _ (minL_mem r a)) (minL_le r a m h)
theorem crv_max (hc : X.calm = true) (G : Gaps X) : CallR X (.builtin "max") (rUnC X.K fun m => b1V m .max) := by
  intro pins s σ H xs us Q I r h
  obtain ⟨u, rfl, w, η, m, σ', x, z, rel, vx, hz, k⟩ := h
  change b1V m .max x = some z at hz
  unfold b1V at hz
  simp only at hz
  split at hz
  · rename_i a' r' h1
    cases hz
    obtain ⟨a, rfl, hv⟩ := ints_R rel vx h1
    have q : ∀ m, m ∈ a' :: r' → (∀ y, y ∈ a' :: r' → y ≤ m) → Q (.int m) H := fun m h1 h2 => by
      rw [max_uniq h1 h2]
      exact end_same rel k VR.ofInt trivial
    rcases hv with hv | hv
    · exact cr_max hc pins s σ H _ us Q I r ⟨a, _, rfl, SqL.of hv, by simp, q⟩
    · exact G.maxT pins s σ H _ us Q I r ⟨a, _, rfl, hv, by simp, q⟩
  · cases hz
theorem crv_min (hc : X.calm = true) (G : Gaps X) : CallR X (.builtin "min") (rUnC X.K fun m => b1V m .min) := by
  intro pins s σ H xs us Q I r h
  obtain ⟨u, rfl, w, η, m, σ', x, z, rel, vx, hz, k⟩ := h
  change b1V m .min x = some z at hz
  unfold b1V at hz
  simp only at hz
  split at hz
  · rename_i a' r' h1
    cases hz
    obtain ⟨a, rfl, hv⟩ := ints_R rel vx h1
    have q : ∀ m, m ∈ a' :: r' → (∀ y, y ∈ a' :: r' → m ≤ y) → Q (.int m) H := fun m h1 h2 => by
      rw [min_uniq h1 h2]
      exact end_same rel k VR.ofInt trivial
    rcases hv with hv | hv
    · exact cr_min hc pins s σ H _ us Q I r ⟨a, _, rfl, SqL.of hv, by simp, q⟩
    · exact G.minT pins s σ H _ us Q I r ⟨a, _, rfl, hv, by simp, q⟩
  · cases hz
theorem bools_R {K : PySem.W.Frag} {w : Wd} {η : Sg} {m : Mem} {σ : L2.St} {H : Hp} (r : Rel K w η m σ H) {x : Vl} {v : V} {ns : List Bool} (vr : VR K w H x v) (h : (listOf m x).bind boolsOf = some ns) : ∃ a, v = .ref a ∧ H a = some (.lst (ns.map V.bl)) := by
  obtain ⟨ys, h1, h2⟩ := Option.bind_eq_some_iff.mp h
  obtain ⟨a, vs, rfl, hv, rv⟩ := listOf_R r vr h1
  rw [rv.bools h2] at hv
  exact ⟨a, rfl, hv⟩
theorem crv_all (hc : X.calm = true) : CallR X (.builtin "all") (rUnC X.K fun m => b1V m .all) := by
  intro pins s σ H xs us Q I r h
  obtain ⟨u, rfl, w, η, m, σ', x, z, rel, vx, hz, k⟩ := h
  change ((listOf m x).bind boolsOf).map (fun ns => Vl.dat (.bool (ns.all id))) = some z at hz
  obtain ⟨ns, h1, rfl⟩ := Option.map_eq_some_iff.mp hz
  obtain ⟨a, rfl, hv⟩ := bools_R rel vx h1
  exact cr_all hc pins s σ H _ us Q I r ⟨a, ns, rfl, SqL.of hv, end_same rel k VR.ofBool trivial⟩
theorem crv_any (hc : X.calm = true) : CallR X (.builtin "any") (rUnC X.K fun m => b1V m .any) := by
  intro pins s σ H xs us Q I r h
  obtain ⟨u, rfl, w, η, m, σ', x, z, rel, vx, hz, k⟩ := h
  change ((listOf m x).bind boolsOf).map (fun ns => Vl.dat (.bool (ns.any id))) = some z at hz
  obtain ⟨ns, h1, rfl⟩ := Option.map_eq_some_iff.mp hz
  obtain ⟨a, rfl, hv⟩ := bools_R rel vx h1
  exact cr_any hc pins s σ H _ us Q I r ⟨a, ns, rfl, SqL.of hv, end_same rel k VR.ofBool trivial⟩
/-! ### max(a, b), min(a, b) -/
theorem crv_mm2 (hc : X.calm = true) (mx : Bool) : CallR X (.builtin (if mx then "max" else "min")) (fun vs H Q => ∃ u v, vs = [u, v] ∧ rOp X.K (fun _ => mm2V mx) u v H Q) := by
  intro pins s σ H xs us Q I r h
  obtain ⟨u, v, rfl, w, η, m, σ', x, y, z, rel, vx, vy, hz, k⟩ := h
  change mm2V mx x y = some z at hz
  unfold mm2V at hz
  split at hz
  · rename_i i j
    cases hz
    cases vx.int; cases vy.int
    cases mx with
    | true => exact call_max2 hc pins s σ H _ us Q I r ⟨i, j, rfl, end_same rel k VR.ofInt trivial⟩
    | false => exact call_min2 hc pins s σ H _ us Q I r ⟨i, j, rfl, end_same rel k VR.ofInt trivial⟩
  · cases hz
theorem se_bf2 {g : Mem → Vl → Vl → Option Vl} (hc : CallR X (.builtin id) (fun vs H Q => ∃ u v, vs = [u, v] ∧ rOp X.K g u v H Q)) (hg : Gl X x) (hm : X.mg x = none) (hv : bootBuiltins x = some (.builtin id)) (ha : SE X W a fa) (hb : SE X W b fb) (hn : x ≠ "__name__") (hdb : (x == ("__debug__" : Str)) = false)
    (hs : isStar a = false) (hs2 : isStar b = false) : SE X W (.Call (.Name x p) [a, b] [] pos) (fun η m => (fa η m).bind fun x m1 => (fb η m1).bind fun y m2 => Rs.opt m2 (g m2 x y)) :=
  PE.imp (pe_callB hc hg hm hv (pa_cons ha (pa_cons hb pa_nil (star_ok hs2)) (star_ok hs)) hn hdb (star_ok hs) (stars_ok (by simp [hs2]))) fun σ H Q ⟨w, η, m, rel, hA⟩ =>
    rd_bind (ExtE.refl w H) rel hA fun x m1 w1 u H1 e1 rel1 vx fx hA1 => rd_bind e1 rel1 hA1 fun y m2 w2 v H2 e2 rel2 vy fy hA2 => ⟨u, v, rfl, op2_end e1 rel1.sep vx e2 rel2 vy hA2⟩
/-! ### isinstance(a, T) -/
def tyName : Ty → String
  | .int => "int"
  | .bool => "bool"
  | .str => "str"
  | .tuple => "tuple"
  | .list => "list"
theorem isi_R {w : Wd} {η : Sg} {m : Mem} {σ : L2.St} {H : Hp} (r : Rel X.K w η m σ H) {x : Vl} {v : V} {b : Bool} {t : Ty} (vr : VR X.K w H x v) (h : isiV m x t = some b) : ∃ T : String, TyX X.K H v (.type T) ∧ kitB T (tyName t) = some b := by
  have lst : ∀ a vs, v = .ref a → H a = some (.lst vs) → b = decide (t = .list) → ∃ T : String, TyX X.K H v (.type T) ∧ kitB T (tyName t) = some b := fun a vs e1 e2 e3 => by
    subst e1 e3
    exact ⟨"list", .base (.lst e2), by cases t <;> decide +kernel⟩
  cases x with
  | dat d =>
    cases d with
    | none =>
      simp only [isiV, Option.some.injEq] at h; subst h
      cases vr.none
      exact ⟨"NoneType", .base .non, by cases t <;> simp only [isiD] <;> decide +kernel⟩
    | bool c =>
      simp only [isiV, Option.some.injEq] at h; subst h
      cases vr.bool
      exact ⟨"bool", .base (.bl c), by cases t <;> simp only [isiD] <;> decide +kernel⟩
    | int c =>
      simp only [isiV, Option.some.injEq] at h; subst h
      cases vr.int
      exact ⟨"int", .base (.int c), by cases t <;> simp only [isiD] <;> decide +kernel⟩
    | str c =>
      simp only [isiV, Option.some.injEq] at h; subst h
      cases vr.str
      exact ⟨"str", .base (.str c), by cases t <;> simp only [isiD] <;> decide +kernel⟩
    | tuple ds =>
      simp only [isiV, Option.some.injEq] at h; subst h
      obtain ⟨a, vs, rfl, h1, h2⟩ := vr.tuple
      obtain ⟨ob, h1, _⟩ := h1
      exact ⟨"tuple", .fTuple h1, by cases t <;> simp only [isiD] <;> decide +kernel⟩
    | list ds =>
      simp only [isiV, Option.some.injEq] at h; subst h
      simp only [VR, RD] at vr
      obtain ⟨a, vs, rfl, h0, h1, h2⟩ := vr
      exact lst a vs rfl h1 (by cases t <;> rfl)
    | dict ds => simp [isiV] at h
  | new xs =>
    simp only [isiV, Option.some.injEq] at h
    obtain ⟨a, vs, h1, h2, _⟩ := vr
    exact lst a vs h1 h2 h.symm
  | bor xs =>
    simp only [isiV, Option.some.injEq] at h
    obtain ⟨a, vs, h1, h2, _⟩ := vr
    exact lst a vs h1 h2 h.symm
  | _ => simp [isiV] at h
theorem se_isi {t : Ty} {y : Str} {p2 : Pos} (hg : Gl X "isinstance") (hm : X.mg "isinstance" = none) (hv : bootBuiltins "isinstance" = some (.builtin "isinstance")) (hy : Gl X y) (hmy : X.mg y = none) (hvy : bootBuiltins y = some (.type (tyName t))) (hny : y ≠ "__name__") (hdy : (y == ("__debug__" : Str)) = false)
    (ha : SE X W a fa) (hs : isStar a = false) : SE X W (.Call (.Name "isinstance" p) [a, .Name y p2] [] pos) (fun η m => (fa η m).bind fun x m1 => (Rs.opt m1 (isiV m1 x t)).bind fun k m2 => .ok (.dat (.bool k)) m2) :=
  PE.imp (pe_callB (call_isi (X := X)) hg hm hv (pa_cons ha (pa_cons (pe_bltn (v := .ty (tyName t)) hy hmy hvy rfl hny hdy) pa_nil) (star_ok hs)) (by decide) (by decide) (star_ok hs) rfl) fun σ H Q ⟨w, η, m, rel, hA⟩ =>
    rd_bind (ExtE.refl w H) rel hA fun x m1 w1 u H1 e1 rel1 vx fx hA1 => by
      obtain ⟨k, hk, hA2⟩ := ans_opt hA1
      obtain ⟨T, h1, h2⟩ := isi_R rel1 vx hk
      exact ⟨u, .ty (tyName t), .type T, .type (tyName t), k, rfl, .ty _, h1, kit_ty h2, hA2 w1 _ H1 e1 rel1 ⟨VR.ofBool, trivial⟩⟩
/-! ### subscripts -/
def isPlainIx : Expr → Bool
  | .Slice _ _ _ _ => false
  | _ => true
theorem plainIx_ok {b : Expr} (h : isPlainIx b = true) : PlainIx b := fun o i => by
  cases b <;> first | rfl | simp [isPlainIx] at h
theorem atI_map {α β : Type} (f : α → β) (xs : List α) (i : Int) : atI (xs.map f) i = (atI xs i).map f := by
  unfold atI
  rw [List.length_map]
  cases ixN xs.length i with
  | none => rfl
  | some j => simp
theorem RDs.atI {F : Addr → Prop} {H : Hp} {ds : List PyData} {vs : List V} {i : Int} {d : PyData} (h : RDs F H ds vs) (e : L2.atI ds i = some d) : ∃ v, L2.atI vs i = some v ∧ RD F H d v := by
  unfold L2.atI at e ⊢
  rw [h.len]
  cases q : ixN ds.length i with
  | none => rw [q] at e; cases e
  | some j =>
    rw [q] at e
    simpa using h.get (by simpa using e)
theorem ix_any : IxR X (rOp X.K ixV) := by
  intro value slice pins s σ H u v uv vv Q I ru rv h hsub
  obtain ⟨w, η, m, σ', x, y, z, rel, vx, vy, hz, k⟩ := h
  unfold ixV at hz
  split at hz
  · rename_i i
    cases vy.int
    split at hz
    · rename_i rows
      obtain ⟨row, h1, rfl⟩ := Option.map_eq_some_iff.mp hz
      obtain ⟨a, as, rfl, q1, q2, q3⟩ := vx
      unfold L2.atI at h1
      cases hj : ixN rows.length i with
      | none => rw [hj] at h1; cases h1
      | some j =>
        rw [hj] at h1
        simp only [Option.bind_some] at h1
        obtain ⟨b, vs, g1, g2, g3⟩ := q2.get h1
        refine ix_list value slice pins s σ H _ _ uv vv Q I ru rv ⟨a, _, i, .ref b, rfl, rfl, SqL.of q1, ?_, end_same rel k ⟨b, vs, rfl, g2, g3, q3 b (by simp [List.mem_of_getElem? g1])⟩ trivial⟩ hsub
        unfold L2.atI
        rw [List.length_map, q2.len, hj]
        simp [g1]
    · rename_i ns
      obtain ⟨n, h1, rfl⟩ := Option.map_eq_some_iff.mp hz
      obtain ⟨a, rfl, h⟩ := vx
      exact ix_list value slice pins s σ H _ _ uv vv Q I ru rv ⟨a, _, i, .int n, rfl, rfl, h.sq, by rw [atI_map, h1]; rfl, end_same rel k VR.ofInt trivial⟩ hsub
    · rename_i zs
      split at hz
      rotate_left
      · cases hz
      rename_i hl
      obtain ⟨c, h1, rfl⟩ := Option.map_eq_some_iff.mp hz
      cases vx.str
      exact ix_str value slice pins s σ H _ _ uv vv Q I ru rv ⟨zs, i, c, rfl, rfl, line_fits hl, h1, end_same rel k VR.ofStr trivial⟩ hsub
    · split at hz
      · rename_i xs h1
        obtain ⟨d, h2, rfl⟩ := Option.map_eq_some_iff.mp hz
        obtain ⟨a, vs, rfl, hv, rv'⟩ := itemsOf_R rel vx h1
        obtain ⟨e, h3, h4⟩ := rv'.atI h2
        rcases hv with hv | hv
        · exact ix_list value slice pins s σ H _ _ uv vv Q I ru rv ⟨a, vs, i, e, rfl, rfl, SqL.of hv, h3, end_same rel k h4 trivial⟩ hsub
        · exact ix_tup value slice pins s σ H _ _ uv vv Q I ru rv ⟨a, vs, i, e, rfl, rfl, hv.sq, h3, end_same rel k h4 trivial⟩ hsub
      · cases hz
  · cases hz
theorem se_ix (ha : SE X W a fa) (hb : SE X W b fb) (hp : isPlainIx b = true) : SE X W (.Subscript a b pos) (fun η m => (fa η m).bind fun x m1 => (fb η m1).bind fun y m2 => Rs.opt m2 (ixV m2 x y)) :=
  PE.imp (pe_ix ix_any ha hb (plainIx_ok hp)) fun σ H Q ⟨w, η, m, rel, hA⟩ =>
    rd_bind (ExtE.refl w H) rel hA fun x m1 w1 u H1 e1 rel1 vx fx hA1 => rd_bind e1 rel1 hA1 fun y m2 w2 v H2 e2 rel2 vy fy hA2 => op2_end (g := ixV) e1 rel1.sep vx e2 rel2 vy hA2
end
end SS
/- SSJ -/
set_option Elab.async false
set_option linter.all false
set_option maxRecDepth 100000
/-! Slices, ranges, methods, what is walked. -/
namespace SS
open PySem PySem.Spec PyProof.Rows L2
section
variable {K : PySem.W.Frag} {W : XK} {w w1 : Wd} {η : Sg} {σ : L2.St} {H H1 : Hp} {m1 : Mem}
def rdO (K : PySem.W.Frag) (W : XK) (f : Sg → Mem → Rs (Option Int)) : TO := fun σ H Q => ∃ w η m, Rel K w η m σ H ∧ AnsE K W w η σ H (fun _ _ a b => a = b) (f η m) Q
theorem rdO_bind {α β : Type} {R : Wd → Hp → α → β → Prop} {Q : β → Hp → Prop} {f : Sg → Mem → Rs (Option Int)} {g : Option Int → Mem → Rs α} {Qc : Option Int → Hp → Prop} (e : ExtE w H w1 H1) (rel : Rel K w1 η m1 σ H1) (hA : AnsE K W w η σ H R ((f η m1).bind g) Q)
    (k : ∀ x m2 w2 H2, ExtE w1 H1 w2 H2 → Rel K w2 η m2 σ H2 → AnsE K W w η σ H R (g x m2) Q → Qc x H2) : rdO K W f σ H1 Qc := by
  refine ⟨w1, η, m1, rel, ?_⟩
  cases h : f η m1 with
  | ok x m2 =>
    rw [h] at hA
    exact fun w2 v H2 e2 rel2 vr => vr ▸ k x m2 w2 H2 e2 rel2 hA
  | ex c m2 =>
    rw [h] at hA
    exact fun w2 H2 e2 rel2 => hA w2 H2 (e.trans e2) rel2
  | bad =>
    rw [h] at hA
    exact hA.elim
theorem PO.imp {X : Cx} {e : Option Expr} {t t' : TO} (h : PO X e t) (k : ∀ σ H Q, t' σ H Q → t σ H Q) : PO X e t' := ⟨fun pins s σ H Q I q => h.run pins s σ H Q I (k σ H Q q)⟩
theorem so_none {X : Cx} : PO X none (rdO X.K W fun _ m => .ok none m) := PO.imp po_none fun σ H Q ⟨w, η, m, rel, hA⟩ => hA w none H (ExtE.refl w H) rel rfl
theorem so_some {X : Cx} {e : Expr} {f : Sg → Mem → Rs Vl} (h : SE X W e f) : PO X (some e) (rdO X.K W fun η m => (f η m).bind fun x m1 => match x with
    | .dat (.int i) => .ok (some i) m1
    | _ => .bad) := PO.imp (po_some h) fun σ H Q ⟨w, η, m, rel, hA⟩ =>
  rd_bind (ExtE.refl w H) rel hA fun x m1 w1 u H1 e1 rel1 vx fx hA1 => by
    split at hA1
    · rename_i i
      exact ⟨i, vx.int, hA1 w1 _ H1 e1 rel1 rfl⟩
    · exact hA1.elim
theorem RDs.cut {ds : List PyData} {vs : List V} {F : Addr → Prop} (h : RDs F H ds vs) (lo hi : Option Int) : RDs F H (SS.cut ds lo hi) (cutV vs lo hi) := by
  unfold SS.cut cutV
  rw [h.len]
  exact (h.drop _).take _
theorem cut_whole {α : Type} {xs : List α} {lo hi : Option Int} (h : HT.sIx xs.length 0 lo = 0 ∧ HT.sIx xs.length xs.length hi = xs.length) : SS.cut xs lo hi = xs := by
  unfold SS.cut
  rw [h.1, h.2]
  simp
end
section
variable {X : Cx} {W : XK} {a b : Expr} {fa fb : Sg → Mem → Rs Vl} {p pos p2 : Pos} {x : Str} {id : String}
theorem sl_tupF : SlR X (fun x lo hi H Q => ∃ a xs, x = .ref a ∧ SqT X.K H a xs ∧
  (HT.sIx xs.length 0 lo = 0 ∧ HT.sIx xs.length xs.length hi = xs.length → Q (.ref a) H) ∧ (¬ (HT.sIx xs.length 0 lo = 0 ∧ HT.sIx xs.length xs.length hi = xs.length) → ∀ (p : Addr) (o : Obj), H p = none → o.dict = none → Q (.ref p) (upd H p (.frz o (.tup (cutV xs lo hi)))))) := by
  intro pins s σ H x v vl vu lo hi sl Q I rx hs pl pu h
  obtain ⟨a, xs, rfl, hx, q1, q2⟩ := h
  cases rx
  obtain ⟨its, r, ht, hz⟩ := I.tuple hx
  have hlen : its.toArray.size = xs.length := by rw [List.size_toArray]; exact r.length.symm
  refine ⟨"tuple", _, PyProof.Rows.slot_tuple_getitem.lookup, ht.typeIs, ?_⟩
  by_cases hw : HT.sIx xs.length 0 lo = 0 ∧ HT.sIx xs.length xs.length hi = xs.length
  · exact getItem_tuple_whole ht hs pl pu (by rw [hlen]; exact hw) ⟨.ref a, H, I, rfl, q1 hw⟩
  · refine HT.getItem_tuple_cut ht hs pl pu (by rw [hlen]; exact hw) ?_ (by rw [hlen]; exact hz)
    rw [hlen]
    refine ⟨.ref s.heap.objs.size, _, I.laid (t' := s.toks) (o := .frz { cls := .type "tuple", data := .seq ((its.toArray.toList.drop (HT.sIx xs.length 0 lo)).take (HT.sIx xs.length xs.length hi - HT.sIx xs.length 0 lo)).toArray } (.tup (cutV xs lo hi))) (fun b ob q => Heap.get?_push_of_some _ q) (Nat.le_refl _) ?_, rfl, q2 hw _ _ (I.hok.fresh (Nat.le_refl _)) rfl⟩
    exact ⟨Heap.get?_push_size _ rfl, Nat.le_trans (cutV_length xs lo hi) hz, _, (r.drop (HT.sIx xs.length 0 lo)).take (HT.sIx xs.length xs.length hi - HT.sIx xs.length 0 lo), IsTup.new _ _⟩
theorem se_sl {lo hi : Option Expr} {fl fh : Sg → Mem → Rs (Option Int)} (ha : SE X W a fa) (hl : PO X lo (rdO X.K W fl)) (hh : PO X hi (rdO X.K W fh)) :
    SE X W (.Subscript a (.Slice lo hi none p2) pos) (fun η m => (fa η m).bind fun x m1 => (fl η m1).bind fun l m2 => (fh η m2).bind fun h m3 => Rs.opt m3 (slV m3 x l h)) :=
  PE.imp (pe_slice (sl_list.or sl_tupF) ha hl hh) fun σ H Q ⟨w, η, m, rel, hA⟩ =>
    rd_bind (ExtE.refl w H) rel hA fun x m1 w1 u H1 e1 rel1 vx fx hA1 => rdO_bind e1 rel1 hA1 fun l m2 w2 H2 e2 rel2 hA2 => rdO_bind (e1.trans e2) rel2 hA2 fun h m3 w3 H3 e3 rel3 hA3 => by
      obtain ⟨z, hz, hA4⟩ := ans_opt' hA3
      have e := (e1.trans e2).trans e3
      have vx3 := vx.ext rel1.sep (e2.trans e3)
      unfold slV at hz
      split at hz
      · rename_i xs
        cases hz
        obtain ⟨q, vs, rfl, hq, rq⟩ := vx3.tuple
        refine .inr ⟨q, vs, rfl, hq.sq, fun hw => ?_, fun hw p o np hd => ?_⟩
        · rw [rq.len] at hw
          rw [cut_whole hw] at hA4
          exact hA4 w3 _ H3 e rel3 ⟨vx3, trivial⟩
        · have z := new_tup rel3 np (rq.cut l h) hd
          exact hA4 w3 _ _ (e.trans (ext_new rel3.sep np)) (rel3.new np) ⟨z.1, trivial⟩
      · obtain ⟨xs, h1, rfl⟩ := Option.map_eq_some_iff.mp hz
        obtain ⟨q, vs, rfl, hq, rq⟩ := listOf_R rel3 vx3 h1
        refine .inl ⟨q, vs, rfl, SqL.of hq, fun p np => ?_⟩
        have z := new_lst rel3 np (rq.cut l h)
        exact hA4 w3 _ _ (e.trans (ext_new rel3.sep np)) (rel3.new np) ⟨z.1, z.2.back e⟩
/-! ### list(range(n)), tuple(range(n)) -/
theorem rangeL_R {F : Addr → Prop} {H : Hp} {a b : Int} : RDs F H (rangeL a b) (rgV a b) := by
  unfold rangeL rgV
  generalize (List.range (b - a).toNat) = l
  induction l with
  | nil => exact RDs.nil
  | cons n l ih => exact RDs.cons (by simp only [RD]) ih
theorem rangeOk_ok {a b : Int} (h : rangeOk a b = true) : -1000000 ≤ a ∧ a ≤ 1000000 ∧ -1000000 ≤ b ∧ b ≤ 1000000 := by
  unfold rangeOk at h
  simp only [Bool.and_eq_true, decide_eq_true_eq] at h
  exact ⟨h.1.1.1, h.1.1.2, h.1.2, h.2⟩
theorem pe_tupRgF {e : Expr} {te : L2.St → Hp → (Int → Int → Hp → Prop) → Prop} (hc : X.calm = true) (hg : Gl X "tuple") (hm : X.mg "tuple" = none) (he : PRg X e te) (na : starEach [e] X.env = (false, eval e X.env) :: starEach [] X.env) :
    PE X (.Call (.Name "tuple" p) [e] [] pos) (fun σ H Q => te σ H fun a b H1 => RgOk a b ∧ ∀ (q : Addr) (o : Obj), H1 q = none → o.dict = none → Q (.ref q) (upd H1 q (.frz o (.tup (rgV a b))))) := by
  refine ⟨fun pins s σ H Q I h => ?_⟩
  refine Call_ (ld_blt I hg hm boot_tuple (PyProof.Rows.callWith_type1 (args_cons (thn (he pins s σ H _ I h) fun x s1 ⟨r, a, b, t, u, v, H1, ex, hr, I1, ok, q⟩ => args_nil ?_) na) na))
  subst ex
  obtain ⟨b1, b2, b3, b4, b5⟩ := ok
  refine call_tuple_range (n := (b - a).toNat) (I1.ok.hd hc) hr (small_one b1 b2 b3 b4) (rangeSize_nat a b) b5 fun h' tk acc hk hi => ?_
  have I2 : Inv X pins σ H1 { s1 with heap := h', toks := tk } := I1.kept hk
  refine ⟨.ref h'.objs.size, upd H1 h'.objs.size (.frz _ (.tup (rgV a b))), I2.laid (t' := tk) (fun c o e => Heap.get?_push_of_some _ e) (Nat.le_refl _) (show ObjOk X.prog X.w _ _ _ (.frz _ (.tup (rgV a b))) from ⟨Heap.get?_push_size _ rfl, ?_, acc.toList, vals_rg hi, ?_⟩), rfl, q _ _ (I2.hok.fresh (Nat.le_refl _)) rfl⟩
  · rw [rgV_length, sizeLine_eq]; omega
  · rw [Array.toArray_toList]; exact IsTup.new _ _
theorem se_rngT {p' pos' : Pos} (hc : X.calm = true) (hg : Gl X "tuple") (hm : X.mg "tuple" = none) (hg2 : Gl X "range") (hm2 : X.mg "range" = none) (ha : SE X W a fa) (hs : isStar a = false) :
    SE X W (.Call (.Name "tuple" p) [.Call (.Name "range" p') [a] [] pos'] [] pos) (fun η m => (fa η m).bind fun x m1 => match x with
    | .dat (.int n) => if rangeOk 0 n then .ok (if true then .dat (.tuple (rangeL 0 n)) else .new (rangeL 0 n)) m1 else .bad
    | _ => .bad) :=
  PE.imp (pe_tupRgF hc hg hm (prg_1 hg2 hm2 ha (star_ok hs)) (star_ok rfl)) fun σ H Q ⟨w, η, m, rel, hA⟩ =>
    rd_bind (ExtE.refl w H) rel hA fun x m1 w1 u H1 e1 rel1 vx fx hA1 => by
      split at hA1
      · rename_i n
        obtain ⟨hk, hA2⟩ := ans_if hA1
        obtain ⟨k1, k2, k3, k4⟩ := rangeOk_ok hk
        refine ⟨n, vx.int, ⟨by omega, by omega, by omega, by omega, by omega⟩, fun q o np hd => ?_⟩
        have z := new_tup rel1 np (rangeL_R (F := w1.F) (H := H1) (a := 0) (b := n)) hd
        exact hA2 w1 _ _ (e1.trans (ext_new rel1.sep np)) (rel1.new np) ⟨z.1, trivial⟩
      · exact hA1.elim
theorem se_rngL {p' pos' : Pos} (hc : X.calm = true) (hg : Gl X "list") (hm : X.mg "list" = none) (hg2 : Gl X "range") (hm2 : X.mg "range" = none) (ha : SE X W a fa) (hs : isStar a = false) :
    SE X W (.Call (.Name "list" p) [.Call (.Name "range" p') [a] [] pos'] [] pos) (fun η m => (fa η m).bind fun x m1 => match x with
    | .dat (.int n) => if rangeOk 0 n then .ok (if false then .dat (.tuple (rangeL 0 n)) else .new (rangeL 0 n)) m1 else .bad
    | _ => .bad) :=
  PE.imp (pe_listRg hc hg hm (prg_1 hg2 hm2 ha (star_ok hs)) (star_ok rfl)) fun σ H Q ⟨w, η, m, rel, hA⟩ =>
    rd_bind (ExtE.refl w H) rel hA fun x m1 w1 u H1 e1 rel1 vx fx hA1 => by
      split at hA1
      · rename_i n
        obtain ⟨hk, hA2⟩ := ans_if hA1
        obtain ⟨k1, k2, k3, k4⟩ := rangeOk_ok hk
        refine ⟨n, vx.int, ⟨by omega, by omega, by omega, by omega, by omega⟩, fun q np => ?_⟩
        have z := new_lst rel1 np (rangeL_R (F := w1.F) (H := H1) (a := 0) (b := n))
        exact hA2 w1 _ _ (e1.trans (ext_new rel1.sep np)) (rel1.new np) ⟨z.1, z.2.back e1⟩
      · exact hA1.elim
end
/-! ### what is walked -/
/-- one item comes -/
def YV (tp : Bool) (F : Addr → Prop) (H : Hp) (d : PyData) (x : V) (H' : Hp) : Prop := (H' = H ∧ RD F H d x) ∨ ∃ T o, H T = none ∧ H' = upd H T o ∧
  (RD F H' d x ∨ tp = true ∧ ∃ x1 x2 d1 d2, o = .tup [x1, x2] ∧ x = .ref T ∧ d = .tuple [d1, d2] ∧ RD F H' d1 x1 ∧ RD F H' d2 x2)
structure Yld (tp : Bool) (w : Wd) (H : Hp) (J : It) (src : List Addr) (ds : List PyData) : Prop where
  out : ∀ a ∈ src, a ∉ w.ρ ∧ ∃ o, H a = some o
  go : ∀ (H' : Hp) i, (∀ a ∈ src, H' a = H a) → i < ds.length → J.go i H'
  stop : ∀ (H' : Hp), (∀ a ∈ src, H' a = H a) → J.stop ds.length H'
  yld : ∀ (F' : Addr → Prop) (H' : Hp) (i : Nat) (d : PyData) (x : V) (H'' : Hp), (∀ a ∈ src, H' a = H a) → (∀ d v, RD w.F H d v → RD F' H' d v) → (∀ d v, RD F' H' d v → ∀ T o, H' T = none → RD F' (upd H' T o) d v) → ds[i]? = some d → J.yld i H' x H'' → YV tp F' H' d x H''
def rdI (fs tp : Bool) (K : PySem.W.Frag) (W : XK) (f : Sg → Mem → Rs (List PyData)) : TI := fun σ H R => ∃ w η m, Rel K w η m σ H ∧ AnsE K W w η σ H (fun w' H' ds J => ∃ src, Yld tp w' H' J src ds ∧ (fs = true → ∀ a ∈ src, ∀ i, ¬ w'.ω i a)) (f η m) R
section
variable {X : Cx} {W : XK} {w : Wd} {η : Sg} {m : Mem} {σ : L2.St} {H : Hp}
theorem yld_list {a : Addr} {vs : List V} {ds : List PyData} (h : H a = some (.lst vs)) (n : a ∉ w.ρ) (r : RDs w.F H ds vs)  {tp : Bool} : Yld tp w H (Itl X.K a) [a] ds := by
  have sq : ∀ H' : Hp, (∀ b ∈ [a], H' b = H b) → H' a = some (.lst vs) := fun H' k => (k a (by simp)).trans h
  refine ⟨fun b hb => ?_, fun H' i k hi => ?_, fun H' k => ⟨vs, SqL.of (sq H' k), by rw [r.len]; exact Nat.le_refl _⟩, fun F' H' i d x H'' k kr _ hd y => ?_⟩
  · simp only [List.mem_singleton] at hb; subst hb; exact ⟨n, _, h⟩
  · obtain ⟨v, h1, _⟩ := r.get (List.getElem?_eq_getElem hi)
    exact ⟨vs, v, SqL.of (sq H' k), h1⟩
  · obtain ⟨rfl, y⟩ := y
    obtain ⟨v, h1, h2⟩ := r.get hd
    have e := (y vs (SqL.of (sq _ k))).symm.trans h1
    cases e
    exact .inl ⟨rfl, kr d x h2⟩
theorem yld_tup {a : Addr} {vs : List V} {ds : List PyData} (h : TupH H a vs) (n : a ∉ w.ρ) (r : RDs w.F H ds vs)  {tp : Bool} : Yld tp w H (Itt X.K a) [a] ds := by
  have sq : ∀ H' : Hp, (∀ b ∈ [a], H' b = H b) → SqT X.K H' a vs := fun H' k => by
    obtain ⟨o, h, hd⟩ := h
    exact TupH.sq ⟨o, (k a (by simp)).trans h, hd⟩
  refine ⟨fun b hb => ?_, fun H' i k hi => ?_, fun H' k => ⟨vs, sq H' k, by rw [r.len]; exact Nat.le_refl _⟩, fun F' H' i d x H'' k kr _ hd y => ?_⟩
  · simp only [List.mem_singleton] at hb; subst hb
    obtain ⟨o, h, _⟩ := h
    exact ⟨n, _, h⟩
  · obtain ⟨v, h1, _⟩ := r.get (List.getElem?_eq_getElem hi)
    exact ⟨vs, v, sq H' k, h1⟩
  · obtain ⟨rfl, y⟩ := y
    obtain ⟨v, h1, h2⟩ := r.get hd
    have e := (y vs (sq _ k)).symm.trans h1
    cases e
    exact .inl ⟨rfl, kr d x h2⟩
theorem yld_range {lo hi : Int} {tp : Bool} : Yld tp w H (Itr lo (hi - lo).toNat) [] (rangeL lo hi) := by
  have hl : (rangeL lo hi).length = (hi - lo).toNat := by simp [rangeL]
  refine ⟨fun b hb => by simp at hb, fun H' i _ h => by rw [hl] at h; exact h, fun H' _ => by rw [hl]; exact Nat.le_refl _, fun F' H' i d x H'' _ _ _ hd y => ?_⟩
  obtain ⟨rfl, rfl⟩ := y
  refine .inl ⟨rfl, ?_⟩
  unfold rangeL at hd
  rw [List.getElem?_map] at hd
  obtain ⟨n, h1, rfl⟩ := Option.map_eq_some_iff.mp hd
  have h2 := (List.getElem?_eq_some_iff.mp h1).2
  rw [List.getElem_range] at h2
  subst h2
  simp only [RD]
theorem yld_str {z : Str} {tp : Bool} : Yld tp w H (Its z) [] (strItems z) := by
  have hl : (strItems z).length = z.cps.size := by simp [strItems]
  refine ⟨fun b hb => by simp at hb, fun H' i _ h => by rw [hl] at h; exact h, fun H' _ => by rw [hl]; exact Nat.le_refl _, fun F' H' i d x H'' _ _ _ hd y => ?_⟩
  obtain ⟨rfl, c, h1, rfl⟩ := y
  refine .inl ⟨rfl, ?_⟩
  unfold strItems at hd
  rw [List.getElem?_map, Array.getElem?_toList, h1] at hd
  simp only [Option.map_some, Option.some.injEq] at hd
  subst hd
  simp only [RD]
theorem walkOf_R (rel : Rel X.K w η m σ H) {x : Vl} {v : V} {ds : List PyData} (vx : VR X.K w H x v) (h : walkOf x = some ds) : ∃ a vs, v = .ref a ∧ ((H a = some (.lst vs) ∧ a ∉ w.ρ) ∨ TupH H a vs) ∧ RDs w.F H ds vs := by
  cases x with
  | dat d =>
    cases d with
    | list ys =>
      simp only [walkOf, Option.some.injEq] at h; subst h
      simp only [VR, RD] at vx
      obtain ⟨a, vs, h1, h2, h3, h4⟩ := vx
      exact ⟨a, vs, h1, .inl ⟨h3, rel.sep.fr a h2⟩, h4⟩
    | tuple ys =>
      simp only [walkOf, Option.some.injEq] at h; subst h
      obtain ⟨a, vs, h1, h3, h4⟩ := vx.tuple
      exact ⟨a, vs, h1, .inr h3, h4⟩
    | _ => simp [walkOf] at h
  | new ys =>
    simp only [walkOf, Option.some.injEq] at h; subst h
    obtain ⟨a, vs, h1, h2, h3, h4, h5, _⟩ := vx
    exact ⟨a, vs, h1, .inl ⟨h2, h5⟩, h3⟩
  | bor ys =>
    simp only [walkOf, Option.some.injEq] at h; subst h
    obtain ⟨a, vs, h1, h2, h3, h5⟩ := vx
    exact ⟨a, vs, h1, .inl ⟨h2, h5⟩, h3⟩
  | _ => simp [walkOf] at h
/-- what is steady is no slot's own -/
theorem steady_R (rel : Rel X.K w η m σ H) {x : Vl} {a : Addr} (vx : VR X.K w H x (.ref a)) (h : steady x = true) : ∀ i, ¬ w.ω i a := fun i q => by
  obtain ⟨us, hu⟩ := rel.sep.oh a i q
  cases x with
  | dat d =>
    cases d with
    | list ys =>
      simp only [VR, RD] at vx
      obtain ⟨b, vs, e, h2, _⟩ := vx
      cases e
      exact rel.sep.fo a i h2 q
    | tuple ys =>
      obtain ⟨b, vs, e, ⟨o, h3, _⟩, _⟩ := vx.tuple
      cases e
      rw [hu] at h3
      cases h3
    | none => cases vx.none
    | bool _ => cases vx.bool
    | int _ => cases vx.int
    | str _ => cases vx.str
    | dict _ => simp [VR, RD] at vx
  | new ys =>
    obtain ⟨b, vs, e, _, _, _, _, h5⟩ := vx
    cases e
    exact h5 i q
  | new2 ys =>
    obtain ⟨b, vs, e, _, _, _, h5⟩ := vx
    cases e
    exact (h5 a (by simp)).2.2 i q
  | scr ns =>
    obtain ⟨b, e, h1⟩ := vx
    cases e
    rcases h1 with ⟨o, h1⟩ | h1
    · rw [hu] at h1; cases h1
    · simp [steady] at h
  | _ => simp [steady] at h
/-- a thing that is walked: how it stands -/
def At (H : Hp) (a : Addr) (vs : List V) : Prop := H a = some (.lst vs) ∨ TupH H a vs
theorem At.kind {a : Addr} {vs : List V} (h : At H a vs) (K : PySem.W.Frag) : ∃ tp, ∀ H' : Hp, H' a = H a → SqK K tp H' a vs := by
  rcases h with h | ⟨o, h, hd⟩
  · exact ⟨false, fun H' e => SqL.of (e.trans h)⟩
  · exact ⟨true, fun H' e => TupH.sq ⟨o, e.trans h, hd⟩⟩
theorem At.keep {H' : Hp} {a : Addr} {vs : List V} (h : At H a vs) (e : H' a = H a) : At H' a vs := by
  rcases h with h | ⟨o, h, hd⟩
  · exact .inl (e.trans h)
  · exact .inr ⟨o, e.trans h, hd⟩
theorem At.there {a : Addr} {vs : List V} (h : At H a vs) : ∃ o, H a = some o := by
  rcases h with h | ⟨o, h, _⟩
  · exact ⟨_, h⟩
  · exact ⟨_, h⟩
theorem yld_enum {a : Addr} {vs : List V} {ds : List PyData} {tp : Bool} (h : At H a vs) (hk : ∀ H' : Hp, H' a = H a → SqK X.K tp H' a vs) (n : a ∉ w.ρ) (r : RDs w.F H ds vs) : Yld true w H (IteG X.K tp a) [a] (enumL ds) := by
  have hl : (enumL ds).length = ds.length := by simp [enumL]
  have sq : ∀ H' : Hp, (∀ b ∈ [a], H' b = H b) → SqK X.K tp H' a vs := fun H' k => hk H' (k a (by simp))
  refine ⟨fun b hb => ?_, fun H' i k hi => ?_, fun H' k => ⟨vs, sq H' k, by rw [r.len, hl]⟩, fun F' H' i d x H'' k kr ku hd y => ?_⟩
  · simp only [List.mem_singleton] at hb; subst hb; exact ⟨n, h.there⟩
  · rw [hl] at hi
    obtain ⟨v, h1, _⟩ := r.get (List.getElem?_eq_getElem hi)
    exact ⟨vs, v, sq H' k, h1⟩
  · obtain ⟨T, v, rfl, nT, rfl, y⟩ := y
    have hv := y vs (sq _ k)
    have hi : i < ds.length := by
      rw [← r.len]
      exact (List.getElem?_eq_some_iff.mp hv).1
    obtain ⟨v', h1, h2⟩ := r.get (List.getElem?_eq_getElem hi)
    rw [hv] at h1
    cases h1
    unfold enumL at hd
    rw [List.getElem?_map, List.getElem?_zipIdx, List.getElem?_eq_getElem hi] at hd
    simp only [Option.map_some, Option.some.injEq, Nat.zero_add] at hd
    subst hd
    exact .inr ⟨T, _, nT, rfl, .inr ⟨rfl, _, _, _, _, rfl, rfl, rfl, by simp only [RD], ku _ _ (kr _ _ h2) _ _ nT⟩⟩
theorem yld_zip {a b : Addr} {vs us : List V} {ds es : List PyData} {tp tq : Bool} (hk : ∀ H' : Hp, H' a = H a → SqK X.K tp H' a vs) (hk' : ∀ H' : Hp, H' b = H b → SqK X.K tq H' b us) (h : At H a vs) (n : a ∉ w.ρ) (r : RDs w.F H ds vs) (h' : At H b us) (n' : b ∉ w.ρ) (r' : RDs w.F H es us) (F : Bool) : Yld (!F) w H (if F then ItzF X.K tp tq a b else ItzG X.K tp tq a b) [a, b] (zipL ds es) := by
  have hl : (zipL ds es).length = min ds.length es.length := by simp [zipL]
  have sq : ∀ H' : Hp, (∀ c ∈ [a, b], H' c = H c) → SqK X.K tp H' a vs ∧ SqK X.K tq H' b us := fun H' k => ⟨hk H' (k a (by simp)), hk' H' (k b (by simp))⟩
  have go : ∀ (H' : Hp) i, (∀ c ∈ [a, b], H' c = H c) → i < (zipL ds es).length → ∃ (xs ys : List V) (x y : V), SqK X.K tp H' a xs ∧ SqK X.K tq H' b ys ∧ xs[i]? = some x ∧ ys[i]? = some y := fun H' i k hi => by
    rw [hl] at hi
    obtain ⟨v, h1, _⟩ := r.get (List.getElem?_eq_getElem (show i < ds.length by omega))
    obtain ⟨u, h2, _⟩ := r'.get (List.getElem?_eq_getElem (show i < es.length by omega))
    exact ⟨vs, us, v, u, (sq H' k).1, (sq H' k).2, h1, h2⟩
  have st : ∀ (H' : Hp), (∀ c ∈ [a, b], H' c = H c) → ∃ xs ys : List V, SqK X.K tp H' a xs ∧ SqK X.K tq H' b ys ∧ min xs.length ys.length = (zipL ds es).length := fun H' k => by
    refine ⟨vs, us, (sq H' k).1, (sq H' k).2, ?_⟩
    rw [hl, r.len, r'.len]
  have it : ∀ (F' : Addr → Prop) (H' : Hp) (i : Nat) (d : PyData) (x y : V), (∀ c ∈ [a, b], H' c = H c) → (∀ d v, RD w.F H d v → RD F' H' d v) → (zipL ds es)[i]? = some d → (∀ xs, SqK X.K tp H' a xs → xs[i]? = some x) → (∀ ys, SqK X.K tq H' b ys → ys[i]? = some y) →
      ∃ d1 d2, d = .tuple [d1, d2] ∧ RD F' H' d1 x ∧ RD F' H' d2 y := fun F' H' i d x y k kr hd hx hy => by
    have h1 := hx vs (sq H' k).1
    have h2 := hy us (sq H' k).2
    have i1 : i < ds.length := by rw [← r.len]; exact (List.getElem?_eq_some_iff.mp h1).1
    have i2 : i < es.length := by rw [← r'.len]; exact (List.getElem?_eq_some_iff.mp h2).1
    obtain ⟨v1, g1, q1⟩ := r.get (List.getElem?_eq_getElem i1)
    obtain ⟨v2, g2, q2⟩ := r'.get (List.getElem?_eq_getElem i2)
    rw [h1] at g1; cases g1
    rw [h2] at g2; cases g2
    unfold zipL at hd
    rw [List.getElem?_map] at hd
    obtain ⟨p, hp, rfl⟩ := Option.map_eq_some_iff.mp hd
    rw [List.getElem?_zip_eq_some] at hp
    obtain ⟨p1, p2⟩ := hp
    rw [List.getElem?_eq_getElem i1] at p1
    rw [List.getElem?_eq_getElem i2] at p2
    have z1 := Option.some.inj p1
    have z2 := Option.some.inj p2
    exact ⟨p.1, p.2, rfl, z1 ▸ kr _ _ q1, z2 ▸ kr _ _ q2⟩
  have out : ∀ c ∈ [a, b], c ∉ w.ρ ∧ ∃ o, H c = some o := fun c hc => by
    simp only [List.mem_cons, List.not_mem_nil, or_false] at hc
    rcases hc with rfl | rfl
    · exact ⟨n, h.there⟩
    · exact ⟨n', h'.there⟩
  cases F with
  | false =>
    refine ⟨out, go, st, fun F' H' i d x H'' k kr ku hd y => ?_⟩
    obtain ⟨T, x, y, rfl, nT, rfl, hx, hy⟩ := y
    obtain ⟨d1, d2, rfl, q1, q2⟩ := it F' H' i d x y k kr hd hx hy
    exact .inr ⟨T, _, nT, rfl, .inr ⟨rfl, _, _, _, _, rfl, rfl, rfl, ku _ _ q1 _ _ nT, ku _ _ q2 _ _ nT⟩⟩
  | true =>
    refine ⟨out, go, st, fun F' H' i d x H'' k kr ku hd y => ?_⟩
    obtain ⟨T, o, x, y, rfl, nT, od, rfl, hx, hy⟩ := y
    obtain ⟨d1, d2, rfl, q1, q2⟩ := it F' H' i d x y k kr hd hx hy
    refine .inr ⟨T, _, nT, rfl, .inl ?_⟩
    simp only [RD]
    exact ⟨T, _, rfl, ⟨o, upd_same, od⟩, RDs.cons (ku _ _ q1 _ _ nT) (RDs.cons (ku _ _ q2 _ _ nT) RDs.nil)⟩
end
/-! ### the rules -/
section
variable {X : Cx} {W : XK} {tg a b : Expr} {fa fb : Sg → Mem → Rs Vl} {p pos : Pos} {fs : Bool}
theorem PI.imp {iter : Expr} {t t' : TI} (h : PI X tg iter t) (k : ∀ σ H R, t' σ H R → t σ H R) : PI X tg iter t' := ⟨fun pins s σ H R I q => h.run pins s σ H R I (k σ H R q)⟩
abbrev SI (fs : Bool) (X : Cx) (W : XK) (tg iter : Expr) (f : Sg → Mem → Rs (List PyData)) : Prop := PI X tg iter (rdI fs (isTupE tg) X.K W f)
theorem pi_seq {te : TE} (he : PE X a te) : PI X tg a (fun σ H R => te σ H fun x H1 => (∃ p xs, x = .ref p ∧ SqL X.K H1 p xs ∧ R (Itl X.K p) H1) ∨ (∃ p xs, x = .ref p ∧ SqT X.K H1 p xs ∧ R (Itt X.K p) H1) ∨ (∃ z, x = .str z ∧ R (Its z) H1)) := by
  refine ⟨fun pins s σ H R I h => ?_⟩
  refine thn (he.run pins s σ H _ I h) fun v s1 ⟨y, H1, I1, r1, q⟩ => ?_
  rcases q with ⟨p, xs, rfl, hq, q⟩ | ⟨p, xs, rfl, hq, q⟩ | ⟨z, rfl, q⟩
  · cases r1
    obtain ⟨its, rv, pl, hz⟩ := I1.list hq
    refine wpAny_pyIter_list pl.isList ?_
    refine ⟨s1.heap.objs.size, [s1.heap.objs.size], _, _, H1, rfl, I1.kept (t' := s1.toks) fun b o e => Heap.get?_push_of_some _ e, turn_list p _, ⟨_, Heap.get?_push_size _ rfl, rfl, rfl⟩, fun b hb => ?_, q⟩
    have e : b = s1.heap.objs.size := by simpa using hb
    subst e
    exact I1.fpOk (Nat.le_refl _) (I1.hok.fresh (Nat.le_refl _))
  · cases r1
    obtain ⟨its, rv, pl, hz⟩ := I1.tuple hq
    refine wpAny_pyIter_tuple (show s1.heap.IsTuple p its.toArray from pl) ?_
    refine ⟨s1.heap.objs.size, [s1.heap.objs.size], _, _, H1, rfl, I1.kept (t' := s1.toks) fun b o e => Heap.get?_push_of_some _ e, turn_tuple p _, ⟨_, Heap.get?_push_size _ rfl, rfl, rfl⟩, fun b hb => ?_, q⟩
    have e : b = s1.heap.objs.size := by simpa using hb
    subst e
    exact I1.fpOk (Nat.le_refl _) (I1.hok.fresh (Nat.le_refl _))
  · obtain ⟨t, rfl⟩ := r1
    cases ha : z.cps.all (· < 128)
    · exact wpAny_pyIter_wide ha (pi_one (tk := s1.toks) I1 _ (turn_str _ z t "str_iterator" (.inr rfl)) ⟨_, Heap.get?_push_size _ rfl, rfl, rfl⟩ q)
    · exact wpAny_pyIter_ascii ha (pi_one (tk := s1.toks) I1 _ (turn_str _ z t "str_ascii_iterator" (.inl rfl)) ⟨_, Heap.get?_push_size _ rfl, rfl, rfl⟩ q)
theorem si_seq (ha : SE X W a fa) : SI fs X W tg a (fun η m => (fa η m).bind fun x m1 => if !fs || steady x then Rs.opt m1 (iterOf x) else .bad) :=
  PI.imp (pi_seq ha) fun σ H R ⟨w, η, m, rel, hA⟩ => rd_bind (ExtE.refl w H) rel hA fun x m1 w1 u H1 e1 rel1 vx fx hA1 => by
    obtain ⟨hst, hB⟩ := ans_if hA1
    obtain ⟨ds, hd, hA2⟩ := ans_opt' hB
    unfold iterOf at hd
    split at hd
    · rename_i z
      cases hd
      cases vx.str
      exact .inr (.inr ⟨z, rfl, hA2 w1 _ H1 e1 rel1 ⟨[], yld_str, fun _ b hb => by simp at hb⟩⟩)
    · obtain ⟨q, vs, rfl, h1, h2⟩ := walkOf_R rel1 vx hd
      rcases h1 with ⟨h1, n1⟩ | h1
      · exact .inl ⟨q, vs, rfl, SqL.of h1, hA2 w1 _ H1 e1 rel1 ⟨[q], yld_list h1 n1 h2, fun hf b hb => by simp only [List.mem_singleton] at hb; subst hb; exact steady_R rel1 vx (by simpa [hf] using hst)⟩⟩
      · have n1 : q ∉ w1.ρ := by
          obtain ⟨o, h, _⟩ := h1
          exact rel1.sep.frz_out h
        exact .inr (.inl ⟨q, vs, rfl, h1.sq, hA2 w1 _ H1 e1 rel1 ⟨[q], yld_tup h1 n1 h2, fun hf b hb => by simp only [List.mem_singleton] at hb; subst hb; exact steady_R rel1 vx (by simpa [hf] using hst)⟩⟩)
theorem si_rng1 (hg : Gl X "range") (hm : X.mg "range" = none) (ha : SE X W a fa) (hs : isStar a = false) : SI fs X W tg (.Call (.Name "range" p) [a] [] pos) (fun η m => (fa η m).bind fun x m1 => match x with
    | .dat (.int n) => if rangeOk 0 n then .ok (rangeL 0 n) m1 else .bad
    | _ => .bad) :=
  PI.imp (pi_range1 hg hm (pa_cons ha pa_nil (star_ok hs)) (star_ok hs)) fun σ H R ⟨w, η, m, rel, hA⟩ => rd_bind (ExtE.refl w H) rel hA fun x m1 w1 u H1 e1 rel1 vx fx hA1 => by
    split at hA1
    · rename_i n
      obtain ⟨hk, hA2⟩ := ans_if hA1
      obtain ⟨k1, k2, k3, k4⟩ := rangeOk_ok hk
      cases vx.int
      refine ⟨n, rfl, by omega, by omega, ?_⟩
      have e : n.toNat = (n - 0).toNat := by simp
      rw [e]
      exact hA2 w1 _ H1 e1 rel1 ⟨[], yld_range, fun _ b hb => by simp at hb⟩
    · exact hA1.elim
theorem si_rng2 (hg : Gl X "range") (hm : X.mg "range" = none) (ha : SE X W a fa) (hb : SE X W b fb) (hs : isStar a = false) (hs2 : isStar b = false) : SI fs X W tg (.Call (.Name "range" p) [a, b] [] pos) (fun η m => (fa η m).bind fun x m1 => (fb η m1).bind fun y m2 => match x, y with
    | .dat (.int i), .dat (.int j) => if rangeOk i j then .ok (rangeL i j) m2 else .bad
    | _, _ => .bad) :=
  PI.imp (pi_range2 hg hm (pa_cons ha (pa_cons hb pa_nil (star_ok hs2)) (star_ok hs)) (by rw [star_ok hs, star_ok hs2]; rfl) (star_ok hs2)) fun σ H R ⟨w, η, m, rel, hA⟩ => rd_bind (ExtE.refl w H) rel hA fun x m1 w1 u H1 e1 rel1 vx fx hA1 =>
    rd_bind e1 rel1 hA1 fun y m2 w2 v H2 e2 rel2 vy fy hA2 => by
    split at hA2
    · rename_i i j
      obtain ⟨hk, hA3⟩ := ans_if hA2
      obtain ⟨k1, k2, k3, k4⟩ := rangeOk_ok hk
      cases vx.int; cases vy.int
      exact ⟨i, j, rfl, ⟨by omega, by omega, by omega, by omega⟩, hA3 w2 _ H2 (e1.trans e2) rel2 ⟨[], yld_range, fun _ b hb => by simp at hb⟩⟩
    · exact hA2.elim
theorem si_enum (G : Gaps X) (ht : isTupE tg = true) (hg : Gl X "enumerate") (hm : X.mg "enumerate" = none) (ha : SE X W a fa) (hs : isStar a = false) : SI fs X W tg (.Call (.Name "enumerate" p) [a] [] pos)
    (fun η m => (fa η m).bind fun x m1 => if !fs || steady x then (Rs.opt m1 (walkOf x)).bind fun ds m2 => .ok (enumL ds) m2 else .bad) :=
  PI.imp (G.enumG ht hg hm ha (star_ok hs)) fun σ H R ⟨w, η, m, rel, hA⟩ => by
   rw [ht] at hA
   exact rd_bind (ExtE.refl w H) rel hA fun x m1 w1 u H1 e1 rel1 vx fx hA1 => by
      obtain ⟨hst, hB⟩ := ans_if hA1
      obtain ⟨ds, hd, hA2⟩ := ans_opt hB
      obtain ⟨q, vs, rfl, h1, h2⟩ := walkOf_R rel1 vx hd
      have n1 : At H1 q vs ∧ q ∉ w1.ρ := by
        rcases h1 with ⟨h1, n1⟩ | h1
        · exact ⟨.inl h1, n1⟩
        · obtain ⟨o, h, hd⟩ := h1
          exact ⟨.inr ⟨o, h, hd⟩, rel1.sep.frz_out h⟩
      obtain ⟨tp, hk⟩ := n1.1.kind X.K
      exact ⟨q, vs, tp, rfl, hk H1 rfl, hA2 w1 _ H1 e1 rel1 ⟨[q], yld_enum n1.1 hk n1.2 h2, fun hf b hb => by simp only [List.mem_singleton] at hb; subst hb; exact steady_R rel1 vx (by simpa [hf] using hst)⟩⟩
theorem si_zip (G : Gaps X) (ht : isTupE tg = true) (hg : Gl X "zip") (hm : X.mg "zip" = none) (ha : SE X W a fa) (hb : SE X W b fb) (hs : isStar a = false) (hs2 : isStar b = false) : SI fs X W tg (.Call (.Name "zip" p) [a, b] [] pos)
    (fun η m => (fa η m).bind fun x m1 => (fb η m1).bind fun y m2 => if !fs || (steady x && steady y) then (match walkOf x, walkOf y with
    | some as, some bs => .ok (zipL as bs) m2
    | _, _ => .bad) else .bad) := by
  have st : starEach [a, b] X.env = [(false, eval a X.env), (false, eval b X.env)] := by rw [star_ok hs, star_ok hs2]; rfl
  have core : ∀ (F : Bool) (σ : L2.St) (H : Hp) (R : It → Hp → Prop), rdI fs (!F) X.K W (fun η m => (fa η m).bind fun x m1 => (fb η m1).bind fun y m2 => if !fs || (steady x && steady y) then (match walkOf x, walkOf y with
      | some as, some bs => .ok (zipL as bs) m2
      | _, _ => .bad) else .bad) σ H R → rdE X.K W fa σ H fun x H1 => rdE X.K W fb σ H1 fun y H2 => ∃ a b xs ys tp tq, x = .ref a ∧ y = .ref b ∧ SqK X.K tp H2 a xs ∧ SqK X.K tq H2 b ys ∧ R (if F then ItzF X.K tp tq a b else ItzG X.K tp tq a b) H2 :=
    fun F σ H R ⟨w, η, m, rel, hA⟩ => rd_bind (ExtE.refl w H) rel hA fun x m1 w1 u H1 e1 rel1 vx fx hA1 => rd_bind e1 rel1 hA1 fun y m2 w2 v H2 e2 rel2 vy fy hA2 => by
      obtain ⟨hst, hB⟩ := ans_if hA2
      split at hB
      · rename_i as bs k1 k2
        have fin : ∀ {x : Vl} {v : V} {ds : List PyData}, VR X.K w2 H2 x v → walkOf x = some ds → ∃ q vs, v = .ref q ∧ At H2 q vs ∧ q ∉ w2.ρ ∧ RDs w2.F H2 ds vs := fun vx k => by
          obtain ⟨q, vs, rfl, h1, h2⟩ := walkOf_R rel2 vx k
          rcases h1 with ⟨h1, n1⟩ | ⟨o, h, hd⟩
          · exact ⟨q, vs, rfl, .inl h1, n1, h2⟩
          · exact ⟨q, vs, rfl, .inr ⟨o, h, hd⟩, rel2.sep.frz_out h, h2⟩
        obtain ⟨q, vs, rfl, a1, n1, r1⟩ := fin (vx.ext rel1.sep e2) k1
        obtain ⟨q', vs', rfl, a2, n2, r2⟩ := fin vy k2
        obtain ⟨tp, hk⟩ := a1.kind X.K
        obtain ⟨tq, hk'⟩ := a2.kind X.K
        exact ⟨q, q', vs, vs', tp, tq, rfl, rfl, hk H2 rfl, hk' H2 rfl, hB w2 _ H2 (e1.trans e2) rel2 ⟨[q, q'], yld_zip hk hk' a1 n1 r1 a2 n2 r2 F, fun hf b hb => by
          have hs2 : steady x = true ∧ steady y = true := by simpa [hf] using hst
          simp only [List.mem_cons, List.not_mem_nil, or_false] at hb
          rcases hb with rfl | rfl
          · exact steady_R rel2 (vx.ext rel1.sep e2) hs2.1
          · exact steady_R rel2 vy hs2.2⟩⟩
      · exact hB.elim
  rw [SI, ht]
  exact PI.imp (G.zipG ht hg hm ha hb st) (core false)
/-! ### x[::-1], x.count(y) -/
theorem se_rev (G : Gaps X) {k : Nat} {p1 p2 p3 : Pos} (ha : SE X W a fa) : SE X W (.Subscript a (.Slice none none (some (.UnaryOp .USub (.Constant (.int 1) k p1) p2)) p3) pos) (fun η m => (fa η m).bind fun x m1 => Rs.opt m1 (revV m1 x)) :=
  PE.imp (G.revT ha) fun σ H Q ⟨w, η, m, rel, hA⟩ => rd_bind (ExtE.refl w H) rel hA fun x m1 w1 u H1 e1 rel1 vx fx hA1 => by
    obtain ⟨z, hz, hA2⟩ := ans_opt' hA1
    unfold revV at hz
    split at hz
    · rename_i xs
      cases hz
      obtain ⟨q, vs, rfl, hq, rq⟩ := vx.tuple
      refine ⟨q, vs, rfl, .inr ⟨hq, fun p o np hd => ?_⟩⟩
      have z := new_tup rel1 np rq.reverse hd
      exact hA2 w1 _ _ (e1.trans (ext_new rel1.sep np)) (rel1.new np) ⟨z.1, trivial⟩
    · obtain ⟨xs, h1, rfl⟩ := Option.map_eq_some_iff.mp hz
      obtain ⟨q, vs, rfl, hq, rq⟩ := listOf_R rel1 vx h1
      refine ⟨q, vs, rfl, .inl ⟨SqL.of hq, fun p np => ?_⟩⟩
      have z := new_lst rel1 np rq.reverse
      exact hA2 w1 _ _ (e1.trans (ext_new rel1.sep np)) (rel1.new np) ⟨z.1, z.2.back e1⟩
end
end SS
/- SSK -/
set_option Elab.async false
set_option linter.all false
set_option maxRecDepth 100000
/-! Targets, comprehensions. -/
namespace SS
open PySem PySem.Spec PyProof.Rows L2
section
variable {X : Cx} {W : XK} {a b : Expr} {fa fb : Sg → Mem → Rs Vl} {apos cpos : Pos}
theorem se_count (G : Gaps X) (hb : attributeBase a "count" X.env (eval a X.env) = eval a X.env) (hl : (apos.endLine == cpos.line) = true) (ha : SE X W a fa) (hb' : SE X W b fb) (hs : isStar b = false) :
    SE X W (.Call (.Attribute a "count" apos) [b] [] cpos) (fun η m => (fa η m).bind fun x m1 => (Rs.opt m1 (meRdy .count x)).bind fun _ m1 => (fb η m1).bind fun y m2 => Rs.opt m2 (meV m2 .count x y)) := by
  refine PE.imp (G.count hb hl ha hb' hs) fun σ H Q ⟨w, η, m, rel, hA⟩ => rd_bind (ExtE.refl w H) rel hA fun x m1 w1 u H1 e1 rel1 vx fx hA1 => ?_
  obtain ⟨_, hr, hA1⟩ := ans_opt hA1
  obtain ⟨ds, hd, _⟩ := Option.map_eq_some_iff.mp hr
  obtain ⟨q, vs, rfl, h1, h2⟩ := walkOf_R rel1 vx hd
  have fin : ∀ tp : Bool, (∃ xs, if tp = true then TupH H1 q xs else SqL X.K H1 q xs) → (∀ w2 H2 vs', ExtE w1 H1 w2 H2 → ((H2 q = some (.lst vs') ∧ q ∉ w2.ρ) ∨ TupH H2 q vs') → if tp = true then TupH H2 q vs' else SqL X.K H2 q vs') → ∃ (a : Addr) (tp : Bool), V.ref q = .ref a ∧ (∃ xs, if tp = true then TupH H1 a xs else SqL X.K H1 a xs) ∧ rdE X.K W fb σ H1 fun y H2 => ∃ (ns : List Int) (k : Int), y = .int k ∧ (if tp = true then TupH H2 a (ns.map V.int) else SqL X.K H2 a (ns.map V.int)) ∧ Q (.int (ns.count k)) H2 := by
    intro tp k1 k2
    refine ⟨q, tp, rfl, k1, rd_bind e1 rel1 hA1 fun y m2 w2 v H2 e2 rel2 vy fy hA2 => ?_⟩
    obtain ⟨z, hz, hA3⟩ := ans_opt' hA2
    simp only [meV] at hz
    split at hz
    · rename_i ns k hn
      cases hz
      rw [hd] at hn
      obtain ⟨q', vs', e', h1', h2'⟩ := walkOf_R rel2 (vx.ext rel1.sep e2) hd
      cases e'
      have z := k2 w2 H2 vs' e2 h1'
      rw [h2'.ints hn] at z
      exact ⟨ns, k, vy.int, z, hA3 w2 _ H2 (e1.trans e2) rel2 ⟨VR.ofInt, trivial⟩⟩
    · cases hz
  rcases h1 with ⟨h1, n1⟩ | h1
  · refine fin false ⟨vs, SqL.of h1⟩ fun w2 H2 vs' e2 z => ?_
    have f := e2.fr q _ h1 n1
    rcases z with ⟨z, _⟩ | ⟨o, z, _⟩
    · exact SqL.of z
    · rw [f] at z; cases z
  · refine fin true ⟨vs, h1⟩ fun w2 H2 vs' e2 z => ?_
    obtain ⟨o, z1, z2⟩ := h1
    have nr : q ∉ w1.ρ := fun q' => by
      obtain ⟨o', a1, a2⟩ := rel1.sep.rh q q'
      rw [z1] at a1
      cases a1
      exact a2 _ _ rfl
    have f := e2.fr q _ z1 nr
    rcases z with ⟨z, _⟩ | z
    · rw [f] at z; cases z
    · exact z
end
/-! ### slots are set -/
section
variable {K : PySem.W.Frag} {w : Wd} {η : Sg} {m : Mem} {σ : L2.St} {H : Hp}
theorem getS_set {η : Sg} {i j : Nat} {v : Option Vl} {u : Vl} (h : getS (η.set i v) j = some u) : (j = i ∧ v = some u) ∨ (j ≠ i ∧ getS η j = some u) := by
  unfold getS at h ⊢
  by_cases e : j = i
  · subst e
    by_cases l : j < η.length
    · rw [List.getElem?_set_self l] at h
      cases v with
      | none => simp at h
      | some v => exact .inl ⟨rfl, by simpa using h⟩
    · rw [List.getElem?_eq_none (by rw [List.length_set]; omega)] at h
      simp at h
  · rw [List.getElem?_set_ne (Ne.symm e)] at h
    exact .inr ⟨e, h⟩
theorem getS_lt {η : Sg} {i : Nat} {v : Vl} (h : getS η i = some v) : i < η.length := by
  unfold getS at h
  split at h
  · rename_i q
    exact (List.getElem?_eq_some_iff.mp q).1
  · cases h
theorem getS_set_lt {η : Sg} {i : Nat} {v : Option Vl} {u : Vl} (h : getS (η.set i v) i = some u) : i < η.length := by
  have := getS_lt h
  rwa [List.length_set] at this
theorem slots_set {η : Sg} {σ : L2.St} {i : Nat} {v : Vl} {x : V} (h : SR K w H η σ) (hx : SlotR K w H i v x) : SR K w H (η.set i (some v)) (σ.set i (some x)) := by
  refine ⟨by rw [List.length_set, List.length_set]; exact h.1, fun j u q => ?_⟩
  rcases getS_set q with ⟨rfl, e⟩ | ⟨n, e⟩
  · cases e
    have l := getS_set_lt q
    rw [h.1] at l
    exact ⟨x, by rw [List.getElem?_set_self l], hx⟩
  · obtain ⟨z, h1, h2⟩ := h.2 j u e
    exact ⟨z, by rw [List.getElem?_set_ne (Ne.symm n)]; exact h1, h2⟩
theorem set_dat {i : Nat} {d : PyData} {x : V} (r : Rel K w η m σ H) (hx : RD w.F H d x) : Rel K w (η.set i (some (.dat d))) m (σ.set i (some x)) H := ⟨r.sep, r.mem, slots_set r.slo hx⟩
theorem sets_dat : ∀ {is : List Nat} {ds : List PyData} {xs : List V} {η η' : Sg} {σ : L2.St} {Q : L2.St → Hp → Prop}, Rel K w η m σ H → RDs w.F H ds xs → setMany η is ds = some η' →
    (∀ σ', Rel K w η' m σ' H → (∀ vs, (∀ i ∈ is, i ∈ vs) → wipe σ' vs = wipe σ vs) → Q σ' H) → (is.foldr (fun i t => gCons (gName i) t) gNil) xs σ H Q
  | [], ds, xs, η, η', σ, Q, r, hr, h, k => by
    cases ds with
    | nil =>
      simp only [setMany, Option.some.injEq] at h; subst h
      simp only [RDs] at hr; subst hr
      exact ⟨rfl, k σ r fun _ _ => rfl⟩
    | cons d ds => simp [setMany] at h
  | i :: is, ds, xs, η, η', σ, Q, r, hr, h, k => by
    cases ds with
    | nil => simp [setMany] at h
    | cons d ds =>
      simp only [setMany] at h
      simp only [RDs] at hr
      obtain ⟨v, us, rfl, h1, h2⟩ := hr
      refine ⟨v, us, rfl, ?_⟩
      refine sets_dat (set_dat r h1) h2 h fun σ' r' hw => k σ' r' fun vs hv => ?_
      rw [hw vs fun j hj => hv j (by simp [hj])]
      have hi := hv i (by simp)
      have go : ∀ (vs : List Nat) (τ : L2.St), i ∈ vs → wipe (τ.set i (some v)) vs = wipe τ vs := by
        intro vs
        induction vs with
        | nil => intro τ h; simp at h
        | cons j vs ih =>
          intro τ h
          by_cases q : i ∈ vs
          · simp only [wipe, ih τ q]
          · have e : i = j := by simpa [q] using h
            subst e
            have out : ∀ (vs : List Nat) (τ : L2.St), i ∉ vs → wipe (τ.set i (some v)) vs = (wipe τ vs).set i (some v) := by
              intro vs
              induction vs with
              | nil => intro τ _; rfl
              | cons l vs ih2 =>
                intro τ hn
                simp only [List.mem_cons, not_or] at hn
                simp only [wipe]
                rw [ih2 τ hn.2, List.set_comm _ _ hn.1]
            simp only [wipe]
            rw [out vs τ q, List.set_set]
      exact go vs σ hi
def tgG (K : PySem.W.Frag) : Tg → TG
  | .one i => gName i
  | .tup is => gTup K is.length (is.foldr (fun i t => gCons (gName i) t) gNil)
theorem setMany_len : ∀ {is : List Nat} {ds : List PyData} {η η' : Sg}, setMany η is ds = some η' → ds.length = is.length
  | [], [], _, _, _ => rfl
  | [], _ :: _, _, _, h => by simp [setMany] at h
  | _ :: _, [], _, _, h => by simp [setMany] at h
  | i :: is, d :: ds, η, η', h => by
    simp only [setMany] at h
    simp [setMany_len h]
/-- an item that came is stored -/
theorem tg_R {t : Tg} {d : PyData} {x : V} {H' : Hp} {η' : Sg} {Q : L2.St → Hp → Prop} (r : Rel K w η m σ H) {tp : Bool} (ht : tp = true → ∃ is, t = .tup is) (y : YV tp w.F H d x H') (h : bindTg η d t = some η')
    (k : ∀ σ', ExtE w H w H' → Rel K w η' m σ' H' → (∀ vs, (∀ i ∈ tgSlots t, i ∈ vs) → wipe σ' vs = wipe σ vs) → Q σ' H') : tgG K t x σ H' Q := by
  have base : ExtE w H w H' ∧ Rel K w η m σ H' ∧ (RD w.F H' d x ∨ tp = true ∧ ∃ T x1 x2 d1 d2, H' T = some (.tup [x1, x2]) ∧ x = .ref T ∧ d = .tuple [d1, d2] ∧ RD w.F H' d1 x1 ∧ RD w.F H' d2 x2) := by
    rcases y with ⟨rfl, y⟩ | ⟨T, o, nT, rfl, y⟩
    · exact ⟨ExtE.refl _ _, r, .inl y⟩
    · refine ⟨ext_new r.sep nT, r.new nT, ?_⟩
      rcases y with y | ⟨hp, x1, x2, d1, d2, rfl, rfl, rfl, y1, y2⟩
      · exact .inl y
      · exact .inr ⟨hp, T, x1, x2, d1, d2, upd_same, rfl, rfl, y1, y2⟩
  obtain ⟨e, r', y⟩ := base
  cases t with
  | one i =>
    simp only [bindTg, Option.some.injEq] at h
    subst h
    rcases y with y | ⟨hp, _⟩
    · refine k _ e (set_dat r' y) fun vs hv => ?_
      have := sets_dat (Q := fun σ' _ => ∀ vs, (∀ j ∈ [i], j ∈ vs) → wipe σ' vs = wipe σ vs) (is := [i]) (ds := [d]) (xs := [x]) r' (RDs.cons y RDs.nil) rfl fun σ' _ hw => hw
      obtain ⟨v, us, e1, h2⟩ := this
      cases e1
      exact h2.2 vs hv
    · obtain ⟨is, q⟩ := ht hp
      cases q
  | tup is =>
    simp only [bindTg] at h
    split at h
    · rename_i ds
      rcases y with y | ⟨hp, T, x1, x2, d1, d2, hT, rfl, e2, y1, y2⟩
      · simp only [RD] at y
        obtain ⟨a, vs, rfl, hv, rv⟩ := y
        refine ⟨a, vs, rfl, hv.sq, by rw [rv.len]; exact setMany_len h, sets_dat r' rv h fun σ' r2 hw => k σ' e r2 hw⟩
      · cases e2
        have l := setMany_len h
        exact ⟨T, [x1, x2], rfl, SqT.of hT, l, sets_dat r' (RDs.cons y1 (RDs.cons y2 RDs.nil)) h fun σ' r2 hw => k σ' e r2 hw⟩
    · cases h
end
end SS
/- SSL -/
set_option Elab.async false
set_option linter.all false
set_option maxRecDepth 100000
/-! List comprehensions. -/
namespace SS
open PySem PySem.Spec PyProof.Rows L2
section
variable {K : PySem.W.Frag} {w : Wd} {η : Sg} {m : Mem} {σ : L2.St} {H : Hp}
/-- back from a part that knew less of the slots -/
theorem back_out {wi w5 : Wd} {H4 : Hp} {m' : Mem} (rel : Rel K w η m σ H) (hF : wi.F = w.F) (hρ : wi.ρ = w.ρ) (e : ExtE wi H w5 H4) (sp : Sep w5 H4) (mr : MR w5 m' H4) :
    ExtE w H { w5 with ω := w.ω } H4 ∧ Rel K { w5 with ω := w.ω } η m' σ H4 := by
  have h3 : ∀ a i, w.ω i a → ∃ vs, H a = some (.lst vs) ∧ a ∉ w.ρ := fun a i q => by
    obtain ⟨vs, z⟩ := rel.sep.oh a i q
    exact ⟨vs, z, fun y => rel.sep.ro a i y q⟩
  have nω : ∀ a i, H a = none → ¬ w.ω i a := fun a i q z => by
    obtain ⟨vs, y, _⟩ := h3 a i z
    rw [q] at y; cases y
  have mρ : ∀ a, a ∈ w5.ρ → a ∈ w.ρ ∨ H a = none := fun a q => by rw [← hρ]; exact e.mem q
  have hF' : ∀ a, w5.F a → w.F a ∨ H a = none := fun a q => by rw [← hF]; exact e.F' a q
  have e4 : ExtE w H { w5 with ω := w.ω } H4 := ⟨fun a q => e.F a (by rw [hF]; exact q), hF', by rw [← hρ]; exact e.ρ, rfl, fun a o h n => e.fr a o h (by rw [hρ]; exact n), e.dm⟩
  refine ⟨e4, ⟨sp.fr, fun a i q z => ?_, fun a i q z => ?_, rel.sep.oo, sp.rn, sp.fh, fun a i q => ?_, sp.rh⟩, mr, rel.slo.ext rel.sep e4⟩
  · rcases hF' a q with q | q
    · exact rel.sep.fo a i q z
    · exact nω a i q z
  · rcases mρ a q with q | q
    · exact rel.sep.ro a i q z
    · exact nω a i q z
  · obtain ⟨vs, z, y⟩ := h3 a i q
    exact ⟨vs, e.fr a _ z (by rw [hρ]; exact y)⟩
/-- a list that is none of ours is written -/
theorem RD.poke {F : Addr → Prop} {D : Addr} {old : List V} {o : HO} (nF : ¬ F D) (hD : H D = some (.lst old)) {d : PyData} {v : V} (h : RD F H d v) : RD F (upd H D o) d v :=
  RD.mono (fun _ h => h) (fun a vs f h => by rw [upd_ne (show a ≠ D from fun e => nF (e ▸ f))]; exact h) (fun a vs ⟨ob, h, hd⟩ => ⟨ob, by rw [upd_ne (fun e => by subst e; rw [hD] at h; cases h)]; exact h, hd⟩) d v h
theorem RDs.poke {F : Addr → Prop} {D : Addr} {old : List V} {o : HO} (nF : ¬ F D) (hD : H D = some (.lst old)) {d : List PyData} {v : List V} (h : RDs F H d v) : RDs F (upd H D o) d v :=
  RDs.mono (fun _ h => h) (fun a vs f h => by rw [upd_ne (show a ≠ D from fun e => nF (e ▸ f))]; exact h) (fun a vs ⟨ob, h, hd⟩ => ⟨ob, by rw [upd_ne (fun e => by subst e; rw [hD] at h; cases h)]; exact h, hd⟩) d v h
theorem RwR.poke {F : Addr → Prop} {D : Addr} {old : List V} {o : HO} (nF : ¬ F D) (hD : H D = some (.lst old)) : ∀ {rows : List (List PyData)} {as : List Addr}, (∀ b ∈ as, b ≠ D) → RwR F H rows as → RwR F (upd H D o) rows as
  | [], as, _, h => by simpa only [RwR] using h
  | r :: rs, as, n, h => by
    simp only [RwR] at h ⊢
    obtain ⟨a, as', rfl, ⟨vs, h1, h2⟩, h3⟩ := h
    exact ⟨a, as', rfl, ⟨vs, by rw [upd_ne (n a (by simp))]; exact h1, h2.poke nF hD⟩, RwR.poke nF hD (fun b hb => n b (by simp [hb])) h3⟩
theorem ScrR.poke {D : Addr} {old : List V} {o : HO} (hD : H D = some (.lst old)) {a : Addr} {xs : List V} (h : ScrR K H a xs) : ScrR K (upd H D o) a xs := by
  rcases h with ⟨ob, h⟩ | h
  · exact .inl ⟨ob, by rw [upd_ne (fun e => by subst e; rw [hD] at h; cases h)]; exact h⟩
  · exact .inr h
theorem Rel.poke {D : Addr} {old new : List V} (r : Rel K w η m σ H) (hD : H D = some (.lst old)) (nF : ¬ w.F D) (nρ : D ∉ w.ρ) (nω : ∀ i, ¬ w.ω i D) : Rel K w η m σ (upd H D (.lst new)) := by
  have ne : ∀ a, a ≠ D → upd H D (.lst new) a = H a := fun a h => upd_ne h
  refine ⟨⟨r.sep.fr, r.sep.fo, r.sep.ro, r.sep.oo, r.sep.rn, fun a h => ?_, fun a i h => ?_, fun a h => ?_⟩, ⟨r.mem.1, fun c cell a h1 h2 => ?_⟩, r.slo.1, fun i v q => ?_⟩
  · rw [ne a (fun e => nF (e ▸ h))]; exact r.sep.fh a h
  · rw [ne a (fun e => nω i (e ▸ h))]; exact r.sep.oh a i h
  · rw [ne a (fun e => nρ (e ▸ h))]; exact r.sep.rh a h
  · have z := r.mem.2 c cell a h1 h2
    cases cell with
    | lst xs =>
      obtain ⟨n, vs, z1, z2⟩ := z
      exact ⟨n, vs, by rw [ne a (fun e => nρ (e ▸ List.mem_of_getElem? h2))]; exact z1, z2.poke nF hD⟩
    | ins fs => exact z.elim
  · obtain ⟨u, h1, h2⟩ := r.slo.2 i v q
    refine ⟨u, h1, ?_⟩
    cases v with
    | dat d => exact RD.poke nF hD h2
    | ref c => exact h2
    | new xs =>
      obtain ⟨a, vs, rfl, q1, q2, q3⟩ := h2
      exact ⟨a, vs, rfl, by rw [ne a (fun e => nω i (e ▸ q3))]; exact q1, q2.poke nF hD, q3⟩
    | new2 rows =>
      obtain ⟨a, as, rfl, q1, q2, q3, q4⟩ := h2
      exact ⟨a, as, rfl, by rw [ne a (fun e => nω i (e ▸ q4 a (by simp)))]; exact q1, q2.poke nF hD fun b hb e => nω i (e ▸ q4 b (by simp [hb])), q3, q4⟩
    | bor xs => exact h2.elim
    | bor2 xs => exact h2.elim
    | scr ns =>
      obtain ⟨a, rfl, h⟩ := h2
      exact ⟨a, rfl, h.poke hD⟩
theorem wipe_get {σ : L2.St} : ∀ (vs : List Nat) (i : Nat), (wipe σ vs)[i]? = if i ∈ vs ∧ i < σ.length then some none else σ[i]?
  | [], i => by simp [wipe]
  | v :: vs, i => by
    simp only [wipe]
    by_cases e : v = i
    · subst e
      by_cases l : v < σ.length
      · rw [List.getElem?_set_self (by rw [wipe_length]; exact l), if_pos ⟨by simp, l⟩]
      · rw [List.getElem?_eq_none (by rw [List.length_set, wipe_length]; omega), if_neg (fun h => l h.2), List.getElem?_eq_none (by omega)]
    · rw [List.getElem?_set_ne e, wipe_get vs i]
      by_cases q : i ∈ vs ∧ i < σ.length
      · rw [if_pos q, if_pos ⟨by simp [q.1], q.2⟩]
      · rw [if_neg q, if_neg (fun h => q ⟨by
          have := h.1
          simp only [List.mem_cons] at this
          rcases this with h | h
          · exact absurd h.symm e
          · exact h, h.2⟩)]
theorem wipe_idem {σ : L2.St} (vs : List Nat) : wipe (wipe σ vs) vs = wipe σ vs := by
  apply List.ext_getElem?
  intro i
  rw [wipe_get vs i, wipe_length]
  by_cases q : i ∈ vs ∧ i < σ.length
  · rw [if_pos q, wipe_get vs i, if_pos q]
  · rw [if_neg q]
/-! ### the block's slots -/
def Wd.less (w : Wd) (is : List Nat) : Wd := { w with ω := fun i a => i ∉ is ∧ w.ω i a }
theorem getS_wipe {η : Sg} : ∀ {is : List Nat} {j : Nat} {v : Vl}, getS (wipeS η is) j = some v → j ∉ is ∧ getS η j = some v
  | [], j, v, h => ⟨by simp, h⟩
  | i :: is, j, v, h => by
    simp only [wipeS] at h
    rcases getS_set h with ⟨_, e⟩ | ⟨n, e⟩
    · cases e
    · obtain ⟨h1, h2⟩ := getS_wipe e
      exact ⟨by simp [n, h1], h2⟩
theorem wipeS_len {η : Sg} : ∀ is : List Nat, (wipeS η is).length = η.length
  | [] => rfl
  | i :: is => by simp only [wipeS, List.length_set, wipeS_len is]
theorem Rel.less (r : Rel K w η m σ H) (is : List Nat) : Rel K (w.less is) (wipeS η is) m (wipe σ is) H := by
  refine ⟨⟨r.sep.fr, fun a i f h => r.sep.fo a i f h.2, fun a i f h => r.sep.ro a i f h.2, fun a i j h h' => r.sep.oo a i j h.2 h'.2, r.sep.rn, r.sep.fh, fun a i h => r.sep.oh a i h.2, r.sep.rh⟩, r.mem, by rw [wipeS_len, wipe_length]; exact r.slo.1, fun j v q => ?_⟩
  obtain ⟨n, q⟩ := getS_wipe q
  obtain ⟨u, h1, h2⟩ := r.slo.2 j v q
  refine ⟨u, by rw [wipe_out n]; exact h1, ?_⟩
  cases v with
  | dat d => exact h2
  | ref c => exact h2
  | new xs =>
    obtain ⟨a, vs, rfl, q1, q2, q3⟩ := h2
    exact ⟨a, vs, rfl, q1, q2, n, q3⟩
  | new2 rows =>
    obtain ⟨a, as, rfl, q1, q2, q3, q4⟩ := h2
    exact ⟨a, as, rfl, q1, q2, q3, fun b hb => ⟨n, q4 b hb⟩⟩
  | bor xs => exact h2.elim
  | bor2 xs => exact h2.elim
  | scr ns => exact h2
end
/-- tests -/
def rdB (K : PySem.W.Frag) (W : XK) (f : Sg → Mem → Rs Bool) : TT := fun σ H Q => ∃ w η m, Rel K w η m σ H ∧ AnsE K W w η σ H (fun _ _ a b => a = b) (f η m) Q
section
variable {X : Cx} {W : XK}
theorem PTs.imp {ifs : List Expr} {t t' : TT} (h : PTs X ifs t) (k : ∀ σ H Q, t' σ H Q → t σ H Q) : PTs X ifs t' := ⟨fun pins s σ H Q I q => h.run pins s σ H Q I (k σ H Q q)⟩
theorem sb_nil : PTs X [] (rdB X.K W fun _ m => .ok true m) := PTs.imp pts_nil fun σ H Q ⟨w, η, m, rel, hA⟩ => hA w true H (ExtE.refl w H) rel rfl
theorem sb_one {c : Expr} {f : Sg → Mem → Rs Vl} (h : PT X c (rdT X.K W f)) : PTs X [c] (rdB X.K W fun η m => (f η m).bind fun x m1 => Rs.opt m1 (boolV x)) :=
  PTs.imp (pts_one h) fun σ H Q ⟨w, η, m, rel, hA⟩ => rd_bind (ExtE.refl w H) rel hA fun x m1 w1 u H1 e1 rel1 vx fx hA1 => by
    obtain ⟨k, hk, hA2⟩ := ans_opt' hA1
    exact ⟨k, boolV_R vx hk, hA2 w1 _ H1 e1 rel1 rfl⟩
end
def lcBody (t : Tg) (fc : Sg → Mem → Rs Bool) (fe : Sg → Mem → Rs Vl) (η : Sg) : PyData → Mem → Rs (Option PyData) := fun d m => match bindTg (wipeS η (tgSlots t)) d t with
  | none => .bad
  | some η1 => noEx ((fc η1 m).bind fun k m2 => if k then (fe η1 m2).bind fun v m3 => (Rs.opt m3 (keep v)).bind fun d m4 => .ok (some d) m4 else .ok none m2)
def lcF (t : Tg) (fi : Sg → Mem → Rs (List PyData)) (fc : Sg → Mem → Rs Bool) (fe : Sg → Mem → Rs Vl) : Sg → Mem → Rs Vl := fun η m => (fi η m).bind fun ds m1 => (lcRun (lcBody t fc fe η) ds m1).bind fun r m2 => if fits r.length then .ok (.new r) m2 else .bad
theorem noEx_bind {α β : Type} {r : Rs α} {g : α → Mem → Rs β} : (noEx r).bind g ≠ .bad → ∃ a m, r = .ok a m ∧ (noEx r).bind g = g a m := by
  cases r with
  | ok a m => exact fun _ => ⟨a, m, rfl, rfl⟩
  | ex c m => exact fun h => absurd rfl h
  | bad => exact fun h => absurd rfl h
theorem lc_rd {K : PySem.W.Frag} {W : XK} {tp : Bool} {t : Tg} {fi : Sg → Mem → Rs (List PyData)} {fc : Sg → Mem → Rs Bool} {fe : Sg → Mem → Rs Vl} (ht : tp = true → ∃ is, t = .tup is) {σ : L2.St} {H : Hp} {Q : VK} (h : rdE K W (lcF t fi fc fe) σ H Q) :
    tLc (rdI false tp K W fi) (tgG K t) (rdB K (fun _ _ _ => False) fc) (rdE K (fun _ _ _ => False) fe) (tgSlots t) σ H Q := by
  obtain ⟨w, η, m, rel, hA⟩ := h
  refine ⟨w, η, m, rel, ?_⟩
  have hA : AnsE K W w η σ H (VF K H) ((fi η m).bind fun ds m1 => (lcRun (lcBody t fc fe η) ds m1).bind fun r m2 => if fits r.length then .ok (.new r) m2 else .bad) Q := hA
  cases hfi : fi η m with
  | bad => rw [hfi] at hA; exact hA.elim
  | ex c m1 => rw [hfi] at hA; exact fun w1 H1 e1 rel1 => hA w1 H1 e1 rel1
  | ok ds m1 =>
    rw [hfi] at hA
    intro w1 J H1 e1 rel1 ⟨src, Y, _⟩ D nD
    have nD3 := rel1.out_new nD
    have G : ∀ H' : Hp, (∀ w', ExtE w1 H1 w' H' → ∀ a ∈ src, H' a = H1 a) := fun H' w' e a ha => by
      obtain ⟨n, o, ho⟩ := Y.out a ha
      rw [ho]
      exact e.fr a o ho n
    have Wk : Walk J ds.length (fun H' => ∀ a ∈ src, H' a = H1 a) (fun i H' x H'' => J.yld i H' x H'') := ⟨fun i H' hi g => Y.go H' i g hi, fun H' g => Y.stop H' g, fun i H' x H'' _ _ y => y⟩
    refine lc_it Wk (fun i H' => ∃ w' acc accV mm, ExtE w1 H1 w' H' ∧ Rel K w' η mm σ H' ∧ H' D = some (.lst accV) ∧ RDs w'.F H' acc accV ∧ (¬ w'.F D ∧ D ∉ w'.ρ ∧ ∀ j, ¬ w'.ω j D) ∧
      AnsE K W w η σ H (VF K H) ((lcRun (lcBody t fc fe η) (ds.drop i) mm).bind fun r m2 => if fits (acc ++ r).length then .ok (.new (acc ++ r)) m2 else .bad) Q) ?_ ?_ ?_ ?_
    · exact ⟨w1, [], [], m1, ext_new rel1.sep nD, rel1.new nD, upd_same, RDs.nil, nD3, by simpa using hA⟩
    · rintro i H' _ ⟨w', acc, accV, mm, e', _⟩
      exact G H' w' e'
    · rintro i x H' H'' hi ⟨w', acc, accV, mm, e', rel', hD, rA, nD', hB⟩ y
      have hd : ds.drop i = ds[i] :: ds.drop (i + 1) := by rw [List.drop_eq_getElem_cons hi]
      rw [hd] at hB
      simp only [lcRun] at hB
      -- the item
      have yv := Y.yld w'.F H' i ds[i] x H'' (G H' w' e') (fun d v q => q.ext rel1.sep e') (fun d v q T o nT => q.ext rel'.sep (ext_new rel'.sep nT)) (List.getElem?_eq_getElem hi) y
      cases hb : bindTg (wipeS η (tgSlots t)) ds[i] t with
      | none => simp [lcBody, hb, AnsE] at hB
      | some η1 =>
        have hbd : lcBody t fc fe η ds[i] mm = noEx ((fc η1 mm).bind fun k m2 => if k then (fe η1 m2).bind fun v m3 => (Rs.opt m3 (keep v)).bind fun d m4 => .ok (some d) m4 else .ok none m2) := by simp [lcBody, hb]
        rw [hbd] at hB
        have hnb : ∀ {α β : Type} {r : Rs α} {g : α → Mem → Rs β} {R : Wd → Hp → β → V → Prop} {Q : VK}, AnsE K W w η σ H R ((noEx r).bind g) Q → ∃ a m, r = .ok a m ∧ AnsE K W w η σ H R (g a m) Q := by
          intro α β r g R Q h
          cases r with
          | ok a m => exact ⟨a, m, rfl, h⟩
          | ex c m => exact h.elim
          | bad => exact h.elim
        have hnb2 : ∀ {α β γ : Type} {r : Rs α} {g : α → Mem → Rs β} {l : β → Mem → Rs γ} {R : Wd → Hp → γ → V → Prop} {Q : VK}, AnsE K W w η σ H R (((noEx r).bind g).bind l) Q → ∃ a m, r = .ok a m ∧ AnsE K W w η σ H R ((g a m).bind l) Q := by
          intro α β γ r g l R Q h
          cases r with
          | ok a m => exact ⟨a, m, rfl, h⟩
          | ex c m => exact h.elim
          | bad => exact h.elim
        obtain ⟨o, mo, hro, hB2⟩ := hnb2 hB
        refine tg_R (rel'.less (tgSlots t)) ht yv hb fun σ2 e2 rel2 hw => ⟨(hw _ fun _ h => h).trans (wipe_idem _), ?_⟩
        -- the test
        refine ⟨w'.less (tgSlots t), η1, mm, rel2, ?_⟩
        cases hc : fc η1 mm with
        | bad => rw [hc] at hro; cases hro
        | ex c m2 => rw [hc] at hro; cases hro
        | ok k m2 =>
          rw [hc] at hro
          intro w3 k' H3 e3 rel3 ek
          subst ek
          have e23 := e2.trans e3
          have hD3 : H3 D = some (.lst accV) := e23.fr D _ hD nD'.2.1
          have nF3 : ¬ w3.F D ∧ D ∉ w3.ρ := ⟨e23.nf hD nD'.1, e23.out hD nD'.2.1⟩
          cases k with
          | false =>
            simp only [Rs.bind_ok, Bool.false_eq_true, if_false] at hro ⊢
            injection hro with hr1 hr2
            subst hr1
            subst hr2
            obtain ⟨e4, rel4⟩ := back_out (wi := w'.less (tgSlots t)) rel' rfl rfl e23 rel3.sep rel3.mem
            refine ⟨{ w3 with ω := w'.ω }, acc, accV, m2, e'.trans e4, rel4, hD3, rA.ext rel'.sep e4, ⟨nF3.1, nF3.2, nD'.2.2⟩, ?_⟩
            cases hl : lcRun (lcBody t fc fe η) (ds.drop (i + 1)) m2 with
            | ok r m5 => rw [hl] at hB2; exact hB2
            | ex c m5 => rw [hl] at hB2; exact hB2
            | bad => rw [hl] at hB2; exact hB2
          | true =>
            simp only [Rs.bind_ok, if_true] at hro ⊢
            refine ⟨w3, η1, m2, rel3, ?_⟩
            cases he : fe η1 m2 with
            | bad => rw [he] at hro; cases hro
            | ex c m3 => rw [he] at hro; cases hro
            | ok v m3 =>
              rw [he] at hro
              simp only [Rs.bind_ok] at hro
              intro w4 y4 H4 e4 rel4 vf
              cases hk : keep v with
              | none => rw [hk] at hro; cases hro
              | some dd =>
                rw [hk] at hro
                simp only [Rs.opt_some, Rs.bind_ok] at hro
                injection hro with hr1 hr2
                subst hr1
                subst hr2
                have e24 := e23.trans e4
                have hD4 : H4 D = some (.lst accV) := e24.fr D _ hD nD'.2.1
                -- what is kept
                have kk : ∃ w5, Rel K w5 η1 m3 σ2 H4 ∧ ExtE w3 H3 w5 H4 ∧ RD w5.F H4 dd y4 := by
                  rcases keep_R rel4 vf.1 vf.2 hk with ⟨q, _⟩ | ⟨a, us, xs, rfl, rfl, rfl, q1, q2, q3, q4, q5, q6⟩
                  · exact ⟨w4, rel4, e4, q⟩
                  · refine ⟨w4.froze a, rel4.froze q1 q4 q5, ext_froze e4 q6, ?_⟩
                    simp only [RD]
                    exact ⟨a, us, rfl, .inr rfl, q1, q2.froze⟩
                obtain ⟨w5, rel5, e5, rd5⟩ := kk
                have e25 := e23.trans e5
                have nF5 : ¬ w5.F D ∧ D ∉ w5.ρ := ⟨e25.nf hD nD'.1, e25.out hD nD'.2.1⟩
                obtain ⟨e6, rel6⟩ := back_out (wi := w'.less (tgSlots t)) rel' rfl rfl e25 rel5.sep rel5.mem
                have e7 := e'.trans e6
                have nD1 : ∀ a o, H1 a = some o → a ≠ D := fun a o h e => by subst e; rw [nD] at h; cases h
                refine ⟨accV, hD4, ?_, { w5 with ω := w'.ω }, acc ++ [dd], accV ++ [y4], m3, ⟨e7.F, e7.F', e7.ρ, e7.ω, fun a o h n => ?_, fun a h => ?_⟩, rel6.poke hD4 nF5.1 nF5.2 nD'.2.2, upd_same, ?_, ⟨nF5.1, nF5.2, nD'.2.2⟩, ?_⟩
                · rw [rA.len]
                  cases hl : lcRun (lcBody t fc fe η) (ds.drop (i + 1)) m3 with
                  | ok r m5 =>
                    rw [hl] at hB2
                    simp only [Rs.bind_ok] at hB2
                    obtain ⟨hf, _⟩ := ans_if hB2
                    have := line_fits_lt hf
                    simp only [List.length_append, List.length_cons] at this
                    omega
                  | ex c m5 =>
                    exfalso
                    have go : ∀ (ds : List PyData) (m : Mem) (c : Str) (m' : Mem), lcRun (lcBody t fc fe η) ds m = .ex c m' → False := by
                      intro ds
                      induction ds with
                      | nil => intro m c m' h; cases h
                      | cons d ds ih =>
                        intro m c m' h
                        simp only [lcRun] at h
                        cases hx : lcBody t fc fe η d m with
                        | ok o m1 =>
                          rw [hx] at h
                          simp only [Rs.bind_ok] at h
                          cases hy : lcRun (lcBody t fc fe η) ds m1 with
                          | ok r m2 => rw [hy] at h; cases h
                          | ex c2 m2 => exact ih m1 c2 m2 hy
                          | bad => rw [hy] at h; cases h
                        | ex c2 m1 =>
                          unfold lcBody at hx
                          split at hx
                          · cases hx
                          · rename_i η1 _
                            cases hz : ((fc η1 m).bind fun k m2 => if k then (fe η1 m2).bind fun v m3 => (Rs.opt m3 (keep v)).bind fun d m4 => Rs.ok (some d) m4 else Rs.ok none m2) with
                            | ok _ _ => rw [hz] at hx; cases hx
                            | ex _ _ => rw [hz] at hx; cases hx
                            | bad => rw [hz] at hx; cases hx
                        | bad => rw [hx] at h; cases h
                    exact go _ _ _ _ hl
                  | bad => rw [hl] at hB2; exact hB2.elim
                · rw [upd_ne (nD1 a o h)]; exact e7.fr a o h n
                · by_cases q : a = D
                  · subst q; rw [upd_same]; simp
                  · rw [upd_ne q]; exact e7.dm a h
                · exact ((rA.ext rel'.sep e6).append (RDs.cons rd5 RDs.nil)).poke nF5.1 hD4
                · cases hl : lcRun (lcBody t fc fe η) (ds.drop (i + 1)) m3 with
                  | ok r m5 =>
                    rw [hl] at hB2
                    simp only [Rs.bind_ok, List.append_assoc, List.singleton_append] at hB2 ⊢
                    exact hB2
                  | ex c m5 => rw [hl] at hB2; exact hB2
                  | bad => rw [hl] at hB2; exact hB2
    · rintro H' ⟨w', acc, accV, mm, e', rel', hD, rA, nD', hB⟩
      rw [List.drop_length] at hB
      simp only [lcRun, Rs.bind_ok, List.append_nil] at hB
      obtain ⟨hf, hB⟩ := ans_if hB
      exact hB w' _ H' (e1.trans e') rel' ⟨⟨D, accV, rfl, hD, rA, nD'.1, nD'.2.1, nD'.2.2⟩, fun a e => by cases e; exact nn_of e1 _ nD⟩
end SS
/- SSM -/
set_option Elab.async false
set_option linter.all false
set_option maxRecDepth 100000
/-! Statements. -/
namespace SS
open PySem PySem.Spec PyProof.Rows L2
/-- behind a statement -/
structure ExtS (w : Wd) (H : Hp) (w' : Wd) (H' : Hp) : Prop where
  F : ∀ a, w.F a → w'.F a
  F' : ∀ a, w'.F a → w.F a ∨ H a = none ∨ ∃ i, w.ω i a
  ρ : ∃ r, w'.ρ = w.ρ ++ r ∧ ∀ a ∈ r, H a = none ∨ ∃ i, w.ω i a
  ω : ∀ i a, w'.ω i a → H a = none ∨ ∃ j, w.ω j a
  fr : ∀ a o, H a = some o → a ∉ w.ρ → (∀ i, ¬ w.ω i a) → H' a = some o
  dm : ∀ a, H a ≠ none → H' a ≠ none
section
variable {K : PySem.W.Frag} {W : XK} {w w1 w2 w' : Wd} {η : Sg} {m : Mem} {σ : L2.St} {H H1 H2 H' : Hp}
theorem ExtE.toS (e : ExtE w H w' H') : ExtS w H w' H' := ⟨e.F, fun a h => (e.F' a h).imp id .inl, (by obtain ⟨r, e1, e2⟩ := e.ρ; exact ⟨r, e1, fun a h => .inl (e2 a h)⟩), fun i a h => .inr ⟨i, by rw [e.ω] at h; exact h⟩, fun a o h n _ => e.fr a o h n, e.dm⟩
theorem ExtS.refl (w : Wd) (H : Hp) : ExtS w H w H := (ExtE.refl w H).toS
theorem ExtS.nn (e : ExtS w H w1 H1) : ∀ x, H1 x = none → H x = none := fun x h => by
  cases q : H x with
  | none => rfl
  | some o => exact absurd h (e.dm x (by rw [q]; simp))
theorem ExtS.mem (e : ExtS w H w' H') {a : Addr} (h : a ∈ w'.ρ) : a ∈ w.ρ ∨ H a = none ∨ ∃ i, w.ω i a := by
  obtain ⟨r, e1, e2⟩ := e.ρ
  rw [e1, List.mem_append] at h
  rcases h with h | h
  · exact .inl h
  · exact .inr (e2 a h)
theorem ExtS.trans (a : ExtS w H w1 H1) (b : ExtS w1 H1 w2 H2) : ExtS w H w2 H2 := by
  refine ⟨fun x h => b.F x (a.F x h), fun x h => ?_, ?_, fun i x h => ?_, fun x o h n z => ?_, fun x h => b.dm x (a.dm x h)⟩
  · rcases b.F' x h with q | q | ⟨i, q⟩
    · exact a.F' x q
    · exact .inr (.inl (a.nn x q))
    · exact .inr (a.ω i x q)
  · obtain ⟨r, e1, e2⟩ := a.ρ
    obtain ⟨r', e3, e4⟩ := b.ρ
    refine ⟨r ++ r', by rw [e3, e1, List.append_assoc], fun x hx => ?_⟩
    rw [List.mem_append] at hx
    rcases hx with hx | hx
    · exact e2 x hx
    · rcases e4 x hx with q | ⟨i, q⟩
      · exact .inl (a.nn x q)
      · exact a.ω i x q
  · rcases b.ω i x h with q | ⟨j, q⟩
    · exact .inl (a.nn x q)
    · exact a.ω j x q
  · refine b.fr x o (a.fr x o h n z) (fun q => ?_) fun i q => ?_
    · rcases a.mem q with q | q | ⟨j, q⟩
      · exact n q
      · rw [h] at q; cases q
      · exact z j q
    · rcases a.ω i x q with q | ⟨j, q⟩
      · rw [h] at q; cases q
      · exact z j q
def FrS (w : Wd) (H H' : Hp) : Vl → V → Prop
  | .new _, v => ∀ a, v = .ref a → H a = none ∨ ∃ i, w.ω i a
  | .new2 _, v => ∀ a as, v = .ref a → H' a = some (.lst (as.map V.ref)) → ∀ b ∈ a :: as, H b = none ∨ ∃ i, w.ω i b
  | _, _ => True
theorem FrS.back {x : Vl} {v : V} (e : ExtS w H w1 H1) (h : FrS w1 H1 H2 x v) : FrS w H H2 x v := by
  have go : ∀ a, (H1 a = none ∨ ∃ i, w1.ω i a) → H a = none ∨ ∃ i, w.ω i a := fun a q => by
    rcases q with q | ⟨i, q⟩
    · exact .inl (e.nn a q)
    · exact e.ω i a q
  cases x with
  | new xs => exact fun a ha => go a (h a ha)
  | new2 rows => exact fun a as ha hh b hb => go b (h a as ha hh b hb)
  | _ => trivial
def AnsS (K : PySem.W.Frag) (W : XK) (w : Wd) (H : Hp) (r : So) (D : Ends) : Prop := match r with
  | .nx η' m' => ∀ w' σ' H', ExtS w H w' H' → Rel K w' η' m' σ' H' → D.nx σ' H'
  | .rt v m' => ∀ w' u H', ExtS w H w' H' → (∀ i a, ¬ w'.ω i a) → Sep w' H' → MR w' m' H' → VR K w' H' v u → FrS w H H' v u → D.rt u H'
  | .ex c m' => ∀ w' H', ExtS w H w' H' → Sep w' H' → MR w' m' H' → W (.ref (He.ga K c)) none H'
  | .bad => False
theorem AnsS.on {r : So} {D : Ends} (h : AnsS K W w H r D) (e : ExtS w H w1 H1) : AnsS K W w1 H1 r D := by
  cases r with
  | nx η' m' => exact fun w' σ' H' e' rel => h w' σ' H' (e.trans e') rel
  | rt v m' => exact fun w' u H' e' n s mr vr f => h w' u H' (e.trans e') n s mr vr (f.back e)
  | ex c m' => exact fun w' H' e' s mr => h w' H' (e.trans e') s mr
  | bad => exact h
def rdS (K : PySem.W.Frag) (W : XK) (g : Sg → Mem → So) : TS := fun D σ H => ∃ w η m, Rel K w η m σ H ∧ AnsS K W w H (g η m) D
abbrev SS_ (X : Cx) (W : XK) (st : Stmt) (g : Sg → Mem → So) : Prop := PS X st (rdS X.K W g)
abbrev SSs (X : Cx) (W : XK) (sts : List Stmt) (g : Sg → Mem → So) : Prop := PSs X sts (rdS X.K W g)
theorem PS.imp {X : Cx} {st : Stmt} {t t' : TS} (h : PS X st t) (k : ∀ D σ H, t' D σ H → t D σ H) : PS X st t' := ⟨fun pins s σ H D I q => h.run pins s σ H D I (k D σ H q)⟩
theorem PSs.imp {X : Cx} {st : List Stmt} {t t' : TS} (h : PSs X st t) (k : ∀ D σ H, t' D σ H → t D σ H) : PSs X st t' := ⟨fun pins s σ H D I q => h.run pins s σ H D I (k D σ H q)⟩
/-- an expression within a statement -/
theorem rd_so {f : Sg → Mem → Rs Vl} {g : Vl → Mem → So} {D : Ends} {Qc : VK} (rel : Rel K w η m σ H) (hA : AnsS K W w H ((f η m).so g) D)
    (k : ∀ x m1 w1 v H1, ExtE w H w1 H1 → Rel K w1 η m1 σ H1 → VR K w1 H1 x v → FrV H H1 x v → AnsS K W w H (g x m1) D → Qc v H1) : rdE K W f σ H Qc := by
  refine ⟨w, η, m, rel, ?_⟩
  cases h : f η m with
  | ok x m1 => rw [h] at hA; exact fun w1 v H1 e1 rel1 vf => k x m1 w1 v H1 e1 rel1 vf.1 vf.2 hA
  | ex c m1 => rw [h] at hA; exact fun w1 H1 e1 rel1 => hA w1 H1 e1.toS rel1.sep rel1.mem
  | bad => rw [h] at hA; exact hA.elim
/-- the same from a later state -/
theorem rd_so' {f : Sg → Mem → Rs Vl} {g : Vl → Mem → So} {D : Ends} {Qc : VK} {m1 : Mem} (e : ExtE w H w1 H1) (rel : Rel K w1 η m1 σ H1) (hA : AnsS K W w H ((f η m1).so g) D)
    (k : ∀ x m2 w2 v H2, ExtE w1 H1 w2 H2 → Rel K w2 η m2 σ H2 → VR K w2 H2 x v → FrV H1 H2 x v → AnsS K W w H (g x m2) D → Qc v H2) : rdE K W f σ H1 Qc := by
  refine ⟨w1, η, m1, rel, ?_⟩
  cases h : f η m1 with
  | ok x m2 => rw [h] at hA; exact fun w2 v H2 e2 rel2 vf => k x m2 w2 v H2 e2 rel2 vf.1 vf.2 hA
  | ex c m2 => rw [h] at hA; exact fun w2 H2 e2 rel2 => hA w2 H2 (e.trans e2).toS rel2.sep rel2.mem
  | bad => rw [h] at hA; exact hA.elim
/-! ### slots take values -/
/-- slot i holds alone what P says, and nothing else -/
def Wd.own (w : Wd) (i : Nat) (P : Addr → Prop) : Wd := { w with ω := fun j a => (j = i ∧ P a) ∨ (j ≠ i ∧ w.ω j a) }
theorem SlotR.other {i j : Nat} {P : Addr → Prop} {v : Vl} {x : V} (n : j ≠ i) (h : SlotR K w H j v x) : SlotR K (w.own i P) H j v x := by
  cases v with
  | dat d => exact h
  | ref c => exact h
  | new xs =>
    obtain ⟨a, vs, rfl, q1, q2, q3⟩ := h
    exact ⟨a, vs, rfl, q1, q2, .inr ⟨n, q3⟩⟩
  | new2 rows =>
    obtain ⟨a, as, rfl, q1, q2, q3, q4⟩ := h
    exact ⟨a, as, rfl, q1, q2, q3, fun b hb => .inr ⟨n, q4 b hb⟩⟩
  | bor xs => exact h.elim
  | bor2 xs => exact h.elim
  | scr ns => exact h
theorem own_set {i : Nat} {P : Addr → Prop} {v : Vl} {x : V} (r : Rel K w η m σ H) (hP : ∀ a, P a → (¬ w.F a ∧ a ∉ w.ρ ∧ ∀ j, j ≠ i → ¬ w.ω j a) ∧ ∃ vs, H a = some (.lst vs)) (hv : SlotR K (w.own i P) H i v x) : Rel K (w.own i P) (η.set i (some v)) m (σ.set i (some x)) H := by
  refine ⟨⟨r.sep.fr, fun a j f q => ?_, fun a j f q => ?_, fun a j l q q' => ?_, r.sep.rn, r.sep.fh, fun a j q => ?_, r.sep.rh⟩, r.mem, by rw [List.length_set, List.length_set]; exact r.slo.1, fun j u q => ?_⟩
  · rcases q with ⟨_, q⟩ | ⟨_, q⟩
    · exact (hP a q).1.1 f
    · exact r.sep.fo a j f q
  · rcases q with ⟨_, q⟩ | ⟨_, q⟩
    · exact (hP a q).1.2.1 f
    · exact r.sep.ro a j f q
  · rcases q with ⟨e, q⟩ | ⟨n, q⟩ <;> rcases q' with ⟨e', q'⟩ | ⟨n', q'⟩
    · rw [e, e']
    · exact absurd q' ((hP a q).1.2.2 l n')
    · exact absurd q ((hP a q').1.2.2 j n)
    · exact r.sep.oo a j l q q'
  · rcases q with ⟨_, q⟩ | ⟨_, q⟩
    · exact (hP a q).2
    · exact r.sep.oh a j q
  · rcases getS_set q with ⟨rfl, e⟩ | ⟨n, e⟩
    · cases e
      have l := getS_set_lt q
      rw [r.slo.1] at l
      exact ⟨x, by rw [List.getElem?_set_self l], hv⟩
    · obtain ⟨z, h1, h2⟩ := r.slo.2 j u e
      exact ⟨z, by rw [List.getElem?_set_ne (Ne.symm n)]; exact h1, h2.other n⟩
theorem ext_own {i : Nat} {P : Addr → Prop} (e : ExtS w H w1 H1) (hP : ∀ a, P a → H a = none ∨ ∃ j, w.ω j a) : ExtS w H (w1.own i P) H1 := ⟨e.F, e.F', e.ρ, fun j a q => by
  rcases q with ⟨_, q⟩ | ⟨_, q⟩
  · exact hP a q
  · exact e.ω j a q, e.fr, e.dm⟩
/-- a value is stored -/
theorem store_R {i : Nat} {v v' : Vl} {x : V} (e : ExtS w H w1 H1) (r : Rel K w1 η m σ H1) (vr : VR K w1 H1 v x) (fv : FrS w H H1 v x) (h : storeV v = some v') : ∃ w2, ExtS w H w2 H1 ∧ Rel K w2 (η.set i (some v')) m (σ.set i (some x)) H1 ∧ w2.F = w1.F ∧ w2.ρ = w1.ρ ∧ (∀ j, j ≠ i → ∀ a, w2.ω j a ↔ w1.ω j a) ∧ ∀ a, w2.ω i a → a ∈ newAd v x ∨ ∃ rows, v = .new2 rows := by
  have plain : ∀ {u : Vl}, SlotR K (w1.own i fun _ => False) H1 i u x → ∃ w2, ExtS w H w2 H1 ∧ Rel K w2 (η.set i (some u)) m (σ.set i (some x)) H1 ∧ w2.F = w1.F ∧ w2.ρ = w1.ρ ∧ (∀ j, j ≠ i → ∀ a, w2.ω j a ↔ w1.ω j a) ∧ ∀ a, w2.ω i a → a ∈ newAd v x ∨ ∃ rows, v = .new2 rows := fun {u} hu =>
    ⟨w1.own i fun _ => False, ext_own e fun _ h => h.elim, own_set r (fun _ h => h.elim) hu, rfl, rfl, fun j n a => ⟨fun q => by
      rcases q with ⟨_, q⟩ | ⟨_, q⟩
      · exact q.elim
      · exact q, fun q => .inr ⟨n, q⟩⟩, fun a q => by
      rcases q with ⟨_, q⟩ | ⟨n, _⟩
      · exact q.elim
      · exact absurd rfl n⟩
  cases v with
  | dat d => simp only [storeV, Option.some.injEq] at h; subst h; exact plain vr
  | ref c => simp only [storeV, Option.some.injEq] at h; subst h; exact plain vr
  | scr ns => simp only [storeV, Option.some.injEq] at h; subst h; exact plain vr
  | bor xs => simp [storeV] at h
  | bor2 xs => simp [storeV] at h
  | new xs =>
    simp only [storeV, Option.some.injEq] at h; subst h
    obtain ⟨a, vs, rfl, q1, q2, q3, q4, q5⟩ := vr
    refine ⟨w1.own i fun b => b = a, ext_own e fun b hb => by subst hb; exact fv b rfl, own_set r (fun b hb => by subst hb; exact ⟨⟨q3, q4, fun j _ => q5 j⟩, vs, q1⟩) ⟨a, vs, rfl, q1, q2, .inl ⟨rfl, rfl⟩⟩, rfl, rfl, fun j n b => ⟨fun q => ?_, fun q => .inr ⟨n, q⟩⟩, fun b q => ?_⟩
    · rcases q with ⟨e, _⟩ | ⟨_, q⟩
      · exact absurd e n
      · exact q
    · rcases q with ⟨_, q⟩ | ⟨n, _⟩
      · exact .inl (by simp [newAd, q])
      · exact absurd rfl n
  | new2 rows =>
    simp only [storeV, Option.some.injEq] at h; subst h
    obtain ⟨a, as, rfl, q1, q2, q3, q4⟩ := vr
    have th : ∀ b ∈ a :: as, ∃ vs, H1 b = some (.lst vs) := fun b hb => by
      simp only [List.mem_cons] at hb
      rcases hb with rfl | hb
      · exact ⟨_, q1⟩
      · exact q2.there b hb
    refine ⟨w1.own i fun b => b ∈ a :: as, ext_own e fun b hb => fv a as rfl q1 b hb, own_set r (fun b hb => ⟨⟨(q4 b hb).1, (q4 b hb).2.1, fun j _ => (q4 b hb).2.2 j⟩, th b hb⟩) ⟨a, as, rfl, q1, q2, q3, fun b hb => .inl ⟨rfl, hb⟩⟩, rfl, rfl, fun j n b => ⟨fun q => ?_, fun q => .inr ⟨n, q⟩⟩, fun b q => .inr ⟨rows, rfl⟩⟩
    rcases q with ⟨e, _⟩ | ⟨_, q⟩
    · exact absurd e n
    · exact q
theorem FrV.toS {x : Vl} {v : V} (h : FrV H H1 x v) : FrS w H H1 x v := by
  cases x with
  | new xs => exact fun a ha => .inl (h a ha)
  | new2 rows => exact fun a as ha hh b hb => .inl (h a as ha hh b hb)
  | _ => trivial
/-- the frame is left -/
def Wd.bare0 (w : Wd) : Wd := { w with ω := fun _ _ => False }
theorem Sep.bare0 (s : Sep w H) : Sep w.bare0 H := ⟨s.fr, fun _ _ _ q => q, fun _ _ _ q => q, fun _ _ _ q => q.elim, s.rn, s.fh, fun _ _ q => q.elim, s.rh⟩
theorem ext_bare0 (e : ExtS w H w1 H1) : ExtS w H w1.bare0 H1 := ⟨e.F, e.F', e.ρ, fun _ _ q => q.elim, e.fr, e.dm⟩
end
section
variable {X : Cx} {W : XK} {a b c e : Expr} {fa fb fc f : Sg → Mem → Rs Vl} {p pos : Pos} {g g' : Sg → Mem → So}
theorem ss_nil : SSs X W [] (fun η m => .nx η m) := PSs.imp pss_nil fun D σ H ⟨w, η, m, rel, hA⟩ => hA w σ H (ExtS.refl w H) rel
theorem ss_cons {st : Stmt} {rest : List Stmt} (h1 : SS_ X W st g) (h2 : SSs X W rest g') : SSs X W (st :: rest) (fun η m => (g η m).then fun η1 m1 => g' η1 m1) :=
  PSs.imp (pss_cons h1 h2) fun D σ H ⟨w, η, m, rel, hA⟩ => by
    refine ⟨w, η, m, rel, ?_⟩
    dsimp only at hA
    cases h : g η m with
    | nx η1 m1 => rw [h] at hA; exact fun w1 σ1 H1 e1 rel1 => ⟨w1, η1, m1, rel1, hA.on e1⟩
    | rt v m1 => rw [h] at hA; exact hA
    | ex c m1 => rw [h] at hA; exact hA
    | bad => rw [h] at hA; exact hA
/-- x = e -/
theorem ss_asg {i : Nat} {x : Str} {px : Pos} (h : PS X (.Assign [.Name x px] e pos) (tAsg (rdE X.K W f) (gName i))) : SS_ X W (.Assign [.Name x px] e pos) (fun η m => (f η m).so fun v m1 => match storeV v with
    | some v => .nx (η.set i (some v)) m1
    | none => .bad) :=
  PS.imp h fun D σ H ⟨w, η, m, rel, hA⟩ => rd_so rel hA fun v m1 w1 u H1 e1 rel1 vr fv hA1 => by
    cases hs : storeV v with
    | none => rw [hs] at hA1; exact hA1.elim
    | some v' =>
      rw [hs] at hA1
      obtain ⟨w2, e2, rel2, _⟩ := store_R (i := i) e1.toS rel1 vr fv.toS hs
      exact hA1 w2 _ H1 e2 rel2
theorem ss_ex (he : SE X W e f) (hs : swapsWith e none pos.line X.env = pure false) : SS_ X W (.Expr e pos) (fun η m => (f η m).so fun _ m1 => .nx η m1) :=
  PS.imp (ps_expr he hs) fun D σ H ⟨w, η, m, rel, hA⟩ => rd_so rel hA fun v m1 w1 u H1 e1 rel1 vr fv hA1 => hA1 w1 σ H1 e1.toS rel1
theorem VR.bare0 {K : PySem.W.Frag} {w : Wd} {H : Hp} {v : Vl} {u : V} (h : VR K w H v u) : VR K w.bare0 H v u := by
  cases v with
  | new xs =>
    obtain ⟨a, vs, rfl, q1, q2, q3, q4, q5⟩ := h
    exact ⟨a, vs, rfl, q1, q2, q3, q4, fun _ q => q⟩
  | new2 rows =>
    obtain ⟨a, as, rfl, q1, q2, q3, q4⟩ := h
    exact ⟨a, as, rfl, q1, q2, q3, fun b hb => ⟨(q4 b hb).1, (q4 b hb).2.1, fun _ q => q⟩⟩
  | dat d => exact h
  | ref c => exact h
  | bor xs => exact h
  | bor2 xs => exact h
  | scr ns => exact h
theorem ss_ret (he : SE X W e f) : SS_ X W (.Return (some e) pos) (fun η m => (f η m).so fun x m1 => match storeV x with
    | some v => .rt v m1
    | none => .bad) :=
  PS.imp (ps_ret he) fun D σ H ⟨w, η, m, rel, hA⟩ => rd_so rel hA fun v m1 w1 u H1 e1 rel1 vr fv hA1 => by
    cases hs : storeV v with
    | none => rw [hs] at hA1; exact hA1.elim
    | some v' =>
      rw [hs] at hA1
      have ev : v' = v := by cases v <;> simp [storeV] at hs <;> exact hs.symm
      subst ev
      exact hA1 w1.bare0 u H1 (ext_bare0 e1.toS) (fun _ _ q => q) rel1.sep.bare0 rel1.mem vr.bare0 fv.toS
theorem ss_retv {i : Nat} (he : PE X e (tVar i)) : SS_ X W (.Return (some e) pos) (fun η m => match getS η i with
    | some v => .rt v m
    | none => .bad) :=
  PS.imp (ps_ret he) fun D σ H ⟨w, η, m, rel, hA⟩ => by
    dsimp only at hA
    cases hs : getS η i with
    | none => rw [hs] at hA; exact hA.elim
    | some v =>
      rw [hs] at hA
      obtain ⟨u, h1, h2⟩ := rel.slo.2 i v hs
      refine ⟨u, h1, hA w.bare0 u H (ext_bare0 (ExtS.refl w H)) (fun _ _ q => q) rel.sep.bare0 rel.mem ?_ ?_⟩
      · cases v with
        | dat d => exact h2
        | ref c => exact h2
        | new xs =>
          obtain ⟨a, vs, rfl, q1, q2, q3⟩ := h2
          exact ⟨a, vs, rfl, q1, q2, fun q => rel.sep.fo a i q q3, fun q => rel.sep.ro a i q q3, fun _ q => q⟩
        | new2 rows =>
          obtain ⟨a, as, rfl, q1, q2, q3, q4⟩ := h2
          exact ⟨a, as, rfl, q1, q2, q3, fun b hb => ⟨fun q => rel.sep.fo b i q (q4 b hb), fun q => rel.sep.ro b i q (q4 b hb), fun _ q => q⟩⟩
        | bor xs => exact h2.elim
        | bor2 xs => exact h2.elim
        | scr ns => exact h2
      · cases v with
        | new xs =>
          obtain ⟨a, vs, rfl, q1, q2, q3⟩ := h2
          exact fun b e => by cases e; exact .inr ⟨i, q3⟩
        | new2 rows =>
          obtain ⟨a, as, rfl, q1, q2, q3, q4⟩ := h2
          intro b bs e hh d hd
          cases e
          have ez : as = bs := by
            rw [q1] at hh
            injection hh with hh
            injection hh with hh
            exact (List.map_inj_right (fun x y z => by injection z)).mp hh
          subst ez
          exact .inr ⟨i, q4 d hd⟩
        | _ => trivial
theorem ss_if {ta tb : List Stmt} (hc : PT X c (rdT X.K W fc)) (h1 : SSs X W ta g) (h2 : SSs X W tb g') : SS_ X W (.If c ta tb pos) (fun η m => (fc η m).so fun x m1 => (Rs.opt m1 (boolV x)).so fun k m2 => if k then g η m2 else g' η m2) :=
  PS.imp (ps_if hc h1 h2) fun D σ H ⟨w, η, m, rel, hA⟩ => rd_so rel hA fun x m1 w1 u H1 e1 rel1 vx fx hA1 => by
    cases hk : boolV x with
    | none => rw [hk] at hA1; exact hA1.elim
    | some k =>
      rw [hk] at hA1
      refine ⟨k, boolV_R vx hk, ?_⟩
      cases k with
      | true => simp only [Rs.opt_some, Rs.so_ok, if_true] at hA1 ⊢; exact ⟨w1, η, m1, rel1, hA1.on e1.toS⟩
      | false => simp only [Rs.opt_some, Rs.so_ok, Bool.false_eq_true, if_false] at hA1 ⊢; exact ⟨w1, η, m1, rel1, hA1.on e1.toS⟩
theorem setMany_none {j : Nat} : ∀ {is : List Nat} {ds : List PyData} {η : Sg}, j ∈ is → setMany (η.set j none) is ds = setMany η is ds
  | [], _, _, h => by simp at h
  | i :: is, [], _, _ => rfl
  | i :: is, d :: ds, η, h => by
    simp only [setMany]
    by_cases e : j = i
    · subst e
      rw [List.set_set]
    · have h2 : j ∈ is := by simpa [e] using h
      rw [List.set_comm _ _ e, setMany_none h2]
theorem setMany_wipe {η : Sg} {is : List Nat} {ds : List PyData} : ∀ {js : List Nat}, (∀ j ∈ js, j ∈ is) → setMany (wipeS η js) is ds = setMany η is ds
  | [], _ => rfl
  | j :: js, h => by
    simp only [wipeS]
    rw [setMany_none (h j (by simp)), setMany_wipe fun l hl => h l (by simp [hl])]
theorem bind_lets {η η1 : Sg} {d : PyData} {t : Tg} (h : bindTg η d t = some η1) : bindTg (wipeS η (tgSlots t)) d t = some η1 := by
  cases t with
  | one i =>
    simp only [bindTg, tgSlots, wipeS] at h ⊢
    rw [List.set_set]
    exact h
  | tup is =>
    simp only [bindTg, tgSlots] at h ⊢
    split at h
    · rw [setMany_wipe fun _ h => h]
      exact h
    · cases h
theorem lets_ext (w : Wd) (H : Hp) (is : List Nat) : ExtS w H (w.less is) H := ⟨fun _ h => h, fun _ h => .inl h, ⟨[], by simp [Wd.less], by simp⟩, fun i a q => .inr ⟨i, q.2⟩, fun _ _ h _ _ => h, fun _ h => h⟩
theorem Rel.lets {K : PySem.W.Frag} {w : Wd} {η : Sg} {m : Mem} {σ : L2.St} {H : Hp} (r : Rel K w η m σ H) (is : List Nat) : Rel K (w.less is) (wipeS η is) m σ H := by
  have z := r.less is
  refine ⟨z.sep, z.mem, by rw [wipeS_len]; exact r.slo.1, fun j v q => ?_⟩
  obtain ⟨u, h1, h2⟩ := z.slo.2 j v q
  rw [wipe_out (getS_wipe q).1] at h1
  exact ⟨u, h1, h2⟩
theorem ss_never {st : Stmt} : SS_ X W st (fun _ _ => .bad) := PS.imp ps_never fun D σ H ⟨w, η, m, rel, hA⟩ => hA
/-- for -/
theorem ss_for {t : Tg} {tg iter : Expr} {body : List Stmt} {fi : Sg → Mem → Rs (List PyData)} (hp : PassesOwn (model X.prog X.w) X.A X.env X.xe) (hc : X.calm = true) (hi : SI true X W tg iter fi) (ht : isTupE tg = true → ∃ is, t = .tup is) (hg : PG X tg (tgG X.K t)) (hb : SSs X W body g)
    (hs : ∀ x, foldedSetIterable iter X.env x = pure x) : SS_ X W (.For tg iter body [] pos) (fun η m => (fi η m).so fun ds m1 => forRun (fun d η m => match bindTg η d t with
      | some η1 => g η1 m
      | none => .bad) ds η m1) := by
  refine PS.imp (ps_for hp hc hi hg hb hs) fun D σ H ⟨w, η, m, rel, hA⟩ => ⟨w, η, m, rel, ?_⟩
  dsimp only at hA
  cases hfi : fi η m with
  | bad => rw [hfi] at hA; exact hA.elim
  | ex c m1 => rw [hfi] at hA; exact fun w1 H1 e1 rel1 => hA w1 H1 e1.toS rel1.sep rel1.mem
  | ok ds m1 =>
    rw [hfi] at hA
    intro w1 J H1 e1 rel1 ⟨src, Y, hst⟩
    have G : ∀ (H' : Hp) w', ExtS w1 H1 w' H' → ∀ a ∈ src, H' a = H1 a := fun H' w' e a ha => by
      obtain ⟨n, o, ho⟩ := Y.out a ha
      rw [ho]
      exact e.fr a o ho n (hst rfl a ha)
    have RDk : ∀ (w' : Wd) (H' : Hp), ExtS w1 H1 w' H' → Sep w' H' → ∀ d v, RD w1.F H1 d v → RD w'.F H' d v := fun w' H' e _ d v q =>
      RD.mono e.F (fun a vs f h => e.fr a _ h (rel1.sep.fr a f) fun i => rel1.sep.fo a i f) (fun a vs ⟨o, h, hd⟩ => ⟨o, e.fr a _ h (rel1.sep.frz_out h) (fun i q => by
        obtain ⟨us, hu⟩ := rel1.sep.oh a i q
        rw [h] at hu; cases hu), hd⟩) d v q
    have Wk : Walk J ds.length (fun H' => ∀ a ∈ src, H' a = H1 a) (fun i H' x H'' => J.yld i H' x H'') := ⟨fun i H' hi g => Y.go H' i g hi, fun H' g => Y.stop H' g, fun i H' x H'' _ _ y => y⟩
    refine for_it Wk (fun i σ' H' => ∃ w' η' mm, ExtS w1 H1 w' H' ∧ Rel X.K w' η' mm σ' H' ∧ AnsS X.K W w H (forRun (fun d η m => match bindTg η d t with
      | some η1 => g η1 m
      | none => .bad) (ds.drop i) η' mm) D) ?_ ?_ ?_ ?_
    · exact ⟨w1, η, m1, ExtS.refl _ _, rel1, by simpa using hA⟩
    · rintro i σ' H' _ ⟨w', η', mm, e', _⟩
      exact G H' w' e'
    · rintro i x σ' H' H'' hi ⟨w', η', mm, e', rel', hB⟩ y
      have hd : ds.drop i = ds[i] :: ds.drop (i + 1) := by rw [List.drop_eq_getElem_cons hi]
      rw [hd] at hB
      simp only [forRun] at hB
      have yv := Y.yld w'.F H' i ds[i] x H'' (G H' w' e') (RDk w' H' e' rel'.sep) (fun d v q T o nT => q.ext rel'.sep (ext_new rel'.sep nT)) (List.getElem?_eq_getElem hi) y
      cases hb : bindTg η' ds[i] t with
      | none => rw [hb] at hB; exact hB.elim
      | some η1 =>
        rw [hb] at hB
        dsimp only at hB
        -- what the target's slots held alone is let go
        refine tg_R (rel'.lets (tgSlots t)) ht yv (bind_lets hb) fun σ2 e2 rel2 _ => ?_
        have e3 : ExtS w1 H1 (w'.less (tgSlots t)) H'' := e'.trans ((lets_ext w' H' (tgSlots t)).trans e2.toS)
        refine ⟨w'.less (tgSlots t), η1, mm, rel2, ?_⟩
        cases hg2 : g η1 mm with
        | nx η2 m2 =>
          rw [hg2] at hB
          exact fun w4 σ4 H4 e4 rel4 => ⟨w4, η2, m2, e3.trans e4, rel4, hB⟩
        | rt v m2 =>
          rw [hg2] at hB
          exact hB.on (e1.toS.trans e3)
        | ex c m2 =>
          rw [hg2] at hB
          exact hB.on (e1.toS.trans e3)
        | bad => rw [hg2] at hB; exact hB.elim
    · rintro σ' H' ⟨w', η', mm, e', rel', hB⟩
      rw [List.drop_length] at hB
      exact hB w' σ' H' (e1.toS.trans e') rel'
end
end SS
/- SSN -/
set_option Elab.async false
set_option linter.all false
set_option maxRecDepth 100000
/-! Statements that change what a slot holds. -/
namespace SS
open PySem PySem.Spec PyProof.Rows L2
section
variable {K : PySem.W.Frag} {W : XK} {w w1 : Wd} {η : Sg} {m : Mem} {σ : L2.St} {H H1 : Hp}
/-- an own list, at its place -/
theorem own_at (r : Rel K w η m σ H) {i : Nat} {xs : List PyData} (h : getS η i = some (.new xs)) : ∃ a vs, σ[i]? = some (some (.ref a)) ∧ H a = some (.lst vs) ∧ RDs w.F H xs vs ∧ w.ω i a := by
  obtain ⟨u, h1, a, vs, rfl, h2, h3, h4⟩ := r.slo.2 i _ h
  exact ⟨a, vs, h1, h2, h3, h4⟩
theorem ext_write {i : Nat} {a : Addr} {o : HO} (h : w.ω i a) : ExtS w H w (upd H a o) := by
  refine ⟨fun _ h => h, fun _ h => .inl h, ⟨[], by simp, by simp⟩, fun i a q => .inr ⟨i, q⟩, fun b o' hb _ n => ?_, fun b hb => ?_⟩
  · rw [upd_ne (show b ≠ a from fun e => n i (e ▸ h))]; exact hb
  · by_cases e : b = a
    · subst e; rw [upd_same]; simp
    · rw [upd_ne e]; exact hb
theorem ext_writeM {a : Addr} {o : HO} (h : a ∈ w.ρ) : ExtS w H w (upd H a o) := by
  refine ⟨fun _ h => h, fun _ h => .inl h, ⟨[], by simp, by simp⟩, fun i a q => .inr ⟨i, q⟩, fun b o' hb n _ => ?_, fun b hb => ?_⟩
  · rw [upd_ne (show b ≠ a from fun e => n (e ▸ h))]; exact hb
  · by_cases e : b = a
    · subst e; rw [upd_same]; simp
    · rw [upd_ne e]; exact hb
theorem SlotR.poke {j : Nat} {a : Addr} {old : List V} {o : HO} {v : Vl} {u : V} (nF : ¬ w.F a) (hD : H a = some (.lst old)) (n : ¬ w.ω j a) (h : SlotR K w H j v u) : SlotR K w (upd H a o) j v u := by
  cases v with
  | dat d => exact RD.poke nF hD h
  | ref c => exact h
  | new xs =>
    obtain ⟨b, vs, rfl, q1, q2, q3⟩ := h
    exact ⟨b, vs, rfl, by rw [upd_ne (show b ≠ a from fun e => n (e ▸ q3))]; exact q1, q2.poke nF hD, q3⟩
  | new2 rows =>
    obtain ⟨b, as, rfl, q1, q2, q3, q4⟩ := h
    exact ⟨b, as, rfl, by rw [upd_ne (show b ≠ a from fun e => n (e ▸ q4 b (by simp)))]; exact q1, q2.poke nF hD fun c hc e => n (e ▸ q4 c (by simp [hc])), q3, q4⟩
  | bor xs => exact h.elim
  | bor2 xs => exact h.elim
  | scr ns =>
    obtain ⟨b, rfl, h⟩ := h
    exact ⟨b, rfl, h.poke hD⟩
/-- an owned address is written; the slot's new content is given -/
theorem own_poke {i : Nat} {a : Addr} {old new : List V} {v : Vl} {u : V} (r : Rel K w η m σ H) (h1 : H a = some (.lst old)) (h2 : w.ω i a) (hu : σ[i]? = some (some u)) (hv : SlotR K w (upd H a (.lst new)) i v u) : Rel K w (η.set i (some v)) m σ (upd H a (.lst new)) := by
  have nF : ¬ w.F a := fun q => r.sep.fo a i q h2
  have nρ : a ∉ w.ρ := fun q => r.sep.ro a i q h2
  have ne : ∀ b, b ≠ a → upd H a (.lst new) b = H b := fun b h => upd_ne h
  refine ⟨⟨r.sep.fr, r.sep.fo, r.sep.ro, r.sep.oo, r.sep.rn, fun b h => ?_, fun b j h => ?_, fun b h => ?_⟩, ⟨r.mem.1, fun c cell b q1 q2 => ?_⟩, by rw [List.length_set]; exact r.slo.1, fun j z q => ?_⟩
  · rw [ne b (fun e => nF (e ▸ h))]; exact r.sep.fh b h
  · by_cases e : b = a
    · subst e; exact ⟨new, upd_same⟩
    · rw [ne b e]; exact r.sep.oh b j h
  · rw [ne b (fun e => nρ (e ▸ h))]; exact r.sep.rh b h
  · have z := r.mem.2 c cell b q1 q2
    cases cell with
    | lst xs =>
      obtain ⟨n, vs, z1, z2⟩ := z
      exact ⟨n, vs, by rw [ne b (fun e => nρ (e ▸ List.mem_of_getElem? q2))]; exact z1, z2.poke nF h1⟩
    | ins fs => exact z.elim
  · rcases getS_set q with ⟨rfl, e⟩ | ⟨n, e⟩
    · cases e
      exact ⟨u, hu, hv⟩
    · obtain ⟨y, g1, g2⟩ := r.slo.2 j z e
      exact ⟨y, g1, g2.poke nF h1 fun q => n (r.sep.oo a j i q h2)⟩
theorem own_write {i : Nat} {a : Addr} {vs us : List V} {ys : List PyData} (r : Rel K w η m σ H) (hs : σ[i]? = some (some (.ref a))) (h1 : H a = some (.lst vs)) (h2 : w.ω i a) (h : RDs w.F H ys us) : Rel K w (η.set i (some (.new ys))) m σ (upd H a (.lst us)) :=
  own_poke r h1 h2 hs ⟨a, us, rfl, upd_same, h.poke (fun q => r.sep.fo a i q h2) h1, h2⟩
theorem mem_write {c : Nat} {a : Addr} {xs ys : List PyData} {us : List V} (r : Rel K w η m σ H) (hc : m[c]? = some (.lst xs)) (ha : w.ρ[c]? = some a) (n : noLsts ys = true) (h : RDs w.F H ys us) : Rel K w η (m.set c (.lst ys)) σ (upd H a (.lst us)) := by
  obtain ⟨_, vs, h1, _⟩ := r.mem.cell hc ha
  have hm := List.mem_of_getElem? ha
  have nF : ¬ w.F a := fun q => r.sep.fr a q hm
  have ne : ∀ b, b ≠ a → upd H a (.lst us) b = H b := fun b h => upd_ne h
  refine ⟨⟨r.sep.fr, r.sep.fo, r.sep.ro, r.sep.oo, r.sep.rn, fun b h => ?_, fun b j h => ?_, fun b h => ?_⟩, ⟨by rw [List.length_set]; exact r.mem.1, fun d cell b q1 q2 => ?_⟩, r.slo.1, fun j z q => ?_⟩
  · rw [ne b (fun e => nF (e ▸ h))]; exact r.sep.fh b h
  · rw [ne b (fun e => r.sep.ro a j hm (e ▸ h))]; exact r.sep.oh b j h
  · by_cases e : b = a
    · subst e; exact ⟨_, upd_same, fun _ _ q => by cases q⟩
    · rw [ne b e]; exact r.sep.rh b h
  · by_cases e : d = c
    · subst e
      rw [ha] at q2; cases q2
      rw [List.getElem?_set_self (List.getElem?_eq_some_iff.mp hc).1] at q1
      cases q1
      exact ⟨n, us, upd_same, h.poke nF h1⟩
    · rw [List.getElem?_set_ne (Ne.symm e)] at q1
      have nb : b ≠ a := fun e2 => by
        subst e2
        obtain ⟨l1, g1⟩ := List.getElem?_eq_some_iff.mp ha
        obtain ⟨l2, g2⟩ := List.getElem?_eq_some_iff.mp q2
        exact e ((List.getElem_inj r.sep.rn).mp (g2.trans g1.symm))
      have z := r.mem.2 d cell b q1 q2
      cases cell with
      | lst zs =>
        obtain ⟨n', vs', z1, z2⟩ := z
        exact ⟨n', vs', by rw [ne b nb]; exact z1, z2.poke nF h1⟩
      | ins fs => exact z.elim
  · obtain ⟨y, g1, g2⟩ := r.slo.2 j z q
    exact ⟨y, g1, g2.poke nF h1 fun q => r.sep.ro a j hm q⟩
/-- a slot's list is handed over to all -/
theorem freeze_R {i : Nat} {xs : List PyData} (r : Rel K w η m σ H) (h : getS η i = some (.new xs)) : ∃ w2, ExtS w H w2 H ∧ Rel K w2 (η.set i (some (.dat (.list xs)))) m σ H ∧ ∃ u, σ[i]? = some (some u) ∧ RD w2.F H (.list xs) u := by
  obtain ⟨a, vs, h1, h2, h3, h4⟩ := own_at r h
  have hi := getS_lt h
  rw [r.slo.1] at hi
  have rel2 : Rel K (w.own i fun _ => False) (η.set i none) m σ H := by
    refine ⟨⟨r.sep.fr, fun b j f q => ?_, fun b j f q => ?_, fun b j l q q' => ?_, r.sep.rn, r.sep.fh, fun b j q => ?_, r.sep.rh⟩, r.mem, by rw [List.length_set]; exact r.slo.1, fun j z q => ?_⟩
    · rcases q with ⟨_, q⟩ | ⟨_, q⟩
      · exact q
      · exact r.sep.fo b j f q
    · rcases q with ⟨_, q⟩ | ⟨_, q⟩
      · exact q
      · exact r.sep.ro b j f q
    · rcases q with ⟨_, q⟩ | ⟨_, q⟩
      · exact q.elim
      · rcases q' with ⟨_, q'⟩ | ⟨_, q'⟩
        · exact q'.elim
        · exact r.sep.oo b j l q q'
    · rcases q with ⟨_, q⟩ | ⟨_, q⟩
      · exact q.elim
      · exact r.sep.oh b j q
    · rcases getS_set q with ⟨_, e⟩ | ⟨n, e⟩
      · cases e
      · obtain ⟨y, g1, g2⟩ := r.slo.2 j z e
        exact ⟨y, g1, g2.other n⟩
  have no : ∀ j, ¬ (w.own i fun _ => False).ω j a := fun j q => by
    rcases q with ⟨_, q⟩ | ⟨n, q⟩
    · exact q
    · exact n (r.sep.oo a j i q h4)
  have rel3 := rel2.froze h2 (fun q => r.sep.ro a i q h4) no
  have rd : RD ((w.own i fun _ => False).froze a).F H (.list xs) (.ref a) := by
    simp only [RD]
    exact ⟨a, vs, rfl, .inr rfl, h2, RDs.mono (fun _ h => .inl h) (fun _ _ _ h => h) (fun _ _ h => h) _ _ h3⟩
  refine ⟨(w.own i fun _ => False).froze a, ⟨fun b q => .inl q, fun b q => ?_, ⟨[], by simp [Wd.froze, Wd.own], by simp⟩, fun j b q => ?_, fun _ _ h _ _ => h, fun _ h => h⟩, ⟨rel3.sep, rel3.mem, by rw [List.length_set]; exact r.slo.1, fun j z q => ?_⟩, _, h1, rd⟩
  · rcases q with q | rfl
    · exact .inl q
    · exact .inr (.inr ⟨i, h4⟩)
  · rcases q with ⟨_, q⟩ | ⟨_, q⟩
    · exact q.elim
    · exact .inr ⟨j, q⟩
  · rcases getS_set q with ⟨rfl, e⟩ | ⟨n, e⟩
    · cases e
      exact ⟨_, h1, rd⟩
    · refine rel3.slo.2 j z ?_
      unfold getS at e ⊢
      rw [List.getElem?_set_ne (Ne.symm n)]
      exact e
/-- a slot's list becomes a cell -/
theorem cell_R {i : Nat} {xs : List PyData} (r : Rel K w η m σ H) (h : getS η i = some (.new xs)) (hn : noLsts xs = true) : ∃ w2, ExtS w H w2 H ∧ Rel K w2 (η.set i (some (.ref m.length))) (m ++ [.lst xs]) σ H := by
  obtain ⟨a, vs, h1, h2, h3, h4⟩ := own_at r h
  have no : ∀ j, ¬ (w.own i fun _ => False).ω j a := fun j q => by
    rcases q with ⟨_, q⟩ | ⟨n, q⟩
    · exact q
    · exact n (r.sep.oo a j i q h4)
  have sub : ∀ j b, (w.own i fun _ => False).ω j b → w.ω j b := fun j b q => by
    rcases q with ⟨_, q⟩ | ⟨_, q⟩
    · exact q.elim
    · exact q
  have nr : a ∉ w.ρ := fun q => r.sep.ro a i q h4
  refine ⟨{ F := w.F, ρ := w.ρ ++ [a], ω := (w.own i fun _ => False).ω }, ⟨fun _ q => q, fun _ q => .inl q, ⟨[a], rfl, fun b hb => ?_⟩, fun j b q => .inr ⟨j, sub j b q⟩, fun _ _ h _ _ => h, fun _ h => h⟩,
    ⟨⟨fun b f q => ?_, fun b j f q => r.sep.fo b j f (sub j b q), fun b j q z => ?_, fun b j l q q' => r.sep.oo b j l (sub j b q) (sub l b q'), ?_, r.sep.fh, fun b j q => r.sep.oh b j (sub j b q), fun b q => ?_⟩, ⟨by simp [r.mem.1], fun c cell b q1 q2 => ?_⟩, by rw [List.length_set]; exact r.slo.1, fun j z q => ?_⟩⟩
  · rw [List.mem_singleton] at hb; subst hb; exact .inr ⟨i, h4⟩
  · rcases List.mem_append.mp q with q | q
    · exact r.sep.fr b f q
    · rw [List.mem_singleton] at q; subst q; exact r.sep.fo _ i f h4
  · rcases List.mem_append.mp q with q | q
    · exact r.sep.ro b j q (sub j b z)
    · rw [List.mem_singleton] at q; subst q; exact no j z
  · refine List.nodup_append.mpr ⟨r.sep.rn, by simp, fun x hx y hy e => ?_⟩
    rw [List.mem_singleton] at hy; subst hy; subst e; exact nr hx
  · rcases List.mem_append.mp q with q | q
    · exact r.sep.rh b q
    · rw [List.mem_singleton] at q; subst q; exact ⟨_, h2, fun _ _ e => by cases e⟩
  · have q2 : (w.ρ ++ [a])[c]? = some b := q2
    by_cases l : c < m.length
    · rw [List.getElem?_append_left l] at q1
      rw [List.getElem?_append_left (by rw [← r.mem.1]; exact l)] at q2
      exact r.mem.2 c cell b q1 q2
    · have lc := (List.getElem?_eq_some_iff.mp q1).1
      simp only [List.length_append, List.length_cons, List.length_nil] at lc
      have ec : c = m.length := by omega
      subst ec
      rw [List.getElem?_append_right (Nat.le_refl _)] at q1
      rw [r.mem.1, List.getElem?_append_right (Nat.le_refl _)] at q2
      simp at q1 q2
      subst q1; subst q2
      exact ⟨hn, vs, h2, h3⟩
  · rcases getS_set q with ⟨rfl, e⟩ | ⟨n, e⟩
    · cases e
      refine ⟨_, h1, a, rfl, ?_⟩
      show (w.ρ ++ [a])[m.length]? = some a
      rw [r.mem.1, List.getElem?_append_right (Nat.le_refl _)]
      simp
    · obtain ⟨y, g1, g2⟩ := r.slo.2 j z e
      refine ⟨y, g1, ?_⟩
      have g2 := g2.other (P := fun _ => False) n
      cases z with
      | ref c =>
        obtain ⟨b, e1, e2⟩ := g2
        have e2 : w.ρ[c]? = some b := e2
        refine ⟨b, e1, ?_⟩
        show (w.ρ ++ [a])[c]? = some b
        rw [List.getElem?_append_left (List.getElem?_eq_some_iff.mp e2).1]
        exact e2
      | _ => exact g2
end
section
variable {X : Cx} {W : XK} {a b c e : Expr} {fa fb fc f : Sg → Mem → Rs Vl} {p pos : Pos} {g g' : Sg → Mem → So}
def celF (i : Nat) : Sg → Mem → So := fun η m => match getS η i with
    | some (.new xs) => if noLsts xs then .nx (η.set i (some (.ref m.length))) (m ++ [.lst xs]) else .bad
    | _ => .bad
theorem ss_cel {i : Nat} {sts : List Stmt} (h : SSs X W sts g) : SSs X W sts (fun η m => (celF i η m).then fun η1 m1 => g η1 m1) :=
  PSs.imp h fun D σ H ⟨w, η, m, rel, hA⟩ => by
    dsimp only at hA
    unfold celF at hA
    split at hA
    · rename_i xs hs
      split at hA
      · rename_i hn
        obtain ⟨w2, e2, rel2⟩ := cell_R rel hs hn
        exact ⟨w2, _, _, rel2, AnsS.on hA e2⟩
      · exact hA.elim
    · exact hA.elim
def frzF (i : Nat) : Sg → Mem → So := fun η m => match getS η i with
    | some (.new xs) => .nx (η.set i (some (.dat (.list xs)))) m
    | some v => .nx η m
    | none => .bad
theorem ss_frz {i : Nat} {sts : List Stmt} (h : SSs X W sts g) : SSs X W sts (fun η m => (frzF i η m).then fun η1 m1 => g η1 m1) :=
  PSs.imp h fun D σ H ⟨w, η, m, rel, hA⟩ => by
    dsimp only at hA
    unfold frzF at hA
    split at hA
    · rename_i xs hs
      obtain ⟨w2, e2, rel2, _⟩ := freeze_R rel hs
      exact ⟨w2, _, m, rel2, AnsS.on hA e2⟩
    · exact ⟨w, η, m, rel, hA⟩
    · exact hA.elim
theorem ss_wip {is : List Nat} {sts : List Stmt} (h : SSs X W sts g) : SSs X W sts (fun η m => (So.nx (wipeS η is) m).then fun η1 m1 => g η1 m1) :=
  PSs.imp h fun D σ H ⟨w, η, m, rel, hA⟩ => ⟨w.less is, _, m, rel.lets is, AnsS.on hA (lets_ext w H is)⟩
/-- x = y -/
theorem ss_mv {i j : Nat} {st : Stmt} (h : PS X st (tAsg (tVar j) (gName i))) : SS_ X W st (fun η m => match getS η j with
    | some (.new xs) => .nx ((η.set j (some (.dat (.list xs)))).set i (some (.dat (.list xs)))) m
    | some (.dat d) => .nx (η.set i (some (.dat d))) m
    | some (.ref c) => .nx (η.set i (some (.ref c))) m
    | _ => .bad) :=
  PS.imp h fun D σ H ⟨w, η, m, rel, hA⟩ => by
    dsimp only at hA
    split at hA
    · rename_i xs hs
      obtain ⟨w2, e2, rel2, u, h1, h2⟩ := freeze_R rel hs
      obtain ⟨w3, e3, rel3, _⟩ := store_R (v := .dat (.list xs)) (i := i) e2 rel2 h2 trivial rfl
      exact ⟨u, h1, hA w3 _ H e3 rel3⟩
    · rename_i d hs
      obtain ⟨u, h1, h2⟩ := rel.slo.2 j _ hs
      obtain ⟨w3, e3, rel3, _⟩ := store_R (v := .dat d) (i := i) (ExtS.refl w H) rel h2 trivial rfl
      exact ⟨u, h1, hA w3 _ H e3 rel3⟩
    · rename_i d hs
      obtain ⟨u, h1, h2⟩ := rel.slo.2 j _ hs
      obtain ⟨w3, e3, rel3, _⟩ := store_R (v := .ref d) (i := i) (ExtS.refl w H) rel h2 trivial rfl
      exact ⟨u, h1, hA w3 _ H e3 rel3⟩
    · exact hA.elim
/-- x += e, x -= e (ints) -/
theorem ss_aug {i : Nat} {op : Operator} {st : Stmt} {h : Int → Int → Int} (hop : (op = .Add ∧ h = fun i j => i + j) ∨ (op = .Sub ∧ h = fun i j => i - j)) (hs : PS X st (tAug i (rdE X.K W f) (ipI h))) : SS_ X W st (fun η m => match getS η i with
    | some (.dat (.int a)) => (f η m).so fun x m1 => match x with
      | .dat (.int b) => (match op with
        | .Add => .nx (η.set i (some (.dat (.int (a + b))))) m1
        | .Sub => .nx (η.set i (some (.dat (.int (a - b))))) m1
        | _ => .bad)
      | _ => .bad
    | _ => .bad) :=
  PS.imp hs fun D σ H ⟨w, η, m, rel, hA⟩ => by
    dsimp only at hA
    split at hA
    · rename_i a ha
      obtain ⟨u, h1, h2⟩ := rel.slo.2 i _ ha
      have hu : u = .int a := by simpa only [SlotR, RD] using h2
      subst hu
      refine ⟨_, h1, rd_so rel hA fun x m1 w1 v H1 e1 rel1 vx fx hA1 => ?_⟩
      split at hA1
      · rename_i b
        cases vx.int
        have fin : ∀ k : Int, ∃ w3, ExtS w H w3 H1 ∧ Rel X.K w3 (η.set i (some (.dat (.int k)))) m1 (σ.set i (some (.int k))) H1 := fun k => by
          obtain ⟨w3, e3, rel3, _⟩ := store_R (v := .dat (.int k)) (x := .int k) (i := i) e1.toS rel1 VR.ofInt trivial rfl
          exact ⟨w3, e3, rel3⟩
        rcases hop with ⟨rfl, rfl⟩ | ⟨rfl, rfl⟩
        · obtain ⟨w3, e3, rel3⟩ := fin (a + b)
          exact ⟨a, b, rfl, rfl, hA1 w3 _ H1 e3 rel3⟩
        · obtain ⟨w3, e3, rel3⟩ := fin (a - b)
          exact ⟨a, b, rfl, rfl, hA1 w3 _ H1 e3 rel3⟩
      · exact hA1.elim
    · exact hA.elim
/-! ### x.append(e), x.extend(e) -/
theorem keep1_R {K : PySem.W.Frag} {w w1 : Wd} {η : Sg} {m : Mem} {σ : L2.St} {H H1 : Hp} {x : Vl} {v : V} {d : PyData} (e1 : ExtE w H w1 H1) (rel1 : Rel K w1 η m σ H1) (vx : VR K w1 H1 x v) (fx : FrV H H1 x v) (hk : keep x = some d) :
    ∃ w2, ExtE w H w2 H1 ∧ Rel K w2 η m σ H1 ∧ RD w2.F H1 d v := by
  rcases keep_R rel1 vx fx hk with ⟨q, _⟩ | ⟨a, us, xs, rfl, rfl, rfl, q1, q2, q3, q4, q5, q6⟩
  · exact ⟨w1, e1, rel1, q⟩
  · refine ⟨w1.froze a, ext_froze e1 q6, rel1.froze q1 q4 q5, ?_⟩
    simp only [RD]
    exact ⟨a, us, rfl, .inr rfl, q1, q2.froze⟩
/-- what stands at a slot that is a list -/
theorem slot_list {K : PySem.W.Frag} {w : Wd} {η : Sg} {m : Mem} {σ : L2.St} {H : Hp} (rel : Rel K w η m σ H) {i : Nat} {ds : List PyData} {η1 : Sg} {m2 : Mem} (h : appTo η m i ds = some (η1, m2)) :
    ∃ a vs xs, σ[i]? = some (some (.ref a)) ∧ H a = some (.lst vs) ∧ RDs w.F H xs vs ∧ fits (xs.length + ds.length) = true ∧ ∀ us, RDs w.F H ds us → ExtS w H w (upd H a (.lst (vs ++ us))) ∧ Rel K w η1 m2 σ (upd H a (.lst (vs ++ us))) := by
  unfold appTo at h
  split at h
  · rename_i xs hs
    split at h
    · rename_i hf
      simp only [Option.some.injEq, Prod.mk.injEq] at h
      obtain ⟨rfl, rfl⟩ := h
      obtain ⟨a, vs, h1, h2, h3, h4⟩ := own_at rel hs
      exact ⟨a, vs, xs, h1, h2, h3, hf, fun us hu => ⟨ext_write h4, own_write rel h1 h2 h4 (h3.append hu)⟩⟩
    · cases h
  · rename_i c hs
    split at h
    · rename_i xs hc
      split at h
      · rename_i hf
        simp only [Bool.and_eq_true] at hf
        simp only [Option.some.injEq, Prod.mk.injEq] at h
        obtain ⟨rfl, rfl⟩ := h
        obtain ⟨u, h1, a, rfl, h2⟩ := rel.slo.2 i _ hs
        obtain ⟨n, vs, h3, h4⟩ := rel.mem.cell hc h2
        have nl : noLsts (xs ++ ds) = true := by
          have go : ∀ (xs : List PyData), noLsts xs = true → noLsts (xs ++ ds) = true := by
            intro xs
            induction xs with
            | nil => intro _; exact hf.2
            | cons x xs ih =>
              intro h
              simp only [noLsts, Bool.and_eq_true, List.cons_append] at h ⊢
              exact ⟨h.1, ih h.2⟩
          exact go xs n
        exact ⟨a, vs, xs, h1, h3, h4, hf.1, fun us hu => ⟨ext_writeM (List.mem_of_getElem? h2), mem_write rel hc h2 nl (h4.append hu)⟩⟩
      · cases h
    · cases h
  · cases h
/-- the slot's list before the argument is reckoned -/
theorem slot_before {K : PySem.W.Frag} {w : Wd} {η : Sg} {m : Mem} {σ : L2.St} {H : Hp} (rel : Rel K w η m σ H) {i : Nat} {v : Vl} (h : getS η i = some v) (hv : (∃ xs, v = .new xs) ∨ ∃ c xs, v = .ref c ∧ m[c]? = some (.lst xs)) : ∃ a vs, σ[i]? = some (some (.ref a)) ∧ H a = some (.lst vs) := by
  rcases hv with ⟨xs, rfl⟩ | ⟨c, xs, rfl, hc⟩
  · obtain ⟨a, vs, h1, h2, _⟩ := own_at rel h
    exact ⟨a, vs, h1, h2⟩
  · obtain ⟨u, h1, a, rfl, h2⟩ := rel.slo.2 i _ h
    obtain ⟨n, vs, h3, h4⟩ := rel.mem.cell hc h2
    exact ⟨a, vs, h1, h3⟩
theorem lstS_R {η : Sg} {m : Mem} {i : Nat} (h : lstS η m i = true) : ∃ v, getS η i = some v ∧ ((∃ xs, v = .new xs) ∨ ∃ c xs, v = .ref c ∧ m[c]? = some (.lst xs)) := by
  unfold lstS at h
  split at h
  · rename_i xs hs
    exact ⟨_, hs, .inl ⟨xs, rfl⟩⟩
  · rename_i c hs
    split at h
    · rename_i xs hc
      exact ⟨_, hs, .inr ⟨c, xs, rfl, hc⟩⟩
    · cases h
  · cases h
theorem ss_app {i : Nat} {st : Stmt} (hst : PS X st (tDrop (tBM X.K "list" rAppend (tVar i) (tCons (rdE X.K W f) tNil)))) : SS_ X W st (fun η m => if lstS η m i then (f η m).so fun x m1 => match keep x with
    | some d => (match appTo η m1 i [d] with
      | some (η1, m2) => .nx η1 m2
      | none => .bad)
    | none => .bad else .bad) :=
  PS.imp hst fun D σ H ⟨w, η, m, rel, hA⟩ => by
    dsimp only at hA
    split at hA
    · rename_i hl
      obtain ⟨v, hv, hv2⟩ := lstS_R hl
      obtain ⟨a0, vs0, g1, g2⟩ := slot_before rel hv hv2
      refine ⟨_, g1, .inl ⟨rfl, vs0, SqL.of g2⟩, rd_so rel hA fun x m1 w1 v H1 e1 rel1 vx fx hA1 => ?_⟩
      cases hk : keep x with
      | none => rw [hk] at hA1; exact hA1.elim
      | some d =>
        rw [hk] at hA1
        dsimp only at hA1
        cases ha : appTo η m1 i [d] with
        | none => rw [ha] at hA1; exact hA1.elim
        | some q =>
          obtain ⟨η1, m2⟩ := q
          rw [ha] at hA1
          obtain ⟨w2, e2, rel2, rd⟩ := keep1_R e1 rel1 vx fx hk
          obtain ⟨a, vs, xs, h1, h2, h3, h4, h5⟩ := slot_list rel2 ha
          rw [g1] at h1
          cases h1
          obtain ⟨e3, rel3⟩ := h5 [v] (RDs.cons rd RDs.nil)
          refine ⟨a0, vs, v, rfl, rfl, h2, ?_, hA1 w2 σ _ (e2.toS.trans e3) rel3⟩
          have := line_fits h4
          simp only [List.length_cons, List.length_nil] at this
          rw [h3.len]
          omega
    · exact hA.elim
theorem ss_ext {i : Nat} {st : Stmt} (hst : PS X st (tDrop (tBM X.K "list" rExtend (tVar i) (tCons (rdE X.K W f) tNil)))) : SS_ X W st (fun η m => if lstS η m i then (f η m).so fun x m1 => match x with
    | .new ds => (match appTo η m1 i ds with
      | some (η1, m2) => .nx η1 m2
      | none => .bad)
    | _ => .bad else .bad) :=
  PS.imp hst fun D σ H ⟨w, η, m, rel, hA⟩ => by
    dsimp only at hA
    split at hA
    · rename_i hl
      obtain ⟨v, hv, hv2⟩ := lstS_R hl
      obtain ⟨a0, vs0, g1, g2⟩ := slot_before rel hv hv2
      refine ⟨_, g1, .inl ⟨rfl, vs0, SqL.of g2⟩, rd_so rel hA fun x m1 w1 v H1 e1 rel1 vx fx hA1 => ?_⟩
      split at hA1
      · rename_i ds
        cases ha : appTo η m1 i ds with
        | none => rw [ha] at hA1; exact hA1.elim
        | some q =>
          obtain ⟨η1, m2⟩ := q
          rw [ha] at hA1
          obtain ⟨b, us, rfl, q1, q2, _⟩ := vx
          obtain ⟨a, vs, xs, h1, h2, h3, h4, h5⟩ := slot_list rel1 ha
          rw [g1] at h1
          cases h1
          obtain ⟨e3, rel3⟩ := h5 us q2
          refine ⟨a0, b, vs, us, rfl, rfl, h2, q1, ?_, hA1 w1 σ _ (e1.toS.trans e3) rel3⟩
          rw [h3.len, q2.len]
          exact line_fits h4
      · exact hA1.elim
    · exact hA.elim
end
end SS
/- SSO -/
set_option Elab.async false
set_option linter.all false
set_option maxRecDepth 100000
/-! Statements, further. -/
namespace SS
open PySem PySem.Spec PyProof.Rows L2
section
variable {K : PySem.W.Frag} {W : XK} {w w1 : Wd} {η : Sg} {m : Mem} {σ : L2.St} {H H1 : Hp}
def setsσ : L2.St → List Nat → List V → L2.St
  | σ, i :: is, v :: vs => setsσ (σ.set i (some v)) is vs
  | σ, _, _ => σ
theorem VFs.len : ∀ {xs : List Vl} {us : List V} {w' : Wd} {H' : Hp}, VFs K H w' H' xs us → us.length = xs.length
  | [], us, _, _, h => by cases h; rfl
  | x :: xs, us, _, _, h => by
    obtain ⟨v, r, rfl, _, _, h, _⟩ := h
    simp [VFs.len h]
theorem stores_len : ∀ {is : List Nat} {vs : List Vl} {η η' : Sg}, stores η is vs = some η' → vs.length = is.length
  | [], [], _, _, _ => rfl
  | [], _ :: _, _, _, h => by simp [stores] at h
  | _ :: _, [], _, _, h => by simp [stores] at h
  | i :: is, v :: vs, η, η', h => by
    simp only [stores] at h
    obtain ⟨v', _, h2⟩ := Option.bind_eq_some_iff.mp h
    simp [stores_len h2]
theorem storeP_V {v v' : Vl} (h : storeP v = some v') : storeV v = some v' ∧ v' = v ∧ ∀ rows, v ≠ .new2 rows := by
  cases v <;> simp [storeP] at h <;> subst h <;> exact ⟨rfl, rfl, fun _ e => by cases e⟩
/-- several values are stored -/
theorem stores_R : ∀ {is : List Nat} {xs : List Vl} {us : List V} {η η' : Sg} {σ : L2.St} {w1 : Wd}, ExtS w H w1 H1 → Rel K w1 η m σ H1 → VFs K H w1 H1 xs us → stores η is xs = some η' → ∃ w2, ExtS w H w2 H1 ∧ Rel K w2 η' m (setsσ σ is us) H1
  | [], xs, us, η, η', σ, w1, e, r, vs, h => by
    cases xs with
    | nil =>
      simp only [stores, Option.some.injEq] at h; subst h
      exact ⟨w1, e, r⟩
    | cons x xs => simp [stores] at h
  | i :: is, xs, us, η, η', σ, w1, e, r, vs, h => by
    cases xs with
    | nil => simp [stores] at h
    | cons x xs =>
      simp only [stores] at h
      obtain ⟨v', h1, h2⟩ := Option.bind_eq_some_iff.mp h
      obtain ⟨hv, rfl, nn⟩ := storeP_V h1
      obtain ⟨v, us', rfl, vr, fv, vs', nd⟩ := vs
      obtain ⟨w2, e2, r2, hF, hρ, hω, hi⟩ := store_R (i := i) e r vr fv.toS hv
      have n2 : ∀ {is : List Nat} {ys : List Vl} {η η' : Sg}, stores η is ys = some η' → ∀ y ∈ ys, ∀ rows, y ≠ .new2 rows := by
        intro is
        induction is with
        | nil =>
          intro ys η η' h y hy
          cases ys with
          | nil => simp at hy
          | cons _ _ => simp [stores] at h
        | cons i is ih =>
          intro ys η η' h y hy rows e
          cases ys with
          | nil => simp at hy
          | cons z ys =>
            simp only [stores] at h
            obtain ⟨v', p1, p2⟩ := Option.bind_eq_some_iff.mp h
            simp only [List.mem_cons] at hy
            rcases hy with rfl | hy
            · exact (storeP_V p1).2.2 rows e
            · exact ih p2 y hy rows e
      have up : ∀ {ys : List Vl} {zs : List V}, (∀ y ∈ ys, ∀ rows, y ≠ .new2 rows) → (∀ a ∈ newAd v' v, a ∉ newAds ys zs) → VFs K H w1 H1 ys zs → VFs K H w2 H1 ys zs := by
        intro ys
        induction ys with
        | nil => intro zs _ _ h; exact h
        | cons y ys ih =>
          intro zs n3 nd h
          obtain ⟨z, zs', rfl, q1, q2, q3, q4⟩ := h
          refine ⟨z, zs', rfl, ?_, q2, ih (fun y hy => n3 y (by simp [hy])) (fun a ha hn => nd a ha (by simp only [newAds, List.mem_append]; exact .inr hn)) q3, q4⟩
          cases y with
          | dat d => unfold VR at q1 ⊢; rw [hF]; exact q1
          | ref c => unfold VR at q1 ⊢; rw [hρ]; exact q1
          | new zs2 =>
            obtain ⟨b, vs2, rfl, g1, g2, g3, g4, g5⟩ := q1
            refine ⟨b, vs2, rfl, g1, by rw [hF]; exact g2, by rw [hF]; exact g3, by rw [hρ]; exact g4, fun j q => ?_⟩
            by_cases ej : j = i
            · subst ej
              rcases hi b q with q | ⟨rows, q⟩
              · exact nd b q (by simp [newAds, newAd])
              · exact nn rows q
            · exact g5 j ((hω j ej b).mp q)
          | new2 rows => exact absurd rfl (n3 _ (by simp) rows)
          | bor zs2 => obtain ⟨b, vs2, rfl, g1, g2, g4⟩ := q1; exact ⟨b, vs2, rfl, g1, by rw [hF]; exact g2, by rw [hρ]; exact g4⟩
          | bor2 rows => obtain ⟨b, as, rfl, g1, g2, g4⟩ := q1; exact ⟨b, as, rfl, g1, by rw [hF]; exact g2, by rw [hρ]; exact g4⟩
          | scr ns => exact q1
      have z := stores_R (is := is) e2 r2 (up (n2 h2) nd vs') h2
      exact z
/-- arguments within a statement -/
theorem rdA_so {f : Sg → Mem → Rs (List Vl)} {g : List Vl → Mem → So} {D : Ends} {Qc : List V → Hp → Prop} (rel : Rel K w η m σ H) (hA : AnsS K W w H ((f η m).so g) D)
    (k : ∀ x m1 w1 v H1, ExtE w H w1 H1 → Rel K w1 η m1 σ H1 → VFs K H w1 H1 x v → AnsS K W w H (g x m1) D → Qc v H1) : rdA K W f σ H Qc := by
  refine ⟨w, η, m, rel, ?_⟩
  cases h : f η m with
  | ok x m1 => rw [h] at hA; exact fun w1 v H1 e1 rel1 vf => k x m1 w1 v H1 e1 rel1 vf hA
  | ex c m1 => rw [h] at hA; exact fun w1 H1 e1 rel1 => hA w1 H1 e1.toS rel1.sep rel1.mem
  | bad => rw [h] at hA; exact hA.elim
end
section
variable {X : Cx} {W : XK} {a b c e : Expr} {fa fb fc f : Sg → Mem → Rs Vl} {p pos : Pos} {g g' : Sg → Mem → So} {fs : Sg → Mem → Rs (List Vl)} {st : Stmt}
def parF (is : List Nat) (fs : Sg → Mem → Rs (List Vl)) : Sg → Mem → So := fun η m => (fs η m).so fun vs m1 => match stores η is vs with
    | some η1 => .nx η1 m1
    | none => .bad
theorem ss_par2 {i j : Nat} (h : PS X st (tPar i j (rdA X.K W fs))) : SS_ X W st (parF [i, j] fs) :=
  PS.imp h fun D σ H ⟨w, η, m, rel, hA⟩ => rdA_so rel hA fun xs m1 w1 us H1 e1 rel1 vs hA1 => by
    cases hs : stores η [i, j] xs with
    | none => rw [hs] at hA1; exact hA1.elim
    | some η1 =>
      rw [hs] at hA1
      obtain ⟨w2, e2, rel2⟩ := stores_R e1.toS rel1 vs hs
      have l := vs.len.trans (stores_len hs)
      match us, l with
      | [u, v], _ => exact ⟨u, v, rfl, hA1 w2 _ H1 e2 rel2⟩
theorem ss_par3 {i j l : Nat} (h : PS X st (tPar3 i j l (rdA X.K W fs))) : SS_ X W st (parF [i, j, l] fs) :=
  PS.imp h fun D σ H ⟨w, η, m, rel, hA⟩ => rdA_so rel hA fun xs m1 w1 us H1 e1 rel1 vs hA1 => by
    cases hs : stores η [i, j, l] xs with
    | none => rw [hs] at hA1; exact hA1.elim
    | some η1 =>
      rw [hs] at hA1
      obtain ⟨w2, e2, rel2⟩ := stores_R e1.toS rel1 vs hs
      have l := vs.len.trans (stores_len hs)
      match us, l with
      | [u, v, z], _ => exact ⟨u, v, z, rfl, hA1 w2 _ H1 e2 rel2⟩
theorem gs_sets {D : L2.St → Hp → Prop} {H : Hp} : ∀ {is : List Nat} {us : List V} {σ : L2.St}, us.length = is.length → D (setsσ σ is us) H → (is.foldr (fun i t => gCons (gName i) t) gNil) us σ H D
  | [], [], σ, _, h => ⟨rfl, h⟩
  | i :: is, u :: us, σ, l, h => ⟨u, us, rfl, gs_sets (by simpa using l) h⟩
  | [], _ :: _, _, l, _ => by simp at l
  | _ :: _, [], _, l, _ => by simp at l
/-- the pair is made and taken apart -/
theorem ss_parT {is : List Nat} (h : PS X st (tAsg (fun σ H Q => rdA X.K W fs σ H fun xs H1 => xs.length ≤ sizeLine ∧ ∀ (p : Addr) (o : Obj), H1 p = none → o.dict = none → Q (.ref p) (upd H1 p (.frz o (.tup xs)))) (gTup X.K is.length (is.foldr (fun i t => gCons (gName i) t) gNil)))) (hn : is.length ≤ 10) : SS_ X W st (parF is fs) :=
  PS.imp h fun D σ H ⟨w, η, m, rel, hA⟩ => rdA_so rel hA fun xs m1 w1 us H1 e1 rel1 vs hA1 => by
    cases hs : stores η is xs with
    | none => rw [hs] at hA1; exact hA1.elim
    | some η1 =>
      rw [hs] at hA1
      have l := vs.len.trans (stores_len hs)
      refine ⟨Nat.le_trans (by rw [l]; exact hn) (by decide), fun p o np hd => ⟨p, us, rfl, TupH.sq ⟨o, upd_same, hd⟩, l, ?_⟩⟩
      have e2 := e1.trans (ext_new (o := .frz o (.tup us)) rel1.sep np)
      obtain ⟨w2, e3, rel2⟩ := stores_R e2.toS (rel1.new np) (vs.ext rel1.sep (ext_new rel1.sep np)) hs
      exact gs_sets l (hA1 w2 _ _ e3 rel2)
/-- a, b = e -/
theorem ss_asgT {is : List Nat} (h : PS X st (tAsg (rdE X.K W f) (tgG X.K (.tup is)))) : SS_ X W st (fun η m => (f η m).so fun x m1 => match x with
    | .dat d => (match bindTg η d (.tup is) with
      | some η1 => .nx η1 m1
      | none => .bad)
    | _ => .bad) :=
  PS.imp h fun D σ H ⟨w, η, m, rel, hA⟩ => rd_so rel hA fun x m1 w1 u H1 e1 rel1 vx fx hA1 => by
    split at hA1
    · rename_i d
      cases hb : bindTg η d (.tup is) with
      | none => rw [hb] at hA1; exact hA1.elim
      | some η1 =>
        rw [hb] at hA1
        exact tg_R (t := .tup is) (tp := true) (rel1.lets is) (fun _ => ⟨is, rfl⟩) (.inl ⟨rfl, vx⟩) (bind_lets hb) fun σ2 e2 rel2 _ => hA1 _ σ2 H1 (e1.toS.trans (lets_ext w1 H1 is)) rel2
    · exact hA1.elim
/-- x.remove(e), ints -/
theorem first_at {k : Int} : ∀ {ns : List Int}, k ∈ ns → ∃ j : Nat, ns[j]? = some k ∧ (∀ m : Nat, m < j → ns[m]? ≠ some k) ∧ ns.erase k = ns.eraseIdx j
  | [], h => by simp at h
  | n :: ns, h => by
    by_cases e : n = k
    · subst e
      exact ⟨0, rfl, fun m hm => absurd hm (Nat.not_lt_zero m), by simp⟩
    · have h2 : k ∈ ns := by
        simp only [List.mem_cons] at h
        rcases h with h | h
        · exact absurd h.symm e
        · exact h
      obtain ⟨j, h3, h4, h5⟩ := first_at h2
      refine ⟨j + 1, by simpa using h3, fun m hm => ?_, ?_⟩
      · cases m with
        | zero => simp [e]
        | succ m => simpa using h4 m (by omega)
      · rw [List.erase_cons_tail (by simpa using e), h5]; rfl
theorem ss_rem {i : Nat} (hst : PS X st (tDrop (tBM X.K "list" rRemI (tVar i) (tCons (rdE X.K W f) tNil)))) : SS_ X W st (fun η m => if lstS η m i then (f η m).so fun x m1 => match getS η i, x with
    | some (.new xs), .dat (.int k) => (match intsOf xs with
      | some ns => if k ∈ ns then .nx (η.set i (some (.new ((ns.erase k).map .int)))) m1 else .bad
      | none => .bad)
    | _, _ => .bad else .bad) :=
  PS.imp hst fun D σ H ⟨w, η, m, rel, hA⟩ => by
    dsimp only at hA
    split at hA
    · rename_i hl
      obtain ⟨v, hv, hv2⟩ := lstS_R hl
      obtain ⟨a0, vs0, g1, g2⟩ := slot_before rel hv hv2
      refine ⟨_, g1, .inl ⟨rfl, vs0, SqL.of g2⟩, rd_so rel hA fun x m1 w1 v H1 e1 rel1 vx fx hA1 => ?_⟩
      split at hA1
      · rename_i xs k hs
        split at hA1
        · rename_i ns hn
          split at hA1
          · rename_i hk
            cases vx.int
            obtain ⟨a, vs, h1, h2, h3, h4⟩ := own_at rel1 hs
            rw [g1] at h1
            cases h1
            rw [h3.ints hn] at h2
            obtain ⟨j, q1, q2, q3⟩ := first_at hk
            refine ⟨a0, ns, k, j, rfl, rfl, h2, q1, q2, ?_⟩
            rw [q3] at hA1
            exact hA1 w1 σ _ (e1.toS.trans (ext_write h4)) (own_write rel1 g1 h2 h4 (RDs.ofInts _))
          · exact hA1.elim
        · exact hA1.elim
      · exact hA1.elim
    · exact hA.elim
/-! ### x[a] += e, x[a][b] += e -/
theorem get_list : PGet X (fun o i H Q => ∃ p xs k v, o = .ref p ∧ i = .int k ∧ SqL X.K H p xs ∧ atI xs k = some v ∧ Q v H) := by
  intro pins s σ H o i ov iv Q I ro ri h
  obtain ⟨p, xs, k, v, rfl, rfl, hq, he, q⟩ := h
  cases ro
  obtain ⟨t, rfl⟩ := ri
  obtain ⟨its, r, pl, hz⟩ := I.list hq
  obtain ⟨j, h1, h2, h3, h4, h5⟩ := atI_get he
  obtain ⟨w, ew, rw'⟩ := r.get h2
  have hl := r.length
  have hn := line63
  have fin : EP X pins σ Q w s := ⟨v, H, I, rw', q⟩
  by_cases h0 : 0 ≤ k
  · have hj : k.toNat = j := by
      rw [seqIndex_of h0 h5] at h1
      exact Option.some.inj h1
    exact wpAny_getItem_list pl.isList h0 (by omega) (by rw [hj]; simpa using ew) fin
  · have hj : (k + (its.toArray.size : Int)).toNat = j := by
      rw [seqIndex_neg (by omega) h4] at h1
      rw [List.size_toArray, ← hl]
      exact Option.some.inj h1
    exact wpAny_getItem_list_neg pl.isList (by omega) (by rw [List.size_toArray] <;> omega) (by omega) (by rw [hj]; simpa using ew) fin
theorem itemOf_R {K : PySem.W.Frag} {w : Wd} {H : Hp} {xs : List PyData} {k : Vl} {j : Nat} {x : Int} {u : V} {vs : List V} (h : itemOf xs k = some (j, x)) (vk : VR K w H k u) {F : Addr → Prop} (r : RDs F H xs vs) : ∃ n : Int, u = .int n ∧ atI vs n = some (.int x) ∧ ixN vs.length n = some j := by
  unfold itemOf at h
  split at h
  · rename_i n
    split at h
    · rename_i j' hj
      split at h
      · rename_i x' hx
        simp only [Option.some.injEq, Prod.mk.injEq] at h
        obtain ⟨rfl, rfl⟩ := h
        obtain ⟨v, h1, h2⟩ := r.get hx
        simp only [RD] at h2
        subst h2
        refine ⟨n, vk.int, ?_, by rw [r.len]; exact hj⟩
        unfold atI
        rw [r.len, hj]
        exact h1
      · cases h
    · cases h
  · cases h
/-- the two ways of op -/
theorem augI_R {op : Operator} {y : Vl} {x z : Int} {h : Int → Int → Int} {K : PySem.W.Frag} {w' : Wd} {H' : Hp} {v : V} (hop : (op = .Add ∧ h = fun i j => i + j) ∨ (op = .Sub ∧ h = fun i j => i - j)) (vy : VR K w' H' y v) (hz : augI op y x = some z) : ∃ b, v = .int b ∧ z = h x b := by
  unfold augI at hz
  split at hz
  · rcases hop with ⟨_, rfl⟩ | ⟨q, _⟩
    · cases hz; exact ⟨_, vy.int, rfl⟩
    · cases q
  · rcases hop with ⟨q, _⟩ | ⟨_, rfl⟩
    · cases q
    · cases hz; exact ⟨_, vy.int, rfl⟩
  · cases hz
abbrev rGetL (K : PySem.W.Frag) : V → V → Hp → VK → Prop := fun o i H Q => ∃ p xs k v, o = .ref p ∧ i = .int k ∧ SqL K H p xs ∧ atI xs k = some v ∧ Q v H
theorem isOwn_R {K : PySem.W.Frag} {w : Wd} {η : Sg} {m : Mem} {σ : L2.St} {H : Hp} (rel : Rel K w η m σ H) {i : Nat} (h : isOwn η i = true) : ∃ u, σ[i]? = some (some u) := by
  unfold isOwn at h
  split at h
  · rename_i xs hs
    obtain ⟨u, h1, _⟩ := rel.slo.2 i _ hs
    exact ⟨u, h1⟩
  · rename_i xs hs
    obtain ⟨u, h1, _⟩ := rel.slo.2 i _ hs
    exact ⟨u, h1⟩
  · cases h
theorem ss_aug1 {i : Nat} {op : Operator} {h : Int → Int → Int} (hop : (op = .Add ∧ h = fun i j => i + j) ∨ (op = .Sub ∧ h = fun i j => i - j)) (hst : PS X st (tAugS (tVar i) (rdE X.K W fa) (rdE X.K W f) (rGetL X.K) (ipI h) rSetL)) : SS_ X W st (fun η m => if isOwn η i then (fa η m).so fun k m1 => match itemAt1 η i k with
    | some (xs, j, x) => (f η m1).so fun y m2 => (match augI op y x with
      | some z => .nx (η.set i (some (.new (xs.set j (.int z))))) m2
      | none => .bad)
    | none => .bad else .bad) :=
  PS.imp hst fun D σ H ⟨w, η, m, rel, hA⟩ => by
    dsimp only at hA
    split at hA
    · rename_i ho
      obtain ⟨u, hu⟩ := isOwn_R rel ho
      refine ⟨u, hu, rd_so rel hA fun k m1 w1 v H1 e1 rel1 vk fk hA1 => ?_⟩
      cases hi : itemAt1 η i k with
      | none => rw [hi] at hA1; exact hA1.elim
      | some q =>
        obtain ⟨xs, j, x⟩ := q
        rw [hi] at hA1
        dsimp only at hA1
        unfold itemAt1 at hi
        split at hi
        · rename_i ys hs
          obtain ⟨⟨j', x'⟩, h1, h2⟩ := Option.map_eq_some_iff.mp hi
          simp only [Prod.mk.injEq] at h2
          obtain ⟨rfl, rfl, rfl⟩ := h2
          obtain ⟨a, vs, g1, g2, g3, g4⟩ := own_at rel1 hs
          rw [hu] at g1
          cases g1
          obtain ⟨n, rfl, g5, g6⟩ := itemOf_R h1 vk g3
          refine ⟨a, vs, n, _, rfl, rfl, SqL.of g2, g5, rd_so' e1 rel1 hA1 fun y m2 w2 v2 H2 e2 rel2 vy fy hA2 => ?_⟩
          cases hz : augI op y x' with
          | none => rw [hz] at hA2; exact hA2.elim
          | some z =>
          rw [hz] at hA2
          obtain ⟨b, rfl, rfl⟩ := augI_R hop vy hz
          obtain ⟨a', vs', g1', g2', g3', g4'⟩ := own_at rel2 hs
          rw [hu] at g1'
          cases g1'
          have g2'' := e2.fr a _ g2 (fun q => rel1.sep.ro a i q g4)
          rw [g2''] at g2'
          cases g2'
          have fin : ∀ z : Int, AnsS X.K W w H (.nx (η.set i (some (.new (ys.set j' (.int z))))) m2) D → rSetL (.ref a) (.int n) (.int z) H2 fun H6 => D.nx σ H6 := fun z hz =>
            ⟨a, vs, n, j', rfl, rfl, g2'', g6, hz w2 σ _ ((e1.trans e2).toS.trans (ext_write g4')) (own_write rel2 hu g2'' g4' (g3'.set j' (by simp only [RD])))⟩
          exact ⟨_, _, rfl, rfl, fin _ hA2⟩
        · cases hi
    · exact hA.elim
/-- rows in a slot -/
theorem rows_at {K : PySem.W.Frag} {w : Wd} {η : Sg} {m : Mem} {σ : L2.St} {H : Hp} (r : Rel K w η m σ H) {i : Nat} {rows : List (List PyData)} (h : getS η i = some (.new2 rows)) : ∃ a as, σ[i]? = some (some (.ref a)) ∧ H a = some (.lst (as.map V.ref)) ∧ RwR w.F H rows as ∧ (a :: as).Nodup ∧ ∀ b ∈ a :: as, w.ω i b := by
  obtain ⟨u, h1, a, as, rfl, h2⟩ := r.slo.2 i _ h
  exact ⟨a, as, h1, h2⟩
theorem RwR.setAt {F : Addr → Prop} {H : Hp} : ∀ {rows : List (List PyData)} {as : List Addr} {q : Nat} {b : Addr} {vs us : List V} {ys : List PyData}, RwR F H rows as → as.Nodup → as[q]? = some b → H b = some (.lst vs) → ¬ F b → RDs F H ys us → RwR F (upd H b (.lst us)) (rows.set q ys) as
  | [], as, q, b, vs, us, ys, h, nd, hq, hb, nf, r => by
    simp only [RwR] at h; subst h; simp at hq
  | r :: rs, as, 0, b, vs, us, ys, h, nd, hq, hb, nf, hr => by
    simp only [RwR] at h
    obtain ⟨a, as', rfl, ⟨vs', h1, h2⟩, h3⟩ := h
    simp at hq; subst hq
    simp only [List.set_cons_zero, RwR]
    have nn := List.nodup_cons.mp nd
    exact ⟨a, as', rfl, ⟨us, upd_same, hr.poke nf hb⟩, RwR.poke nf hb (fun c hc e => nn.1 (e ▸ hc)) h3⟩
  | r :: rs, as, q + 1, b, vs, us, ys, h, nd, hq, hb, nf, hr => by
    simp only [RwR] at h
    obtain ⟨a, as', rfl, ⟨vs', h1, h2⟩, h3⟩ := h
    have nn := List.nodup_cons.mp nd
    have hq' : as'[q]? = some b := by simpa using hq
    have nb : a ≠ b := fun e => nn.1 (e ▸ List.mem_of_getElem? hq')
    simp only [List.set_cons_succ, RwR]
    exact ⟨a, as', rfl, ⟨vs', by rw [upd_ne nb]; exact h1, h2.poke nf hb⟩, RwR.setAt h3 nn.2 hq' hb nf hr⟩
theorem ss_aug2 {i : Nat} {op : Operator} {h : Int → Int → Int} (hop : (op = .Add ∧ h = fun i j => i + j) ∨ (op = .Sub ∧ h = fun i j => i - j)) (hst : PS X st (tAugS (tOp (rIxL X.K) (tVar i) (rdE X.K W fa)) (rdE X.K W fb) (rdE X.K W f) (rGetL X.K) (ipI h) rSetL)) : SS_ X W st (fun η m => if isOwn η i then (fa η m).so fun k m1 => match rowAt η i k with
    | some (rows, q, xs) => (fb η m1).so fun l m2 => (match itemOf xs l with
      | some (j, x) => (f η m2).so fun y m3 => (match augI op y x with
        | some z => .nx (η.set i (some (.new2 (rows.set q (xs.set j (.int z)))))) m3
        | none => .bad)
      | none => .bad)
    | none => .bad else .bad) :=
  PS.imp hst fun D σ H ⟨w, η, m, rel, hA⟩ => by
    dsimp only at hA
    split at hA
    · rename_i ho
      obtain ⟨u, hu⟩ := isOwn_R rel ho
      refine ⟨u, hu, rd_so rel hA fun k m1 w1 v H1 e1 rel1 vk fk hA1 => ?_⟩
      cases hi : rowAt η i k with
      | none => rw [hi] at hA1; exact hA1.elim
      | some q0 =>
        obtain ⟨rows, q, xs⟩ := q0
        rw [hi] at hA1
        dsimp only at hA1
        unfold rowAt at hi
        split at hi
        · rename_i rows' n hs
          split at hi
          · rename_i q' hq
            split at hi
            · rename_i xs' hx
              simp only [Option.some.injEq, Prod.mk.injEq] at hi
              obtain ⟨rfl, rfl, rfl⟩ := hi
              obtain ⟨a, as, g1, g2, g3, g4, g5⟩ := rows_at rel1 hs
              rw [hu] at g1
              cases g1
              cases vk.int
              obtain ⟨b, vs, k1, k2, k3⟩ := g3.get hx
              refine ⟨a, _, n, .ref b, rfl, rfl, SqL.of g2, ?_, rd_so' e1 rel1 hA1 fun l m2 w2 v2 H2 e2 rel2 vl fl hA2 => ?_⟩
              · unfold atI
                rw [List.length_map, g3.len, hq]
                simp [k1]
              cases hit : itemOf xs' l with
              | none => rw [hit] at hA2; exact hA2.elim
              | some p =>
                obtain ⟨j, x⟩ := p
                rw [hit] at hA2
                dsimp only at hA2
                have nb : b ∉ w1.ρ := fun z => rel1.sep.ro b i z (g5 b (by simp [List.mem_of_getElem? k1]))
                have kb2 := e2.fr b _ k2 nb
                have rb2 := k3.ext rel1.sep e2
                obtain ⟨n2, rfl, g6, g7⟩ := itemOf_R hit vl rb2
                refine ⟨b, vs, n2, _, rfl, rfl, SqL.of kb2, g6, rd_so' (e1.trans e2) rel2 hA2 fun y m3 w3 v3 H3 e3 rel3 vy fy hA3 => ?_⟩
                cases hz : augI op y x with
                | none => rw [hz] at hA3; exact hA3.elim
                | some z =>
                rw [hz] at hA3
                obtain ⟨c, rfl, rfl⟩ := augI_R hop vy hz
                obtain ⟨a', as', h1', h2', h3', h4', h5'⟩ := rows_at rel3 hs
                rw [hu] at h1'
                cases h1'
                have ha3 := (e2.trans e3).fr a _ g2 (fun z => rel1.sep.ro a i z (g5 a (by simp)))
                have eas : as' = as := by
                  rw [ha3] at h2'
                  injection h2' with h2'
                  injection h2' with h2'
                  exact ((List.map_inj_right (fun x y z => by injection z)).mp h2').symm
                subst eas
                have kb3 := (e2.trans e3).fr b _ k2 nb
                have rb3 := k3.ext rel1.sep (e2.trans e3)
                have hbm : b ∈ as' := List.mem_of_getElem? k1
                have ob : w3.ω i b := h5' b (by simp [hbm])
                have nf : ¬ w3.F b := fun z => rel3.sep.fo b i z ob
                have nab : a ≠ b := fun e => (List.nodup_cons.mp h4').1 (e ▸ hbm)
                have fin : ∀ z : Int, AnsS X.K W w H (.nx (η.set i (some (.new2 (rows'.set q' (xs'.set j (.int z)))))) m3) D → rSetL (.ref b) (.int n2) (.int z) H3 fun H6 => D.nx σ H6 := fun z hz => by
                  refine ⟨b, vs, n2, j, rfl, rfl, kb3, g7, hz w3 σ _ (((e1.trans e2).trans e3).toS.trans (ext_write ob)) (own_poke rel3 kb3 ob hu ⟨a, as', rfl, by rw [upd_ne nab]; exact ha3, ?_, h4', h5'⟩)⟩
                  exact RwR.setAt h3' (List.nodup_cons.mp h4').2 k1 kb3 nf (rb3.set j (by simp only [RD]))
                exact ⟨_, _, rfl, rfl, fin _ hA3⟩
            · cases hi
          · cases hi
        · cases hi
    · exact hA.elim
/-- while -/
theorem ss_while {test : Expr} {body : List Stmt} (hp : PassesOwn (model X.prog X.w) X.A X.env X.xe) (hc : PT X test (rdT X.K W fc)) (hb : SSs X W body g) (n : Nat) : SS_ X W (.While test body [] pos) (fun η m => whlRun (fun η m => (fc η m).bind fun x m1 => Rs.opt m1 (boolV x)) (fun η m => g η m) n η m) :=
  PS.imp (ps_while hp hc hb) fun D σ H ⟨w, η, m, rel, hA⟩ => by
    refine ⟨fun k σ' H' => ∃ w' η' mm, ExtS w H w' H' ∧ Rel X.K w' η' mm σ' H' ∧ AnsS X.K W w H (whlRun (fun η m => (fc η m).bind fun x m1 => Rs.opt m1 (boolV x)) (fun η m => g η m) k η' mm) D, ⟨n, w, η, m, ExtS.refl w H, rel, hA⟩, ?_⟩
    rintro k σ' H' ⟨w', η', mm, e', rel', hB⟩
    cases k with
    | zero => exact hB.elim
    | succ k =>
      simp only [whlRun] at hB
      refine ⟨w', η', mm, rel', ?_⟩
      cases hf : fc η' mm with
      | bad => rw [hf] at hB; exact hB.elim
      | ex c m1 => rw [hf] at hB; exact fun w1 H1 e1 rel1 => hB w1 H1 (e'.trans e1.toS) rel1.sep rel1.mem
      | ok x m1 =>
        rw [hf] at hB
        simp only [Rs.bind_ok] at hB
        intro w1 v H1 e1 rel1 vx
        cases hk : boolV x with
        | none => rw [hk] at hB; exact hB.elim
        | some b =>
          rw [hk] at hB
          simp only [Rs.opt_some, Rs.so_ok] at hB
          refine ⟨b, boolV_R vx.1 hk, ?_⟩
          cases b with
          | false =>
            simp only [Bool.false_eq_true, if_false] at hB ⊢
            exact hB w1 σ' H1 (e'.trans e1.toS) rel1
          | true =>
            simp only [if_true] at hB ⊢
            refine ⟨fun σ2 H2 => ∃ w' η' mm, ExtS w H w' H2 ∧ Rel X.K w' η' mm σ2 H2 ∧ AnsS X.K W w H (whlRun (fun η m => (fc η m).bind fun x m1 => Rs.opt m1 (boolV x)) (fun η m => g η m) k η' mm) D, fun σ2 H2 h => ⟨k, Nat.lt_succ_self k, h⟩, w1, η', m1, rel1, ?_⟩
            have e2 := e'.trans e1.toS
            cases hg : g η' m1 with
            | nx η2 m2 => rw [hg] at hB; exact fun w4 σ4 H4 e4 rel4 => ⟨w4, η2, m2, e2.trans e4, rel4, hB⟩
            | rt v2 m2 => rw [hg] at hB; exact AnsS.on (D := D) (r := .rt v2 m2) hB e2
            | ex c m2 => rw [hg] at hB; exact AnsS.on (D := D) (r := .ex c m2) hB e2
            | bad => rw [hg] at hB; exact hB.elim
/-- raise -/
theorem ss_raise {c : Str} (h : PS X st (fun _ σ H => W (.ref (He.ga X.K c)) none H)) : SS_ X W st (fun _ m => .ex c m) :=
  PS.imp h fun D σ H ⟨w, η, m, rel, hA⟩ => hA w H (ExtS.refl w H) rel.sep rel.mem
end
end SS
/- SSP -/
set_option Elab.async false
set_option linter.all false
set_option maxRecDepth 100000
/-! [list(x) for x in rows] -/
namespace SS
open PySem PySem.Spec PyProof.Rows L2
def rowsF (fa : Sg → Mem → Rs Vl) : Sg → Mem → Rs Vl := fun η m => (fa η m).bind fun x m1 => match x with
    | .dat (.tuple ds) => Rs.opt m1 ((rowsOf ds).bind fun rows => if fits rows.length then some (Vl.new2 rows) else none)
    | _ => .bad
def seqF (fs : Bool) (fa : Sg → Mem → Rs Vl) : Sg → Mem → Rs (List PyData) := fun η m => (fa η m).bind fun x m1 => if !fs || steady x then Rs.opt m1 (iterOf x) else .bad
theorem rowsOf_get : ∀ {ds : List PyData} {rows : List (List PyData)}, rowsOf ds = some rows → ds = rows.map .tuple
  | [], rows, h => by simp only [rowsOf, Option.some.injEq] at h; subst h; rfl
  | .tuple es :: ds, rows, h => by
    simp only [rowsOf, Option.map_eq_some_iff] at h
    obtain ⟨r, h1, rfl⟩ := h
    rw [rowsOf_get h1]; rfl
  | .none :: _, _, h => by simp [rowsOf] at h
  | .bool _ :: _, _, h => by simp [rowsOf] at h
  | .int _ :: _, _, h => by simp [rowsOf] at h
  | .str _ :: _, _, h => by simp [rowsOf] at h
  | .list _ :: _, _, h => by simp [rowsOf] at h
  | .dict _ :: _, _, h => by simp [rowsOf] at h
theorem RwR.snoc {F : Addr → Prop} {H : Hp} : ∀ {rows : List (List PyData)} {as : List Addr} {r : List PyData} {a : Addr}, RwR F H rows as → (∃ vs, H a = some (.lst vs) ∧ RDs F H r vs) → RwR F H (rows ++ [r]) (as ++ [a])
  | [], as, r, a, h, q => by
    simp only [RwR] at h; subst h
    simp only [List.nil_append, RwR]
    exact ⟨a, [], rfl, q, rfl⟩
  | r0 :: rs, as, r, a, h, q => by
    simp only [RwR] at h
    obtain ⟨b, as', rfl, h1, h3⟩ := h
    simp only [List.cons_append, RwR]
    exact ⟨b, as' ++ [a], rfl, h1, RwR.snoc h3 q⟩
def rList (K : PySem.W.Frag) : List V → Hp → VK → Prop := fun xs H Q => ∃ p ys, xs = [.ref p] ∧ (SqL K H p ys ∨ SqT K H p ys) ∧ ∀ l, H l = none → Q (.ref l) (upd H l (.lst ys))
theorem rows_rd {K : PySem.W.Frag} {W : XK} {i : Nat} {fa : Sg → Mem → Rs Vl} {σ : L2.St} {H : Hp} {Q : VK} (hi : i < σ.length) (h : rdE K W (rowsF fa) σ H Q) :
    tLc (rdI false false K W (seqF false fa)) (gName i) tYes (tCB (rList K) (tCons (tVar i) tNil)) [i] σ H Q := by
  obtain ⟨w, η, m, rel, hA⟩ := h
  refine ⟨w, η, m, rel, ?_⟩
  simp only [rowsF] at hA
  simp only [seqF]
  cases hfa : fa η m with
  | bad => rw [hfa] at hA; exact hA.elim
  | ex c m1 => rw [hfa] at hA; exact fun w1 H1 e1 rel1 => hA w1 H1 e1 rel1
  | ok x m1 =>
    rw [hfa] at hA
    simp only [Rs.bind_ok, Bool.not_false, Bool.true_or, if_true] at hA ⊢
    split at hA
    · rename_i ds
      obtain ⟨z, hz, hA⟩ := ans_opt' hA
      obtain ⟨rows, hr, hz2⟩ := Option.bind_eq_some_iff.mp hz
      split at hz2
      rotate_left
      · cases hz2
      rename_i hfit
      cases hz2
      have eds := rowsOf_get hr
      show AnsE K W w η σ H _ (Rs.ok ds m1) _
      intro w1 J H1 e1 rel1 ⟨src, Y, _⟩ D nD
      have nD3 := rel1.out_new nD
      have G : ∀ (H' : Hp) w', ExtE w1 H1 w' H' → ∀ a ∈ src, H' a = H1 a := fun H' w' e a ha => by
        obtain ⟨n, o, ho⟩ := Y.out a ha
        rw [ho]
        exact e.fr a o ho n
      have nD1 : ∀ a o, H1 a = some o → a ≠ D := fun a o h e => by subst e; rw [nD] at h; cases h
      have Wk : Walk J ds.length (fun H' => ∀ a ∈ src, H' a = H1 a) (fun i H' x H'' => J.yld i H' x H'') := ⟨fun i H' hi g => Y.go H' i g hi, fun H' g => Y.stop H' g, fun i H' x H'' _ _ y => y⟩
      refine lc_it Wk (fun k H' => ∃ as : List Addr, ExtE w1 H1 w1 H' ∧ Rel K w1 η m1 σ H' ∧ H' D = some (.lst (as.map V.ref)) ∧ RwR w1.F H' (rows.take k) as ∧ (D :: as).Nodup ∧ ∀ b ∈ D :: as, H1 b = none) ?_ ?_ ?_ ?_
      · exact ⟨[], ext_new rel1.sep nD, rel1.new nD, upd_same, by simp [RwR], by simp, fun b hb => by simp at hb; subst hb; exact nD⟩
      · rintro k H' _ ⟨as, e', _⟩
        exact G H' w1 e'
      · rintro k x H' H'' hk ⟨as, e', rel', hD, hrw, nd, nw⟩ y
        have hk2 : k < rows.length := by rw [eds, List.length_map] at hk; exact hk
        have hdk : ds[k]? = some (.tuple rows[k]) := by
          subst eds
          rw [List.getElem?_map, List.getElem?_eq_getElem hk2]; rfl
        have yv := Y.yld w1.F H' k _ x H'' (G H' w1 e') (fun d v q => q.ext rel1.sep e') (fun d v q T o nT => q.ext rel'.sep (ext_new rel'.sep nT)) hdk y
        have base : ExtE w1 H' w1 H'' ∧ Rel K w1 η m1 σ H'' ∧ RD w1.F H'' (.tuple rows[k]) x := by
          rcases yv with ⟨rfl, y⟩ | ⟨T, o, nT, rfl, y⟩
          · exact ⟨ExtE.refl _ _, rel', y⟩
          · refine ⟨ext_new rel'.sep nT, rel'.new nT, ?_⟩
            rcases y with y | ⟨q, _⟩
            · exact y
            · cases q
        obtain ⟨e2, rel2, rd⟩ := base
        simp only [RD] at rd
        obtain ⟨q, vs, rfl, hq, rq⟩ := rd
        have all : ∀ b ∈ D :: as, ¬ w1.F b ∧ b ∉ w1.ρ ∧ ∀ j, ¬ w1.ω j b := fun b hb => rel1.out_new (nw b hb)
        have there : ∀ b ∈ D :: as, ∃ us, H' b = some (.lst us) := fun b hb => by
          simp only [List.mem_cons] at hb
          rcases hb with rfl | hb
          · exact ⟨_, hD⟩
          · exact hrw.there b hb
        refine ⟨by rw [show wipe σ [i] = σ.set i none from rfl]; simp [wipe, List.set_set], ?_⟩
        unfold tYes
        dsimp only
        rw [if_pos rfl]
        refine ⟨.ref q, by rw [show wipe σ [i] = σ.set i none from rfl, List.set_set, List.getElem?_set_self hi], q, vs, rfl, .inr hq.sq, fun l nl => ?_⟩
        have hD2 : H'' D = some (.lst (as.map V.ref)) := e2.fr D _ hD (all D (by simp)).2.1
        have nlD : D ≠ l := ne_of_none hD2 nl
        have nl1 : H1 l = none := nn_of (e'.trans e2) _ nl
        have nlas : ∀ b ∈ D :: as, b ≠ l := fun b hb => by
          obtain ⟨us, hu⟩ := there b hb
          exact ne_of_none (e2.fr b _ hu (all b hb).2.1) nl
        have rel3 := rel2.new (o := .lst vs) nl
        have hD3 : upd H'' l (.lst vs) D = some (.lst (as.map V.ref)) := by rw [upd_ne nlD]; exact hD2
        refine ⟨as.map V.ref, hD3, ?_, as ++ [l], ?_, rel3.poke hD3 (all D (by simp)).1 (all D (by simp)).2.1 (all D (by simp)).2.2, ?_, ?_, ?_, ?_⟩
        · rw [List.length_map, hrw.len, List.length_take]
          have := line_fits_lt hfit
          omega
        · have e3 := (e'.trans e2).trans (ext_new (o := .lst vs) rel2.sep nl)
          refine ⟨e3.F, e3.F', e3.ρ, e3.ω, fun a o h n => ?_, fun a h => ?_⟩
          · rw [upd_ne (nD1 a o h)]; exact e3.fr a o h n
          · by_cases q : a = D
            · subst q; rw [upd_same]; simp
            · rw [upd_ne q]; exact e3.dm a h
        · rw [upd_same, List.map_append]; rfl
        · rw [List.take_succ_eq_append_getElem hk2]
          have r4 : RwR w1.F (upd H'' l (.lst vs)) (rows.take k) as := RwR.ext (RwR.ext hrw rel'.sep e2 fun b hb => (all b (by simp [hb])).2.1) rel2.sep (ext_new rel2.sep nl) fun b hb => (all b (by simp [hb])).2.1
          exact RwR.poke (all D (by simp)).1 hD3 (fun b hb e => by
            simp only [List.mem_append, List.mem_singleton] at hb
            rcases hb with hb | hb
            · exact (List.nodup_cons.mp nd).1 (e ▸ hb)
            · exact nlD (e.symm.trans hb)) (r4.snoc ⟨vs, upd_same, rq.ext rel2.sep (ext_new rel2.sep nl)⟩)
        · rw [List.nodup_cons, List.nodup_append]
          have nn := List.nodup_cons.mp nd
          refine ⟨fun h => ?_, nn.2, by simp, fun a ha b hb e => ?_⟩
          · simp only [List.mem_append, List.mem_singleton] at h
            rcases h with h | h
            · exact nn.1 h
            · exact nlD h
          · simp only [List.mem_singleton] at hb
            exact nlas a (by simp [ha]) (e.trans hb)
        · intro b hb
          simp only [List.mem_cons, List.mem_append, List.mem_singleton, List.not_mem_nil, or_false] at hb
          rcases hb with rfl | hb | rfl
          · exact nD
          · exact nw b (by simp [hb])
          · exact nl1
      · rintro H' ⟨as, e', rel', hD, hrw, nd, nw⟩
        have el : ds.length = rows.length := by rw [eds, List.length_map]
        rw [el, List.take_length] at hrw
        exact hA w1 _ H' (e1.trans e') rel' ⟨⟨D, as, rfl, hD, hrw, nd, fun b hb => rel1.out_new (nw b hb)⟩, fun a bs e hh b hb => by
          cases e
          have ez : as = bs := by
            rw [hD] at hh
            injection hh with hh
            injection hh with hh
            exact (List.map_inj_right (fun x y z => by injection z)).mp hh
          subst ez
          exact nn_of e1 _ (nw b hb)⟩
    · exact hA.elim
end SS
/- SSQ -/
set_option Elab.async false
set_option linter.all false
set_option maxRecDepth 100000
/-! The program's text and the core text: the check, and what it gives. -/
namespace SS
open PySem PySem.Spec PyProof.Rows L2
structure Inf where
  fns : List (Nat × Str)
  gi : List (Str × Int) := []
  gs : List (Str × Str) := []
  excs : List Str := []
def visB (sc : Scope) (x : Str) : Bool := match sc.names.lookup x with
  | some .local => true
  | some .cell => true
  | some .free => true
  | _ => false
def locB (sc : Scope) (x : Str) : Bool := match sc.names.lookup x with
  | some .local => true
  | some .cell => true
  | _ => false
def isLocal (sc : Scope) (x : Str) : Bool := match sc.names.lookup x with
  | some .local => true
  | _ => false
def glB (sc : Scope) (x : Str) : Bool := match sc.names.lookup x with
  | some .globalImplicit => true
  | _ => false
def okN (x : Str) : Bool := !(x == ("__debug__" : Str)) && (!(x == ("__classdict__" : Str)) && !decide (x = ("__name__" : Str)))
def b1Name : B1 → String
  | .len => "len"
  | .tuple => "tuple"
  | .list => "list"
  | .sum => "sum"
  | .min => "min"
  | .max => "max"
  | .all => "all"
  | .any => "any"
  | .sorted => "sorted"
/-- not a set display: no iterable of ours is one -/
def notSet : Expr → Bool
  | .Set _ _ _ => false
  | _ => true
/-- the names of a target, its slots -/
def tgOwn : Tg → Expr → List (Str × Nat)
  | .one i, .Name x _ => [(x, i)]
  | .tup is, .Tuple es _ _ => (es.zip is).filterMap fun p => match p.1 with
    | .Name x _ => some (x, p.2)
    | _ => none
  | _, _ => []
def chkName (N : List Str) (sc : Scope) (fn : Str → Bool) (i : Nat) (e : Expr) : Bool := match e with
  | .Name x _ => decide (N[i]? = some x) && (locB sc x && (fn x || isLocal sc x))
  | _ => false
def chkNames (N : List Str) (sc : Scope) (fn : Str → Bool) : List Nat → List Expr → Bool
  | [], [] => true
  | i :: is, e :: es => chkName N sc fn i e && chkNames N sc fn is es
  | _, _ => false
def chkTg (N : List Str) (sc : Scope) (fn : Str → Bool) : Tg → Expr → Bool
  | .one i, e => chkName N sc fn i e
  | .tup is, .Tuple es _ _ => chkNames N sc fn is es
  | _, _ => false
def isSuperCall : Expr → Bool
  | .Call _ [] _ _ => true
  | _ => false
def is1 : Expr → Bool
  | .UnaryOp .USub (.Constant (.int i) _ _) _ => decide (i = 1)
  | _ => false
mutual
def chkE (I : Inf) (N : List Str) : CE → Scope → Expr → Bool
  | .cint i, _, e => (match e with
    | .Constant (.int j) _ _ => decide (i = j)
    | _ => false)
  | .cbl b, _, e => (match e with
    | .Constant (.bool c) _ _ => b == c
    | _ => false)
  | .cnon, _, e => (match e with
    | .Constant .none _ _ => true
    | _ => false)
  | .cstr s, _, e => (match e with
    | .Constant (.str t) _ _ => decide (s = t)
    | _ => false)
  | .var i, sc, e => (match e with
    | .Name x _ => decide (N[i]? = some x) && (visB sc x && okN x)
    | _ => false)
  | .gint x i, sc, e => (match e with
    | .Name y _ => decide (x = y) && (glB sc y && (okN y && decide ((x, i) ∈ I.gi)))
    | _ => false)
  | .gstr x s, sc, e => (match e with
    | .Name y _ => decide (x = y) && (glB sc y && (okN y && decide ((x, s) ∈ I.gs)))
    | _ => false)
  | .bin op a b, sc, e => (match e with
    | .BinOp x o y _ => decide (op = o) && (chkE I N a sc x && chkE I N b sc y)
    | _ => false)
  | .neg a, sc, e => (match e with
    | .UnaryOp .USub x _ => chkE I N a sc x
    | _ => false)
  | .nt a, sc, e => (match e with
    | .UnaryOp .Not x _ => chkE I N a sc x
    | _ => false)
  | .and_ a r, sc, e => (match e with
    | .BoolOp .And (x :: y :: rest) p => chkE I N a sc x && chkE I N r sc (.BoolOp .And (y :: rest) p)
    | _ => false)
  | .or_ a r, sc, e => (match e with
    | .BoolOp .Or (x :: y :: rest) p => chkE I N a sc x && chkE I N r sc (.BoolOp .Or (y :: rest) p)
    | _ => false)
  | .one a, sc, e => (match e with
    | .BoolOp _ [x] _ => chkE I N a sc x
    | _ => false)
  | .ite c a b, sc, e => (match e with
    | .IfExp x y z _ => chkE I N c sc x && (chkE I N a sc y && chkE I N b sc z)
    | _ => false)
  | .cmp op a b, sc, e => (match e with
    | .Compare x [o] [y] _ => decide (op = o) && (chkE I N a sc x && (chkE I N b sc y && !behindInMarks op y))
    | _ => false)
  | .chain op op' a b c, sc, e => (match e with
    | .Compare x [o, o'] [y, z] _ => decide (op = o) && (decide (op' = o') && (chkE I N a sc x && (chkE I N b sc y && (chkE I N c sc z && !behindInMarks op' z))))
    | _ => false)
  | .tup es, sc, e => (match e with
    | .Tuple xs _ _ => chkEs I N es sc xs
    | _ => false)
  | .lst es, sc, e => (match e with
    | .List xs _ => chkEs I N es sc xs
    | _ => false)
  | .call f es, sc, e => (match e with
    | .Call (.Name x _) (y :: ys) [] _ => decide ((f, x) ∈ I.fns) && (glB sc x && (okN x && chkEs I N es sc (y :: ys)))
    | _ => false)
  | .b1 f a, sc, e => (match e with
    | .Call (.Name x _) [y] [] _ => decide (x = (b1Name f : Str)) && (glB sc x && (chkE I N a sc y && !isStar y))
    | _ => false)
  | .mm2 mx a b, sc, e => (match e with
    | .Call (.Name x _) [y, z] [] _ => decide (x = ((if mx then "max" else "min" : String) : Str)) && (glB sc x && (chkE I N a sc y && (chkE I N b sc z && (!isStar y && !isStar z))))
    | _ => false)
  | .isi t a, sc, e => (match e with
    | .Call (.Name x _) [y, .Name z _] [] _ => decide (x = ("isinstance" : Str)) && (glB sc x && (chkE I N a sc y && (!isStar y && (decide (z = (tyName t : Str)) && glB sc z))))
    | _ => false)
  | .me f o a, sc, e => (match e with
    | .Call (.Attribute x m ap) [y] [] p => decide (f = .count) && (decide (m = ("count" : Str)) && (chkE I N o sc x && (chkE I N a sc y && (!isStar y && (!isSuperCall x && (ap.endLine == p.line))))))
    | _ => false)
  | .ix a b, sc, e => (match e with
    | .Subscript x y _ => chkE I N a sc x && (chkE I N b sc y && isPlainIx y)
    | _ => false)
  | .sl a lo hi, sc, e => (match e with
    | .Subscript x (.Slice l h none _) _ => chkE I N a sc x && (chkO I N lo sc l && chkO I N hi sc h)
    | _ => false)
  | .rev a, sc, e => (match e with
    | .Subscript x (.Slice none none (some y) _) _ => chkE I N a sc x && is1 y
    | _ => false)
  | .lc elt t it cond, sc, e => (match e with
    | .ListComp el [⟨tg, iter, ifs, k⟩] scope _ => decide (k = 0) && (chkI I N it sc (isTupE tg || isNameE tg) (isTupE tg) iter && (chkTg N (relS scope sc) (fun x => scope.names.lookup x == some .cell) t tg && (blkC N sc scope (tgOwn t tg) &&
      (decide ((tgOwn t tg).map (·.2) = tgSlots t) && (chkC I N cond (relS scope sc) ifs && (chkE I N elt (relS scope sc) el && notSet iter))))))
    | _ => false)
  | .rows i a, sc, e => (match e with
    | .ListComp (.Call (.Name l _) [.Name x' _] [] _) [⟨.Name x px, iter, [], k⟩] scope _ => decide (k = 0) && (chkE I N a sc iter && (chkName N (relS scope sc) (fun x => scope.names.lookup x == some .cell) i (.Name x px) && (blkC N sc scope [(x, i)] &&
      (decide (x' = x) && (decide (l = ("list" : Str)) && (glB (relS scope sc) l && (visB (relS scope sc) x && (okN x && notSet iter))))))))
    | _ => false)
  | .rng tp a, sc, e => (match e with
    | .Call (.Name t _) [.Call (.Name r _) [x] [] _] [] _ => decide (t = ((if tp then "tuple" else "list" : String) : Str)) && (decide (r = ("range" : Str)) && (glB sc t && (glB sc r && (chkE I N a sc x && !isStar x))))
    | _ => false)
def chkEs (I : Inf) (N : List Str) : CEs → Scope → List Expr → Bool
  | .nil, _, es => (match es with
    | [] => true
    | _ => false)
  | .cons a r, sc, es => (match es with
    | x :: xs => chkE I N a sc x && (!isStar x && chkEs I N r sc xs)
    | _ => false)
def chkO (I : Inf) (N : List Str) : CO → Scope → Option Expr → Bool
  | .no, _, e => (match e with
    | none => true
    | _ => false)
  | .yes a, sc, e => (match e with
    | some x => chkE I N a sc x
    | _ => false)
def chkC (I : Inf) (N : List Str) : CO → Scope → List Expr → Bool
  | .no, _, e => (match e with
    | [] => true
    | _ => false)
  | .yes a, sc, e => (match e with
    | [x] => chkE I N a sc x
    | _ => false)
def chkI (I : Inf) (N : List Str) : CI → Scope → Bool → Bool → Expr → Bool
  | .seq a, sc, _, _, e => chkE I N a sc e
  | .rng1 a, sc, _, _, e => (match e with
    | .Call (.Name r _) [x] [] _ => decide (r = ("range" : Str)) && (glB sc r && (chkE I N a sc x && !isStar x))
    | _ => false)
  | .rng2 a b, sc, _, _, e => (match e with
    | .Call (.Name r _) [x, y] [] _ => decide (r = ("range" : Str)) && (glB sc r && (chkE I N a sc x && (!isStar x && (chkE I N b sc y && !isStar y))))
    | _ => false)
  | .enum a, sc, _, tp, e => (match e with
    | .Call (.Name r _) [x] [] _ => tp && (decide (r = ("enumerate" : Str)) && (glB sc r && (chkE I N a sc x && !isStar x)))
    | _ => false)
  | .zip a b, sc, _, tp, e => (match e with
    | .Call (.Name r _) [x, y] [] _ => tp && (decide (r = ("zip" : Str)) && (glB sc r && (chkE I N a sc x && (!isStar x && (chkE I N b sc y && !isStar y)))))
    | _ => false)
end
/-! ### what the checks say -/
theorem visB_ok {sc : Scope} {x : Str} (h : visB sc x = true) : Vis sc x := by
  unfold visB at h
  split at h
  · exact .inl (by assumption)
  · exact .inr (.inl (by assumption))
  · exact .inr (.inr (by assumption))
  · cases h
theorem locB_ok {sc : Scope} {x : Str} (h : locB sc x = true) : Loc sc x := by
  unfold locB at h
  split at h
  · exact .inl (by assumption)
  · exact .inr (by assumption)
  · cases h
theorem isLocal_ok {sc : Scope} {x : Str} (h : isLocal sc x = true) : sc.names.lookup x = some .local := by
  unfold isLocal at h
  split at h
  · assumption
  · cases h
theorem glB_ok {X : Cx} {x : Str} (h : glB X.env.scope x = true) : Gl X x := by
  unfold glB at h
  split at h
  · assumption
  · cases h
theorem okN_ok {x : Str} (h : okN x = true) : (x == ("__debug__" : Str)) = false ∧ (x == ("__classdict__" : Str)) = false ∧ x ≠ "__name__" := by
  unfold okN at h
  simp only [Bool.and_eq_true, Bool.not_eq_true', decide_eq_false_iff_not] at h
  exact h
theorem notSet_ok {e : Expr} (h : notSet e = true) (env : PySem.Env) : ∀ x, foldedSetIterable e env x = pure x := by
  intro x
  cases e <;> first | rfl | simp [notSet] at h
theorem superCall_ok {e : Expr} {n : Str} {env : PySem.Env} (h : isSuperCall e = false) : attributeBase e n env (eval e env) = eval e env := by
  cases e with
  | Call f as ks p =>
    cases as with
    | nil => simp [isSuperCall] at h
    | cons a as => cases f <;> rfl
  | _ => rfl
section
variable {X : Cx}
theorem pg_ok {fn : Str → Bool} (hN : X.N.Nodup) (hfn : ∀ x, fn x = true → X.fn x = true) {i : Nat} {e : Expr} (h : chkName X.N X.env.scope fn i e = true) : PG X e (gName i) := by
  unfold chkName at h
  split at h
  · rename_i x p
    simp only [Bool.and_eq_true, Bool.or_eq_true, decide_eq_true_eq] at h
    obtain ⟨h1, h2, h3⟩ := h
    refine pg_name hN h1 (locB_ok h2) ?_
    rcases h3 with h3 | h3
    · exact .inl (hfn x h3)
    · exact .inr (isLocal_ok h3)
  · cases h
theorem pgs_ok {fn : Str → Bool} (hN : X.N.Nodup) (hfn : ∀ x, fn x = true → X.fn x = true) : ∀ {is : List Nat} {es : List Expr}, chkNames X.N X.env.scope fn is es = true → PGs X es (is.foldr (fun i t => gCons (gName i) t) gNil) ∧ (assignEach es X.env).length = is.length ∧ (assignEach es X.env).findIdx? (·.1) = none
  | [], [], _ => ⟨pgs_nil, rfl, rfl⟩
  | [], _ :: _, h => by simp [chkNames] at h
  | _ :: _, [], h => by simp [chkNames] at h
  | i :: is, e :: es, h => by
    simp only [chkNames, Bool.and_eq_true] at h
    obtain ⟨h1, h2, h3⟩ := pgs_ok hN hfn h.2
    have hp := pg_ok hN hfn h.1
    have hn := h.1
    unfold chkName at hn
    split at hn
    · rename_i x p
      have ea : assignEach (.Name x p :: es) X.env = (false, assign (.Name x p) X.env) :: assignEach es X.env := rfl
      refine ⟨pgs_cons hp h1 rfl, by rw [ea]; simp [h2], ?_⟩
      rw [ea, List.findIdx?_cons]
      simp [h3]
    · cases hn
theorem ptg_ok {fn : Str → Bool} (hc : X.calm = true) (hN : X.N.Nodup) (hfn : ∀ x, fn x = true → X.fn x = true) {t : Tg} {e : Expr} (h : chkTg X.N X.env.scope fn t e = true) : PG X e (tgG X.K t) ∧ (isTupE e = true → ∃ is, t = .tup is) := by
  cases t with
  | one i =>
    simp only [chkTg] at h
    refine ⟨pg_ok hN hfn h, fun q => ?_⟩
    unfold chkName at h
    split at h
    · cases q
    · cases h
  | tup is =>
    cases e with
    | Tuple es k p =>
      simp only [chkTg] at h
      obtain ⟨h1, h2, h3⟩ := pgs_ok hN hfn h
      exact ⟨pg_tup hc h1 h2 h3, fun _ => ⟨_, rfl⟩⟩
    | _ => simp [chkTg] at h
end
/-! ### the context -/
def bltNames : List Str := ["len", "tuple", "list", "sum", "min", "max", "all", "any", "sorted", "isinstance", "int", "bool", "str", "range", "enumerate", "zip"]
/-- what expressions lean on -/
structure CokE (I : Inf) (S : Fo) (X : Cx) (W : XK) : Prop where
  calm : X.calm = true
  nd : X.N.Nodup
  un : X.A.units + 65 < cLine
  gaps : ∀ X : Cx, X.calm = true → Gaps X
  bl : ∀ x ∈ bltNames, X.mg x = none
  gin : ∀ x i, (x, i) ∈ I.gi → ∃ t, X.mg x = some (.int i t)
  gst : ∀ x s, (x, s) ∈ I.gs → ∃ t, X.mg x = some (.str s t)
  call : ∀ f x, (f, x) ∈ I.fns → ∃ (a : Addr) (fd : FuncData) (ps : List Str) (k : Nat), FnOk X.prog X.w X.K X.mg X.base (L2.CX X.prog X.w) k a fd ps (spF X.K (S f) ps.length) ∧ (∀ as m, as.length ≠ ps.length → S f as m = .bad) ∧ Room k X.A ∧ X.mg x = some (.ref a) ∧ PySem.W.keepIn X.K (.ref a) = true ∧ Binds X.K fd ps []
  pass : Passes (L2.CX X.prog X.w) X W
/-- a comprehension's block -/
theorem CokE.blk {I : Inf} {S : Fo} {X : Cx} {W : XK} (c : CokE I S X W) (s : Shared) (H : Hp) (scope : Scope) (cenv : PySem.Env) (fp : List Addr) : CokE I S (X.blk s H scope cenv fp) E0 :=
  ⟨c.calm, c.nd, c.un, c.gaps, c.bl, c.gin, c.gst, c.call, passL⟩
theorem rel_scope (scope : Scope) (cl : List (Str × Addr)) (C : Addr) (env : PySem.Env) : (compEnvC scope cl C env).scope = relS scope env.scope := rfl
def plainTest : Expr → Bool
  | .UnaryOp .Not _ _ => false
  | .BoolOp _ _ _ => false
  | .IfExp _ _ _ _ => false
  | .Compare _ _ _ _ => false
  | _ => true
theorem plainTest_ok {e : Expr} {env : PySem.Env} (h : plainTest e = true) : ∀ whole, isTrue e env whole = (do let v ← whole; standAt e.pos; holding [v] (truthy v)) := by
  intro whole
  cases e with
  | UnaryOp op a p => cases op <;> first | rfl | simp [plainTest] at h
  | BoolOp _ _ _ => simp [plainTest] at h
  | IfExp _ _ _ _ => simp [plainTest] at h
  | Compare _ _ _ _ => simp [plainTest] at h
  | _ => rfl
theorem is1_ok {y : Expr} (h : is1 y = true) : ∃ k p1 p2, y = .UnaryOp .USub (.Constant (.int 1) k p1) p2 := by
  unfold is1 at h
  split at h
  · simp only [decide_eq_true_eq] at h
    subst h
    exact ⟨_, _, _, rfl⟩
  · cases h
end SS
/- SSR -/
section
set_option Elab.async false
set_option linter.all false
set_option maxRecDepth 100000
set_option maxHeartbeats 4000000
/-! Every expression that is checked does what the evaluator says. -/
namespace SS
open PySem PySem.Spec PyProof.Rows L2
theorem blt_mem {x : Str} (h : x ∈ bltNames) : x ≠ "__name__" ∧ (x == ("__debug__" : Str)) = false := by
  have : bltNames.all (fun x => decide (x ≠ "__name__") && !(x == ("__debug__" : Str))) = true := by decide +kernel
  have q := List.all_eq_true.mp this x h
  simp only [Bool.and_eq_true, decide_eq_true_eq, Bool.not_eq_true'] at q
  exact q
theorem mem_b1 (f : B1) : ((b1Name f : String) : Str) ∈ bltNames := by cases f <;> decide +kernel
theorem mem_ty (t : Ty) : ((tyName t : String) : Str) ∈ bltNames := by cases t <;> decide +kernel
theorem boot_ty (t : Ty) : bootBuiltins ((tyName t : String) : Str) = some (.type (tyName t)) := by cases t <;> decide +kernel
section
variable {I : Inf} {S : Fo}
/-- a value as a test, where its form has no test of its own -/
theorem sT_val {X : Cx} {W : XK} {e : Expr} {f : Sg → Mem → Rs Vl} (h : SE X W e f) (hp : plainTest e = true) : PT X e (rdT X.K W f) := st_val h (plainTest_ok hp)
theorem PE.imp' {X : Cx} {e : Expr} {t t' : TE} (h : PE X e t) (k : ∀ pins s σ H Q, Inv X pins σ H s → t' σ H Q → t σ H Q) : PE X e t' := ⟨fun pins s σ H Q I q => h.run pins s σ H Q I (k pins s σ H Q I q)⟩
/-- a if t else b, as a test -/
theorem st_ite {X : Cx} {W : XK} {c a b : Expr} {fc fa fb : Sg → Mem → Rs Vl} {pos : Pos} (hc : PT X c (rdT X.K W fc)) (ha : PT X a (rdT X.K W fa)) (hb : PT X b (rdT X.K W fb)) : PT X (.IfExp c a b pos)
    (rdT X.K W fun η m => (fc η m).bind fun x m1 => (Rs.opt m1 (boolV x)).bind fun k m2 => if k then fa η m2 else fb η m2) := by
  refine ⟨fun pins s σ H Q I ⟨w, η, m, rel, hA⟩ => ?_⟩
  show wpAny (model X.prog X.w) X.A (do if ← isTrue c X.env (eval c X.env) then isTrue a X.env (eval a X.env) else isTrue b X.env (eval b X.env)) _ X.xe s
  refine wpAny_bind (thn (hc.run pins s σ H (fun k H1 => if k = true then rdT X.K W fa σ H1 Q else rdT X.K W fb σ H1 Q) I ?_) fun k s1 ⟨H1, I1, q⟩ => ?_)
  · refine rd_bind (ExtE.refl w H) rel hA fun x m1 w1 u H1 e1 rel1 vx fx hA1 => ?_
    obtain ⟨k, hk, hA2⟩ := ans_opt hA1
    refine ⟨k, boolV_R vx hk, ?_⟩
    cases k with
    | true => rw [if_pos rfl] at hA2 ⊢; exact rd_go e1 rel1 hA2
    | false => simp only [Bool.false_eq_true, if_false] at hA2 ⊢; exact rd_go e1 rel1 hA2
  · cases k with
    | true => exact ha.run pins s1 σ H1 Q I1 q
    | false => exact hb.run pins s1 σ H1 Q I1 q
theorem stars_of {I : Inf} {N : List Str} : ∀ {ces : CEs} {sc : Scope} {es : List Expr}, chkEs I N ces sc es = true → es.all (fun e => !isStar e) = true
  | .nil, sc, es, h => by
    cases es with
    | nil => rfl
    | cons _ _ => simp [chkEs] at h
  | .cons a r, sc, es, h => by
    cases es with
    | nil => simp [chkEs] at h
    | cons x xs =>
      simp only [chkEs, Bool.and_eq_true] at h
      simp only [List.all_cons, Bool.and_eq_true]
      exact ⟨h.2.1, stars_of h.2.2⟩
theorem crv_sorted {X : Cx} (G : Gaps X) : CallR X (.builtin "sorted") (rUnC X.K fun m => b1V m .sorted) := by
  intro pins s σ H xs us Q I r h
  obtain ⟨u, rfl, w, η, m, σ', x, z, rel, vx, hz, k⟩ := h
  cases hz
theorem tgTup {N : List Str} {sc : Scope} {fn : Str → Bool} {t : Tg} {e : Expr} (h : chkTg N sc fn t e = true) (q : isTupE e = true) : ∃ is, t = .tup is := by
  cases t with
  | one i =>
    simp only [chkTg] at h
    unfold chkName at h
    split at h
    · cases q
    · cases h
  | tup is => exact ⟨_, rfl⟩
mutual
theorem sE : ∀ (ce : CE) {X : Cx} {W : XK} {e : Expr}, CokE I S X W → chkE I X.N ce X.env.scope e = true → SE X W e (den ce S)
  | .cint i, X, W, e, c, h => by
    simp only [chkE] at h
    split at h
    · simp only [decide_eq_true_eq] at h; subst h; exact se_int
    · cases h
  | .cbl b, X, W, e, c, h => by
    simp only [chkE] at h
    split at h
    · have h := eq_of_beq h; subst h; exact se_bl
    · cases h
  | .cnon, X, W, e, c, h => by
    simp only [chkE] at h
    split at h
    · exact se_non
    · cases h
  | .cstr s, X, W, e, c, h => by
    simp only [chkE] at h
    split at h
    · simp only [decide_eq_true_eq] at h; subst h; exact se_str
    · cases h
  | .var i, X, W, e, c, h => by
    simp only [chkE] at h
    split at h
    · simp only [Bool.and_eq_true, decide_eq_true_eq] at h
      exact se_var h.1 (visB_ok h.2.1) (okN_ok h.2.2).1 (okN_ok h.2.2).2.1
    · cases h
  | .gint x i, X, W, e, c, h => by
    simp only [chkE] at h
    split at h
    · simp only [Bool.and_eq_true, decide_eq_true_eq] at h
      obtain ⟨rfl, h2, h3, h4⟩ := h
      exact se_gint (glB_ok h2) (c.gin _ _ h4) (okN_ok h3).1
    · cases h
  | .gstr x i, X, W, e, c, h => by
    simp only [chkE] at h
    split at h
    · simp only [Bool.and_eq_true, decide_eq_true_eq] at h
      obtain ⟨rfl, h2, h3, h4⟩ := h
      exact se_gstr (glB_ok h2) (c.gst _ _ h4) (okN_ok h3).1
    · cases h
  | .bin op a b, X, W, e, c, h => by
    simp only [chkE] at h
    split at h
    · simp only [Bool.and_eq_true, decide_eq_true_eq] at h
      obtain ⟨rfl, h2, h3⟩ := h
      exact se_op2 (opv_bin (c.gaps X c.calm)) (sE a c h2) (sE b c h3)
    · cases h
  | .neg a, X, W, e, c, h => by
    simp only [chkE] at h
    split at h
    · exact se_neg (sE a c h)
    · cases h
  | .nt a, X, W, e, c, h => by
    simp only [chkE] at h
    split at h
    · exact se_not (sE a c h)
    · cases h
  | .and_ a r, X, W, e, c, h => by
    simp only [chkE] at h
    split at h
    · simp only [Bool.and_eq_true] at h
      exact se_and (sE a c h.1) (sE r c h.2)
    · cases h
  | .or_ a r, X, W, e, c, h => by
    simp only [chkE] at h
    split at h
    · simp only [Bool.and_eq_true] at h
      exact se_or (sE a c h.1) (sE r c h.2)
    · cases h
  | .one a, X, W, e, c, h => by
    simp only [chkE] at h
    split at h
    · exact pe_one (sE a c h)
    · cases h
  | .ite k a b, X, W, e, c, h => by
    simp only [chkE] at h
    split at h
    · simp only [Bool.and_eq_true] at h
      exact se_ite (sT k c h.1) (sE a c h.2.1) (sE b c h.2.2)
    · cases h
  | .cmp op a b, X, W, e, c, h => by
    simp only [chkE] at h
    split at h
    · simp only [Bool.and_eq_true, decide_eq_true_eq, Bool.not_eq_true'] at h
      obtain ⟨rfl, h2, h3, h4⟩ := h
      exact se_cmp c.un (sE a c h2) (sE b c h3) h4
    · cases h
  | .chain op op' a b d, X, W, e, c, h => by
    simp only [chkE] at h
    split at h
    · simp only [Bool.and_eq_true, decide_eq_true_eq, Bool.not_eq_true'] at h
      obtain ⟨rfl, rfl, h2, h3, h4, h5⟩ := h
      exact se_chain c.un (sE a c h2) (sE b c h3) (sE d c h4) h5
    · cases h
  | .tup es, X, W, e, c, h => by
    simp only [chkE] at h
    split at h
    · exact se_tup (sA es c h)
    · cases h
  | .lst es, X, W, e, c, h => by
    simp only [chkE] at h
    split at h
    · exact se_lst (sA es c h)
    · cases h
  | .call f es, X, W, e, c, h => by
    simp only [chkE] at h
    split at h
    · rename_i x p y ys pos
      simp only [Bool.and_eq_true, decide_eq_true_eq] at h
      obtain ⟨h1, h2, h3, h4⟩ := h
      obtain ⟨a, fd, ps, k, F, hl, hr, hm, hk, hb⟩ := c.call f x h1
      have hst := stars_of h4
      simp only [List.all_cons, Bool.and_eq_true, Bool.not_eq_true'] at hst
      exact se_call F hl hr (glB_ok h2) hm hk hb c.pass (sA es c h4) (okN_ok h3).1 hst.1 hst.2
    · cases h
  | .b1 f a, X, W, e, c, h => by
    simp only [chkE] at h
    split at h
    · simp only [Bool.and_eq_true, decide_eq_true_eq, Bool.not_eq_true'] at h
      obtain ⟨rfl, h2, h3, h4⟩ := h
      have G := c.gaps X c.calm
      have q := blt_mem (mem_b1 f)
      have hm := c.bl _ (mem_b1 f)
      cases f with
      | len => exact se_bf cr_len (glB_ok h2) hm (by decide +kernel) (sE a c h3) q.1 q.2 h4
      | tuple => exact se_bt cr_tuple (glB_ok h2) hm (by decide +kernel) (sE a c h3) q.1 q.2 h4
      | list => exact se_bt cr_list (glB_ok h2) hm (by decide +kernel) (sE a c h3) q.1 q.2 h4
      | sum => exact se_bf (crv_sum c.calm G) (glB_ok h2) hm (by decide +kernel) (sE a c h3) q.1 q.2 h4
      | min => exact se_bf (crv_min c.calm G) (glB_ok h2) hm (by decide +kernel) (sE a c h3) q.1 q.2 h4
      | max => exact se_bf (crv_max c.calm G) (glB_ok h2) hm (by decide +kernel) (sE a c h3) q.1 q.2 h4
      | all => exact se_bf (crv_all c.calm) (glB_ok h2) hm (by decide +kernel) (sE a c h3) q.1 q.2 h4
      | any => exact se_bf (crv_any c.calm) (glB_ok h2) hm (by decide +kernel) (sE a c h3) q.1 q.2 h4
      | sorted => exact se_bf (crv_sorted G) (glB_ok h2) hm (by decide +kernel) (sE a c h3) q.1 q.2 h4
    · cases h
  | .mm2 mx a b, X, W, e, c, h => by
    simp only [chkE] at h
    split at h
    · simp only [Bool.and_eq_true, decide_eq_true_eq, Bool.not_eq_true'] at h
      obtain ⟨rfl, h2, h3, h4, h5, h6⟩ := h
      cases mx with
      | true => exact se_bf2 (crv_mm2 c.calm true) (glB_ok h2) (c.bl _ (by decide +kernel)) (by decide +kernel) (sE a c h3) (sE b c h4) (by decide) (by decide) h5 h6
      | false => exact se_bf2 (crv_mm2 c.calm false) (glB_ok h2) (c.bl _ (by decide +kernel)) (by decide +kernel) (sE a c h3) (sE b c h4) (by decide) (by decide) h5 h6
    · cases h
  | .isi t a, X, W, e, c, h => by
    simp only [chkE] at h
    split at h
    · simp only [Bool.and_eq_true, decide_eq_true_eq, Bool.not_eq_true'] at h
      obtain ⟨rfl, h2, h3, h4, rfl, h6⟩ := h
      have q := blt_mem (mem_ty t)
      exact se_isi (glB_ok h2) (c.bl _ (by decide +kernel)) (by decide +kernel) (glB_ok h6) (c.bl _ (mem_ty t)) (boot_ty t) q.1 q.2 (sE a c h3) h4
    · cases h
  | .me f o a, X, W, e, c, h => by
    simp only [chkE] at h
    split at h
    · simp only [Bool.and_eq_true, decide_eq_true_eq, Bool.not_eq_true'] at h
      obtain ⟨rfl, rfl, h3, h4, h5, h6, h7⟩ := h
      exact se_count (c.gaps X c.calm) (superCall_ok h6) h7 (sE o c h3) (sE a c h4) h5
    · cases h
  | .ix a b, X, W, e, c, h => by
    simp only [chkE] at h
    split at h
    · simp only [Bool.and_eq_true] at h
      exact se_ix (sE a c h.1) (sE b c h.2.1) h.2.2
    · cases h
  | .sl a lo hi, X, W, e, c, h => by
    simp only [chkE] at h
    split at h
    · simp only [Bool.and_eq_true] at h
      exact se_sl (sE a c h.1) (sO lo c h.2.1) (sO hi c h.2.2)
    · cases h
  | .rev a, X, W, e, c, h => by
    simp only [chkE] at h
    split at h
    · simp only [Bool.and_eq_true] at h
      obtain ⟨k, p1, p2, rfl⟩ := is1_ok h.2
      exact se_rev (c.gaps X c.calm) (sE a c h.1)
    · cases h
  | .lc elt t it cond, X, W, e, c, h => by
    simp only [chkE] at h
    split at h
    · rename_i el tg iter ifs k scope pos
      simp only [Bool.and_eq_true, decide_eq_true_eq] at h
      obtain ⟨rfl, h1, h2, h3, h4, h5, h6, h7⟩ := h
      refine PE.imp (pe_lc c.calm c.nd (sI it (fs := false) c h1) (blkOk_by h3) (fun s H C cl fp => (show PG _ _ (tgG X.K t) from (ptg_ok (X := X.blk s H _ (compEnvC _ cl C X.env) fp) c.calm c.nd (fun x hx => hx) h2).1)) (fun s H C cl fp => (show PTs _ _ (rdB X.K E0 (denC cond S)) from sC cond (c.blk s H scope (compEnvC scope cl C X.env) fp) h5)) (fun s H C cl fp => (show PE _ _ (rdE X.K E0 (den elt S)) from sE elt (c.blk s H scope (compEnvC scope cl C X.env) fp) h6)) (notSet_ok h7 _)) fun σ H Q hq => ?_
      rw [h4]
      exact lc_rd (fun q => tgTup h2 q) hq
    · cases h
  | .rows i a, X, W, e, c, h => by
    simp only [chkE] at h
    split at h
    · rename_i l pl x' px' pc x px iter k scope pos
      simp only [Bool.and_eq_true, decide_eq_true_eq] at h
      obtain ⟨rfl, h1, h2, h3, rfl, rfl, h6, h7, h8, h9⟩ := h
      have hiN : X.N[i]? = some x' := by
        unfold chkName at h2
        simp only [Bool.and_eq_true, decide_eq_true_eq] at h2
        exact h2.1
      refine PE.imp' (pe_lc c.calm c.nd (si_seq (fs := false) (sE a c h1)) (blkOk_by h3) (fun s H C cl fp => pg_ok (X := X.blk s H _ (compEnvC _ cl C X.env) fp) c.nd (fun x hx => hx) h2)
        (fun s H C cl fp => pts_nil) (fun s H C cl fp => pe_callTy (r := rList X.K) call_list_of (glB_ok (X := X.blk s H _ (compEnvC _ cl C X.env) fp) h6) (c.bl _ (by decide +kernel)) (by decide +kernel) (pa_cons (pe_var (i := i) hiN (visB_ok h7) (okN_ok h8).1 (okN_ok h8).2.1) pa_nil)) (notSet_ok h9 _)) fun pins s σ H Q I hq => ?_
      exact rows_rd (by rw [I.len]; exact (List.getElem?_eq_some_iff.mp hiN).1) hq
    · cases h
  | .rng tp a, X, W, e, c, h => by
    simp only [chkE] at h
    split at h
    · simp only [Bool.and_eq_true, decide_eq_true_eq, Bool.not_eq_true'] at h
      obtain ⟨rfl, rfl, h2, h3, h4, h5⟩ := h
      cases tp with
      | true => exact se_rngT c.calm (glB_ok h2) (c.bl _ (by decide +kernel)) (glB_ok h3) (c.bl _ (by decide +kernel)) (sE a c h4) h5
      | false => exact se_rngL c.calm (glB_ok h2) (c.bl _ (by decide +kernel)) (glB_ok h3) (c.bl _ (by decide +kernel)) (sE a c h4) h5
    · cases h
theorem sT : ∀ (ce : CE) {X : Cx} {W : XK} {e : Expr}, CokE I S X W → chkE I X.N ce X.env.scope e = true → PT X e (rdT X.K W (den ce S))
  | .nt a, X, W, e, c, h => by
    simp only [chkE] at h
    split at h
    · exact st_not (sT a c h)
    · cases h
  | .cmp op a b, X, W, e, c, h => by
    simp only [chkE] at h
    split at h
    · simp only [Bool.and_eq_true, decide_eq_true_eq, Bool.not_eq_true'] at h
      obtain ⟨rfl, h2, h3, h4⟩ := h
      exact st_cmp c.un (sE a c h2) (sE b c h3) h4
    · cases h
  | .chain op op' a b d, X, W, e, c, h => by
    simp only [chkE] at h
    split at h
    · simp only [Bool.and_eq_true, decide_eq_true_eq, Bool.not_eq_true'] at h
      obtain ⟨rfl, rfl, h2, h3, h4, h5⟩ := h
      exact st_chain c.un (sE a c h2) (sE b c h3) (sE d c h4) h5
    · cases h
  | .and_ a r, X, W, e, c, h => by
    simp only [chkE] at h
    split at h
    · simp only [Bool.and_eq_true] at h
      exact (st_and (sT a c h.1) (sW r c h.2)).pt
    · cases h
  | .or_ a r, X, W, e, c, h => by
    simp only [chkE] at h
    split at h
    · simp only [Bool.and_eq_true] at h
      exact (st_or (sT a c h.1) (sW r c h.2)).pt
    · cases h
  | .one a, X, W, e, c, h => by
    simp only [chkE] at h
    split at h
    · exact (st_one (sT a c h)).pt
    · cases h
  | .var i, X, W, e, c, h => sT_val (sE (.var i) c h) (by
    simp only [chkE] at h
    split at h
    · rfl
    · cases h)
  | .cbl b, X, W, e, c, h => sT_val (sE (.cbl b) c h) (by
    simp only [chkE] at h
    split at h
    · rfl
    · cases h)
  | .call f es, X, W, e, c, h => sT_val (sE (.call f es) c h) (by
    simp only [chkE] at h
    split at h
    · rfl
    · cases h)
  | .b1 f es, X, W, e, c, h => sT_val (sE (.b1 f es) c h) (by
    simp only [chkE] at h
    split at h
    · rfl
    · cases h)
  | .isi f es, X, W, e, c, h => sT_val (sE (.isi f es) c h) (by
    simp only [chkE] at h
    split at h
    · rfl
    · cases h)
  | .ix f es, X, W, e, c, h => sT_val (sE (.ix f es) c h) (by
    simp only [chkE] at h
    split at h
    · rfl
    · cases h)
  | .cint i, X, W, e, c, h => sT_val (sE (.cint i) c h) (by
    simp only [chkE] at h
    split at h
    · rfl
    · cases h)
  | .cnon, X, W, e, c, h => sT_val (sE .cnon c h) (by
    simp only [chkE] at h
    split at h
    · rfl
    · cases h)
  | .cstr i, X, W, e, c, h => sT_val (sE (.cstr i) c h) (by
    simp only [chkE] at h
    split at h
    · rfl
    · cases h)
  | .gint x i, X, W, e, c, h => sT_val (sE (.gint x i) c h) (by
    simp only [chkE] at h
    split at h
    · rfl
    · cases h)
  | .gstr x i, X, W, e, c, h => sT_val (sE (.gstr x i) c h) (by
    simp only [chkE] at h
    split at h
    · rfl
    · cases h)
  | .bin op a b, X, W, e, c, h => sT_val (sE (.bin op a b) c h) (by
    simp only [chkE] at h
    split at h
    · rfl
    · cases h)
  | .neg a, X, W, e, c, h => sT_val (sE (.neg a) c h) (by
    simp only [chkE] at h
    split at h
    · rfl
    · cases h)
  | .ite k a b, X, W, e, c, h => by
    simp only [chkE] at h
    split at h
    · simp only [Bool.and_eq_true] at h
      exact st_ite (sT k c h.1) (sT a c h.2.1) (sT b c h.2.2)
    · cases h
  | .tup es, X, W, e, c, h => sT_val (sE (.tup es) c h) (by
    simp only [chkE] at h
    split at h
    · rfl
    · cases h)
  | .lst es, X, W, e, c, h => sT_val (sE (.lst es) c h) (by
    simp only [chkE] at h
    split at h
    · rfl
    · cases h)
  | .mm2 mx a b, X, W, e, c, h => sT_val (sE (.mm2 mx a b) c h) (by
    simp only [chkE] at h
    split at h
    · rfl
    · cases h)
  | .me f o a, X, W, e, c, h => sT_val (sE (.me f o a) c h) (by
    simp only [chkE] at h
    split at h
    · rfl
    · cases h)
  | .sl a lo hi, X, W, e, c, h => sT_val (sE (.sl a lo hi) c h) (by
    simp only [chkE] at h
    split at h
    · rfl
    · cases h)
  | .rev a, X, W, e, c, h => sT_val (sE (.rev a) c h) (by
    simp only [chkE] at h
    split at h
    · rfl
    · cases h)
  | .lc elt t it cond, X, W, e, c, h => sT_val (sE (.lc elt t it cond) c h) (by
    simp only [chkE] at h
    split at h
    · rfl
    · cases h)
  | .rows i a, X, W, e, c, h => sT_val (sE (.rows i a) c h) (by
    simp only [chkE] at h
    split at h
    · rfl
    · cases h)
  | .rng tp a, X, W, e, c, h => sT_val (sE (.rng tp a) c h) (by
    simp only [chkE] at h
    split at h
    · rfl
    · cases h)
theorem sW : ∀ (ce : CE) {X : Cx} {W : XK} {op : BoolOp} {x : Expr} {rest : List Expr} {p : Pos}, CokE I S X W → chkE I X.N ce X.env.scope (.BoolOp op (x :: rest) p) = true → PW X (.BoolOp op (x :: rest) p) (rdT X.K W (den ce S))
  | .one a, X, W, op, x, rest, p, c, h => by
    simp only [chkE] at h
    split at h
    · rename_i e1
      cases e1
      exact st_one (sT a c h)
    · cases h
  | .and_ a r, X, W, op, x, rest, p, c, h => by
    simp only [chkE] at h
    split at h
    · rename_i e1
      cases e1
      simp only [Bool.and_eq_true] at h
      exact st_and (sT a c h.1) (sW r c h.2)
    · cases h
  | .or_ a r, X, W, op, x, rest, p, c, h => by
    simp only [chkE] at h
    split at h
    · rename_i e1
      cases e1
      simp only [Bool.and_eq_true] at h
      exact st_or (sT a c h.1) (sW r c h.2)
    · cases h
  | .cint _, _, _, _, _, _, _, _, h => by simp [chkE] at h
  | .cbl _, _, _, _, _, _, _, _, h => by simp [chkE] at h
  | .cnon, _, _, _, _, _, _, _, h => by simp [chkE] at h
  | .cstr _, _, _, _, _, _, _, _, h => by simp [chkE] at h
  | .var _, _, _, _, _, _, _, _, h => by simp [chkE] at h
  | .gint _ _, _, _, _, _, _, _, _, h => by simp [chkE] at h
  | .gstr _ _, _, _, _, _, _, _, _, h => by simp [chkE] at h
  | .bin _ _ _, _, _, _, _, _, _, _, h => by simp [chkE] at h
  | .neg _, _, _, _, _, _, _, _, h => by simp [chkE] at h
  | .nt _, _, _, _, _, _, _, _, h => by simp [chkE] at h
  | .ite _ _ _, _, _, _, _, _, _, _, h => by simp [chkE] at h
  | .cmp _ _ _, _, _, _, _, _, _, _, h => by simp [chkE] at h
  | .chain _ _ _ _ _, _, _, _, _, _, _, _, h => by simp [chkE] at h
  | .tup _, _, _, _, _, _, _, _, h => by simp [chkE] at h
  | .lst _, _, _, _, _, _, _, _, h => by simp [chkE] at h
  | .call _ _, _, _, _, _, _, _, _, h => by simp [chkE] at h
  | .b1 _ _, _, _, _, _, _, _, _, h => by simp [chkE] at h
  | .mm2 _ _ _, _, _, _, _, _, _, _, h => by simp [chkE] at h
  | .isi _ _, _, _, _, _, _, _, _, h => by simp [chkE] at h
  | .me _ _ _, _, _, _, _, _, _, _, h => by simp [chkE] at h
  | .ix _ _, _, _, _, _, _, _, _, h => by simp [chkE] at h
  | .sl _ _ _, _, _, _, _, _, _, _, h => by simp [chkE] at h
  | .rev _, _, _, _, _, _, _, _, h => by simp [chkE] at h
  | .lc _ _ _ _, _, _, _, _, _, _, _, h => by simp [chkE] at h
  | .rows _ _, _, _, _, _, _, _, _, h => by simp [chkE] at h
  | .rng _ _, _, _, _, _, _, _, _, h => by simp [chkE] at h
theorem sA : ∀ (ces : CEs) {X : Cx} {W : XK} {es : List Expr}, CokE I S X W → chkEs I X.N ces X.env.scope es = true → SA X W es (dens ces S)
  | .nil, X, W, es, c, h => by
    simp only [chkEs] at h
    split at h
    · exact sa_nil
    · cases h
  | .cons a r, X, W, es, c, h => by
    simp only [chkEs] at h
    split at h
    · simp only [Bool.and_eq_true, Bool.not_eq_true'] at h
      exact sa_cons (sE a c h.1) (sA r c h.2.2) h.2.1
    · cases h
theorem sO : ∀ (co : CO) {X : Cx} {W : XK} {e : Option Expr}, CokE I S X W → chkO I X.N co X.env.scope e = true → PO X e (rdO X.K W (denO co S))
  | .no, X, W, e, c, h => by
    simp only [chkO] at h
    split at h
    · exact so_none
    · cases h
  | .yes a, X, W, e, c, h => by
    simp only [chkO] at h
    split at h
    · exact so_some (sE a c h)
    · cases h
theorem sC : ∀ (co : CO) {X : Cx} {W : XK} {e : List Expr}, CokE I S X W → chkC I X.N co X.env.scope e = true → PTs X e (rdB X.K W (denC co S))
  | .no, X, W, e, c, h => by
    simp only [chkC] at h
    split at h
    · exact sb_nil
    · cases h
  | .yes a, X, W, e, c, h => by
    simp only [chkC] at h
    split at h
    · exact sb_one (sT a c h)
    · cases h
theorem sI : ∀ (ci : CI) {X : Cx} {W : XK} {tg e : Expr} {fs : Bool}, CokE I S X W → chkI I X.N ci X.env.scope (isTupE tg || isNameE tg) (isTupE tg) e = true → SI fs X W tg e (denI fs ci S)
  | .seq a, X, W, tg, e, fs, c, h => si_seq (sE a c (by simpa only [chkI] using h))
  | .rng1 a, X, W, tg, e, fs, c, h => by
    simp only [chkI] at h
    split at h
    · simp only [Bool.and_eq_true, decide_eq_true_eq, Bool.not_eq_true'] at h
      obtain ⟨rfl, h2, h3, h4⟩ := h
      exact si_rng1 (glB_ok h2) (c.bl _ (by decide +kernel)) (sE a c h3) h4
    · cases h
  | .rng2 a b, X, W, tg, e, fs, c, h => by
    simp only [chkI] at h
    split at h
    · simp only [Bool.and_eq_true, decide_eq_true_eq, Bool.not_eq_true'] at h
      obtain ⟨rfl, h2, h3, h4, h5, h6⟩ := h
      exact si_rng2 (glB_ok h2) (c.bl _ (by decide +kernel)) (sE a c h3) (sE b c h5) h4 h6
    · cases h
  | .enum a, X, W, tg, e, fs, c, h => by
    simp only [chkI] at h
    split at h
    · simp only [Bool.and_eq_true, decide_eq_true_eq, Bool.not_eq_true'] at h
      obtain ⟨h0, rfl, h2, h3, h4⟩ := h
      exact si_enum (c.gaps X c.calm) h0 (glB_ok h2) (c.bl _ (by decide +kernel)) (sE a c h3) h4
    · cases h
  | .zip a b, X, W, tg, e, fs, c, h => by
    simp only [chkI] at h
    split at h
    · simp only [Bool.and_eq_true, decide_eq_true_eq, Bool.not_eq_true'] at h
      obtain ⟨h0, rfl, h2, h3, h4, h5, h6⟩ := h
      exact si_zip (c.gaps X c.calm) h0 (glB_ok h2) (c.bl _ (by decide +kernel)) (sE a c h3) (sE b c h5) h4 h6
    · cases h
end
end
end SS
end
/- SSS -/
section
set_option Elab.async false
set_option linter.all false
set_option maxRecDepth 100000
set_option maxHeartbeats 4000000
/-! Statements: the check, and what it gives. -/
namespace SS
open PySem PySem.Spec PyProof.Rows L2
def notComp : Expr → Bool
  | .ListComp _ _ _ _ => false
  | .SetComp _ _ _ _ => false
  | .DictComp _ _ _ _ _ => false
  | _ => true
/-- the stores of x = [..] are exchanged -/
def swB (v : Expr) (x : Str) (px : Pos) (sc : Scope) : Bool := match v with
  | .ListComp _ _ s _ => isLocal sc x && (px.line == v.pos.line && !(s.names.any fun (n, k) => n == x && (k == .local || k == .cell)))
  | _ => false
def isStarred : Expr → Bool
  | .Starred .. => true
  | _ => false
def swNames (ts : List Expr) (sc : Scope) : List Str := ts.filterMap fun
    | .Name id pos => if sc.names.lookup id == some .local && pos.line == (ts.head?.map (·.pos.line)).getD 0 then some id else none
    | _ => none
/-- as swappedStores -/
def swP (ts vs : List Expr) (sc : Scope) : Option (Option (List Str)) :=
  if (!(ts.length == 2 || ts.length == 3) || vs.length != ts.length) = true then some none else
  if vs.any isStarred = true then some none else
  if ((swNames ts sc).length != ts.length || (swNames ts sc).eraseDups.length != (swNames ts sc).length) = true then some none else
  if vs.all (foldedForSure 8) = true then some none else
  if vs.all (constantsAlone 8) = true then none else
  some (some (swNames ts sc))
theorem blk_fn {env : PySem.Env} (hk : env.scope.kind = .function) : env.blockKind = .function := by unfold Env.blockKind; rw [hk]; rfl
theorem swP_ok {ts vs : List Expr} {env : PySem.Env} {r : Option (List Str)} {k k2 : Nat} {p p2 : Pos} (hk : env.scope.kind = .function) (h : swP ts vs env.scope = some r) : swappedStores [.Tuple ts k p] (.Tuple vs k2 p2) env = pure r := by
  have hb := blk_fn hk
  unfold swP at h
  unfold swappedStores
  have e1 : (vs.any fun | .Starred .. => true | _ => false) = vs.any isStarred := by
    congr 1
  simp only [hb]
  split at h
  · rename_i c
    cases h
    simp only [c, Bool.true_or, if_true]
  · rename_i c
    have c : (!(ts.length == 2 || ts.length == 3) || vs.length != ts.length) = false := by simpa using c
    simp only [c, Bool.false_or, bne_self_eq_false, Bool.false_eq_true, if_false]
    split at h
    · rename_i d
      cases h
      exact if_pos (e1.trans d)
    · rename_i d
      refine (if_neg (fun q => d (e1.symm.trans q))).trans ?_
      split at h
      · rename_i f
        cases h
        exact if_pos f
      · rename_i f
        refine (if_neg f).trans ?_
        split at h
        · rename_i g
          cases h
          exact if_pos g
        · rename_i g
          refine (if_neg g).trans ?_
          split at h
          · cases h
          · rename_i j
            cases h
            exact if_neg j

def chkVar (N : List Str) (sc : Scope) (i : Nat) (e : Expr) : Bool := match e with
  | .Name x _ => decide (N[i]? = some x) && (visB sc x && okN x)
  | _ => false
def chkPar (N : List Str) (sc : Scope) : List Nat → List Expr → List Str → Bool
  | [i, j], [.Name x _, .Name y _], ns => decide (N[i]? = some x) && (decide (N[j]? = some y) && (decide (i ≠ j) && (isLocal sc x && (isLocal sc y && decide (ns = [x, y])))))
  | [i, j, l], [.Name x _, .Name y _, .Name z _], ns => decide (N[i]? = some x) && (decide (N[j]? = some y) && (decide (N[l]? = some z) && (decide (i ≠ j) && (decide (i ≠ l) && (decide (j ≠ l) && (isLocal sc x && (isLocal sc y && (isLocal sc z && decide (ns = [x, y, z])))))))))
  | _, _, _ => false
def isAS : Operator → Bool
  | .Add => true
  | .Sub => true
  | _ => false
def meName : CS → Str
  | .app _ _ => "append"
  | .ext _ _ => "extend"
  | _ => "remove"
def chkMe (I : Inf) (N : List Str) (nm : Str) (i : Nat) (e : CE) (sc : Scope) (st : Stmt) : Bool := match st with
  | .Expr (.Call (.Attribute o m ap) [y] [] p) _ => decide (m = nm) && (chkVar N sc i o && (chkE I N e sc y && (!isStar y && (ap.endLine == p.line))))
  | _ => false
mutual
def chkS (I : Inf) (N : List Str) : CS → Scope → Stmt → Bool
  | .asg i e, sc, st => (match st with
    | .Assign [.Name x px] v _ => chkName N sc (fun _ => true) i (.Name x px) && (chkE I N e sc v && (notComp v || (match v with
      | .ListComp _ [⟨_, _, _, k⟩] _ _ => decide (k = 0) && ((isLocal sc x && swB v x px sc) || !swB v x px sc)
      | _ => false)))
    | _ => false)
  | .asgT is e, sc, st => (match st with
    | .Assign [.Tuple ts kt pt] v _ => chkTg N sc (fun _ => true) (.tup is) (.Tuple ts kt pt) && (chkE I N e sc v && (notComp v && (match v with
      | .Tuple _ _ _ => false
      | _ => true)))
    | _ => false)
  | .par is es, sc, st => (match st with
    | .Assign [.Tuple ts kt pt] (.Tuple vs _ _) _ => chkEs I N es sc vs && (match swP ts vs sc with
      | some none => chkTg N sc (fun _ => true) (.tup is) (.Tuple ts kt pt) && decide (is.length ≤ 10)
      | some (some ns) => chkPar N sc is ts ns
      | none => false)
    | _ => false)
  | .mv i j, sc, st => (match st with
    | .Assign [.Name x px] v _ => chkName N sc (fun _ => true) i (.Name x px) && chkVar N sc j v
    | _ => false)
  | .aug i op e, sc, st => (match st with
    | .AugAssign (.Name x px) o v _ => chkName N sc (fun _ => true) i (.Name x px) && (decide (op = o) && (isAS op && chkE I N e sc v))
    | _ => false)
  | .aug1 i a op e, sc, st => (match st with
    | .AugAssign (.Subscript o k _) op' v _ => chkVar N sc i o && (chkE I N a sc k && (isPlainIx k && (decide (op = op') && (isAS op && chkE I N e sc v))))
    | _ => false)
  | .aug2 i a b op e, sc, st => (match st with
    | .AugAssign (.Subscript (.Subscript o k _) l _) op' v _ => chkVar N sc i o && (chkE I N a sc k && (isPlainIx k && (chkE I N b sc l && (isPlainIx l && (decide (op = op') && (isAS op && chkE I N e sc v))))))
    | _ => false)
  | .app i e, sc, st => chkMe I N "append" i e sc st
  | .ext i e, sc, st => chkMe I N "extend" i e sc st
  | .rem i e, sc, st => chkMe I N "remove" i e sc st
  | .ex e, sc, st => (match st with
    | .Expr v _ => chkE I N e sc v && notComp v
    | _ => false)
  | .ret e, sc, st => (match st with
    | .Return (some v) _ => chkE I N e sc v
    | _ => false)
  | .retv i, sc, st => (match st with
    | .Return (some v) _ => chkVar N sc i v
    | _ => false)
  | .ifs c a b, sc, st => (match st with
    | .If t x y _ => chkE I N c sc t && (chkSs I N a sc x && chkSs I N b sc y)
    | _ => false)
  | .for_ t it body, sc, st => (match st with
    | .For tg iter b [] _ => chkI I N it sc (isTupE tg || isNameE tg) (isTupE tg) iter && (chkTg N sc (fun _ => true) t tg && (chkSs I N body sc b && notSet iter))
    | _ => false)
  | .whl c body, sc, st => (match st with
    | .While t b [] _ => chkE I N c sc t && chkSs I N body sc b
    | _ => false)
  | .rais c, sc, st => (match st with
    | .Raise (some (.Call (.Name x _) [.Constant (.str _) _ _] [] _)) none _ => decide (x = c) && (glB sc x && (okN x && decide (x ∈ I.excs)))
    | _ => false)
  | .frz _, _, _ => false
  | .cel _, _, _ => false
  | .wip _, _, _ => false
  | .never, _, _ => true
def chkSs (I : Inf) (N : List Str) : CSs → Scope → List Stmt → Bool
  | .nil, _, sts => (match sts with
    | [] => true
    | _ => false)
  | .cons a r, sc, sts => (match a with
    | .frz _ => chkSs I N r sc sts
    | .cel _ => chkSs I N r sc sts
    | .wip _ => chkSs I N r sc sts
    | _ => (match sts with
      | st :: rest => chkS I N a sc st && chkSs I N r sc rest
      | [] => false))
end
/-- what statements lean on -/
structure CokS (I : Inf) (S : Fo) (X : Cx) (W : XK) : Prop extends CokE I S X W where
  own : PassesOwn (model X.prog X.w) X.A X.env X.xe
  fn : ∀ x, X.fn x = true
  kind : X.env.scope.kind = .function
  rais : ∀ c ∈ I.excs, ∀ (m : Str) (j : Nat) (p p2 pos pos' : Pos), Gl X c → PS X (.Raise (some (.Call (.Name c p) [.Constant (.str m) j p2] [] pos)) none pos') (fun _ σ H => W (.ref (He.ga X.K c)) none H)
section
variable {I : Inf} {S : Fo}
theorem PS.imp' {X : Cx} {st : Stmt} {t t' : TS} (h : PS X st t) (k : ∀ pins s D σ H, Inv X pins σ H s → t' D σ H → t D σ H) : PS X st t' := ⟨fun pins s σ H D I q => h.run pins s σ H D I (k pins s D σ H I q)⟩
theorem notComp_ok {v : Expr} {t : Option Expr} {l : Nat} {env : PySem.Env} (h : notComp v = true) : swapsWith v t l env = pure false := by
  cases v <;> first | rfl | simp [notComp] at h
theorem pv_ok {X : Cx} {i : Nat} {e : Expr} (h : chkVar X.N X.env.scope i e = true) : PE X e (tVar i) ∧ ∃ x p, e = .Name x p := by
  unfold chkVar at h
  split at h
  · simp only [Bool.and_eq_true, decide_eq_true_eq] at h
    exact ⟨pe_var h.1 (visB_ok h.2.1) (okN_ok h.2.2).1 (okN_ok h.2.2).2.1, _, _, rfl⟩
  · cases h
/-- a comprehension set to a local name, with the stores exchanged -/
theorem ps_lc {ce : CE} {X : Cx} {W : XK} {i : Nat} {y : Str} {py pos spos : Pos} {elt : Expr} {tg iter : Expr} {ifs : List Expr} {k : Nat} {scope : Scope} (c : CokE I S X W) (hk : X.env.scope.kind = .function)
    (hy : X.N[i]? = some y) (hyl : isLocal X.env.scope y = true) (hsw : swB (.ListComp elt [⟨tg, iter, ifs, 0⟩] scope pos) y py X.env.scope = true) (h : chkE I X.N ce X.env.scope (.ListComp elt [⟨tg, iter, ifs, 0⟩] scope pos) = true) :
    PS X (.Assign [.Name y py] (.ListComp elt [⟨tg, iter, ifs, 0⟩] scope pos) spos) (tAsg (rdE X.K W (den ce S)) (gName i)) := by
  have hsw' : swapsWith (.ListComp elt [⟨tg, iter, ifs, 0⟩] scope pos) (some (.Name y py)) spos.line X.env = pure true := by
    unfold swB at hsw
    simp only [Bool.and_eq_true, Bool.not_eq_true'] at hsw
    exact sw_true hk (isLocal_ok hyl) hsw.2.1 hsw.2.2
  cases ce with
  | lc elt' t it cond =>
    simp only [chkE, Bool.and_eq_true, decide_eq_true_eq] at h
    obtain ⟨_, h1, h2, h3, h4, h5, h6, h7⟩ := h
    refine PS.imp (ps_setLc c.calm c.nd hy (isLocal_ok hyl) hsw' (sI it (fs := false) c h1) (blkOk_by h3) (fun s H C cl fp => (show PG _ _ (tgG X.K t) from (ptg_ok (X := X.blk s H _ (compEnvC _ cl C X.env) fp) c.calm c.nd (fun x hx => hx) h2).1))
      (fun s H C cl fp => (show PTs _ _ (rdB X.K E0 (denC cond S)) from sC cond (c.blk s H scope (compEnvC scope cl C X.env) fp) h5)) (fun s H C cl fp => (show PE _ _ (rdE X.K E0 (den elt' S)) from sE elt' (c.blk s H scope (compEnvC scope cl C X.env) fp) h6)) (notSet_ok h7 _)) fun D σ H hq => ?_
    show tLc _ _ _ _ _ _ _ _
    rw [h4]
    exact lc_rd (fun q => tgTup h2 q) hq
  | rows j a =>
    simp only [chkE] at h
    split at h
    · rename_i e1
      cases e1
      simp only [Bool.and_eq_true, decide_eq_true_eq] at h
      obtain ⟨_, h1, h2, h3, rfl, rfl, h6, h7, h8, h9⟩ := h
      have hiN := h2
      unfold chkName at hiN
      simp only [Bool.and_eq_true, decide_eq_true_eq] at hiN
      have hiN := hiN.1
      refine PS.imp' (ps_setLc c.calm c.nd hy (isLocal_ok hyl) hsw' (si_seq (fs := false) (sE a c h1)) (blkOk_by h3) (fun s H C cl fp => pg_ok (X := X.blk s H _ (compEnvC _ cl C X.env) fp) c.nd (fun x hx => hx) h2)
        (fun s H C cl fp => pts_nil) (fun s H C cl fp => pe_callTy (r := rList X.K) call_list_of (glB_ok (X := X.blk s H _ (compEnvC _ cl C X.env) fp) h6) (c.bl _ (by decide +kernel)) (by decide +kernel) (pa_cons (pe_var (i := j) hiN (visB_ok h7) (okN_ok h8).1 (okN_ok h8).2.1) pa_nil)) (notSet_ok h9 _)) fun pins s D σ H I hq => ?_
      exact rows_rd (by rw [I.len]; exact (List.getElem?_eq_some_iff.mp hiN).1) hq
    · cases h
  | _ => simp [chkE] at h
theorem sw_false {elt : Expr} {gs : List Comprehension} {scope : Scope} {pos py : Pos} {y : Str} {l : Nat} {env : PySem.Env} (hk : env.scope.kind = .function) (h : swB (.ListComp elt gs scope pos) y py env.scope = false) : swapsWith (.ListComp elt gs scope pos) (some (.Name y py)) l env = pure false := by
  have hb := blk_fn hk
  unfold swapsWith
  unfold swB at h
  have e : (env.blockKind == .function && env.kindOf y == some .local && py.line == (Expr.ListComp elt gs scope pos).pos.line && !(scope.names.any fun (n, k) => n == y && (k == .local || k == .cell))) = false := by
    rw [hb]
    have : (env.kindOf y == some .local) = isLocal env.scope y := by
      show (env.scope.names.lookup y == some .local) = _
      unfold isLocal
      cases env.scope.names.lookup y with
      | none => rfl
      | some k => cases k <;> rfl
    rw [this]
    have t : ((ScopeKind.function == ScopeKind.function) = true) := by decide
    rw [t, Bool.true_and, Bool.and_assoc]
    exact h
  exact congrArg pure e
theorem isAS_ok {op : Operator} {X : Cx} (h : isAS op = true) : ∃ f : Int → Int → Int, ((op = .Add ∧ f = fun i j => i + j) ∨ (op = .Sub ∧ f = fun i j => i - j)) ∧ PIp X op (ipI f) := by
  cases op <;> first | (simp [isAS] at h; done) | skip
  · exact ⟨_, .inl ⟨rfl, rfl⟩, ip_add⟩
  · exact ⟨_, .inr ⟨rfl, rfl⟩, ip_sub⟩
theorem augStore_ok {k : Expr} (h : isPlainIx k = true) : ∀ ov iv new, augStore k ov iv new = (do holding [new, ov, iv] (setItem ov iv new); release [new, ov, iv] []; pure .next) := by
  intro ov iv new
  cases k <;> first | rfl | simp [isPlainIx] at h
theorem ps_me {e : CE} {X : Cx} {W : XK} {nm : Str} {id : String} {i : Nat} {st : Stmt} {r : V → List V → Hp → VK → Prop} (c : CokE I S X W) (slot : Slot "list" nm id) (hty : typeOf (.builtin id) = pure (.type "method_descriptor")) (hm : MtR X id r) (h : chkMe I X.N nm i e X.env.scope st = true) :
    PS X st (tDrop (tBM X.K "list" r (tVar i) (tCons (rdE X.K W (den e S)) tNil))) := by
  unfold chkMe at h
  split at h
  · rename_i o m ap y p sp
    simp only [Bool.and_eq_true, decide_eq_true_eq, Bool.not_eq_true'] at h
    obtain ⟨rfl, h2, h3, h4, h5⟩ := h
    obtain ⟨hv, x, px, rfl⟩ := pv_ok h2
    have st := star_ok (es := []) (env := X.env) h4
    refine ps_expr (pe_bm PySem.F.plainAttrs_list slot hty hm hv (pa_cons (sE e c h3) pa_nil st) rfl ?_ h5 st ?_)
    · rw [st]; rfl
    · rfl
  · cases h
mutual
theorem sS : ∀ (cs : CS) {X : Cx} {W : XK} {st : Stmt}, CokS I S X W → chkS I X.N cs X.env.scope st = true → SS_ X W st (denS cs S)
  | .asg i e, X, W, st, c, h => by
    simp only [chkS] at h
    split at h
    · rename_i x px v pos
      simp only [Bool.and_eq_true, Bool.or_eq_true] at h
      obtain ⟨h1, h2, h3⟩ := h
      simp only [chkName, Bool.and_eq_true, decide_eq_true_eq] at h1
      refine ss_asg ?_
      rcases h3 with h3 | h3
      · exact ps_set c.nd h1.1 (locB_ok h1.2.1) (sE e c.toCokE h2) (notComp_ok h3) (.inl (c.fn x))
      · split at h3
        · simp only [Bool.and_eq_true, decide_eq_true_eq] at h3
          obtain ⟨rfl, h4⟩ := h3
          simp only [Bool.or_eq_true, Bool.and_eq_true, Bool.not_eq_true'] at h4
          rcases h4 with ⟨h4, h5⟩ | h4
          · exact ps_lc (k := 0) c.toCokE c.kind h1.1 h4 h5 h2
          · exact ps_set c.nd h1.1 (locB_ok h1.2.1) (sE e c.toCokE h2) (sw_false c.kind h4) (.inl (c.fn x))
        · cases h3
    · cases h
  | .asgT is e, X, W, st, c, h => by
    simp only [chkS] at h
    split at h
    · rename_i ts kt pt v pos
      simp only [Bool.and_eq_true] at h
      obtain ⟨h1, h2, h3, h4⟩ := h
      have hw : swappedStores [.Tuple ts kt pt] v X.env = pure none := by
        cases v <;> first | rfl | (simp at h4; done)
      exact ss_asgT (ps_asg (sE e c.toCokE h2) (ptg_ok c.calm c.nd (fun x _ => c.fn x) h1).1 (show swapsWith v (some (.Tuple ts kt pt)) pos.line X.env = pure false from notComp_ok h3) hw)
    · cases h
  | .par is es, X, W, st, c, h => by
    simp only [chkS] at h
    split at h
    · rename_i ts kt pt vs k2 p2 pos
      simp only [Bool.and_eq_true] at h
      obtain ⟨h1, h2⟩ := h
      split at h2
      · rename_i hsw
        simp only [Bool.and_eq_true, decide_eq_true_eq] at h2
        exact ss_parT (ps_asg (pe_tupF (sA es c.toCokE h1)) (ptg_ok c.calm c.nd (fun x _ => c.fn x) h2.1).1 rfl (swP_ok c.kind hsw)) h2.2
      · rename_i ns hsw
        unfold chkPar at h2
        split at h2
        · simp only [Bool.and_eq_true, decide_eq_true_eq] at h2
          obtain ⟨a1, a2, a3, a4, a5, rfl⟩ := h2
          have hw := swP_ok (k := kt) (p := pt) (k2 := k2) (p2 := p2) c.kind hsw
          have hl : vs.length = 2 := by
            unfold swP at hsw
            split at hsw
            · cases hsw
            · rename_i q; simp at q; exact q
          match vs, hl with
          | [a, b], _ => exact ss_par2 (ps_par c.calm c.nd a1 a2 a3 (isLocal_ok a4) (isLocal_ok a5) (sA es c.toCokE h1) hw)
        · simp only [Bool.and_eq_true, decide_eq_true_eq] at h2
          obtain ⟨a1, a2, a3, a4, a5, a6, a7, a8, a9, rfl⟩ := h2
          have hw := swP_ok (k := kt) (p := pt) (k2 := k2) (p2 := p2) c.kind hsw
          have hl : vs.length = 3 := by
            unfold swP at hsw
            split at hsw
            · cases hsw
            · rename_i q; simp at q; exact q
          match vs, hl with
          | [a, b, d], _ => exact ss_par3 (ps_par3 c.calm c.nd a1 a2 a3 a4 a5 a6 (isLocal_ok a7) (isLocal_ok a8) (isLocal_ok a9) (sA es c.toCokE h1) hw)
        · cases h2
      · cases h2
    · cases h
  | .mv i j, X, W, st, c, h => by
    simp only [chkS] at h
    split at h
    · rename_i x px v pos
      simp only [Bool.and_eq_true] at h
      obtain ⟨h1, h2⟩ := h
      simp only [chkName, Bool.and_eq_true, decide_eq_true_eq] at h1
      obtain ⟨hv, y, py, rfl⟩ := pv_ok h2
      exact ss_mv (ps_set c.nd h1.1 (locB_ok h1.2.1) hv rfl (.inl (c.fn x)))
    · cases h
  | .aug i op e, X, W, st, c, h => by
    simp only [chkS] at h
    split at h
    · rename_i x px o v pos
      simp only [Bool.and_eq_true, decide_eq_true_eq] at h
      obtain ⟨h1, rfl, h3, h4⟩ := h
      simp only [chkName, Bool.and_eq_true, decide_eq_true_eq] at h1
      obtain ⟨f, hf, hp⟩ := isAS_ok (X := X) h3
      have hq := ps_aug (X := X) (pos' := px) (pos := pos) c.nd h1.1 (locB_ok h1.2.1) (sE e c.toCokE h4) hp (.inl (c.fn x))
      rcases hf with ⟨rfl, rfl⟩ | ⟨rfl, rfl⟩
      · exact ss_aug (.inl ⟨rfl, rfl⟩) hq
      · exact ss_aug (.inr ⟨rfl, rfl⟩) hq
    · cases h
  | .aug1 i a op e, X, W, st, c, h => by
    simp only [chkS] at h
    split at h
    · simp only [Bool.and_eq_true, decide_eq_true_eq] at h
      obtain ⟨h1, h2, h3, rfl, h5, h6⟩ := h
      obtain ⟨hv, y, py, rfl⟩ := pv_ok h1
      obtain ⟨f, hf, hp⟩ := isAS_ok (X := X) h5
      exact ss_aug1 hf (ps_augS hv (sE a c.toCokE h2) get_list (sE e c.toCokE h6) hp set_list (augStore_ok h3))
    · cases h
  | .aug2 i a b op e, X, W, st, c, h => by
    simp only [chkS] at h
    split at h
    · simp only [Bool.and_eq_true, decide_eq_true_eq] at h
      obtain ⟨h1, h2, h3, h4, h5, rfl, h6, h7⟩ := h
      obtain ⟨hv, y, py, rfl⟩ := pv_ok h1
      obtain ⟨f, hf, hp⟩ := isAS_ok (X := X) h6
      exact ss_aug2 hf (ps_augS (pe_ix ix_list hv (sE a c.toCokE h2) (plainIx_ok h3)) (sE b c.toCokE h4) get_list (sE e c.toCokE h7) hp set_list (augStore_ok h5))
    · cases h
  | .app i e, X, W, st, c, h => by
    simp only [chkS] at h
    exact ss_app (ps_me c.toCokE PySem.F.slot_list_append PySem.F.type_list_append mt_append h)
  | .ext i e, X, W, st, c, h => by
    simp only [chkS] at h
    exact ss_ext (ps_me c.toCokE PySem.F.slot_list_extend PySem.F.type_list_extend mt_extend h)
  | .rem i e, X, W, st, c, h => by
    simp only [chkS] at h
    exact ss_rem (ps_me c.toCokE PySem.F.slot_list_remove PySem.F.type_list_remove mt_remove h)
  | .ex e, X, W, st, c, h => by
    simp only [chkS] at h
    split at h
    · simp only [Bool.and_eq_true] at h
      exact ss_ex (sE e c.toCokE h.1) (notComp_ok h.2)
    · cases h
  | .ret e, X, W, st, c, h => by
    simp only [chkS] at h
    split at h
    · exact ss_ret (sE e c.toCokE h)
    · cases h
  | .retv i, X, W, st, c, h => by
    simp only [chkS] at h
    split at h
    · exact ss_retv (pv_ok h).1
    · cases h
  | .ifs k a b, X, W, st, c, h => by
    simp only [chkS] at h
    split at h
    · simp only [Bool.and_eq_true] at h
      exact ss_if (sT k c.toCokE h.1) (sSs a c h.2.1) (sSs b c h.2.2)
    · cases h
  | .for_ t it body, X, W, st, c, h => by
    simp only [chkS] at h
    split at h
    · simp only [Bool.and_eq_true] at h
      obtain ⟨h1, h2, h3, h4⟩ := h
      exact ss_for c.own c.calm (sI it c.toCokE h1) (fun q => tgTup h2 q) (ptg_ok c.calm c.nd (fun x _ => c.fn x) h2).1 (sSs body c h3) (notSet_ok h4 _)
    · cases h
  | .whl k body, X, W, st, c, h => by
    simp only [chkS] at h
    split at h
    · simp only [Bool.and_eq_true] at h
      exact ss_while c.own (sT k c.toCokE h.1) (sSs body c h.2) _
    · cases h
  | .rais k, X, W, st, c, h => by
    simp only [chkS] at h
    split at h
    · simp only [Bool.and_eq_true, decide_eq_true_eq] at h
      obtain ⟨rfl, h2, h3, h4⟩ := h
      exact ss_raise (c.rais _ h4 _ _ _ _ _ _ (glB_ok h2))
    · cases h
  | .frz i, X, W, st, c, h => by simp [chkS] at h
  | .cel i, X, W, st, c, h => by simp [chkS] at h
  | .wip i, X, W, st, c, h => by simp [chkS] at h
  | .never, X, W, st, c, h => ss_never
theorem sSs : ∀ (cs : CSs) {X : Cx} {W : XK} {sts : List Stmt}, CokS I S X W → chkSs I X.N cs X.env.scope sts = true → SSs X W sts (denSs cs S)
  | .nil, X, W, sts, c, h => by
    simp only [chkSs] at h
    split at h
    · exact ss_nil
    · cases h
  | .cons a r, X, W, sts, c, h => by
    simp only [chkSs] at h
    split at h
    · exact ss_frz (sSs r c h)
    · exact ss_cel (sSs r c h)
    · exact ss_wip (sSs r c h)
    · split at h
      · simp only [Bool.and_eq_true] at h
        exact ss_cons (sS a c h.1) (sSs r c h.2)
      · cases h
end
end
end SS
end
/- SST -/
section
set_option Elab.async false
set_option linter.all false
set_option maxRecDepth 100000
set_option maxHeartbeats 4000000
/-! Defs: each keeps the evaluator's promise. -/
namespace SS
open PySem PySem.Spec PyProof.Rows L2
def plainArgs (p : Arguments) : Bool := p.posonlyargs.isEmpty && (p.vararg.isNone && (p.kwonlyargs.isEmpty && p.kwarg.isNone))
def argNames (p : Arguments) : List Str := p.args.map (·.arg)
theorem lookup_zip {ps : List Str} {us : List Value} : ∀ (_ : ps.Nodup) (_ : us.length = ps.length), ps.filterMap (fun n => ((ps.zip us).lookup n).map (n, ·)) = ps.zip us := by
  have gen : ∀ (qs : List Str) (vs : List Value) (n : Str), qs.Nodup → vs.length = qs.length → ∀ (i : Nat) (v : Value), qs[i]? = some n → vs[i]? = some v → (qs.zip vs).lookup n = some v := by
    intro qs
    induction qs with
    | nil => intro vs n _ _ i v h; simp at h
    | cons q qs ih =>
      intro vs n nd hl i v h1 h2
      cases vs with
      | nil => simp at hl
      | cons w ws =>
        cases i with
        | zero => simp at h1 h2; subst h1; subst h2; simp [List.lookup]
        | succ i =>
          have h1' : qs[i]? = some n := by simpa using h1
          have hne : n ≠ q := by
            rintro rfl
            exact (List.nodup_cons.mp nd).1 (List.mem_of_getElem? h1')
          have : (n == q) = false := by simpa using hne
          simp only [List.zip_cons_cons, List.lookup, this]
          exact ih ws n (List.nodup_cons.mp nd).2 (by simpa using hl) i v h1' (by simpa using h2)
  intro nd hl
  have aux : ∀ (as : List Str) (bs : List Value), bs.length = as.length → (∀ (i : Nat) (n : Str) (v : Value), as[i]? = some n → bs[i]? = some v → (ps.zip us).lookup n = some v) → as.filterMap (fun n => ((ps.zip us).lookup n).map (n, ·)) = as.zip bs := by
    intro as
    induction as with
    | nil => intro bs _ _; cases bs <;> rfl
    | cons a as ih =>
      intro bs hl h
      cases bs with
      | nil => simp at hl
      | cons b bs =>
        have h0 := h 0 a b rfl rfl
        rw [List.filterMap_cons, h0]
        simp only [Option.map_some, List.zip_cons_cons]
        congr 1
        exact ih bs (by simpa using hl) fun i n v q1 q2 => h (i + 1) n v (by simpa using q1) (by simpa using q2)
  exact aux ps us hl fun i n v q1 q2 => gen ps us n nd hl i v q1 q2
theorem miss_zip {ps : List Str} {us : List Value} (nd : ps.Nodup) (hl : us.length = ps.length) : (ps.filter fun n => ((ps.zip us).lookup n).isNone) = [] := by
  have h := lookup_zip nd hl
  rw [List.filter_eq_nil_iff]
  intro n hn q
  have hlen : (ps.filterMap (fun n => ((ps.zip us).lookup n).map (n, ·))).length = ps.length := by rw [h]; simp [hl]
  have : ∀ (as : List Str), (as.filterMap (fun n => ((ps.zip us).lookup n).map (n, ·))).length = as.length → ∀ n ∈ as, ((ps.zip us).lookup n).isSome := by
    intro as
    induction as with
    | nil => intro _ n hn; cases hn
    | cons a as ih =>
      intro e n hn
      have lele : (as.filterMap (fun n => ((ps.zip us).lookup n).map (n, ·))).length ≤ as.length := List.length_filterMap_le _ _
      rw [List.filterMap_cons] at e
      cases ha : (ps.zip us).lookup a with
      | none =>
        rw [ha] at e
        simp only [Option.map_none, List.length_cons] at e
        omega
      | some v =>
        rw [ha] at e
        simp only [Option.map_some, List.length_cons, Nat.add_right_cancel_iff] at e
        rcases List.mem_cons.mp hn with rfl | hn
        · rw [ha]; rfl
        · exact ih e n hn
  have z := this ps hlen n hn
  cases hq : (ps.zip us).lookup n with
  | none => rw [hq] at z; cases z
  | some v => rw [hq] at q; cases q
theorem bind_plain {x qual : Str} {p : Arguments} {body : List Stmt} {scope : Scope} {kV doc pm : Value} {an : Option Addr} {cdv ct : Value} {us : List Value} (hp : plainArgs p = true) (nd : (argNames p).Nodup) (hl : us.length = (argNames p).length) :
    bindArgs (PySem.W.fnOf x qual p body scope .none kV doc pm an cdv ct) ⟨us, []⟩ = pure ((argNames p).zip us) := by
  unfold plainArgs at hp
  simp only [Bool.and_eq_true] at hp
  obtain ⟨h1, h2, h3, h4⟩ := hp
  obtain ⟨po, as, va, ko, kd, kw, df⟩ := p
  simp only [List.isEmpty_iff] at h1 h3
  subst h1; subst h3
  cases va with
  | some _ => cases h2
  | none =>
    cases kw with
    | some _ => cases h4
    | none =>
      have e1 := miss_zip (ps := as.map Arg.arg) (us := us) nd hl
      have e2 := lookup_zip (ps := as.map Arg.arg) (us := us) nd hl
      have hl' : us.length = as.length := by simpa [argNames] using hl
      unfold bindArgs
      have hs : seqItems? (PySem.W.fnOf x qual ⟨[], as, none, [], kd, none, df⟩ body scope .none kV doc pm an cdv ct).defaults = pure none := rfl
      simp only [hs, pure_bind]
      have hg : ¬ (us.length > (as.map (·.arg)).length) := by simp [hl']
      have fp : (PySem.W.fnOf x qual ⟨[], as, none, [], kd, none, df⟩ body scope .none kV doc pm an cdv ct).params = ⟨[], as, none, [], kd, none, df⟩ := rfl
      simp only [fp, List.map_nil, List.nil_append, argNames, e1, e2]
      simp [hl', e1, e2, List.take_of_length_le]
      rw [List.filterMap_map] at e2
      exact congrArg pure e2

def fnScB (N P : List Str) (sc : Scope) : Bool := decide (sc.kind = .function) && (!sc.isCoroutine && (!sc.isGenerator && (decide N.Nodup && (decide (N.take P.length = P) && (P.all (fun x => locB sc x) && sc.names.all (fun y => !(y.2 == .free)))))))
theorem fnScB_ok {N P : List Str} {sc : Scope} (h : fnScB N P sc = true) : FnScope N P sc := by
  unfold fnScB at h
  simp only [Bool.and_eq_true, decide_eq_true_eq, Bool.not_eq_true', List.all_eq_true] at h
  obtain ⟨h1, h2, h3, h4, h5, h6, h7⟩ := h
  refine ⟨h1, h2, h3, h4, h5, fun x hx => ?_, fun y hy e => ?_⟩
  · rcases locB_ok (h6 x hx) with q | q
    · exact .inl q
    · exact .inr q
  · have := h7 y hy
    rw [e] at this
    cases this
/-- a def of the text: its number, its statement, the names of its slots -/
structure DI where
  fid : Nat
  name : Str
  st : Stmt
  names : List Str
def DI.ps (d : DI) : List Str := argNames (defArgs d.st)
def DI.ok (I : Inf) (tab : Nat → Option CD) (d : DI) : Bool := match tab d.fid with
  | some c => decide (c.np = d.ps.length) && (decide (c.ns = d.names.length) && (plainArgs (defArgs d.st) && (fnScB d.names d.ps (defScope d.st) && (chkSs I d.names c.body (defScope d.st) (defBody d.st) && decide (d.ps.length ≤ d.names.length)))))
  | none => false
/-- what the head tells of the module -/
structure Facts (I : Inf) (defs : List DI) (K : PySem.W.Frag) (mg : Str → Option Value) : Prop where
  fns : ∀ f x, (f, x) ∈ I.fns → ∃ d ∈ defs, d.fid = f ∧ d.name = x
  defs : ∀ d ∈ defs, ∃ (a : Addr) (fd : FuncData), FunD K d.name d.name (defArgs d.st) (defBody d.st) (defScope d.st) [] [] a fd ∧ mg d.name = some (.ref a)
  bl : ∀ x ∈ bltNames, mg x = none
  gin : ∀ x i, (x, i) ∈ I.gi → ∃ t, mg x = some (.int i t)
  gst : ∀ x s, (x, s) ∈ I.gs → ∃ t, mg x = some (.str s t)
  rais : ∀ c ∈ I.excs, ∀ (X : Cx), X.K = K → X.mg = mg → ∀ (m : Str) (j : Nat) (p p2 pos : Pos), Gl X c → PMk X (.Call (.Name c p) [.Constant (.str m) j p2] [] pos) (fun _ H Q => Q (.ref (He.ga K c)) none H)
theorem runD_len {S : Fo} {d : CD} {as : List Vl} {m : Mem} (h : as.length ≠ d.np) : runD S d as m = .bad := if_neg h
theorem sem_len {tab : Nat → Option CD} {f : Nat} {d : CD} (h : tab f = some d) : ∀ (k : Nat) (as : List Vl) (m : Mem), as.length ≠ d.np → sem tab k f as m = .bad
  | 0, _, _, _ => rfl
  | k + 1, as, m, n => by
    show (match tab f with
      | none => Rs.bad
      | some d => runD (sem tab k) d as m) = .bad
    rw [h]
    exact runD_len n
section
variable {I : Inf} {tab : Nat → Option CD} {defs : List DI} {P : Program} {w : World} {K : PySem.W.Frag} {mg : Str → Option Value} {base : Heap}
/-- a body starts -/
theorem start_R {wd : Wd} {H : Hp} {m : Mem} {as : List Vl} {vs : List V} {N : List Str} (hl : vs.length ≤ N.length) (sp : Sep wd H) (mr : MR wd m H) (ar : ArgsR K wd H as vs) : Rel K wd (as.map some ++ List.replicate (N.length - as.length) none) m (L2.start N vs) H := by
  have el := ar.len
  have go : ∀ {as : List Vl} {vs : List V} {j : Nat}, ArgsR K wd H as vs → ∀ i v, as[i]? = some v → ∃ u, vs[i]? = some u ∧ SlotR K wd H (j + i) v u := by
    intro as
    induction as with
    | nil => intro vs j _ i v h; simp at h
    | cons a as ih =>
      intro vs j h i v q
      obtain ⟨u, r, rfl, _, h2, h3⟩ := h
      cases i with
      | zero => simp at q; subst q; exact ⟨u, rfl, h2 _⟩
      | succ i =>
        obtain ⟨z, z1, z2⟩ := ih (j := j + 1) h3 i v (by simpa using q)
        refine ⟨z, by simpa using z1, ?_⟩
        have e : j + 1 + i = j + (i + 1) := by omega
        rw [← e]
        exact z2
  refine ⟨sp, mr, ?_, fun i v h => ?_⟩
  · unfold L2.start
    simp [el]
  · unfold getS at h
    by_cases q : i < as.length
    · have e1 : (as.map some ++ List.replicate (N.length - as.length) none)[i]? = some (as[i]?) := by
        rw [List.getElem?_append_left (by simpa using q)]
        simp [q]
      rw [e1] at h
      have h' : as[i]? = some v := by
        cases ha : as[i]? with
        | none => rw [ha] at h; cases h
        | some z => rw [ha] at h; exact h
      obtain ⟨u, z1, z2⟩ := go (j := 0) ar i v h'
      refine ⟨u, ?_, by simpa using z2⟩
      unfold L2.start
      rw [List.getElem?_append_left (by simpa [el] using q)]
      simp [z1]
    · have e1 : (as.map some ++ List.replicate (N.length - as.length) none)[i]? = none ∨ (as.map some ++ List.replicate (N.length - as.length) none)[i]? = some none := by
        rw [List.getElem?_append_right (by simp; omega)]
        by_cases z : i - (as.map some).length < N.length - as.length
        · exact .inr (by rw [List.getElem?_replicate]; simp at z; simp [z])
        · exact .inl (by rw [List.getElem?_replicate]; simp at z; simp; omega)
      rcases e1 with e1 | e1 <;> rw [e1] at h <;> cases h
/-- a body ends -/
theorem out_R {wd w' : Wd} {H H' : Hp} {m' : Mem} (nω : ∀ i a, ¬ wd.ω i a) (e : ExtS wd H w' H') (sp : Sep w' H') (mr : MR w' m' H') : ∃ w0, ExtE wd H w0 H' ∧ Sep w0 H' ∧ MR w0 m' H' ∧ ∀ v u, VR K w' H' v u → FrS wd H H' v u → VF K H w0 H' v u := by
  refine ⟨{ w' with ω := wd.ω }, ⟨e.F, fun a q => ?_, (by obtain ⟨r, e1, e2⟩ := e.ρ; exact ⟨r, e1, fun a h => (e2 a h).elim id fun ⟨i, q⟩ => (nω i a q).elim⟩), rfl, fun a o q n => e.fr a o q n fun i => nω i a, e.dm⟩, ⟨sp.fr, fun a i _ q => nω i a q, fun a i _ q => nω i a q, fun a i j q => (nω i a q).elim, sp.rn, sp.fh, fun a i q => (nω i a q).elim, sp.rh⟩, mr, fun v u q f => ⟨?_, ?_⟩⟩
  · rcases e.F' a q with z | z | ⟨i, z⟩
    · exact .inl z
    · exact .inr z
    · exact (nω i a z).elim
  · cases v with
    | new xs =>
      obtain ⟨a, vs, rfl, q1, q2, q3, q4, q5⟩ := q
      exact ⟨a, vs, rfl, q1, q2, q3, q4, fun i => nω i a⟩
    | new2 rows =>
      obtain ⟨a, as, rfl, q1, q2, q3, q4⟩ := q
      exact ⟨a, as, rfl, q1, q2, q3, fun b hb => ⟨(q4 b hb).1, (q4 b hb).2.1, fun i => nω i b⟩⟩
    | _ => exact q
  · have go : ∀ a, (H a = none ∨ ∃ i, wd.ω i a) → H a = none := fun a z => by
      rcases z with z | ⟨i, z⟩
      · exact z
      · exact (nω i a z).elim
    cases v with
    | new xs => exact fun a ha => go a (f a ha)
    | new2 rows => exact fun a as ha hh b hb => go b (f a as ha hh b hb)
    | _ => trivial
theorem defs_ok (G : ∀ X : Cx, X.calm = true → Gaps X) (Fx : Facts I defs K mg) (hok : ∀ d ∈ defs, d.ok I tab = true) : ∀ (k : Nat) (d : DI) (a : Addr) (fd : FuncData), d ∈ defs → FunD K d.name d.name (defArgs d.st) (defBody d.st) (defScope d.st) [] [] a fd → mg d.name = some (.ref a) →
    PySem.W.keepIn K (.ref a) = true ∧ Binds K fd d.ps [] ∧ (∀ (s : Shared) (us : List Value), us.length = d.ps.length → BindsTo s fd ⟨us, []⟩ (d.ps.zip us)) ∧ FnOk P w K mg base (L2.CX P w) (k + 1) a fd d.ps (spF K (sem tab k d.fid) d.ps.length)
  | k, d, a, fd, hd, F, hm => by
    have ok := hok d hd
    unfold DI.ok at ok
    split at ok
    · rename_i c hc
      simp only [Bool.and_eq_true, decide_eq_true_eq] at ok
      obtain ⟨o1, o2, o3, o4, o5, o6⟩ := ok
      have sc := fnScB_ok o4
      have ndp : (argNames (defArgs d.st)).Nodup := by
        have e : d.names.take d.ps.length = argNames (defArgs d.st) := sc.pre
        rw [← e]
        exact List.Nodup.sublist (List.take_sublist _ _) sc.nd
      refine ⟨F.kp, F.bindsN fun kV doc pm an cdv ct us hl => bind_plain o3 ndp hl, fun s us hl => FunD.bindsA F (fun kV doc pm an cdv ct us hl => bind_plain o3 ndp hl) s us hl, ?_⟩
      refine F.ok sc (fun vs H Q E h => h.1) fun cdv A outer s H vs Q E hr h => ?_
      obtain ⟨hl, wd, as, m, sp, nω, mr, ar, hA⟩ := h
      cases k with
      | zero => exact hA.elim
      | succ k =>
        have hA : AnsF K E wd H (match tab d.fid with
          | none => Rs.bad
          | some d => runD (sem tab k) d as m) Q := hA
        rw [hc] at hA
        have hA : AnsF K E wd H (runD (sem tab k) c as m) Q := hA
        unfold runD at hA
        split at hA
        · rename_i hlen
          refine ⟨rdS K E (denSs c.body (sem tab k)), sSs (I := I) c.body ?_ o5, wd, _, m, start_R (N := d.names) (by omega) sp mr ar, ?_⟩
          · have tk : Takes (cxOf (L2.CX P w) P w K mg base d.names d.name (defScope d.st) a cdv A outer s H E) (fun cls d _ H => E cls d H) := takes_of rfl rfl rfl rfl
            refine ⟨⟨rfl, sc.nd, ?_, G, Fx.bl, Fx.gin, Fx.gst, fun f x hfx => ?_, passes_call tk fun _ _ _ _ h => h⟩, passes_of rfl, fun _ => rfl, sc.kind, fun c hc m j p p2 pos pos' hg => ?_⟩
            · have := hr.un
              show (A.deeper _).units + 65 < cLine
              omega
            · obtain ⟨d', hd', e1, e2⟩ := Fx.fns f x hfx
              subst e1; subst e2
              obtain ⟨a', fd', F', q1⟩ := Fx.defs d' hd'
              obtain ⟨q2, q3, _, q4⟩ := defs_ok G Fx hok k d' a' fd' hd' F' q1
              refine ⟨a', fd', d'.ps, k + 1, q4, fun as m n => ?_, hr, q1, q2, q3⟩
              have ok' := hok d' hd'
              unfold DI.ok at ok'
              split at ok'
              · rename_i c' hc'
                simp only [Bool.and_eq_true, decide_eq_true_eq] at ok'
                exact sem_len hc' k as m (by rw [ok'.1]; exact n)
              · cases ok'
            · exact ps_raise rfl tk (Fx.rais c hc _ rfl rfl m j p p2 pos hg)
          · rw [o2, o1] at hA
            have el : as.length = d.ps.length := by rw [hlen, o1]
            rw [← el] at hA
            unfold fin at hA
            split at hA
            · rename_i η' m' e1
              rw [e1]
              intro w' σ' H' e' rel'
              obtain ⟨w0, x1, x2, x3, x4⟩ := out_R (K := K) nω e' rel'.sep rel'.mem
              exact hA w0 .non H' x1 x2 x3 ⟨VR.ofNone, trivial⟩
            · rename_i v m' e1
              rw [e1]
              intro w' u H' e' nω' sp' mr' vr fv
              obtain ⟨w0, x1, x2, x3, x4⟩ := out_R (K := K) nω e' sp' mr'
              exact hA w0 u H' x1 x2 x3 (x4 v u vr fv)
            · rename_i cc m' e1
              rw [e1]
              intro w' H' e' sp' mr'
              obtain ⟨w0, x1, x2, x3, x4⟩ := out_R (K := K) nω e' sp' mr'
              exact hA w0 H' x1 x2 x3
            · exact hA.elim
        · exact hA.elim
    · cases ok
end
end SS
end
/- SSU -/
section
set_option Elab.async false
set_option linter.all false
set_option maxRecDepth 100000
set_option maxHeartbeats 4000000
/-! The law's end: what the head tells, and what the evaluator answers. -/
namespace SS
open PySem PySem.Spec PyProof.Rows L2
def DI.dd (d : DI) : He.DefD := ⟨(d.name, none), d.name, d.name, defArgs d.st, defBody d.st, defScope d.st, [], []⟩
def fnL (defs : List DI) : List He.DefD := defs.map DI.dd
def faL (I : Inf) (defs : List DI) : List He.Fa := defs.map (fun d => .glo d.name) ++ (bltNames.map .free ++ (I.gi.map (fun p => .int p.1 p.2) ++ (I.gs.map (fun p => .str p.1 p.2) ++ (I.excs.map .glo ++ I.excs.map .exc))))
def fnsB (I : Inf) (defs : List DI) : Bool := I.fns.all fun p => defs.any fun d => decide (d.fid = p.1) && decide (d.name = p.2)
section
variable {I : Inf} {tab : Nat → Option CD} {defs : List DI} {K : PySem.W.Frag} {h : Heap} {mg : Str → Option Value}
theorem facts_of (X : K.In h) (G : h.Ns mainGlobals mg) (c : He.SaysD (faL I defs) (fnL defs) K) (hI : fnsB I defs = true) (hdb : (I.excs.all fun c => !(c == ("__debug__" : Str))) = true) : Facts I defs K mg := by
  have m1 : ∀ d ∈ defs, (He.Fa.glo d.name) ∈ faL I defs := fun d hd => List.mem_append_left _ (List.mem_map.mpr ⟨d, hd, rfl⟩)
  have m2 : ∀ x ∈ bltNames, (He.Fa.free x) ∈ faL I defs := fun x hx => List.mem_append_right _ (List.mem_append_left _ (List.mem_map.mpr ⟨x, hx, rfl⟩))
  have m3 : ∀ p ∈ I.gi, (He.Fa.int p.1 p.2) ∈ faL I defs := fun x hx => List.mem_append_right _ (List.mem_append_right _ (List.mem_append_left _ (List.mem_map.mpr ⟨x, hx, rfl⟩)))
  have m4 : ∀ p ∈ I.gs, (He.Fa.str p.1 p.2) ∈ faL I defs := fun x hx => List.mem_append_right _ (List.mem_append_right _ (List.mem_append_right _ (List.mem_append_left _ (List.mem_map.mpr ⟨x, hx, rfl⟩))))
  have m5 : ∀ x ∈ I.excs, (He.Fa.glo x) ∈ faL I defs := fun x hx => List.mem_append_right _ (List.mem_append_right _ (List.mem_append_right _ (List.mem_append_right _ (List.mem_append_left _ (List.mem_map.mpr ⟨x, hx, rfl⟩)))))
  have m6 : ∀ x ∈ I.excs, (He.Fa.exc x) ∈ faL I defs := fun x hx => List.mem_append_right _ (List.mem_append_right _ (List.mem_append_right _ (List.mem_append_right _ (List.mem_append_right _ (List.mem_map.mpr ⟨x, hx, rfl⟩)))))
  refine ⟨fun f x hfx => ?_, fun d hd => ?_, fun x hx => He.free_ok X G (c.facts (m2 x hx)), fun x i hx => He.int_ok X G (c.facts (m3 _ hx)), fun x s hx => He.str_ok X G (c.facts (m4 _ hx)), fun cc hc Y hK hM m j p p2 pos hg => ?_⟩
  · have q := List.all_eq_true.mp hI (f, x) hfx
    obtain ⟨d, hd, q⟩ := List.any_eq_true.mp q
    simp only [Bool.and_eq_true, decide_eq_true_eq] at q
    exact ⟨d, hd, q.1, q.2⟩
  · obtain ⟨fd, F⟩ := c.defs (d := d.dd) (List.mem_map.mpr ⟨d, hd, rfl⟩)
    exact ⟨_, fd, F, He.glo_ok X G (c.facts (m1 d hd))⟩
  · subst hK; subst hM
    obtain ⟨q1, q2, q3, q4⟩ := He.exc_ok (c.facts (m6 cc hc))
    have hdb' := List.all_eq_true.mp hdb cc hc
    exact pmk_own PySem.F.excBase_ValueError q1 (He.glo_ok X G (c.facts (m5 cc hc))) q2 (raises_own q3 q4) hg (by simpa using hdb')
theorem scr_R {H : Hp} {a : Addr} {xs : List V} (hO : Only H) (hS : SqL K H a xs) : ScrR K H a xs := by
  rcases hS with hS | hS
  · rcases hS with hS | ⟨o, hS⟩
    · rcases hO a with z | ⟨o, ys, z⟩
      · rw [hS] at z; cases z
      · rw [hS] at z; cases z
    · exact .inl ⟨o, hS⟩
  · exact .inr fun H' => .inr hS
/-- the evaluator's answer is the law's -/
theorem law_sp {S : List Vl → Mem → Rs Vl} {H : Hp} {a : Addr} {ns : List Int} (hO : Only H) (hS : SqL K H a (ns.map V.int)) (he : ∃ m, S [.scr ns] [] = .ok (.dat (.bool true)) m) : spF K S 1 [.ref a] H (fun v _ => v = .bl true) fun _ _ _ => False := by
  obtain ⟨m, he⟩ := he
  refine ⟨rfl, ⟨fun _ => False, [], fun _ _ => False⟩, [.scr ns], [], ⟨fun _ q => q.elim, fun _ _ q => q.elim, fun _ _ _ q => q, fun _ _ _ q => q.elim, List.nodup_nil, fun _ q => q.elim, fun _ _ q => q.elim, fun _ q => by cases q⟩, fun _ _ q => q, ⟨rfl, fun c cell a q => by simp at q⟩, ⟨_, _, rfl, ⟨a, rfl, scr_R hO hS⟩, fun i => ⟨a, rfl, scr_R hO hS⟩, rfl⟩, ?_⟩
  rw [he]
  intro w' v H' _ _ _ vf
  exact vf.1
theorem walk_me {l : PySem.W.OpenLaw} {n k : Nat} {q : Program} {loose : List Str} {XP : (Str → Option Value) → Heap → Prop} {YP : World → Heap → Prop} {d : DefRec} {lw : DI}
    (hn : l.most = some n) (hn2 : n ≤ sizeLine) (hdf : d.params.defaults = []) (hr : Room (k + 1) callerA) (G : ∀ X : Cx, X.calm = true → Gaps X)
    (hY : ∀ w h, YP w h → ∃ K : PySem.W.Frag, K.In h ∧ He.SaysD (faL I defs) (fnL defs) K) (hok : (defs.all fun d => d.ok I tab) = true) (hI : fnsB I defs = true) (hdb : (I.excs.all fun c => !(c == ("__debug__" : Str))) = true)
    (hl : lw ∈ defs) (hnm : d.name = lw.name) (hps : lw.ps = [("script" : Str)]) (hev : ∀ ns : List Int, ns.length ≤ n → ∃ m, sem tab k lw.fid [.scr ns] [] = .ok (.dat (.bool true)) m) :
    PySem.W.WalkO q loose XP YP l.row.toRowW d [] (fun f vs => PySem.call f vs) := by
  refine Att.attach_call hn hdf fun w s₀ s₁ mg mb fa o pm cd doc a vs ns Gd Y ho hd hcd hmg hobj hints hlen hg => ?_
  obtain ⟨K, KX, c⟩ := hY w _ Y
  have Fx := facts_of KX Gd.T.g c hI hdb
  obtain ⟨a0, fd0, F0, e0⟩ := Fx.defs lw hl
  have go := fun base : Heap => defs_ok (P := l.prog) (w := w) (base := base) G Fx (List.all_eq_true.mp hok) k lw a0 fd0 hl F0 e0
  obtain ⟨_, _, b0, _⟩ := go s₁.heap
  rw [hnm] at hmg
  have e1 := hmg.symm.trans e0
  cases e1
  have hF : ∀ base : Heap, K.In base → base.Ns mainGlobals mg → FnOk l.prog w K mg base (L2.CX l.prog w) (k + 1) fa fd0 [("script" : Str)] (spF K (sem tab k lw.fid) 1) := by
    intro base _ _
    obtain ⟨_, _, _, F1⟩ := go base
    rw [hps] at F1
    exact F1
  exact law_call KX Gd.T.g Gd.T.b Gd.T.builtins Gd.T.nolimit hg hobj hints (Nat.le_trans hlen hn2) hr hF (fun s u => by have := b0 s [u] (by rw [hps]; rfl); rw [hps] at this; exact this) (fun H hO hS => law_sp hO hS (hev ns hlen)) fun H e s' z => by
    obtain ⟨_, _, _, _, _, _, _, _, _, _, _, _, z⟩ := z
    exact z.elim
end
end SS
end
/- SSV -/
set_option Elab.async false
set_option linter.all false
set_option maxRecDepth 100000
/-! The core text of the defs, printed by gen.py. -/
namespace SS
open PySem L2
abbrev f_is_integer : Nat := 0
abbrev f_alternates : Nat := 1
abbrev f_columns_of : Nat := 2
abbrev f_is_square : Nat := 3
abbrev f_is_table : Nat := 4
abbrev f_check_table : Nat := 5
abbrev f_negative_count : Nat := 6
abbrev f_is_permutation : Nat := 7
abbrev f_inversion_count : Nat := 8
abbrev f_inversions : Nat := 9
abbrev f_negatives : Nat := 10
abbrev f__law_cell_at : Nat := 11
abbrev f__law_mixed : Nat := 12
abbrev f__law_draw : Nat := 13
abbrev f__law_same_number : Nat := 14
abbrev f__law_same_truth : Nat := 15
abbrev f__law_pick : Nat := 16
abbrev f__law_corners : Nat := 17
abbrev f__law_sum_like : Nat := 18
abbrev f__law_uncorner : Nat := 19
abbrev f__law_some_table : Nat := 20
abbrev f__law_good : Nat := 21
abbrev f_law_k01 : Nat := 22
abbrev f_sums_of : Nat := 23
abbrev f_corner_sums : Nat := 24
abbrev f_are_sums : Nat := 25
abbrev f_table_of : Nat := 26
abbrev f_from_sums : Nat := 27
abbrev f__law_which : Nat := 28
abbrev f__law_ask : Nat := 29
abbrev f_law_k02 : Nat := 30
abbrev f_check_two : Nat := 31
abbrev f_lines_of : Nat := 32
abbrev f_tables_of : Nat := 33
abbrev f_below : Nat := 34
abbrev f_is_below : Nat := 35
abbrev f_merged : Nat := 36
abbrev f_least_above : Nat := 37
abbrev f_greatest_below : Nat := 38
abbrev f_permutation_tables : Nat := 39
abbrev f_permutations_below : Nat := 40
abbrev f_permutations_above : Nat := 41
abbrev f__law_same_size : Nat := 42
abbrev f__law_under : Nat := 43
abbrev f__law_single : Nat := 44
abbrev f__law_chosen : Nat := 45
abbrev f_law_k03 : Nat := 46
abbrev f_triangle : Nat := 47
abbrev f_is_triangle : Nat := 48
abbrev f_from_triangle : Nat := 49
abbrev f__law_ask_1 : Nat := 50
abbrev f__law_fits : Nat := 51
abbrev f_law_k04 : Nat := 52
abbrev f_apart : Nat := 53
abbrev f_distance : Nat := 54
abbrev f_changed : Nat := 55
abbrev f_options_of : Nat := 56
abbrev f_change_list : Nat := 57
abbrev f_changes : Nat := 58
abbrev f_law_k05 : Nat := 59
abbrev f_way : Nat := 60
abbrev f_is_way : Nat := 61
abbrev f__law_one_apart : Nat := 62
abbrev f_law_k06 : Nat := 63
abbrev f_mirrored : Nat := 64
abbrev f_exchanged : Nat := 65
abbrev f_turned : Nat := 66
abbrev f_law_k07 : Nat := 67
abbrev f_law_k08 : Nat := 68
abbrev f_check_size : Nat := 69
abbrev f_all_tables : Nat := 70
abbrev f_count_tables : Nat := 71
abbrev f_count_by_first_row : Nat := 72
abbrev f__law_ask_2 : Nat := 73
abbrev f__law_all : Nat := 74
abbrev f_law_k09 : Nat := 75
abbrev f_is_answer : Nat := 76
abbrev f_agreeing : Nat := 77
abbrev f_candidates : Nat := 78
abbrev f_best_question : Nat := 79
abbrev f__law_ask_3 : Nat := 80
abbrev f_law_k10 : Nat := 81
abbrev f_text_of : Nat := 82
abbrev f_format_table : Nat := 83
abbrev f_parse_table : Nat := 84
abbrev f__law_read : Nat := 85
abbrev f_law_k11 : Nat := 86
abbrev f__wall : Nat := 87
abbrev f__law_crossed : Nat := 88
abbrev f__law_strayed : Nat := 89
abbrev f_law_k12 : Nat := 90
abbrev f__law_back : Nat := 91
abbrev f_law_k13 : Nat := 92
abbrev f__law_ends : Nat := 93
abbrev f_law_k14 : Nat := 94
abbrev f_law_k15 : Nat := 95
abbrev f_law_k16 : Nat := 96
abbrev f__law_lifted : Nat := 97
abbrev f__law_shown : Nat := 98
abbrev f_law_k17 : Nat := 99
abbrev f__law_told : Nat := 100
abbrev f_law_k18 : Nat := 101
abbrev f__law_one : Nat := 102
abbrev f__law_two : Nat := 103
abbrev f_law_k19 : Nat := 104
abbrev f__law_change : Nat := 105
abbrev f__law_one_1 : Nat := 106
abbrev f_law_k20 : Nat := 107
def s_is_integer_1 : CS := (.ret (.and_ (.isi .int (.var 0)) (.and_ (.nt (.isi .bool (.var 0))) (.one (.chain .LtE .LtE (.var 1) (.var 0) (.var 2))))))
/- is_integer -/
def c_is_integer : CD := ⟨3, 3,
  (.cons s_is_integer_1
  .nil)⟩
def s_alternates_1 : CS := (.asg 1 (.cint 0))
def s_alternates_2 : CS := (.aug 1 .Add (.var 2))
def s_alternates_3 : CS := (.ret (.cbl false))
def s_alternates_4 : CS := (.ifs (.cmp .NotIn (.var 1) (.tup (.cons (.cint 0) (.cons (.cint 1) .nil))))
    (.cons s_alternates_3
    .nil)
    .nil)
def b_alternates_1 : CSs := (.cons s_alternates_2
  (.cons s_alternates_4
  (.cons (.wip [2])
  .nil)))
def s_alternates_5 : CS := (.for_ (.one 2) (.seq (.var 0)) b_alternates_1)
def s_alternates_6 : CS := (.ret (.cmp .Eq (.var 1) (.cint 1)))
/- alternates -/
def c_alternates : CD := ⟨1, 3,
  (.cons s_alternates_1
  (.cons s_alternates_5
  (.cons s_alternates_6
  .nil)))⟩
def s_columns_of_1 : CS := (.ret (.lc (.b1 .tuple (.lc (.ix (.var 2) (.var 1)) (.one 2) (.seq (.var 0)) .no)) (.one 1) (.rng1 (.b1 .len (.ix (.var 0) (.cint 0)))) .no))
/- columns_of -/
def c_columns_of : CD := ⟨1, 3,
  (.cons s_columns_of_1
  .nil)⟩
def s_is_square_1 : CS := (.ret (.cbl false))
def s_is_square_2 : CS := (.ifs (.or_ (.nt (.isi .tuple (.var 0))) (.one (.nt (.chain .LtE .LtE (.var 1) (.b1 .len (.var 0)) (.var 2)))))
    (.cons s_is_square_1
    .nil)
    .nil)
def s_is_square_3 : CS := (.ret (.cbl false))
def s_is_square_4 : CS := (.ifs (.or_ (.nt (.isi .tuple (.var 5))) (.one (.cmp .NotEq (.b1 .len (.var 5)) (.b1 .len (.var 0)))))
    (.cons s_is_square_3
    .nil)
    .nil)
def s_is_square_5 : CS := (.ret (.cbl false))
def s_is_square_6 : CS := (.ifs (.nt (.b1 .all (.lc (.call f_is_integer (.cons (.var 6) (.cons (.var 3) (.cons (.var 4) .nil)))) (.one 6) (.seq (.var 5)) .no)))
    (.cons s_is_square_5
    .nil)
    .nil)
def b_is_square_1 : CSs := (.cons s_is_square_4
  (.cons s_is_square_6
  (.cons (.wip [5])
  .nil)))
def s_is_square_7 : CS := (.for_ (.one 5) (.seq (.var 0)) b_is_square_1)
def s_is_square_8 : CS := (.ret (.cbl true))
/- is_square -/
def c_is_square : CD := ⟨5, 7,
  (.cons s_is_square_2
  (.cons s_is_square_7
  (.cons s_is_square_8
  .nil)))⟩
def s_is_table_1 : CS := (.ret (.cbl false))
def s_is_table_2 : CS := (.ifs (.nt (.call f_is_square (.cons (.var 0) (.cons (.cint 1) (.cons (.gint "SIZE" 5) (.cons (.neg (.cint 1)) (.cons (.cint 1) .nil)))))))
    (.cons s_is_table_1
    .nil)
    .nil)
def s_is_table_3 : CS := (.ret (.b1 .all (.lc (.call f_alternates (.cons (.var 1) .nil)) (.one 1) (.seq (.bin .Add (.b1 .list (.var 0)) (.call f_columns_of (.cons (.var 0) .nil)))) .no)))
/- is_table -/
def c_is_table : CD := ⟨1, 2,
  (.cons s_is_table_2
  (.cons s_is_table_3
  .nil))⟩
def s_check_table_1 : CS := (.rais "InvalidTable")
def s_check_table_2 : CS := (.ifs (.nt (.call f_is_table (.cons (.var 0) .nil)))
    (.cons s_check_table_1
    .nil)
    .nil)
/- check_table -/
def c_check_table : CD := ⟨1, 1,
  (.cons s_check_table_2
  .nil)⟩
def s_negative_count_1 : CS := (.ret (.b1 .sum (.lc (.me .count (.var 1) (.neg (.cint 1))) (.one 1) (.seq (.var 0)) .no)))
/- negative_count -/
def c_negative_count : CD := ⟨1, 2,
  (.cons s_negative_count_1
  .nil)⟩
def s_is_permutation_1 : CS := (.ex (.call f_check_table (.cons (.var 0) .nil)))
def s_is_permutation_2 : CS := (.ret (.cmp .Eq (.call f_negative_count (.cons (.var 0) .nil)) (.cint 0)))
/- is_permutation -/
def c_is_permutation : CD := ⟨1, 1,
  (.cons s_is_permutation_1
  (.cons s_is_permutation_2
  .nil))⟩
def s_inversion_count_1 : CS := (.par [1, 2] (.cons (.cint 0) (.cons (.bin .Mult (.lst (.cons (.cint 0) .nil)) (.b1 .len (.var 0))) .nil)))
def s_inversion_count_2 : CS := (.aug 1 .Add (.bin .Mult (.var 5) (.b1 .sum (.sl (.var 2) (.yes (.bin .Add (.var 4) (.cint 1))) .no))))
def b_inversion_count_1 : CSs := (.cons s_inversion_count_2
  (.cons (.wip [4, 5])
  .nil))
def s_inversion_count_3 : CS := (.for_ (.tup [4, 5]) (.enum (.var 3)) b_inversion_count_1)
def s_inversion_count_4 : CS := (.asg 2 (.lc (.bin .Add (.var 6) (.var 5)) (.tup [6, 5]) (.zip (.var 2) (.var 3)) .no))
def b_inversion_count_2 : CSs := (.cons (.frz 3)
  (.cons s_inversion_count_3
  (.cons s_inversion_count_4
  (.cons (.wip [3, 4, 5])
  .nil))))
def s_inversion_count_5 : CS := (.for_ (.one 3) (.seq (.var 0)) b_inversion_count_2)
def s_inversion_count_6 : CS := (.retv 1)
/- inversion_count -/
def c_inversion_count : CD := ⟨1, 7,
  (.cons s_inversion_count_1
  (.cons s_inversion_count_5
  (.cons s_inversion_count_6
  .nil)))⟩
def s_inversions_1 : CS := (.ex (.call f_check_table (.cons (.var 0) .nil)))
def s_inversions_2 : CS := (.ret (.call f_inversion_count (.cons (.var 0) .nil)))
/- inversions -/
def c_inversions : CD := ⟨1, 1,
  (.cons s_inversions_1
  (.cons s_inversions_2
  .nil))⟩
def s_negatives_1 : CS := (.ex (.call f_check_table (.cons (.var 0) .nil)))
def s_negatives_2 : CS := (.ret (.call f_negative_count (.cons (.var 0) .nil)))
/- negatives -/
def c_negatives : CD := ⟨1, 1,
  (.cons s_negatives_1
  (.cons s_negatives_2
  .nil))⟩
def s__law_cell_at_1 : CS := (.ret (.ix (.var 0) (.var 1)))
def s__law_cell_at_2 : CS := (.ifs (.cmp .Lt (.var 1) (.b1 .len (.var 0)))
    (.cons s__law_cell_at_1
    .nil)
    .nil)
def s__law_cell_at_3 : CS := (.ret (.cint 0))
def s__law_cell_at_4 : CS := (.ifs (.cmp .Eq (.var 0) (.lst .nil))
    (.cons s__law_cell_at_3
    .nil)
    .nil)
def s__law_cell_at_5 : CS := (.asg 2 (.ix (.var 0) (.bin .Mod (.var 1) (.b1 .len (.var 0)))))
def s__law_cell_at_6 : CS := (.asg 2 (.bin .FloorDiv (.var 2) (.cint 1000003)))
def b__law_cell_at_1 : CSs := (.cons s__law_cell_at_6
  (.cons (.wip [3])
  .nil))
def s__law_cell_at_7 : CS := (.for_ (.one 3) (.rng1 (.mm2 false (.bin .FloorDiv (.var 1) (.b1 .len (.var 0))) (.cint 60))) b__law_cell_at_1)
def s__law_cell_at_8 : CS := (.ret (.bin .Add (.bin .Add (.bin .Mult (.ix (.var 0) (.bin .Mod (.var 1) (.b1 .len (.var 0)))) (.cint 31)) (.var 1)) (.bin .Mult (.var 2) (.cint 101))))
/- _law_cell_at -/
def c__law_cell_at : CD := ⟨2, 4,
  (.cons s__law_cell_at_2
  (.cons s__law_cell_at_4
  (.cons s__law_cell_at_5
  (.cons s__law_cell_at_7
  (.cons s__law_cell_at_8
  .nil)))))⟩
def s__law_mixed_1 : CS := (.asg 3 (.bin .Mod (.bin .Add (.bin .Add (.bin .Mult (.call f__law_cell_at (.cons (.var 0) (.cons (.var 1) .nil))) (.cint 1103515245)) (.bin .Mult (.cint 7919) (.var 1))) (.cint 12345)) (.cint 2147483647)))
def s__law_mixed_2 : CS := (.ret (.bin .Mod (.bin .Mod (.bin .Mod (.bin .Pow (.var 3) (.cint 5)) (.cint 2147483647)) (.cint 999983)) (.var 2)))
/- _law_mixed -/
def c__law_mixed : CD := ⟨3, 4,
  (.cons s__law_mixed_1
  (.cons s__law_mixed_2
  .nil))⟩
def s__law_draw_1 : CS := (.app 1 (.cint 0))
def s__law_draw_2 : CS := (.ret (.call f__law_mixed (.cons (.var 0) (.cons (.b1 .len (.var 1)) (.cons (.var 2) .nil)))))
/- _law_draw -/
def c__law_draw : CD := ⟨3, 3,
  (.cons s__law_draw_1
  (.cons s__law_draw_2
  .nil))⟩
def s__law_same_number_1 : CS := (.ret (.and_ (.isi .int (.var 0)) (.and_ (.nt (.isi .bool (.var 0))) (.one (.cmp .Eq (.var 0) (.var 1))))))
/- _law_same_number -/
def c__law_same_number : CD := ⟨2, 2,
  (.cons s__law_same_number_1
  .nil)⟩
def s__law_same_truth_1 : CS := (.ret (.and_ (.isi .bool (.var 0)) (.one (.cmp .Eq (.var 0) (.var 1)))))
/- _law_same_truth -/
def c__law_same_truth : CD := ⟨2, 2,
  (.cons s__law_same_truth_1
  .nil)⟩
def s__law_pick_1 : CS := (.ret (.ix (.var 2) (.call f__law_draw (.cons (.var 0) (.cons (.var 1) (.cons (.b1 .len (.var 2)) .nil))))))
/- _law_pick -/
def c__law_pick : CD := ⟨3, 3,
  (.cons s__law_pick_1
  .nil)⟩
def s__law_corners_1 : CS := (.asg 1 (.b1 .len (.var 0)))
def s__law_corners_2 : CS := (.asg 2 (.lst .nil))
def s__law_corners_3 : CS := (.app 2 (.b1 .tuple (.lc (.b1 .sum (.lc (.b1 .sum (.sl (.var 5) .no (.yes (.var 4)))) (.one 5) (.seq (.sl (.var 0) .no (.yes (.var 3)))) .no)) (.one 4) (.rng1 (.bin .Add (.var 1) (.cint 1))) .no)))
def b__law_corners_1 : CSs := (.cons s__law_corners_3
  (.cons (.wip [3])
  .nil))
def s__law_corners_4 : CS := (.for_ (.one 3) (.rng1 (.bin .Add (.var 1) (.cint 1))) b__law_corners_1)
def s__law_corners_5 : CS := (.ret (.b1 .tuple (.var 2)))
/- _law_corners -/
def c__law_corners : CD := ⟨1, 6,
  (.cons s__law_corners_1
  (.cons s__law_corners_2
  (.cons s__law_corners_4
  (.cons s__law_corners_5
  .nil))))⟩
def s__law_sum_like_1 : CS := (.asg 1 (.bin .Sub (.b1 .len (.var 0)) (.cint 1)))
def s__law_sum_like_2 : CS := (.ret (.cbl false))
def s__law_sum_like_3 : CS := (.ifs (.cmp .NotEq (.tup (.cons (.ix (.ix (.var 0) (.cint 0)) (.var 2)) (.cons (.ix (.ix (.var 0) (.var 2)) (.cint 0)) (.cons (.ix (.ix (.var 0) (.var 1)) (.var 2)) (.cons (.ix (.ix (.var 0) (.var 2)) (.var 1)) .nil))))) (.tup (.cons (.cint 0) (.cons (.cint 0) (.cons (.var 2) (.cons (.var 2) .nil))))))
    (.cons s__law_sum_like_2
    .nil)
    .nil)
def s__law_sum_like_4 : CS := (.ret (.cbl false))
def s__law_sum_like_5 : CS := (.ifs (.or_ (.cmp .NotIn (.bin .Sub (.ix (.ix (.var 0) (.var 2)) (.bin .Add (.var 3) (.cint 1))) (.ix (.ix (.var 0) (.var 2)) (.var 3))) (.tup (.cons (.cint 0) (.cons (.cint 1) .nil)))) (.one (.cmp .NotIn (.bin .Sub (.ix (.ix (.var 0) (.bin .Add (.var 3) (.cint 1))) (.var 2)) (.ix (.ix (.var 0) (.var 3)) (.var 2))) (.tup (.cons (.cint 0) (.cons (.cint 1) .nil))))))
    (.cons s__law_sum_like_4
    .nil)
    .nil)
def b__law_sum_like_1 : CSs := (.cons s__law_sum_like_5
  (.cons (.wip [3])
  .nil))
def s__law_sum_like_6 : CS := (.for_ (.one 3) (.rng1 (.var 1)) b__law_sum_like_1)
def b__law_sum_like_2 : CSs := (.cons s__law_sum_like_3
  (.cons s__law_sum_like_6
  (.cons (.wip [2, 3])
  .nil)))
def s__law_sum_like_7 : CS := (.for_ (.one 2) (.rng1 (.bin .Add (.var 1) (.cint 1))) b__law_sum_like_2)
def s__law_sum_like_8 : CS := (.ret (.cbl true))
/- _law_sum_like -/
def c__law_sum_like : CD := ⟨1, 4,
  (.cons s__law_sum_like_1
  (.cons s__law_sum_like_7
  (.cons s__law_sum_like_8
  .nil)))⟩
def s__law_uncorner_1 : CS := (.asg 1 (.bin .Sub (.b1 .len (.var 0)) (.cint 1)))
def s__law_uncorner_2 : CS := (.asg 2 (.lst .nil))
def s__law_uncorner_3 : CS := (.asg 6 (.lc (.bin .Sub (.var 5) (.var 4)) (.tup [4, 5]) (.zip (.ix (.var 0) (.var 3)) (.ix (.var 0) (.bin .Add (.var 3) (.cint 1)))) .no))
def s__law_uncorner_4 : CS := (.app 2 (.b1 .tuple (.lc (.bin .Sub (.ix (.var 6) (.bin .Add (.var 7) (.cint 1))) (.ix (.var 6) (.var 7))) (.one 7) (.rng1 (.var 1)) .no)))
def b__law_uncorner_1 : CSs := (.cons s__law_uncorner_3
  (.cons s__law_uncorner_4
  (.cons (.wip [3, 6])
  .nil)))
def s__law_uncorner_5 : CS := (.for_ (.one 3) (.rng1 (.var 1)) b__law_uncorner_1)
def s__law_uncorner_6 : CS := (.ret (.b1 .tuple (.var 2)))
/- _law_uncorner -/
def c__law_uncorner : CD := ⟨1, 8,
  (.cons s__law_uncorner_1
  (.cons s__law_uncorner_2
  (.cons s__law_uncorner_5
  (.cons s__law_uncorner_6
  .nil))))⟩
def s__law_some_table_1 : CS := (.asg 3 (.bin .Add (.cint 1) (.call f__law_draw (.cons (.var 0) (.cons (.var 1) (.cons (.var 2) .nil))))))
def s__law_some_table_2 : CS := (.par [4, 5] (.cons (.rng false (.var 3)) (.cons (.lst .nil) .nil)))
def s__law_some_table_3 : CS := (.asg 7 (.call f__law_pick (.cons (.var 0) (.cons (.var 1) (.cons (.var 4) .nil)))))
def s__law_some_table_4 : CS := (.rem 4 (.var 7))
def s__law_some_table_5 : CS := (.app 5 (.b1 .tuple (.lc (.ite (.cmp .Eq (.var 8) (.var 7)) (.cint 1) (.cint 0)) (.one 8) (.rng1 (.var 3)) .no)))
def b__law_some_table_1 : CSs := (.cons s__law_some_table_3
  (.cons s__law_some_table_4
  (.cons s__law_some_table_5
  (.cons (.wip [6, 7])
  .nil))))
def s__law_some_table_6 : CS := (.for_ (.one 6) (.rng1 (.var 3)) b__law_some_table_1)
def s__law_some_table_7 : CS := (.asg 10 (.rows 9 (.call f__law_corners (.cons (.b1 .tuple (.var 5)) .nil))))
def s__law_some_table_8 : CS := (.par [11, 12] (.cons (.bin .Add (.cint 1) (.call f__law_draw (.cons (.var 0) (.cons (.var 1) (.cons (.bin .Sub (.var 3) (.cint 1)) .nil))))) (.cons (.bin .Add (.cint 1) (.call f__law_draw (.cons (.var 0) (.cons (.var 1) (.cons (.bin .Sub (.var 3) (.cint 1)) .nil))))) .nil)))
def s__law_some_table_9 : CS := (.asg 13 (.bin .Sub (.bin .Mult (.cint 2) (.call f__law_draw (.cons (.var 0) (.cons (.var 1) (.cons (.cint 2) .nil))))) (.cint 1)))
def s__law_some_table_10 : CS := (.aug2 10 (.var 11) (.var 12) .Add (.var 13))
def s__law_some_table_11 : CS := (.aug2 10 (.var 11) (.var 12) .Sub (.var 13))
def s__law_some_table_12 : CS := (.ifs (.nt (.call f__law_sum_like (.cons (.var 10) .nil)))
    (.cons s__law_some_table_11
    .nil)
    .nil)
def b__law_some_table_2 : CSs := (.cons s__law_some_table_8
  (.cons s__law_some_table_9
  (.cons s__law_some_table_10
  (.cons s__law_some_table_12
  (.cons (.wip [6, 11, 12, 13])
  .nil)))))
def s__law_some_table_13 : CS := (.for_ (.one 6) (.rng1 (.bin .Mult (.cint 3) (.var 3))) b__law_some_table_2)
def s__law_some_table_14 : CS := (.ifs (.cmp .Gt (.var 3) (.cint 1))
    (.cons s__law_some_table_13
    (.cons (.wip [6, 11, 12, 13])
    .nil))
    .nil)
def s__law_some_table_15 : CS := (.ret (.call f__law_uncorner (.cons (.var 10) .nil)))
/- _law_some_table -/
def c__law_some_table : CD := ⟨3, 14,
  (.cons s__law_some_table_1
  (.cons s__law_some_table_2
  (.cons s__law_some_table_6
  (.cons s__law_some_table_7
  (.cons s__law_some_table_14
  (.cons s__law_some_table_15
  .nil))))))⟩
def s__law_good_1 : CS := (.asg 3 (.bin .Add (.b1 .list (.var 0)) (.lc (.b1 .tuple (.lc (.ix (.var 2) (.var 1)) (.one 2) (.seq (.var 0)) .no)) (.one 1) (.rng1 (.b1 .len (.var 0))) .no)))
def s__law_good_2 : CS := (.asg 6 (.lc (.var 5) (.one 5) (.seq (.var 4)) (.yes (.cmp .NotEq (.var 5) (.cint 0)))))
def s__law_good_3 : CS := (.ret (.cbl false))
def s__law_good_4 : CS := (.ifs (.or_ (.cmp .NotEq (.var 6) (.lc (.ite (.cmp .Eq (.bin .Mod (.var 7) (.cint 2)) (.cint 0)) (.cint 1) (.neg (.cint 1))) (.one 7) (.rng1 (.b1 .len (.var 6))) .no)) (.one (.cmp .Eq (.bin .Mod (.b1 .len (.var 6)) (.cint 2)) (.cint 0))))
    (.cons s__law_good_3
    .nil)
    .nil)
def b__law_good_1 : CSs := (.cons s__law_good_2
  (.cons s__law_good_4
  (.cons (.wip [4, 6])
  .nil)))
def s__law_good_5 : CS := (.for_ (.one 4) (.seq (.var 3)) b__law_good_1)
def s__law_good_6 : CS := (.ret (.cbl true))
/- _law_good -/
def c__law_good : CD := ⟨1, 8,
  (.cons s__law_good_1
  (.cons (.frz 3)
  (.cons s__law_good_5
  (.cons s__law_good_6
  .nil))))⟩
def s_law_k01_1 : CS := (.asg 1 (.lst .nil))
def s_law_k01_2 : CS := (.asg 2 (.call f__law_some_table (.cons (.var 0) (.cons (.var 1) (.cons (.cint 5) .nil)))))
def s_law_k01_3 : CS := (.asg 3 (.b1 .len (.var 2)))
def s_law_k01_4 : CS := (.ret (.cbl false))
def s_law_k01_5 : CS := (.ifs (.cmp .IsNot (.call f_is_table (.cons (.var 2) .nil)) (.cbl true))
    (.cons s_law_k01_4
    .nil)
    .nil)
def s_law_k01_6 : CS := (.asg 6 (.b1 .sum (.lc (.b1 .len (.lc (.var 5) (.one 5) (.seq (.var 4)) (.yes (.cmp .Lt (.var 5) (.cint 0))))) (.one 4) (.seq (.var 2)) .no)))
def s_law_k01_7 : CS := (.ret (.cbl false))
def s_law_k01_8 : CS := (.ifs (.or_ (.nt (.call f__law_same_number (.cons (.call f_negatives (.cons (.var 2) .nil)) (.cons (.var 6) .nil)))) (.one (.nt (.call f__law_same_truth (.cons (.call f_is_permutation (.cons (.var 2) .nil)) (.cons (.cmp .Eq (.var 6) (.cint 0)) .nil))))))
    (.cons s_law_k01_7
    .nil)
    .nil)
def s_law_k01_9 : CS := (.asg 7 (.cint 0))
def s_law_k01_10 : CS := (.aug 7 .Add (.bin .Mult (.ix (.ix (.var 2) (.var 8)) (.var 9)) (.b1 .sum (.lc (.b1 .sum (.sl (.var 4) .no (.yes (.var 9)))) (.one 4) (.seq (.sl (.var 2) (.yes (.bin .Add (.var 8) (.cint 1))) .no)) .no))))
def b_law_k01_1 : CSs := (.cons s_law_k01_10
  (.cons (.wip [9])
  .nil))
def s_law_k01_11 : CS := (.for_ (.one 9) (.rng1 (.var 3)) b_law_k01_1)
def b_law_k01_2 : CSs := (.cons s_law_k01_11
  (.cons (.wip [8, 9])
  .nil))
def s_law_k01_12 : CS := (.for_ (.one 8) (.rng1 (.var 3)) b_law_k01_2)
def s_law_k01_13 : CS := (.ret (.cbl false))
def s_law_k01_14 : CS := (.ifs (.or_ (.nt (.call f__law_same_number (.cons (.call f_inversions (.cons (.var 2) .nil)) (.cons (.var 7) .nil)))) (.one (.cmp .Gt (.var 6) (.var 7))))
    (.cons s_law_k01_13
    .nil)
    .nil)
def s_law_k01_15 : CS := (.par [8, 9] (.cons (.call f__law_draw (.cons (.var 0) (.cons (.var 1) (.cons (.var 3) .nil)))) (.cons (.call f__law_draw (.cons (.var 0) (.cons (.var 1) (.cons (.var 3) .nil)))) .nil)))
def s_law_k01_16 : CS := (.asg 4 (.bin .Add (.bin .Add (.sl (.ix (.var 2) (.var 8)) .no (.yes (.var 9))) (.tup (.cons (.bin .Sub (.call f__law_draw (.cons (.var 0) (.cons (.var 1) (.cons (.cint 3) .nil)))) (.cint 1)) .nil))) (.sl (.ix (.var 2) (.var 8)) (.yes (.bin .Add (.var 9) (.cint 1))) .no)))
def s_law_k01_17 : CS := (.asg 11 (.bin .Add (.bin .Add (.sl (.var 2) .no (.yes (.var 8))) (.tup (.cons (.var 4) .nil))) (.sl (.var 2) (.yes (.bin .Add (.var 8) (.cint 1))) .no)))
def s_law_k01_18 : CS := (.asg 12 (.bin .Add (.bin .Add (.sl (.var 2) .no (.yes (.var 8))) (.sl (.var 2) (.yes (.bin .Add (.var 8) (.cint 1))) .no)) (.sl (.var 2) (.yes (.var 8)) (.yes (.bin .Add (.var 8) (.cint 1))))))
def s_law_k01_19 : CS := (.ret (.cbl false))
def s_law_k01_20 : CS := (.ifs (.nt (.call f__law_same_truth (.cons (.call f_is_table (.cons (.var 13) .nil)) (.cons (.call f__law_good (.cons (.var 13) .nil)) .nil))))
    (.cons s_law_k01_19
    .nil)
    .nil)
def b_law_k01_3 : CSs := (.cons s_law_k01_20
  (.cons (.wip [13])
  .nil))
def s_law_k01_21 : CS := (.for_ (.one 13) (.seq (.tup (.cons (.var 11) (.cons (.var 12) (.cons (.b1 .tuple (.lc (.bin .Add (.sl (.var 4) (.yes (.cint 1)) .no) (.sl (.var 4) .no (.yes (.cint 1)))) (.one 4) (.seq (.var 2)) .no)) .nil))))) b_law_k01_3)
def b_law_k01_4 : CSs := (.cons s_law_k01_15
  (.cons s_law_k01_16
  (.cons s_law_k01_17
  (.cons s_law_k01_18
  (.cons s_law_k01_21
  (.cons (.wip [10, 8, 9, 4, 11, 12, 13])
  .nil))))))
def s_law_k01_22 : CS := (.for_ (.one 10) (.rng1 (.cint 4)) b_law_k01_4)
def s_law_k01_23 : CS := (.asg 14 (.lst (.cons .cnon (.cons (.cint 5) (.cons (.tup .nil) (.cons (.b1 .list (.var 2)) (.cons (.bin .Add (.sl (.var 2) (.yes (.cint 1)) .no) (.tup (.cons .cnon .nil))) (.cons (.bin .Add (.var 2) (.sl (.var 2) .no (.yes (.cint 1)))) (.cons (.bin .Add (.sl (.var 2) .no (.yes (.neg (.cint 1)))) (.tup (.cons (.bin .Add (.ix (.var 2) (.neg (.cint 1))) (.tup (.cons (.cint 0) .nil))) .nil))) .nil)))))))))
def s_law_k01_24 : CS := (.ext 14 (.lst (.cons (.bin .Add (.sl (.var 2) .no (.yes (.neg (.cint 1)))) (.tup (.cons (.b1 .list (.ix (.var 2) (.neg (.cint 1)))) .nil))) (.cons (.tup (.cons (.tup (.cons (.cbl true) .nil)) .nil)) (.cons (.tup (.cons (.tup (.cons (.cstr "1") .nil)) .nil)) (.cons (.tup (.cons (.tup (.cons (.cint 2) .nil)) .nil)) (.cons (.tup (.cons (.tup (.cons (.cint 0) .nil)) .nil)) (.cons (.tup (.cons (.tup (.cons (.neg (.cint 1)) .nil)) .nil)) (.cons (.tup (.cons (.cint 1) .nil)) .nil)))))))))
def s_law_k01_25 : CS := (.app 14 (.b1 .tuple (.lc (.bin .Add (.bin .Add (.bin .Mult (.tup (.cons (.cint 0) .nil)) (.var 15)) (.tup (.cons (.cint 1) .nil))) (.bin .Mult (.tup (.cons (.cint 0) .nil)) (.bin .Sub (.cint 5) (.var 15)))) (.one 15) (.rng1 (.cint 6)) .no)))
def s_law_k01_26 : CS := (.ext 14 (.lst (.cons (.tup (.cons (.tup (.cons (.cint 1) (.cons (.cint 0) .nil))) (.cons (.tup (.cons (.cint 1) (.cons (.cint 0) .nil))) .nil))) (.cons (.tup (.cons (.tup (.cons (.cint 0) (.cons (.cint 0) .nil))) (.cons (.tup (.cons (.cint 1) (.cons (.cint 1) .nil))) .nil))) (.cons (.tup (.cons (.tup (.cons (.cint 1) (.cons (.cint 1) (.cons (.neg (.cint 1)) .nil)))) (.cons (.tup (.cons (.cint 0) (.cons (.cint 0) (.cons (.cint 1) .nil)))) (.cons (.tup (.cons (.cint 0) (.cons (.cint 0) (.cons (.cint 1) .nil)))) .nil)))) (.cons (.tup (.cons (.tup (.cons (.cint 1) (.cons (.neg (.cint 1)) .nil))) (.cons (.tup (.cons (.cint 0) (.cons (.cint 1) .nil))) .nil))) .nil))))))
def s_law_k01_27 : CS := (.ret (.cmp .Eq (.lc (.call f_is_table (.cons (.var 16) .nil)) (.one 16) (.seq (.var 14)) .no) (.bin .Mult (.lst (.cons (.cbl false) .nil)) (.b1 .len (.var 14)))))
/- law -/
def c_law_k01 : CD := ⟨1, 17,
  (.cons s_law_k01_1
  (.cons (.cel 1)
  (.cons s_law_k01_2
  (.cons s_law_k01_3
  (.cons s_law_k01_5
  (.cons s_law_k01_6
  (.cons s_law_k01_8
  (.cons s_law_k01_9
  (.cons s_law_k01_12
  (.cons s_law_k01_14
  (.cons s_law_k01_22
  (.cons s_law_k01_23
  (.cons s_law_k01_24
  (.cons s_law_k01_25
  (.cons s_law_k01_26
  (.cons s_law_k01_27
  .nil))))))))))))))))⟩
def s_sums_of_1 : CS := (.asg 1 (.lst (.cons (.b1 .tuple (.bin .Mult (.lst (.cons (.cint 0) .nil)) (.bin .Add (.b1 .len (.var 0)) (.cint 1)))) .nil)))
def s_sums_of_2 : CS := (.par [3, 4] (.cons (.cint 0) (.cons (.lst (.cons (.cint 0) .nil)) .nil)))
def s_sums_of_3 : CS := (.aug 3 .Add (.var 6))
def s_sums_of_4 : CS := (.app 4 (.bin .Add (.ix (.ix (.var 1) (.neg (.cint 1))) (.bin .Add (.var 5) (.cint 1))) (.var 3)))
def b_sums_of_1 : CSs := (.cons s_sums_of_3
  (.cons s_sums_of_4
  (.cons (.wip [5, 6])
  .nil)))
def s_sums_of_5 : CS := (.for_ (.tup [5, 6]) (.enum (.var 2)) b_sums_of_1)
def s_sums_of_6 : CS := (.app 1 (.b1 .tuple (.var 4)))
def b_sums_of_2 : CSs := (.cons s_sums_of_2
  (.cons (.frz 2)
  (.cons s_sums_of_5
  (.cons s_sums_of_6
  (.cons (.wip [2, 3, 4, 5, 6])
  .nil)))))
def s_sums_of_7 : CS := (.for_ (.one 2) (.seq (.var 0)) b_sums_of_2)
def s_sums_of_8 : CS := (.ret (.b1 .tuple (.var 1)))
/- sums_of -/
def c_sums_of : CD := ⟨1, 7,
  (.cons s_sums_of_1
  (.cons s_sums_of_7
  (.cons s_sums_of_8
  .nil)))⟩
def s_corner_sums_1 : CS := (.ex (.call f_check_table (.cons (.var 0) .nil)))
def s_corner_sums_2 : CS := (.ret (.call f_sums_of (.cons (.var 0) .nil)))
/- corner_sums -/
def c_corner_sums : CD := ⟨1, 1,
  (.cons s_corner_sums_1
  (.cons s_corner_sums_2
  .nil))⟩
def s_are_sums_1 : CS := (.ret (.cbl false))
def s_are_sums_2 : CS := (.ifs (.nt (.call f_is_square (.cons (.var 0) (.cons (.cint 2) (.cons (.bin .Add (.gint "SIZE" 5) (.cint 1)) (.cons (.cint 0) (.cons (.gint "SIZE" 5) .nil)))))))
    (.cons s_are_sums_1
    .nil)
    .nil)
def s_are_sums_3 : CS := (.asg 1 (.bin .Add (.b1 .list (.var 0)) (.call f_columns_of (.cons (.var 0) .nil))))
def s_are_sums_4 : CS := (.par [2, 3] (.cons (.rng true (.b1 .len (.var 0))) (.cons (.b1 .len (.var 0)) .nil)))
def s_are_sums_5 : CS := (.ret (.cbl false))
def s_are_sums_6 : CS := (.ifs (.or_ (.b1 .any (.lc (.cmp .Gt (.b1 .max (.var 4)) (.cint 0)) (.one 4) (.seq (.tup (.cons (.ix (.var 1) (.cint 0)) (.cons (.ix (.var 1) (.var 3)) .nil)))) .no)) (.or_ (.cmp .NotEq (.ix (.var 1) (.bin .Sub (.var 3) (.cint 1))) (.var 2)) (.one (.cmp .NotEq (.ix (.var 1) (.neg (.cint 1))) (.var 2)))))
    (.cons s_are_sums_5
    .nil)
    .nil)
def s_are_sums_7 : CS := (.ret (.cbl false))
def s_are_sums_8 : CS := (.ifs (.b1 .any (.lc (.cmp .NotIn (.bin .Sub (.var 6) (.var 5)) (.tup (.cons (.cint 0) (.cons (.cint 1) .nil)))) (.tup [5, 6]) (.zip (.var 4) (.sl (.var 4) (.yes (.cint 1)) .no)) .no))
    (.cons s_are_sums_7
    .nil)
    .nil)
def b_are_sums_1 : CSs := (.cons s_are_sums_8
  (.cons (.wip [4])
  .nil))
def s_are_sums_9 : CS := (.for_ (.one 4) (.seq (.var 1)) b_are_sums_1)
def s_are_sums_10 : CS := (.ret (.cbl true))
/- are_sums -/
def c_are_sums : CD := ⟨1, 7,
  (.cons s_are_sums_2
  (.cons s_are_sums_3
  (.cons s_are_sums_4
  (.cons s_are_sums_6
  (.cons (.frz 1)
  (.cons s_are_sums_9
  (.cons s_are_sums_10
  .nil)))))))⟩
def s_table_of_1 : CS := (.asg 1 (.lst .nil))
def s_table_of_2 : CS := (.asg 6 (.lc (.bin .Sub (.var 5) (.var 4)) (.tup [4, 5]) (.zip (.var 2) (.var 3)) .no))
def s_table_of_3 : CS := (.app 1 (.b1 .tuple (.lc (.bin .Sub (.var 8) (.var 7)) (.tup [7, 8]) (.zip (.var 6) (.sl (.var 6) (.yes (.cint 1)) .no)) .no)))
def b_table_of_1 : CSs := (.cons s_table_of_2
  (.cons s_table_of_3
  (.cons (.wip [2, 3, 6])
  .nil)))
def s_table_of_4 : CS := (.for_ (.tup [2, 3]) (.zip (.var 0) (.sl (.var 0) (.yes (.cint 1)) .no)) b_table_of_1)
def s_table_of_5 : CS := (.ret (.b1 .tuple (.var 1)))
/- table_of -/
def c_table_of : CD := ⟨1, 9,
  (.cons s_table_of_1
  (.cons s_table_of_4
  (.cons s_table_of_5
  .nil)))⟩
def s_from_sums_1 : CS := (.rais "InvalidSums")
def s_from_sums_2 : CS := (.ifs (.nt (.call f_are_sums (.cons (.var 0) .nil)))
    (.cons s_from_sums_1
    .nil)
    .nil)
def s_from_sums_3 : CS := (.ret (.call f_table_of (.cons (.var 0) .nil)))
/- from_sums -/
def c_from_sums : CD := ⟨1, 1,
  (.cons s_from_sums_2
  (.cons s_from_sums_3
  .nil))⟩
def s_law_k02_1 : CS := (.asg 1 (.lst .nil))
def s_law_k02_2 : CS := (.asg 2 (.call f__law_some_table (.cons (.var 0) (.cons (.var 1) (.cons (.cint 5) .nil)))))
def s_law_k02_3 : CS := (.asg 3 (.b1 .len (.var 2)))
def s_law_k02_4 : CS := (.asg 4 (.call f__law_corners (.cons (.var 2) .nil)))
def s_law_k02_5 : CS := (.ret (.cbl false))
def s_law_k02_6 : CS := (.ifs (.or_ (.cmp .NotEq (.call f_corner_sums (.cons (.var 2) .nil)) (.var 4)) (.or_ (.cmp .IsNot (.call f_are_sums (.cons (.var 4) .nil)) (.cbl true)) (.or_ (.cmp .NotEq (.call f__law_ask (.cons (.var 4) .nil)) (.var 2)) (.one (.nt (.call f__law_sum_like (.cons (.var 4) .nil)))))))
    (.cons s_law_k02_5
    .nil)
    .nil)
def s_law_k02_7 : CS := (.par [6, 7] (.cons (.call f__law_draw (.cons (.var 0) (.cons (.var 1) (.cons (.bin .Add (.var 3) (.cint 1)) .nil)))) (.cons (.call f__law_draw (.cons (.var 0) (.cons (.var 1) (.cons (.bin .Add (.var 3) (.cint 1)) .nil)))) .nil)))
def s_law_k02_8 : CS := (.asg 8 (.mm2 true (.cint 0) (.bin .Sub (.bin .Add (.ix (.ix (.var 4) (.var 6)) (.var 7)) (.bin .Mult (.cint 2) (.call f__law_draw (.cons (.var 0) (.cons (.var 1) (.cons (.cint 2) .nil)))))) (.cint 1))))
def s_law_k02_9 : CS := (.asg 9 (.bin .Add (.bin .Add (.sl (.ix (.var 4) (.var 6)) .no (.yes (.var 7))) (.tup (.cons (.var 8) .nil))) (.sl (.ix (.var 4) (.var 6)) (.yes (.bin .Add (.var 7) (.cint 1))) .no)))
def s_law_k02_10 : CS := (.asg 10 (.bin .Add (.bin .Add (.sl (.var 4) .no (.yes (.var 6))) (.tup (.cons (.var 9) .nil))) (.sl (.var 4) (.yes (.bin .Add (.var 6) (.cint 1))) .no)))
def s_law_k02_11 : CS := (.asg 11 (.call f__law_sum_like (.cons (.var 10) .nil)))
def s_law_k02_12 : CS := (.ret (.cbl false))
def s_law_k02_13 : CS := (.ifs (.nt (.call f__law_same_truth (.cons (.call f_are_sums (.cons (.var 10) .nil)) (.cons (.var 11) .nil))))
    (.cons s_law_k02_12
    .nil)
    .nil)
def s_law_k02_14 : CS := (.asg 12 (.ite (.var 11) (.call f__law_uncorner (.cons (.var 10) .nil)) (.tup (.cons (.cstr "raised") (.cons (.cint 1) .nil)))))
def s_law_k02_15 : CS := (.ret (.cbl false))
def s_law_k02_16 : CS := (.ifs (.or_ (.cmp .NotEq (.call f__law_ask (.cons (.var 10) .nil)) (.var 12)) (.one (.and_ (.var 11) (.one (.or_ (.nt (.call f__law_good (.cons (.var 12) .nil))) (.one (.cmp .IsNot (.call f_is_table (.cons (.var 12) .nil)) (.cbl true))))))))
    (.cons s_law_k02_15
    .nil)
    .nil)
def b_law_k02_1 : CSs := (.cons s_law_k02_7
  (.cons s_law_k02_8
  (.cons s_law_k02_9
  (.cons s_law_k02_10
  (.cons s_law_k02_11
  (.cons s_law_k02_13
  (.cons s_law_k02_14
  (.cons s_law_k02_16
  (.cons (.wip [5, 6, 7, 8, 9, 10, 11, 12])
  .nil)))))))))
def s_law_k02_17 : CS := (.for_ (.one 5) (.rng1 (.cint 6)) b_law_k02_1)
def s_law_k02_18 : CS := (.asg 13 (.lst (.cons .cnon (.cons (.cint 5) (.cons (.tup .nil) (.cons (.tup (.cons (.tup (.cons (.cint 0) .nil)) .nil)) (.cons (.b1 .list (.var 4)) (.cons (.sl (.var 4) (.yes (.cint 1)) .no) (.cons (.bin .Add (.var 4) (.sl (.var 4) .no (.yes (.cint 1)))) (.cons (.bin .Add (.sl (.var 4) .no (.yes (.neg (.cint 1)))) (.tup (.cons (.b1 .list (.ix (.var 4) (.neg (.cint 1)))) .nil))) .nil))))))))))
def s_law_k02_19 : CS := (.ext 13 (.lst (.cons (.tup (.cons (.tup (.cons (.cint 0) (.cons (.cint 0) .nil))) (.cons (.tup (.cons (.cint 0) (.cons (.cbl true) .nil))) .nil))) (.cons (.tup (.cons (.tup (.cons (.cint 0) (.cons (.cint 0) .nil))) (.cons (.tup (.cons (.cint 0) (.cons (.cstr "1") .nil))) .nil))) (.cons (.b1 .tuple (.bin .Mult (.lst (.cons (.bin .Mult (.tup (.cons (.cint 0) .nil)) (.cint 7)) .nil)) (.cint 7))) (.cons (.bin .Add (.sl (.var 4) .no (.yes (.neg (.cint 1)))) (.tup (.cons (.bin .Add (.ix (.var 4) (.neg (.cint 1))) (.tup (.cons (.var 3) .nil))) .nil))) (.cons (.var 2) .nil)))))))
def s_law_k02_20 : CS := (.ret (.cbl false))
def s_law_k02_21 : CS := (.ifs (.cmp .NotEq (.lc (.call f__law_ask (.cons (.var 14) .nil)) (.one 14) (.seq (.var 13)) .no) (.bin .Mult (.lst (.cons (.tup (.cons (.cstr "raised") (.cons (.cint 1) .nil))) .nil)) (.b1 .len (.var 13))))
    (.cons s_law_k02_20
    .nil)
    .nil)
def s_law_k02_22 : CS := (.ret (.cmp .Eq (.lc (.call f_are_sums (.cons (.var 14) .nil)) (.one 14) (.seq (.var 13)) .no) (.bin .Mult (.lst (.cons (.cbl false) .nil)) (.b1 .len (.var 13)))))
/- law -/
def c_law_k02 : CD := ⟨1, 15,
  (.cons s_law_k02_1
  (.cons (.cel 1)
  (.cons s_law_k02_2
  (.cons s_law_k02_3
  (.cons s_law_k02_4
  (.cons s_law_k02_6
  (.cons s_law_k02_17
  (.cons s_law_k02_18
  (.cons s_law_k02_19
  (.cons s_law_k02_21
  (.cons s_law_k02_22
  .nil)))))))))))⟩
def s_check_two_1 : CS := (.ex (.call f_check_table (.cons (.var 0) .nil)))
def s_check_two_2 : CS := (.ex (.call f_check_table (.cons (.var 1) .nil)))
def s_check_two_3 : CS := (.rais "InvalidTable")
def s_check_two_4 : CS := (.ifs (.cmp .NotEq (.b1 .len (.var 0)) (.b1 .len (.var 1)))
    (.cons s_check_two_3
    .nil)
    .nil)
/- check_two -/
def c_check_two : CD := ⟨2, 2,
  (.cons s_check_two_1
  (.cons s_check_two_2
  (.cons s_check_two_4
  .nil)))⟩
def s_lines_of_1 : CS := (.asg 1 (.lst (.cons (.tup .nil) .nil)))
def s_lines_of_2 : CS := (.asg 3 (.lst .nil))
def s_lines_of_3 : CS := (.ext 3 (.lc (.bin .Add (.var 4) (.tup (.cons (.var 5) .nil))) (.one 5) (.seq (.tup (.cons (.neg (.cint 1)) (.cons (.cint 0) (.cons (.cint 1) .nil))))) (.yes (.cmp .In (.bin .Add (.b1 .sum (.var 4)) (.var 5)) (.tup (.cons (.cint 0) (.cons (.cint 1) .nil)))))))
def b_lines_of_1 : CSs := (.cons s_lines_of_3
  (.cons (.wip [4])
  .nil))
def s_lines_of_4 : CS := (.for_ (.one 4) (.seq (.var 1)) b_lines_of_1)
def s_lines_of_5 : CS := (.mv 1 3)
def b_lines_of_2 : CSs := (.cons s_lines_of_2
  (.cons (.frz 1)
  (.cons s_lines_of_4
  (.cons s_lines_of_5
  (.cons (.wip [2, 3, 4])
  .nil)))))
def s_lines_of_6 : CS := (.for_ (.one 2) (.rng1 (.var 0)) b_lines_of_2)
def s_lines_of_7 : CS := (.ret (.lc (.var 4) (.one 4) (.seq (.var 1)) (.yes (.call f_alternates (.cons (.var 4) .nil)))))
/- lines_of -/
def c_lines_of : CD := ⟨1, 6,
  (.cons s_lines_of_1
  (.cons (.frz 1)
  (.cons s_lines_of_6
  (.cons s_lines_of_7
  .nil))))⟩
def s_tables_of_1 : CS := (.par [1, 2] (.cons (.lst (.cons (.tup (.cons (.tup .nil) (.cons (.bin .Mult (.tup (.cons (.cint 0) .nil)) (.var 0)) .nil))) .nil)) (.cons (.call f_lines_of (.cons (.var 0) .nil)) .nil)))
def s_tables_of_2 : CS := (.asg 4 (.lst .nil))
def s_tables_of_3 : CS := (.asg 10 (.b1 .tuple (.lc (.bin .Add (.var 8) (.var 9)) (.tup [8, 9]) (.zip (.var 6) (.var 7)) .no)))
def s_tables_of_4 : CS := (.app 4 (.tup (.cons (.bin .Add (.var 5) (.tup (.cons (.var 7) .nil))) (.cons (.var 10) .nil))))
def s_tables_of_5 : CS := (.ifs (.and_ (.cmp .GtE (.b1 .min (.var 10)) (.cint 0)) (.one (.cmp .LtE (.b1 .max (.var 10)) (.cint 1))))
    (.cons s_tables_of_4
    .nil)
    .nil)
def b_tables_of_1 : CSs := (.cons s_tables_of_3
  (.cons s_tables_of_5
  (.cons (.wip [7, 10])
  .nil)))
def s_tables_of_6 : CS := (.for_ (.one 7) (.seq (.var 2)) b_tables_of_1)
def b_tables_of_2 : CSs := (.cons (.frz 2)
  (.cons s_tables_of_6
  (.cons (.wip [5, 6, 7, 10])
  .nil)))
def s_tables_of_7 : CS := (.for_ (.tup [5, 6]) (.seq (.var 1)) b_tables_of_2)
def s_tables_of_8 : CS := (.mv 1 4)
def b_tables_of_3 : CSs := (.cons s_tables_of_2
  (.cons (.frz 1)
  (.cons s_tables_of_7
  (.cons s_tables_of_8
  (.cons (.wip [3, 4, 5, 6, 7, 10])
  .nil)))))
def s_tables_of_9 : CS := (.for_ (.one 3) (.rng1 (.var 0)) b_tables_of_3)
def s_tables_of_10 : CS := (.ret (.lc (.var 5) (.tup [5, 10]) (.seq (.var 1)) (.yes (.cmp .Eq (.b1 .min (.var 10)) (.cint 1)))))
/- tables_of -/
def c_tables_of : CD := ⟨1, 11,
  (.cons s_tables_of_1
  (.cons (.frz 1)
  (.cons (.frz 2)
  (.cons s_tables_of_9
  (.cons s_tables_of_10
  .nil)))))⟩
def s_below_1 : CS := (.ret (.cbl false))
def s_below_2 : CS := (.ifs (.b1 .any (.lc (.cmp .Lt (.var 4) (.var 5)) (.tup [4, 5]) (.zip (.var 2) (.var 3)) .no))
    (.cons s_below_1
    .nil)
    .nil)
def b_below_1 : CSs := (.cons s_below_2
  (.cons (.wip [2, 3])
  .nil))
def s_below_3 : CS := (.for_ (.tup [2, 3]) (.zip (.call f_sums_of (.cons (.var 0) .nil)) (.call f_sums_of (.cons (.var 1) .nil))) b_below_1)
def s_below_4 : CS := (.ret (.cbl true))
/- below -/
def c_below : CD := ⟨2, 6,
  (.cons s_below_3
  (.cons s_below_4
  .nil))⟩
def s_is_below_1 : CS := (.ex (.call f_check_two (.cons (.var 0) (.cons (.var 1) .nil))))
def s_is_below_2 : CS := (.ret (.call f_below (.cons (.var 0) (.cons (.var 1) .nil))))
/- is_below -/
def c_is_below : CD := ⟨2, 2,
  (.cons s_is_below_1
  (.cons s_is_below_2
  .nil))⟩
def s_merged_1 : CS := (.asg 3 (.lst .nil))
def s_merged_2 : CS := (.app 3 (.b1 .tuple (.lc (.ite (.var 2) (.b1 .min (.var 6)) (.b1 .max (.var 6))) (.one 6) (.zip (.var 4) (.var 5)) .no)))
def b_merged_1 : CSs := (.cons s_merged_2
  (.cons (.wip [4, 5])
  .nil))
def s_merged_3 : CS := (.for_ (.tup [4, 5]) (.zip (.call f_sums_of (.cons (.var 0) .nil)) (.call f_sums_of (.cons (.var 1) .nil))) b_merged_1)
def s_merged_4 : CS := (.ret (.call f_table_of (.cons (.b1 .tuple (.var 3)) .nil)))
/- merged -/
def c_merged : CD := ⟨3, 7,
  (.cons s_merged_1
  (.cons s_merged_3
  (.cons s_merged_4
  .nil)))⟩
def s_least_above_1 : CS := (.ex (.call f_check_two (.cons (.var 0) (.cons (.var 1) .nil))))
def s_least_above_2 : CS := (.ret (.call f_merged (.cons (.var 0) (.cons (.var 1) (.cons (.cbl true) .nil)))))
/- least_above -/
def c_least_above : CD := ⟨2, 2,
  (.cons s_least_above_1
  (.cons s_least_above_2
  .nil))⟩
def s_greatest_below_1 : CS := (.ex (.call f_check_two (.cons (.var 0) (.cons (.var 1) .nil))))
def s_greatest_below_2 : CS := (.ret (.call f_merged (.cons (.var 0) (.cons (.var 1) (.cons (.cbl false) .nil)))))
/- greatest_below -/
def c_greatest_below : CD := ⟨2, 2,
  (.cons s_greatest_below_1
  (.cons s_greatest_below_2
  .nil))⟩
def s_permutation_tables_1 : CS := (.ret (.lc (.var 1) (.one 1) (.seq (.call f_tables_of (.cons (.var 0) .nil))) (.yes (.cmp .Eq (.call f_negative_count (.cons (.var 1) .nil)) (.cint 0)))))
/- permutation_tables -/
def c_permutation_tables : CD := ⟨1, 2,
  (.cons s_permutation_tables_1
  .nil)⟩
def s_permutations_below_1 : CS := (.ex (.call f_check_table (.cons (.var 0) .nil)))
def s_permutations_below_2 : CS := (.ret (.lc (.var 1) (.one 1) (.seq (.call f_permutation_tables (.cons (.b1 .len (.var 0)) .nil))) (.yes (.call f_below (.cons (.var 1) (.cons (.var 0) .nil))))))
/- permutations_below -/
def c_permutations_below : CD := ⟨1, 2,
  (.cons s_permutations_below_1
  (.cons s_permutations_below_2
  .nil))⟩
def s_permutations_above_1 : CS := (.ex (.call f_check_table (.cons (.var 0) .nil)))
def s_permutations_above_2 : CS := (.ret (.lc (.var 1) (.one 1) (.seq (.call f_permutation_tables (.cons (.b1 .len (.var 0)) .nil))) (.yes (.call f_below (.cons (.var 0) (.cons (.var 1) .nil))))))
/- permutations_above -/
def c_permutations_above : CD := ⟨1, 2,
  (.cons s_permutations_above_1
  (.cons s_permutations_above_2
  .nil))⟩
def s__law_same_size_1 : CS := (.asg 3 (.b1 .len (.var 2)))
def s__law_same_size_2 : CS := (.asg 5 (.rows 4 (.call f__law_corners (.cons (.var 2) .nil))))
def s__law_same_size_3 : CS := (.par [7, 8] (.cons (.bin .Add (.cint 1) (.call f__law_draw (.cons (.var 0) (.cons (.var 1) (.cons (.bin .Sub (.var 3) (.cint 1)) .nil))))) (.cons (.bin .Add (.cint 1) (.call f__law_draw (.cons (.var 0) (.cons (.var 1) (.cons (.bin .Sub (.var 3) (.cint 1)) .nil))))) .nil)))
def s__law_same_size_4 : CS := (.asg 9 (.bin .Sub (.bin .Mult (.cint 2) (.call f__law_draw (.cons (.var 0) (.cons (.var 1) (.cons (.cint 2) .nil))))) (.cint 1)))
def s__law_same_size_5 : CS := (.aug2 5 (.var 7) (.var 8) .Add (.var 9))
def s__law_same_size_6 : CS := (.aug2 5 (.var 7) (.var 8) .Sub (.var 9))
def s__law_same_size_7 : CS := (.ifs (.nt (.call f__law_sum_like (.cons (.var 5) .nil)))
    (.cons s__law_same_size_6
    .nil)
    .nil)
def b__law_same_size_1 : CSs := (.cons s__law_same_size_3
  (.cons s__law_same_size_4
  (.cons s__law_same_size_5
  (.cons s__law_same_size_7
  (.cons (.wip [6, 7, 8, 9])
  .nil)))))
def s__law_same_size_8 : CS := (.for_ (.one 6) (.rng1 (.bin .Add (.cint 1) (.call f__law_draw (.cons (.var 0) (.cons (.var 1) (.cons (.cint 9) .nil)))))) b__law_same_size_1)
def s__law_same_size_9 : CS := (.ret (.call f__law_uncorner (.cons (.var 5) .nil)))
def s__law_same_size_10 : CS := (.ifs (.and_ (.cmp .Gt (.var 3) (.cint 1)) (.one (.cmp .Eq (.call f__law_draw (.cons (.var 0) (.cons (.var 1) (.cons (.cint 2) .nil)))) (.cint 0))))
    (.cons s__law_same_size_2
    (.cons s__law_same_size_8
    (.cons s__law_same_size_9
    .nil)))
    .nil)
def s__law_same_size_11 : CS := (.par [10, 11] (.cons (.rng false (.var 3)) (.cons (.lst .nil) .nil)))
def s__law_same_size_12 : CS := (.asg 12 (.call f__law_pick (.cons (.var 0) (.cons (.var 1) (.cons (.var 10) .nil)))))
def s__law_same_size_13 : CS := (.rem 10 (.var 12))
def s__law_same_size_14 : CS := (.app 11 (.b1 .tuple (.lc (.ite (.cmp .Eq (.var 13) (.var 12)) (.cint 1) (.cint 0)) (.one 13) (.rng1 (.var 3)) .no)))
def b__law_same_size_2 : CSs := (.cons s__law_same_size_12
  (.cons s__law_same_size_13
  (.cons s__law_same_size_14
  (.cons (.wip [6, 12])
  .nil))))
def s__law_same_size_15 : CS := (.for_ (.one 6) (.rng1 (.var 3)) b__law_same_size_2)
def s__law_same_size_16 : CS := (.ret (.b1 .tuple (.var 11)))
/- _law_same_size -/
def c__law_same_size : CD := ⟨3, 14,
  (.cons s__law_same_size_1
  (.cons s__law_same_size_10
  (.cons s__law_same_size_11
  (.cons s__law_same_size_15
  (.cons s__law_same_size_16
  .nil)))))⟩
def s__law_under_1 : CS := (.ret (.cbl false))
def s__law_under_2 : CS := (.ifs (.cmp .NotEq (.lc (.cint 1) (.tup [4, 5]) (.zip (.var 2) (.var 3)) (.yes (.cmp .Lt (.var 4) (.var 5)))) (.lst .nil))
    (.cons s__law_under_1
    .nil)
    .nil)
def b__law_under_1 : CSs := (.cons s__law_under_2
  (.cons (.wip [2, 3])
  .nil))
def s__law_under_3 : CS := (.for_ (.tup [2, 3]) (.zip (.call f__law_corners (.cons (.var 0) .nil)) (.call f__law_corners (.cons (.var 1) .nil))) b__law_under_1)
def s__law_under_4 : CS := (.ret (.cbl true))
/- _law_under -/
def c__law_under : CD := ⟨2, 6,
  (.cons s__law_under_3
  (.cons s__law_under_4
  .nil))⟩
def s__law_single_1 : CS := (.asg 1 (.lst (.cons (.tup .nil) .nil)))
def s__law_single_2 : CS := (.asg 3 (.lst .nil))
def s__law_single_3 : CS := (.ext 3 (.lc (.bin .Add (.var 4) (.tup (.cons (.var 5) .nil))) (.one 5) (.rng1 (.var 0)) (.yes (.cmp .NotIn (.var 5) (.var 4)))))
def b__law_single_1 : CSs := (.cons s__law_single_3
  (.cons (.wip [4])
  .nil))
def s__law_single_4 : CS := (.for_ (.one 4) (.seq (.var 1)) b__law_single_1)
def s__law_single_5 : CS := (.mv 1 3)
def b__law_single_2 : CSs := (.cons s__law_single_2
  (.cons (.frz 1)
  (.cons s__law_single_4
  (.cons s__law_single_5
  (.cons (.wip [2, 3, 4])
  .nil)))))
def s__law_single_6 : CS := (.for_ (.one 2) (.rng1 (.var 0)) b__law_single_2)
def s__law_single_7 : CS := (.asg 6 (.lst .nil))
def s__law_single_8 : CS := (.app 6 (.b1 .tuple (.lc (.b1 .tuple (.lc (.ite (.cmp .Eq (.var 7) (.var 5)) (.cint 1) (.cint 0)) (.one 7) (.rng1 (.var 0)) .no)) (.one 5) (.seq (.var 4)) .no)))
def b__law_single_3 : CSs := (.cons s__law_single_8
  (.cons (.wip [4])
  .nil))
def s__law_single_9 : CS := (.for_ (.one 4) (.seq (.var 1)) b__law_single_3)
def s__law_single_10 : CS := (.ret (.b1 .sorted (.var 6)))
/- _law_single -/
def c__law_single : CD := ⟨1, 8,
  (.cons s__law_single_1
  (.cons (.frz 1)
  (.cons s__law_single_6
  (.cons s__law_single_7
  (.cons (.frz 1)
  (.cons s__law_single_9
  (.cons s__law_single_10
  .nil)))))))⟩
def s__law_chosen_1 : CS := (.asg 3 (.lc (.call f__law_corners (.cons (.var 2) .nil)) (.one 2) (.seq (.var 0)) .no))
def s__law_chosen_2 : CS := (.asg 4 (.b1 .len (.ix (.var 0) (.cint 0))))
def s__law_chosen_3 : CS := (.asg 5 (.lst .nil))
def s__law_chosen_4 : CS := (.asg 7 (.lst .nil))
def s__law_chosen_5 : CS := (.asg 10 (.lc (.ix (.ix (.var 9) (.var 6)) (.var 8)) (.one 9) (.seq (.var 3)) .no))
def s__law_chosen_6 : CS := (.app 7 (.ite (.var 1) (.b1 .min (.var 10)) (.b1 .max (.var 10))))
def b__law_chosen_1 : CSs := (.cons s__law_chosen_5
  (.cons s__law_chosen_6
  (.cons (.wip [8, 10])
  .nil)))
def s__law_chosen_7 : CS := (.for_ (.one 8) (.rng1 (.bin .Add (.var 4) (.cint 1))) b__law_chosen_1)
def s__law_chosen_8 : CS := (.app 5 (.b1 .tuple (.var 7)))
def b__law_chosen_2 : CSs := (.cons s__law_chosen_4
  (.cons s__law_chosen_7
  (.cons s__law_chosen_8
  (.cons (.wip [6, 7, 8, 10])
  .nil))))
def s__law_chosen_9 : CS := (.for_ (.one 6) (.rng1 (.bin .Add (.var 4) (.cint 1))) b__law_chosen_2)
def s__law_chosen_10 : CS := (.ret (.call f__law_uncorner (.cons (.b1 .tuple (.var 5)) .nil)))
/- _law_chosen -/
def c__law_chosen : CD := ⟨2, 11,
  (.cons s__law_chosen_1
  (.cons s__law_chosen_2
  (.cons s__law_chosen_3
  (.cons s__law_chosen_9
  (.cons s__law_chosen_10
  .nil)))))⟩
def s_law_k03_1 : CS := (.asg 1 (.lst .nil))
def s_law_k03_2 : CS := (.asg 2 (.call f__law_some_table (.cons (.var 0) (.cons (.var 1) (.cons (.cint 5) .nil)))))
def s_law_k03_3 : CS := (.asg 3 (.call f__law_same_size (.cons (.var 0) (.cons (.var 1) (.cons (.var 2) .nil)))))
def s_law_k03_4 : CS := (.asg 4 (.b1 .len (.var 2)))
def s_law_k03_5 : CS := (.ret (.cbl false))
def s_law_k03_6 : CS := (.ifs (.or_ (.nt (.call f__law_same_truth (.cons (.call f_is_below (.cons (.var 2) (.cons (.var 3) .nil))) (.cons (.call f__law_under (.cons (.var 2) (.cons (.var 3) .nil))) .nil)))) (.one (.cmp .IsNot (.call f_is_below (.cons (.var 2) (.cons (.var 2) .nil))) (.cbl true))))
    (.cons s_law_k03_5
    .nil)
    .nil)
def s_law_k03_7 : CS := (.par [5, 6] (.cons (.call f__law_chosen (.cons (.lst (.cons (.var 2) (.cons (.var 3) .nil))) (.cons (.cbl true) .nil))) (.cons (.call f__law_chosen (.cons (.lst (.cons (.var 2) (.cons (.var 3) .nil))) (.cons (.cbl false) .nil))) .nil)))
def s_law_k03_8 : CS := (.ret (.cbl false))
def s_law_k03_9 : CS := (.ifs (.or_ (.cmp .NotEq (.call f_least_above (.cons (.var 2) (.cons (.var 3) .nil))) (.var 5)) (.one (.cmp .NotEq (.call f_greatest_below (.cons (.var 2) (.cons (.var 3) .nil))) (.var 6))))
    (.cons s_law_k03_8
    .nil)
    .nil)
def s_law_k03_10 : CS := (.ret (.cbl false))
def s_law_k03_11 : CS := (.ifs (.or_ (.cmp .IsNot (.call f_is_table (.cons (.var 7) .nil)) (.cbl true)) (.one (.nt (.call f__law_good (.cons (.var 7) .nil)))))
    (.cons s_law_k03_10
    .nil)
    .nil)
def b_law_k03_1 : CSs := (.cons s_law_k03_11
  (.cons (.wip [7])
  .nil))
def s_law_k03_12 : CS := (.for_ (.one 7) (.seq (.tup (.cons (.var 5) (.cons (.var 6) .nil)))) b_law_k03_1)
def s_law_k03_13 : CS := (.ret (.cbl false))
def s_law_k03_14 : CS := (.ifs (.nt (.and_ (.call f__law_under (.cons (.var 2) (.cons (.var 5) .nil))) (.and_ (.call f__law_under (.cons (.var 3) (.cons (.var 5) .nil))) (.and_ (.call f__law_under (.cons (.var 6) (.cons (.var 2) .nil))) (.one (.call f__law_under (.cons (.var 6) (.cons (.var 3) .nil))))))))
    (.cons s_law_k03_13
    .nil)
    .nil)
def s_law_k03_15 : CS := (.asg 8 (.call f__law_single (.cons (.var 4) .nil)))
def s_law_k03_16 : CS := (.asg 9 (.lc (.var 7) (.one 7) (.seq (.var 8)) (.yes (.call f__law_under (.cons (.var 7) (.cons (.var 2) .nil))))))
def s_law_k03_17 : CS := (.asg 10 (.lc (.var 7) (.one 7) (.seq (.var 8)) (.yes (.call f__law_under (.cons (.var 2) (.cons (.var 7) .nil))))))
def s_law_k03_18 : CS := (.ret (.cbl false))
def s_law_k03_19 : CS := (.ifs (.or_ (.cmp .NotEq (.call f_permutations_below (.cons (.var 2) .nil)) (.var 9)) (.one (.cmp .NotEq (.call f_permutations_above (.cons (.var 2) .nil)) (.var 10))))
    (.cons s_law_k03_18
    .nil)
    .nil)
def s_law_k03_20 : CS := (.ret (.and_ (.cmp .Eq (.call f__law_chosen (.cons (.var 9) (.cons (.cbl true) .nil))) (.var 2)) (.one (.cmp .Eq (.call f__law_chosen (.cons (.var 10) (.cons (.cbl false) .nil))) (.var 2)))))
/- law -/
def c_law_k03 : CD := ⟨1, 11,
  (.cons s_law_k03_1
  (.cons (.cel 1)
  (.cons s_law_k03_2
  (.cons s_law_k03_3
  (.cons s_law_k03_4
  (.cons s_law_k03_6
  (.cons s_law_k03_7
  (.cons s_law_k03_9
  (.cons s_law_k03_12
  (.cons s_law_k03_14
  (.cons s_law_k03_15
  (.cons s_law_k03_16
  (.cons s_law_k03_17
  (.cons s_law_k03_19
  (.cons s_law_k03_20
  .nil)))))))))))))))⟩
def s_triangle_1 : CS := (.ex (.call f_check_table (.cons (.var 0) .nil)))
def s_triangle_2 : CS := (.par [1, 2] (.cons (.bin .Mult (.lst (.cons (.cint 0) .nil)) (.b1 .len (.var 0))) (.cons (.lst .nil) .nil)))
def s_triangle_3 : CS := (.asg 1 (.lc (.bin .Add (.var 4) (.var 5)) (.tup [4, 5]) (.zip (.var 1) (.var 3)) .no))
def s_triangle_4 : CS := (.app 2 (.b1 .tuple (.lc (.var 6) (.tup [6, 4]) (.enum (.var 1)) (.yes (.cmp .Eq (.var 4) (.cint 1))))))
def b_triangle_1 : CSs := (.cons s_triangle_3
  (.cons s_triangle_4
  (.cons (.wip [3])
  .nil)))
def s_triangle_5 : CS := (.for_ (.one 3) (.seq (.var 0)) b_triangle_1)
def s_triangle_6 : CS := (.ret (.b1 .tuple (.var 2)))
/- triangle -/
def c_triangle : CD := ⟨1, 7,
  (.cons s_triangle_1
  (.cons s_triangle_2
  (.cons s_triangle_5
  (.cons s_triangle_6
  .nil))))⟩
def s_is_triangle_1 : CS := (.ret (.cbl false))
def s_is_triangle_2 : CS := (.ifs (.or_ (.nt (.isi .tuple (.var 0))) (.one (.nt (.chain .LtE .LtE (.cint 1) (.b1 .len (.var 0)) (.gint "SIZE" 5)))))
    (.cons s_is_triangle_1
    .nil)
    .nil)
def s_is_triangle_3 : CS := (.ret (.cbl false))
def s_is_triangle_4 : CS := (.ifs (.or_ (.nt (.isi .tuple (.var 2))) (.one (.cmp .NotEq (.b1 .len (.var 2)) (.bin .Add (.var 1) (.cint 1)))))
    (.cons s_is_triangle_3
    .nil)
    .nil)
def s_is_triangle_5 : CS := (.ret (.cbl false))
def s_is_triangle_6 : CS := (.ifs (.nt (.b1 .all (.lc (.call f_is_integer (.cons (.var 3) (.cons (.cint 0) (.cons (.bin .Sub (.b1 .len (.var 0)) (.cint 1)) .nil)))) (.one 3) (.seq (.var 2)) .no)))
    (.cons s_is_triangle_5
    .nil)
    .nil)
def s_is_triangle_7 : CS := (.ret (.cbl false))
def s_is_triangle_8 : CS := (.ifs (.nt (.b1 .all (.lc (.cmp .Lt (.var 3) (.var 4)) (.tup [3, 4]) (.zip (.var 2) (.sl (.var 2) (.yes (.cint 1)) .no)) .no)))
    (.cons s_is_triangle_7
    .nil)
    .nil)
def b_is_triangle_1 : CSs := (.cons s_is_triangle_4
  (.cons s_is_triangle_6
  (.cons s_is_triangle_8
  (.cons (.wip [1, 2])
  .nil))))
def s_is_triangle_9 : CS := (.for_ (.tup [1, 2]) (.enum (.var 0)) b_is_triangle_1)
def s_is_triangle_10 : CS := (.ret (.cbl false))
def s_is_triangle_11 : CS := (.ifs (.nt (.b1 .all (.lc (.chain .LtE .LtE (.ix (.var 5) (.var 1)) (.var 3) (.ix (.var 5) (.bin .Add (.var 1) (.cint 1)))) (.tup [1, 3]) (.enum (.var 2)) .no)))
    (.cons s_is_triangle_10
    .nil)
    .nil)
def b_is_triangle_2 : CSs := (.cons s_is_triangle_11
  (.cons (.wip [2, 5])
  .nil))
def s_is_triangle_12 : CS := (.for_ (.tup [2, 5]) (.zip (.var 0) (.sl (.var 0) (.yes (.cint 1)) .no)) b_is_triangle_2)
def s_is_triangle_13 : CS := (.ret (.cbl true))
/- is_triangle -/
def c_is_triangle : CD := ⟨1, 6,
  (.cons s_is_triangle_2
  (.cons s_is_triangle_9
  (.cons s_is_triangle_12
  (.cons s_is_triangle_13
  .nil))))⟩
def s_from_triangle_1 : CS := (.rais "InvalidTriangle")
def s_from_triangle_2 : CS := (.ifs (.nt (.call f_is_triangle (.cons (.var 0) .nil)))
    (.cons s_from_triangle_1
    .nil)
    .nil)
def s_from_triangle_3 : CS := (.asg 1 (.b1 .len (.var 0)))
def s_from_triangle_4 : CS := (.par [2, 3] (.cons (.bin .Mult (.lst (.cons (.cint 0) .nil)) (.var 1)) (.cons (.lst .nil) .nil)))
def s_from_triangle_5 : CS := (.asg 6 (.lc (.ite (.cmp .In (.var 5) (.var 4)) (.cint 1) (.cint 0)) (.one 5) (.rng1 (.var 1)) .no))
def s_from_triangle_6 : CS := (.app 3 (.b1 .tuple (.lc (.bin .Sub (.var 7) (.var 8)) (.tup [7, 8]) (.zip (.var 6) (.var 2)) .no)))
def s_from_triangle_7 : CS := (.mv 2 6)
def b_from_triangle_1 : CSs := (.cons s_from_triangle_5
  (.cons s_from_triangle_6
  (.cons s_from_triangle_7
  (.cons (.wip [4, 6])
  .nil))))
def s_from_triangle_8 : CS := (.for_ (.one 4) (.seq (.var 0)) b_from_triangle_1)
def s_from_triangle_9 : CS := (.ret (.b1 .tuple (.var 3)))
/- from_triangle -/
def c_from_triangle : CD := ⟨1, 9,
  (.cons s_from_triangle_2
  (.cons s_from_triangle_3
  (.cons s_from_triangle_4
  (.cons s_from_triangle_8
  (.cons s_from_triangle_9
  .nil)))))⟩
def s_law_k04_1 : CS := (.asg 1 (.lst .nil))
def s_law_k04_2 : CS := (.asg 2 (.call f__law_some_table (.cons (.var 0) (.cons (.var 1) (.cons (.cint 5) .nil)))))
def s_law_k04_3 : CS := (.asg 3 (.b1 .len (.var 2)))
def s_law_k04_4 : CS := (.asg 4 (.lst .nil))
def s_law_k04_5 : CS := (.app 4 (.b1 .tuple (.lc (.var 6) (.one 6) (.rng1 (.var 3)) (.yes (.cmp .Eq (.b1 .sum (.lc (.ix (.var 7) (.var 6)) (.one 7) (.seq (.sl (.var 2) .no (.yes (.var 5)))) .no)) (.cint 1))))))
def b_law_k04_1 : CSs := (.cons s_law_k04_5
  (.cons (.wip [5])
  .nil))
def s_law_k04_6 : CS := (.for_ (.one 5) (.rng2 (.cint 1) (.bin .Add (.var 3) (.cint 1))) b_law_k04_1)
def s_law_k04_7 : CS := (.asg 8 (.b1 .tuple (.var 4)))
def s_law_k04_8 : CS := (.ret (.cbl false))
def s_law_k04_9 : CS := (.ifs (.or_ (.cmp .NotEq (.call f_triangle (.cons (.var 2) .nil)) (.var 8)) (.or_ (.cmp .IsNot (.call f_is_triangle (.cons (.var 8) .nil)) (.cbl true)) (.one (.cmp .NotEq (.call f__law_ask_1 (.cons (.var 8) .nil)) (.var 2)))))
    (.cons s_law_k04_8
    .nil)
    .nil)
def s_law_k04_10 : CS := (.asg 5 (.call f__law_draw (.cons (.var 0) (.cons (.var 1) (.cons (.var 3) .nil)))))
def s_law_k04_11 : CS := (.asg 6 (.call f__law_draw (.cons (.var 0) (.cons (.var 1) (.cons (.bin .Add (.var 5) (.cint 1)) .nil)))))
def s_law_k04_12 : CS := (.asg 7 (.bin .Add (.bin .Add (.sl (.ix (.var 8) (.var 5)) .no (.yes (.var 6))) (.tup (.cons (.call f__law_draw (.cons (.var 0) (.cons (.var 1) (.cons (.var 3) .nil)))) .nil))) (.sl (.ix (.var 8) (.var 5)) (.yes (.bin .Add (.var 6) (.cint 1))) .no)))
def s_law_k04_13 : CS := (.asg 10 (.bin .Add (.bin .Add (.sl (.var 8) .no (.yes (.var 5))) (.tup (.cons (.var 7) .nil))) (.sl (.var 8) (.yes (.bin .Add (.var 5) (.cint 1))) .no)))
def s_law_k04_14 : CS := (.asg 11 (.call f__law_fits (.cons (.var 10) (.cons (.var 3) .nil))))
def s_law_k04_15 : CS := (.ret (.cbl false))
def s_law_k04_16 : CS := (.ifs (.nt (.call f__law_same_truth (.cons (.call f_is_triangle (.cons (.var 10) .nil)) (.cons (.var 11) .nil))))
    (.cons s_law_k04_15
    .nil)
    .nil)
def s_law_k04_17 : CS := (.asg 12 (.call f__law_ask_1 (.cons (.var 10) .nil)))
def s_law_k04_18 : CS := (.ret (.cbl false))
def s_law_k04_19 : CS := (.ifs (.or_ (.and_ (.var 11) (.one (.or_ (.cmp .IsNot (.call f_is_table (.cons (.var 12) .nil)) (.cbl true)) (.one (.cmp .NotEq (.call f_triangle (.cons (.var 12) .nil)) (.var 10)))))) (.one (.and_ (.nt (.var 11)) (.one (.cmp .NotEq (.var 12) (.tup (.cons (.cstr "raised") (.cons (.cint 2) .nil))))))))
    (.cons s_law_k04_18
    .nil)
    .nil)
def b_law_k04_2 : CSs := (.cons s_law_k04_10
  (.cons s_law_k04_11
  (.cons s_law_k04_12
  (.cons s_law_k04_13
  (.cons s_law_k04_14
  (.cons s_law_k04_16
  (.cons s_law_k04_17
  (.cons s_law_k04_19
  (.cons (.wip [9, 5, 6, 7, 10, 11, 12])
  .nil)))))))))
def s_law_k04_20 : CS := (.for_ (.one 9) (.rng1 (.cint 6)) b_law_k04_2)
def s_law_k04_21 : CS := (.asg 13 (.lst (.cons .cnon (.cons (.cint 5) (.cons (.tup .nil) (.cons (.b1 .list (.var 8)) (.cons (.bin .Add (.sl (.var 8) (.yes (.cint 1)) .no) (.tup (.cons .cnon .nil))) (.cons (.bin .Add (.var 8) (.sl (.var 8) .no (.yes (.cint 1)))) (.cons (.bin .Add (.rev (.var 8)) (.tup (.cons (.tup .nil) .nil))) (.cons (.tup (.cons (.tup (.cons (.cbl true) .nil)) .nil)) .nil))))))))))
def s_law_k04_22 : CS := (.ext 13 (.lst (.cons (.tup (.cons (.tup (.cons (.cstr "0") .nil)) .nil)) (.cons (.tup (.cons (.tup (.cons (.cint 1) .nil)) .nil)) (.cons (.tup (.cons (.lst (.cons (.cint 0) .nil)) .nil)) .nil)))))
def s_law_k04_23 : CS := (.ret (.cbl false))
def s_law_k04_24 : CS := (.ifs (.cmp .NotEq (.lc (.call f__law_ask_1 (.cons (.var 14) .nil)) (.one 14) (.seq (.var 13)) .no) (.bin .Mult (.lst (.cons (.tup (.cons (.cstr "raised") (.cons (.cint 2) .nil))) .nil)) (.b1 .len (.var 13))))
    (.cons s_law_k04_23
    .nil)
    .nil)
def s_law_k04_25 : CS := (.ret (.cmp .Eq (.lc (.call f_is_triangle (.cons (.var 14) .nil)) (.one 14) (.seq (.var 13)) .no) (.bin .Mult (.lst (.cons (.cbl false) .nil)) (.b1 .len (.var 13)))))
/- law -/
def c_law_k04 : CD := ⟨1, 15,
  (.cons s_law_k04_1
  (.cons (.cel 1)
  (.cons s_law_k04_2
  (.cons s_law_k04_3
  (.cons s_law_k04_4
  (.cons s_law_k04_6
  (.cons s_law_k04_7
  (.cons s_law_k04_9
  (.cons s_law_k04_20
  (.cons s_law_k04_21
  (.cons s_law_k04_22
  (.cons s_law_k04_24
  (.cons s_law_k04_25
  .nil)))))))))))))⟩
def s_apart_1 : CS := (.asg 2 (.cint 0))
def s_apart_2 : CS := (.aug 2 .Add (.b1 .sum (.lc (.mm2 true (.bin .Sub (.var 5) (.var 6)) (.bin .Sub (.var 6) (.var 5))) (.tup [5, 6]) (.zip (.var 3) (.var 4)) .no)))
def b_apart_1 : CSs := (.cons s_apart_2
  (.cons (.wip [3, 4])
  .nil))
def s_apart_3 : CS := (.for_ (.tup [3, 4]) (.zip (.call f_sums_of (.cons (.var 0) .nil)) (.call f_sums_of (.cons (.var 1) .nil))) b_apart_1)
def s_apart_4 : CS := (.retv 2)
/- apart -/
def c_apart : CD := ⟨2, 7,
  (.cons s_apart_1
  (.cons s_apart_3
  (.cons s_apart_4
  .nil)))⟩
def s_distance_1 : CS := (.ex (.call f_check_two (.cons (.var 0) (.cons (.var 1) .nil))))
def s_distance_2 : CS := (.ret (.call f_apart (.cons (.var 0) (.cons (.var 1) .nil))))
/- distance -/
def c_distance : CD := ⟨2, 2,
  (.cons s_distance_1
  (.cons s_distance_2
  .nil))⟩
def s_changed_1 : CS := (.asg 4 (.bin .Add (.bin .Add (.sl (.ix (.var 0) (.var 1)) .no (.yes (.var 2))) (.tup (.cons (.bin .Add (.ix (.ix (.var 0) (.var 1)) (.var 2)) (.var 3)) .nil))) (.sl (.ix (.var 0) (.var 1)) (.yes (.bin .Add (.var 2) (.cint 1))) .no)))
def s_changed_2 : CS := (.ret (.bin .Add (.bin .Add (.sl (.var 0) .no (.yes (.var 1))) (.tup (.cons (.var 4) .nil))) (.sl (.var 0) (.yes (.bin .Add (.var 1) (.cint 1))) .no)))
/- changed -/
def c_changed : CD := ⟨4, 5,
  (.cons s_changed_1
  (.cons s_changed_2
  .nil))⟩
def s_options_of_1 : CS := (.par [1, 2] (.cons (.call f_sums_of (.cons (.var 0) .nil)) (.cons (.lst .nil) .nil)))
def s_options_of_2 : CS := (.ext 2 (.lc (.tup (.cons (.var 3) (.cons (.var 4) (.cons (.var 5) .nil)))) (.one 5) (.seq (.tup (.cons (.neg (.cint 1)) (.cons (.cint 1) .nil)))) (.yes (.call f_are_sums (.cons (.call f_changed (.cons (.var 1) (.cons (.var 3) (.cons (.var 4) (.cons (.var 5) .nil))))) .nil)))))
def b_options_of_1 : CSs := (.cons s_options_of_2
  (.cons (.wip [4])
  .nil))
def s_options_of_3 : CS := (.for_ (.one 4) (.rng2 (.cint 1) (.b1 .len (.var 0))) b_options_of_1)
def b_options_of_2 : CSs := (.cons s_options_of_3
  (.cons (.wip [3, 4])
  .nil))
def s_options_of_4 : CS := (.for_ (.one 3) (.rng2 (.cint 1) (.b1 .len (.var 0))) b_options_of_2)
def s_options_of_5 : CS := (.retv 2)
/- options_of -/
def c_options_of : CD := ⟨1, 6,
  (.cons s_options_of_1
  (.cons s_options_of_4
  (.cons s_options_of_5
  .nil)))⟩
def s_change_list_1 : CS := (.asg 1 (.call f_sums_of (.cons (.var 0) .nil)))
def s_change_list_2 : CS := (.ret (.b1 .sorted (.lc (.call f_table_of (.cons (.call f_changed (.cons (.var 1) (.cons (.var 2) (.cons (.var 3) (.cons (.var 4) .nil))))) .nil)) (.tup [2, 3, 4]) (.seq (.call f_options_of (.cons (.var 0) .nil))) .no)))
/- change_list -/
def c_change_list : CD := ⟨1, 5,
  (.cons s_change_list_1
  (.cons s_change_list_2
  .nil))⟩
def s_changes_1 : CS := (.ex (.call f_check_table (.cons (.var 0) .nil)))
def s_changes_2 : CS := (.ret (.call f_change_list (.cons (.var 0) .nil)))
/- changes -/
def c_changes : CD := ⟨1, 1,
  (.cons s_changes_1
  (.cons s_changes_2
  .nil))⟩
def s_law_k05_1 : CS := (.asg 1 (.lst .nil))
def s_law_k05_2 : CS := (.asg 2 (.call f__law_some_table (.cons (.var 0) (.cons (.var 1) (.cons (.cint 5) .nil)))))
def s_law_k05_3 : CS := (.asg 3 (.b1 .len (.var 2)))
def s_law_k05_4 : CS := (.asg 4 (.call f__law_corners (.cons (.var 2) .nil)))
def s_law_k05_5 : CS := (.asg 5 (.lst .nil))
def s_law_k05_6 : CS := (.asg 9 (.bin .Add (.bin .Add (.sl (.ix (.var 4) (.var 6)) .no (.yes (.var 7))) (.tup (.cons (.bin .Add (.ix (.ix (.var 4) (.var 6)) (.var 7)) (.var 8)) .nil))) (.sl (.ix (.var 4) (.var 6)) (.yes (.bin .Add (.var 7) (.cint 1))) .no)))
def s_law_k05_7 : CS := (.asg 10 (.bin .Add (.bin .Add (.sl (.var 4) .no (.yes (.var 6))) (.tup (.cons (.var 9) .nil))) (.sl (.var 4) (.yes (.bin .Add (.var 6) (.cint 1))) .no)))
def s_law_k05_8 : CS := (.app 5 (.call f__law_uncorner (.cons (.var 10) .nil)))
def s_law_k05_9 : CS := (.ifs (.call f__law_sum_like (.cons (.var 10) .nil))
    (.cons s_law_k05_8
    .nil)
    .nil)
def b_law_k05_1 : CSs := (.cons s_law_k05_6
  (.cons s_law_k05_7
  (.cons s_law_k05_9
  (.cons (.wip [8, 9, 10])
  .nil))))
def s_law_k05_10 : CS := (.for_ (.one 8) (.seq (.tup (.cons (.cint 1) (.cons (.neg (.cint 1)) .nil)))) b_law_k05_1)
def b_law_k05_2 : CSs := (.cons s_law_k05_10
  (.cons (.wip [7, 8, 9, 10])
  .nil))
def s_law_k05_11 : CS := (.for_ (.one 7) (.rng2 (.cint 1) (.var 3)) b_law_k05_2)
def b_law_k05_3 : CSs := (.cons s_law_k05_11
  (.cons (.wip [6, 7, 8, 9, 10])
  .nil))
def s_law_k05_12 : CS := (.for_ (.one 6) (.rng2 (.cint 1) (.var 3)) b_law_k05_3)
def s_law_k05_13 : CS := (.asg 11 (.call f_changes (.cons (.var 2) .nil)))
def s_law_k05_14 : CS := (.ret (.cbl false))
def s_law_k05_15 : CS := (.ifs (.cmp .NotEq (.var 11) (.b1 .sorted (.var 5)))
    (.cons s_law_k05_14
    .nil)
    .nil)
def s_law_k05_16 : CS := (.ret (.cbl false))
def s_law_k05_17 : CS := (.ifs (.or_ (.cmp .NotEq (.call f_distance (.cons (.var 2) (.cons (.var 10) .nil))) (.cint 1)) (.one (.cmp .Eq (.call f_is_below (.cons (.var 2) (.cons (.var 10) .nil))) (.call f_is_below (.cons (.var 10) (.cons (.var 2) .nil))))))
    (.cons s_law_k05_16
    .nil)
    .nil)
def s_law_k05_18 : CS := (.ret (.cbl false))
def s_law_k05_19 : CS := (.ifs (.cmp .NotIn (.var 2) (.call f_changes (.cons (.var 10) .nil)))
    (.cons s_law_k05_18
    .nil)
    .nil)
def b_law_k05_4 : CSs := (.cons s_law_k05_17
  (.cons s_law_k05_19
  (.cons (.wip [10])
  .nil)))
def s_law_k05_20 : CS := (.for_ (.one 10) (.seq (.var 11)) b_law_k05_4)
def s_law_k05_21 : CS := (.ret (.cbl true))
/- law -/
def c_law_k05 : CD := ⟨1, 12,
  (.cons s_law_k05_1
  (.cons (.cel 1)
  (.cons s_law_k05_2
  (.cons s_law_k05_3
  (.cons s_law_k05_4
  (.cons s_law_k05_5
  (.cons s_law_k05_12
  (.cons s_law_k05_13
  (.cons s_law_k05_15
  (.cons (.frz 11)
  (.cons s_law_k05_20
  (.cons s_law_k05_21
  .nil))))))))))))⟩
def s_way_1 : CS := (.ex (.call f_check_two (.cons (.var 0) (.cons (.var 1) .nil))))
def s_way_2 : CS := (.asg 2 (.lst (.cons (.var 0) .nil)))
def s_way_3 : CS := (.app 2 (.ix (.b1 .min (.lc (.tup (.cons (.call f_apart (.cons (.var 3) (.cons (.var 1) .nil))) (.cons (.var 3) .nil))) (.one 3) (.seq (.call f_change_list (.cons (.ix (.var 2) (.neg (.cint 1))) .nil))) .no)) (.cint 1)))
def b_way_1 : CSs := (.cons s_way_3
  .nil)
def s_way_4 : CS := (.whl (.cmp .NotEq (.ix (.var 2) (.neg (.cint 1))) (.var 1)) b_way_1)
def s_way_5 : CS := (.retv 2)
/- way -/
def c_way : CD := ⟨2, 4,
  (.cons s_way_1
  (.cons s_way_2
  (.cons s_way_4
  (.cons s_way_5
  .nil))))⟩
def s_is_way_1 : CS := (.ex (.call f_check_two (.cons (.var 0) (.cons (.var 1) .nil))))
def s_is_way_2 : CS := (.ret (.cbl false))
def s_is_way_3 : CS := (.ifs (.or_ (.nt (.isi .list (.var 2))) (.or_ (.cmp .Eq (.var 2) (.lst .nil)) (.one (.nt (.b1 .all (.lc (.call f_is_table (.cons (.var 3) .nil)) (.one 3) (.seq (.var 2)) .no))))))
    (.cons s_is_way_2
    .nil)
    .nil)
def s_is_way_4 : CS := (.ret (.cbl false))
def s_is_way_5 : CS := (.ifs (.or_ (.cmp .NotEq (.ix (.var 2) (.cint 0)) (.var 0)) (.one (.cmp .NotEq (.ix (.var 2) (.neg (.cint 1))) (.var 1))))
    (.cons s_is_way_4
    .nil)
    .nil)
def s_is_way_6 : CS := (.ret (.b1 .all (.lc (.cmp .In (.var 4) (.call f_change_list (.cons (.var 3) .nil))) (.tup [3, 4]) (.zip (.var 2) (.sl (.var 2) (.yes (.cint 1)) .no)) .no)))
/- is_way -/
def c_is_way : CD := ⟨3, 5,
  (.cons s_is_way_1
  (.cons s_is_way_3
  (.cons s_is_way_5
  (.cons s_is_way_6
  .nil))))⟩
def s__law_one_apart_1 : CS := (.asg 2 (.lst .nil))
def s__law_one_apart_2 : CS := (.ext 2 (.lc (.mm2 true (.bin .Sub (.var 5) (.var 6)) (.bin .Sub (.var 6) (.var 5))) (.tup [5, 6]) (.zip (.var 3) (.var 4)) .no))
def b__law_one_apart_1 : CSs := (.cons s__law_one_apart_2
  (.cons (.wip [3, 4])
  .nil))
def s__law_one_apart_3 : CS := (.for_ (.tup [3, 4]) (.zip (.call f__law_corners (.cons (.var 0) .nil)) (.call f__law_corners (.cons (.var 1) .nil))) b__law_one_apart_1)
def s__law_one_apart_4 : CS := (.ret (.cmp .Eq (.b1 .sum (.var 2)) (.cint 1)))
/- _law_one_apart -/
def c__law_one_apart : CD := ⟨2, 7,
  (.cons s__law_one_apart_1
  (.cons s__law_one_apart_3
  (.cons s__law_one_apart_4
  .nil)))⟩
def s_law_k06_1 : CS := (.asg 1 (.lst .nil))
def s_law_k06_2 : CS := (.asg 2 (.call f__law_some_table (.cons (.var 0) (.cons (.var 1) (.cons (.cint 5) .nil)))))
def s_law_k06_3 : CS := (.asg 3 (.call f__law_same_size (.cons (.var 0) (.cons (.var 1) (.cons (.var 2) .nil)))))
def s_law_k06_4 : CS := (.asg 4 (.cint 0))
def s_law_k06_5 : CS := (.aug 4 .Add (.b1 .sum (.lc (.mm2 true (.bin .Sub (.var 7) (.var 8)) (.bin .Sub (.var 8) (.var 7))) (.tup [7, 8]) (.zip (.var 5) (.var 6)) .no)))
def b_law_k06_1 : CSs := (.cons s_law_k06_5
  (.cons (.wip [5, 6])
  .nil))
def s_law_k06_6 : CS := (.for_ (.tup [5, 6]) (.zip (.call f__law_corners (.cons (.var 2) .nil)) (.call f__law_corners (.cons (.var 3) .nil))) b_law_k06_1)
def s_law_k06_7 : CS := (.ret (.cbl false))
def s_law_k06_8 : CS := (.ifs (.or_ (.nt (.call f__law_same_number (.cons (.call f_distance (.cons (.var 2) (.cons (.var 3) .nil))) (.cons (.var 4) .nil)))) (.one (.cmp .NotEq (.call f_distance (.cons (.var 3) (.cons (.var 2) .nil))) (.var 4))))
    (.cons s_law_k06_7
    .nil)
    .nil)
def s_law_k06_9 : CS := (.par [9, 10] (.cons (.call f_least_above (.cons (.var 2) (.cons (.var 3) .nil))) (.cons (.call f_greatest_below (.cons (.var 2) (.cons (.var 3) .nil))) .nil)))
def s_law_k06_10 : CS := (.ret (.cbl false))
def s_law_k06_11 : CS := (.ifs (.or_ (.cmp .NotEq (.bin .Add (.call f_distance (.cons (.var 2) (.cons (.var 9) .nil))) (.call f_distance (.cons (.var 9) (.cons (.var 3) .nil)))) (.var 4)) (.one (.cmp .NotEq (.bin .Add (.call f_distance (.cons (.var 2) (.cons (.var 10) .nil))) (.call f_distance (.cons (.var 10) (.cons (.var 3) .nil)))) (.var 4))))
    (.cons s_law_k06_10
    .nil)
    .nil)
def s_law_k06_12 : CS := (.ret (.cbl false))
def s_law_k06_13 : CS := (.ifs (.cmp .NotEq (.call f_distance (.cons (.var 10) (.cons (.var 9) .nil))) (.var 4))
    (.cons s_law_k06_12
    .nil)
    .nil)
def s_law_k06_14 : CS := (.asg 11 (.call f_way (.cons (.var 2) (.cons (.var 3) .nil))))
def s_law_k06_15 : CS := (.ret (.cbl false))
def s_law_k06_16 : CS := (.ifs (.or_ (.nt (.isi .list (.var 11))) (.or_ (.cmp .NotEq (.b1 .len (.var 11)) (.bin .Add (.var 4) (.cint 1))) (.or_ (.cmp .NotEq (.ix (.var 11) (.cint 0)) (.var 2)) (.one (.cmp .NotEq (.ix (.var 11) (.neg (.cint 1))) (.var 3))))))
    (.cons s_law_k06_15
    .nil)
    .nil)
def s_law_k06_17 : CS := (.ret (.cbl false))
def s_law_k06_18 : CS := (.ifs (.or_ (.nt (.call f__law_good (.cons (.var 13) .nil))) (.one (.nt (.call f__law_one_apart (.cons (.var 12) (.cons (.var 13) .nil))))))
    (.cons s_law_k06_17
    .nil)
    .nil)
def b_law_k06_2 : CSs := (.cons s_law_k06_18
  (.cons (.wip [12, 13])
  .nil))
def s_law_k06_19 : CS := (.for_ (.tup [12, 13]) (.zip (.var 11) (.sl (.var 11) (.yes (.cint 1)) .no)) b_law_k06_2)
def s_law_k06_20 : CS := (.ret (.cbl false))
def s_law_k06_21 : CS := (.ifs (.or_ (.cmp .IsNot (.call f_is_way (.cons (.var 2) (.cons (.var 3) (.cons (.var 11) .nil)))) (.cbl true)) (.one (.cmp .IsNot (.call f_is_way (.cons (.var 3) (.cons (.var 2) (.cons (.rev (.var 11)) .nil)))) (.cbl true))))
    (.cons s_law_k06_20
    .nil)
    .nil)
def s_law_k06_22 : CS := (.ret (.cbl false))
def s_law_k06_23 : CS := (.ifs (.and_ (.cmp .Gt (.var 4) (.cint 0)) (.one (.cmp .IsNot (.call f_is_way (.cons (.var 2) (.cons (.var 2) (.cons (.bin .Add (.var 11) (.rev (.sl (.var 11) .no (.yes (.neg (.cint 1)))))) .nil)))) (.cbl true))))
    (.cons s_law_k06_22
    .nil)
    .nil)
def s_law_k06_24 : CS := (.asg 14 (.lst (.cons .cnon (.cons (.lst .nil) (.cons (.b1 .tuple (.var 11)) (.cons (.bin .Add (.var 11) (.sl (.var 11) (.yes (.neg (.cint 1))) .no)) (.cons (.bin .Add (.var 11) (.lst (.cons .cnon .nil))) (.cons (.lst (.cons (.var 2) (.cons (.var 2) (.cons (.var 3) .nil)))) (.cons (.bin .Add (.sl (.var 11) .no (.yes (.neg (.cint 1)))) (.lst (.cons (.b1 .list (.ix (.var 11) (.neg (.cint 1)))) .nil))) .nil)))))))))
def s_law_k06_25 : CS := (.ext 14 (.lst (.cons (.lst (.cons (.var 2) (.cons (.var 3) .nil))) (.cons (.sl (.var 11) (.yes (.cint 1)) .no) (.cons (.sl (.var 11) .no (.yes (.neg (.cint 1)))) (.cons (.bin .Add (.sl (.var 11) .no (.yes (.cint 1))) (.sl (.var 11) (.yes (.cint 2)) .no)) .nil))))))
def s_law_k06_26 : CS := (.ifs (.cmp .Gt (.var 4) (.cint 1))
    (.cons s_law_k06_25
    .nil)
    .nil)
def s_law_k06_27 : CS := (.ret (.cmp .Eq (.lc (.call f_is_way (.cons (.var 2) (.cons (.var 3) (.cons (.var 15) .nil)))) (.one 15) (.seq (.var 14)) .no) (.bin .Mult (.lst (.cons (.cbl false) .nil)) (.b1 .len (.var 14)))))
/- law -/
def c_law_k06 : CD := ⟨1, 16,
  (.cons s_law_k06_1
  (.cons (.cel 1)
  (.cons s_law_k06_2
  (.cons s_law_k06_3
  (.cons s_law_k06_4
  (.cons s_law_k06_6
  (.cons s_law_k06_8
  (.cons s_law_k06_9
  (.cons s_law_k06_11
  (.cons s_law_k06_13
  (.cons s_law_k06_14
  (.cons s_law_k06_16
  (.cons (.frz 11)
  (.cons s_law_k06_19
  (.cons s_law_k06_21
  (.cons s_law_k06_23
  (.cons s_law_k06_24
  (.cons s_law_k06_26
  (.cons s_law_k06_27
  .nil)))))))))))))))))))⟩
def s_mirrored_1 : CS := (.ex (.call f_check_table (.cons (.var 0) .nil)))
def s_mirrored_2 : CS := (.ret (.b1 .tuple (.lc (.rev (.var 1)) (.one 1) (.seq (.var 0)) .no)))
/- mirrored -/
def c_mirrored : CD := ⟨1, 2,
  (.cons s_mirrored_1
  (.cons s_mirrored_2
  .nil))⟩
def s_exchanged_1 : CS := (.ex (.call f_check_table (.cons (.var 0) .nil)))
def s_exchanged_2 : CS := (.ret (.b1 .tuple (.call f_columns_of (.cons (.var 0) .nil))))
/- exchanged -/
def c_exchanged : CD := ⟨1, 1,
  (.cons s_exchanged_1
  (.cons s_exchanged_2
  .nil))⟩
def s_turned_1 : CS := (.ex (.call f_check_table (.cons (.var 0) .nil)))
def s_turned_2 : CS := (.ret (.b1 .tuple (.call f_columns_of (.cons (.rev (.var 0)) .nil))))
/- turned -/
def c_turned : CD := ⟨1, 1,
  (.cons s_turned_1
  (.cons s_turned_2
  .nil))⟩
def s_law_k07_1 : CS := (.asg 1 (.lst .nil))
def s_law_k07_2 : CS := (.asg 2 (.call f__law_some_table (.cons (.var 0) (.cons (.var 1) (.cons (.cint 5) .nil)))))
def s_law_k07_3 : CS := (.asg 3 (.call f__law_same_size (.cons (.var 0) (.cons (.var 1) (.cons (.var 2) .nil)))))
def s_law_k07_4 : CS := (.asg 4 (.b1 .len (.var 2)))
def s_law_k07_5 : CS := (.ret (.cbl false))
def s_law_k07_6 : CS := (.ifs (.cmp .NotEq (.call f_mirrored (.cons (.var 2) .nil)) (.b1 .tuple (.lc (.rev (.var 5)) (.one 5) (.seq (.var 2)) .no)))
    (.cons s_law_k07_5
    .nil)
    .nil)
def s_law_k07_7 : CS := (.ret (.cbl false))
def s_law_k07_8 : CS := (.ifs (.cmp .NotEq (.call f_exchanged (.cons (.var 2) .nil)) (.b1 .tuple (.lc (.b1 .tuple (.lc (.ix (.ix (.var 2) (.var 7)) (.var 6)) (.one 7) (.rng1 (.var 4)) .no)) (.one 6) (.rng1 (.var 4)) .no)))
    (.cons s_law_k07_7
    .nil)
    .nil)
def s_law_k07_9 : CS := (.ret (.cbl false))
def s_law_k07_10 : CS := (.ifs (.cmp .NotEq (.call f_turned (.cons (.var 2) .nil)) (.b1 .tuple (.lc (.b1 .tuple (.lc (.ix (.ix (.var 2) (.bin .Sub (.bin .Sub (.var 4) (.cint 1)) (.var 7))) (.var 6)) (.one 7) (.rng1 (.var 4)) .no)) (.one 6) (.rng1 (.var 4)) .no)))
    (.cons s_law_k07_9
    .nil)
    .nil)
def s_law_k07_11 : CS := (.ret (.cbl false))
def s_law_k07_12 : CS := (.ifs (.or_ (.cmp .IsNot (.call f_is_table (.cons (.var 8) .nil)) (.cbl true)) (.one (.cmp .NotEq (.call f_negatives (.cons (.var 8) .nil)) (.call f_negatives (.cons (.var 2) .nil)))))
    (.cons s_law_k07_11
    .nil)
    .nil)
def b_law_k07_1 : CSs := (.cons s_law_k07_12
  (.cons (.wip [8])
  .nil))
def s_law_k07_13 : CS := (.for_ (.one 8) (.seq (.tup (.cons (.call f_mirrored (.cons (.var 2) .nil)) (.cons (.call f_exchanged (.cons (.var 2) .nil)) (.cons (.call f_turned (.cons (.var 2) .nil)) .nil))))) b_law_k07_1)
def s_law_k07_14 : CS := (.ret (.cbl false))
def s_law_k07_15 : CS := (.ifs (.or_ (.cmp .NotEq (.call f_turned (.cons (.call f_turned (.cons (.call f_turned (.cons (.call f_turned (.cons (.var 2) .nil)) .nil)) .nil)) .nil)) (.var 2)) (.one (.cmp .NotEq (.call f_mirrored (.cons (.call f_exchanged (.cons (.var 2) .nil)) .nil)) (.call f_turned (.cons (.var 2) .nil)))))
    (.cons s_law_k07_14
    .nil)
    .nil)
def s_law_k07_16 : CS := (.ret (.cbl false))
def s_law_k07_17 : CS := (.ifs (.cmp .NotEq (.call f_is_below (.cons (.var 2) (.cons (.var 3) .nil))) (.call f_is_below (.cons (.call f_mirrored (.cons (.var 3) .nil)) (.cons (.call f_mirrored (.cons (.var 2) .nil)) .nil))))
    (.cons s_law_k07_16
    .nil)
    .nil)
def s_law_k07_18 : CS := (.ret (.cbl false))
def s_law_k07_19 : CS := (.ifs (.cmp .NotEq (.call f_is_below (.cons (.var 2) (.cons (.var 3) .nil))) (.call f_is_below (.cons (.call f_exchanged (.cons (.var 2) .nil)) (.cons (.call f_exchanged (.cons (.var 3) .nil)) .nil))))
    (.cons s_law_k07_18
    .nil)
    .nil)
def s_law_k07_20 : CS := (.ret (.cbl false))
def s_law_k07_21 : CS := (.ifs (.cmp .NotEq (.call f_distance (.cons (.call f_mirrored (.cons (.var 2) .nil)) (.cons (.call f_mirrored (.cons (.var 3) .nil)) .nil))) (.call f_distance (.cons (.var 2) (.cons (.var 3) .nil))))
    (.cons s_law_k07_20
    .nil)
    .nil)
def s_law_k07_22 : CS := (.ret (.cbl false))
def s_law_k07_23 : CS := (.ifs (.cmp .NotEq (.call f_inversions (.cons (.call f_exchanged (.cons (.var 2) .nil)) .nil)) (.call f_inversions (.cons (.var 2) .nil)))
    (.cons s_law_k07_22
    .nil)
    .nil)
def s_law_k07_24 : CS := (.ret (.cmp .Eq (.bin .Add (.call f_inversions (.cons (.var 2) .nil)) (.call f_inversions (.cons (.call f_mirrored (.cons (.var 2) .nil)) .nil))) (.bin .Add (.bin .FloorDiv (.bin .Mult (.var 4) (.bin .Sub (.var 4) (.cint 1))) (.cint 2)) (.call f_negatives (.cons (.var 2) .nil)))))
/- law -/
def c_law_k07 : CD := ⟨1, 9,
  (.cons s_law_k07_1
  (.cons (.cel 1)
  (.cons s_law_k07_2
  (.cons s_law_k07_3
  (.cons s_law_k07_4
  (.cons s_law_k07_6
  (.cons s_law_k07_8
  (.cons s_law_k07_10
  (.cons s_law_k07_13
  (.cons s_law_k07_15
  (.cons s_law_k07_17
  (.cons s_law_k07_19
  (.cons s_law_k07_21
  (.cons s_law_k07_23
  (.cons s_law_k07_24
  .nil)))))))))))))))⟩
def s_check_size_1 : CS := (.rais "InvalidSize")
def s_check_size_2 : CS := (.ifs (.nt (.call f_is_integer (.cons (.var 0) (.cons (.cint 1) (.cons (.gint "SIZE" 5) .nil)))))
    (.cons s_check_size_1
    .nil)
    .nil)
/- check_size -/
def c_check_size : CD := ⟨1, 1,
  (.cons s_check_size_2
  .nil)⟩
def s_all_tables_1 : CS := (.ex (.call f_check_size (.cons (.var 0) .nil)))
def s_all_tables_2 : CS := (.ret (.call f_tables_of (.cons (.var 0) .nil)))
/- all_tables -/
def c_all_tables : CD := ⟨1, 1,
  (.cons s_all_tables_1
  (.cons s_all_tables_2
  .nil))⟩
def s_count_tables_1 : CS := (.ex (.call f_check_size (.cons (.var 0) .nil)))
def s_count_tables_2 : CS := (.ret (.b1 .len (.call f_tables_of (.cons (.var 0) .nil))))
/- count_tables -/
def c_count_tables : CD := ⟨1, 1,
  (.cons s_count_tables_1
  (.cons s_count_tables_2
  .nil))⟩
def s__law_all_1 : CS := (.asg 1 (.lst (.cons (.tup (.cons (.cint 0) .nil)) .nil)))
def s__law_all_2 : CS := (.asg 1 (.bin .Add (.lc (.bin .Add (.var 3) (.tup (.cons (.ix (.var 3) (.neg (.cint 1))) .nil))) (.one 3) (.seq (.var 1)) .no) (.lc (.bin .Add (.var 3) (.tup (.cons (.bin .Add (.ix (.var 3) (.neg (.cint 1))) (.cint 1)) .nil))) (.one 3) (.seq (.var 1)) .no)))
def b__law_all_1 : CSs := (.cons s__law_all_2
  (.cons (.wip [2])
  .nil))
def s__law_all_3 : CS := (.for_ (.one 2) (.rng1 (.var 0)) b__law_all_1)
def s__law_all_4 : CS := (.asg 4 (.lst (.cons (.tup (.cons (.bin .Mult (.tup (.cons (.cint 0) .nil)) (.bin .Add (.var 0) (.cint 1))) .nil)) .nil)))
def s__law_all_5 : CS := (.asg 6 (.lst .nil))
def s__law_all_6 : CS := (.asg 10 (.lc (.bin .Sub (.var 9) (.var 8)) (.tup [8, 9]) (.zip (.ix (.var 7) (.neg (.cint 1))) (.var 3)) .no))
def s__law_all_7 : CS := (.app 6 (.bin .Add (.var 7) (.tup (.cons (.var 3) .nil))))
def s__law_all_8 : CS := (.ifs (.and_ (.cmp .Eq (.ix (.var 3) (.neg (.cint 1))) (.var 5)) (.and_ (.cmp .GtE (.b1 .min (.var 10)) (.cint 0)) (.one (.cmp .LtE (.b1 .max (.var 10)) (.cint 1)))))
    (.cons s__law_all_7
    .nil)
    .nil)
def b__law_all_2 : CSs := (.cons s__law_all_6
  (.cons s__law_all_8
  (.cons (.wip [3, 10])
  .nil)))
def s__law_all_9 : CS := (.for_ (.one 3) (.seq (.var 1)) b__law_all_2)
def b__law_all_3 : CSs := (.cons (.frz 1)
  (.cons s__law_all_9
  (.cons (.wip [7, 3, 10])
  .nil)))
def s__law_all_10 : CS := (.for_ (.one 7) (.seq (.var 4)) b__law_all_3)
def s__law_all_11 : CS := (.mv 4 6)
def b__law_all_4 : CSs := (.cons s__law_all_5
  (.cons (.frz 4)
  (.cons s__law_all_10
  (.cons s__law_all_11
  (.cons (.wip [5, 6, 7, 3, 10])
  .nil)))))
def s__law_all_12 : CS := (.for_ (.one 5) (.rng2 (.cint 1) (.bin .Add (.var 0) (.cint 1))) b__law_all_4)
def s__law_all_13 : CS := (.ret (.b1 .sorted (.lc (.call f__law_uncorner (.cons (.var 7) .nil)) (.one 7) (.seq (.var 4)) .no)))
/- _law_all -/
def c__law_all : CD := ⟨1, 11,
  (.cons s__law_all_1
  (.cons s__law_all_3
  (.cons s__law_all_4
  (.cons (.frz 4)
  (.cons s__law_all_12
  (.cons s__law_all_13
  .nil))))))⟩
def s_law_k09_1 : CS := (.asg 1 (.lst .nil))
def s_law_k09_2 : CS := (.asg 2 (.call f__law_pick (.cons (.var 0) (.cons (.var 1) (.cons (.lst (.cons (.cint 1) (.cons (.cint 2) (.cons (.cint 3) (.cons (.cint 3) (.cons (.cint 4) (.cons (.cint 4) (.cons (.cint 4) (.cons (.cint 5) .nil))))))))) .nil)))))
def s_law_k09_3 : CS := (.asg 3 (.call f__law_all (.cons (.var 2) .nil)))
def s_law_k09_4 : CS := (.ret (.cbl false))
def s_law_k09_5 : CS := (.ifs (.or_ (.cmp .NotEq (.call f__law_ask_2 (.cons (.cint 0) (.cons (.var 2) .nil))) (.var 3)) (.or_ (.nt (.call f__law_same_number (.cons (.call f__law_ask_2 (.cons (.cint 1) (.cons (.var 2) .nil))) (.cons (.b1 .len (.var 3)) .nil)))) (.one (.cmp .NotEq (.b1 .len (.var 3)) (.ix (.lst (.cons (.cint 1) (.cons (.cint 2) (.cons (.cint 7) (.cons (.cint 42) (.cons (.cint 429) .nil)))))) (.bin .Sub (.var 2) (.cint 1)))))))
    (.cons s_law_k09_4
    .nil)
    .nil)
def s_law_k09_6 : CS := (.asg 6 (.lc (.b1 .len (.lc (.var 5) (.one 5) (.seq (.var 3)) (.yes (.cmp .Eq (.ix (.ix (.var 5) (.cint 0)) (.var 4)) (.cint 1))))) (.one 4) (.rng1 (.var 2)) .no))
def s_law_k09_7 : CS := (.ret (.cbl false))
def s_law_k09_8 : CS := (.ifs (.or_ (.cmp .NotEq (.call f__law_ask_2 (.cons (.cint 2) (.cons (.var 2) .nil))) (.var 6)) (.or_ (.cmp .NotEq (.b1 .sum (.var 6)) (.b1 .len (.var 3))) (.one (.cmp .NotEq (.var 6) (.rev (.var 6))))))
    (.cons s_law_k09_7
    .nil)
    .nil)
def s_law_k09_9 : CS := (.par [7, 8] (.cons (.bin .Mult (.ix (.var 6) (.bin .Sub (.var 4) (.cint 1))) (.bin .Sub (.var 2) (.var 4))) (.cons (.bin .Mult (.ix (.var 6) (.var 4)) (.var 4)) .nil)))
def s_law_k09_10 : CS := (.ret (.cbl false))
def s_law_k09_11 : CS := (.ifs (.cmp .NotEq (.bin .Mult (.var 7) (.bin .Sub (.bin .Add (.var 2) (.var 4)) (.cint 1))) (.bin .Mult (.var 8) (.bin .Sub (.bin .Sub (.bin .Mult (.cint 2) (.var 2)) (.var 4)) (.cint 1))))
    (.cons s_law_k09_10
    .nil)
    .nil)
def b_law_k09_1 : CSs := (.cons s_law_k09_9
  (.cons s_law_k09_11
  (.cons (.wip [4, 7, 8])
  .nil)))
def s_law_k09_12 : CS := (.for_ (.one 4) (.rng2 (.cint 1) (.var 2)) b_law_k09_1)
def s_law_k09_13 : CS := (.asg 9 (.cint 0))
def s_law_k09_14 : CS := (.asg 10 (.cint 1))
def s_law_k09_15 : CS := (.asg 10 (.bin .Mult (.var 10) (.cint 2)))
def b_law_k09_2 : CSs := (.cons s_law_k09_15
  (.cons (.wip [13])
  .nil))
def s_law_k09_16 : CS := (.for_ (.one 13) (.rng1 (.b1 .sum (.lc (.b1 .len (.lc (.var 12) (.one 12) (.seq (.var 11)) (.yes (.cmp .Lt (.var 12) (.cint 0))))) (.one 11) (.seq (.var 5)) .no))) b_law_k09_2)
def s_law_k09_17 : CS := (.aug 9 .Add (.var 10))
def b_law_k09_3 : CSs := (.cons s_law_k09_14
  (.cons s_law_k09_16
  (.cons s_law_k09_17
  (.cons (.wip [5, 10, 13])
  .nil))))
def s_law_k09_18 : CS := (.for_ (.one 5) (.seq (.var 3)) b_law_k09_3)
def s_law_k09_19 : CS := (.asg 14 (.cint 1))
def s_law_k09_20 : CS := (.asg 14 (.bin .Mult (.var 14) (.cint 2)))
def b_law_k09_4 : CSs := (.cons s_law_k09_20
  (.cons (.wip [13])
  .nil))
def s_law_k09_21 : CS := (.for_ (.one 13) (.rng1 (.bin .FloorDiv (.bin .Mult (.var 2) (.bin .Sub (.var 2) (.cint 1))) (.cint 2))) b_law_k09_4)
def s_law_k09_22 : CS := (.ret (.cbl false))
def s_law_k09_23 : CS := (.ifs (.cmp .NotEq (.var 9) (.var 14))
    (.cons s_law_k09_22
    .nil)
    .nil)
def s_law_k09_24 : CS := (.ret (.cbl false))
def s_law_k09_25 : CS := (.ifs (.cmp .NotEq (.lc (.call f__law_ask_2 (.cons (.var 16) (.cons (.var 15) .nil))) (.one 16) (.rng1 (.cint 3)) .no) (.bin .Mult (.lst (.cons (.tup (.cons (.cstr "raised") (.cons (.cint 3) .nil))) .nil)) (.cint 3)))
    (.cons s_law_k09_24
    .nil)
    .nil)
def b_law_k09_5 : CSs := (.cons s_law_k09_25
  (.cons (.wip [15])
  .nil))
def s_law_k09_26 : CS := (.for_ (.one 15) (.seq (.lst (.cons .cnon (.cons (.cint 0) (.cons (.cint 6) (.cons (.neg (.cint 1)) (.cons (.cstr "3") (.cons (.cbl true) (.cons (.tup (.cons (.cint 3) .nil)) .nil))))))))) b_law_k09_5)
def s_law_k09_27 : CS := (.ret (.cbl true))
/- law -/
def c_law_k09 : CD := ⟨1, 17,
  (.cons s_law_k09_1
  (.cons (.cel 1)
  (.cons s_law_k09_2
  (.cons s_law_k09_3
  (.cons s_law_k09_5
  (.cons s_law_k09_6
  (.cons s_law_k09_8
  (.cons s_law_k09_12
  (.cons s_law_k09_13
  (.cons (.frz 3)
  (.cons s_law_k09_18
  (.cons s_law_k09_19
  (.cons s_law_k09_21
  (.cons s_law_k09_23
  (.cons s_law_k09_26
  (.cons s_law_k09_27
  .nil))))))))))))))))⟩
def s_is_answer_1 : CS := (.ret (.cbl false))
def s_is_answer_2 : CS := (.ifs (.or_ (.nt (.isi .tuple (.var 1))) (.one (.cmp .NotEq (.b1 .len (.var 1)) (.cint 3))))
    (.cons s_is_answer_1
    .nil)
    .nil)
def s_is_answer_3 : CS := (.ret (.b1 .all (.lc (.call f_is_integer (.cons (.var 2) (.cons (.cint 0) (.cons (.var 0) .nil)))) (.one 2) (.seq (.var 1)) .no)))
/- is_answer -/
def c_is_answer : CD := ⟨2, 3,
  (.cons s_is_answer_2
  (.cons s_is_answer_3
  .nil))⟩
def s_agreeing_1 : CS := (.ex (.call f_check_size (.cons (.var 0) .nil)))
def s_agreeing_2 : CS := (.rais "InvalidAnswers")
def s_agreeing_3 : CS := (.ifs (.or_ (.nt (.isi .tuple (.var 1))) (.one (.nt (.b1 .all (.lc (.call f_is_answer (.cons (.var 0) (.cons (.var 2) .nil))) (.one 2) (.seq (.var 1)) .no)))))
    (.cons s_agreeing_2
    .nil)
    .nil)
def s_agreeing_4 : CS := (.asg 3 (.lst .nil))
def s_agreeing_5 : CS := (.asg 5 (.call f_sums_of (.cons (.var 4) .nil)))
def s_agreeing_6 : CS := (.app 3 (.var 4))
def s_agreeing_7 : CS := (.ifs (.b1 .all (.lc (.cmp .Eq (.ix (.ix (.var 5) (.var 6)) (.var 7)) (.var 8)) (.tup [6, 7, 8]) (.seq (.var 1)) .no))
    (.cons s_agreeing_6
    .nil)
    .nil)
def b_agreeing_1 : CSs := (.cons s_agreeing_5
  (.cons s_agreeing_7
  (.cons (.wip [4, 5])
  .nil)))
def s_agreeing_8 : CS := (.for_ (.one 4) (.seq (.call f_tables_of (.cons (.var 0) .nil))) b_agreeing_1)
def s_agreeing_9 : CS := (.retv 3)
/- agreeing -/
def c_agreeing : CD := ⟨2, 9,
  (.cons s_agreeing_1
  (.cons s_agreeing_3
  (.cons s_agreeing_4
  (.cons s_agreeing_8
  (.cons s_agreeing_9
  .nil)))))⟩
def s_candidates_1 : CS := (.ret (.call f_agreeing (.cons (.var 0) (.cons (.var 1) .nil))))
/- candidates -/
def c_candidates : CD := ⟨2, 2,
  (.cons s_candidates_1
  .nil)⟩
def s_best_question_1 : CS := (.asg 3 (.lc (.call f_sums_of (.cons (.var 2) .nil)) (.one 2) (.seq (.call f_agreeing (.cons (.var 0) (.cons (.var 1) .nil)))) .no))
def s_best_question_2 : CS := (.rais "InvalidAnswers")
def s_best_question_3 : CS := (.ifs (.cmp .Eq (.var 3) (.lst .nil))
    (.cons s_best_question_2
    .nil)
    .nil)
def s_best_question_4 : CS := (.asg 4 (.tup (.cons (.b1 .len (.var 3)) (.cons .cnon .nil))))
def s_best_question_5 : CS := (.asg 8 (.lc (.ix (.ix (.var 7) (.var 5)) (.var 6)) (.one 7) (.seq (.var 3)) .no))
def s_best_question_6 : CS := (.asg 10 (.b1 .max (.lc (.me .count (.var 8) (.var 9)) (.one 9) (.rng1 (.bin .Add (.var 0) (.cint 1))) .no)))
def s_best_question_7 : CS := (.asg 4 (.tup (.cons (.var 10) (.cons (.tup (.cons (.var 5) (.cons (.var 6) .nil))) .nil))))
def s_best_question_8 : CS := (.ifs (.cmp .Lt (.var 10) (.ix (.var 4) (.cint 0)))
    (.cons s_best_question_7
    .nil)
    .nil)
def b_best_question_1 : CSs := (.cons s_best_question_5
  (.cons s_best_question_6
  (.cons s_best_question_8
  (.cons (.wip [6, 8, 10])
  .nil))))
def s_best_question_9 : CS := (.for_ (.one 6) (.rng2 (.cint 1) (.var 0)) b_best_question_1)
def b_best_question_2 : CSs := (.cons s_best_question_9
  (.cons (.wip [5, 6, 8, 10])
  .nil))
def s_best_question_10 : CS := (.for_ (.one 5) (.rng2 (.cint 1) (.var 0)) b_best_question_2)
def s_best_question_11 : CS := (.ret (.ix (.var 4) (.cint 1)))
/- best_question -/
def c_best_question : CD := ⟨2, 11,
  (.cons s_best_question_1
  (.cons s_best_question_3
  (.cons s_best_question_4
  (.cons s_best_question_10
  (.cons s_best_question_11
  .nil)))))⟩
def s_law_k10_1 : CS := (.asg 1 (.lst .nil))
def s_law_k10_2 : CS := (.asg 2 (.call f__law_pick (.cons (.var 0) (.cons (.var 1) (.cons (.lst (.cons (.cint 1) (.cons (.cint 2) (.cons (.cint 3) (.cons (.cint 3) (.cons (.cint 4) (.cons (.cint 4) (.cons (.cint 4) .nil)))))))) .nil)))))
def s_law_k10_3 : CS := (.asg 3 (.call f_all_tables (.cons (.var 2) .nil)))
def s_law_k10_4 : CS := (.asg 4 (.call f__law_corners (.cons (.call f__law_pick (.cons (.var 0) (.cons (.var 1) (.cons (.var 3) .nil)))) .nil)))
def s_law_k10_5 : CS := (.asg 5 (.lst .nil))
def s_law_k10_6 : CS := (.par [7, 8] (.cons (.call f__law_draw (.cons (.var 0) (.cons (.var 1) (.cons (.bin .Add (.var 2) (.cint 1)) .nil)))) (.cons (.call f__law_draw (.cons (.var 0) (.cons (.var 1) (.cons (.bin .Add (.var 2) (.cint 1)) .nil)))) .nil)))
def s_law_k10_7 : CS := (.asg 9 (.cmp .Eq (.call f__law_draw (.cons (.var 0) (.cons (.var 1) (.cons (.cint 8) .nil)))) (.cint 0)))
def s_law_k10_8 : CS := (.app 5 (.tup (.cons (.var 7) (.cons (.var 8) (.cons (.ite (.var 9) (.call f__law_draw (.cons (.var 0) (.cons (.var 1) (.cons (.bin .Add (.var 2) (.cint 1)) .nil)))) (.ix (.ix (.var 4) (.var 7)) (.var 8))) .nil)))))
def b_law_k10_1 : CSs := (.cons s_law_k10_6
  (.cons s_law_k10_7
  (.cons s_law_k10_8
  (.cons (.wip [6, 7, 8, 9])
  .nil))))
def s_law_k10_9 : CS := (.for_ (.one 6) (.rng1 (.call f__law_draw (.cons (.var 0) (.cons (.var 1) (.cons (.cint 5) .nil))))) b_law_k10_1)
def s_law_k10_10 : CS := (.asg 12 (.lc (.var 10) (.one 10) (.seq (.var 3)) (.yes (.cmp .Eq (.lc (.cint 1) (.tup [7, 8, 11]) (.seq (.var 5)) (.yes (.cmp .NotEq (.ix (.ix (.call f__law_corners (.cons (.var 10) .nil)) (.var 7)) (.var 8)) (.var 11)))) (.lst .nil)))))
def s_law_k10_11 : CS := (.ret (.cbl false))
def s_law_k10_12 : CS := (.ifs (.cmp .NotEq (.call f__law_ask_3 (.cons (.cint 0) (.cons (.var 2) (.cons (.b1 .tuple (.var 5)) .nil)))) (.var 12))
    (.cons s_law_k10_11
    .nil)
    .nil)
def s_law_k10_13 : CS := (.ret (.cmp .Eq (.call f__law_ask_3 (.cons (.cint 1) (.cons (.var 2) (.cons (.b1 .tuple (.var 5)) .nil)))) (.tup (.cons (.cstr "raised") (.cons (.cint 5) .nil)))))
def s_law_k10_14 : CS := (.ifs (.cmp .Eq (.var 12) (.lst .nil))
    (.cons s_law_k10_13
    .nil)
    .nil)
def s_law_k10_15 : CS := (.asg 13 (.lc (.call f__law_corners (.cons (.var 10) .nil)) (.one 10) (.seq (.var 12)) .no))
def s_law_k10_16 : CS := (.asg 14 (.lst .nil))
def s_law_k10_17 : CS := (.asg 16 (.lc (.ix (.ix (.var 15) (.var 7)) (.var 8)) (.one 15) (.seq (.var 13)) .no))
def s_law_k10_18 : CS := (.app 14 (.tup (.cons (.b1 .max (.lc (.me .count (.var 16) (.var 11)) (.one 11) (.seq (.var 16)) .no)) (.cons (.tup (.cons (.var 7) (.cons (.var 8) .nil))) .nil))))
def b_law_k10_2 : CSs := (.cons s_law_k10_17
  (.cons s_law_k10_18
  (.cons (.wip [8, 16])
  .nil)))
def s_law_k10_19 : CS := (.for_ (.one 8) (.rng2 (.cint 1) (.var 2)) b_law_k10_2)
def b_law_k10_3 : CSs := (.cons s_law_k10_19
  (.cons (.wip [7, 8, 16])
  .nil))
def s_law_k10_20 : CS := (.for_ (.one 7) (.rng2 (.cint 1) (.var 2)) b_law_k10_3)
def s_law_k10_21 : CS := (.ret (.cbl false))
def s_law_k10_22 : CS := (.ifs (.cmp .NotEq (.call f__law_ask_3 (.cons (.cint 1) (.cons (.var 2) (.cons (.b1 .tuple (.var 5)) .nil)))) (.ite (.cmp .Eq (.b1 .len (.var 12)) (.cint 1)) .cnon (.ix (.b1 .min (.var 14)) (.cint 1))))
    (.cons s_law_k10_21
    .nil)
    .nil)
def s_law_k10_23 : CS := (.asg 17 (.tup (.cons (.var 2) (.cons (.var 2) (.cons (.var 2) .nil)))))
def s_law_k10_24 : CS := (.asg 18 (.lst (.cons .cnon (.cons (.lst .nil) (.cons (.lst (.cons (.var 17) .nil)) (.cons (.tup (.cons (.sl (.var 17) .no (.yes (.cint 2))) .nil)) (.cons (.tup (.cons (.b1 .list (.var 17)) .nil)) (.cons (.tup (.cons (.tup (.cons (.bin .Add (.var 2) (.cint 1)) (.cons (.cint 0) (.cons (.cint 0) .nil)))) .nil)) (.cons (.tup (.cons (.tup (.cons (.cint 0) (.cons (.neg (.cint 1)) (.cons (.cint 0) .nil)))) .nil)) (.cons (.tup (.cons (.tup (.cons (.cint 0) (.cons (.cint 0) (.cons (.bin .Add (.var 2) (.cint 1)) .nil)))) .nil)) .nil))))))))))
def s_law_k10_25 : CS := (.ret (.cbl false))
def s_law_k10_26 : CS := (.ifs (.or_ (.cmp .NotEq (.lc (.call f__law_ask_3 (.cons (.var 20) (.cons (.var 2) (.cons (.var 19) .nil)))) (.one 20) (.seq (.tup (.cons (.cint 0) (.cons (.cint 1) .nil)))) .no) (.bin .Mult (.lst (.cons (.tup (.cons (.cstr "raised") (.cons (.cint 5) .nil))) .nil)) (.cint 2))) (.one (.cmp .NotEq (.call f__law_ask_3 (.cons (.cint 0) (.cons (.cint 6) (.cons (.var 19) .nil)))) (.tup (.cons (.cstr "raised") (.cons (.cint 3) .nil))))))
    (.cons s_law_k10_25
    .nil)
    .nil)
def b_law_k10_4 : CSs := (.cons s_law_k10_26
  (.cons (.wip [19])
  .nil))
def s_law_k10_27 : CS := (.for_ (.one 19) (.seq (.bin .Add (.var 18) (.lst (.cons (.tup (.cons (.tup (.cons (.cbl true) (.cons (.cint 0) (.cons (.cint 0) .nil)))) .nil)) (.cons (.tup (.cons (.tup (.cons (.cstr "0") (.cons (.cint 0) (.cons (.cint 0) .nil)))) .nil)) (.cons (.tup (.cons .cnon .nil)) (.cons (.var 17) .nil))))))) b_law_k10_4)
def s_law_k10_28 : CS := (.ret (.and_ (.cmp .Eq (.call f__law_ask_3 (.cons (.cint 0) (.cons (.var 2) (.cons (.tup (.cons (.tup (.cons (.cint 0) (.cons (.cint 0) (.cons (.cint 1) .nil)))) .nil)) .nil)))) (.lst .nil)) (.one (.cmp .Eq (.call f__law_ask_3 (.cons (.cint 1) (.cons .cnon (.cons (.tup .nil) .nil)))) (.tup (.cons (.cstr "raised") (.cons (.cint 3) .nil)))))))
/- law -/
def c_law_k10 : CD := ⟨1, 21,
  (.cons s_law_k10_1
  (.cons (.cel 1)
  (.cons s_law_k10_2
  (.cons s_law_k10_3
  (.cons s_law_k10_4
  (.cons s_law_k10_5
  (.cons s_law_k10_9
  (.cons s_law_k10_10
  (.cons s_law_k10_12
  (.cons s_law_k10_14
  (.cons s_law_k10_15
  (.cons s_law_k10_16
  (.cons s_law_k10_20
  (.cons s_law_k10_22
  (.cons s_law_k10_23
  (.cons s_law_k10_24
  (.cons s_law_k10_27
  (.cons s_law_k10_28
  .nil))))))))))))))))))⟩
def s_format_table_1 : CS := (.ex (.call f_check_table (.cons (.var 0) .nil)))
def s_format_table_2 : CS := (.ret (.call f_text_of (.cons (.var 0) .nil)))
/- format_table -/
def c_format_table : CD := ⟨1, 1,
  (.cons s_format_table_1
  (.cons s_format_table_2
  .nil))⟩
def s__law_crossed_1 : CS := (.asg 1 (.cint 0))
def s__law_crossed_2 : CS := (.aug 1 .Add (.bin .Mult (.var 5) (.b1 .sum (.lc (.b1 .sum (.sl (.var 6) .no (.yes (.var 4)))) (.one 6) (.seq (.sl (.var 0) (.yes (.bin .Add (.var 2) (.cint 1))) .no)) .no))))
def b__law_crossed_1 : CSs := (.cons s__law_crossed_2
  (.cons (.wip [4, 5])
  .nil))
def s__law_crossed_3 : CS := (.for_ (.tup [4, 5]) (.enum (.var 3)) b__law_crossed_1)
def b__law_crossed_2 : CSs := (.cons (.frz 3)
  (.cons s__law_crossed_3
  (.cons (.wip [2, 3, 4, 5])
  .nil)))
def s__law_crossed_4 : CS := (.for_ (.tup [2, 3]) (.enum (.var 0)) b__law_crossed_2)
def s__law_crossed_5 : CS := (.retv 1)
/- _law_crossed -/
def c__law_crossed : CD := ⟨1, 7,
  (.cons s__law_crossed_1
  (.cons s__law_crossed_4
  (.cons s__law_crossed_5
  .nil)))⟩
def s__law_ends_1 : CS := (.asg 3 (.b1 .tuple (.lc (.b1 .tuple (.lc (.ite (.cmp .Eq (.var 1) (.var 2)) (.cint 1) (.cint 0)) (.one 2) (.rng1 (.var 0)) .no)) (.one 1) (.rng1 (.var 0)) .no)))
def s__law_ends_2 : CS := (.asg 4 (.rev (.var 3)))
def s__law_ends_3 : CS := (.ret (.cbl false))
def s__law_ends_4 : CS := (.ifs (.or_ (.cmp .NotEq (.call f_inversions (.cons (.var 3) .nil)) (.cint 0)) (.or_ (.cmp .NotEq (.call f_inversions (.cons (.var 4) .nil)) (.bin .FloorDiv (.bin .Mult (.var 0) (.bin .Sub (.var 0) (.cint 1))) (.cint 2))) (.one (.cmp .IsNot (.call f_is_below (.cons (.var 3) (.cons (.var 4) .nil))) (.cbl true)))))
    (.cons s__law_ends_3
    .nil)
    .nil)
def s__law_ends_5 : CS := (.ret (.cbl false))
def s__law_ends_6 : CS := (.ifs (.or_ (.cmp .NotEq (.call f_mirrored (.cons (.var 3) .nil)) (.var 4)) (.or_ (.cmp .NotEq (.call f_exchanged (.cons (.var 3) .nil)) (.var 3)) (.one (.cmp .NotEq (.call f_turned (.cons (.var 3) .nil)) (.var 4)))))
    (.cons s__law_ends_5
    .nil)
    .nil)
def s__law_ends_7 : CS := (.ret (.cbl false))
def s__law_ends_8 : CS := (.ifs (.cmp .NotEq (.call f_corner_sums (.cons (.var 3) .nil)) (.b1 .tuple (.lc (.b1 .tuple (.lc (.mm2 false (.var 1) (.var 2)) (.one 2) (.rng1 (.bin .Add (.var 0) (.cint 1))) .no)) (.one 1) (.rng1 (.bin .Add (.var 0) (.cint 1))) .no)))
    (.cons s__law_ends_7
    .nil)
    .nil)
def s__law_ends_9 : CS := (.ret (.cbl false))
def s__law_ends_10 : CS := (.ifs (.cmp .NotEq (.call f_corner_sums (.cons (.var 4) .nil)) (.b1 .tuple (.lc (.b1 .tuple (.lc (.mm2 true (.cint 0) (.bin .Sub (.bin .Add (.var 1) (.var 2)) (.var 0))) (.one 2) (.rng1 (.bin .Add (.var 0) (.cint 1))) .no)) (.one 1) (.rng1 (.bin .Add (.var 0) (.cint 1))) .no)))
    (.cons s__law_ends_9
    .nil)
    .nil)
def s__law_ends_11 : CS := (.ret (.cbl false))
def s__law_ends_12 : CS := (.ifs (.cmp .NotEq (.call f_triangle (.cons (.var 3) .nil)) (.b1 .tuple (.lc (.rng true (.bin .Add (.var 1) (.cint 1))) (.one 1) (.rng1 (.var 0)) .no)))
    (.cons s__law_ends_11
    .nil)
    .nil)
def s__law_ends_13 : CS := (.ret (.cbl false))
def s__law_ends_14 : CS := (.ifs (.or_ (.cmp .NotEq (.call f_permutations_below (.cons (.var 3) .nil)) (.lst (.cons (.var 3) .nil))) (.one (.cmp .NotEq (.call f_permutations_above (.cons (.var 4) .nil)) (.lst (.cons (.var 4) .nil)))))
    (.cons s__law_ends_13
    .nil)
    .nil)
def s__law_ends_15 : CS := (.ret (.cbl false))
def s__law_ends_16 : CS := (.ifs (.cmp .NotEq (.b1 .len (.call f_permutations_above (.cons (.var 3) .nil))) (.ix (.lst (.cons (.cint 1) (.cons (.cint 2) (.cons (.cint 6) (.cons (.cint 24) (.cons (.cint 120) .nil)))))) (.bin .Sub (.var 0) (.cint 1))))
    (.cons s__law_ends_15
    .nil)
    .nil)
def s__law_ends_17 : CS := (.ret (.cbl false))
def s__law_ends_18 : CS := (.ifs (.or_ (.cmp .NotEq (.call f_least_above (.cons (.var 3) (.cons (.var 4) .nil))) (.var 4)) (.one (.cmp .NotEq (.call f_greatest_below (.cons (.var 3) (.cons (.var 4) .nil))) (.var 3))))
    (.cons s__law_ends_17
    .nil)
    .nil)
def s__law_ends_19 : CS := (.ret (.and_ (.cmp .Eq (.call f_distance (.cons (.var 3) (.cons (.var 4) .nil))) (.bin .FloorDiv (.bin .Mult (.bin .Mult (.bin .Sub (.var 0) (.cint 1)) (.var 0)) (.bin .Add (.var 0) (.cint 1))) (.cint 6))) (.one (.cmp .Eq (.b1 .len (.call f_changes (.cons (.var 3) .nil))) (.bin .Sub (.var 0) (.cint 1))))))
/- _law_ends -/
def c__law_ends : CD := ⟨1, 5,
  (.cons s__law_ends_1
  (.cons s__law_ends_2
  (.cons s__law_ends_4
  (.cons s__law_ends_6
  (.cons s__law_ends_8
  (.cons s__law_ends_10
  (.cons s__law_ends_12
  (.cons s__law_ends_14
  (.cons s__law_ends_16
  (.cons s__law_ends_18
  (.cons s__law_ends_19
  .nil)))))))))))⟩
def s_law_k14_1 : CS := (.asg 1 (.lst .nil))
def s_law_k14_2 : CS := (.asg 2 (.bin .Add (.cint 1) (.call f__law_draw (.cons (.var 0) (.cons (.var 1) (.cons (.cint 5) .nil))))))
def s_law_k14_3 : CS := (.ret (.cbl false))
def s_law_k14_4 : CS := (.ifs (.nt (.call f__law_ends (.cons (.var 2) .nil)))
    (.cons s_law_k14_3
    .nil)
    .nil)
def s_law_k14_5 : CS := (.asg 3 (.tup (.cons (.tup (.cons (.cint 1) .nil)) .nil)))
def s_law_k14_6 : CS := (.ret (.cbl false))
def s_law_k14_7 : CS := (.ifs (.or_ (.cmp .NotEq (.call f_changes (.cons (.var 3) .nil)) (.lst .nil)) (.one (.cmp .NotEq (.call f_way (.cons (.var 3) (.cons (.var 3) .nil))) (.lst (.cons (.var 3) .nil)))))
    (.cons s_law_k14_6
    .nil)
    .nil)
def s_law_k14_8 : CS := (.ret (.cbl false))
def s_law_k14_9 : CS := (.ifs (.or_ (.cmp .IsNot (.call f_best_question (.cons (.cint 1) (.cons (.tup .nil) .nil))) .cnon) (.one (.cmp .NotEq (.call f_candidates (.cons (.cint 1) (.cons (.tup .nil) .nil))) (.lst (.cons (.var 3) .nil)))))
    (.cons s_law_k14_8
    .nil)
    .nil)
def s_law_k14_10 : CS := (.asg 4 (.tup (.cons (.tup (.cons (.cint 0) (.cons (.cint 1) (.cons (.cint 0) .nil)))) (.cons (.tup (.cons (.cint 1) (.cons (.neg (.cint 1)) (.cons (.cint 1) .nil)))) (.cons (.tup (.cons (.cint 0) (.cons (.cint 1) (.cons (.cint 0) .nil)))) .nil)))))
def s_law_k14_11 : CS := (.ret (.cbl false))
def s_law_k14_12 : CS := (.ifs (.or_ (.cmp .IsNot (.call f_is_table (.cons (.var 4) .nil)) (.cbl true)) (.or_ (.cmp .NotEq (.call f_inversions (.cons (.var 4) .nil)) (.cint 2)) (.or_ (.cmp .NotEq (.call f_negatives (.cons (.var 4) .nil)) (.cint 1)) (.one (.cmp .NotEq (.call f_turned (.cons (.var 4) .nil)) (.var 4))))))
    (.cons s_law_k14_11
    .nil)
    .nil)
def s_law_k14_13 : CS := (.ret (.cbl false))
def s_law_k14_14 : CS := (.ifs (.or_ (.cmp .NotEq (.call f_triangle (.cons (.var 4) .nil)) (.tup (.cons (.tup (.cons (.cint 1) .nil)) (.cons (.tup (.cons (.cint 0) (.cons (.cint 2) .nil))) (.cons (.tup (.cons (.cint 0) (.cons (.cint 1) (.cons (.cint 2) .nil)))) .nil))))) (.one (.cmp .NotEq (.b1 .len (.call f_changes (.cons (.var 4) .nil))) (.cint 4))))
    (.cons s_law_k14_13
    .nil)
    .nil)
def s_law_k14_15 : CS := (.ret (.cbl false))
def s_law_k14_16 : CS := (.ifs (.cmp .NotEq (.b1 .len (.call f_permutations_below (.cons (.var 4) .nil))) (.cint 3))
    (.cons s_law_k14_15
    .nil)
    .nil)
def s_law_k14_17 : CS := (.par [5, 6] (.cons (.tup (.cons (.tup (.cons (.cint 1) (.cons (.cint 0) (.cons (.cint 0) .nil)))) (.cons (.tup (.cons (.cint 0) (.cons (.cint 0) (.cons (.cint 1) .nil)))) (.cons (.tup (.cons (.cint 0) (.cons (.cint 1) (.cons (.cint 0) .nil)))) .nil)))) (.cons (.tup (.cons (.tup (.cons (.cint 0) (.cons (.cint 1) (.cons (.cint 0) .nil)))) (.cons (.tup (.cons (.cint 1) (.cons (.cint 0) (.cons (.cint 0) .nil)))) (.cons (.tup (.cons (.cint 0) (.cons (.cint 0) (.cons (.cint 1) .nil)))) .nil)))) .nil)))
def s_law_k14_18 : CS := (.ret (.cbl false))
def s_law_k14_19 : CS := (.ifs (.or_ (.cmp .NotEq (.call f_least_above (.cons (.var 5) (.cons (.var 6) .nil))) (.var 4)) (.one (.cmp .NotEq (.call f_greatest_below (.cons (.var 5) (.cons (.var 6) .nil))) (.tup (.cons (.tup (.cons (.cint 1) (.cons (.cint 0) (.cons (.cint 0) .nil)))) (.cons (.tup (.cons (.cint 0) (.cons (.cint 1) (.cons (.cint 0) .nil)))) (.cons (.tup (.cons (.cint 0) (.cons (.cint 0) (.cons (.cint 1) .nil)))) .nil)))))))
    (.cons s_law_k14_18
    .nil)
    .nil)
def s_law_k14_20 : CS := (.asg 7 (.tup (.cons (.tup (.cons (.cint 0) (.cons (.cint 0) (.cons (.cint 1) (.cons (.cint 0) (.cons (.cint 0) .nil)))))) (.cons (.tup (.cons (.cint 0) (.cons (.cint 1) (.cons (.neg (.cint 1)) (.cons (.cint 1) (.cons (.cint 0) .nil)))))) (.cons (.tup (.cons (.cint 1) (.cons (.neg (.cint 1)) (.cons (.cint 1) (.cons (.neg (.cint 1)) (.cons (.cint 1) .nil)))))) (.cons (.tup (.cons (.cint 0) (.cons (.cint 1) (.cons (.neg (.cint 1)) (.cons (.cint 1) (.cons (.cint 0) .nil)))))) (.cons (.tup (.cons (.cint 0) (.cons (.cint 0) (.cons (.cint 1) (.cons (.cint 0) (.cons (.cint 0) .nil)))))) .nil)))))))
def s_law_k14_21 : CS := (.ret (.cbl false))
def s_law_k14_22 : CS := (.ifs (.or_ (.cmp .IsNot (.call f_is_table (.cons (.var 7) .nil)) (.cbl true)) (.or_ (.cmp .NotEq (.call f_negatives (.cons (.var 7) .nil)) (.cint 4)) (.one (.cmp .NotEq (.call f_mirrored (.cons (.var 7) .nil)) (.var 7)))))
    (.cons s_law_k14_21
    .nil)
    .nil)
def s_law_k14_23 : CS := (.ret (.cbl false))
def s_law_k14_24 : CS := (.ifs (.or_ (.cmp .NotEq (.call f_count_by_first_row (.cons (.cint 4) .nil)) (.lst (.cons (.cint 7) (.cons (.cint 14) (.cons (.cint 14) (.cons (.cint 7) .nil)))))) (.one (.cmp .NotEq (.call f_count_tables (.cons (.var 2) .nil)) (.ix (.lst (.cons (.cint 1) (.cons (.cint 2) (.cons (.cint 7) (.cons (.cint 42) (.cons (.cint 429) .nil)))))) (.bin .Sub (.var 2) (.cint 1))))))
    (.cons s_law_k14_23
    .nil)
    .nil)
def s_law_k14_25 : CS := (.ret (.cmp .Eq (.call f_candidates (.cons (.cint 3) (.cons (.tup (.cons (.tup (.cons (.cint 1) (.cons (.cint 1) (.cons (.cint 1) .nil)))) .nil)) .nil))) (.lst (.cons (.tup (.cons (.tup (.cons (.cint 1) (.cons (.cint 0) (.cons (.cint 0) .nil)))) (.cons (.tup (.cons (.cint 0) (.cons (.cint 0) (.cons (.cint 1) .nil)))) (.cons (.tup (.cons (.cint 0) (.cons (.cint 1) (.cons (.cint 0) .nil)))) .nil)))) (.cons (.tup (.cons (.tup (.cons (.cint 1) (.cons (.cint 0) (.cons (.cint 0) .nil)))) (.cons (.tup (.cons (.cint 0) (.cons (.cint 1) (.cons (.cint 0) .nil)))) (.cons (.tup (.cons (.cint 0) (.cons (.cint 0) (.cons (.cint 1) .nil)))) .nil)))) .nil)))))
/- law -/
def c_law_k14 : CD := ⟨1, 8,
  (.cons s_law_k14_1
  (.cons (.cel 1)
  (.cons s_law_k14_2
  (.cons s_law_k14_4
  (.cons s_law_k14_5
  (.cons s_law_k14_7
  (.cons s_law_k14_9
  (.cons s_law_k14_10
  (.cons s_law_k14_12
  (.cons s_law_k14_14
  (.cons s_law_k14_16
  (.cons s_law_k14_17
  (.cons s_law_k14_19
  (.cons s_law_k14_20
  (.cons s_law_k14_22
  (.cons s_law_k14_24
  (.cons s_law_k14_25
  .nil)))))))))))))))))⟩
def s_law_k16_1 : CS := (.asg 1 (.lst .nil))
def s_law_k16_2 : CS := (.asg 2 (.call f__law_some_table (.cons (.var 0) (.cons (.var 1) (.cons (.cint 5) .nil)))))
def s_law_k16_3 : CS := (.par [3, 4] (.cons (.call f__law_same_size (.cons (.var 0) (.cons (.var 1) (.cons (.var 2) .nil)))) (.cons (.call f__law_same_size (.cons (.var 0) (.cons (.var 1) (.cons (.var 2) .nil)))) .nil)))
def s_law_k16_4 : CS := (.ret (.cbl false))
def s_law_k16_5 : CS := (.ifs (.or_ (.cmp .NotEq (.call f_least_above (.cons (.var 2) (.cons (.var 3) .nil))) (.call f_least_above (.cons (.var 3) (.cons (.var 2) .nil)))) (.one (.cmp .NotEq (.call f_greatest_below (.cons (.var 2) (.cons (.var 3) .nil))) (.call f_greatest_below (.cons (.var 3) (.cons (.var 2) .nil))))))
    (.cons s_law_k16_4
    .nil)
    .nil)
def s_law_k16_6 : CS := (.ret (.cbl false))
def s_law_k16_7 : CS := (.ifs (.or_ (.cmp .NotEq (.call f_least_above (.cons (.var 2) (.cons (.var 2) .nil))) (.var 2)) (.one (.cmp .NotEq (.call f_greatest_below (.cons (.var 2) (.cons (.call f_least_above (.cons (.var 2) (.cons (.var 3) .nil))) .nil))) (.var 2))))
    (.cons s_law_k16_6
    .nil)
    .nil)
def s_law_k16_8 : CS := (.ret (.cbl false))
def s_law_k16_9 : CS := (.ifs (.cmp .NotEq (.call f_least_above (.cons (.var 2) (.cons (.call f_greatest_below (.cons (.var 2) (.cons (.var 3) .nil))) .nil))) (.var 2))
    (.cons s_law_k16_8
    .nil)
    .nil)
def s_law_k16_10 : CS := (.ret (.cbl false))
def s_law_k16_11 : CS := (.ifs (.cmp .NotEq (.call f_least_above (.cons (.call f_least_above (.cons (.var 2) (.cons (.var 3) .nil))) (.cons (.var 4) .nil))) (.call f_least_above (.cons (.var 2) (.cons (.call f_least_above (.cons (.var 3) (.cons (.var 4) .nil))) .nil))))
    (.cons s_law_k16_10
    .nil)
    .nil)
def s_law_k16_12 : CS := (.asg 5 (.call f_greatest_below (.cons (.var 2) (.cons (.call f_least_above (.cons (.var 3) (.cons (.var 4) .nil))) .nil))))
def s_law_k16_13 : CS := (.ret (.cbl false))
def s_law_k16_14 : CS := (.ifs (.cmp .NotEq (.var 5) (.call f_least_above (.cons (.call f_greatest_below (.cons (.var 2) (.cons (.var 3) .nil))) (.cons (.call f_greatest_below (.cons (.var 2) (.cons (.var 4) .nil))) .nil))))
    (.cons s_law_k16_13
    .nil)
    .nil)
def s_law_k16_15 : CS := (.asg 6 (.call f_least_above (.cons (.var 2) (.cons (.call f_greatest_below (.cons (.var 3) (.cons (.var 4) .nil))) .nil))))
def s_law_k16_16 : CS := (.ret (.cbl false))
def s_law_k16_17 : CS := (.ifs (.cmp .NotEq (.var 6) (.call f_greatest_below (.cons (.call f_least_above (.cons (.var 2) (.cons (.var 3) .nil))) (.cons (.call f_least_above (.cons (.var 2) (.cons (.var 4) .nil))) .nil))))
    (.cons s_law_k16_16
    .nil)
    .nil)
def s_law_k16_18 : CS := (.asg 7 (.call f__law_under (.cons (.var 2) (.cons (.var 3) .nil))))
def s_law_k16_19 : CS := (.ret (.cbl false))
def s_law_k16_20 : CS := (.ifs (.or_ (.cmp .NotEq (.call f_is_below (.cons (.var 2) (.cons (.var 3) .nil))) (.var 7)) (.one (.cmp .NotEq (.cmp .Eq (.call f_least_above (.cons (.var 2) (.cons (.var 3) .nil))) (.var 3)) (.var 7))))
    (.cons s_law_k16_19
    .nil)
    .nil)
def s_law_k16_21 : CS := (.ret (.cbl false))
def s_law_k16_22 : CS := (.ifs (.cmp .NotEq (.cmp .Eq (.call f_greatest_below (.cons (.var 2) (.cons (.var 3) .nil))) (.var 2)) (.var 7))
    (.cons s_law_k16_21
    .nil)
    .nil)
def s_law_k16_23 : CS := (.ret (.cbl false))
def s_law_k16_24 : CS := (.ifs (.and_ (.call f_is_below (.cons (.var 2) (.cons (.var 3) .nil))) (.and_ (.call f_is_below (.cons (.var 3) (.cons (.var 4) .nil))) (.one (.nt (.call f_is_below (.cons (.var 2) (.cons (.var 4) .nil)))))))
    (.cons s_law_k16_23
    .nil)
    .nil)
def s_law_k16_25 : CS := (.ret (.cbl false))
def s_law_k16_26 : CS := (.ifs (.cmp .Lt (.bin .Add (.call f_distance (.cons (.var 2) (.cons (.var 3) .nil))) (.call f_distance (.cons (.var 3) (.cons (.var 4) .nil)))) (.call f_distance (.cons (.var 2) (.cons (.var 4) .nil))))
    (.cons s_law_k16_25
    .nil)
    .nil)
def s_law_k16_27 : CS := (.ret (.cmp .LtE (.call f_distance (.cons (.call f_least_above (.cons (.var 2) (.cons (.var 3) .nil))) (.cons (.call f_least_above (.cons (.var 2) (.cons (.var 4) .nil))) .nil))) (.call f_distance (.cons (.var 3) (.cons (.var 4) .nil)))))
/- law -/
def c_law_k16 : CD := ⟨1, 8,
  (.cons s_law_k16_1
  (.cons (.cel 1)
  (.cons s_law_k16_2
  (.cons s_law_k16_3
  (.cons s_law_k16_5
  (.cons s_law_k16_7
  (.cons s_law_k16_9
  (.cons s_law_k16_11
  (.cons s_law_k16_12
  (.cons s_law_k16_14
  (.cons s_law_k16_15
  (.cons s_law_k16_17
  (.cons s_law_k16_18
  (.cons s_law_k16_20
  (.cons s_law_k16_22
  (.cons s_law_k16_24
  (.cons s_law_k16_26
  (.cons s_law_k16_27
  .nil))))))))))))))))))⟩
def s__law_lifted_1 : CS := (.asg 1 (.lst .nil))
def s__law_lifted_2 : CS := (.asg 6 (.lc (.var 5) (.one 5) (.seq (.sl (.var 0) (.yes (.bin .Add (.var 2) (.cint 1))) (.yes (.var 4)))) (.yes (.chain .Lt .Lt (.var 3) (.var 5) (.ix (.var 0) (.var 4))))))
def s__law_lifted_3 : CS := (.app 1 (.bin .Add (.bin .Add (.bin .Add (.bin .Add (.sl (.var 0) .no (.yes (.var 2))) (.tup (.cons (.ix (.var 0) (.var 4)) .nil))) (.sl (.var 0) (.yes (.bin .Add (.var 2) (.cint 1))) (.yes (.var 4)))) (.tup (.cons (.var 3) .nil))) (.sl (.var 0) (.yes (.bin .Add (.var 4) (.cint 1))) .no)))
def s__law_lifted_4 : CS := (.ifs (.and_ (.cmp .Lt (.var 3) (.ix (.var 0) (.var 4))) (.one (.cmp .Eq (.var 6) (.lst .nil))))
    (.cons s__law_lifted_3
    .nil)
    .nil)
def b__law_lifted_1 : CSs := (.cons s__law_lifted_2
  (.cons s__law_lifted_4
  (.cons (.wip [4, 6])
  .nil)))
def s__law_lifted_5 : CS := (.for_ (.one 4) (.rng2 (.bin .Add (.var 2) (.cint 1)) (.b1 .len (.var 0))) b__law_lifted_1)
def b__law_lifted_2 : CSs := (.cons s__law_lifted_5
  (.cons (.wip [2, 3, 4, 6])
  .nil))
def s__law_lifted_6 : CS := (.for_ (.tup [2, 3]) (.enum (.var 0)) b__law_lifted_2)
def s__law_lifted_7 : CS := (.retv 1)
/- _law_lifted -/
def c__law_lifted : CD := ⟨1, 7,
  (.cons s__law_lifted_1
  (.cons s__law_lifted_6
  (.cons s__law_lifted_7
  .nil)))⟩
def s__law_shown_1 : CS := (.ret (.b1 .tuple (.lc (.b1 .tuple (.lc (.ite (.cmp .Eq (.var 2) (.var 1)) (.cint 1) (.cint 0)) (.one 2) (.rng1 (.b1 .len (.var 0))) .no)) (.one 1) (.seq (.var 0)) .no)))
/- _law_shown -/
def c__law_shown : CD := ⟨1, 3,
  (.cons s__law_shown_1
  .nil)⟩
def s__law_told_1 : CS := (.asg 3 (.lst (.cons (.call f_changes (.cons (.var 0) .nil)) (.cons (.call f_way (.cons (.var 0) (.cons (.var 1) .nil))) (.cons (.call f_permutations_below (.cons (.var 0) .nil)) (.cons (.call f_permutations_above (.cons (.var 0) .nil)) (.cons (.call f_all_tables (.cons (.var 2) .nil)) .nil)))))))
def s__law_told_2 : CS := (.ret (.bin .Add (.var 3) (.lst (.cons (.call f_candidates (.cons (.var 2) (.cons (.tup .nil) .nil))) (.cons (.call f_count_by_first_row (.cons (.var 2) .nil)) (.cons (.lst (.cons (.call f_corner_sums (.cons (.var 0) .nil)) (.cons (.call f_triangle (.cons (.var 0) .nil)) .nil))) .nil))))))
/- _law_told -/
def c__law_told : CD := ⟨3, 4,
  (.cons s__law_told_1
  (.cons s__law_told_2
  .nil))⟩
def s_law_k19_1 : CS := (.asg 1 (.lst .nil))
def s_law_k19_2 : CS := (.asg 2 (.call f__law_some_table (.cons (.var 0) (.cons (.var 1) (.cons (.cint 5) .nil)))))
def s_law_k19_3 : CS := (.asg 3 (.b1 .len (.var 2)))
def s_law_k19_4 : CS := (.asg 4 (.lst (.cons .cnon (.cons (.cint 5) (.cons (.tup .nil) (.cons (.lst (.cons (.tup (.cons (.cint 1) .nil)) .nil)) (.cons (.tup (.cons (.tup (.cons (.cint 0) .nil)) .nil)) (.cons (.tup (.cons (.tup (.cons (.neg (.cint 1)) .nil)) .nil)) (.cons (.tup (.cons (.tup (.cons (.cint 2) .nil)) .nil)) (.cons (.tup (.cons (.tup (.cons (.cbl true) .nil)) .nil)) (.cons (.tup (.cons (.tup (.cons (.cstr "1") .nil)) .nil)) (.cons (.tup (.cons (.lst (.cons (.cint 1) .nil)) .nil)) (.cons (.tup (.cons (.cint 1) .nil)) (.cons (.tup (.cons (.tup (.cons (.cint 1) (.cons (.cint 0) .nil))) .nil)) .nil))))))))))))))
def s_law_k19_5 : CS := (.ext 4 (.lst (.cons (.tup (.cons (.tup (.cons (.cint 1) (.cons (.cint 0) .nil))) (.cons (.tup (.cons (.cint 0) .nil)) .nil))) (.cons (.tup (.cons (.tup (.cons (.cint 1) (.cons (.cint 0) .nil))) (.cons (.tup (.cons (.cint 1) (.cons (.cint 0) .nil))) .nil))) (.cons (.tup (.cons (.tup (.cons (.cint 0) (.cons (.cint 0) .nil))) (.cons (.tup (.cons (.cint 1) (.cons (.cint 1) .nil))) .nil))) (.cons (.tup (.cons (.tup (.cons (.cint 1) (.cons (.cint 1) .nil))) (.cons (.tup (.cons (.cint 0) (.cons (.cint 0) .nil))) .nil))) (.cons (.tup (.cons (.tup (.cons (.cint 1) (.cons (.neg (.cint 1)) .nil))) (.cons (.tup (.cons (.cint 0) (.cons (.cint 1) .nil))) .nil))) .nil)))))))
def s_law_k19_6 : CS := (.ext 4 (.lst (.cons (.tup (.cons (.tup (.cons (.cint 0) (.cons (.cint 1) .nil))) (.cons (.tup (.cons (.cint 1) (.cons (.neg (.cint 1)) .nil))) .nil))) (.cons (.cstr "+") .nil))))
def s_law_k19_7 : CS := (.app 4 (.bin .Add (.var 2) (.var 2)))
def s_law_k19_8 : CS := (.app 4 (.b1 .tuple (.lc (.bin .Add (.bin .Add (.bin .Mult (.tup (.cons (.cint 0) .nil)) (.var 5)) (.tup (.cons (.cint 1) .nil))) (.bin .Mult (.tup (.cons (.cint 0) .nil)) (.bin .Sub (.cint 5) (.var 5)))) (.one 5) (.rng1 (.cint 6)) .no)))
def s_law_k19_9 : CS := (.ret (.cbl false))
def s_law_k19_10 : CS := (.ifs (.or_ (.cmp .IsNot (.call f_is_table (.cons (.var 6) .nil)) (.cbl false)) (.one (.cmp .NotEq (.lc (.call f__law_one (.cons (.var 7) (.cons (.var 6) .nil))) (.one 7) (.rng1 (.cint 13)) .no) (.bin .Mult (.lst (.cons (.tup (.cons (.cstr "raised") (.cons (.cint 0) .nil))) .nil)) (.cint 13)))))
    (.cons s_law_k19_9
    .nil)
    .nil)
def s_law_k19_11 : CS := (.ret (.cbl false))
def s_law_k19_12 : CS := (.ifs (.cmp .NotEq (.lc (.call f__law_two (.cons (.var 7) (.cons (.var 6) (.cons .cnon .nil)))) (.one 7) (.rng1 (.cint 6)) .no) (.bin .Mult (.lst (.cons (.tup (.cons (.cstr "raised") (.cons (.cint 0) .nil))) .nil)) (.cint 6)))
    (.cons s_law_k19_11
    .nil)
    .nil)
def s_law_k19_13 : CS := (.ret (.cbl false))
def s_law_k19_14 : CS := (.ifs (.cmp .NotEq (.lc (.call f__law_two (.cons (.var 7) (.cons (.var 2) (.cons (.var 6) .nil)))) (.one 7) (.rng1 (.cint 6)) .no) (.bin .Mult (.lst (.cons (.tup (.cons (.cstr "raised") (.cons (.cint 0) .nil))) .nil)) (.cint 6)))
    (.cons s_law_k19_13
    .nil)
    .nil)
def b_law_k19_1 : CSs := (.cons s_law_k19_10
  (.cons s_law_k19_12
  (.cons s_law_k19_14
  (.cons (.wip [6])
  .nil))))
def s_law_k19_15 : CS := (.for_ (.one 6) (.seq (.var 4)) b_law_k19_1)
def s_law_k19_16 : CS := (.asg 10 (.b1 .tuple (.lc (.b1 .tuple (.lc (.ite (.cmp .Eq (.var 8) (.var 9)) (.cint 1) (.cint 0)) (.one 9) (.rng1 (.bin .Add (.bin .Mod (.var 3) (.cint 5)) (.cint 1))) .no)) (.one 8) (.rng1 (.bin .Add (.bin .Mod (.var 3) (.cint 5)) (.cint 1))) .no)))
def s_law_k19_17 : CS := (.ret (.cbl false))
def s_law_k19_18 : CS := (.ifs (.cmp .NotEq (.lc (.call f__law_two (.cons (.var 7) (.cons (.var 2) (.cons (.var 10) .nil)))) (.one 7) (.rng1 (.cint 6)) .no) (.bin .Mult (.lst (.cons (.tup (.cons (.cstr "raised") (.cons (.cint 0) .nil))) .nil)) (.cint 6)))
    (.cons s_law_k19_17
    .nil)
    .nil)
def s_law_k19_19 : CS := (.ret (.and_ (.cmp .Is (.call f_is_table (.cons (.var 2) .nil)) (.cbl true)) (.and_ (.cmp .Is (.call f_is_table (.cons (.var 10) .nil)) (.cbl true)) (.one (.cmp .Is (.call f__law_two (.cons (.cint 5) (.cons (.var 2) (.cons (.var 2) .nil)))) (.cbl false))))))
/- law -/
def c_law_k19 : CD := ⟨1, 11,
  (.cons s_law_k19_1
  (.cons (.cel 1)
  (.cons s_law_k19_2
  (.cons s_law_k19_3
  (.cons s_law_k19_4
  (.cons s_law_k19_5
  (.cons s_law_k19_6
  (.cons s_law_k19_7
  (.cons s_law_k19_8
  (.cons (.frz 4)
  (.cons s_law_k19_15
  (.cons s_law_k19_16
  (.cons s_law_k19_18
  (.cons s_law_k19_19
  .nil))))))))))))))⟩
def tab0 : Nat → Option CD
  | 0 => some c_is_integer
  | 1 => some c_alternates
  | 2 => some c_columns_of
  | 3 => some c_is_square
  | 4 => some c_is_table
  | 5 => some c_check_table
  | 6 => some c_negative_count
  | 7 => some c_is_permutation
  | 8 => some c_inversion_count
  | 9 => some c_inversions
  | _ => none
def tab1 : Nat → Option CD
  | 0 => some c_negatives
  | 1 => some c__law_cell_at
  | 2 => some c__law_mixed
  | 3 => some c__law_draw
  | 4 => some c__law_same_number
  | 5 => some c__law_same_truth
  | 6 => some c__law_pick
  | 7 => some c__law_corners
  | 8 => some c__law_sum_like
  | 9 => some c__law_uncorner
  | _ => none
def tab2 : Nat → Option CD
  | 0 => some c__law_some_table
  | 1 => some c__law_good
  | 2 => some c_law_k01
  | 3 => some c_sums_of
  | 4 => some c_corner_sums
  | 5 => some c_are_sums
  | 6 => some c_table_of
  | 7 => some c_from_sums
  | _ => none
def tab3 : Nat → Option CD
  | 0 => some c_law_k02
  | 1 => some c_check_two
  | 2 => some c_lines_of
  | 3 => some c_tables_of
  | 4 => some c_below
  | 5 => some c_is_below
  | 6 => some c_merged
  | 7 => some c_least_above
  | 8 => some c_greatest_below
  | 9 => some c_permutation_tables
  | _ => none
def tab4 : Nat → Option CD
  | 0 => some c_permutations_below
  | 1 => some c_permutations_above
  | 2 => some c__law_same_size
  | 3 => some c__law_under
  | 4 => some c__law_single
  | 5 => some c__law_chosen
  | 6 => some c_law_k03
  | 7 => some c_triangle
  | 8 => some c_is_triangle
  | 9 => some c_from_triangle
  | _ => none
def tab5 : Nat → Option CD
  | 2 => some c_law_k04
  | 3 => some c_apart
  | 4 => some c_distance
  | 5 => some c_changed
  | 6 => some c_options_of
  | 7 => some c_change_list
  | 8 => some c_changes
  | 9 => some c_law_k05
  | _ => none
def tab6 : Nat → Option CD
  | 0 => some c_way
  | 1 => some c_is_way
  | 2 => some c__law_one_apart
  | 3 => some c_law_k06
  | 4 => some c_mirrored
  | 5 => some c_exchanged
  | 6 => some c_turned
  | 7 => some c_law_k07
  | 9 => some c_check_size
  | _ => none
def tab7 : Nat → Option CD
  | 0 => some c_all_tables
  | 1 => some c_count_tables
  | 4 => some c__law_all
  | 5 => some c_law_k09
  | 6 => some c_is_answer
  | 7 => some c_agreeing
  | 8 => some c_candidates
  | 9 => some c_best_question
  | _ => none
def tab8 : Nat → Option CD
  | 1 => some c_law_k10
  | 3 => some c_format_table
  | 8 => some c__law_crossed
  | _ => none
def tab9 : Nat → Option CD
  | 3 => some c__law_ends
  | 4 => some c_law_k14
  | 6 => some c_law_k16
  | 7 => some c__law_lifted
  | 8 => some c__law_shown
  | _ => none
def tab10 : Nat → Option CD
  | 0 => some c__law_told
  | 4 => some c_law_k19
  | _ => none
def tab (n : Nat) : Option CD :=
  if n < 10 then tab0 (n - 0) else
  if n < 20 then tab1 (n - 10) else
  if n < 30 then tab2 (n - 20) else
  if n < 40 then tab3 (n - 30) else
  if n < 50 then tab4 (n - 40) else
  if n < 60 then tab5 (n - 50) else
  if n < 70 then tab6 (n - 60) else
  if n < 80 then tab7 (n - 70) else
  if n < 90 then tab8 (n - 80) else
  if n < 100 then tab9 (n - 90) else
  if n < 110 then tab10 (n - 100) else
  none
end SS
/- SV1 -/
set_option linter.all false
set_option maxRecDepth 100000
/-! Tools to run the evaluator on data with letters in it. -/
namespace SS
open PySem L2
theorem sem_eq {k f : Nat} {c : CD} (h : tab f = some c) (as : List Vl) (m : Mem) : sem tab (k + 1) f as m = runD (sem tab k) c as m := by
  show (match tab f with
    | none => Rs.bad
    | some d => runD (sem tab k) d as m) = _
  rw [h]
/-! ### data -/
def iT (r : List Int) : PyData := .tuple (r.map .int)
def tT (T : List (List Int)) : PyData := .tuple (T.map iT)
@[simp] theorem intsOf_map (r : List Int) : intsOf (r.map .int) = some r := by
  induction r with
  | nil => rfl
  | cons a r ih => simp [intsOf, ih]
@[simp] theorem boolsOf_map (r : List Bool) : boolsOf (r.map .bool) = some r := by
  induction r with
  | nil => rfl
  | cons a r ih => simp [boolsOf, ih]
theorem eqv_int (i j : Int) : PyData.eqv (.int i) (.int j) = decide (i = j) := by
  show (i == j) = _
  by_cases h : i = j <;> simp [h]
theorem eqv_bool (i j : Bool) : PyData.eqv (.bool i) (.bool j) = decide (i = j) := by
  show (i == j) = _
  cases i <;> cases j <;> rfl
theorem eqv_tup (xs ys : List PyData) : PyData.eqv (.tuple xs) (.tuple ys) = PyData.eqvAll xs ys := rfl
theorem eqv_list (xs ys : List PyData) : PyData.eqv (.list xs) (.list ys) = PyData.eqvAll xs ys := rfl
theorem eqvAll_map {α : Type} {f : α → PyData} [DecidableEq α] (h : ∀ a b, PyData.eqv (f a) (f b) = decide (a = b)) : ∀ (xs ys : List α), PyData.eqvAll (xs.map f) (ys.map f) = decide (xs = ys)
  | [], [] => rfl
  | [], _ :: _ => rfl
  | _ :: _, [] => rfl
  | x :: xs, y :: ys => by
    show (PyData.eqv (f x) (f y) && PyData.eqvAll (xs.map f) (ys.map f)) = _
    rw [h, eqvAll_map h xs ys]
    by_cases a : x = y <;> by_cases b : xs = ys <;> simp [a, b]
theorem eqv_iT (xs ys : List Int) : PyData.eqv (iT xs) (iT ys) = decide (xs = ys) := by
  unfold iT
  rw [eqv_tup, eqvAll_map eqv_int]
theorem eqv_tT (xs ys : List (List Int)) : PyData.eqv (tT xs) (tT ys) = decide (xs = ys) := by
  unfold tT
  rw [eqv_tup, eqvAll_map eqv_iT]
/-- data without dicts, so deep at most -/
def Sh (n : Nat) (d : PyData) : Prop := d.canLay0 = true ∧ d.depth ≤ n
theorem canLayAll_of : ∀ {xs : List PyData}, (∀ x ∈ xs, x.canLay0 = true) → PyData.canLayAll0 xs = true
  | [], _ => by simp [PyData.canLayAll0]
  | x :: xs, h => by simp [PyData.canLayAll0, h x List.mem_cons_self, canLayAll_of fun y hy => h y (List.mem_cons_of_mem _ hy)]
theorem depthAll_of {n : Nat} : ∀ {xs : List PyData}, (∀ x ∈ xs, x.depth ≤ n) → PyData.depthAll xs ≤ n
  | [], _ => by simp [PyData.depthAll]
  | x :: xs, h => by
    have h1 := h x List.mem_cons_self
    have h2 := depthAll_of fun y hy => h y (List.mem_cons_of_mem _ hy)
    simp only [PyData.depthAll]
    omega
theorem Sh.int (i : Int) : Sh 1 (.int i) := ⟨by simp [PyData.canLay0], by simp [PyData.depth]⟩
theorem Sh.bool (i : Bool) : Sh 1 (.bool i) := ⟨by simp [PyData.canLay0], by simp [PyData.depth]⟩
theorem Sh.none : Sh 1 .none := ⟨by simp [PyData.canLay0], by simp [PyData.depth]⟩
theorem Sh.mono {n k : Nat} {d : PyData} (h : Sh n d) (l : n ≤ k) : Sh k d := ⟨h.1, Nat.le_trans h.2 l⟩
theorem Sh.tup {n : Nat} {xs : List PyData} (h : ∀ x ∈ xs, Sh n x) : Sh (n + 1) (.tuple xs) := by
  refine ⟨?_, ?_⟩
  · simp only [PyData.canLay0]
    exact canLayAll_of fun x hx => (h x hx).1
  · simp only [PyData.depth]
    have := depthAll_of (n := n) fun x hx => (h x hx).2
    omega
theorem Sh.list {n : Nat} {xs : List PyData} (h : ∀ x ∈ xs, Sh n x) : Sh (n + 1) (.list xs) := by
  refine ⟨?_, ?_⟩
  · simp only [PyData.canLay0]
    exact canLayAll_of fun x hx => (h x hx).1
  · simp only [PyData.depth]
    have := depthAll_of (n := n) fun x hx => (h x hx).2
    omega
theorem Sh.ok {n : Nat} {d : PyData} (h : Sh n d) (l : n ≤ 64) : SeqAt.shaped d = true := by
  unfold SeqAt.shaped
  rw [h.1, decide_eq_true (Nat.le_trans h.2 l)]
  rfl
theorem Sh.iT (r : List Int) : Sh 2 (iT r) := Sh.tup fun x hx => by
  obtain ⟨i, _, rfl⟩ := List.mem_map.mp hx
  exact Sh.int i
theorem Sh.tT (T : List (List Int)) : Sh 3 (tT T) := Sh.tup fun x hx => by
  obtain ⟨i, _, rfl⟩ := List.mem_map.mp hx
  exact Sh.iT i
theorem eqPy_of {a b : PyData} {n k : Nat} (ha : Sh n a) (hb : Sh k b) (hn : n ≤ 64) (hk : k ≤ 64) : eqPy a b = some (PyData.eqv a b) := by
  unfold eqPy
  rw [ha.ok hn, hb.ok hk]
  rfl
@[simp] theorem eqPy_int (i j : Int) : eqPy (.int i) (.int j) = some (decide (i = j)) := by rw [eqPy_of (Sh.int i) (Sh.int j) (by decide) (by decide), eqv_int]
@[simp] theorem eqPy_bool (i j : Bool) : eqPy (.bool i) (.bool j) = some (decide (i = j)) := by rw [eqPy_of (Sh.bool i) (Sh.bool j) (by decide) (by decide), eqv_bool]
@[simp] theorem eqPy_iT (i j : List Int) : eqPy (SS.iT i) (SS.iT j) = some (decide (i = j)) := by rw [eqPy_of (Sh.iT i) (Sh.iT j) (by decide) (by decide), eqv_iT]
@[simp] theorem eqPy_tT (i j : List (List Int)) : eqPy (SS.tT i) (SS.tT j) = some (decide (i = j)) := by rw [eqPy_of (Sh.tT i) (Sh.tT j) (by decide) (by decide), eqv_tT]
/-! ### runs -/
/-- a loop's turn -/
def forB (t : Tg) (body : CSs) (S : Fo) : PyData → Sg → Mem → So := fun d η m => match bindTg η d t with
      | some η1 => denSs body S η1 m
      | none => .bad
theorem denS_for {t : Tg} {it : CI} {body : CSs} {S : Fo} {η : Sg} {m : Mem} : denS (.for_ t it body) S η m = (denI true it S η m).so fun ds m1 => forRun (forB t body S) ds η m1 := rfl
theorem forB_one {i : Nat} {body : CSs} {S : Fo} {d : PyData} {η : Sg} {m : Mem} : forB (.one i) body S d η m = denSs body S (η.set i (some (.dat d))) m := rfl

/-- a comprehension over given things, none left out -/
theorem lcRun_map {α : Type} {body : PyData → Mem → Rs (Option PyData)} {f g : α → PyData} {m : Mem} : ∀ {xs : List α}, (∀ x ∈ xs, body (f x) m = .ok (some (g x)) m) → lcRun body (xs.map f) m = .ok (xs.map g) m
  | [], _ => rfl
  | x :: xs, h => by
    simp only [List.map_cons, lcRun, h x List.mem_cons_self, Rs.bind_ok, lcRun_map fun y hy => h y (List.mem_cons_of_mem _ hy)]
theorem lcRun_filter {α : Type} {body : PyData → Mem → Rs (Option PyData)} {f : α → PyData} {g : α → Option PyData} {m : Mem} : ∀ {xs : List α}, (∀ x ∈ xs, body (f x) m = .ok (g x) m) → lcRun body (xs.map f) m = .ok (xs.filterMap g) m
  | [], _ => rfl
  | x :: xs, h => by
    simp only [List.map_cons, lcRun, h x List.mem_cons_self, Rs.bind_ok, lcRun_filter fun y hy => h y (List.mem_cons_of_mem _ hy), List.filterMap_cons]
    cases g x <;> rfl
theorem ev_lc {α : Type} {elt : CE} {t : Tg} {it : CI} {S : Fo} {η : Sg} {m : Mem} {xs : List α} {f g : α → PyData} (hI : denI false it S η m = .ok (xs.map f) m) (hf : xs.length ≤ 16000000)
    (h : ∀ x ∈ xs, ∃ η1 v, bindTg (wipeS η (tgSlots t)) (f x) t = some η1 ∧ den elt S η1 m = .ok v m ∧ keep v = some (g x)) : den (.lc elt t it .no) S η m = .ok (.new (xs.map g)) m := by
  simp only [den, hI, Rs.bind_ok]
  rw [lcRun_map (g := g)]
  · simp [fits, hf]
  · intro x hx
    obtain ⟨η1, v, h1, h2, h3⟩ := h x hx
    simp only [h1, denC, Rs.bind_ok, if_true, h2, h3, Rs.opt_some, noEx]
theorem fm_filter {α β : Type} {p : α → Bool} {g : α → β} : ∀ xs : List α, xs.filterMap (fun x => if p x then some (g x) else none) = (xs.filter p).map g
  | [] => rfl
  | x :: xs => by
    rw [List.filterMap_cons, List.filter_cons, fm_filter xs]
    cases p x <;> rfl
theorem ev_lcIf {α : Type} {elt c : CE} {t : Tg} {it : CI} {S : Fo} {η : Sg} {m : Mem} {xs : List α} {f g : α → PyData} {p : α → Bool} (hI : denI false it S η m = .ok (xs.map f) m) (hf : xs.length ≤ 16000000)
    (h : ∀ x ∈ xs, ∃ η1, bindTg (wipeS η (tgSlots t)) (f x) t = some η1 ∧ den c S η1 m = .ok (.dat (.bool (p x))) m ∧ (p x = true → ∃ v, den elt S η1 m = .ok v m ∧ keep v = some (g x))) : den (.lc elt t it (.yes c)) S η m = .ok (.new ((xs.filter p).map g)) m := by
  simp only [den, hI, Rs.bind_ok]
  rw [lcRun_filter (g := fun x => if p x then some (g x) else none)]
  · have e : xs.filterMap (fun x => if p x then some (g x) else none) = (xs.filter p).map g := fm_filter xs
    have hl : ((xs.filter p).map g).length ≤ 16000000 := by
      rw [List.length_map]
      exact Nat.le_trans (List.length_filter_le _ _) hf
    rw [e]
    simp only [Rs.bind_ok, fits, hl, decide_true, if_true]
  · intro x hx
    obtain ⟨η1, h1, h2, h3⟩ := h x hx
    simp only [h1, denC, Rs.bind_ok, h2, boolV, Rs.opt_some]
    cases hp : p x with
    | false => simp only [Bool.false_eq_true, if_false, noEx]
    | true =>
      obtain ⟨v, h4, h5⟩ := h3 hp
      simp only [if_true, h4, h5, Rs.bind_ok, Rs.opt_some, noEx]
/-- a loop by its state -/
theorem forRun_fold {α β : Type} {body : PyData → Sg → Mem → So} {f : α → PyData} {st : β → Sg} {sm : β → Mem} {step : β → α → β} : ∀ {xs : List α} {b : β}, (∀ b, ∀ x ∈ xs, body (f x) (st b) (sm b) = .nx (st (step b x)) (sm (step b x))) → forRun body (xs.map f) (st b) (sm b) = .nx (st (xs.foldl step b)) (sm (xs.foldl step b))
  | [], _, _ => rfl
  | x :: xs, b, h => by
    simp only [List.map_cons, forRun, h b x List.mem_cons_self, So.then_nx, List.foldl_cons]
    exact forRun_fold fun b y hy => h b y (List.mem_cons_of_mem _ hy)
end SS
/- SW1 -/
set_option linter.all false
set_option maxRecDepth 100000
/-! Typed mirrors: what a def computes, as a function on typed data, and how such a function is put together along the core text. -/
namespace SS
open PySem L2
/-! ### results -/
inductive Rz (α : Type) where
  | ok (a : α)
  | ex (c : Str)
  | bad
deriving DecidableEq
inductive Rw (W α : Type) where
  | ok (a : α) (w : W)
  | ex (c : Str) (w : W)
  | bad
inductive Ow (W σ ρ : Type) where
  | nx (s : σ) (w : W)
  | rt (v : ρ) (w : W)
  | ex (c : Str) (w : W)
  | bad
abbrev Z (W α : Type) := W → Rw W α
abbrev Y (W σ ρ : Type) := W → Ow W σ ρ
section
variable {W σ τ ρ α β γ δ : Type}
def Z.ok (a : α) : Z W α := fun w => .ok a w
def Z.bad : Z W α := fun _ => .bad
def Z.ex (c : Str) : Z W α := fun w => .ex c w
def Z.bind (r : Z W α) (f : α → Z W β) : Z W β := fun w => match r w with
  | .ok a w' => f a w'
  | .ex c w' => .ex c w'
  | .bad => .bad
def Z.opt : Option α → Z W α
  | some a => Z.ok a
  | none => Z.bad
def Z.lift (r : Rz α) : Z W α := match r with
  | .ok a => Z.ok a
  | .ex c => Z.ex c
  | .bad => Z.bad
def Z.if (c : Bool) (a : α) : Z W α := if c then Z.ok a else Z.bad
def Z.noEx (r : Z W α) : Z W α := fun w => match r w with
  | .ex _ _ => .bad
  | x => x
def Z.run (r : Z Unit α) : Rz α := match r () with
  | .ok a _ => .ok a
  | .ex c _ => .ex c
  | .bad => .bad
def Y.nx (s : σ) : Y W σ ρ := fun w => .nx s w
def Y.rt (v : ρ) : Y W σ ρ := fun w => .rt v w
def Y.ex (c : Str) : Y W σ ρ := fun w => .ex c w
def Y.bad : Y W σ ρ := fun _ => .bad
def Y.then (r : Y W σ ρ) (f : σ → Y W τ ρ) : Y W τ ρ := fun w => match r w with
  | .nx s w' => f s w'
  | .rt v w' => .rt v w'
  | .ex c w' => .ex c w'
  | .bad => .bad
def Z.so (r : Z W α) (f : α → Y W τ ρ) : Y W τ ρ := fun w => match r w with
  | .ok a w' => f a w'
  | .ex c w' => .ex c w'
  | .bad => .bad
def Y.fin (r : Y W Empty ρ) : Z W ρ := fun w => match r w with
  | .nx s _ => s.elim
  | .rt v w' => .ok v w'
  | .ex c w' => .ex c w'
  | .bad => .bad
def Y.finU (r : Y W σ Unit) : Z W Unit := fun w => match r w with
  | .nx _ w' => .ok () w'
  | .rt v w' => .ok v w'
  | .ex c w' => .ex c w'
  | .bad => .bad
def Y.all (r : Y W Empty ρ) : Y W τ ρ := fun w => match r w with
  | .nx s _ => s.elim
  | .rt v w' => .rt v w'
  | .ex c w' => .ex c w'
  | .bad => .bad
/-- a loop -/
def Y.for (body : σ → α → Y W σ ρ) : List α → σ → Y W σ ρ
  | [], s => Y.nx s
  | x :: xs, s => (body s x).then fun s1 => Y.for body xs s1
def Y.whl (c : σ → Z W Bool) (body : σ → Y W σ ρ) : Nat → σ → Y W σ ρ
  | 0, _ => Y.bad
  | n + 1, s => (c s).so fun k => if k then (body s).then fun s1 => Y.whl c body n s1 else Y.nx s
def Z.mapM (g : α → Z W β) : List α → Z W (List β)
  | [] => Z.ok []
  | x :: xs => (g x).bind fun y => (Z.mapM g xs).bind fun ys => Z.ok (y :: ys)
def Z.fits (xs : List α) : Z W (List α) := Z.if (SS.fits xs.length) xs
/-- [g x for x in xs] -/
def Z.lc (g : α → Z W β) (xs : List α) : Z W (List β) := (Z.mapM (fun x => (g x).noEx) xs).bind Z.fits
/-- [g x for x in xs if p x] -/
def Z.lcIf (p : α → Z W Bool) (g : α → Z W β) (xs : List α) : Z W (List β) := (Z.mapM (fun x => ((p x).bind fun b => if b then (g x).bind fun y => Z.ok (some y) else Z.ok none).noEx) xs).bind fun ys => Z.fits (ys.filterMap id)
/-! ### encodings -/
abbrev dI : Int → PyData := .int
abbrev dB : Bool → PyData := .bool
abbrev dS : Str → PyData := .str
abbrev dU : Unit → PyData := fun _ => .none
abbrev dD : PyData → PyData := fun d => d
abbrev dT (d : α → PyData) : List α → PyData := fun xs => .tuple (xs.map d)
abbrev dL (d : α → PyData) : List α → PyData := fun xs => .list (xs.map d)
abbrev dP (d : α → PyData) (d' : β → PyData) : α × β → PyData := fun p => .tuple [d p.1, d' p.2]
abbrev dP3 (d : α → PyData) (d' : β → PyData) (d'' : γ → PyData) : α × β × γ → PyData := fun p => .tuple [d p.1, d' p.2.1, d'' p.2.2]
abbrev dP4 (d : α → PyData) (d' : β → PyData) (d'' : γ → PyData) (d4 : δ → PyData) : α × β × γ × δ → PyData := fun p => .tuple [d p.1, d' p.2.1, d'' p.2.2.1, d4 p.2.2.2]
def dO (d : α → PyData) : Option α → PyData
  | none => .none
  | some a => d a
abbrev vD (d : α → PyData) : α → Vl := fun x => .dat (d x)
abbrev vN (d : α → PyData) : List α → Vl := fun xs => .new (xs.map d)
abbrev vB (d : α → PyData) : List α → Vl := fun xs => .bor (xs.map d)
abbrev vN2 (d : α → PyData) : List (List α) → Vl := fun xs => .new2 (xs.map (·.map d))
abbrev vB2 (d : α → PyData) : List (List α) → Vl := fun xs => .bor2 (xs.map (·.map d))
abbrev vS : List Int → Vl := fun ns => .scr ns
abbrev vR (c : Nat) : Unit → Vl := fun _ => .ref c
/-! ### how a mirror stands for a run -/
def Rw.rs (M : W → Mem) (E : α → Vl) : Rw W α → Rs Vl
  | .ok a w => .ok (E a) (M w)
  | .ex c w => .ex c (M w)
  | .bad => .bad
def Rw.rsL (M : W → Mem) (d : α → PyData) : Rw W (List α) → Rs (List PyData)
  | .ok a w => .ok (a.map d) (M w)
  | .ex c w => .ex c (M w)
  | .bad => .bad
def Rz.rs (E : α → Vl) (m : Mem) : Rz α → Rs Vl
  | .ok a => .ok (E a) m
  | .ex c => .ex c m
  | .bad => .bad
def Ow.so (M : W → Mem) (Env : σ → Sg) (E : ρ → Vl) : Ow W σ ρ → So
  | .nx s w => .nx (Env s) (M w)
  | .rt v w => .rt (E v) (M w)
  | .ex c w => .ex c (M w)
  | .bad => .bad
def Ev (M : W → Mem) (S : Fo) (η : Sg) (e : CE) (E : α → Vl) (r : Z W α) : Prop := ∀ w, den e S η (M w) = (r w).rs M E
def EvI (M : W → Mem) (S : Fo) (η : Sg) (fs : Bool) (it : CI) (d : α → PyData) (r : Z W (List α)) : Prop := ∀ w, denI fs it S η (M w) = (r w).rsL M d
def Sq (M : W → Mem) (S : Fo) (η : Sg) (ss : CSs) (Env : σ → Sg) (E : ρ → Vl) (o : Y W σ ρ) : Prop := ∀ w, denSs ss S η (M w) = (o w).so M Env E
theorem lift_rs {M : W → Mem} {E : α → Vl} {r : Rz α} {w : W} : ((Z.lift r : Z W α) w).rs M E = r.rs E (M w) := by cases r <;> rfl
theorem bind_rs {M : W → Mem} {x : Rs Vl} {r : Z W α} {E : α → Vl} {E' : β → Vl} {g : Vl → Mem → Rs Vl} {f : α → Z W β} {w : W} (h : x = (r w).rs M E) (hg : ∀ a w, g (E a) (M w) = (f a w).rs M E') : x.bind g = ((r.bind f) w).rs M E' := by
  subst h
  unfold Z.bind
  cases r w with
  | ok a w' => exact hg a w'
  | ex c w' => rfl
  | bad => rfl
theorem bind_rsL {M : W → Mem} {x : Rs (List PyData)} {r : Z W (List α)} {d : α → PyData} {E' : β → Vl} {g : List PyData → Mem → Rs Vl} {f : List α → Z W β} {w : W} (h : x = (r w).rsL M d) (hg : ∀ (a : List α) w, g (a.map d) (M w) = (f a w).rs M E') : x.bind g = ((r.bind f) w).rs M E' := by
  subst h
  unfold Z.bind
  cases r w with
  | ok a w' => exact hg a w'
  | ex c w' => rfl
  | bad => rfl
theorem bindL_rs {M : W → Mem} {x : Rs Vl} {r : Z W α} {E : α → Vl} {d : β → PyData} {g : Vl → Mem → Rs (List PyData)} {f : α → Z W (List β)} {w : W} (h : x = (r w).rs M E) (hg : ∀ a w, g (E a) (M w) = (f a w).rsL M d) : x.bind g = ((r.bind f) w).rsL M d := by
  subst h
  unfold Z.bind
  cases r w with
  | ok a w' => exact hg a w'
  | ex c w' => rfl
  | bad => rfl
theorem so_so {M : W → Mem} {x : Rs Vl} {r : Z W α} {E : α → Vl} {Env : σ → Sg} {E' : ρ → Vl} {g : Vl → Mem → So} {f : α → Y W σ ρ} {w : W} (h : x = (r w).rs M E) (hg : ∀ a w, g (E a) (M w) = (f a w).so M Env E') : x.so g = ((r.so f) w).so M Env E' := by
  subst h
  unfold Z.so
  cases r w with
  | ok a w' => exact hg a w'
  | ex c w' => rfl
  | bad => rfl
theorem so_soL {M : W → Mem} {x : Rs (List PyData)} {r : Z W (List α)} {d : α → PyData} {Env : σ → Sg} {E' : ρ → Vl} {g : List PyData → Mem → So} {f : List α → Y W σ ρ} {w : W} (h : x = (r w).rsL M d) (hg : ∀ (a : List α) w, g (a.map d) (M w) = (f a w).so M Env E') : x.so g = ((r.so f) w).so M Env E' := by
  subst h
  unfold Z.so
  cases r w with
  | ok a w' => exact hg a w'
  | ex c w' => rfl
  | bad => rfl
theorem then_so {M : W → Mem} {x : So} {r : Y W σ ρ} {Env : σ → Sg} {Env' : τ → Sg} {E' : ρ → Vl} {g : Sg → Mem → So} {f : σ → Y W τ ρ} {w : W} (h : x = (r w).so M Env E') (hg : ∀ a w, g (Env a) (M w) = (f a w).so M Env' E') : x.then g = ((r.then f) w).so M Env' E' := by
  subst h
  unfold Y.then
  cases r w with
  | nx a w' => exact hg a w'
  | rt a w' => rfl
  | ex c w' => rfl
  | bad => rfl
theorem opt_rs {M : W → Mem} {E : α → Vl} {x : Option Vl} {o : Option α} {w : W} (h : x = o.map E) : Rs.opt (M w) x = ((Z.opt o : Z W α) w).rs M E := by
  subst h
  cases o <;> rfl
theorem if_rs {M : W → Mem} {E : α → Vl} {c : Bool} {x : Option Vl} {a : α} {w : W} (h : x = if c then some (E a) else none) : Rs.opt (M w) x = ((Z.if c a : Z W α) w).rs M E := by
  subst h
  cases c <;> rfl
end
end SS
/- SW2 -/
set_option linter.all false
set_option maxRecDepth 100000
/-! Typed mirrors: expressions. -/
namespace SS
open PySem L2
section
variable {W α β γ δ σ ρ : Type} {M : W → Mem} {S : Fo} {η : Sg} {a b c : CE}
theorem Ev.to {E : α → Vl} {r r' : Z W α} (h : Ev M S η a E r) (e : r = r') : Ev M S η a E r' := e ▸ h
theorem Ev.enc {E : α → Vl} {E' : β → Vl} {f : α → β} {r : Z W α} (h : Ev M S η a E r) (he : ∀ x, E x = E' (f x)) : Ev M S η a E' (r.bind fun x => Z.ok (f x)) := fun w => by
  rw [h w]
  unfold Z.bind
  cases r w with
  | ok x w' => simp only [Rw.rs, Z.ok, he]
  | ex c w' => rfl
  | bad => rfl
theorem Ev.var {E : α → Vl} {i : Nat} {x : α} {v : Vl} (h : getS η i = some v) (hv : rdV v = E x) : Ev M S η (.var i) E (Z.ok x) := fun w => by
  simp only [den, h]
  show Rs.opt _ (some (rdV v)) = _
  rw [hv]; rfl
theorem Ev.int (i : Int) : Ev M S η (.cint i) (vD dI) (Z.ok i) := fun _ => rfl
theorem Ev.bl (i : Bool) : Ev M S η (.cbl i) (vD dB) (Z.ok i) := fun _ => rfl
theorem Ev.non : Ev M S η .cnon (vD dU) (Z.ok ()) := fun _ => rfl
theorem Ev.str (s : Str) : Ev M S η (.cstr s) (vD dS) (Z.ok s) := fun _ => rfl
theorem Ev.gint (x : Str) (i : Int) : Ev M S η (.gint x i) (vD dI) (Z.ok i) := fun _ => rfl
theorem Ev.gstr (x : Str) (s : Str) : Ev M S η (.gstr x s) (vD dS) (Z.ok s) := fun _ => rfl
/-! ### operators -/
theorem Ev.bin {op : Operator} {Ea : α → Vl} {Eb : β → Vl} {E : γ → Vl} {ra : Z W α} {rb : Z W β} {f : α → β → Z W γ} (ha : Ev M S η a Ea ra) (hb : Ev M S η b Eb rb) (hop : ∀ x y w, Rs.opt (M w) (binV (M w) op (Ea x) (Eb y)) = (f x y w).rs M E) :
    Ev M S η (.bin op a b) E (ra.bind fun x => rb.bind fun y => f x y) := fun w => bind_rs (ha w) fun x w1 => bind_rs (hb w1) fun y w2 => hop x y w2
theorem Ev.add {ra rb : Z W Int} (ha : Ev M S η a (vD dI) ra) (hb : Ev M S η b (vD dI) rb) : Ev M S η (.bin .Add a b) (vD dI) (ra.bind fun x => rb.bind fun y => Z.ok (x + y)) := Ev.bin ha hb fun _ _ _ => rfl
theorem Ev.sub {ra rb : Z W Int} (ha : Ev M S η a (vD dI) ra) (hb : Ev M S η b (vD dI) rb) : Ev M S η (.bin .Sub a b) (vD dI) (ra.bind fun x => rb.bind fun y => Z.ok (x - y)) := Ev.bin ha hb fun _ _ _ => rfl
theorem Ev.mul {ra rb : Z W Int} (ha : Ev M S η a (vD dI) ra) (hb : Ev M S η b (vD dI) rb) : Ev M S η (.bin .Mult a b) (vD dI) (ra.bind fun x => rb.bind fun y => Z.if (small64 x || small64 y) (x * y)) :=
  Ev.bin ha hb fun x y w => if_rs (by simp only [binV, binI]; cases small64 x || small64 y <;> rfl)
theorem Ev.mulL {ra rb : Z W Int} {i : Int} (hi : small64 i = true) (ha : Ev M S η a (vD dI) (Z.ok i)) (hb : Ev M S η b (vD dI) rb) : Ev M S η (.bin .Mult a b) (vD dI) (rb.bind fun y => Z.ok (i * y)) := fun w => by
  rw [Ev.mul ha hb w]
  unfold Z.bind Z.ok
  simp only [hi, Bool.true_or, Z.if, if_true]
  rfl
theorem Ev.mulR {ra rb : Z W Int} {i : Int} (hi : small64 i = true) (ha : Ev M S η a (vD dI) ra) (hb : Ev M S η b (vD dI) (Z.ok i)) : Ev M S η (.bin .Mult a b) (vD dI) (ra.bind fun y => Z.ok (y * i)) := fun w => by
  rw [Ev.mul ha hb w]
  unfold Z.bind Z.ok
  simp only [hi, Bool.or_true, Z.if, if_true]
  rfl
theorem Ev.fdiv {ra rb : Z W Int} (ha : Ev M S η a (vD dI) ra) (hb : Ev M S η b (vD dI) rb) : Ev M S η (.bin .FloorDiv a b) (vD dI) (ra.bind fun x => rb.bind fun y => Z.if (decide (0 < y) && decide (y < 1073741824)) (x / y)) :=
  Ev.bin ha hb fun x y w => if_rs (by simp only [binV, binI]; cases decide (0 < y) && decide (y < 1073741824) <;> rfl)
theorem Ev.mod {ra rb : Z W Int} (ha : Ev M S η a (vD dI) ra) (hb : Ev M S η b (vD dI) rb) : Ev M S η (.bin .Mod a b) (vD dI) (ra.bind fun x => rb.bind fun y => Z.if (decide (0 < y)) (x % y)) :=
  Ev.bin ha hb fun x y w => if_rs (by simp only [binV, binI]; by_cases h : 0 < y <;> simp [h])
theorem Ev.pow {ra rb : Z W Int} (ha : Ev M S η a (vD dI) ra) (hb : Ev M S η b (vD dI) rb) : Ev M S η (.bin .Pow a b) (vD dI) (ra.bind fun x => rb.bind fun y => Z.if (decide (0 ≤ y) && decide (y ≤ 1000000) && decide (x.natAbs < 2 ^ 64)) (x ^ y.toNat)) :=
  Ev.bin ha hb fun x y w => if_rs (by simp only [binV, binI]; cases decide (0 ≤ y) && decide (y ≤ 1000000) && decide (x.natAbs < 2 ^ 64) <;> rfl)
theorem Ev.catT {d : α → PyData} {ra rb : Z W (List α)} (ha : Ev M S η a (vD (dT d)) ra) (hb : Ev M S η b (vD (dT d)) rb) : Ev M S η (.bin .Add a b) (vD (dT d)) (ra.bind fun x => rb.bind fun y => Z.fits (x ++ y)) :=
  Ev.bin ha hb fun x y w => if_rs (by simp only [binV, vD, dT, vN, List.length_map, List.length_append, List.map_append])
theorem Ev.catL {d : α → PyData} {Ea Eb : List α → Vl} {ra rb : Z W (List α)} (h : ∀ (x y : List α) m, binV m .Add (Ea x) (Eb y) = if fits ((x.map d).length + (y.map d).length) then some (.new (x.map d ++ y.map d)) else none) (ha : Ev M S η a Ea ra) (hb : Ev M S η b Eb rb) : Ev M S η (.bin .Add a b) (vN d) (ra.bind fun x => rb.bind fun y => Z.fits (x ++ y)) :=
  Ev.bin ha hb fun x y w => if_rs (by rw [h]; simp only [vN, List.length_map, List.length_append, List.map_append])
theorem Ev.catS {ra rb : Z W Str} (ha : Ev M S η a (vD dS) ra) (hb : Ev M S η b (vD dS) rb) : Ev M S η (.bin .Add a b) (vD dS) (ra.bind fun x => rb.bind fun y => Z.if (fits (x.length + y.length)) (x ++ y)) :=
  Ev.bin ha hb fun x y w => if_rs rfl
theorem map_rep {d : α → β} (n : Nat) (xs : List α) : rep n (xs.map d) = (rep n xs).map d := by
  unfold rep
  rw [List.map_flatten, List.map_replicate]
theorem Ev.repT {d : α → PyData} {ra : Z W (List α)} {rb : Z W Int} (ha : Ev M S η a (vD (dT d)) ra) (hb : Ev M S η b (vD dI) rb) : Ev M S η (.bin .Mult a b) (vD (dT d)) (ra.bind fun x => rb.bind fun y => Z.if (smallRep y x.length) (rep y.toNat x)) :=
  Ev.bin ha hb fun x y w => if_rs (by simp only [binV, vD, dT, vN, List.length_map, map_rep])
theorem Ev.repL {d : α → PyData} {Ea : List α → Vl} {ra : Z W (List α)} {rb : Z W Int} (h : ∀ (x : List α) (y : Int) m, binV m .Mult (Ea x) (.dat (.int y)) = if smallRep y (x.map d).length then some (.new (rep y.toNat (x.map d))) else none) (ha : Ev M S η a Ea ra) (hb : Ev M S η b (vD dI) rb) : Ev M S η (.bin .Mult a b) (vN d) (ra.bind fun x => rb.bind fun y => Z.if (smallRep y x.length) (rep y.toNat x)) :=
  Ev.bin ha hb fun x y w => if_rs (by rw [h]; simp only [vN, List.length_map, map_rep])
theorem Ev.neg {ra : Z W Int} (ha : Ev M S η a (vD dI) ra) : Ev M S η (.neg a) (vD dI) (ra.bind fun x => Z.ok (-x)) := fun w => bind_rs (ha w) fun x w1 => rfl
/-! ### comparisons -/
theorem Ev.cmpO {op : CmpOp} {Ea : α → Vl} {Eb : β → Vl} {ra : Z W α} {rb : Z W β} {o : α → β → Option Bool} (ha : Ev M S η a Ea ra) (hb : Ev M S η b Eb rb) (hop : ∀ x y m, cmpV m op (Ea x) (Eb y) = o x y) :
    Ev M S η (.cmp op a b) (vD dB) (ra.bind fun x => rb.bind fun y => Z.opt (o x y)) := fun w => bind_rs (ha w) fun x w1 => bind_rs (hb w1) fun y w2 => by
  rw [hop]
  cases o x y <;> rfl
theorem Ev.cmpT {op : CmpOp} {Ea : α → Vl} {Eb : β → Vl} {ra : Z W α} {rb : Z W β} {p : α → β → Bool} (ha : Ev M S η a Ea ra) (hb : Ev M S η b Eb rb) (hop : ∀ x y m, cmpV m op (Ea x) (Eb y) = some (p x y)) :
    Ev M S η (.cmp op a b) (vD dB) (ra.bind fun x => rb.bind fun y => Z.ok (p x y)) := fun w => bind_rs (ha w) fun x w1 => bind_rs (hb w1) fun y w2 => by
  rw [hop]; rfl
theorem Ev.lt {ra rb : Z W Int} (ha : Ev M S η a (vD dI) ra) (hb : Ev M S η b (vD dI) rb) : Ev M S η (.cmp .Lt a b) (vD dB) (ra.bind fun x => rb.bind fun y => Z.ok (decide (x < y))) := Ev.cmpT ha hb fun _ _ _ => rfl
theorem Ev.le {ra rb : Z W Int} (ha : Ev M S η a (vD dI) ra) (hb : Ev M S η b (vD dI) rb) : Ev M S η (.cmp .LtE a b) (vD dB) (ra.bind fun x => rb.bind fun y => Z.ok (decide (x ≤ y))) := Ev.cmpT ha hb fun _ _ _ => rfl
theorem Ev.gt {ra rb : Z W Int} (ha : Ev M S η a (vD dI) ra) (hb : Ev M S η b (vD dI) rb) : Ev M S η (.cmp .Gt a b) (vD dB) (ra.bind fun x => rb.bind fun y => Z.ok (decide (y < x))) := Ev.cmpT ha hb fun _ _ _ => rfl
theorem Ev.ge {ra rb : Z W Int} (ha : Ev M S η a (vD dI) ra) (hb : Ev M S η b (vD dI) rb) : Ev M S η (.cmp .GtE a b) (vD dB) (ra.bind fun x => rb.bind fun y => Z.ok (decide (y ≤ x))) := Ev.cmpT ha hb fun _ _ _ => rfl
/-- data that are equal just if they are the same -/
structure Good (n : Nat) (d : α → PyData) [DecidableEq α] : Prop where
  sh : ∀ x, Sh n (d x)
  eq : ∀ x y, PyData.eqv (d x) (d y) = decide (x = y)
theorem Good.I : Good 1 dI := ⟨Sh.int, eqv_int⟩
theorem Good.B : Good 1 dB := ⟨Sh.bool, eqv_bool⟩
theorem Good.U : Good 1 dU := ⟨fun _ => Sh.none, fun _ _ => rfl⟩
theorem Good.mono {n k : Nat} {d : α → PyData} [DecidableEq α] (g : Good n d) (h : n ≤ k) : Good k d := ⟨fun x => (g.sh x).mono h, g.eq⟩
theorem Good.T {n : Nat} {d : α → PyData} [DecidableEq α] (g : Good n d) : Good (n + 1) (dT d) := ⟨fun x => Sh.tup fun y hy => by
  obtain ⟨i, _, rfl⟩ := List.mem_map.mp hy
  exact g.sh i, fun x y => by rw [eqv_tup, eqvAll_map g.eq]⟩
theorem Good.L {n : Nat} {d : α → PyData} [DecidableEq α] (g : Good n d) : Good (n + 1) (dL d) := ⟨fun x => Sh.list fun y hy => by
  obtain ⟨i, _, rfl⟩ := List.mem_map.mp hy
  exact g.sh i, fun x y => by rw [eqv_list, eqvAll_map g.eq]⟩
theorem eqvAll_cons (x y : PyData) (xs ys : List PyData) : PyData.eqvAll (x :: xs) (y :: ys) = (PyData.eqv x y && PyData.eqvAll xs ys) := rfl
theorem Good.P {n k : Nat} {d : α → PyData} {d' : β → PyData} [DecidableEq α] [DecidableEq β] (g : Good n d) (g' : Good k d') : Good (n + k + 1) (dP d d') := ⟨fun x => Sh.tup fun y hy => by
  simp only [List.mem_cons, List.not_mem_nil, or_false] at hy
  rcases hy with rfl | rfl
  · exact (g.sh _).mono (by omega)
  · exact (g'.sh _).mono (by omega), fun x y => by
  rw [eqv_tup, eqvAll_cons, eqvAll_cons, g.eq, g'.eq]
  show (_ && (_ && true)) = _
  obtain ⟨x1, x2⟩ := x
  obtain ⟨y1, y2⟩ := y
  by_cases h : x1 = y1 <;> by_cases h2 : x2 = y2 <;> simp [h, h2]⟩
theorem Good.P3 {n k l : Nat} {d : α → PyData} {d' : β → PyData} {d'' : γ → PyData} [DecidableEq α] [DecidableEq β] [DecidableEq γ] (g : Good n d) (g' : Good k d') (g'' : Good l d'') : Good (n + k + l + 1) (dP3 d d' d'') := ⟨fun x => Sh.tup fun y hy => by
  simp only [List.mem_cons, List.not_mem_nil, or_false] at hy
  rcases hy with rfl | rfl | rfl
  · exact (g.sh _).mono (by omega)
  · exact (g'.sh _).mono (by omega)
  · exact (g''.sh _).mono (by omega), fun x y => by
  rw [eqv_tup, eqvAll_cons, eqvAll_cons, eqvAll_cons, g.eq, g'.eq, g''.eq]
  show (_ && (_ && (_ && true))) = _
  obtain ⟨x1, x2, x3⟩ := x
  obtain ⟨y1, y2, y3⟩ := y
  by_cases h : x1 = y1 <;> by_cases h2 : x2 = y2 <;> by_cases h3 : x3 = y3 <;> simp [h, h2, h3]⟩
theorem Good.P4 {n k l i : Nat} {d : α → PyData} {d' : β → PyData} {d'' : γ → PyData} {d4 : δ → PyData} [DecidableEq α] [DecidableEq β] [DecidableEq γ] [DecidableEq δ] (g : Good n d) (g' : Good k d') (g'' : Good l d'') (g4 : Good i d4) : Good (n + k + l + i + 1) (dP4 d d' d'' d4) := ⟨fun x => Sh.tup fun y hy => by
  simp only [List.mem_cons, List.not_mem_nil, or_false] at hy
  rcases hy with rfl | rfl | rfl | rfl
  · exact (g.sh _).mono (by omega)
  · exact (g'.sh _).mono (by omega)
  · exact (g''.sh _).mono (by omega)
  · exact (g4.sh _).mono (by omega), fun x y => by
  rw [eqv_tup, eqvAll_cons, eqvAll_cons, eqvAll_cons, eqvAll_cons, g.eq, g'.eq, g''.eq, g4.eq]
  show (_ && (_ && (_ && (_ && true)))) = _
  obtain ⟨x1, x2, x3, x4⟩ := x
  obtain ⟨y1, y2, y3, y4⟩ := y
  by_cases h : x1 = y1 <;> by_cases h2 : x2 = y2 <;> by_cases h3 : x3 = y3 <;> by_cases h4 : x4 = y4 <;> simp [h, h2, h3, h4]⟩
theorem Good.py {n : Nat} {d : α → PyData} [DecidableEq α] (g : Good n d) (h : n ≤ 64) (x y : α) : eqPy (d x) (d y) = some (decide (x = y)) := by rw [eqPy_of (g.sh x) (g.sh y) h h, g.eq]
theorem Ev.eq {n : Nat} {d : α → PyData} [DecidableEq α] {Ea Eb : α → Vl} {ra rb : Z W α} (g : Good n d) (hn : n ≤ 64) (h : ∀ x y m, cmpV m .Eq (Ea x) (Eb y) = eqPy (d x) (d y)) (ha : Ev M S η a Ea ra) (hb : Ev M S η b Eb rb) : Ev M S η (.cmp .Eq a b) (vD dB) (ra.bind fun x => rb.bind fun y => Z.ok (decide (x = y))) :=
  Ev.cmpT ha hb fun x y m => by rw [h, g.py hn]
theorem Ev.ne {n : Nat} {d : α → PyData} [DecidableEq α] {Ea Eb : α → Vl} {ra rb : Z W α} (g : Good n d) (hn : n ≤ 64) (h : ∀ x y m, cmpV m .NotEq (Ea x) (Eb y) = (eqPy (d x) (d y)).map not) (ha : Ev M S η a Ea ra) (hb : Ev M S η b Eb rb) : Ev M S η (.cmp .NotEq a b) (vD dB) (ra.bind fun x => rb.bind fun y => Z.ok (!decide (x = y))) :=
  Ev.cmpT ha hb fun x y m => by rw [h, g.py hn]; rfl
theorem Ev.eqD {Ea : α → Vl} {Eb : β → Vl} {da : α → PyData} {db : β → PyData} {ra : Z W α} {rb : Z W β} (h : ∀ x y m, cmpV m .Eq (Ea x) (Eb y) = eqPy (da x) (db y)) (ha : Ev M S η a Ea ra) (hb : Ev M S η b Eb rb) : Ev M S η (.cmp .Eq a b) (vD dB) (ra.bind fun x => rb.bind fun y => Z.opt (eqPy (da x) (db y))) :=
  Ev.cmpO ha hb h
theorem Ev.neD {Ea : α → Vl} {Eb : β → Vl} {da : α → PyData} {db : β → PyData} {ra : Z W α} {rb : Z W β} (h : ∀ x y m, cmpV m .NotEq (Ea x) (Eb y) = (eqPy (da x) (db y)).map not) (ha : Ev M S η a Ea ra) (hb : Ev M S η b Eb rb) : Ev M S η (.cmp .NotEq a b) (vD dB) (ra.bind fun x => rb.bind fun y => Z.opt ((eqPy (da x) (db y)).map not)) :=
  Ev.cmpO ha hb h
theorem inPy_good {n : Nat} {d : α → PyData} [DecidableEq α] (g : Good n d) (x : α) (ys : List α) : inPy (d x) (ys.map d) = decide (x ∈ ys) := by
  unfold inPy
  induction ys with
  | nil => simp
  | cons y ys ih =>
    rw [List.map_cons, List.any_cons, ih, g.eq]
    by_cases h : y = x
    · simp [h]
    · have : ¬ x = y := fun e => h e.symm
      simp [h, this]
theorem all_flat_int (ys : List Int) : (ys.map PyData.int).all flatP = true := by
  induction ys with
  | nil => rfl
  | cons y ys ih => rw [List.map_cons, List.all_cons, ih]; rfl
theorem Ev.inT {ra : Z W Int} {rb : Z W (List Int)} (ha : Ev M S η a (vD dI) ra) (hb : Ev M S η b (vD (dT dI)) rb) : Ev M S η (.cmp .In a b) (vD dB) (ra.bind fun x => rb.bind fun y => Z.ok (decide (x ∈ y))) :=
  Ev.cmpT ha hb fun x y m => by
    have e : cmpV m .In (.dat (.int x)) (.dat (.tuple (y.map .int))) = if flatP (.int x) && (y.map PyData.int).all flatP then some (inPy (.int x) (y.map .int)) else none := rfl
    show cmpV m .In (.dat (.int x)) (.dat (.tuple (y.map .int))) = _
    rw [e, all_flat_int, inPy_good Good.I]; rfl
theorem Ev.ninT {ra : Z W Int} {rb : Z W (List Int)} (ha : Ev M S η a (vD dI) ra) (hb : Ev M S η b (vD (dT dI)) rb) : Ev M S η (.cmp .NotIn a b) (vD dB) (ra.bind fun x => rb.bind fun y => Z.ok (!decide (x ∈ y))) :=
  Ev.cmpT ha hb fun x y m => by
    have e : cmpV m .NotIn (.dat (.int x)) (.dat (.tuple (y.map .int))) = (if flatP (.int x) && (y.map PyData.int).all flatP then some (inPy (.int x) (y.map .int)) else none).map not := rfl
    show cmpV m .NotIn (.dat (.int x)) (.dat (.tuple (y.map .int))) = _
    rw [e, all_flat_int, inPy_good Good.I]; rfl
theorem Ev.inL {n : Nat} {d : α → PyData} [DecidableEq α] {Ea : α → Vl} {Eb : List α → Vl} {ra : Z W α} {rb : Z W (List α)} (g : Good n d) (hn : n ≤ 63) (h : ∀ x y m, cmpV m .In (Ea x) (Eb y) = if SeqAt.shaped (d x) && SeqAt.shaped (.list (y.map d)) then some (inPy (d x) (y.map d)) else none) (ha : Ev M S η a Ea ra) (hb : Ev M S η b Eb rb) :
    Ev M S η (.cmp .In a b) (vD dB) (ra.bind fun x => rb.bind fun y => Z.ok (decide (x ∈ y))) :=
  Ev.cmpT ha hb fun x y m => by rw [h, (g.sh x).ok (by omega), (g.L.sh y).ok (by omega), inPy_good g]; rfl
theorem Ev.ninL {n : Nat} {d : α → PyData} [DecidableEq α] {Ea : α → Vl} {Eb : List α → Vl} {ra : Z W α} {rb : Z W (List α)} (g : Good n d) (hn : n ≤ 63) (h : ∀ x y m, cmpV m .NotIn (Ea x) (Eb y) = (if SeqAt.shaped (d x) && SeqAt.shaped (.list (y.map d)) then some (inPy (d x) (y.map d)) else none).map not) (ha : Ev M S η a Ea ra) (hb : Ev M S η b Eb rb) :
    Ev M S η (.cmp .NotIn a b) (vD dB) (ra.bind fun x => rb.bind fun y => Z.ok (!decide (x ∈ y))) :=
  Ev.cmpT ha hb fun x y m => by rw [h, (g.sh x).ok (by omega), (g.L.sh y).ok (by omega), inPy_good g]; rfl
theorem Ev.isB {ra rb : Z W Bool} (ha : Ev M S η a (vD dB) ra) (hb : Ev M S η b (vD dB) rb) : Ev M S η (.cmp .Is a b) (vD dB) (ra.bind fun x => rb.bind fun y => Z.ok (decide (x = y))) := Ev.cmpT ha hb fun _ _ _ => rfl
theorem Ev.isnB {ra rb : Z W Bool} (ha : Ev M S η a (vD dB) ra) (hb : Ev M S η b (vD dB) rb) : Ev M S η (.cmp .IsNot a b) (vD dB) (ra.bind fun x => rb.bind fun y => Z.ok (!decide (x = y))) := Ev.cmpT ha hb fun _ _ _ => rfl
/-- a < b < c on ints -/
theorem Ev.chain {op op' : CmpOp} {ra rb rc : Z W Int} {p q : Int → Int → Bool} (hp : ∀ x y m, cmpV m op (.dat (.int x)) (.dat (.int y)) = some (p x y)) (hq : ∀ x y m, cmpV m op' (.dat (.int x)) (.dat (.int y)) = some (q x y)) (ha : Ev M S η a (vD dI) ra) (hb : Ev M S η b (vD dI) rb) (hc : Ev M S η c (vD dI) rc) :
    Ev M S η (.chain op op' a b c) (vD dB) (ra.bind fun x => rb.bind fun y => if p x y then rc.bind fun z => Z.ok (q y z) else Z.ok false) := fun w => bind_rs (ha w) fun x w1 => bind_rs (hb w1) fun y w2 => by
  rw [hp]
  show (if p x y then _ else _) = _
  cases p x y with
  | false => rfl
  | true =>
    simp only [if_true]
    exact bind_rs (hc w2) fun z w3 => by rw [hq]; rfl
theorem Ev.chainT {op op' : CmpOp} {ra rb : Z W Int} {i : Int} {p q : Int → Int → Bool} (hp : ∀ x y m, cmpV m op (.dat (.int x)) (.dat (.int y)) = some (p x y)) (hq : ∀ x y m, cmpV m op' (.dat (.int x)) (.dat (.int y)) = some (q x y)) (ha : Ev M S η a (vD dI) ra) (hb : Ev M S η b (vD dI) rb) (hc : Ev M S η c (vD dI) (Z.ok i)) :
    Ev M S η (.chain op op' a b c) (vD dB) (ra.bind fun x => rb.bind fun y => Z.ok (p x y && q y i)) := by
  refine (Ev.chain hp hq ha hb hc).to ?_
  congr 1; funext x; congr 1; funext y
  cases p x y <;> rfl
/-! ### truth -/
theorem Ev.nt {ra : Z W Bool} (ha : Ev M S η a (vD dB) ra) : Ev M S η (.nt a) (vD dB) (ra.bind fun x => Z.ok (!x)) := fun w => bind_rs (ha w) fun x w1 => rfl
theorem Ev.one {E : α → Vl} {ra : Z W α} (ha : Ev M S η a E ra) : Ev M S η (.one a) E ra := ha
theorem Ev.and {ra rb : Z W Bool} (ha : Ev M S η a (vD dB) ra) (hb : Ev M S η b (vD dB) rb) : Ev M S η (.and_ a b) (vD dB) (ra.bind fun x => if x then rb else Z.ok false) := fun w => bind_rs (ha w) fun x w1 => by
  show (if x then _ else _) = _
  cases x with
  | false => rfl
  | true => exact hb w1
theorem Ev.or {ra rb : Z W Bool} (ha : Ev M S η a (vD dB) ra) (hb : Ev M S η b (vD dB) rb) : Ev M S η (.or_ a b) (vD dB) (ra.bind fun x => if x then Z.ok true else rb) := fun w => bind_rs (ha w) fun x w1 => by
  show (if x then _ else _) = _
  cases x with
  | true => rfl
  | false => exact hb w1
theorem Ev.andT {ra : Z W Bool} {y : Bool} (ha : Ev M S η a (vD dB) ra) (hb : Ev M S η b (vD dB) (Z.ok y)) : Ev M S η (.and_ a b) (vD dB) (ra.bind fun x => Z.ok (x && y)) :=
  (Ev.and ha hb).to (by congr 1; funext x; cases x <;> rfl)
theorem Ev.orT {ra : Z W Bool} {y : Bool} (ha : Ev M S η a (vD dB) ra) (hb : Ev M S η b (vD dB) (Z.ok y)) : Ev M S η (.or_ a b) (vD dB) (ra.bind fun x => Z.ok (x || y)) :=
  (Ev.or ha hb).to (by congr 1; funext x; cases x <;> rfl)
theorem Ev.ite {E : α → Vl} {rc : Z W Bool} {ra rb : Z W α} (hc : Ev M S η c (vD dB) rc) (ha : Ev M S η a E ra) (hb : Ev M S η b E rb) : Ev M S η (.ite c a b) E (rc.bind fun k => if k then ra else rb) := fun w => bind_rs (hc w) fun x w1 => by
  show (if x then _ else _) = _
  cases x with
  | true => exact ha w1
  | false => exact hb w1
theorem Ev.iteT {E : α → Vl} {rc : Z W Bool} {x y : α} (hc : Ev M S η c (vD dB) rc) (ha : Ev M S η a E (Z.ok x)) (hb : Ev M S η b E (Z.ok y)) : Ev M S η (.ite c a b) E (rc.bind fun k => Z.ok (if k then x else y)) :=
  (Ev.ite hc ha hb).to (by congr 1; funext x; cases x <;> rfl)
end
end SS
/- SW3 -/
set_option linter.all false
set_option maxRecDepth 100000
/-! Typed mirrors: displays, calls, built-ins, comprehensions. -/
namespace SS
open PySem L2
section
variable {W α β γ δ ε σ ρ : Type} {M : W → Mem} {S : Fo} {η : Sg} {a b c a' b' : CE}
/-! ### displays -/
def EvL (M : W → Mem) (S : Fo) (η : Sg) (es : CEs) (d : α → PyData) (r : Z W (List α)) : Prop := ∀ w, ((dens es S η (M w)).bind fun vs m => Rs.opt m (keeps vs)) = (r w).rsL M d
theorem EvL.nil {d : α → PyData} : EvL M S η .nil d (Z.ok []) := fun w => rfl
theorem EvL.cons {d : α → PyData} {E : β → Vl} {f : β → α} {es : CEs} {ra : Z W β} {rs : Z W (List α)} (hk : ∀ x, keep (E x) = some (d (f x))) (ha : Ev M S η a E ra) (hs : EvL M S η es d rs) : EvL M S η (.cons a es) d (ra.bind fun x => rs.bind fun xs => Z.ok (f x :: xs)) := fun w => by
  simp only [dens]
  rw [ha w]
  unfold Z.bind
  cases ra w with
  | ex c w1 => rfl
  | bad => rfl
  | ok x w1 =>
    have h := hs w1
    simp only [Rw.rs, Rs.bind_ok] at h ⊢
    cases hd : dens es S η (M w1) with
    | ex c m =>
      rw [hd] at h
      simp only [Rs.bind_ex] at h ⊢
      cases hr : rs w1 with
      | ok xs w2 => rw [hr] at h; cases h
      | ex c w2 => rw [hr] at h; exact h
      | bad => rw [hr] at h; cases h
    | bad =>
      rw [hd] at h
      simp only [Rs.bind_bad] at h ⊢
      cases hr : rs w1 with
      | ok xs w2 => rw [hr] at h; cases h
      | ex c w2 => rw [hr] at h; cases h
      | bad => rfl
    | ok vs m2 =>
      rw [hd] at h
      simp only [Rs.bind_ok] at h ⊢
      simp only [keeps, hk]
      cases hv : keeps vs with
      | none =>
        rw [hv] at h
        cases hr : rs w1 with
        | ok xs w2 => rw [hr] at h; cases h
        | ex c w2 => rw [hr] at h; cases h
        | bad => rfl
      | some ds =>
        rw [hv] at h
        cases hr : rs w1 with
        | ok xs w2 =>
          rw [hr] at h
          simp only [Rs.opt_some, Rw.rsL] at h
          injection h with h1 h2
          subst h1; subst h2
          rfl
        | ex c w2 => rw [hr] at h; cases h
        | bad => rw [hr] at h; cases h
theorem Ev.tup {d : α → PyData} {es : CEs} {r : Z W (List α)} (h : EvL M S η es d r) : Ev M S η (.tup es) (vD (dT d)) (r.bind Z.fits) := fun w => by
  have h := h w
  simp only [den]
  unfold Z.bind
  cases hd : dens es S η (M w) with
  | ex c m =>
    rw [hd] at h
    cases hr : r w with
    | ok xs w2 => rw [hr] at h; cases h
    | ex c w2 =>
      rw [hr] at h
      simp only [Rs.bind_ex, Rw.rsL] at h
      injection h with h1 h2
      subst h1; subst h2; rfl
    | bad => rw [hr] at h; cases h
  | bad =>
    rw [hd] at h
    cases hr : r w with
    | ok xs w2 => rw [hr] at h; cases h
    | ex c w2 => rw [hr] at h; cases h
    | bad => rfl
  | ok vs m =>
    rw [hd] at h
    simp only [Rs.bind_ok] at h ⊢
    cases hv : keeps vs with
    | none =>
      rw [hv] at h
      cases hr : r w with
      | ok xs w2 => rw [hr] at h; cases h
      | ex c w2 => rw [hr] at h; cases h
      | bad => rfl
    | some ds =>
      rw [hv] at h
      cases hr : r w with
      | ok xs w2 =>
        rw [hr] at h
        simp only [Rs.opt_some, Rw.rsL] at h
        injection h with h1 h2
        subst h1; subst h2
        simp only [Rs.opt_some, Rs.bind_ok, List.length_map, Z.fits, Z.if]
        cases fits xs.length <;> rfl
      | ex c w2 => rw [hr] at h; cases h
      | bad => rw [hr] at h; cases h
theorem Ev.lst {d : α → PyData} {es : CEs} {r : Z W (List α)} (h : EvL M S η es d r) : Ev M S η (.lst es) (vN d) (r.bind Z.fits) := fun w => by
  have h := h w
  simp only [den]
  unfold Z.bind
  cases hd : dens es S η (M w) with
  | ex c m =>
    rw [hd] at h
    cases hr : r w with
    | ok xs w2 => rw [hr] at h; cases h
    | ex c w2 =>
      rw [hr] at h
      simp only [Rs.bind_ex, Rw.rsL] at h
      injection h with h1 h2
      subst h1; subst h2; rfl
    | bad => rw [hr] at h; cases h
  | bad =>
    rw [hd] at h
    cases hr : r w with
    | ok xs w2 => rw [hr] at h; cases h
    | ex c w2 => rw [hr] at h; cases h
    | bad => rfl
  | ok vs m =>
    rw [hd] at h
    simp only [Rs.bind_ok] at h ⊢
    cases hv : keeps vs with
    | none =>
      rw [hv] at h
      cases hr : r w with
      | ok xs w2 => rw [hr] at h; cases h
      | ex c w2 => rw [hr] at h; cases h
      | bad => rfl
    | some ds =>
      rw [hv] at h
      cases hr : r w with
      | ok xs w2 =>
        rw [hr] at h
        simp only [Rs.opt_some, Rw.rsL] at h
        injection h with h1 h2
        subst h1; subst h2
        simp only [Rs.opt_some, Rs.bind_ok, List.length_map, Z.fits, Z.if]
        cases fits xs.length <;> rfl
      | ex c w2 => rw [hr] at h; cases h
      | bad => rw [hr] at h; cases h
theorem dens2 {m : Mem} {β : Type} {g : List Vl → Mem → Rs β} : (dens (.cons a (.cons b .nil)) S η m).bind g = (den a S η m).bind fun x m1 => (den b S η m1).bind fun y m2 => g [x, y] m2 := by
  simp only [dens]
  cases den a S η m with
  | ok x m1 => simp only [Rs.bind_ok]; cases den b S η m1 <;> rfl
  | ex => rfl
  | bad => rfl
theorem dens3 {m : Mem} {β : Type} {g : List Vl → Mem → Rs β} : (dens (.cons a (.cons b (.cons c .nil))) S η m).bind g = (den a S η m).bind fun x m1 => (den b S η m1).bind fun y m2 => (den c S η m2).bind fun z m3 => g [x, y, z] m3 := by
  simp only [dens]
  cases den a S η m with
  | ok x m1 =>
    simp only [Rs.bind_ok]
    cases den b S η m1 with
    | ok y m2 => simp only [Rs.bind_ok]; cases den c S η m2 <;> rfl
    | ex => rfl
    | bad => rfl
  | ex => rfl
  | bad => rfl
theorem dens4 {m : Mem} {β : Type} {g : List Vl → Mem → Rs β} : (dens (.cons a (.cons b (.cons c (.cons a' .nil)))) S η m).bind g = (den a S η m).bind fun x m1 => (den b S η m1).bind fun y m2 => (den c S η m2).bind fun z m3 => (den a' S η m3).bind fun u m4 => g [x, y, z, u] m4 := by
  simp only [dens]
  cases den a S η m with
  | ok x m1 =>
    simp only [Rs.bind_ok]
    cases den b S η m1 with
    | ok y m2 =>
      simp only [Rs.bind_ok]
      cases den c S η m2 with
      | ok z m3 => simp only [Rs.bind_ok]; cases den a' S η m3 <;> rfl
      | ex => rfl
      | bad => rfl
    | ex => rfl
    | bad => rfl
  | ex => rfl
  | bad => rfl
theorem dens5 {m : Mem} {β : Type} {g : List Vl → Mem → Rs β} : (dens (.cons a (.cons b (.cons c (.cons a' (.cons b' .nil))))) S η m).bind g = (den a S η m).bind fun x m1 => (den b S η m1).bind fun y m2 => (den c S η m2).bind fun z m3 => (den a' S η m3).bind fun u m4 => (den b' S η m4).bind fun t m5 => g [x, y, z, u, t] m5 := by
  simp only [dens]
  cases den a S η m with
  | ok x m1 =>
    simp only [Rs.bind_ok]
    cases den b S η m1 with
    | ok y m2 =>
      simp only [Rs.bind_ok]
      cases den c S η m2 with
      | ok z m3 =>
        simp only [Rs.bind_ok]
        cases den a' S η m3 with
        | ok u m4 => simp only [Rs.bind_ok]; cases den b' S η m4 <;> rfl
        | ex => rfl
        | bad => rfl
      | ex => rfl
      | bad => rfl
    | ex => rfl
    | bad => rfl
  | ex => rfl
  | bad => rfl
theorem Ev.tup2 {Ea : α → Vl} {Eb : β → Vl} {da : α → PyData} {db : β → PyData} {ra : Z W α} {rb : Z W β} (ka : ∀ x, keep (Ea x) = some (da x)) (kb : ∀ x, keep (Eb x) = some (db x)) (ha : Ev M S η a Ea ra) (hb : Ev M S η b Eb rb) :
    Ev M S η (.tup (.cons a (.cons b .nil))) (vD (dP da db)) (ra.bind fun x => rb.bind fun y => Z.ok (x, y)) := fun w => by
  simp only [den]
  rw [dens2]
  exact bind_rs (ha w) fun x w1 => bind_rs (hb w1) fun y w2 => by simp only [keeps, ka, kb]; rfl
theorem Ev.tup3 {Ea : α → Vl} {Eb : β → Vl} {Ec : γ → Vl} {da : α → PyData} {db : β → PyData} {dc : γ → PyData} {ra : Z W α} {rb : Z W β} {rc : Z W γ} (ka : ∀ x, keep (Ea x) = some (da x)) (kb : ∀ x, keep (Eb x) = some (db x)) (kc : ∀ x, keep (Ec x) = some (dc x)) (ha : Ev M S η a Ea ra) (hb : Ev M S η b Eb rb) (hc : Ev M S η c Ec rc) :
    Ev M S η (.tup (.cons a (.cons b (.cons c .nil)))) (vD (dP3 da db dc)) (ra.bind fun x => rb.bind fun y => rc.bind fun z => Z.ok (x, y, z)) := fun w => by
  simp only [den]
  rw [dens3]
  exact bind_rs (ha w) fun x w1 => bind_rs (hb w1) fun y w2 => bind_rs (hc w2) fun z w3 => by simp only [keeps, ka, kb, kc]; rfl
theorem Ev.tup4 {Ea : α → Vl} {Eb : β → Vl} {Ec : γ → Vl} {Ed : δ → Vl} {da : α → PyData} {db : β → PyData} {dc : γ → PyData} {dd : δ → PyData} {ra : Z W α} {rb : Z W β} {rc : Z W γ} {rd : Z W δ} (ka : ∀ x, keep (Ea x) = some (da x)) (kb : ∀ x, keep (Eb x) = some (db x)) (kc : ∀ x, keep (Ec x) = some (dc x)) (kd : ∀ x, keep (Ed x) = some (dd x)) (ha : Ev M S η a Ea ra) (hb : Ev M S η b Eb rb) (hc : Ev M S η c Ec rc) (hd : Ev M S η a' Ed rd) :
    Ev M S η (.tup (.cons a (.cons b (.cons c (.cons a' .nil))))) (vD (dP4 da db dc dd)) (ra.bind fun x => rb.bind fun y => rc.bind fun z => rd.bind fun u => Z.ok (x, y, z, u)) := fun w => by
  simp only [den]
  rw [dens4]
  exact bind_rs (ha w) fun x w1 => bind_rs (hb w1) fun y w2 => bind_rs (hc w2) fun z w3 => bind_rs (hd w3) fun u w4 => by simp only [keeps, ka, kb, kc, kd]; rfl
/-! ### calls -/
theorem call_P {f : Nat} {vs as : List Vl} {E : γ → Vl} {r : Rz γ} {w : W} (ha : argsOf vs = some (as, false)) (h : S f as (M w) = r.rs E (M w)) : callV S f vs (M w) = ((Z.lift r : Z W γ) w).rs M E := by
  unfold callV
  rw [ha]
  simp only [h, lift_rs]
  cases r <;> rfl
/-- a list is lent -/
theorem call_B {f : Nat} {vs as : List Vl} {E : γ → Vl} {r : Rz γ} {w : W} (ha : argsOf vs = some (as, true)) (hn : ∀ x, noLstV (E x) = true) (h : S f as (M w) = r.rs E (M w)) : callV S f vs (M w) = ((Z.lift r : Z W γ) w).rs M E := by
  unfold callV
  rw [ha]
  simp only [h, lift_rs]
  cases r with
  | ok x => simp [Rz.rs, hn]
  | ex => rfl
  | bad => rfl
theorem call_W {f : Nat} {vs as : List Vl} {E : γ → Vl} {r : Z W γ} {w : W} (ha : argsOf vs = some (as, false)) (h : S f as (M w) = (r w).rs M E) : callV S f vs (M w) = (r w).rs M E := by
  unfold callV
  rw [ha]
  simp only [h]
  cases r w <;> rfl
theorem Ev.call1 {f : Nat} {Ea : α → Vl} {E : γ → Vl} {ra : Z W α} {g : α → Z W γ} (hf : ∀ x w, callV S f [Ea x] (M w) = (g x w).rs M E) (ha : Ev M S η a Ea ra) : Ev M S η (.call f (.cons a .nil)) E (ra.bind g) := fun w => by
  have e : den (.call f (.cons a .nil)) S η (M w) = (den a S η (M w)).bind fun x m1 => callV S f [x] m1 := by
    simp only [den, dens]
    cases den a S η (M w) <;> rfl
  rw [e]
  exact bind_rs (ha w) fun x w1 => hf x w1
theorem Ev.call2 {f : Nat} {Ea : α → Vl} {Eb : β → Vl} {E : γ → Vl} {ra : Z W α} {rb : Z W β} {g : α → β → Z W γ} (hf : ∀ x y w, callV S f [Ea x, Eb y] (M w) = (g x y w).rs M E) (ha : Ev M S η a Ea ra) (hb : Ev M S η b Eb rb) : Ev M S η (.call f (.cons a (.cons b .nil))) E (ra.bind fun x => rb.bind fun y => g x y) := fun w => by
  simp only [den]
  rw [dens2]
  exact bind_rs (ha w) fun x w1 => bind_rs (hb w1) fun y w2 => hf x y w2
theorem Ev.call3 {f : Nat} {Ea : α → Vl} {Eb : β → Vl} {Ec : δ → Vl} {E : γ → Vl} {ra : Z W α} {rb : Z W β} {rc : Z W δ} {g : α → β → δ → Z W γ} (hf : ∀ x y z w, callV S f [Ea x, Eb y, Ec z] (M w) = (g x y z w).rs M E) (ha : Ev M S η a Ea ra) (hb : Ev M S η b Eb rb) (hc : Ev M S η c Ec rc) : Ev M S η (.call f (.cons a (.cons b (.cons c .nil)))) E (ra.bind fun x => rb.bind fun y => rc.bind fun z => g x y z) := fun w => by
  simp only [den]
  rw [dens3]
  exact bind_rs (ha w) fun x w1 => bind_rs (hb w1) fun y w2 => bind_rs (hc w2) fun z w3 => hf x y z w3
theorem Ev.call4 {f : Nat} {Ea : α → Vl} {Eb : β → Vl} {Ec : δ → Vl} {Ed : ε → Vl} {E : γ → Vl} {ra : Z W α} {rb : Z W β} {rc : Z W δ} {rd : Z W ε} {g : α → β → δ → ε → Z W γ} (hf : ∀ x y z u w, callV S f [Ea x, Eb y, Ec z, Ed u] (M w) = (g x y z u w).rs M E) (ha : Ev M S η a Ea ra) (hb : Ev M S η b Eb rb) (hc : Ev M S η c Ec rc) (hd : Ev M S η a' Ed rd) : Ev M S η (.call f (.cons a (.cons b (.cons c (.cons a' .nil))))) E (ra.bind fun x => rb.bind fun y => rc.bind fun z => rd.bind fun u => g x y z u) := fun w => by
  simp only [den]
  rw [dens4]
  exact bind_rs (ha w) fun x w1 => bind_rs (hb w1) fun y w2 => bind_rs (hc w2) fun z w3 => bind_rs (hd w3) fun u w4 => hf x y z u w4
theorem Ev.call5 {θ : Type} {f : Nat} {Ea : α → Vl} {Eb : β → Vl} {Ec : δ → Vl} {Ed : ε → Vl} {Ee : θ → Vl} {E : γ → Vl} {ra : Z W α} {rb : Z W β} {rc : Z W δ} {rd : Z W ε} {re : Z W θ} {g : α → β → δ → ε → θ → Z W γ} (hf : ∀ x y z u t w, callV S f [Ea x, Eb y, Ec z, Ed u, Ee t] (M w) = (g x y z u t w).rs M E) (ha : Ev M S η a Ea ra) (hb : Ev M S η b Eb rb) (hc : Ev M S η c Ec rc) (hd : Ev M S η a' Ed rd) (he : Ev M S η b' Ee re) : Ev M S η (.call f (.cons a (.cons b (.cons c (.cons a' (.cons b' .nil)))))) E (ra.bind fun x => rb.bind fun y => rc.bind fun z => rd.bind fun u => re.bind fun t => g x y z u t) := fun w => by
  simp only [den]
  rw [dens5]
  exact bind_rs (ha w) fun x w1 => bind_rs (hb w1) fun y w2 => bind_rs (hc w2) fun z w3 => bind_rs (hd w3) fun u w4 => bind_rs (he w4) fun t w5 => hf x y z u t w5
/-! ### built-ins -/
theorem Ev.b1O {f : B1} {Ea : α → Vl} {E : β → Vl} {ra : Z W α} {o : α → Option β} (h : ∀ x m, b1V m f (Ea x) = (o x).map E) (ha : Ev M S η a Ea ra) : Ev M S η (.b1 f a) E (ra.bind fun x => Z.opt (o x)) := fun w => bind_rs (ha w) fun x w1 => opt_rs (h x _)
theorem Ev.b1T {f : B1} {Ea : α → Vl} {E : β → Vl} {ra : Z W α} {g : α → β} (h : ∀ x m, b1V m f (Ea x) = some (E (g x))) (ha : Ev M S η a Ea ra) : Ev M S η (.b1 f a) E (ra.bind fun x => Z.ok (g x)) := fun w => bind_rs (ha w) fun x w1 => by rw [h]; rfl
theorem Ev.len {Ea : List α → Vl} {d : α → PyData} {ra : Z W (List α)} (h : ∀ x m, b1V m .len (Ea x) = some (.dat (.int ((x.map d).length : Nat)))) (ha : Ev M S η a Ea ra) : Ev M S η (.b1 .len a) (vD dI) (ra.bind fun x => Z.ok ((x.length : Nat) : Int)) := Ev.b1T (fun x m => by rw [h, List.length_map]) ha
theorem Ev.len2 {Ea : List (List α) → Vl} {d : α → PyData} {ra : Z W (List (List α))} (h : ∀ x m, b1V m .len (Ea x) = some (.dat (.int ((x.map (·.map d)).length : Nat)))) (ha : Ev M S η a Ea ra) : Ev M S η (.b1 .len a) (vD dI) (ra.bind fun x => Z.ok ((x.length : Nat) : Int)) := Ev.b1T (fun x m => by rw [h, List.length_map]) ha
theorem Ev.tuple {Ea : List α → Vl} {d : α → PyData} {ra : Z W (List α)} (h : ∀ x m, b1V m .tuple (Ea x) = some (.dat (.tuple (x.map d)))) (ha : Ev M S η a Ea ra) : Ev M S η (.b1 .tuple a) (vD (dT d)) ra := (Ev.b1T (g := fun x => x) h ha).to (by funext w; unfold Z.bind; cases ra w <;> rfl)
theorem Ev.list {Ea : List α → Vl} {d : α → PyData} {ra : Z W (List α)} (h : ∀ x m, b1V m .list (Ea x) = some (.new (x.map d))) (ha : Ev M S η a Ea ra) : Ev M S η (.b1 .list a) (vN d) ra := (Ev.b1T (g := fun x => x) h ha).to (by funext w; unfold Z.bind; cases ra w <;> rfl)
theorem Ev.sum {Ea : List Int → Vl} {ra : Z W (List Int)} (h : ∀ x m, b1V m .sum (Ea x) = (intsOf (x.map .int)).map fun ns => .dat (.int ns.sum)) (ha : Ev M S η a Ea ra) : Ev M S η (.b1 .sum a) (vD dI) (ra.bind fun x => Z.ok x.sum) := Ev.b1T (fun x m => by rw [h, intsOf_map]; rfl) ha
def maxZ : List Int → Option Int
  | [] => none
  | a :: r => some (maxL a r)
def minZ : List Int → Option Int
  | [] => none
  | a :: r => some (minL a r)
theorem Ev.max {Ea : List Int → Vl} {ra : Z W (List Int)} (h : ∀ x m, b1V m .max (Ea x) = match intsOf (x.map .int) with
    | some (a :: r) => some (.dat (.int (maxL a r)))
    | _ => none) (ha : Ev M S η a Ea ra) : Ev M S η (.b1 .max a) (vD dI) (ra.bind fun x => Z.opt (maxZ x)) := Ev.b1O (fun x m => by rw [h, intsOf_map]; cases x <;> rfl) ha
theorem Ev.min {Ea : List Int → Vl} {ra : Z W (List Int)} (h : ∀ x m, b1V m .min (Ea x) = match intsOf (x.map .int) with
    | some (a :: r) => some (.dat (.int (minL a r)))
    | _ => none) (ha : Ev M S η a Ea ra) : Ev M S η (.b1 .min a) (vD dI) (ra.bind fun x => Z.opt (minZ x)) := Ev.b1O (fun x m => by rw [h, intsOf_map]; cases x <;> rfl) ha
theorem Ev.all {Ea : List Bool → Vl} {ra : Z W (List Bool)} (h : ∀ x m, b1V m .all (Ea x) = (boolsOf (x.map .bool)).map fun ns => .dat (.bool (ns.all id))) (ha : Ev M S η a Ea ra) : Ev M S η (.b1 .all a) (vD dB) (ra.bind fun x => Z.ok (x.all id)) := Ev.b1T (fun x m => by rw [h, boolsOf_map]; rfl) ha
theorem Ev.any {Ea : List Bool → Vl} {ra : Z W (List Bool)} (h : ∀ x m, b1V m .any (Ea x) = (boolsOf (x.map .bool)).map fun ns => .dat (.bool (ns.any id))) (ha : Ev M S η a Ea ra) : Ev M S η (.b1 .any a) (vD dB) (ra.bind fun x => Z.ok (x.any id)) := Ev.b1T (fun x m => by rw [h, boolsOf_map]; rfl) ha
theorem Ev.mx {ra rb : Z W Int} (ha : Ev M S η a (vD dI) ra) (hb : Ev M S η b (vD dI) rb) : Ev M S η (.mm2 true a b) (vD dI) (ra.bind fun x => rb.bind fun y => Z.ok (if y > x then y else x)) := fun w => bind_rs (ha w) fun x w1 => bind_rs (hb w1) fun y w2 => rfl
theorem Ev.mn {ra rb : Z W Int} (ha : Ev M S η a (vD dI) ra) (hb : Ev M S η b (vD dI) rb) : Ev M S η (.mm2 false a b) (vD dI) (ra.bind fun x => rb.bind fun y => Z.ok (if y < x then y else x)) := fun w => bind_rs (ha w) fun x w1 => bind_rs (hb w1) fun y w2 => rfl
theorem Ev.isiT {Ea : α → Vl} {t : Ty} {v : Bool} {ra : Z W α} (h : ∀ x m, isiV m (Ea x) t = some v) (ha : Ev M S η a Ea ra) : Ev M S η (.isi t a) (vD dB) (ra.bind fun _ => Z.ok v) := fun w => bind_rs (ha w) fun x w1 => by rw [h]; rfl
theorem Ev.isiD {t : Ty} {ra : Z W PyData} (ha : Ev M S η a (vD dD) ra) : Ev M S η (.isi t a) (vD dB) (ra.bind fun x => Z.opt (isiV [] (.dat x) t)) := fun w => bind_rs (ha w) fun x w1 => by
  have e : isiV (M w1) (vD dD x) t = isiV [] (.dat x) t := rfl
  rw [e]
  cases isiV [] (.dat x) t <;> rfl
theorem Ev.count {Ea : List Int → Vl} {ra : Z W (List Int)} {rb : Z W Int} (h1 : ∀ x, walkOf (Ea x) = some (x.map .int)) (ha : Ev M S η a Ea ra) (hb : Ev M S η b (vD dI) rb) : Ev M S η (.me .count a b) (vD dI) (ra.bind fun x => rb.bind fun y => Z.ok ((x.count y : Nat) : Int)) := fun w => bind_rs (ha w) fun x w1 => by
  simp only [meRdy, h1, Option.map_some, Rs.opt_some, Rs.bind_ok]
  exact bind_rs (hb w1) fun y w2 => by simp only [meV, h1, Option.bind_some, intsOf_map]; rfl
/-! ### subscripts -/
theorem atI_mapZ {d : α → β} (xs : List α) (i : Int) : L2.atI (xs.map d) i = (L2.atI xs i).map d := by
  unfold L2.atI
  rw [List.length_map]
  cases L2.ixN xs.length i with
  | none => rfl
  | some j => simp [List.getElem?_map]
theorem Ev.ixO {Ea : α → Vl} {E : β → Vl} {ra : Z W α} {rb : Z W Int} {o : α → Int → Option β} (h : ∀ x i m, ixV m (Ea x) (.dat (.int i)) = (o x i).map E) (ha : Ev M S η a Ea ra) (hb : Ev M S η b (vD dI) rb) : Ev M S η (.ix a b) E (ra.bind fun x => rb.bind fun y => Z.opt (o x y)) := fun w => bind_rs (ha w) fun x w1 => bind_rs (hb w1) fun y w2 => opt_rs (h x y _)
theorem Ev.ix {Ea : List α → Vl} {d : α → PyData} {ra : Z W (List α)} {rb : Z W Int} (h : ∀ x i m, ixV m (Ea x) (.dat (.int i)) = (L2.atI (x.map d) i).map .dat) (ha : Ev M S η a Ea ra) (hb : Ev M S η b (vD dI) rb) : Ev M S η (.ix a b) (vD d) (ra.bind fun x => rb.bind fun y => Z.opt (L2.atI x y)) := Ev.ixO (fun x i m => by rw [h, atI_mapZ, Option.map_map]; rfl) ha hb
theorem Ev.ixS {ra : Z W (List Int)} {rb : Z W Int} (ha : Ev M S η a vS ra) (hb : Ev M S η b (vD dI) rb) : Ev M S η (.ix a b) (vD dI) (ra.bind fun x => rb.bind fun y => Z.opt (L2.atI x y)) := Ev.ixO (fun x i m => rfl) ha hb
theorem Ev.ix2 {d : α → PyData} {ra : Z W (List (List α))} {rb : Z W Int} (ha : Ev M S η a (vB2 d) ra) (hb : Ev M S η b (vD dI) rb) : Ev M S η (.ix a b) (vB d) (ra.bind fun x => rb.bind fun y => Z.opt (L2.atI x y)) := Ev.ixO (fun x i m => by
  show (L2.atI (x.map (·.map d)) i).map Vl.bor = _
  rw [atI_mapZ, Option.map_map]; rfl) ha hb
/-- the parts of a pair -/
theorem Ev.ix20 {d : α → PyData} {d' : β → PyData} {ra : Z W (α × β)} (ha : Ev M S η a (vD (dP d d')) ra) : Ev M S η (.ix a (.cint 0)) (vD d) (ra.bind fun x => Z.ok x.1) := fun w => bind_rs (ha w) fun x w1 => rfl
theorem Ev.ix21 {d : α → PyData} {d' : β → PyData} {ra : Z W (α × β)} (ha : Ev M S η a (vD (dP d d')) ra) : Ev M S η (.ix a (.cint 1)) (vD d') (ra.bind fun x => Z.ok x.2) := fun w => bind_rs (ha w) fun x w1 => rfl
def EvO (M : W → Mem) (S : Fo) (η : Sg) (o : CO) (r : Z W (Option Int)) : Prop := ∀ w, denO o S η (M w) = match r w with
  | .ok x w' => .ok x (M w')
  | .ex c w' => .ex c (M w')
  | .bad => .bad
theorem EvO.no : EvO M S η .no (Z.ok none) := fun w => rfl
theorem EvO.yes {ra : Z W Int} (ha : Ev M S η a (vD dI) ra) : EvO M S η (.yes a) (ra.bind fun x => Z.ok (some x)) := fun w => by
  simp only [denO]
  rw [ha w]
  unfold Z.bind
  cases ra w <;> rfl
theorem cut_map {d : α → β} (xs : List α) (lo hi : Option Int) : cut (xs.map d) lo hi = (cut xs lo hi).map d := by
  unfold cut
  rw [List.length_map, List.map_take, List.map_drop]
theorem Ev.sl {Ea : List α → Vl} {E : List α → Vl} {ra : Z W (List α)} {lo hi : CO} {rl rh : Z W (Option Int)} (h : ∀ x l h m, slV m (Ea x) l h = some (E (cut x l h))) (ha : Ev M S η a Ea ra) (hl : EvO M S η lo rl) (hh : EvO M S η hi rh) : Ev M S η (.sl a lo hi) E (ra.bind fun x => rl.bind fun l => rh.bind fun h => Z.ok (cut x l h)) := fun w => bind_rs (ha w) fun x w1 => by
  rw [hl w1]
  unfold Z.bind
  cases rl w1 with
  | ex c w => rfl
  | bad => rfl
  | ok l w2 =>
    simp only [Rs.bind_ok]
    rw [hh w2]
    cases rh w2 with
    | ex c w => rfl
    | bad => rfl
    | ok l w2 => simp only [Rs.bind_ok, h]; rfl
theorem sl_T {d : α → PyData} (x : List α) (l h : Option Int) (m : Mem) : slV m (vD (dT d) x) l h = some (vD (dT d) (cut x l h)) := by
  show some (Vl.dat (.tuple (cut (x.map d) l h))) = _
  rw [cut_map]
theorem sl_N {d : α → PyData} (x : List α) (l h : Option Int) (m : Mem) : slV m (vN d x) l h = some (vN d (cut x l h)) := by
  show some (Vl.new (cut (x.map d) l h)) = _
  rw [cut_map]
theorem sl_B {d : α → PyData} (x : List α) (l h : Option Int) (m : Mem) : slV m (vB d x) l h = some (vN d (cut x l h)) := by
  show some (Vl.new (cut (x.map d) l h)) = _
  rw [cut_map]
theorem sl_L {d : α → PyData} (x : List α) (l h : Option Int) (m : Mem) : slV m (vD (dL d) x) l h = some (vN d (cut x l h)) := by
  show some (Vl.new (cut (x.map d) l h)) = _
  rw [cut_map]
theorem Ev.rev {Ea E : List α → Vl} {ra : Z W (List α)} (h : ∀ x m, revV m (Ea x) = some (E x.reverse)) (ha : Ev M S η a Ea ra) : Ev M S η (.rev a) E (ra.bind fun x => Z.ok x.reverse) := fun w => bind_rs (ha w) fun x w1 => by rw [h]; rfl
theorem rev_T {d : α → PyData} (x : List α) (m : Mem) : revV m (vD (dT d) x) = some (vD (dT d) x.reverse) := by
  show some (Vl.dat (.tuple (x.map d).reverse)) = _
  rw [← List.map_reverse]
theorem rev_N {d : α → PyData} (x : List α) (m : Mem) : revV m (vN d x) = some (vN d x.reverse) := by
  show some (Vl.new (x.map d).reverse) = _
  rw [← List.map_reverse]
theorem rev_B {d : α → PyData} (x : List α) (m : Mem) : revV m (vB d x) = some (vN d x.reverse) := by
  show some (Vl.new (x.map d).reverse) = _
  rw [← List.map_reverse]
theorem rev_L {d : α → PyData} (x : List α) (m : Mem) : revV m (vD (dL d) x) = some (vN d x.reverse) := by
  show some (Vl.new (x.map d).reverse) = _
  rw [← List.map_reverse]
/-! ### walks -/
def rangeZ (a b : Int) : List Int := (List.range (b - a).toNat).map fun i => a + (i : Nat)
theorem rangeL_Z (a b : Int) : rangeL a b = (rangeZ a b).map .int := by
  unfold rangeL rangeZ
  rw [List.map_map]
  rfl
theorem EvI.seq {fs : Bool} {Ea : List α → Vl} {d : α → PyData} {ra : Z W (List α)} (hs : ∀ x, (!fs || steady (Ea x)) = true) (h : ∀ x, iterOf (Ea x) = some (x.map d)) (ha : Ev M S η a Ea ra) : EvI M S η fs (.seq a) d ra := fun w => by
  simp only [denI]
  rw [ha w]
  cases ra w with
  | ok x w1 => simp only [Rw.rs, Rs.bind_ok, hs, if_true, h]; rfl
  | ex c w => rfl
  | bad => rfl
theorem EvI.seqD {fs : Bool} {ra : Z W PyData} (ha : Ev M S η a (vD dD) ra) : EvI M S η fs (.seq a) dD (ra.bind fun x => Z.opt (iterOf (.dat x))) := fun w => bindL_rs (ha w) fun x w1 => by
  have e : (!fs || steady (vD dD x)) = true := by cases fs <;> rfl
  rw [e, if_pos rfl]
  show Rs.opt (M w1) (iterOf (.dat x)) = _
  cases iterOf (.dat x) with
  | none => rfl
  | some xs =>
    show Rs.ok xs (M w1) = Rs.ok (xs.map dD) (M w1)
    rw [show xs.map dD = xs from List.map_id xs]
theorem EvI.rng1 {fs : Bool} {ra : Z W Int} (ha : Ev M S η a (vD dI) ra) : EvI M S η fs (.rng1 a) dI (ra.bind fun x => Z.if (rangeOk 0 x) (rangeZ 0 x)) := fun w => bindL_rs (ha w) fun x w1 => by
  show (if rangeOk 0 x then Rs.ok (rangeL 0 x) (M w1) else .bad) = _
  rw [rangeL_Z]
  unfold Z.if
  cases rangeOk 0 x <;> rfl
theorem EvI.rng2 {fs : Bool} {ra rb : Z W Int} (ha : Ev M S η a (vD dI) ra) (hb : Ev M S η b (vD dI) rb) : EvI M S η fs (.rng2 a b) dI (ra.bind fun x => rb.bind fun y => Z.if (rangeOk x y) (rangeZ x y)) := fun w => bindL_rs (ha w) fun x w1 => bindL_rs (hb w1) fun y w2 => by
  show (if rangeOk x y then Rs.ok (rangeL x y) (M w2) else .bad) = _
  rw [rangeL_Z]
  unfold Z.if
  cases rangeOk x y <;> rfl
def enumZ (xs : List α) : List (Int × α) := xs.zipIdx.map fun p => (((p.2 : Nat) : Int), p.1)
theorem enumL_Z {d : α → PyData} (xs : List α) : enumL (xs.map d) = (enumZ xs).map (dP dI d) := by
  unfold enumL enumZ
  rw [List.zipIdx_map, List.map_map, List.map_map]
  rfl
theorem zipL_Z {d : α → PyData} {d' : β → PyData} (xs : List α) (ys : List β) : zipL (xs.map d) (ys.map d') = (xs.zip ys).map (dP d d') := by
  unfold zipL
  rw [List.zip_map, List.map_map]
  rfl
theorem EvI.enum {fs : Bool} {Ea : List α → Vl} {d : α → PyData} {ra : Z W (List α)} (hs : ∀ x, (!fs || steady (Ea x)) = true) (h : ∀ x, walkOf (Ea x) = some (x.map d)) (ha : Ev M S η a Ea ra) : EvI M S η fs (.enum a) (dP dI d) (ra.bind fun x => Z.ok (enumZ x)) := fun w => bindL_rs (ha w) fun x w1 => by
  simp only [hs, if_true, h, Rs.opt_some, Rs.bind_ok, enumL_Z]
  rfl
theorem EvI.enumD {fs : Bool} {ra : Z W PyData} (ha : Ev M S η a (vD dD) ra) : EvI M S η fs (.enum a) (dP dI dD) (ra.bind fun x => (Z.opt (walkOf (.dat x))).bind fun xs => Z.ok (enumZ xs)) := fun w => bindL_rs (ha w) fun x w1 => by
  have e : (!fs || steady (vD dD x)) = true := by cases fs <;> rfl
  rw [e, if_pos rfl]
  show (Rs.opt (M w1) (walkOf (.dat x))).bind _ = _
  cases walkOf (.dat x) with
  | none => rfl
  | some xs =>
    show Rs.ok (enumL xs) (M w1) = Rs.ok ((enumZ xs).map (dP dI dD)) (M w1)
    rw [← enumL_Z, show xs.map dD = xs from List.map_id xs]
theorem EvI.zip {fs : Bool} {Ea : List α → Vl} {Eb : List β → Vl} {d : α → PyData} {d' : β → PyData} {ra : Z W (List α)} {rb : Z W (List β)} (hs : ∀ x y, (!fs || (steady (Ea x) && steady (Eb y))) = true) (h : ∀ x, walkOf (Ea x) = some (x.map d)) (h' : ∀ x, walkOf (Eb x) = some (x.map d')) (ha : Ev M S η a Ea ra) (hb : Ev M S η b Eb rb) : EvI M S η fs (.zip a b) (dP d d') (ra.bind fun x => rb.bind fun y => Z.ok (x.zip y)) := fun w => bindL_rs (ha w) fun x w1 => bindL_rs (hb w1) fun y w2 => by
  simp only [hs, if_true, h, h', zipL_Z]
  rfl
theorem EvI.zipD {fs : Bool} {ra rb : Z W PyData} (ha : Ev M S η a (vD dD) ra) (hb : Ev M S η b (vD dD) rb) : EvI M S η fs (.zip a b) (dP dD dD) (ra.bind fun x => rb.bind fun y => (Z.opt (walkOf (.dat x))).bind fun xs => (Z.opt (walkOf (.dat y))).bind fun ys => Z.ok (xs.zip ys)) := fun w => bindL_rs (ha w) fun x w1 => bindL_rs (hb w1) fun y w2 => by
  have e : (!fs || (steady (vD dD x) && steady (vD dD y))) = true := by cases fs <;> rfl
  rw [e, if_pos rfl]
  show (match walkOf (.dat x), walkOf (.dat y) with
    | some as, some bs => Rs.ok (zipL as bs) (M w2)
    | _, _ => .bad) = _
  cases walkOf (.dat x) with
  | none => cases walkOf (.dat y) <;> rfl
  | some xs =>
    cases walkOf (.dat y) with
    | none => rfl
    | some ys =>
      show Rs.ok (zipL xs ys) (M w2) = Rs.ok ((xs.zip ys).map (dP dD dD)) (M w2)
      rw [← zipL_Z, show xs.map dD = xs from List.map_id xs, show ys.map dD = ys from List.map_id ys]
/-! ### comprehensions -/
theorem lcRun_M {body : PyData → Mem → Rs (Option PyData)} {d : α → PyData} {d' : β → PyData} {g : α → Z W (Option β)} (h : ∀ x w, body (d x) (M w) = match g x w with
    | .ok y w' => .ok (y.map d') (M w')
    | .ex c w' => .ex c (M w')
    | .bad => .bad) : ∀ (xs : List α) (w : W), lcRun body (xs.map d) (M w) = ((Z.mapM g xs).bind (fun ys => Z.ok (ys.filterMap id)) w).rsL M d'
  | [], w => rfl
  | x :: xs, w => by
    simp only [List.map_cons, lcRun, h, Z.mapM]
    unfold Z.bind
    cases g x w with
    | ex c w => rfl
    | bad => rfl
    | ok y w1 =>
      simp only [Rs.bind_ok]
      rw [lcRun_M h xs w1]
      unfold Z.bind
      cases Z.mapM g xs w1 with
      | ex c w => rfl
      | bad => rfl
      | ok ys w2 => cases y <;> rfl
theorem Z.assoc {r : Z W α} {f : α → Z W β} {g : β → Z W γ} : (r.bind f).bind g = r.bind fun x => (f x).bind g := by
  funext w
  unfold Z.bind
  cases r w <;> rfl
theorem Z.ok_bind {x : α} {f : α → Z W β} : (Z.ok x : Z W α).bind f = f x := rfl
theorem mapM_some {g : α → Z W β} : ∀ (xs : List α), (Z.mapM (fun x => (g x).bind fun y => Z.ok (some y)) xs).bind (fun ys => Z.ok (ys.filterMap id)) = Z.mapM g xs
  | [] => rfl
  | x :: xs => by
    simp only [Z.mapM, Z.assoc, Z.ok_bind]
    congr 1
    funext y
    have e : ∀ os : List (Option β), (some y :: os).filterMap id = y :: os.filterMap id := fun os => rfl
    simp only [e]
    rw [← mapM_some xs, Z.assoc]
    rfl
theorem Ev.lc {elt : CE} {t : Tg} {it : CI} {d : α → PyData} {ri : Z W (List α)} {η1 : α → Sg} {Ee : β → Vl} {d' : β → PyData} {g : α → Z W β} (hi : EvI M S η false it d ri) (hb : ∀ x, bindTg (wipeS η (tgSlots t)) (d x) t = some (η1 x)) (hk : ∀ y, keep (Ee y) = some (d' y)) (he : ∀ x, Ev M S (η1 x) elt Ee (g x)) :
    Ev M S η (.lc elt t it .no) (vN d') (ri.bind fun xs => Z.lc g xs) := fun w => bind_rsL (hi w) fun xs w1 => by
  rw [lcRun_M (g := fun x => ((g x).noEx).bind fun y => Z.ok (some y)) (d' := d')]
  · rw [mapM_some]
    unfold Z.lc
    unfold Z.bind
    cases Z.mapM (fun x => (g x).noEx) xs w1 with
    | ex c w => rfl
    | bad => rfl
    | ok ys w2 =>
      simp only [Rw.rsL, Rs.bind_ok, List.length_map, Z.fits, Z.if]
      cases fits ys.length <;> rfl
  · intro x w
    simp only [hb, denC, Rs.bind_ok, if_true]
    rw [he x w]
    unfold Z.bind Z.noEx
    cases g x w with
    | ex c w => rfl
    | bad => rfl
    | ok y w2 => simp only [Rw.rs, Rs.bind_ok, hk]; rfl
theorem mapM_ok {g : α → β} : ∀ (xs : List α), Z.mapM (W := W) (fun x => Z.ok (g x)) xs = Z.ok (xs.map g)
  | [] => rfl
  | x :: xs => by
    simp only [Z.mapM, mapM_ok xs]
    rfl
theorem lc_ok {g : α → β} (xs : List α) : Z.lc (W := W) (fun x => Z.ok (g x)) xs = Z.fits (xs.map g) := by
  unfold Z.lc
  have e : (fun x => (Z.ok (g x) : Z W β).noEx) = fun x => Z.ok (g x) := rfl
  rw [e, mapM_ok]
  rfl
theorem Ev.lcT {elt : CE} {t : Tg} {it : CI} {d : α → PyData} {ri : Z W (List α)} {η1 : α → Sg} {Ee : β → Vl} {d' : β → PyData} {g : α → β} (hi : EvI M S η false it d ri) (hb : ∀ x, bindTg (wipeS η (tgSlots t)) (d x) t = some (η1 x)) (hk : ∀ y, keep (Ee y) = some (d' y)) (he : ∀ x, Ev M S (η1 x) elt Ee (Z.ok (g x))) :
    Ev M S η (.lc elt t it .no) (vN d') (ri.bind fun xs => Z.fits (xs.map g)) := (Ev.lc hi hb hk he).to (by congr 1; funext xs; exact lc_ok xs)
theorem Ev.lcIf {elt : CE} {t : Tg} {it : CI} {d : α → PyData} {ri : Z W (List α)} {η1 : α → Sg} {Ee : β → Vl} {d' : β → PyData} {p : α → Z W Bool} {g : α → Z W β} (hi : EvI M S η false it d ri) (hb : ∀ x, bindTg (wipeS η (tgSlots t)) (d x) t = some (η1 x)) (hk : ∀ y, keep (Ee y) = some (d' y)) (hc : ∀ x, Ev M S (η1 x) c (vD dB) (p x)) (he : ∀ x, Ev M S (η1 x) elt Ee (g x)) :
    Ev M S η (.lc elt t it (.yes c)) (vN d') (ri.bind fun xs => Z.lcIf p g xs) := fun w => bind_rsL (hi w) fun xs w1 => by
  rw [lcRun_M (g := fun x => ((p x).bind fun b => if b then (g x).bind fun y => Z.ok (some y) else Z.ok none).noEx) (d' := d')]
  · unfold Z.lcIf
    unfold Z.bind
    cases Z.mapM (fun x => Z.noEx fun w => _) xs w1 with
    | ex c w => rfl
    | bad => rfl
    | ok ys w2 =>
      simp only [Rw.rsL, Z.ok, Rs.bind_ok, List.length_map, Z.fits, Z.if]
      cases fits (List.filterMap id ys).length <;> rfl
  · intro x w
    simp only [hb, denC]
    rw [hc x w]
    unfold Z.bind Z.noEx
    dsimp only
    cases p x w with
    | ex c w => rfl
    | bad => rfl
    | ok b w1 =>
      cases b with
      | false => rfl
      | true =>
        simp only [Rw.rs, Rs.bind_ok, if_true, boolV, Rs.opt_some]
        rw [he x w1]
        cases g x w1 with
        | ex c w => rfl
        | bad => rfl
        | ok y w2 => simp only [Rw.rs, Rs.bind_ok, hk]; rfl
theorem mapM_if {p : α → Bool} {g : α → β} : ∀ (xs : List α), (Z.mapM (W := W) (fun x => Z.ok (if p x then some (g x) else none)) xs).bind (fun ys => Z.fits (ys.filterMap id)) = Z.fits ((xs.filter p).map g) := by
  intro xs
  rw [mapM_ok]
  show Z.fits ((xs.map fun x => if p x then some (g x) else none).filterMap id) = _
  rw [List.filterMap_map]
  congr 1
  exact fm_filter xs
theorem Ev.lcIfT {elt : CE} {t : Tg} {it : CI} {d : α → PyData} {ri : Z W (List α)} {η1 : α → Sg} {Ee : β → Vl} {d' : β → PyData} {p : α → Bool} {g : α → β} (hi : EvI M S η false it d ri) (hb : ∀ x, bindTg (wipeS η (tgSlots t)) (d x) t = some (η1 x)) (hk : ∀ y, keep (Ee y) = some (d' y)) (hc : ∀ x, Ev M S (η1 x) c (vD dB) (Z.ok (p x))) (he : ∀ x, Ev M S (η1 x) elt Ee (Z.ok (g x))) :
    Ev M S η (.lc elt t it (.yes c)) (vN d') (ri.bind fun xs => Z.fits ((xs.filter p).map g)) := (Ev.lcIf hi hb hk hc he).to (by
  congr 1; funext xs
  unfold Z.lcIf
  rw [← mapM_if]
  congr 1
  congr 1
  funext x
  dsimp only
  cases p x <;> rfl)
theorem rowsOf_map {d : α → PyData} : ∀ xs : List (List α), rowsOf (xs.map (dT d)) = some (xs.map (·.map d))
  | [] => rfl
  | x :: xs => by
    show (rowsOf (xs.map (dT d))).map _ = _
    rw [rowsOf_map xs]
    rfl
theorem Ev.rows {x : Nat} {d : α → PyData} {ra : Z W (List (List α))} (ha : Ev M S η a (vD (dT (dT d))) ra) : Ev M S η (.rows x a) (vN2 d) (ra.bind Z.fits) := fun w => bind_rs (ha w) fun xs w1 => by
  show Rs.opt _ ((rowsOf (xs.map (dT d))).bind _) = _
  rw [rowsOf_map]
  refine if_rs ?_
  show (if fits (xs.map (·.map d)).length then _ else _) = _
  rw [List.length_map]
theorem Ev.rngT {ra : Z W Int} (ha : Ev M S η a (vD dI) ra) : Ev M S η (.rng true a) (vD (dT dI)) (ra.bind fun x => Z.if (rangeOk 0 x) (rangeZ 0 x)) := fun w => bind_rs (ha w) fun x w1 => by
  show (if rangeOk 0 x then Rs.ok (Vl.dat (.tuple (rangeL 0 x))) (M w1) else .bad) = _
  rw [rangeL_Z]
  unfold Z.if
  cases rangeOk 0 x <;> rfl
theorem Ev.rngL {ra : Z W Int} (ha : Ev M S η a (vD dI) ra) : Ev M S η (.rng false a) (vN dI) (ra.bind fun x => Z.if (rangeOk 0 x) (rangeZ 0 x)) := fun w => bind_rs (ha w) fun x w1 => by
  show (if rangeOk 0 x then Rs.ok (Vl.new (rangeL 0 x)) (M w1) else .bad) = _
  rw [rangeL_Z]
  unfold Z.if
  cases rangeOk 0 x <;> rfl
end
end SS
/- SW4 -/
set_option linter.all false
set_option maxRecDepth 100000
/-! Typed mirrors: statements. -/
namespace SS
open PySem L2
section
variable {W α β γ δ σ τ ρ : Type} {M : W → Mem} {S : Fo} {η η' : Sg} {a b c e e' : CE} {rest ss : CSs} {Env : σ → Sg} {E : ρ → Vl}
theorem Sq.to {o o' : Y W σ ρ} (h : Sq M S η ss Env E o) (e : o = o') : Sq M S η ss Env E o' := e ▸ h
theorem Sq.nil {s : σ} (h : η = Env s) : Sq M S η .nil Env E (Y.nx s) := fun w => by subst h; rfl
theorem Sq.asg {i : Nat} {Ee : α → Vl} {η1 : α → Sg} {re : Z W α} {o : α → Y W σ ρ} (he : Ev M S η e Ee re) (hs : ∀ x, storeV (Ee x) = some (Ee x)) (h1 : ∀ x, η.set i (some (Ee x)) = η1 x) (h : ∀ x, Sq M S (η1 x) rest Env E (o x)) : Sq M S η (.cons (.asg i e) rest) Env E (re.so o) := fun w => by
  simp only [denSs, denS]
  rw [he w]
  unfold Z.so
  cases re w with
  | ex c w => rfl
  | bad => rfl
  | ok x w1 => simp only [Rw.rs, Rs.so_ok, hs, So.then_nx, h1]; exact h x w1
theorem Sq.par2 {i j : Nat} {Ea : α → Vl} {Eb : β → Vl} {η1 : α → β → Sg} {ra : Z W α} {rb : Z W β} {o : α → β → Y W σ ρ} (ha : Ev M S η a Ea ra) (hb : Ev M S η b Eb rb) (hs : ∀ x y, stores η [i, j] [Ea x, Eb y] = some (η1 x y)) (h : ∀ x y, Sq M S (η1 x y) rest Env E (o x y)) :
    Sq M S η (.cons (.par [i, j] (.cons a (.cons b .nil))) rest) Env E (ra.so fun x => rb.so fun y => o x y) := fun w => by
  simp only [denSs, denS, dens]
  rw [ha w]
  unfold Z.so
  cases ra w with
  | ex c w => rfl
  | bad => rfl
  | ok x w1 =>
    simp only [Rw.rs, Rs.bind_ok]
    rw [hb w1]
    cases rb w1 with
    | ex c w => rfl
    | bad => rfl
    | ok y w2 => simp only [Rw.rs, Rs.bind_ok, Rs.so_ok, hs, So.then_nx]; exact h x y w2
theorem Sq.par3 {i j k : Nat} {Ea : α → Vl} {Eb : β → Vl} {Ec : γ → Vl} {η1 : α → β → γ → Sg} {ra : Z W α} {rb : Z W β} {rc : Z W γ} {o : α → β → γ → Y W σ ρ} (ha : Ev M S η a Ea ra) (hb : Ev M S η b Eb rb) (hc : Ev M S η c Ec rc) (hs : ∀ x y z, stores η [i, j, k] [Ea x, Eb y, Ec z] = some (η1 x y z)) (h : ∀ x y z, Sq M S (η1 x y z) rest Env E (o x y z)) :
    Sq M S η (.cons (.par [i, j, k] (.cons a (.cons b (.cons c .nil)))) rest) Env E (ra.so fun x => rb.so fun y => rc.so fun z => o x y z) := fun w => by
  simp only [denSs, denS, dens]
  rw [ha w]
  unfold Z.so
  cases ra w with
  | ex c w => rfl
  | bad => rfl
  | ok x w1 =>
    simp only [Rw.rs, Rs.bind_ok]
    rw [hb w1]
    cases rb w1 with
    | ex c w => rfl
    | bad => rfl
    | ok y w2 =>
      simp only [Rw.rs, Rs.bind_ok]
      rw [hc w2]
      cases rc w2 with
      | ex c w => rfl
      | bad => rfl
      | ok z w3 => simp only [Rw.rs, Rs.bind_ok, Rs.so_ok, hs, So.then_nx]; exact h x y z w3
theorem Sq.asgT {is : List Nat} {d : α → PyData} {η1 : α → Sg} {re : Z W α} {o : α → Y W σ ρ} (he : Ev M S η e (vD d) re) (h1 : ∀ x, bindTg η (d x) (.tup is) = some (η1 x)) (h : ∀ x, Sq M S (η1 x) rest Env E (o x)) : Sq M S η (.cons (.asgT is e) rest) Env E (re.so o) := fun w => by
  simp only [denSs, denS]
  rw [he w]
  unfold Z.so
  cases re w with
  | ex c w => rfl
  | bad => rfl
  | ok x w1 => simp only [Rw.rs, Rs.so_ok, h1, So.then_nx]; exact h x w1
/-- a statement that only changes the slots -/
theorem Sq.env {s : CS} {o : Y W σ ρ} (hs : ∀ m, denS s S η m = .nx η' m) (h : Sq M S η' rest Env E o) : Sq M S η (.cons s rest) Env E o := fun w => by
  simp only [denSs, hs, So.then_nx]
  exact h w
theorem Sq.aug {i : Nat} {op : Operator} {x : Int} {f : Int → Int → Int} {η1 : Int → Sg} {re : Z W Int} {o : Int → Y W σ ρ} (hg : getS η i = some (.dat (.int x))) (hop : (op = .Add ∧ f = fun a b => a + b) ∨ (op = .Sub ∧ f = fun a b => a - b)) (he : Ev M S η e (vD dI) re) (h1 : ∀ z, η.set i (some (.dat (.int (f x z)))) = η1 z) (h : ∀ z, Sq M S (η1 z) rest Env E (o z)) :
    Sq M S η (.cons (.aug i op e) rest) Env E (re.so o) := fun w => by
  simp only [denSs, denS, hg]
  rw [he w]
  unfold Z.so
  cases re w with
  | ex c w => rfl
  | bad => rfl
  | ok y w1 =>
    rcases hop with ⟨rfl, rfl⟩ | ⟨rfl, rfl⟩
    · simp only [Rw.rs, Rs.so_ok, So.then_nx, h1]; exact h _ w1
    · simp only [Rw.rs, Rs.so_ok, So.then_nx, h1]; exact h _ w1
def asI : PyData → Option Int
  | .int i => some i
  | _ => none
theorem Sq.augD {i : Nat} {op : Operator} {x : Int} {f : Int → Int → Int} {η1 : Int → Sg} {re : Z W PyData} {o : Int → Y W σ ρ} (hg : getS η i = some (.dat (.int x))) (hop : (op = .Add ∧ f = fun a b => a + b) ∨ (op = .Sub ∧ f = fun a b => a - b)) (he : Ev M S η e (vD dD) re) (h1 : ∀ z, η.set i (some (.dat (.int (f x z)))) = η1 z) (h : ∀ z, Sq M S (η1 z) rest Env E (o z)) :
    Sq M S η (.cons (.aug i op e) rest) Env E (re.so fun y => (Z.opt (asI y)).so o) := fun w => by
  simp only [denSs, denS, hg]
  rw [he w]
  unfold Z.so
  cases re w with
  | ex c w => rfl
  | bad => rfl
  | ok y w1 =>
    cases y with
    | int y =>
      rcases hop with ⟨rfl, rfl⟩ | ⟨rfl, rfl⟩
      · simp only [Rw.rs, Rs.so_ok, So.then_nx, h1]; exact h _ w1
      · simp only [Rw.rs, Rs.so_ok, So.then_nx, h1]; exact h _ w1
    | _ => rfl
/-- xs[i] += k -/
def incZ (xs : List Int) (i k : Int) : Option (List Int) := match L2.ixN xs.length i with
  | some j => (xs[j]?).map fun x => xs.set j (x + k)
  | none => none
theorem itemOf_Z (xs : List Int) (i : Int) : itemOf (xs.map .int) (.dat (.int i)) = match L2.ixN xs.length i with
    | some j => (xs[j]?).map fun x => (j, x)
    | none => none := by
  simp only [itemOf, List.length_map]
  cases L2.ixN xs.length i with
  | none => rfl
  | some j =>
    simp only [List.getElem?_map]
    cases xs[j]? <;> rfl
theorem Sq.aug1 {i : Nat} {xs : List Int} {η1 : List Int → Sg} {ra re : Z W Int} {o : List Int → Y W σ ρ} (hg : getS η i = some (vN dI xs)) (ha : Ev M S η a (vD dI) ra) (he : Ev M S η e (vD dI) re) (h1 : ∀ z, η.set i (some (vN dI z)) = η1 z) (h : ∀ z, Sq M S (η1 z) rest Env E (o z)) (hno : ∀ w, ∃ y w', re w = .ok y w') :
    Sq M S η (.cons (.aug1 i a .Add e) rest) Env E (ra.so fun k => re.so fun y => (Z.opt (incZ xs k y)).so o) := fun w => by
  simp only [denSs, denS, isOwn, hg, if_true]
  rw [ha w]
  unfold Z.so
  cases ra w with
  | ex c w => rfl
  | bad => rfl
  | ok k w1 =>
    simp only [Rw.rs, Rs.so_ok, itemAt1, hg, vD, dI, itemOf_Z]
    obtain ⟨y, w2, hy⟩ := hno w1
    unfold incZ
    cases hj : L2.ixN xs.length k with
    | none => simp only [Option.map_none, So.then_bad, hy]; rfl
    | some j =>
      simp only [Option.map_map]
      cases hx : xs[j]? with
      | none => simp only [Option.map_none, So.then_bad, hy]; rfl
      | some x =>
        simp only [Option.map_some, Function.comp]
        rw [he w1, hy]
        simp only [Rw.rs, Rs.so_ok, augI, So.then_nx, Z.opt, Z.ok]
        have q := h1 (xs.set j (x + y))
        simp only [vN, dI, List.map_set] at q
        rw [q]
        exact h _ w2
/-- rows[i][j] += k -/
def incZ2 (xs : List (List Int)) (i j k : Int) : Option (List (List Int)) := match L2.ixN xs.length i with
  | some q => (xs[q]?).bind fun r => (incZ r j k).map fun r' => xs.set q r'
  | none => none
theorem Sq.aug2 {i : Nat} {op : Operator} {xs : List (List Int)} {η1 : List (List Int) → Sg} {p q y : Int} {o : List (List Int) → Y W σ ρ} (hg : getS η i = some (vN2 dI xs)) (hop : op = .Add ∨ op = .Sub) (ha : Ev M S η a (vD dI) (Z.ok p)) (hb : Ev M S η b (vD dI) (Z.ok q)) (he : Ev M S η e (vD dI) (Z.ok y)) (h1 : ∀ z, η.set i (some (vN2 dI z)) = η1 z) (h : ∀ z, Sq M S (η1 z) rest Env E (o z)) :
    Sq M S η (.cons (.aug2 i a b op e) rest) Env E ((Z.opt (incZ2 xs p q (if op = .Sub then -y else y))).so o) := fun w => by
  simp only [denSs, denS, isOwn, hg, if_true]
  rw [ha w]
  simp only [Z.ok, Rw.rs, Rs.so_ok, rowAt, hg, vD, dI, List.length_map]
  unfold incZ2 incZ Z.so
  cases hj : L2.ixN xs.length p with
  | none => rfl
  | some j =>
    simp only [List.getElem?_map]
    cases hx : xs[j]? with
    | none => rfl
    | some r =>
      simp only [Option.map_some, Option.bind_some]
      rw [hb w]
      simp only [Z.ok, Rw.rs, Rs.so_ok, vD, dI, itemOf_Z]
      cases hl : L2.ixN r.length q with
      | none => rfl
      | some l =>
        dsimp only
        cases hz : r[l]? with
        | none => rfl
        | some z =>
          simp only [Option.map_some]
          rw [he w]
          simp only [Z.ok, Rw.rs, Rs.so_ok, vD, dI, Z.opt]
          have q1 := h1 (xs.set j (r.set l (z + if op = .Sub then -y else y)))
          simp only [vN2, dI, List.map_set] at q1
          rcases hop with rfl | rfl
          · simp only [augI, So.then_nx]
            simp only [show ¬ (Operator.Add = Operator.Sub) by decide, if_false] at q1 ⊢
            rw [q1]; exact h _ w
          · simp only [augI, So.then_nx, if_true] at q1 ⊢
            rw [Int.sub_eq_add_neg, q1]; exact h _ w
theorem Sq.app {i : Nat} {xs : List α} {d : α → PyData} {Ee : β → Vl} {f : β → α} {η1 : List α → Sg} {re : Z W β} {o : List α → Y W σ ρ} (hg : getS η i = some (vN d xs)) (hk : ∀ x, keep (Ee x) = some (d (f x))) (he : Ev M S η e Ee re) (h1 : ∀ z, η.set i (some (vN d z)) = η1 z) (h : ∀ z, Sq M S (η1 z) rest Env E (o z)) :
    Sq M S η (.cons (.app i e) rest) Env E (re.so fun y => (Z.fits (xs ++ [f y])).so o) := fun w => by
  simp only [denSs, denS, lstS, hg, if_true]
  rw [he w]
  unfold Z.so
  cases re w with
  | ex c w => rfl
  | bad => rfl
  | ok y w1 =>
    simp only [Rw.rs, Rs.so_ok, hk, appTo, hg, List.length_map, List.length_cons, List.length_nil, Z.fits, Z.if, List.length_append]
    have q := h1 (xs ++ [f y])
    simp only [vN, List.map_append, List.map_cons, List.map_nil] at q
    cases fits (xs.length + (0 + 1)) with
    | false => rfl
    | true => simp only [if_true, So.then_nx]; rw [q]; exact h _ w1
theorem Sq.ext {i : Nat} {xs : List α} {d : α → PyData} {η1 : List α → Sg} {re : Z W (List α)} {o : List α → Y W σ ρ} (hg : getS η i = some (vN d xs)) (he : Ev M S η e (vN d) re) (h1 : ∀ z, η.set i (some (vN d z)) = η1 z) (h : ∀ z, Sq M S (η1 z) rest Env E (o z)) :
    Sq M S η (.cons (.ext i e) rest) Env E (re.so fun y => (Z.fits (xs ++ y)).so o) := fun w => by
  simp only [denSs, denS, lstS, hg, if_true]
  rw [he w]
  unfold Z.so
  cases re w with
  | ex c w => rfl
  | bad => rfl
  | ok y w1 =>
    simp only [Rw.rs, Rs.so_ok, appTo, hg, List.length_map, Z.fits, Z.if, List.length_append]
    have q := h1 (xs ++ y)
    simp only [vN, List.map_append] at q
    cases fits (xs.length + y.length) with
    | false => rfl
    | true => simp only [if_true, So.then_nx]; rw [q]; exact h _ w1
theorem Sq.rem {i : Nat} {xs : List Int} {η1 : List Int → Sg} {re : Z W Int} {o : List Int → Y W σ ρ} (hg : getS η i = some (vN dI xs)) (he : Ev M S η e (vD dI) re) (h1 : ∀ z, η.set i (some (vN dI z)) = η1 z) (h : ∀ z, Sq M S (η1 z) rest Env E (o z)) :
    Sq M S η (.cons (.rem i e) rest) Env E (re.so fun y => (Z.if (decide (y ∈ xs)) (xs.erase y)).so o) := fun w => by
  simp only [denSs, denS, lstS, hg, if_true]
  rw [he w]
  unfold Z.so
  cases re w with
  | ex c w => rfl
  | bad => rfl
  | ok y w1 =>
    simp only [Rw.rs, Rs.so_ok, hg, vD, vN, dI, intsOf_map]
    by_cases hm : y ∈ xs
    · simp only [hm, if_true, So.then_nx, Z.if, decide_true]
      have q := h1 (xs.erase y)
      rw [q]; exact h _ w1
    · simp only [hm, if_false, So.then_bad, Z.if, decide_false, Bool.false_eq_true]; rfl
theorem Sq.ex {Ee : α → Vl} {re : Z W α} {o : Y W σ ρ} (he : Ev M S η e Ee re) (h : Sq M S η rest Env E o) : Sq M S η (.cons (.ex e) rest) Env E (re.so fun _ => o) := fun w => by
  simp only [denSs, denS]
  rw [he w]
  unfold Z.so
  cases re w with
  | ex c w => rfl
  | bad => rfl
  | ok y w1 => exact h w1
theorem Sq.ret {re : Z W ρ} (he : Ev M S η e E re) (hs : ∀ x, storeV (E x) = some (E x)) : Sq M S η (.cons (.ret e) rest) Env E (re.so fun x => Y.rt x) := fun w => by
  simp only [denSs, denS]
  rw [he w]
  unfold Z.so
  cases re w with
  | ex c w => rfl
  | bad => rfl
  | ok y w1 => simp only [Rw.rs, Rs.so_ok, hs]; rfl
theorem Sq.retv {i : Nat} {x : ρ} (hg : getS η i = some (E x)) : Sq M S η (.cons (.retv i) rest) Env E (Y.rt x) := fun w => by
  simp only [denSs, denS, hg]
  rfl
theorem Sq.rais {k : Str} : Sq M S η (.cons (.rais k) rest) Env E (Y.ex k) := fun w => rfl
theorem Sq.allY {ss : CSs} {Env0 : Empty → Sg} {o : Y W Empty ρ} (h : Sq M S η ss Env0 E o) : Sq M S η ss Env E o.all := fun w => by
  rw [h w]
  unfold Y.all
  cases o w with
  | nx s w => exact s.elim
  | rt => rfl
  | ex => rfl
  | bad => rfl
/-- an if whose body does not come back -/
theorem Sq.ifR {A : CSs} {Env0 : Empty → Sg} {rc : Z W Bool} {oa : Y W Empty ρ} {o : Y W σ ρ} (hc : Ev M S η c (vD dB) rc) (hA : Sq M S η A Env0 E oa) (h : Sq M S η rest Env E o) : Sq M S η (.cons (.ifs c A .nil) rest) Env E (rc.so fun k => if k then oa.all else o) := fun w => by
  simp only [denSs, denS]
  rw [hc w]
  unfold Z.so
  cases rc w with
  | ex c w => rfl
  | bad => rfl
  | ok k w1 =>
    cases k with
    | true =>
      simp only [Rw.rs, Rs.so_ok, vD, dB, boolV, Rs.opt_some, if_true]
      have q := (Sq.allY (Env := Env) hA) w1
      rw [← q, hA w1]
      cases oa w1 with
      | nx s w => exact s.elim
      | rt => rfl
      | ex => rfl
      | bad => rfl
    | false =>
      simp only [Rw.rs, Rs.so_ok, vD, dB, boolV, Rs.opt_some, Bool.false_eq_true, if_false, So.then_nx]
      exact h w1
/-- an if that comes back -/
theorem Sq.ifG {A B : CSs} {Env1 : τ → Sg} {rc : Z W Bool} {oa ob : Y W τ ρ} {o : τ → Y W σ ρ} (hc : Ev M S η c (vD dB) rc) (hA : Sq M S η A Env1 E oa) (hB : Sq M S η B Env1 E ob) (h : ∀ s, Sq M S (Env1 s) rest Env E (o s)) : Sq M S η (.cons (.ifs c A B) rest) Env E ((rc.so fun k => if k then oa else ob).then o) := fun w => by
  simp only [denSs, denS]
  refine then_so (Env := Env1) ?_ h
  rw [hc w]
  unfold Z.so
  cases rc w with
  | ex c w => rfl
  | bad => rfl
  | ok k w1 =>
    cases k with
    | true => exact hA w1
    | false => exact hB w1
/-- an if at the end, both of whose sides do not come back -/
theorem Sq.ifE {A B : CSs} {Env0 : Empty → Sg} {rc : Z W Bool} {oa ob : Y W Empty ρ} (hc : Ev M S η c (vD dB) rc) (hA : Sq M S η A Env0 E oa) (hB : Sq M S η B Env0 E ob) : Sq M S η (.cons (.ifs c A B) rest) Env0 E (rc.so fun k => if k then oa else ob) := fun w => by
  simp only [denSs, denS]
  rw [hc w]
  unfold Z.so
  cases rc w with
  | ex c w => rfl
  | bad => rfl
  | ok k w1 =>
    cases k with
    | true =>
      simp only [Rw.rs, Rs.so_ok, vD, dB, boolV, Rs.opt_some, if_true]
      rw [hA w1]
      cases oa w1 with
      | nx s w => exact s.elim
      | rt => rfl
      | ex => rfl
      | bad => rfl
    | false =>
      simp only [Rw.rs, Rs.so_ok, vD, dB, boolV, Rs.opt_some, Bool.false_eq_true, if_false]
      rw [hB w1]
      cases ob w1 with
      | nx s w => exact s.elim
      | rt => rfl
      | ex => rfl
      | bad => rfl
theorem forRun_Y {t : Tg} {body : CSs} {d : α → PyData} {η1 : σ → α → Sg} {f : σ → α → Y W σ ρ} (hb : ∀ s x, bindTg (Env s) (d x) t = some (η1 s x)) (h : ∀ s x, Sq M S (η1 s x) body Env E (f s x)) :
    ∀ (xs : List α) (s : σ) (w : W), forRun (forB t body S) (xs.map d) (Env s) (M w) = (Y.for f xs s w).so M Env E
  | [], s, w => rfl
  | x :: xs, s, w => by
    simp only [List.map_cons, forRun, Y.for]
    refine then_so (Env := Env) ?_ fun s w => forRun_Y hb h xs s w
    unfold forB
    rw [hb]
    exact h s x w
theorem Sq.for {t : Tg} {it : CI} {body : CSs} {d : α → PyData} {Env1 : τ → Sg} {s0 : τ} {η1 : τ → α → Sg} {ri : Z W (List α)} {f : τ → α → Y W τ ρ} {o : τ → Y W σ ρ} (h0 : η = Env1 s0) (hi : EvI M S η true it d ri) (hb : ∀ s x, bindTg (Env1 s) (d x) t = some (η1 s x)) (hf : ∀ s x, Sq M S (η1 s x) body Env1 E (f s x)) (h : ∀ s, Sq M S (Env1 s) rest Env E (o s)) :
    Sq M S η (.cons (.for_ t it body) rest) Env E ((ri.so fun xs => Y.for f xs s0).then o) := fun w => by
  have e : denSs (.cons (.for_ t it body) rest) S η (M w) = ((denI true it S η (M w)).so fun ds m1 => forRun (forB t body S) ds η m1).then fun η1 m1 => denSs rest S η1 m1 := rfl
  rw [e]
  refine then_so (Env := Env1) ?_ h
  refine so_soL (hi w) fun xs w1 => ?_
  subst h0
  exact forRun_Y hb hf xs s0 w1
theorem whlRun_Y {c : CE} {body : CSs} {p : σ → Z W Bool} {f : σ → Y W σ ρ} (hc : ∀ s, Ev M S (Env s) c (vD dB) (p s)) (h : ∀ s, Sq M S (Env s) body Env E (f s)) :
    ∀ (n : Nat) (s : σ) (w : W), whlRun (fun η m => (den c S η m).bind fun x m1 => Rs.opt m1 (boolV x)) (fun η m => denSs body S η m) n (Env s) (M w) = (Y.whl p f n s w).so M Env E
  | 0, s, w => rfl
  | n + 1, s, w => by
    simp only [whlRun, Y.whl]
    rw [hc s w]
    unfold Z.so
    cases p s w with
    | ex c w => rfl
    | bad => rfl
    | ok k w1 =>
      cases k with
      | false => rfl
      | true =>
        simp only [Rw.rs, Rs.bind_ok, vD, dB, boolV, Rs.opt_some, Rs.so_ok, if_true]
        exact then_so (Env := Env) (h s w1) fun s w => whlRun_Y hc h n s w
theorem Sq.whl {body : CSs} {Env1 : τ → Sg} {s0 : τ} {p : τ → Z W Bool} {f : τ → Y W τ ρ} {o : τ → Y W σ ρ} (h0 : η = Env1 s0) (hc : ∀ s, Ev M S (Env1 s) c (vD dB) (p s)) (hf : ∀ s, Sq M S (Env1 s) body Env1 E (f s)) (h : ∀ s, Sq M S (Env1 s) rest Env E (o s)) :
    Sq M S η (.cons (.whl c body) rest) Env E ((Y.whl p f whlMost s0).then o) := fun w => by
  subst h0
  simp only [denSs, denS]
  exact then_so (Env := Env1) (whlRun_Y hc hf whlMost s0 w) h
/-! ### defs -/
theorem fin_P {d : CD} {as : List Vl} {m : Mem} {E : ρ → Vl} {Env0 : Empty → Sg} {o : Y Unit Empty ρ} (hl : as.length = d.np) (h : Sq (fun _ : Unit => m) S (as.map some ++ List.replicate (d.ns - d.np) none) d.body Env0 E o) : runD S d as m = (Z.run o.fin).rs E m := by
  unfold runD
  rw [if_pos hl, h ()]
  unfold Z.run Y.fin
  cases o () with
  | nx s w => exact s.elim
  | rt => rfl
  | ex => rfl
  | bad => rfl
theorem fin_U {d : CD} {as : List Vl} {m : Mem} {Env0 : σ → Sg} {o : Y Unit σ Unit} (hl : as.length = d.np) (h : Sq (fun _ : Unit => m) S (as.map some ++ List.replicate (d.ns - d.np) none) d.body Env0 (vD dU) o) : runD S d as m = (Z.run o.finU).rs (vD dU) m := by
  unfold runD
  rw [if_pos hl, h ()]
  unfold Z.run Y.finU
  cases o () <;> rfl
theorem fin_W {d : CD} {as : List Vl} {E : ρ → Vl} {Env0 : Empty → Sg} {o : Y W Empty ρ} {w : W} (hl : as.length = d.np) (h : Sq M S (as.map some ++ List.replicate (d.ns - d.np) none) d.body Env0 E o) : runD S d as (M w) = (o.fin w).rs M E := by
  unfold runD
  rw [if_pos hl, h w]
  unfold Y.fin
  cases o w with
  | nx s w => exact s.elim
  | rt => rfl
  | ex => rfl
  | bad => rfl
theorem sem_P {k f n : Nat} {d : CD} {as : List Vl} {m : Mem} {r : Rs Vl} (hf : tab f = some d) (hk : n + 1 ≤ k) (h : ∀ k, n ≤ k → runD (sem tab k) d as m = r) : sem tab k f as m = r := by
  obtain ⟨j, rfl⟩ : ∃ j, k = j + 1 := ⟨k - 1, by omega⟩
  rw [sem_eq hf]
  exact h j (by omega)
end
end SS
/- SW5 -/
set_option linter.all false
set_option maxRecDepth 100000
/-! Typed mirrors: any data, the town, the law. -/
namespace SS
open PySem L2
section
variable {W α β γ δ σ ρ : Type} {M : W → Mem} {S : Fo} {η : Sg} {a b c : CE}
def lenD : PyData → Option Int
  | .str z => if fits z.length then some z.length else none
  | .tuple xs => some xs.length
  | .list xs => some xs.length
  | _ => none
theorem lenD_is (x : PyData) (m : Mem) : b1V m .len (vD dD x) = (lenD x).map (vD dI) := by
  cases x with
  | str z =>
    show (if fits z.length then _ else _) = (if fits z.length then some (z.length : Int) else none).map (vD dI)
    cases fits z.length <;> rfl
  | _ => rfl
def itemsD : PyData → Option (List PyData)
  | .tuple xs => some xs
  | .list xs => some xs
  | _ => none
theorem map_dD (xs : List PyData) : xs.map dD = xs := List.map_id xs
theorem listD_is (x : PyData) (m : Mem) : b1V m .list (vD dD x) = (itemsD x).map (vN dD) := by
  cases x with
  | tuple xs => show some (Vl.new xs) = some (Vl.new (xs.map dD)); rw [map_dD]
  | list xs => show some (Vl.new xs) = some (Vl.new (xs.map dD)); rw [map_dD]
  | _ => rfl
def ixD (x : PyData) (i : Int) : Option PyData := match x with
  | .str z => if fits z.length then (L2.atI z.cps.toList i).map fun c => .str ⟨#[c]⟩ else none
  | .tuple xs => L2.atI xs i
  | .list xs => L2.atI xs i
  | _ => none
theorem ixD_is (x : PyData) (i : Int) (m : Mem) : ixV m (vD dD x) (.dat (.int i)) = (ixD x i).map (vD dD) := by
  cases x with
  | str z =>
    show (if fits z.length then _ else _) = (if fits z.length then (L2.atI z.cps.toList i).map fun c => PyData.str ⟨#[c]⟩ else none).map (vD dD)
    cases fits z.length with
    | false => rfl
    | true => simp only [if_true, Option.map_map]; rfl
  | _ => rfl
theorem Ev.chainD {op op' : CmpOp} {ra rc : Z W Int} {rb : Z W PyData} {p q : Int → Int → Bool} (hp : ∀ x y m, cmpV m op (.dat (.int x)) (.dat (.int y)) = some (p x y)) (hq : ∀ x y m, cmpV m op' (.dat (.int x)) (.dat (.int y)) = some (q x y))
    (hno : ∀ m (v : PyData) x, (∀ i, v ≠ .int i) → cmpV m op (.dat (.int x)) (.dat v) = none) (ha : Ev M S η a (vD dI) ra) (hb : Ev M S η b (vD dD) rb) (hc : Ev M S η c (vD dI) rc) :
    Ev M S η (.chain op op' a b c) (vD dB) (ra.bind fun x => rb.bind fun v => (Z.opt (asI v)).bind fun y => if p x y then rc.bind fun z => Z.ok (q y z) else Z.ok false) := fun w => bind_rs (ha w) fun x w1 => bind_rs (hb w1) fun v w2 => by
  have no : (∀ i, v ≠ .int i) → (asI v = none ∧ cmpV (M w2) op (.dat (.int x)) (.dat v) = none) := fun h => ⟨by cases v <;> first | rfl | exact absurd rfl (h _), hno _ _ _ h⟩
  cases v with
  | int y =>
    show ((Rs.opt (M w2) (cmpV (M w2) op (.dat (.int x)) (.dat (.int y)))).bind _) = _
    rw [hp]
    show (if p x y then _ else _) = ((if p x y then _ else _ : Z W Bool) w2).rs M (vD dB)
    cases p x y with
    | false => rfl
    | true =>
      simp only [if_true]
      exact bind_rs (hc w2) fun z w3 => by rw [hq]; rfl
  | _ =>
    have h := (no (by intro i; simp)).2
    rw [h]
    rfl
theorem Ev.encT {d : α → PyData} {d' : β → PyData} {f : α → β} {ra : Z W (List α)} (hd : ∀ z, d z = d' (f z)) (ha : Ev M S η a (vD (dT d)) ra) : Ev M S η a (vD (dT d')) (ra.bind fun x => Z.ok (x.map f)) :=
  Ev.enc ha fun x => by
    show Vl.dat (.tuple (x.map d)) = Vl.dat (.tuple ((x.map f).map d'))
    rw [List.map_map, show d = d' ∘ f from funext hd]
theorem Ev.encN {d : α → PyData} {d' : β → PyData} {f : α → β} {ra : Z W (List α)} (hd : ∀ z, d z = d' (f z)) (ha : Ev M S η a (vN d) ra) : Ev M S η a (vN d') (ra.bind fun x => Z.ok (x.map f)) :=
  Ev.enc ha fun x => by
    show Vl.new (x.map d) = Vl.new ((x.map f).map d')
    rw [List.map_map, show d = d' ∘ f from funext hd]
/-! ### data without lists -/
def NL (d : α → PyData) : Prop := ∀ x, noLst (d x) = true
theorem NL.I : NL dI := fun _ => rfl
theorem NL.B : NL dB := fun _ => rfl
theorem NL.U : NL dU := fun _ => rfl
theorem NL.str : NL dS := fun _ => rfl
theorem NL.N {d : α → PyData} (h : NL d) : ∀ xs : List α, noLsts (xs.map d) = true
  | [] => rfl
  | x :: xs => by rw [List.map_cons]; simp only [noLsts, h x, NL.N h xs, Bool.and_self]
theorem NL.T {d : α → PyData} (h : NL d) : NL (dT d) := fun xs => by simp only [dT, noLst]; exact NL.N h xs
theorem NL.P {d : α → PyData} {d' : β → PyData} (h : NL d) (h' : NL d') : NL (dP d d') := fun x => by simp only [dP, noLst, noLsts, h x.1, h' x.2, Bool.and_self]
theorem NL.P3 {d : α → PyData} {d' : β → PyData} {d'' : γ → PyData} (h : NL d) (h' : NL d') (h'' : NL d'') : NL (dP3 d d' d'') := fun x => by simp only [dP3, noLst, noLsts, h x.1, h' x.2.1, h'' x.2.2, Bool.and_self]
theorem arg_b2 {d : α → PyData} {z : List (List α)} : argsOf [vB2 d z] = some ([vD (dL (dL d)) z], true) := by
  show some ([Vl.dat (.list ((z.map (·.map d)).map .list))], true) = _
  rw [List.map_map]
  rfl
theorem call_WB {f : Nat} {vs as : List Vl} {E : γ → Vl} {r : Z W γ} {w : W} (ha : argsOf vs = some (as, true)) (hn : ∀ x, noLstV (E x) = true) (h : S f as (M w) = (r w).rs M E) : callV S f vs (M w) = (r w).rs M E := by
  unfold callV
  rw [ha]
  simp only [h]
  cases r w with
  | ok x => simp [Rw.rs, hn]
  | ex => rfl
  | bad => rfl
theorem Ev.call1T {f : Nat} {Ea : α → Vl} {E : γ → Vl} {x : α} {g : Z W γ} (hf : ∀ w, callV S f [Ea x] (M w) = (g w).rs M E) (ha : Ev M S η a Ea (Z.ok x)) : Ev M S η (.call f (.cons a .nil)) E g := fun w => by
  have e : den (.call f (.cons a .nil)) S η (M w) = (den a S η (M w)).bind fun x m1 => callV S f [x] m1 := by
    simp only [den, dens]
    cases den a S η (M w) <;> rfl
  rw [e, ha w]
  exact hf w
theorem Ev.call2T {f : Nat} {Ea : α → Vl} {Eb : β → Vl} {E : γ → Vl} {x : α} {y : β} {g : Z W γ} (hf : ∀ w, callV S f [Ea x, Eb y] (M w) = (g w).rs M E) (ha : Ev M S η a Ea (Z.ok x)) (hb : Ev M S η b Eb (Z.ok y)) : Ev M S η (.call f (.cons a (.cons b .nil))) E g := fun w => by
  simp only [den]
  rw [dens2, ha w]
  simp only [Z.ok, Rw.rs, Rs.bind_ok]
  rw [hb w]
  exact hf w
theorem Ev.call3T {f : Nat} {Ea : α → Vl} {Eb : β → Vl} {Ec : δ → Vl} {E : γ → Vl} {x : α} {y : β} {z : δ} {g : Z W γ} (hf : ∀ w, callV S f [Ea x, Eb y, Ec z] (M w) = (g w).rs M E) (ha : Ev M S η a Ea (Z.ok x)) (hb : Ev M S η b Eb (Z.ok y)) (hc : Ev M S η c Ec (Z.ok z)) : Ev M S η (.call f (.cons a (.cons b (.cons c .nil)))) E g := fun w => by
  simp only [den]
  rw [dens3, ha w]
  simp only [Z.ok, Rw.rs, Rs.bind_ok]
  rw [hb w]
  simp only [Z.ok, Rw.rs, Rs.bind_ok]
  rw [hc w]
  exact hf w
theorem Ev.call4T {ε : Type} {a' : CE} {f : Nat} {Ea : α → Vl} {Eb : β → Vl} {Ec : δ → Vl} {Ed : ε → Vl} {E : γ → Vl} {x : α} {y : β} {z : δ} {u : ε} {g : Z W γ} (hf : ∀ w, callV S f [Ea x, Eb y, Ec z, Ed u] (M w) = (g w).rs M E) (ha : Ev M S η a Ea (Z.ok x)) (hb : Ev M S η b Eb (Z.ok y)) (hc : Ev M S η c Ec (Z.ok z)) (hd : Ev M S η a' Ed (Z.ok u)) : Ev M S η (.call f (.cons a (.cons b (.cons c (.cons a' .nil))))) E g := fun w => by
  simp only [den]
  rw [dens4, ha w]
  simp only [Z.ok, Rw.rs, Rs.bind_ok]
  rw [hb w]
  simp only [Z.ok, Rw.rs, Rs.bind_ok]
  rw [hc w]
  simp only [Z.ok, Rw.rs, Rs.bind_ok]
  rw [hd w]
  exact hf w
theorem Ev.call5T {ε θ : Type} {a' b' : CE} {f : Nat} {Ea : α → Vl} {Eb : β → Vl} {Ec : δ → Vl} {Ed : ε → Vl} {Ee : θ → Vl} {E : γ → Vl} {x : α} {y : β} {z : δ} {u : ε} {t : θ} {g : Z W γ} (hf : ∀ w, callV S f [Ea x, Eb y, Ec z, Ed u, Ee t] (M w) = (g w).rs M E) (ha : Ev M S η a Ea (Z.ok x)) (hb : Ev M S η b Eb (Z.ok y)) (hc : Ev M S η c Ec (Z.ok z)) (hd : Ev M S η a' Ed (Z.ok u)) (he : Ev M S η b' Ee (Z.ok t)) : Ev M S η (.call f (.cons a (.cons b (.cons c (.cons a' (.cons b' .nil)))))) E g := fun w => by
  simp only [den]
  rw [dens5, ha w]
  simp only [Z.ok, Rw.rs, Rs.bind_ok]
  rw [hb w]
  simp only [Z.ok, Rw.rs, Rs.bind_ok]
  rw [hc w]
  simp only [Z.ok, Rw.rs, Rs.bind_ok]
  rw [hd w]
  simp only [Z.ok, Rw.rs, Rs.bind_ok]
  rw [he w]
  exact hf w
/-! ### the town -/
def twn (ms : Mem) (t : Nat) : Mem := .lst (List.replicate t (.int 0)) :: ms
theorem law_W {d : CD} {v : Vl} {E : ρ → Vl} {Env0 : Empty → Sg} {o : Y Nat Empty ρ} {ns : Nat} {rest : CSs} (hl : 1 = d.np) (hb : d.body = .cons (.asg 1 (.lst .nil)) (.cons (.cel 1) rest)) (hn : d.ns - d.np = ns + 1) (h : Sq (twn []) S (some v :: some (.ref 0) :: List.replicate ns none) rest Env0 E o) : runD S d [v] [] = (o.fin 0).rs (twn []) E := by
  have e : runD S d [v] [] = SS.fin (denSs rest S (some v :: some (.ref 0) :: List.replicate ns none) (twn [] 0)) := by
    unfold runD
    rw [if_pos (show [v].length = d.np from hl), hb, hn]
    rfl
  rw [e, h 0]
  unfold Y.fin
  cases o 0 with
  | nx s w => exact s.elim
  | rt => rfl
  | ex => rfl
  | bad => rfl
end
end SS
/- SM0 -/
section
set_option linter.all false
set_option maxRecDepth 100000
set_option maxHeartbeats 0
/-! Mirrors, printed by mir.py. -/
namespace SS
open PySem L2
@[irreducible] def m__law_cell_at (a_script : (List Int)) (a_k : Int) : Rz Int := Z.run (Y.fin (
  Z.so (Z.ok (decide (a_k < ((a_script.length : Nat) : Int)))) fun k => if k then Y.all (Z.so (Z.opt (L2.atI a_script a_k)) fun x => Y.rt x) else
  Z.so (Z.ok (decide (a_script = ([] : List Int)))) fun k => if k then Y.all (Z.so (Z.ok ((0 : Int))) fun x => Y.rt x) else
  Z.so ((Z.if (decide (0 < ((a_script.length : Nat) : Int))) (a_k % ((a_script.length : Nat) : Int))).bind fun x1 => Z.opt (L2.atI a_script x1)) fun spare2 =>
  Y.then (Z.so (((Z.if (decide (0 < ((a_script.length : Nat) : Int)) && decide (((a_script.length : Nat) : Int) < 1073741824)) (a_k / ((a_script.length : Nat) : Int))).bind fun x3 => Z.ok (if (60 : Int) < x3 then (60 : Int) else x3)).bind fun x4 => Z.if (rangeOk 0 x4) (rangeZ 0 x4)) fun xs => Y.for (fun (s5 : (Int)) (e6 : Int) =>
    Z.so (Z.ok (s5 / (1000003 : Int))) fun spare7 =>
    Y.nx (spare7)) xs (spare2)) fun s8 =>
  Z.so (((((Z.if (decide (0 < ((a_script.length : Nat) : Int))) (a_k % ((a_script.length : Nat) : Int))).bind fun x9 => Z.opt (L2.atI a_script x9)).bind fun x10 => Z.ok (x10 * (31 : Int))).bind fun x11 => Z.ok (x11 + a_k)).bind fun x12 => Z.ok (x12 + (s8 * (101 : Int)))) fun x => Y.rt x))
theorem _law_cell_at_is {k : Nat} (hk : 1 ≤ k) (a_script : (List Int)) (a_k : Int) (m : Mem) : sem tab k f__law_cell_at [vS a_script, (vD dI) a_k] m = (m__law_cell_at a_script a_k).rs (vD dI) m := by
  unfold m__law_cell_at
  exact sem_P (n := 0) (d := c__law_cell_at) rfl hk fun k hk => fin_P (S := sem tab k) (m := m) (Env0 := Empty.elim) (by rfl) <|
  Sq.ifR (Env0 := Empty.elim) (rc := Z.ok (decide (a_k < ((a_script.length : Nat) : Int)))) (Ev.lt (Ev.var (E := (vD dI)) (x := a_k) rfl rfl) (Ev.b1T (g := fun x => ((List.length x : Nat) : Int)) (fun _ _ => rfl) (Ev.var (E := vS) (x := a_script) rfl rfl))) (Sq.ret (re := Z.opt (L2.atI a_script a_k)) (Ev.ixS (Ev.var (E := vS) (x := a_script) rfl rfl) (Ev.var (E := (vD dI)) (x := a_k) rfl rfl)) (fun _ => rfl)) <|
  Sq.ifR (Env0 := Empty.elim) (rc := Z.ok (decide (a_script = ([] : List Int)))) (Ev.eq (Good.L Good.I) (by decide) (fun _ _ _ => rfl) (Ev.var (E := vS) (x := a_script) rfl rfl) (Ev.lst (EvL.nil (d := dI)))) (Sq.ret (re := Z.ok ((0 : Int))) (Ev.int 0) (fun _ => rfl)) <|
  Sq.asg (re := (Z.if (decide (0 < ((a_script.length : Nat) : Int))) (a_k % ((a_script.length : Nat) : Int))).bind fun x1 => Z.opt (L2.atI a_script x1)) (η1 := fun (spare2 : Int) => [some (vS a_script), some ((vD dI) a_k), some ((vD dI) spare2), none]) (Ev.ixS (Ev.var (E := vS) (x := a_script) rfl rfl) (Ev.mod (Ev.var (E := (vD dI)) (x := a_k) rfl rfl) (Ev.b1T (g := fun x => ((List.length x : Nat) : Int)) (fun _ _ => rfl) (Ev.var (E := vS) (x := a_script) rfl rfl)))) (fun _ => rfl) (fun _ => rfl) fun spare2 =>
  Sq.for (ri := ((Z.if (decide (0 < ((a_script.length : Nat) : Int)) && decide (((a_script.length : Nat) : Int) < 1073741824)) (a_k / ((a_script.length : Nat) : Int))).bind fun x3 => Z.ok (if (60 : Int) < x3 then (60 : Int) else x3)).bind fun x4 => Z.if (rangeOk 0 x4) (rangeZ 0 x4)) (s0 := (spare2)) (Env1 := fun (s5 : (Int)) => [some (vS a_script), some ((vD dI) a_k), some ((vD dI) s5), none]) (η1 := fun (s5 : (Int)) (e6 : Int) => [some (vS a_script), some ((vD dI) a_k), some ((vD dI) s5), some ((vD dI) e6)]) rfl (EvI.rng1 (Ev.mn (Ev.fdiv (Ev.var (E := (vD dI)) (x := a_k) rfl rfl) (Ev.b1T (g := fun x => ((List.length x : Nat) : Int)) (fun _ _ => rfl) (Ev.var (E := vS) (x := a_script) rfl rfl))) (Ev.int 60))) (fun _ _ => rfl) (fun (s5 : (Int)) (e6 : Int) =>
    Sq.asg (re := Z.ok (s5 / (1000003 : Int))) (η1 := fun (spare7 : Int) => [some (vS a_script), some ((vD dI) a_k), some ((vD dI) spare7), some ((vD dI) e6)]) (Ev.fdiv (Ev.var (E := (vD dI)) (x := s5) rfl rfl) (Ev.int 1000003)) (fun _ => rfl) (fun _ => rfl) fun spare7 =>
    Sq.env (η' := [some (vS a_script), some ((vD dI) a_k), some ((vD dI) spare7), none]) (fun _ => rfl) <|
    Sq.nil rfl) fun (s8 : (Int)) =>
  Sq.ret (re := ((((Z.if (decide (0 < ((a_script.length : Nat) : Int))) (a_k % ((a_script.length : Nat) : Int))).bind fun x9 => Z.opt (L2.atI a_script x9)).bind fun x10 => Z.ok (x10 * (31 : Int))).bind fun x11 => Z.ok (x11 + a_k)).bind fun x12 => Z.ok (x12 + (s8 * (101 : Int)))) (Ev.add (Ev.add (Ev.mulR (rb := Z.ok 0) rfl (Ev.ixS (Ev.var (E := vS) (x := a_script) rfl rfl) (Ev.mod (Ev.var (E := (vD dI)) (x := a_k) rfl rfl) (Ev.b1T (g := fun x => ((List.length x : Nat) : Int)) (fun _ _ => rfl) (Ev.var (E := vS) (x := a_script) rfl rfl)))) (Ev.int 31)) (Ev.var (E := (vD dI)) (x := a_k) rfl rfl)) (Ev.mulR (rb := Z.ok 0) rfl (Ev.var (E := (vD dI)) (x := s8) rfl rfl) (Ev.int 101))) (fun _ => rfl)
@[irreducible] def m__law_mixed (a_script : (List Int)) (a_k : Int) (a_many : Int) : Rz Int := Z.run (Y.fin (
  Z.so (((((Z.lift (m__law_cell_at a_script a_k)).bind fun x1 => Z.ok (x1 * (1103515245 : Int))).bind fun x2 => Z.ok (x2 + ((7919 : Int) * a_k))).bind fun x3 => Z.ok (x3 + (12345 : Int))).bind fun x4 => Z.ok (x4 % (2147483647 : Int))) fun spun5 =>
  Z.so ((((Z.if (decide (0 ≤ (5 : Int)) && decide ((5 : Int) ≤ 1000000) && decide ((spun5).natAbs < 2 ^ 64)) (spun5 ^ ((5 : Int)).toNat)).bind fun x6 => Z.ok (x6 % (2147483647 : Int))).bind fun x7 => Z.ok (x7 % (999983 : Int))).bind fun x8 => Z.if (decide (0 < a_many)) (x8 % a_many)) fun x => Y.rt x))
theorem _law_mixed_is {k : Nat} (hk : 2 ≤ k) (a_script : (List Int)) (a_k : Int) (a_many : Int) (m : Mem) : sem tab k f__law_mixed [vS a_script, (vD dI) a_k, (vD dI) a_many] m = (m__law_mixed a_script a_k a_many).rs (vD dI) m := by
  unfold m__law_mixed
  exact sem_P (n := 1) (d := c__law_mixed) rfl hk fun k hk => fin_P (S := sem tab k) (m := m) (Env0 := Empty.elim) (by rfl) <|
  Sq.asg (re := ((((Z.lift (m__law_cell_at a_script a_k)).bind fun x1 => Z.ok (x1 * (1103515245 : Int))).bind fun x2 => Z.ok (x2 + ((7919 : Int) * a_k))).bind fun x3 => Z.ok (x3 + (12345 : Int))).bind fun x4 => Z.ok (x4 % (2147483647 : Int))) (η1 := fun (spun5 : Int) => [some (vS a_script), some ((vD dI) a_k), some ((vD dI) a_many), some ((vD dI) spun5)]) (Ev.mod (Ev.add (Ev.add (Ev.mulR (rb := Z.ok 0) rfl (Ev.call2T (E := (vD dI)) (g := Z.lift (m__law_cell_at a_script a_k)) (fun w => call_P (M := fun _ => m) (w := w) rfl (_law_cell_at_is (by omega) a_script a_k _)) (Ev.var (E := vS) (x := a_script) rfl rfl) (Ev.var (E := (vD dI)) (x := a_k) rfl rfl)) (Ev.int 1103515245)) (Ev.mulL (ra := Z.ok 0) rfl (Ev.int 7919) (Ev.var (E := (vD dI)) (x := a_k) rfl rfl))) (Ev.int 12345)) (Ev.int 2147483647)) (fun _ => rfl) (fun _ => rfl) fun spun5 =>
  Sq.ret (re := (((Z.if (decide (0 ≤ (5 : Int)) && decide ((5 : Int) ≤ 1000000) && decide ((spun5).natAbs < 2 ^ 64)) (spun5 ^ ((5 : Int)).toNat)).bind fun x6 => Z.ok (x6 % (2147483647 : Int))).bind fun x7 => Z.ok (x7 % (999983 : Int))).bind fun x8 => Z.if (decide (0 < a_many)) (x8 % a_many)) (Ev.mod (Ev.mod (Ev.mod (Ev.pow (Ev.var (E := (vD dI)) (x := spun5) rfl rfl) (Ev.int 5)) (Ev.int 2147483647)) (Ev.int 999983)) (Ev.var (E := (vD dI)) (x := a_many) rfl rfl)) (fun _ => rfl)
@[irreducible] def m__law_draw (a_script : List Int) (a_town : Unit) (a_many : Int) : Z Nat Int := fun t => if SS.fits (t + 1) then (Z.lift (m__law_mixed a_script ((t + 1 : Nat) : Int) a_many) : Z Nat Int) (t + 1) else .bad
theorem _law_draw_is {k : Nat} (hk : 3 ≤ k) (a_script : List Int) (a_town : Unit) (a_many : Int) (t : Nat) {ms : Mem} : sem tab k f__law_draw [vS a_script, (vR 0) a_town, (vD dI) a_many] (twn ms t) = (m__law_draw a_script a_town a_many t).rs (twn ms) (vD dI) :=
  sem_P (n := 2) (d := c__law_draw) rfl hk fun k hk => by
    have h := _law_mixed_is (k := k) hk a_script ((t + 1 : Nat) : Int) a_many (twn ms (t + 1))
    have e : runD (sem tab k) c__law_draw [vS a_script, (vR 0) a_town, (vD dI) a_many] (twn ms t) = SS.fin ((match (if SS.fits ((List.replicate t (PyData.int 0)).length + 1) && noLsts [PyData.int 0] then some (([some (.scr a_script), some (.ref 0), some (.dat (.int a_many))] : Sg), (Cell.lst (List.replicate t (PyData.int 0) ++ [PyData.int 0]) :: ms)) else none) with
      | some (η1, m2) => So.nx η1 m2
      | none => .bad).then fun η m => denSs (.cons s__law_draw_2 .nil) (sem tab k) η m) := rfl
    rw [e]
    unfold m__law_draw
    rw [List.length_replicate]
    cases SS.fits (t + 1) with
    | false => rfl
    | true =>
      simp only [Bool.true_and, noLsts, noLst, Bool.and_true, if_true, So.then_nx]
      have e2 : (Cell.lst (List.replicate t (PyData.int 0) ++ [PyData.int 0]) :: ms) = twn ms (t + 1) := by
        unfold twn
        rw [← List.replicate_succ']
      rw [e2]
      have e3 : denSs (.cons s__law_draw_2 .nil) (sem tab k) [some (.scr a_script), some (.ref 0), some (.dat (.int a_many))] (twn ms (t + 1)) = ((callV (sem tab k) f__law_mixed [vS a_script, (vD dI) (((List.replicate (t + 1) (PyData.int 0)).length : Nat) : Int), (vD dI) a_many] (twn ms (t + 1))).so fun x m1 => match storeV x with
        | some v => .rt v m1
        | none => .bad).then fun η m => .nx η m := rfl
      rw [e3, List.length_replicate, call_P (M := twn ms) (w := t + 1) rfl h]
      cases m__law_mixed a_script ((t + 1 : Nat) : Int) a_many <;> rfl
@[irreducible] def m_is_integer (a_value : Int) (a_low : Int) (a_high : Int) : Rz Bool := Z.run (Y.fin (
  Z.so (Z.ok (true && ((!false) && (decide (a_low ≤ a_value) && decide (a_value ≤ a_high))))) fun x => Y.rt x))
theorem is_integer_is {k : Nat} (hk : 1 ≤ k) (a_value : Int) (a_low : Int) (a_high : Int) (m : Mem) : sem tab k f_is_integer [(vD dI) a_value, (vD dI) a_low, (vD dI) a_high] m = (m_is_integer a_value a_low a_high).rs (vD dB) m := by
  unfold m_is_integer
  exact sem_P (n := 0) (d := c_is_integer) rfl hk fun k hk => fin_P (S := sem tab k) (m := m) (Env0 := Empty.elim) (by rfl) <|
  Sq.ret (re := Z.ok (true && ((!false) && (decide (a_low ≤ a_value) && decide (a_value ≤ a_high))))) (Ev.andT (Ev.isiT (v := true) (fun _ _ => rfl) (Ev.var (E := (vD dI)) (x := a_value) rfl rfl)) (Ev.andT (Ev.nt (Ev.isiT (v := false) (fun _ _ => rfl) (Ev.var (E := (vD dI)) (x := a_value) rfl rfl))) (Ev.one (Ev.chainT (p := fun x y => decide (x ≤ y)) (q := fun x y => decide (x ≤ y)) (fun _ _ _ => rfl) (fun _ _ _ => rfl) (Ev.var (E := (vD dI)) (x := a_low) rfl rfl) (Ev.var (E := (vD dI)) (x := a_value) rfl rfl) (Ev.var (E := (vD dI)) (x := a_high) rfl rfl))))) (fun _ => rfl)
@[irreducible] def m_is_square (a_value : (List (List Int))) (a_least : Int) (a_most : Int) (a_low : Int) (a_high : Int) : Rz Bool := Z.run (Y.fin (
  Z.so (Z.ok ((!true) || (!(decide (a_least ≤ ((a_value.length : Nat) : Int)) && decide (((a_value.length : Nat) : Int) ≤ a_most))))) fun k => if k then Y.all (Z.so (Z.ok (false)) fun x => Y.rt x) else
  Y.then (Z.so (Z.ok (a_value)) fun xs => Y.for (fun (s1 : Unit) (e2 : (List Int)) =>
    Z.so (Z.ok ((!true) || (!decide (((e2.length : Nat) : Int) = ((a_value.length : Nat) : Int))))) fun k => if k then Y.all (Z.so (Z.ok (false)) fun x => Y.rt x) else
    Z.so (((Z.lc (fun (e3 : Int) => Z.lift (m_is_integer e3 a_low a_high)) e2).bind fun x4 => Z.ok ((x4).all id)).bind fun x5 => Z.ok (!x5)) fun k => if k then Y.all (Z.so (Z.ok (false)) fun x => Y.rt x) else
    Y.nx ()) xs ()) fun s6 =>
  Z.so (Z.ok (true)) fun x => Y.rt x))
theorem is_square_is {k : Nat} (hk : 2 ≤ k) (a_value : (List (List Int))) (a_least : Int) (a_most : Int) (a_low : Int) (a_high : Int) (m : Mem) : sem tab k f_is_square [(vD (dT (dT dI))) a_value, (vD dI) a_least, (vD dI) a_most, (vD dI) a_low, (vD dI) a_high] m = (m_is_square a_value a_least a_most a_low a_high).rs (vD dB) m := by
  unfold m_is_square
  exact sem_P (n := 1) (d := c_is_square) rfl hk fun k hk => fin_P (S := sem tab k) (m := m) (Env0 := Empty.elim) (by rfl) <|
  Sq.ifR (Env0 := Empty.elim) (rc := Z.ok ((!true) || (!(decide (a_least ≤ ((a_value.length : Nat) : Int)) && decide (((a_value.length : Nat) : Int) ≤ a_most))))) (Ev.orT (Ev.nt (Ev.isiT (v := true) (fun _ _ => rfl) (Ev.var (E := (vD (dT (dT dI)))) (x := a_value) rfl rfl))) (Ev.one (Ev.nt (Ev.chainT (p := fun x y => decide (x ≤ y)) (q := fun x y => decide (x ≤ y)) (fun _ _ _ => rfl) (fun _ _ _ => rfl) (Ev.var (E := (vD dI)) (x := a_least) rfl rfl) (Ev.len (d := (dT dI)) (fun _ _ => rfl) (Ev.var (E := (vD (dT (dT dI)))) (x := a_value) rfl rfl)) (Ev.var (E := (vD dI)) (x := a_most) rfl rfl))))) (Sq.ret (re := Z.ok (false)) (Ev.bl false) (fun _ => rfl)) <|
  Sq.for (ri := Z.ok (a_value)) (s0 := ()) (Env1 := fun (s1 : Unit) => [some ((vD (dT (dT dI))) a_value), some ((vD dI) a_least), some ((vD dI) a_most), some ((vD dI) a_low), some ((vD dI) a_high), none, none]) (η1 := fun (s1 : Unit) (e2 : (List Int)) => [some ((vD (dT (dT dI))) a_value), some ((vD dI) a_least), some ((vD dI) a_most), some ((vD dI) a_low), some ((vD dI) a_high), some ((vD (dT dI)) e2), none]) rfl (EvI.seq (d := (dT dI)) (fun _ => rfl) (fun _ => rfl) (Ev.var (E := (vD (dT (dT dI)))) (x := a_value) rfl rfl)) (fun _ _ => rfl) (fun (s1 : Unit) (e2 : (List Int)) =>
    Sq.ifR (Env0 := Empty.elim) (rc := Z.ok ((!true) || (!decide (((e2.length : Nat) : Int) = ((a_value.length : Nat) : Int))))) (Ev.orT (Ev.nt (Ev.isiT (v := true) (fun _ _ => rfl) (Ev.var (E := (vD (dT dI))) (x := e2) rfl rfl))) (Ev.one (Ev.ne Good.I (by decide) (fun _ _ _ => rfl) (Ev.len (d := dI) (fun _ _ => rfl) (Ev.var (E := (vD (dT dI))) (x := e2) rfl rfl)) (Ev.len (d := (dT dI)) (fun _ _ => rfl) (Ev.var (E := (vD (dT (dT dI)))) (x := a_value) rfl rfl))))) (Sq.ret (re := Z.ok (false)) (Ev.bl false) (fun _ => rfl)) <|
    Sq.ifR (Env0 := Empty.elim) (rc := ((Z.lc (fun (e3 : Int) => Z.lift (m_is_integer e3 a_low a_high)) e2).bind fun x4 => Z.ok ((x4).all id)).bind fun x5 => Z.ok (!x5)) (Ev.nt (Ev.all (fun _ _ => rfl) (Ev.lc (d' := dB) (g := fun (e3 : Int) => Z.lift (m_is_integer e3 a_low a_high)) (η1 := fun (e3 : Int) => [some ((vD (dT (dT dI))) a_value), some ((vD dI) a_least), some ((vD dI) a_most), some ((vD dI) a_low), some ((vD dI) a_high), some ((vD (dT dI)) e2), some ((vD dI) e3)]) (EvI.seq (d := dI) (fun _ => rfl) (fun _ => rfl) (Ev.var (E := (vD (dT dI))) (x := e2) rfl rfl)) (fun _ => rfl) (fun _ => rfl) fun (e3 : Int) => (Ev.call3T (E := (vD dB)) (g := Z.lift (m_is_integer e3 a_low a_high)) (fun w => call_P (M := fun _ => m) (w := w) rfl (is_integer_is (by omega) e3 a_low a_high _)) (Ev.var (E := (vD dI)) (x := e3) rfl rfl) (Ev.var (E := (vD dI)) (x := a_low) rfl rfl) (Ev.var (E := (vD dI)) (x := a_high) rfl rfl))))) (Sq.ret (re := Z.ok (false)) (Ev.bl false) (fun _ => rfl)) <|
    Sq.env (η' := [some ((vD (dT (dT dI))) a_value), some ((vD dI) a_least), some ((vD dI) a_most), some ((vD dI) a_low), some ((vD dI) a_high), none, none]) (fun _ => rfl) <|
    Sq.nil rfl) fun (s6 : Unit) =>
  Sq.ret (re := Z.ok (true)) (Ev.bl true) (fun _ => rfl)
@[irreducible] def m_columns_of (a_rows : (List (List Int))) : Rz (List (List Int)) := Z.run (Y.fin (
  Z.so ((((Z.opt (L2.atI a_rows (0 : Int))).bind fun x1 => Z.ok (((x1.length : Nat) : Int))).bind fun x2 => Z.if (rangeOk 0 x2) (rangeZ 0 x2)).bind fun x5 => Z.lc (fun (e3 : Int) => Z.lc (fun (e4 : (List Int)) => Z.opt (L2.atI e4 e3)) a_rows) x5) fun x => Y.rt x))
theorem columns_of_is {k : Nat} (hk : 1 ≤ k) (a_rows : (List (List Int))) (m : Mem) : sem tab k f_columns_of [(vD (dT (dT dI))) a_rows] m = (m_columns_of a_rows).rs (vN (dT dI)) m := by
  unfold m_columns_of
  exact sem_P (n := 0) (d := c_columns_of) rfl hk fun k hk => fin_P (S := sem tab k) (m := m) (Env0 := Empty.elim) (by rfl) <|
  Sq.ret (re := (((Z.opt (L2.atI a_rows (0 : Int))).bind fun x1 => Z.ok (((x1.length : Nat) : Int))).bind fun x2 => Z.if (rangeOk 0 x2) (rangeZ 0 x2)).bind fun x5 => Z.lc (fun (e3 : Int) => Z.lc (fun (e4 : (List Int)) => Z.opt (L2.atI e4 e3)) a_rows) x5) (Ev.lc (d' := (dT dI)) (g := fun (e3 : Int) => Z.lc (fun (e4 : (List Int)) => Z.opt (L2.atI e4 e3)) a_rows) (η1 := fun (e3 : Int) => [some ((vD (dT (dT dI))) a_rows), some ((vD dI) e3), none]) (EvI.rng1 (Ev.len (d := dI) (fun _ _ => rfl) (Ev.ix (d := (dT dI)) (fun _ _ _ => rfl) (Ev.var (E := (vD (dT (dT dI)))) (x := a_rows) rfl rfl) (Ev.int 0)))) (fun _ => rfl) (fun _ => rfl) fun (e3 : Int) => (Ev.tuple (d := dI) (fun _ _ => rfl) (Ev.lc (d' := dI) (g := fun (e4 : (List Int)) => Z.opt (L2.atI e4 e3)) (η1 := fun (e4 : (List Int)) => [some ((vD (dT (dT dI))) a_rows), some ((vD dI) e3), some ((vD (dT dI)) e4)]) (EvI.seq (d := (dT dI)) (fun _ => rfl) (fun _ => rfl) (Ev.var (E := (vD (dT (dT dI)))) (x := a_rows) rfl rfl)) (fun _ => rfl) (fun _ => rfl) fun (e4 : (List Int)) => (Ev.ix (d := dI) (fun _ _ _ => rfl) (Ev.var (E := (vD (dT dI))) (x := e4) rfl rfl) (Ev.var (E := (vD dI)) (x := e3) rfl rfl))))) (fun _ => rfl)
@[irreducible] def m_alternates (a_line : (List Int)) : Rz Bool := Z.run (Y.fin (
  Z.so (Z.ok ((0 : Int))) fun total1 =>
  Y.then (Z.so (Z.ok (a_line)) fun xs => Y.for (fun (s2 : (Int)) (e3 : Int) =>
    Z.so (Z.ok (e3)) fun y4 =>
    Z.so (Z.ok (!decide ((s2 + y4) ∈ ([(0 : Int), (1 : Int)] : List Int)))) fun k => if k then Y.all (Z.so (Z.ok (false)) fun x => Y.rt x) else
    Y.nx ((s2 + y4))) xs (total1)) fun s6 =>
  Z.so (Z.ok (decide (s6 = (1 : Int)))) fun x => Y.rt x))
theorem alternates_is {k : Nat} (hk : 1 ≤ k) (a_line : (List Int)) (m : Mem) : sem tab k f_alternates [(vD (dT dI)) a_line] m = (m_alternates a_line).rs (vD dB) m := by
  unfold m_alternates
  exact sem_P (n := 0) (d := c_alternates) rfl hk fun k hk => fin_P (S := sem tab k) (m := m) (Env0 := Empty.elim) (by rfl) <|
  Sq.asg (re := Z.ok ((0 : Int))) (η1 := fun (total1 : Int) => [some ((vD (dT dI)) a_line), some ((vD dI) total1), none]) (Ev.int 0) (fun _ => rfl) (fun _ => rfl) fun total1 =>
  Sq.for (ri := Z.ok (a_line)) (s0 := (total1)) (Env1 := fun (s2 : (Int)) => [some ((vD (dT dI)) a_line), some ((vD dI) s2), none]) (η1 := fun (s2 : (Int)) (e3 : Int) => [some ((vD (dT dI)) a_line), some ((vD dI) s2), some ((vD dI) e3)]) rfl (EvI.seq (d := dI) (fun _ => rfl) (fun _ => rfl) (Ev.var (E := (vD (dT dI))) (x := a_line) rfl rfl)) (fun _ _ => rfl) (fun (s2 : (Int)) (e3 : Int) =>
    Sq.aug (x := s2) (f := fun a b => a + b) (re := Z.ok (e3)) (η1 := fun (y4 : Int) => [some ((vD (dT dI)) a_line), some ((vD dI) (s2 + y4)), some ((vD dI) e3)]) rfl (Or.inl ⟨rfl, rfl⟩) (Ev.var (E := (vD dI)) (x := e3) rfl rfl) (fun _ => rfl) fun y4 =>
    Sq.ifR (Env0 := Empty.elim) (rc := Z.ok (!decide ((s2 + y4) ∈ ([(0 : Int), (1 : Int)] : List Int)))) (Ev.ninT (Ev.var (E := (vD dI)) (x := (s2 + y4)) rfl rfl) (Ev.tup (EvL.cons (d := dI) (f := fun z => z) (fun _ => rfl) (Ev.int 0) (EvL.cons (d := dI) (f := fun z => z) (fun _ => rfl) (Ev.int 1) (EvL.nil (d := dI)))))) (Sq.ret (re := Z.ok (false)) (Ev.bl false) (fun _ => rfl)) <|
    Sq.env (η' := [some ((vD (dT dI)) a_line), some ((vD dI) (s2 + y4)), none]) (fun _ => rfl) <|
    Sq.nil rfl) fun (s6 : (Int)) =>
  Sq.ret (re := Z.ok (decide (s6 = (1 : Int)))) (Ev.eq Good.I (by decide) (fun _ _ _ => rfl) (Ev.var (E := (vD dI)) (x := s6) rfl rfl) (Ev.int 1)) (fun _ => rfl)
@[irreducible] def m_is_table (a_value : (List (List Int))) : Rz Bool := Z.run (Y.fin (
  Z.so ((Z.lift (m_is_square a_value (1 : Int) (5 : Int) (-(1 : Int)) (1 : Int))).bind fun x1 => Z.ok (!x1)) fun k => if k then Y.all (Z.so (Z.ok (false)) fun x => Y.rt x) else
  Z.so ((((Z.lift (m_columns_of a_value)).bind fun x2 => Z.fits (a_value ++ x2)).bind fun x4 => Z.lc (fun (e3 : (List Int)) => Z.lift (m_alternates e3)) x4).bind fun x5 => Z.ok ((x5).all id)) fun x => Y.rt x))
theorem is_table_is {k : Nat} (hk : 3 ≤ k) (a_value : (List (List Int))) (m : Mem) : sem tab k f_is_table [(vD (dT (dT dI))) a_value] m = (m_is_table a_value).rs (vD dB) m := by
  unfold m_is_table
  exact sem_P (n := 2) (d := c_is_table) rfl hk fun k hk => fin_P (S := sem tab k) (m := m) (Env0 := Empty.elim) (by rfl) <|
  Sq.ifR (Env0 := Empty.elim) (rc := (Z.lift (m_is_square a_value (1 : Int) (5 : Int) (-(1 : Int)) (1 : Int))).bind fun x1 => Z.ok (!x1)) (Ev.nt (Ev.call5T (E := (vD dB)) (g := Z.lift (m_is_square a_value (1 : Int) (5 : Int) (-(1 : Int)) (1 : Int))) (fun w => call_P (M := fun _ => m) (w := w) rfl (is_square_is (by omega) a_value (1 : Int) (5 : Int) (-(1 : Int)) (1 : Int) _)) (Ev.var (E := (vD (dT (dT dI)))) (x := a_value) rfl rfl) (Ev.int 1) (Ev.gint _ _) (Ev.neg (Ev.int 1)) (Ev.int 1))) (Sq.ret (re := Z.ok (false)) (Ev.bl false) (fun _ => rfl)) <|
  Sq.ret (re := (((Z.lift (m_columns_of a_value)).bind fun x2 => Z.fits (a_value ++ x2)).bind fun x4 => Z.lc (fun (e3 : (List Int)) => Z.lift (m_alternates e3)) x4).bind fun x5 => Z.ok ((x5).all id)) (Ev.all (fun _ _ => rfl) (Ev.lc (d' := dB) (g := fun (e3 : (List Int)) => Z.lift (m_alternates e3)) (η1 := fun (e3 : (List Int)) => [some ((vD (dT (dT dI))) a_value), some ((vD (dT dI)) e3)]) (EvI.seq (d := (dT dI)) (fun _ => rfl) (fun _ => rfl) (Ev.catL (d := (dT dI)) (fun _ _ _ => rfl) (Ev.list (d := (dT dI)) (fun _ _ => rfl) (Ev.var (E := (vD (dT (dT dI)))) (x := a_value) rfl rfl)) (Ev.call1T (E := (vN (dT dI))) (g := Z.lift (m_columns_of a_value)) (fun w => call_P (M := fun _ => m) (w := w) rfl (columns_of_is (by omega) a_value _)) (Ev.var (E := (vD (dT (dT dI)))) (x := a_value) rfl rfl)))) (fun _ => rfl) (fun _ => rfl) fun (e3 : (List Int)) => (Ev.call1T (E := (vD dB)) (g := Z.lift (m_alternates e3)) (fun w => call_P (M := fun _ => m) (w := w) rfl (alternates_is (by omega) e3 _)) (Ev.var (E := (vD (dT dI))) (x := e3) rfl rfl)))) (fun _ => rfl)
@[irreducible] def m_is_integer_2 (a_value : PyData) (a_low : Int) (a_high : Int) : Rz Bool := Z.run (Y.fin (
  Z.so ((Z.opt (isiV [] (.dat a_value) .int)).bind fun x3 => if x3 then ((Z.opt (isiV [] (.dat a_value) .bool)).bind fun x1 => Z.ok (!x1)).bind fun x2 => if x2 then (Z.opt (asI a_value)).bind fun y => if decide (a_low ≤ y) then Z.ok (decide (y ≤ a_high)) else Z.ok false else Z.ok false else Z.ok false) fun x => Y.rt x))
theorem is_integer_2_is {k : Nat} (hk : 1 ≤ k) (a_value : PyData) (a_low : Int) (a_high : Int) (m : Mem) : sem tab k f_is_integer [(vD dD) a_value, (vD dI) a_low, (vD dI) a_high] m = (m_is_integer_2 a_value a_low a_high).rs (vD dB) m := by
  unfold m_is_integer_2
  exact sem_P (n := 0) (d := c_is_integer) rfl hk fun k hk => fin_P (S := sem tab k) (m := m) (Env0 := Empty.elim) (by rfl) <|
  Sq.ret (re := (Z.opt (isiV [] (.dat a_value) .int)).bind fun x3 => if x3 then ((Z.opt (isiV [] (.dat a_value) .bool)).bind fun x1 => Z.ok (!x1)).bind fun x2 => if x2 then (Z.opt (asI a_value)).bind fun y => if decide (a_low ≤ y) then Z.ok (decide (y ≤ a_high)) else Z.ok false else Z.ok false else Z.ok false) (Ev.and (Ev.isiD (Ev.var (E := (vD dD)) (x := a_value) rfl rfl)) (Ev.and (Ev.nt (Ev.isiD (Ev.var (E := (vD dD)) (x := a_value) rfl rfl))) (Ev.one (Ev.chainD (p := fun x y => decide (x ≤ y)) (q := fun x y => decide (x ≤ y)) (fun _ _ _ => rfl) (fun _ _ _ => rfl) (by intro m v x h; cases v <;> first | rfl | exact absurd rfl (h _)) (Ev.var (E := (vD dI)) (x := a_low) rfl rfl) (Ev.var (E := (vD dD)) (x := a_value) rfl rfl) (Ev.var (E := (vD dI)) (x := a_high) rfl rfl))))) (fun _ => rfl)
@[irreducible] def m_is_square_2 (a_value : PyData) (a_least : Int) (a_most : Int) (a_low : Int) (a_high : Int) : Rz Bool := Z.run (Y.fin (
  Z.so (((Z.opt (isiV [] (.dat a_value) .tuple)).bind fun x3 => Z.ok (!x3)).bind fun x4 => if x4 then Z.ok true else ((Z.opt (lenD a_value)).bind fun x1 => Z.ok (decide (a_least ≤ x1) && decide (x1 ≤ a_most))).bind fun x2 => Z.ok (!x2)) fun k => if k then Y.all (Z.so (Z.ok (false)) fun x => Y.rt x) else
  Y.then (Z.so (Z.opt (iterOf (.dat a_value))) fun xs => Y.for (fun (s5 : Unit) (e6 : PyData) =>
    Z.so (((Z.opt (isiV [] (.dat e6) .tuple)).bind fun x9 => Z.ok (!x9)).bind fun x10 => if x10 then Z.ok true else (Z.opt (lenD e6)).bind fun x7 => (Z.opt (lenD a_value)).bind fun x8 => Z.ok (!decide (x7 = x8))) fun k => if k then Y.all (Z.so (Z.ok (false)) fun x => Y.rt x) else
    Z.so ((((Z.opt (iterOf (.dat e6))).bind fun x12 => Z.lc (fun (e11 : PyData) => Z.lift (m_is_integer_2 e11 a_low a_high)) x12).bind fun x13 => Z.ok ((x13).all id)).bind fun x14 => Z.ok (!x14)) fun k => if k then Y.all (Z.so (Z.ok (false)) fun x => Y.rt x) else
    Y.nx ()) xs ()) fun s15 =>
  Z.so (Z.ok (true)) fun x => Y.rt x))
theorem is_square_2_is {k : Nat} (hk : 2 ≤ k) (a_value : PyData) (a_least : Int) (a_most : Int) (a_low : Int) (a_high : Int) (m : Mem) : sem tab k f_is_square [(vD dD) a_value, (vD dI) a_least, (vD dI) a_most, (vD dI) a_low, (vD dI) a_high] m = (m_is_square_2 a_value a_least a_most a_low a_high).rs (vD dB) m := by
  unfold m_is_square_2
  exact sem_P (n := 1) (d := c_is_square) rfl hk fun k hk => fin_P (S := sem tab k) (m := m) (Env0 := Empty.elim) (by rfl) <|
  Sq.ifR (Env0 := Empty.elim) (rc := ((Z.opt (isiV [] (.dat a_value) .tuple)).bind fun x3 => Z.ok (!x3)).bind fun x4 => if x4 then Z.ok true else ((Z.opt (lenD a_value)).bind fun x1 => Z.ok (decide (a_least ≤ x1) && decide (x1 ≤ a_most))).bind fun x2 => Z.ok (!x2)) (Ev.or (Ev.nt (Ev.isiD (Ev.var (E := (vD dD)) (x := a_value) rfl rfl))) (Ev.one (Ev.nt (Ev.chainT (p := fun x y => decide (x ≤ y)) (q := fun x y => decide (x ≤ y)) (fun _ _ _ => rfl) (fun _ _ _ => rfl) (Ev.var (E := (vD dI)) (x := a_least) rfl rfl) (Ev.b1O lenD_is (Ev.var (E := (vD dD)) (x := a_value) rfl rfl)) (Ev.var (E := (vD dI)) (x := a_most) rfl rfl))))) (Sq.ret (re := Z.ok (false)) (Ev.bl false) (fun _ => rfl)) <|
  Sq.for (ri := Z.opt (iterOf (.dat a_value))) (s0 := ()) (Env1 := fun (s5 : Unit) => [some ((vD dD) a_value), some ((vD dI) a_least), some ((vD dI) a_most), some ((vD dI) a_low), some ((vD dI) a_high), none, none]) (η1 := fun (s5 : Unit) (e6 : PyData) => [some ((vD dD) a_value), some ((vD dI) a_least), some ((vD dI) a_most), some ((vD dI) a_low), some ((vD dI) a_high), some ((vD dD) e6), none]) rfl (EvI.seqD (Ev.var (E := (vD dD)) (x := a_value) rfl rfl)) (fun _ _ => rfl) (fun (s5 : Unit) (e6 : PyData) =>
    Sq.ifR (Env0 := Empty.elim) (rc := ((Z.opt (isiV [] (.dat e6) .tuple)).bind fun x9 => Z.ok (!x9)).bind fun x10 => if x10 then Z.ok true else (Z.opt (lenD e6)).bind fun x7 => (Z.opt (lenD a_value)).bind fun x8 => Z.ok (!decide (x7 = x8))) (Ev.or (Ev.nt (Ev.isiD (Ev.var (E := (vD dD)) (x := e6) rfl rfl))) (Ev.one (Ev.ne Good.I (by decide) (fun _ _ _ => rfl) (Ev.b1O lenD_is (Ev.var (E := (vD dD)) (x := e6) rfl rfl)) (Ev.b1O lenD_is (Ev.var (E := (vD dD)) (x := a_value) rfl rfl))))) (Sq.ret (re := Z.ok (false)) (Ev.bl false) (fun _ => rfl)) <|
    Sq.ifR (Env0 := Empty.elim) (rc := (((Z.opt (iterOf (.dat e6))).bind fun x12 => Z.lc (fun (e11 : PyData) => Z.lift (m_is_integer_2 e11 a_low a_high)) x12).bind fun x13 => Z.ok ((x13).all id)).bind fun x14 => Z.ok (!x14)) (Ev.nt (Ev.all (fun _ _ => rfl) (Ev.lc (d' := dB) (g := fun (e11 : PyData) => Z.lift (m_is_integer_2 e11 a_low a_high)) (η1 := fun (e11 : PyData) => [some ((vD dD) a_value), some ((vD dI) a_least), some ((vD dI) a_most), some ((vD dI) a_low), some ((vD dI) a_high), some ((vD dD) e6), some ((vD dD) e11)]) (EvI.seqD (Ev.var (E := (vD dD)) (x := e6) rfl rfl)) (fun _ => rfl) (fun _ => rfl) fun (e11 : PyData) => (Ev.call3T (E := (vD dB)) (g := Z.lift (m_is_integer_2 e11 a_low a_high)) (fun w => call_P (M := fun _ => m) (w := w) rfl (is_integer_2_is (by omega) e11 a_low a_high _)) (Ev.var (E := (vD dD)) (x := e11) rfl rfl) (Ev.var (E := (vD dI)) (x := a_low) rfl rfl) (Ev.var (E := (vD dI)) (x := a_high) rfl rfl))))) (Sq.ret (re := Z.ok (false)) (Ev.bl false) (fun _ => rfl)) <|
    Sq.env (η' := [some ((vD dD) a_value), some ((vD dI) a_least), some ((vD dI) a_most), some ((vD dI) a_low), some ((vD dI) a_high), none, none]) (fun _ => rfl) <|
    Sq.nil rfl) fun (s15 : Unit) =>
  Sq.ret (re := Z.ok (true)) (Ev.bl true) (fun _ => rfl)
@[irreducible] def m_columns_of_2 (a_rows : PyData) : Rz (List (List PyData)) := Z.run (Y.fin (
  Z.so ((((Z.opt (ixD a_rows (0 : Int))).bind fun x1 => Z.opt (lenD x1)).bind fun x2 => Z.if (rangeOk 0 x2) (rangeZ 0 x2)).bind fun x6 => Z.lc (fun (e3 : Int) => (Z.opt (iterOf (.dat a_rows))).bind fun x5 => Z.lc (fun (e4 : PyData) => Z.opt (ixD e4 e3)) x5) x6) fun x => Y.rt x))
theorem columns_of_2_is {k : Nat} (hk : 1 ≤ k) (a_rows : PyData) (m : Mem) : sem tab k f_columns_of [(vD dD) a_rows] m = (m_columns_of_2 a_rows).rs (vN (dT dD)) m := by
  unfold m_columns_of_2
  exact sem_P (n := 0) (d := c_columns_of) rfl hk fun k hk => fin_P (S := sem tab k) (m := m) (Env0 := Empty.elim) (by rfl) <|
  Sq.ret (re := (((Z.opt (ixD a_rows (0 : Int))).bind fun x1 => Z.opt (lenD x1)).bind fun x2 => Z.if (rangeOk 0 x2) (rangeZ 0 x2)).bind fun x6 => Z.lc (fun (e3 : Int) => (Z.opt (iterOf (.dat a_rows))).bind fun x5 => Z.lc (fun (e4 : PyData) => Z.opt (ixD e4 e3)) x5) x6) (Ev.lc (d' := (dT dD)) (g := fun (e3 : Int) => (Z.opt (iterOf (.dat a_rows))).bind fun x5 => Z.lc (fun (e4 : PyData) => Z.opt (ixD e4 e3)) x5) (η1 := fun (e3 : Int) => [some ((vD dD) a_rows), some ((vD dI) e3), none]) (EvI.rng1 (Ev.b1O lenD_is (Ev.ixO ixD_is (Ev.var (E := (vD dD)) (x := a_rows) rfl rfl) (Ev.int 0)))) (fun _ => rfl) (fun _ => rfl) fun (e3 : Int) => (Ev.tuple (d := dD) (fun _ _ => rfl) (Ev.lc (d' := dD) (g := fun (e4 : PyData) => Z.opt (ixD e4 e3)) (η1 := fun (e4 : PyData) => [some ((vD dD) a_rows), some ((vD dI) e3), some ((vD dD) e4)]) (EvI.seqD (Ev.var (E := (vD dD)) (x := a_rows) rfl rfl)) (fun _ => rfl) (fun _ => rfl) fun (e4 : PyData) => (Ev.ixO ixD_is (Ev.var (E := (vD dD)) (x := e4) rfl rfl) (Ev.var (E := (vD dI)) (x := e3) rfl rfl))))) (fun _ => rfl)
@[irreducible] def m_alternates_2 (a_line : PyData) : Rz Bool := Z.run (Y.fin (
  Z.so (Z.ok ((0 : Int))) fun total1 =>
  Y.then (Z.so (Z.opt (iterOf (.dat a_line))) fun xs => Y.for (fun (s2 : (Int)) (e3 : PyData) =>
    Z.so (Z.ok (e3)) fun y5 => Z.so (Z.opt (asI y5)) fun y4 =>
    Z.so (Z.ok (!decide ((s2 + y4) ∈ ([(0 : Int), (1 : Int)] : List Int)))) fun k => if k then Y.all (Z.so (Z.ok (false)) fun x => Y.rt x) else
    Y.nx ((s2 + y4))) xs (total1)) fun s6 =>
  Z.so (Z.ok (decide (s6 = (1 : Int)))) fun x => Y.rt x))
theorem alternates_2_is {k : Nat} (hk : 1 ≤ k) (a_line : PyData) (m : Mem) : sem tab k f_alternates [(vD dD) a_line] m = (m_alternates_2 a_line).rs (vD dB) m := by
  unfold m_alternates_2
  exact sem_P (n := 0) (d := c_alternates) rfl hk fun k hk => fin_P (S := sem tab k) (m := m) (Env0 := Empty.elim) (by rfl) <|
  Sq.asg (re := Z.ok ((0 : Int))) (η1 := fun (total1 : Int) => [some ((vD dD) a_line), some ((vD dI) total1), none]) (Ev.int 0) (fun _ => rfl) (fun _ => rfl) fun total1 =>
  Sq.for (ri := Z.opt (iterOf (.dat a_line))) (s0 := (total1)) (Env1 := fun (s2 : (Int)) => [some ((vD dD) a_line), some ((vD dI) s2), none]) (η1 := fun (s2 : (Int)) (e3 : PyData) => [some ((vD dD) a_line), some ((vD dI) s2), some ((vD dD) e3)]) rfl (EvI.seqD (Ev.var (E := (vD dD)) (x := a_line) rfl rfl)) (fun _ _ => rfl) (fun (s2 : (Int)) (e3 : PyData) =>
    Sq.augD (x := s2) (f := fun a b => a + b) (re := Z.ok (e3)) (η1 := fun (y4 : Int) => [some ((vD dD) a_line), some ((vD dI) (s2 + y4)), some ((vD dD) e3)]) rfl (Or.inl ⟨rfl, rfl⟩) (Ev.var (E := (vD dD)) (x := e3) rfl rfl) (fun _ => rfl) fun y4 =>
    Sq.ifR (Env0 := Empty.elim) (rc := Z.ok (!decide ((s2 + y4) ∈ ([(0 : Int), (1 : Int)] : List Int)))) (Ev.ninT (Ev.var (E := (vD dI)) (x := (s2 + y4)) rfl rfl) (Ev.tup (EvL.cons (d := dI) (f := fun z => z) (fun _ => rfl) (Ev.int 0) (EvL.cons (d := dI) (f := fun z => z) (fun _ => rfl) (Ev.int 1) (EvL.nil (d := dI)))))) (Sq.ret (re := Z.ok (false)) (Ev.bl false) (fun _ => rfl)) <|
    Sq.env (η' := [some ((vD dD) a_line), some ((vD dI) (s2 + y4)), none]) (fun _ => rfl) <|
    Sq.nil rfl) fun (s6 : (Int)) =>
  Sq.ret (re := Z.ok (decide (s6 = (1 : Int)))) (Ev.eq Good.I (by decide) (fun _ _ _ => rfl) (Ev.var (E := (vD dI)) (x := s6) rfl rfl) (Ev.int 1)) (fun _ => rfl)
@[irreducible] def m_is_table_2 (a_value : PyData) : Rz Bool := Z.run (Y.fin (
  Z.so ((Z.lift (m_is_square_2 a_value (1 : Int) (5 : Int) (-(1 : Int)) (1 : Int))).bind fun x1 => Z.ok (!x1)) fun k => if k then Y.all (Z.so (Z.ok (false)) fun x => Y.rt x) else
  Z.so ((((Z.opt (itemsD a_value)).bind fun x3 => ((Z.lift (m_columns_of_2 a_value)).bind fun x2 => Z.ok ((x2).map fun z => (dT dD) z)).bind fun x4 => Z.fits (x3 ++ x4)).bind fun x6 => Z.lc (fun (e5 : PyData) => Z.lift (m_alternates_2 e5)) x6).bind fun x7 => Z.ok ((x7).all id)) fun x => Y.rt x))
theorem is_table_2_is {k : Nat} (hk : 3 ≤ k) (a_value : PyData) (m : Mem) : sem tab k f_is_table [(vD dD) a_value] m = (m_is_table_2 a_value).rs (vD dB) m := by
  unfold m_is_table_2
  exact sem_P (n := 2) (d := c_is_table) rfl hk fun k hk => fin_P (S := sem tab k) (m := m) (Env0 := Empty.elim) (by rfl) <|
  Sq.ifR (Env0 := Empty.elim) (rc := (Z.lift (m_is_square_2 a_value (1 : Int) (5 : Int) (-(1 : Int)) (1 : Int))).bind fun x1 => Z.ok (!x1)) (Ev.nt (Ev.call5T (E := (vD dB)) (g := Z.lift (m_is_square_2 a_value (1 : Int) (5 : Int) (-(1 : Int)) (1 : Int))) (fun w => call_P (M := fun _ => m) (w := w) rfl (is_square_2_is (by omega) a_value (1 : Int) (5 : Int) (-(1 : Int)) (1 : Int) _)) (Ev.var (E := (vD dD)) (x := a_value) rfl rfl) (Ev.int 1) (Ev.gint _ _) (Ev.neg (Ev.int 1)) (Ev.int 1))) (Sq.ret (re := Z.ok (false)) (Ev.bl false) (fun _ => rfl)) <|
  Sq.ret (re := (((Z.opt (itemsD a_value)).bind fun x3 => ((Z.lift (m_columns_of_2 a_value)).bind fun x2 => Z.ok ((x2).map fun z => (dT dD) z)).bind fun x4 => Z.fits (x3 ++ x4)).bind fun x6 => Z.lc (fun (e5 : PyData) => Z.lift (m_alternates_2 e5)) x6).bind fun x7 => Z.ok ((x7).all id)) (Ev.all (fun _ _ => rfl) (Ev.lc (d' := dB) (g := fun (e5 : PyData) => Z.lift (m_alternates_2 e5)) (η1 := fun (e5 : PyData) => [some ((vD dD) a_value), some ((vD dD) e5)]) (EvI.seq (d := dD) (fun _ => rfl) (fun _ => rfl) (Ev.catL (d := dD) (fun _ _ _ => rfl) (Ev.b1O listD_is (Ev.var (E := (vD dD)) (x := a_value) rfl rfl)) (Ev.encN (f := fun z => (dT dD) z) (d' := dD) (fun _ => rfl) (Ev.call1T (E := (vN (dT dD))) (g := Z.lift (m_columns_of_2 a_value)) (fun w => call_P (M := fun _ => m) (w := w) rfl (columns_of_2_is (by omega) a_value _)) (Ev.var (E := (vD dD)) (x := a_value) rfl rfl))))) (fun _ => rfl) (fun _ => rfl) fun (e5 : PyData) => (Ev.call1T (E := (vD dB)) (g := Z.lift (m_alternates_2 e5)) (fun w => call_P (M := fun _ => m) (w := w) rfl (alternates_2_is (by omega) e5 _)) (Ev.var (E := (vD dD)) (x := e5) rfl rfl)))) (fun _ => rfl)
@[irreducible] def m_check_table (a_table : (List (List Int))) : Rz Unit := Z.run (Y.finU (
  Z.so ((Z.lift (m_is_table a_table)).bind fun x1 => Z.ok (!x1)) fun k => if k then Y.all (Y.ex "InvalidTable") else
  Y.nx ()))
theorem check_table_is {k : Nat} (hk : 4 ≤ k) (a_table : (List (List Int))) (m : Mem) : sem tab k f_check_table [(vD (dT (dT dI))) a_table] m = (m_check_table a_table).rs (vD dU) m := by
  unfold m_check_table
  exact sem_P (n := 3) (d := c_check_table) rfl hk fun k hk => fin_U (S := sem tab k) (m := m) (Env0 := fun (_ : Unit) => [some ((vD (dT (dT dI))) a_table)]) (by rfl) <|
  Sq.ifR (Env0 := Empty.elim) (rc := (Z.lift (m_is_table a_table)).bind fun x1 => Z.ok (!x1)) (Ev.nt (Ev.call1T (E := (vD dB)) (g := Z.lift (m_is_table a_table)) (fun w => call_P (M := fun _ => m) (w := w) rfl (is_table_is (by omega) a_table _)) (Ev.var (E := (vD (dT (dT dI)))) (x := a_table) rfl rfl))) (Sq.rais) <|
  Sq.nil rfl
end SS
end
/- SM1 -/
section
set_option linter.all false
set_option maxRecDepth 100000
set_option maxHeartbeats 0
/-! Mirrors, printed by mir.py. -/
namespace SS
open PySem L2
@[irreducible] def m_check_two (a_one : (List (List Int))) (a_other : (List (List Int))) : Rz Unit := Z.run (Y.finU (
  Z.so (Z.lift (m_check_table a_one)) fun _ =>
  Z.so (Z.lift (m_check_table a_other)) fun _ =>
  Z.so (Z.ok (!decide (((a_one.length : Nat) : Int) = ((a_other.length : Nat) : Int)))) fun k => if k then Y.all (Y.ex "InvalidTable") else
  Y.nx ()))
theorem check_two_is {k : Nat} (hk : 5 ≤ k) (a_one : (List (List Int))) (a_other : (List (List Int))) (m : Mem) : sem tab k f_check_two [(vD (dT (dT dI))) a_one, (vD (dT (dT dI))) a_other] m = (m_check_two a_one a_other).rs (vD dU) m := by
  unfold m_check_two
  exact sem_P (n := 4) (d := c_check_two) rfl hk fun k hk => fin_U (S := sem tab k) (m := m) (Env0 := fun (_ : Unit) => [some ((vD (dT (dT dI))) a_one), some ((vD (dT (dT dI))) a_other)]) (by rfl) <|
  Sq.ex (re := Z.lift (m_check_table a_one)) (Ev.call1T (E := (vD dU)) (g := Z.lift (m_check_table a_one)) (fun w => call_P (M := fun _ => m) (w := w) rfl (check_table_is (by omega) a_one _)) (Ev.var (E := (vD (dT (dT dI)))) (x := a_one) rfl rfl)) <|
  Sq.ex (re := Z.lift (m_check_table a_other)) (Ev.call1T (E := (vD dU)) (g := Z.lift (m_check_table a_other)) (fun w => call_P (M := fun _ => m) (w := w) rfl (check_table_is (by omega) a_other _)) (Ev.var (E := (vD (dT (dT dI)))) (x := a_other) rfl rfl)) <|
  Sq.ifR (Env0 := Empty.elim) (rc := Z.ok (!decide (((a_one.length : Nat) : Int) = ((a_other.length : Nat) : Int)))) (Ev.ne Good.I (by decide) (fun _ _ _ => rfl) (Ev.len (d := (dT dI)) (fun _ _ => rfl) (Ev.var (E := (vD (dT (dT dI)))) (x := a_one) rfl rfl)) (Ev.len (d := (dT dI)) (fun _ _ => rfl) (Ev.var (E := (vD (dT (dT dI)))) (x := a_other) rfl rfl))) (Sq.rais) <|
  Sq.nil rfl
@[irreducible] def m_negative_count (a_table : (List (List Int))) : Rz Int := Z.run (Y.fin (
  Z.so ((Z.fits ((a_table).map fun (e1 : (List Int)) => ((e1.count (-(1 : Int)) : Nat) : Int))).bind fun x2 => Z.ok ((x2).sum)) fun x => Y.rt x))
theorem negative_count_is {k : Nat} (hk : 1 ≤ k) (a_table : (List (List Int))) (m : Mem) : sem tab k f_negative_count [(vD (dT (dT dI))) a_table] m = (m_negative_count a_table).rs (vD dI) m := by
  unfold m_negative_count
  exact sem_P (n := 0) (d := c_negative_count) rfl hk fun k hk => fin_P (S := sem tab k) (m := m) (Env0 := Empty.elim) (by rfl) <|
  Sq.ret (re := (Z.fits ((a_table).map fun (e1 : (List Int)) => ((e1.count (-(1 : Int)) : Nat) : Int))).bind fun x2 => Z.ok ((x2).sum)) (Ev.sum (fun _ _ => rfl) (Ev.lcT (d' := dI) (g := fun (e1 : (List Int)) => ((e1.count (-(1 : Int)) : Nat) : Int)) (η1 := fun (e1 : (List Int)) => [some ((vD (dT (dT dI))) a_table), some ((vD (dT dI)) e1)]) (EvI.seq (d := (dT dI)) (fun _ => rfl) (fun _ => rfl) (Ev.var (E := (vD (dT (dT dI)))) (x := a_table) rfl rfl)) (fun _ => rfl) (fun _ => rfl) fun (e1 : (List Int)) => (Ev.count (fun _ => rfl) (Ev.var (E := (vD (dT dI))) (x := e1) rfl rfl) (Ev.neg (Ev.int 1))))) (fun _ => rfl)
@[irreducible] def m_is_permutation (a_table : (List (List Int))) : Rz Bool := Z.run (Y.fin (
  Z.so (Z.lift (m_check_table a_table)) fun _ =>
  Z.so ((Z.lift (m_negative_count a_table)).bind fun x1 => Z.ok (decide (x1 = (0 : Int)))) fun x => Y.rt x))
theorem is_permutation_is {k : Nat} (hk : 5 ≤ k) (a_table : (List (List Int))) (m : Mem) : sem tab k f_is_permutation [(vD (dT (dT dI))) a_table] m = (m_is_permutation a_table).rs (vD dB) m := by
  unfold m_is_permutation
  exact sem_P (n := 4) (d := c_is_permutation) rfl hk fun k hk => fin_P (S := sem tab k) (m := m) (Env0 := Empty.elim) (by rfl) <|
  Sq.ex (re := Z.lift (m_check_table a_table)) (Ev.call1T (E := (vD dU)) (g := Z.lift (m_check_table a_table)) (fun w => call_P (M := fun _ => m) (w := w) rfl (check_table_is (by omega) a_table _)) (Ev.var (E := (vD (dT (dT dI)))) (x := a_table) rfl rfl)) <|
  Sq.ret (re := (Z.lift (m_negative_count a_table)).bind fun x1 => Z.ok (decide (x1 = (0 : Int)))) (Ev.eq Good.I (by decide) (fun _ _ _ => rfl) (Ev.call1T (E := (vD dI)) (g := Z.lift (m_negative_count a_table)) (fun w => call_P (M := fun _ => m) (w := w) rfl (negative_count_is (by omega) a_table _)) (Ev.var (E := (vD (dT (dT dI)))) (x := a_table) rfl rfl)) (Ev.int 0)) (fun _ => rfl)
@[irreducible] def m_inversion_count (a_table : (List (List Int))) : Rz Int := Z.run (Y.fin (
  Z.so (Z.ok ((0 : Int))) fun total1 =>
  Z.so (Z.if (smallRep ((a_table.length : Nat) : Int) (([(0 : Int)] : List Int)).length) (rep (((a_table.length : Nat) : Int)).toNat ([(0 : Int)] : List Int))) fun above2 =>
  Y.then (Z.so (Z.ok (a_table)) fun xs => Y.for (fun (s3 : (Int × (List Int))) (e4 : (List Int)) =>
    Y.then (Z.so (Z.ok (enumZ e4)) fun xs => Y.for (fun (s5 : (Int)) (e6 : (Int × Int)) =>
      Z.so (Z.if (small64 e6.2 || small64 (((cut s3.2 (some (e6.1 + (1 : Int))) none)).sum)) (e6.2 * (((cut s3.2 (some (e6.1 + (1 : Int))) none)).sum))) fun y7 =>
      Y.nx ((s5 + y7))) xs (s3.1)) fun s9 =>
    Z.so (Z.fits (((List.zip s3.2 e4)).map fun (e10 : (Int × Int)) => e10.1 + e10.2)) fun above11 =>
    Y.nx (s9, above11)) xs (total1, above2)) fun s12 =>
  Y.rt s12.1))
theorem inversion_count_is {k : Nat} (hk : 1 ≤ k) (a_table : (List (List Int))) (m : Mem) : sem tab k f_inversion_count [(vD (dT (dT dI))) a_table] m = (m_inversion_count a_table).rs (vD dI) m := by
  unfold m_inversion_count
  exact sem_P (n := 0) (d := c_inversion_count) rfl hk fun k hk => fin_P (S := sem tab k) (m := m) (Env0 := Empty.elim) (by rfl) <|
  Sq.par2 (ra := Z.ok ((0 : Int))) (rb := Z.if (smallRep ((a_table.length : Nat) : Int) (([(0 : Int)] : List Int)).length) (rep (((a_table.length : Nat) : Int)).toNat ([(0 : Int)] : List Int))) (η1 := fun (total1 : Int) (above2 : (List Int)) => [some ((vD (dT (dT dI))) a_table), some ((vD dI) total1), some ((vN dI) above2), none, none, none, none]) (Ev.int 0) (Ev.repL (d := dI) (fun _ _ _ => rfl) (Ev.lst (EvL.cons (d := dI) (f := fun z => z) (fun _ => rfl) (Ev.int 0) (EvL.nil (d := dI)))) (Ev.len (d := (dT dI)) (fun _ _ => rfl) (Ev.var (E := (vD (dT (dT dI)))) (x := a_table) rfl rfl))) (fun _ _ => rfl) fun total1 above2 =>
  Sq.for (ri := Z.ok (a_table)) (s0 := (total1, above2)) (Env1 := fun (s3 : (Int × (List Int))) => [some ((vD (dT (dT dI))) a_table), some ((vD dI) s3.1), some ((vN dI) s3.2), none, none, none, none]) (η1 := fun (s3 : (Int × (List Int))) (e4 : (List Int)) => [some ((vD (dT (dT dI))) a_table), some ((vD dI) s3.1), some ((vN dI) s3.2), some ((vD (dT dI)) e4), none, none, none]) rfl (EvI.seq (d := (dT dI)) (fun _ => rfl) (fun _ => rfl) (Ev.var (E := (vD (dT (dT dI)))) (x := a_table) rfl rfl)) (fun _ _ => rfl) (fun (s3 : (Int × (List Int))) (e4 : (List Int)) =>
    Sq.env (η' := [some ((vD (dT (dT dI))) a_table), some ((vD dI) s3.1), some ((vN dI) s3.2), some ((vD (dT dI)) e4), none, none, none]) (fun _ => rfl) <|
    Sq.for (ri := Z.ok (enumZ e4)) (s0 := (s3.1)) (Env1 := fun (s5 : (Int)) => [some ((vD (dT (dT dI))) a_table), some ((vD dI) s5), some ((vN dI) s3.2), some ((vD (dT dI)) e4), none, none, none]) (η1 := fun (s5 : (Int)) (e6 : (Int × Int)) => [some ((vD (dT (dT dI))) a_table), some ((vD dI) s5), some ((vN dI) s3.2), some ((vD (dT dI)) e4), some ((vD dI) e6.1), some ((vD dI) e6.2), none]) rfl (EvI.enum (d := dI) (fun _ => rfl) (fun _ => rfl) (Ev.var (E := (vD (dT dI))) (x := e4) rfl rfl)) (fun _ _ => rfl) (fun (s5 : (Int)) (e6 : (Int × Int)) =>
      Sq.aug (x := s5) (f := fun a b => a + b) (re := Z.if (small64 e6.2 || small64 (((cut s3.2 (some (e6.1 + (1 : Int))) none)).sum)) (e6.2 * (((cut s3.2 (some (e6.1 + (1 : Int))) none)).sum))) (η1 := fun (y7 : Int) => [some ((vD (dT (dT dI))) a_table), some ((vD dI) (s5 + y7)), some ((vN dI) s3.2), some ((vD (dT dI)) e4), some ((vD dI) e6.1), some ((vD dI) e6.2), none]) rfl (Or.inl ⟨rfl, rfl⟩) (Ev.mul (Ev.var (E := (vD dI)) (x := e6.2) rfl rfl) (Ev.sum (fun _ _ => rfl) (Ev.sl (E := (vN dI)) sl_B (Ev.var (E := (vB dI)) (x := s3.2) rfl rfl) (EvO.yes (Ev.add (Ev.var (E := (vD dI)) (x := e6.1) rfl rfl) (Ev.int 1))) EvO.no))) (fun _ => rfl) fun y7 =>
      Sq.env (η' := [some ((vD (dT (dT dI))) a_table), some ((vD dI) (s5 + y7)), some ((vN dI) s3.2), some ((vD (dT dI)) e4), none, none, none]) (fun _ => rfl) <|
      Sq.nil rfl) fun (s9 : (Int)) =>
    Sq.asg (re := Z.fits (((List.zip s3.2 e4)).map fun (e10 : (Int × Int)) => e10.1 + e10.2)) (η1 := fun (above11 : (List Int)) => [some ((vD (dT (dT dI))) a_table), some ((vD dI) s9), some ((vN dI) above11), some ((vD (dT dI)) e4), none, none, none]) (Ev.lcT (d' := dI) (g := fun (e10 : (Int × Int)) => e10.1 + e10.2) (η1 := fun (e10 : (Int × Int)) => [some ((vD (dT (dT dI))) a_table), some ((vD dI) s9), some ((vN dI) s3.2), some ((vD (dT dI)) e4), none, some ((vD dI) e10.2), some ((vD dI) e10.1)]) (EvI.zip (d := dI) (d' := dI) (fun _ _ => rfl) (fun _ => rfl) (fun _ => rfl) (Ev.var (E := (vB dI)) (x := s3.2) rfl rfl) (Ev.var (E := (vD (dT dI))) (x := e4) rfl rfl)) (fun _ => rfl) (fun _ => rfl) fun (e10 : (Int × Int)) => (Ev.add (Ev.var (E := (vD dI)) (x := e10.1) rfl rfl) (Ev.var (E := (vD dI)) (x := e10.2) rfl rfl))) (fun _ => rfl) (fun _ => rfl) fun above11 =>
    Sq.env (η' := [some ((vD (dT (dT dI))) a_table), some ((vD dI) s9), some ((vN dI) above11), none, none, none, none]) (fun _ => rfl) <|
    Sq.nil rfl) fun (s12 : (Int × (List Int))) =>
  Sq.retv rfl
@[irreducible] def m_inversions (a_table : (List (List Int))) : Rz Int := Z.run (Y.fin (
  Z.so (Z.lift (m_check_table a_table)) fun _ =>
  Z.so (Z.lift (m_inversion_count a_table)) fun x => Y.rt x))
theorem inversions_is {k : Nat} (hk : 5 ≤ k) (a_table : (List (List Int))) (m : Mem) : sem tab k f_inversions [(vD (dT (dT dI))) a_table] m = (m_inversions a_table).rs (vD dI) m := by
  unfold m_inversions
  exact sem_P (n := 4) (d := c_inversions) rfl hk fun k hk => fin_P (S := sem tab k) (m := m) (Env0 := Empty.elim) (by rfl) <|
  Sq.ex (re := Z.lift (m_check_table a_table)) (Ev.call1T (E := (vD dU)) (g := Z.lift (m_check_table a_table)) (fun w => call_P (M := fun _ => m) (w := w) rfl (check_table_is (by omega) a_table _)) (Ev.var (E := (vD (dT (dT dI)))) (x := a_table) rfl rfl)) <|
  Sq.ret (re := Z.lift (m_inversion_count a_table)) (Ev.call1T (E := (vD dI)) (g := Z.lift (m_inversion_count a_table)) (fun w => call_P (M := fun _ => m) (w := w) rfl (inversion_count_is (by omega) a_table _)) (Ev.var (E := (vD (dT (dT dI)))) (x := a_table) rfl rfl)) (fun _ => rfl)
@[irreducible] def m_negatives (a_table : (List (List Int))) : Rz Int := Z.run (Y.fin (
  Z.so (Z.lift (m_check_table a_table)) fun _ =>
  Z.so (Z.lift (m_negative_count a_table)) fun x => Y.rt x))
theorem negatives_is {k : Nat} (hk : 5 ≤ k) (a_table : (List (List Int))) (m : Mem) : sem tab k f_negatives [(vD (dT (dT dI))) a_table] m = (m_negatives a_table).rs (vD dI) m := by
  unfold m_negatives
  exact sem_P (n := 4) (d := c_negatives) rfl hk fun k hk => fin_P (S := sem tab k) (m := m) (Env0 := Empty.elim) (by rfl) <|
  Sq.ex (re := Z.lift (m_check_table a_table)) (Ev.call1T (E := (vD dU)) (g := Z.lift (m_check_table a_table)) (fun w => call_P (M := fun _ => m) (w := w) rfl (check_table_is (by omega) a_table _)) (Ev.var (E := (vD (dT (dT dI)))) (x := a_table) rfl rfl)) <|
  Sq.ret (re := Z.lift (m_negative_count a_table)) (Ev.call1T (E := (vD dI)) (g := Z.lift (m_negative_count a_table)) (fun w => call_P (M := fun _ => m) (w := w) rfl (negative_count_is (by omega) a_table _)) (Ev.var (E := (vD (dT (dT dI)))) (x := a_table) rfl rfl)) (fun _ => rfl)
@[irreducible] def m_sums_of (a_table : (List (List Int))) : Rz (List (List Int)) := Z.run (Y.fin (
  Z.so (((Z.if (smallRep (((a_table.length : Nat) : Int) + (1 : Int)) (([(0 : Int)] : List Int)).length) (rep ((((a_table.length : Nat) : Int) + (1 : Int))).toNat ([(0 : Int)] : List Int))).bind fun x1 => ((Z.ok [] : Z _ (List (List Int)))).bind fun x2 => Z.ok (x1 :: x2)).bind Z.fits) fun rows3 =>
  Y.then (Z.so (Z.ok (a_table)) fun xs => Y.for (fun (s4 : ((List (List Int)))) (e5 : (List Int)) =>
    Z.so (Z.ok ((0 : Int))) fun total6 =>
    Z.so (Z.ok (([(0 : Int)] : List Int))) fun line7 =>
    Y.then (Z.so (Z.ok (enumZ e5)) fun xs => Y.for (fun (s8 : (Int × (List Int))) (e9 : (Int × Int)) =>
      Z.so (Z.ok (e9.2)) fun y10 =>
      Z.so (((Z.opt (L2.atI s4 (-(1 : Int)))).bind fun x12 => Z.opt (L2.atI x12 (e9.1 + (1 : Int)))).bind fun x13 => Z.ok (x13 + (s8.1 + y10))) fun y => Z.so (Z.fits (s8.2 ++ [y])) fun line11 =>
      Y.nx ((s8.1 + y10), line11)) xs (total6, line7)) fun s15 =>
    Z.so (Z.ok (s15.2)) fun y => Z.so (Z.fits (s4 ++ [y])) fun rows16 =>
    Y.nx (rows16)) xs (rows3)) fun s17 =>
  Z.so (Z.ok (s17)) fun x => Y.rt x))
theorem sums_of_is {k : Nat} (hk : 1 ≤ k) (a_table : (List (List Int))) (m : Mem) : sem tab k f_sums_of [(vD (dT (dT dI))) a_table] m = (m_sums_of a_table).rs (vD (dT (dT dI))) m := by
  unfold m_sums_of
  exact sem_P (n := 0) (d := c_sums_of) rfl hk fun k hk => fin_P (S := sem tab k) (m := m) (Env0 := Empty.elim) (by rfl) <|
  Sq.asg (re := ((Z.if (smallRep (((a_table.length : Nat) : Int) + (1 : Int)) (([(0 : Int)] : List Int)).length) (rep ((((a_table.length : Nat) : Int) + (1 : Int))).toNat ([(0 : Int)] : List Int))).bind fun x1 => ((Z.ok [] : Z _ (List (List Int)))).bind fun x2 => Z.ok (x1 :: x2)).bind Z.fits) (η1 := fun (rows3 : (List (List Int))) => [some ((vD (dT (dT dI))) a_table), some ((vN (dT dI)) rows3), none, none, none, none, none]) (Ev.lst (EvL.cons (d := (dT dI)) (f := fun z => z) (fun _ => rfl) (Ev.tuple (d := dI) (fun _ _ => rfl) (Ev.repL (d := dI) (fun _ _ _ => rfl) (Ev.lst (EvL.cons (d := dI) (f := fun z => z) (fun _ => rfl) (Ev.int 0) (EvL.nil (d := dI)))) (Ev.add (Ev.len (d := (dT dI)) (fun _ _ => rfl) (Ev.var (E := (vD (dT (dT dI)))) (x := a_table) rfl rfl)) (Ev.int 1)))) (EvL.nil (d := (dT dI))))) (fun _ => rfl) (fun _ => rfl) fun rows3 =>
  Sq.for (ri := Z.ok (a_table)) (s0 := (rows3)) (Env1 := fun (s4 : ((List (List Int)))) => [some ((vD (dT (dT dI))) a_table), some ((vN (dT dI)) s4), none, none, none, none, none]) (η1 := fun (s4 : ((List (List Int)))) (e5 : (List Int)) => [some ((vD (dT (dT dI))) a_table), some ((vN (dT dI)) s4), some ((vD (dT dI)) e5), none, none, none, none]) rfl (EvI.seq (d := (dT dI)) (fun _ => rfl) (fun _ => rfl) (Ev.var (E := (vD (dT (dT dI)))) (x := a_table) rfl rfl)) (fun _ _ => rfl) (fun (s4 : ((List (List Int)))) (e5 : (List Int)) =>
    Sq.par2 (ra := Z.ok ((0 : Int))) (rb := Z.ok (([(0 : Int)] : List Int))) (η1 := fun (total6 : Int) (line7 : (List Int)) => [some ((vD (dT (dT dI))) a_table), some ((vN (dT dI)) s4), some ((vD (dT dI)) e5), some ((vD dI) total6), some ((vN dI) line7), none, none]) (Ev.int 0) (Ev.lst (EvL.cons (d := dI) (f := fun z => z) (fun _ => rfl) (Ev.int 0) (EvL.nil (d := dI)))) (fun _ _ => rfl) fun total6 line7 =>
    Sq.env (η' := [some ((vD (dT (dT dI))) a_table), some ((vN (dT dI)) s4), some ((vD (dT dI)) e5), some ((vD dI) total6), some ((vN dI) line7), none, none]) (fun _ => rfl) <|
    Sq.for (ri := Z.ok (enumZ e5)) (s0 := (total6, line7)) (Env1 := fun (s8 : (Int × (List Int))) => [some ((vD (dT (dT dI))) a_table), some ((vN (dT dI)) s4), some ((vD (dT dI)) e5), some ((vD dI) s8.1), some ((vN dI) s8.2), none, none]) (η1 := fun (s8 : (Int × (List Int))) (e9 : (Int × Int)) => [some ((vD (dT (dT dI))) a_table), some ((vN (dT dI)) s4), some ((vD (dT dI)) e5), some ((vD dI) s8.1), some ((vN dI) s8.2), some ((vD dI) e9.1), some ((vD dI) e9.2)]) rfl (EvI.enum (d := dI) (fun _ => rfl) (fun _ => rfl) (Ev.var (E := (vD (dT dI))) (x := e5) rfl rfl)) (fun _ _ => rfl) (fun (s8 : (Int × (List Int))) (e9 : (Int × Int)) =>
      Sq.aug (x := s8.1) (f := fun a b => a + b) (re := Z.ok (e9.2)) (η1 := fun (y10 : Int) => [some ((vD (dT (dT dI))) a_table), some ((vN (dT dI)) s4), some ((vD (dT dI)) e5), some ((vD dI) (s8.1 + y10)), some ((vN dI) s8.2), some ((vD dI) e9.1), some ((vD dI) e9.2)]) rfl (Or.inl ⟨rfl, rfl⟩) (Ev.var (E := (vD dI)) (x := e9.2) rfl rfl) (fun _ => rfl) fun y10 =>
      Sq.app (xs := s8.2) (d := dI) (f := fun y => y) (re := ((Z.opt (L2.atI s4 (-(1 : Int)))).bind fun x12 => Z.opt (L2.atI x12 (e9.1 + (1 : Int)))).bind fun x13 => Z.ok (x13 + (s8.1 + y10))) (η1 := fun (line11 : (List Int)) => [some ((vD (dT (dT dI))) a_table), some ((vN (dT dI)) s4), some ((vD (dT dI)) e5), some ((vD dI) (s8.1 + y10)), some ((vN dI) line11), some ((vD dI) e9.1), some ((vD dI) e9.2)]) rfl (fun _ => rfl) (Ev.add (Ev.ix (d := dI) (fun _ _ _ => rfl) (Ev.ix (d := (dT dI)) (fun _ _ _ => rfl) (Ev.var (E := (vB (dT dI))) (x := s4) rfl rfl) (Ev.neg (Ev.int 1))) (Ev.add (Ev.var (E := (vD dI)) (x := e9.1) rfl rfl) (Ev.int 1))) (Ev.var (E := (vD dI)) (x := (s8.1 + y10)) rfl rfl)) (fun _ => rfl) fun line11 =>
      Sq.env (η' := [some ((vD (dT (dT dI))) a_table), some ((vN (dT dI)) s4), some ((vD (dT dI)) e5), some ((vD dI) (s8.1 + y10)), some ((vN dI) line11), none, none]) (fun _ => rfl) <|
      Sq.nil rfl) fun (s15 : (Int × (List Int))) =>
    Sq.app (xs := s4) (d := (dT dI)) (f := fun y => y) (re := Z.ok (s15.2)) (η1 := fun (rows16 : (List (List Int))) => [some ((vD (dT (dT dI))) a_table), some ((vN (dT dI)) rows16), some ((vD (dT dI)) e5), some ((vD dI) s15.1), some ((vN dI) s15.2), none, none]) rfl (fun _ => rfl) (Ev.tuple (d := dI) (fun _ _ => rfl) (Ev.var (E := (vB dI)) (x := s15.2) rfl rfl)) (fun _ => rfl) fun rows16 =>
    Sq.env (η' := [some ((vD (dT (dT dI))) a_table), some ((vN (dT dI)) rows16), none, none, none, none, none]) (fun _ => rfl) <|
    Sq.nil rfl) fun (s17 : ((List (List Int)))) =>
  Sq.ret (re := Z.ok (s17)) (Ev.tuple (d := (dT dI)) (fun _ _ => rfl) (Ev.var (E := (vB (dT dI))) (x := s17) rfl rfl)) (fun _ => rfl)
@[irreducible] def m_corner_sums (a_table : (List (List Int))) : Rz (List (List Int)) := Z.run (Y.fin (
  Z.so (Z.lift (m_check_table a_table)) fun _ =>
  Z.so (Z.lift (m_sums_of a_table)) fun x => Y.rt x))
theorem corner_sums_is {k : Nat} (hk : 5 ≤ k) (a_table : (List (List Int))) (m : Mem) : sem tab k f_corner_sums [(vD (dT (dT dI))) a_table] m = (m_corner_sums a_table).rs (vD (dT (dT dI))) m := by
  unfold m_corner_sums
  exact sem_P (n := 4) (d := c_corner_sums) rfl hk fun k hk => fin_P (S := sem tab k) (m := m) (Env0 := Empty.elim) (by rfl) <|
  Sq.ex (re := Z.lift (m_check_table a_table)) (Ev.call1T (E := (vD dU)) (g := Z.lift (m_check_table a_table)) (fun w => call_P (M := fun _ => m) (w := w) rfl (check_table_is (by omega) a_table _)) (Ev.var (E := (vD (dT (dT dI)))) (x := a_table) rfl rfl)) <|
  Sq.ret (re := Z.lift (m_sums_of a_table)) (Ev.call1T (E := (vD (dT (dT dI)))) (g := Z.lift (m_sums_of a_table)) (fun w => call_P (M := fun _ => m) (w := w) rfl (sums_of_is (by omega) a_table _)) (Ev.var (E := (vD (dT (dT dI)))) (x := a_table) rfl rfl)) (fun _ => rfl)
@[irreducible] def m_are_sums (a_value : (List (List Int))) : Rz Bool := Z.run (Y.fin (
  Z.so ((Z.lift (m_is_square a_value (2 : Int) ((5 : Int) + (1 : Int)) (0 : Int) (5 : Int))).bind fun x1 => Z.ok (!x1)) fun k => if k then Y.all (Z.so (Z.ok (false)) fun x => Y.rt x) else
  Z.so ((Z.lift (m_columns_of a_value)).bind fun x2 => Z.fits (a_value ++ x2)) fun lines3 =>
  Z.so (Z.if (rangeOk 0 ((a_value.length : Nat) : Int)) (rangeZ 0 ((a_value.length : Nat) : Int))) fun full4 =>
  Z.so (Z.ok (((a_value.length : Nat) : Int))) fun count5 =>
  Z.so ((((((Z.opt (L2.atI lines3 (0 : Int))).bind fun x11 => ((Z.opt (L2.atI lines3 count5)).bind fun x9 => ((Z.ok [] : Z _ (List (List Int)))).bind fun x10 => Z.ok (x9 :: x10)).bind fun x12 => Z.ok (x11 :: x12)).bind Z.fits).bind fun x15 => Z.lc (fun (e13 : (List Int)) => (Z.opt (maxZ e13)).bind fun x14 => Z.ok (decide ((0 : Int) < x14))) x15).bind fun x16 => Z.ok ((x16).any id)).bind fun x17 => if x17 then Z.ok true else ((Z.opt (L2.atI lines3 (count5 - (1 : Int)))).bind fun x7 => Z.ok (!decide (x7 = full4))).bind fun x8 => if x8 then Z.ok true else (Z.opt (L2.atI lines3 (-(1 : Int)))).bind fun x6 => Z.ok (!decide (x6 = full4))) fun k => if k then Y.all (Z.so (Z.ok (false)) fun x => Y.rt x) else
  Y.then (Z.so (Z.ok (lines3)) fun xs => Y.for (fun (s18 : Unit) (e19 : (List Int)) =>
    Z.so ((Z.fits (((List.zip e19 (cut e19 (some (1 : Int)) none))).map fun (e20 : (Int × Int)) => !decide ((e20.2 - e20.1) ∈ ([(0 : Int), (1 : Int)] : List Int)))).bind fun x21 => Z.ok ((x21).any id)) fun k => if k then Y.all (Z.so (Z.ok (false)) fun x => Y.rt x) else
    Y.nx ()) xs ()) fun s22 =>
  Z.so (Z.ok (true)) fun x => Y.rt x))
theorem are_sums_is {k : Nat} (hk : 3 ≤ k) (a_value : (List (List Int))) (m : Mem) : sem tab k f_are_sums [(vD (dT (dT dI))) a_value] m = (m_are_sums a_value).rs (vD dB) m := by
  unfold m_are_sums
  exact sem_P (n := 2) (d := c_are_sums) rfl hk fun k hk => fin_P (S := sem tab k) (m := m) (Env0 := Empty.elim) (by rfl) <|
  Sq.ifR (Env0 := Empty.elim) (rc := (Z.lift (m_is_square a_value (2 : Int) ((5 : Int) + (1 : Int)) (0 : Int) (5 : Int))).bind fun x1 => Z.ok (!x1)) (Ev.nt (Ev.call5T (E := (vD dB)) (g := Z.lift (m_is_square a_value (2 : Int) ((5 : Int) + (1 : Int)) (0 : Int) (5 : Int))) (fun w => call_P (M := fun _ => m) (w := w) rfl (is_square_is (by omega) a_value (2 : Int) ((5 : Int) + (1 : Int)) (0 : Int) (5 : Int) _)) (Ev.var (E := (vD (dT (dT dI)))) (x := a_value) rfl rfl) (Ev.int 2) (Ev.add (Ev.gint _ _) (Ev.int 1)) (Ev.int 0) (Ev.gint _ _))) (Sq.ret (re := Z.ok (false)) (Ev.bl false) (fun _ => rfl)) <|
  Sq.asg (re := (Z.lift (m_columns_of a_value)).bind fun x2 => Z.fits (a_value ++ x2)) (η1 := fun (lines3 : (List (List Int))) => [some ((vD (dT (dT dI))) a_value), some ((vN (dT dI)) lines3), none, none, none, none, none]) (Ev.catL (d := (dT dI)) (fun _ _ _ => rfl) (Ev.list (d := (dT dI)) (fun _ _ => rfl) (Ev.var (E := (vD (dT (dT dI)))) (x := a_value) rfl rfl)) (Ev.call1T (E := (vN (dT dI))) (g := Z.lift (m_columns_of a_value)) (fun w => call_P (M := fun _ => m) (w := w) rfl (columns_of_is (by omega) a_value _)) (Ev.var (E := (vD (dT (dT dI)))) (x := a_value) rfl rfl))) (fun _ => rfl) (fun _ => rfl) fun lines3 =>
  Sq.par2 (ra := Z.if (rangeOk 0 ((a_value.length : Nat) : Int)) (rangeZ 0 ((a_value.length : Nat) : Int))) (rb := Z.ok (((a_value.length : Nat) : Int))) (η1 := fun (full4 : (List Int)) (count5 : Int) => [some ((vD (dT (dT dI))) a_value), some ((vN (dT dI)) lines3), some ((vD (dT dI)) full4), some ((vD dI) count5), none, none, none]) (Ev.rngT (Ev.len (d := (dT dI)) (fun _ _ => rfl) (Ev.var (E := (vD (dT (dT dI)))) (x := a_value) rfl rfl))) (Ev.len (d := (dT dI)) (fun _ _ => rfl) (Ev.var (E := (vD (dT (dT dI)))) (x := a_value) rfl rfl)) (fun _ _ => rfl) fun full4 count5 =>
  Sq.ifR (Env0 := Empty.elim) (rc := (((((Z.opt (L2.atI lines3 (0 : Int))).bind fun x11 => ((Z.opt (L2.atI lines3 count5)).bind fun x9 => ((Z.ok [] : Z _ (List (List Int)))).bind fun x10 => Z.ok (x9 :: x10)).bind fun x12 => Z.ok (x11 :: x12)).bind Z.fits).bind fun x15 => Z.lc (fun (e13 : (List Int)) => (Z.opt (maxZ e13)).bind fun x14 => Z.ok (decide ((0 : Int) < x14))) x15).bind fun x16 => Z.ok ((x16).any id)).bind fun x17 => if x17 then Z.ok true else ((Z.opt (L2.atI lines3 (count5 - (1 : Int)))).bind fun x7 => Z.ok (!decide (x7 = full4))).bind fun x8 => if x8 then Z.ok true else (Z.opt (L2.atI lines3 (-(1 : Int)))).bind fun x6 => Z.ok (!decide (x6 = full4))) (Ev.or (Ev.any (fun _ _ => rfl) (Ev.lc (d' := dB) (g := fun (e13 : (List Int)) => (Z.opt (maxZ e13)).bind fun x14 => Z.ok (decide ((0 : Int) < x14))) (η1 := fun (e13 : (List Int)) => [some ((vD (dT (dT dI))) a_value), some ((vN (dT dI)) lines3), some ((vD (dT dI)) full4), some ((vD dI) count5), some ((vD (dT dI)) e13), none, none]) (EvI.seq (d := (dT dI)) (fun _ => rfl) (fun _ => rfl) (Ev.tup (EvL.cons (d := (dT dI)) (f := fun z => z) (fun _ => rfl) (Ev.ix (d := (dT dI)) (fun _ _ _ => rfl) (Ev.var (E := (vB (dT dI))) (x := lines3) rfl rfl) (Ev.int 0)) (EvL.cons (d := (dT dI)) (f := fun z => z) (fun _ => rfl) (Ev.ix (d := (dT dI)) (fun _ _ _ => rfl) (Ev.var (E := (vB (dT dI))) (x := lines3) rfl rfl) (Ev.var (E := (vD dI)) (x := count5) rfl rfl)) (EvL.nil (d := (dT dI))))))) (fun _ => rfl) (fun _ => rfl) fun (e13 : (List Int)) => (Ev.gt (Ev.max (fun _ _ => rfl) (Ev.var (E := (vD (dT dI))) (x := e13) rfl rfl)) (Ev.int 0)))) (Ev.or (Ev.ne (Good.T Good.I) (by decide) (fun _ _ _ => rfl) (Ev.ix (d := (dT dI)) (fun _ _ _ => rfl) (Ev.var (E := (vB (dT dI))) (x := lines3) rfl rfl) (Ev.sub (Ev.var (E := (vD dI)) (x := count5) rfl rfl) (Ev.int 1))) (Ev.var (E := (vD (dT dI))) (x := full4) rfl rfl)) (Ev.one (Ev.ne (Good.T Good.I) (by decide) (fun _ _ _ => rfl) (Ev.ix (d := (dT dI)) (fun _ _ _ => rfl) (Ev.var (E := (vB (dT dI))) (x := lines3) rfl rfl) (Ev.neg (Ev.int 1))) (Ev.var (E := (vD (dT dI))) (x := full4) rfl rfl))))) (Sq.ret (re := Z.ok (false)) (Ev.bl false) (fun _ => rfl)) <|
  Sq.env (η' := [some ((vD (dT (dT dI))) a_value), some ((vD (dL (dT dI))) lines3), some ((vD (dT dI)) full4), some ((vD dI) count5), none, none, none]) (fun _ => rfl) <|
  Sq.for (ri := Z.ok (lines3)) (s0 := ()) (Env1 := fun (s18 : Unit) => [some ((vD (dT (dT dI))) a_value), some ((vD (dL (dT dI))) lines3), some ((vD (dT dI)) full4), some ((vD dI) count5), none, none, none]) (η1 := fun (s18 : Unit) (e19 : (List Int)) => [some ((vD (dT (dT dI))) a_value), some ((vD (dL (dT dI))) lines3), some ((vD (dT dI)) full4), some ((vD dI) count5), some ((vD (dT dI)) e19), none, none]) rfl (EvI.seq (d := (dT dI)) (fun _ => rfl) (fun _ => rfl) (Ev.var (E := (vD (dL (dT dI)))) (x := lines3) rfl rfl)) (fun _ _ => rfl) (fun (s18 : Unit) (e19 : (List Int)) =>
    Sq.ifR (Env0 := Empty.elim) (rc := (Z.fits (((List.zip e19 (cut e19 (some (1 : Int)) none))).map fun (e20 : (Int × Int)) => !decide ((e20.2 - e20.1) ∈ ([(0 : Int), (1 : Int)] : List Int)))).bind fun x21 => Z.ok ((x21).any id)) (Ev.any (fun _ _ => rfl) (Ev.lcT (d' := dB) (g := fun (e20 : (Int × Int)) => !decide ((e20.2 - e20.1) ∈ ([(0 : Int), (1 : Int)] : List Int))) (η1 := fun (e20 : (Int × Int)) => [some ((vD (dT (dT dI))) a_value), some ((vD (dL (dT dI))) lines3), some ((vD (dT dI)) full4), some ((vD dI) count5), some ((vD (dT dI)) e19), some ((vD dI) e20.1), some ((vD dI) e20.2)]) (EvI.zip (d := dI) (d' := dI) (fun _ _ => rfl) (fun _ => rfl) (fun _ => rfl) (Ev.var (E := (vD (dT dI))) (x := e19) rfl rfl) (Ev.sl (E := (vD (dT dI))) sl_T (Ev.var (E := (vD (dT dI))) (x := e19) rfl rfl) (EvO.yes (Ev.int 1)) EvO.no)) (fun _ => rfl) (fun _ => rfl) fun (e20 : (Int × Int)) => (Ev.ninT (Ev.sub (Ev.var (E := (vD dI)) (x := e20.2) rfl rfl) (Ev.var (E := (vD dI)) (x := e20.1) rfl rfl)) (Ev.tup (EvL.cons (d := dI) (f := fun z => z) (fun _ => rfl) (Ev.int 0) (EvL.cons (d := dI) (f := fun z => z) (fun _ => rfl) (Ev.int 1) (EvL.nil (d := dI)))))))) (Sq.ret (re := Z.ok (false)) (Ev.bl false) (fun _ => rfl)) <|
    Sq.env (η' := [some ((vD (dT (dT dI))) a_value), some ((vD (dL (dT dI))) lines3), some ((vD (dT dI)) full4), some ((vD dI) count5), none, none, none]) (fun _ => rfl) <|
    Sq.nil rfl) fun (s22 : Unit) =>
  Sq.ret (re := Z.ok (true)) (Ev.bl true) (fun _ => rfl)
@[irreducible] def m_table_of (a_sums : (List (List Int))) : Rz (List (List Int)) := Z.run (Y.fin (
  Z.so (Z.ok (([] : List (List Int)))) fun rows1 =>
  Y.then (Z.so (Z.ok (List.zip a_sums (cut a_sums (some (1 : Int)) none))) fun xs => Y.for (fun (s2 : ((List (List Int)))) (e3 : ((List Int) × (List Int))) =>
    Z.so (Z.fits (((List.zip e3.1 e3.2)).map fun (e4 : (Int × Int)) => e4.2 - e4.1)) fun steps5 =>
    Z.so (Z.fits (((List.zip steps5 (cut steps5 (some (1 : Int)) none))).map fun (e7 : (Int × Int)) => e7.2 - e7.1)) fun y => Z.so (Z.fits (s2 ++ [y])) fun rows6 =>
    Y.nx (rows6)) xs (rows1)) fun s8 =>
  Z.so (Z.ok (s8)) fun x => Y.rt x))
theorem table_of_is {k : Nat} (hk : 1 ≤ k) (a_sums : (List (List Int))) (m : Mem) : sem tab k f_table_of [(vD (dT (dT dI))) a_sums] m = (m_table_of a_sums).rs (vD (dT (dT dI))) m := by
  unfold m_table_of
  exact sem_P (n := 0) (d := c_table_of) rfl hk fun k hk => fin_P (S := sem tab k) (m := m) (Env0 := Empty.elim) (by rfl) <|
  Sq.asg (re := Z.ok (([] : List (List Int)))) (η1 := fun (rows1 : (List (List Int))) => [some ((vD (dT (dT dI))) a_sums), some ((vN (dT dI)) rows1), none, none, none, none, none, none, none]) (Ev.lst (EvL.nil (d := (dT dI)))) (fun _ => rfl) (fun _ => rfl) fun rows1 =>
  Sq.for (ri := Z.ok (List.zip a_sums (cut a_sums (some (1 : Int)) none))) (s0 := (rows1)) (Env1 := fun (s2 : ((List (List Int)))) => [some ((vD (dT (dT dI))) a_sums), some ((vN (dT dI)) s2), none, none, none, none, none, none, none]) (η1 := fun (s2 : ((List (List Int)))) (e3 : ((List Int) × (List Int))) => [some ((vD (dT (dT dI))) a_sums), some ((vN (dT dI)) s2), some ((vD (dT dI)) e3.1), some ((vD (dT dI)) e3.2), none, none, none, none, none]) rfl (EvI.zip (d := (dT dI)) (d' := (dT dI)) (fun _ _ => rfl) (fun _ => rfl) (fun _ => rfl) (Ev.var (E := (vD (dT (dT dI)))) (x := a_sums) rfl rfl) (Ev.sl (E := (vD (dT (dT dI)))) sl_T (Ev.var (E := (vD (dT (dT dI)))) (x := a_sums) rfl rfl) (EvO.yes (Ev.int 1)) EvO.no)) (fun _ _ => rfl) (fun (s2 : ((List (List Int)))) (e3 : ((List Int) × (List Int))) =>
    Sq.asg (re := Z.fits (((List.zip e3.1 e3.2)).map fun (e4 : (Int × Int)) => e4.2 - e4.1)) (η1 := fun (steps5 : (List Int)) => [some ((vD (dT (dT dI))) a_sums), some ((vN (dT dI)) s2), some ((vD (dT dI)) e3.1), some ((vD (dT dI)) e3.2), none, none, some ((vN dI) steps5), none, none]) (Ev.lcT (d' := dI) (g := fun (e4 : (Int × Int)) => e4.2 - e4.1) (η1 := fun (e4 : (Int × Int)) => [some ((vD (dT (dT dI))) a_sums), some ((vN (dT dI)) s2), some ((vD (dT dI)) e3.1), some ((vD (dT dI)) e3.2), some ((vD dI) e4.1), some ((vD dI) e4.2), none, none, none]) (EvI.zip (d := dI) (d' := dI) (fun _ _ => rfl) (fun _ => rfl) (fun _ => rfl) (Ev.var (E := (vD (dT dI))) (x := e3.1) rfl rfl) (Ev.var (E := (vD (dT dI))) (x := e3.2) rfl rfl)) (fun _ => rfl) (fun _ => rfl) fun (e4 : (Int × Int)) => (Ev.sub (Ev.var (E := (vD dI)) (x := e4.2) rfl rfl) (Ev.var (E := (vD dI)) (x := e4.1) rfl rfl))) (fun _ => rfl) (fun _ => rfl) fun steps5 =>
    Sq.app (xs := s2) (d := (dT dI)) (f := fun y => y) (re := Z.fits (((List.zip steps5 (cut steps5 (some (1 : Int)) none))).map fun (e7 : (Int × Int)) => e7.2 - e7.1)) (η1 := fun (rows6 : (List (List Int))) => [some ((vD (dT (dT dI))) a_sums), some ((vN (dT dI)) rows6), some ((vD (dT dI)) e3.1), some ((vD (dT dI)) e3.2), none, none, some ((vN dI) steps5), none, none]) rfl (fun _ => rfl) (Ev.tuple (d := dI) (fun _ _ => rfl) (Ev.lcT (d' := dI) (g := fun (e7 : (Int × Int)) => e7.2 - e7.1) (η1 := fun (e7 : (Int × Int)) => [some ((vD (dT (dT dI))) a_sums), some ((vN (dT dI)) s2), some ((vD (dT dI)) e3.1), some ((vD (dT dI)) e3.2), none, none, some ((vN dI) steps5), some ((vD dI) e7.1), some ((vD dI) e7.2)]) (EvI.zip (d := dI) (d' := dI) (fun _ _ => rfl) (fun _ => rfl) (fun _ => rfl) (Ev.var (E := (vB dI)) (x := steps5) rfl rfl) (Ev.sl (E := (vN dI)) sl_B (Ev.var (E := (vB dI)) (x := steps5) rfl rfl) (EvO.yes (Ev.int 1)) EvO.no)) (fun _ => rfl) (fun _ => rfl) fun (e7 : (Int × Int)) => (Ev.sub (Ev.var (E := (vD dI)) (x := e7.2) rfl rfl) (Ev.var (E := (vD dI)) (x := e7.1) rfl rfl)))) (fun _ => rfl) fun rows6 =>
    Sq.env (η' := [some ((vD (dT (dT dI))) a_sums), some ((vN (dT dI)) rows6), none, none, none, none, none, none, none]) (fun _ => rfl) <|
    Sq.nil rfl) fun (s8 : ((List (List Int)))) =>
  Sq.ret (re := Z.ok (s8)) (Ev.tuple (d := (dT dI)) (fun _ _ => rfl) (Ev.var (E := (vB (dT dI))) (x := s8) rfl rfl)) (fun _ => rfl)
@[irreducible] def m_from_sums (a_value : (List (List Int))) : Rz (List (List Int)) := Z.run (Y.fin (
  Z.so ((Z.lift (m_are_sums a_value)).bind fun x1 => Z.ok (!x1)) fun k => if k then Y.all (Y.ex "InvalidSums") else
  Z.so (Z.lift (m_table_of a_value)) fun x => Y.rt x))
theorem from_sums_is {k : Nat} (hk : 4 ≤ k) (a_value : (List (List Int))) (m : Mem) : sem tab k f_from_sums [(vD (dT (dT dI))) a_value] m = (m_from_sums a_value).rs (vD (dT (dT dI))) m := by
  unfold m_from_sums
  exact sem_P (n := 3) (d := c_from_sums) rfl hk fun k hk => fin_P (S := sem tab k) (m := m) (Env0 := Empty.elim) (by rfl) <|
  Sq.ifR (Env0 := Empty.elim) (rc := (Z.lift (m_are_sums a_value)).bind fun x1 => Z.ok (!x1)) (Ev.nt (Ev.call1T (E := (vD dB)) (g := Z.lift (m_are_sums a_value)) (fun w => call_P (M := fun _ => m) (w := w) rfl (are_sums_is (by omega) a_value _)) (Ev.var (E := (vD (dT (dT dI)))) (x := a_value) rfl rfl))) (Sq.rais) <|
  Sq.ret (re := Z.lift (m_table_of a_value)) (Ev.call1T (E := (vD (dT (dT dI)))) (g := Z.lift (m_table_of a_value)) (fun w => call_P (M := fun _ => m) (w := w) rfl (table_of_is (by omega) a_value _)) (Ev.var (E := (vD (dT (dT dI)))) (x := a_value) rfl rfl)) (fun _ => rfl)
@[irreducible] def m_triangle (a_table : (List (List Int))) : Rz (List (List Int)) := Z.run (Y.fin (
  Z.so (Z.lift (m_check_table a_table)) fun _ =>
  Z.so (Z.if (smallRep ((a_table.length : Nat) : Int) (([(0 : Int)] : List Int)).length) (rep (((a_table.length : Nat) : Int)).toNat ([(0 : Int)] : List Int))) fun above1 =>
  Z.so (Z.ok (([] : List (List Int)))) fun rows2 =>
  Y.then (Z.so (Z.ok (a_table)) fun xs => Y.for (fun (s3 : ((List Int) × (List (List Int)))) (e4 : (List Int)) =>
    Z.so (Z.fits (((List.zip s3.1 e4)).map fun (e5 : (Int × Int)) => e5.1 + e5.2)) fun above6 =>
    Z.so (Z.fits ((((enumZ above6)).filter fun (e8 : (Int × Int)) => decide (e8.2 = (1 : Int))).map fun (e8 : (Int × Int)) => e8.1)) fun y => Z.so (Z.fits (s3.2 ++ [y])) fun rows7 =>
    Y.nx (above6, rows7)) xs (above1, rows2)) fun s9 =>
  Z.so (Z.ok (s9.2)) fun x => Y.rt x))
theorem triangle_is {k : Nat} (hk : 5 ≤ k) (a_table : (List (List Int))) (m : Mem) : sem tab k f_triangle [(vD (dT (dT dI))) a_table] m = (m_triangle a_table).rs (vD (dT (dT dI))) m := by
  unfold m_triangle
  exact sem_P (n := 4) (d := c_triangle) rfl hk fun k hk => fin_P (S := sem tab k) (m := m) (Env0 := Empty.elim) (by rfl) <|
  Sq.ex (re := Z.lift (m_check_table a_table)) (Ev.call1T (E := (vD dU)) (g := Z.lift (m_check_table a_table)) (fun w => call_P (M := fun _ => m) (w := w) rfl (check_table_is (by omega) a_table _)) (Ev.var (E := (vD (dT (dT dI)))) (x := a_table) rfl rfl)) <|
  Sq.par2 (ra := Z.if (smallRep ((a_table.length : Nat) : Int) (([(0 : Int)] : List Int)).length) (rep (((a_table.length : Nat) : Int)).toNat ([(0 : Int)] : List Int))) (rb := Z.ok (([] : List (List Int)))) (η1 := fun (above1 : (List Int)) (rows2 : (List (List Int))) => [some ((vD (dT (dT dI))) a_table), some ((vN dI) above1), some ((vN (dT dI)) rows2), none, none, none, none]) (Ev.repL (d := dI) (fun _ _ _ => rfl) (Ev.lst (EvL.cons (d := dI) (f := fun z => z) (fun _ => rfl) (Ev.int 0) (EvL.nil (d := dI)))) (Ev.len (d := (dT dI)) (fun _ _ => rfl) (Ev.var (E := (vD (dT (dT dI)))) (x := a_table) rfl rfl))) (Ev.lst (EvL.nil (d := (dT dI)))) (fun _ _ => rfl) fun above1 rows2 =>
  Sq.for (ri := Z.ok (a_table)) (s0 := (above1, rows2)) (Env1 := fun (s3 : ((List Int) × (List (List Int)))) => [some ((vD (dT (dT dI))) a_table), some ((vN dI) s3.1), some ((vN (dT dI)) s3.2), none, none, none, none]) (η1 := fun (s3 : ((List Int) × (List (List Int)))) (e4 : (List Int)) => [some ((vD (dT (dT dI))) a_table), some ((vN dI) s3.1), some ((vN (dT dI)) s3.2), some ((vD (dT dI)) e4), none, none, none]) rfl (EvI.seq (d := (dT dI)) (fun _ => rfl) (fun _ => rfl) (Ev.var (E := (vD (dT (dT dI)))) (x := a_table) rfl rfl)) (fun _ _ => rfl) (fun (s3 : ((List Int) × (List (List Int)))) (e4 : (List Int)) =>
    Sq.asg (re := Z.fits (((List.zip s3.1 e4)).map fun (e5 : (Int × Int)) => e5.1 + e5.2)) (η1 := fun (above6 : (List Int)) => [some ((vD (dT (dT dI))) a_table), some ((vN dI) above6), some ((vN (dT dI)) s3.2), some ((vD (dT dI)) e4), none, none, none]) (Ev.lcT (d' := dI) (g := fun (e5 : (Int × Int)) => e5.1 + e5.2) (η1 := fun (e5 : (Int × Int)) => [some ((vD (dT (dT dI))) a_table), some ((vN dI) s3.1), some ((vN (dT dI)) s3.2), some ((vD (dT dI)) e4), some ((vD dI) e5.1), some ((vD dI) e5.2), none]) (EvI.zip (d := dI) (d' := dI) (fun _ _ => rfl) (fun _ => rfl) (fun _ => rfl) (Ev.var (E := (vB dI)) (x := s3.1) rfl rfl) (Ev.var (E := (vD (dT dI))) (x := e4) rfl rfl)) (fun _ => rfl) (fun _ => rfl) fun (e5 : (Int × Int)) => (Ev.add (Ev.var (E := (vD dI)) (x := e5.1) rfl rfl) (Ev.var (E := (vD dI)) (x := e5.2) rfl rfl))) (fun _ => rfl) (fun _ => rfl) fun above6 =>
    Sq.app (xs := s3.2) (d := (dT dI)) (f := fun y => y) (re := Z.fits ((((enumZ above6)).filter fun (e8 : (Int × Int)) => decide (e8.2 = (1 : Int))).map fun (e8 : (Int × Int)) => e8.1)) (η1 := fun (rows7 : (List (List Int))) => [some ((vD (dT (dT dI))) a_table), some ((vN dI) above6), some ((vN (dT dI)) rows7), some ((vD (dT dI)) e4), none, none, none]) rfl (fun _ => rfl) (Ev.tuple (d := dI) (fun _ _ => rfl) (Ev.lcIfT (d' := dI) (p := fun (e8 : (Int × Int)) => decide (e8.2 = (1 : Int))) (g := fun (e8 : (Int × Int)) => e8.1) (η1 := fun (e8 : (Int × Int)) => [some ((vD (dT (dT dI))) a_table), some ((vN dI) above6), some ((vN (dT dI)) s3.2), some ((vD (dT dI)) e4), some ((vD dI) e8.2), none, some ((vD dI) e8.1)]) (EvI.enum (d := dI) (fun _ => rfl) (fun _ => rfl) (Ev.var (E := (vB dI)) (x := above6) rfl rfl)) (fun _ => rfl) (fun _ => rfl) (fun (e8 : (Int × Int)) => (Ev.eq Good.I (by decide) (fun _ _ _ => rfl) (Ev.var (E := (vD dI)) (x := e8.2) rfl rfl) (Ev.int 1))) fun (e8 : (Int × Int)) => (Ev.var (E := (vD dI)) (x := e8.1) rfl rfl))) (fun _ => rfl) fun rows7 =>
    Sq.env (η' := [some ((vD (dT (dT dI))) a_table), some ((vN dI) above6), some ((vN (dT dI)) rows7), none, none, none, none]) (fun _ => rfl) <|
    Sq.nil rfl) fun (s9 : ((List Int) × (List (List Int)))) =>
  Sq.ret (re := Z.ok (s9.2)) (Ev.tuple (d := (dT dI)) (fun _ _ => rfl) (Ev.var (E := (vB (dT dI))) (x := s9.2) rfl rfl)) (fun _ => rfl)
@[irreducible] def m_mirrored (a_table : (List (List Int))) : Rz (List (List Int)) := Z.run (Y.fin (
  Z.so (Z.lift (m_check_table a_table)) fun _ =>
  Z.so (Z.fits ((a_table).map fun (e1 : (List Int)) => (e1).reverse)) fun x => Y.rt x))
theorem mirrored_is {k : Nat} (hk : 5 ≤ k) (a_table : (List (List Int))) (m : Mem) : sem tab k f_mirrored [(vD (dT (dT dI))) a_table] m = (m_mirrored a_table).rs (vD (dT (dT dI))) m := by
  unfold m_mirrored
  exact sem_P (n := 4) (d := c_mirrored) rfl hk fun k hk => fin_P (S := sem tab k) (m := m) (Env0 := Empty.elim) (by rfl) <|
  Sq.ex (re := Z.lift (m_check_table a_table)) (Ev.call1T (E := (vD dU)) (g := Z.lift (m_check_table a_table)) (fun w => call_P (M := fun _ => m) (w := w) rfl (check_table_is (by omega) a_table _)) (Ev.var (E := (vD (dT (dT dI)))) (x := a_table) rfl rfl)) <|
  Sq.ret (re := Z.fits ((a_table).map fun (e1 : (List Int)) => (e1).reverse)) (Ev.tuple (d := (dT dI)) (fun _ _ => rfl) (Ev.lcT (d' := (dT dI)) (g := fun (e1 : (List Int)) => (e1).reverse) (η1 := fun (e1 : (List Int)) => [some ((vD (dT (dT dI))) a_table), some ((vD (dT dI)) e1)]) (EvI.seq (d := (dT dI)) (fun _ => rfl) (fun _ => rfl) (Ev.var (E := (vD (dT (dT dI)))) (x := a_table) rfl rfl)) (fun _ => rfl) (fun _ => rfl) fun (e1 : (List Int)) => (Ev.rev (E := (vD (dT dI))) rev_T (Ev.var (E := (vD (dT dI))) (x := e1) rfl rfl)))) (fun _ => rfl)
@[irreducible] def m_exchanged (a_table : (List (List Int))) : Rz (List (List Int)) := Z.run (Y.fin (
  Z.so (Z.lift (m_check_table a_table)) fun _ =>
  Z.so (Z.lift (m_columns_of a_table)) fun x => Y.rt x))
theorem exchanged_is {k : Nat} (hk : 5 ≤ k) (a_table : (List (List Int))) (m : Mem) : sem tab k f_exchanged [(vD (dT (dT dI))) a_table] m = (m_exchanged a_table).rs (vD (dT (dT dI))) m := by
  unfold m_exchanged
  exact sem_P (n := 4) (d := c_exchanged) rfl hk fun k hk => fin_P (S := sem tab k) (m := m) (Env0 := Empty.elim) (by rfl) <|
  Sq.ex (re := Z.lift (m_check_table a_table)) (Ev.call1T (E := (vD dU)) (g := Z.lift (m_check_table a_table)) (fun w => call_P (M := fun _ => m) (w := w) rfl (check_table_is (by omega) a_table _)) (Ev.var (E := (vD (dT (dT dI)))) (x := a_table) rfl rfl)) <|
  Sq.ret (re := Z.lift (m_columns_of a_table)) (Ev.tuple (d := (dT dI)) (fun _ _ => rfl) (Ev.call1T (E := (vN (dT dI))) (g := Z.lift (m_columns_of a_table)) (fun w => call_P (M := fun _ => m) (w := w) rfl (columns_of_is (by omega) a_table _)) (Ev.var (E := (vD (dT (dT dI)))) (x := a_table) rfl rfl))) (fun _ => rfl)
end SS
end
/- SM2 -/
section
set_option linter.all false
set_option maxRecDepth 100000
set_option maxHeartbeats 0
/-! Mirrors, printed by mir.py. -/
namespace SS
open PySem L2
@[irreducible] def m_turned (a_table : (List (List Int))) : Rz (List (List Int)) := Z.run (Y.fin (
  Z.so (Z.lift (m_check_table a_table)) fun _ =>
  Z.so (Z.lift (m_columns_of ((a_table).reverse))) fun x => Y.rt x))
theorem turned_is {k : Nat} (hk : 5 ≤ k) (a_table : (List (List Int))) (m : Mem) : sem tab k f_turned [(vD (dT (dT dI))) a_table] m = (m_turned a_table).rs (vD (dT (dT dI))) m := by
  unfold m_turned
  exact sem_P (n := 4) (d := c_turned) rfl hk fun k hk => fin_P (S := sem tab k) (m := m) (Env0 := Empty.elim) (by rfl) <|
  Sq.ex (re := Z.lift (m_check_table a_table)) (Ev.call1T (E := (vD dU)) (g := Z.lift (m_check_table a_table)) (fun w => call_P (M := fun _ => m) (w := w) rfl (check_table_is (by omega) a_table _)) (Ev.var (E := (vD (dT (dT dI)))) (x := a_table) rfl rfl)) <|
  Sq.ret (re := Z.lift (m_columns_of ((a_table).reverse))) (Ev.tuple (d := (dT dI)) (fun _ _ => rfl) (Ev.call1T (E := (vN (dT dI))) (g := Z.lift (m_columns_of ((a_table).reverse))) (fun w => call_P (M := fun _ => m) (w := w) rfl (columns_of_is (by omega) ((a_table).reverse) _)) (Ev.rev (E := (vD (dT (dT dI)))) rev_T (Ev.var (E := (vD (dT (dT dI)))) (x := a_table) rfl rfl)))) (fun _ => rfl)
@[irreducible] def m_lines_of (a_size : Int) : Rz (List (List Int)) := Z.run (Y.fin (
  Z.so (Z.ok (([([] : List Int)] : List (List Int)))) fun some1 =>
  Y.then (Z.so (Z.if (rangeOk 0 a_size) (rangeZ 0 a_size)) fun xs => Y.for (fun (s2 : ((List (List Int)))) (e3 : Int) =>
    Z.so (Z.ok (([] : List (List Int)))) fun longer4 =>
    Y.then (Z.so (Z.ok (s2)) fun xs => Y.for (fun (s5 : ((List (List Int)))) (e6 : (List Int)) =>
      Z.so (Z.lcIf (fun (e8 : Int) => Z.ok (decide ((((e6).sum) + e8) ∈ ([(0 : Int), (1 : Int)] : List Int)))) (fun (e8 : Int) => Z.fits (e6 ++ ([e8] : List Int))) ([(-(1 : Int)), (0 : Int), (1 : Int)] : List Int)) fun y => Z.so (Z.fits (s5 ++ y)) fun longer7 =>
      Y.nx (longer7)) xs (longer4)) fun s9 =>
    Y.nx (s9)) xs (some1)) fun s10 =>
  Z.so (Z.lcIf (fun (e11 : (List Int)) => Z.lift (m_alternates e11)) (fun (e11 : (List Int)) => Z.ok (e11)) s10) fun x => Y.rt x))
theorem lines_of_is {k : Nat} (hk : 2 ≤ k) (a_size : Int) (m : Mem) : sem tab k f_lines_of [(vD dI) a_size] m = (m_lines_of a_size).rs (vN (dT dI)) m := by
  unfold m_lines_of
  exact sem_P (n := 1) (d := c_lines_of) rfl hk fun k hk => fin_P (S := sem tab k) (m := m) (Env0 := Empty.elim) (by rfl) <|
  Sq.asg (re := Z.ok (([([] : List Int)] : List (List Int)))) (η1 := fun (some1 : (List (List Int))) => [some ((vD dI) a_size), some ((vN (dT dI)) some1), none, none, none, none]) (Ev.lst (EvL.cons (d := (dT dI)) (f := fun z => z) (fun _ => rfl) (Ev.tup (EvL.nil (d := dI))) (EvL.nil (d := (dT dI))))) (fun _ => rfl) (fun _ => rfl) fun some1 =>
  Sq.env (η' := [some ((vD dI) a_size), some ((vD (dL (dT dI))) some1), none, none, none, none]) (fun _ => rfl) <|
  Sq.for (ri := Z.if (rangeOk 0 a_size) (rangeZ 0 a_size)) (s0 := (some1)) (Env1 := fun (s2 : ((List (List Int)))) => [some ((vD dI) a_size), some ((vD (dL (dT dI))) s2), none, none, none, none]) (η1 := fun (s2 : ((List (List Int)))) (e3 : Int) => [some ((vD dI) a_size), some ((vD (dL (dT dI))) s2), some ((vD dI) e3), none, none, none]) rfl (EvI.rng1 (Ev.var (E := (vD dI)) (x := a_size) rfl rfl)) (fun _ _ => rfl) (fun (s2 : ((List (List Int)))) (e3 : Int) =>
    Sq.asg (re := Z.ok (([] : List (List Int)))) (η1 := fun (longer4 : (List (List Int))) => [some ((vD dI) a_size), some ((vD (dL (dT dI))) s2), some ((vD dI) e3), some ((vN (dT dI)) longer4), none, none]) (Ev.lst (EvL.nil (d := (dT dI)))) (fun _ => rfl) (fun _ => rfl) fun longer4 =>
    Sq.env (η' := [some ((vD dI) a_size), some ((vD (dL (dT dI))) s2), some ((vD dI) e3), some ((vN (dT dI)) longer4), none, none]) (fun _ => rfl) <|
    Sq.for (ri := Z.ok (s2)) (s0 := (longer4)) (Env1 := fun (s5 : ((List (List Int)))) => [some ((vD dI) a_size), some ((vD (dL (dT dI))) s2), some ((vD dI) e3), some ((vN (dT dI)) s5), none, none]) (η1 := fun (s5 : ((List (List Int)))) (e6 : (List Int)) => [some ((vD dI) a_size), some ((vD (dL (dT dI))) s2), some ((vD dI) e3), some ((vN (dT dI)) s5), some ((vD (dT dI)) e6), none]) rfl (EvI.seq (d := (dT dI)) (fun _ => rfl) (fun _ => rfl) (Ev.var (E := (vD (dL (dT dI)))) (x := s2) rfl rfl)) (fun _ _ => rfl) (fun (s5 : ((List (List Int)))) (e6 : (List Int)) =>
      Sq.ext (xs := s5) (d := (dT dI)) (re := Z.lcIf (fun (e8 : Int) => Z.ok (decide ((((e6).sum) + e8) ∈ ([(0 : Int), (1 : Int)] : List Int)))) (fun (e8 : Int) => Z.fits (e6 ++ ([e8] : List Int))) ([(-(1 : Int)), (0 : Int), (1 : Int)] : List Int)) (η1 := fun (longer7 : (List (List Int))) => [some ((vD dI) a_size), some ((vD (dL (dT dI))) s2), some ((vD dI) e3), some ((vN (dT dI)) longer7), some ((vD (dT dI)) e6), none]) rfl (Ev.lcIf (d' := (dT dI)) (p := fun (e8 : Int) => Z.ok (decide ((((e6).sum) + e8) ∈ ([(0 : Int), (1 : Int)] : List Int)))) (g := fun (e8 : Int) => Z.fits (e6 ++ ([e8] : List Int))) (η1 := fun (e8 : Int) => [some ((vD dI) a_size), some ((vD (dL (dT dI))) s2), some ((vD dI) e3), some ((vN (dT dI)) s5), some ((vD (dT dI)) e6), some ((vD dI) e8)]) (EvI.seq (d := dI) (fun _ => rfl) (fun _ => rfl) (Ev.tup (EvL.cons (d := dI) (f := fun z => z) (fun _ => rfl) (Ev.neg (Ev.int 1)) (EvL.cons (d := dI) (f := fun z => z) (fun _ => rfl) (Ev.int 0) (EvL.cons (d := dI) (f := fun z => z) (fun _ => rfl) (Ev.int 1) (EvL.nil (d := dI))))))) (fun _ => rfl) (fun _ => rfl) (fun (e8 : Int) => (Ev.inT (Ev.add (Ev.sum (fun _ _ => rfl) (Ev.var (E := (vD (dT dI))) (x := e6) rfl rfl)) (Ev.var (E := (vD dI)) (x := e8) rfl rfl)) (Ev.tup (EvL.cons (d := dI) (f := fun z => z) (fun _ => rfl) (Ev.int 0) (EvL.cons (d := dI) (f := fun z => z) (fun _ => rfl) (Ev.int 1) (EvL.nil (d := dI))))))) fun (e8 : Int) => (Ev.catT (Ev.var (E := (vD (dT dI))) (x := e6) rfl rfl) (Ev.tup (EvL.cons (d := dI) (f := fun z => z) (fun _ => rfl) (Ev.var (E := (vD dI)) (x := e8) rfl rfl) (EvL.nil (d := dI)))))) (fun _ => rfl) fun longer7 =>
      Sq.env (η' := [some ((vD dI) a_size), some ((vD (dL (dT dI))) s2), some ((vD dI) e3), some ((vN (dT dI)) longer7), none, none]) (fun _ => rfl) <|
      Sq.nil rfl) fun (s9 : ((List (List Int)))) =>
    Sq.env (η' := [some ((vD dI) a_size), some ((vD (dL (dT dI))) s9), some ((vD dI) e3), some ((vD (dL (dT dI))) s9), none, none]) (fun _ => rfl) <|
    Sq.env (η' := [some ((vD dI) a_size), some ((vD (dL (dT dI))) s9), none, none, none, none]) (fun _ => rfl) <|
    Sq.nil rfl) fun (s10 : ((List (List Int)))) =>
  Sq.ret (re := Z.lcIf (fun (e11 : (List Int)) => Z.lift (m_alternates e11)) (fun (e11 : (List Int)) => Z.ok (e11)) s10) (Ev.lcIf (d' := (dT dI)) (p := fun (e11 : (List Int)) => Z.lift (m_alternates e11)) (g := fun (e11 : (List Int)) => Z.ok (e11)) (η1 := fun (e11 : (List Int)) => [some ((vD dI) a_size), some ((vD (dL (dT dI))) s10), none, none, some ((vD (dT dI)) e11), none]) (EvI.seq (d := (dT dI)) (fun _ => rfl) (fun _ => rfl) (Ev.var (E := (vD (dL (dT dI)))) (x := s10) rfl rfl)) (fun _ => rfl) (fun _ => rfl) (fun (e11 : (List Int)) => (Ev.call1T (E := (vD dB)) (g := Z.lift (m_alternates e11)) (fun w => call_P (M := fun _ => m) (w := w) rfl (alternates_is (by omega) e11 _)) (Ev.var (E := (vD (dT dI))) (x := e11) rfl rfl))) fun (e11 : (List Int)) => (Ev.var (E := (vD (dT dI))) (x := e11) rfl rfl)) (fun _ => rfl)
@[irreducible] def m_tables_of (a_size : Int) : Rz (List (List (List Int))) := Z.run (Y.fin (
  Z.so ((((Z.if (smallRep a_size (([(0 : Int)] : List Int)).length) (rep (a_size).toNat ([(0 : Int)] : List Int))).bind fun x1 => Z.ok ((([] : List (List Int)), x1))).bind fun x2 => ((Z.ok [] : Z _ (List ((List (List Int)) × (List Int))))).bind fun x3 => Z.ok (x2 :: x3)).bind Z.fits) fun some4 =>
  Z.so (Z.lift (m_lines_of a_size)) fun lines5 =>
  Y.then (Z.so (Z.if (rangeOk 0 a_size) (rangeZ 0 a_size)) fun xs => Y.for (fun (s6 : ((List ((List (List Int)) × (List Int))))) (e7 : Int) =>
    Z.so (Z.ok (([] : List ((List (List Int)) × (List Int))))) fun longer8 =>
    Y.then (Z.so (Z.ok (s6)) fun xs => Y.for (fun (s9 : ((List ((List (List Int)) × (List Int))))) (e10 : ((List (List Int)) × (List Int))) =>
      Y.then (Z.so (Z.ok (lines5)) fun xs => Y.for (fun (s11 : ((List ((List (List Int)) × (List Int))))) (e12 : (List Int)) =>
        Z.so (Z.fits (((List.zip e10.2 e12)).map fun (e13 : (Int × Int)) => e13.1 + e13.2)) fun sums14 =>
        Y.then (Z.so (((Z.opt (minZ sums14)).bind fun x16 => Z.ok (decide ((0 : Int) ≤ x16))).bind fun x17 => if x17 then (Z.opt (maxZ sums14)).bind fun x15 => Z.ok (decide (x15 ≤ (1 : Int))) else Z.ok false) fun k => if k then (Z.so ((Z.fits (e10.1 ++ ([e12] : List (List Int)))).bind fun x20 => Z.ok ((x20, sums14))) fun y => Z.so (Z.fits (s11 ++ [y])) fun longer19 =>
          Y.nx (longer19)) else (Y.nx (s11))) fun s18 =>
        Y.nx (s18)) xs (s9)) fun s21 =>
      Y.nx (s21)) xs (longer8)) fun s22 =>
    Y.nx (s22)) xs (some4)) fun s23 =>
  Z.so (Z.lcIf (fun (e24 : ((List (List Int)) × (List Int))) => (Z.opt (minZ e24.2)).bind fun x25 => Z.ok (decide (x25 = (1 : Int)))) (fun (e24 : ((List (List Int)) × (List Int))) => Z.ok (e24.1)) s23) fun x => Y.rt x))
theorem tables_of_is {k : Nat} (hk : 3 ≤ k) (a_size : Int) (m : Mem) : sem tab k f_tables_of [(vD dI) a_size] m = (m_tables_of a_size).rs (vN (dT (dT dI))) m := by
  unfold m_tables_of
  exact sem_P (n := 2) (d := c_tables_of) rfl hk fun k hk => fin_P (S := sem tab k) (m := m) (Env0 := Empty.elim) (by rfl) <|
  Sq.par2 (ra := (((Z.if (smallRep a_size (([(0 : Int)] : List Int)).length) (rep (a_size).toNat ([(0 : Int)] : List Int))).bind fun x1 => Z.ok ((([] : List (List Int)), x1))).bind fun x2 => ((Z.ok [] : Z _ (List ((List (List Int)) × (List Int))))).bind fun x3 => Z.ok (x2 :: x3)).bind Z.fits) (rb := Z.lift (m_lines_of a_size)) (η1 := fun (some4 : (List ((List (List Int)) × (List Int)))) (lines5 : (List (List Int))) => [some ((vD dI) a_size), some ((vN (dP (dT (dT dI)) (dT dI))) some4), some ((vN (dT dI)) lines5), none, none, none, none, none, none, none, none]) (Ev.lst (EvL.cons (d := (dP (dT (dT dI)) (dT dI))) (f := fun z => z) (fun _ => rfl) (Ev.tup2 (fun _ => rfl) (fun _ => rfl) (Ev.tup (EvL.nil (d := (dT dI)))) (Ev.repT (Ev.tup (EvL.cons (d := dI) (f := fun z => z) (fun _ => rfl) (Ev.int 0) (EvL.nil (d := dI)))) (Ev.var (E := (vD dI)) (x := a_size) rfl rfl))) (EvL.nil (d := (dP (dT (dT dI)) (dT dI)))))) (Ev.call1T (E := (vN (dT dI))) (g := Z.lift (m_lines_of a_size)) (fun w => call_P (M := fun _ => m) (w := w) rfl (lines_of_is (by omega) a_size _)) (Ev.var (E := (vD dI)) (x := a_size) rfl rfl)) (fun _ _ => rfl) fun some4 lines5 =>
  Sq.env (η' := [some ((vD dI) a_size), some ((vD (dL (dP (dT (dT dI)) (dT dI)))) some4), some ((vN (dT dI)) lines5), none, none, none, none, none, none, none, none]) (fun _ => rfl) <|
  Sq.env (η' := [some ((vD dI) a_size), some ((vD (dL (dP (dT (dT dI)) (dT dI)))) some4), some ((vD (dL (dT dI))) lines5), none, none, none, none, none, none, none, none]) (fun _ => rfl) <|
  Sq.for (ri := Z.if (rangeOk 0 a_size) (rangeZ 0 a_size)) (s0 := (some4)) (Env1 := fun (s6 : ((List ((List (List Int)) × (List Int))))) => [some ((vD dI) a_size), some ((vD (dL (dP (dT (dT dI)) (dT dI)))) s6), some ((vD (dL (dT dI))) lines5), none, none, none, none, none, none, none, none]) (η1 := fun (s6 : ((List ((List (List Int)) × (List Int))))) (e7 : Int) => [some ((vD dI) a_size), some ((vD (dL (dP (dT (dT dI)) (dT dI)))) s6), some ((vD (dL (dT dI))) lines5), some ((vD dI) e7), none, none, none, none, none, none, none]) rfl (EvI.rng1 (Ev.var (E := (vD dI)) (x := a_size) rfl rfl)) (fun _ _ => rfl) (fun (s6 : ((List ((List (List Int)) × (List Int))))) (e7 : Int) =>
    Sq.asg (re := Z.ok (([] : List ((List (List Int)) × (List Int))))) (η1 := fun (longer8 : (List ((List (List Int)) × (List Int)))) => [some ((vD dI) a_size), some ((vD (dL (dP (dT (dT dI)) (dT dI)))) s6), some ((vD (dL (dT dI))) lines5), some ((vD dI) e7), some ((vN (dP (dT (dT dI)) (dT dI))) longer8), none, none, none, none, none, none]) (Ev.lst (EvL.nil (d := (dP (dT (dT dI)) (dT dI))))) (fun _ => rfl) (fun _ => rfl) fun longer8 =>
    Sq.env (η' := [some ((vD dI) a_size), some ((vD (dL (dP (dT (dT dI)) (dT dI)))) s6), some ((vD (dL (dT dI))) lines5), some ((vD dI) e7), some ((vN (dP (dT (dT dI)) (dT dI))) longer8), none, none, none, none, none, none]) (fun _ => rfl) <|
    Sq.for (ri := Z.ok (s6)) (s0 := (longer8)) (Env1 := fun (s9 : ((List ((List (List Int)) × (List Int))))) => [some ((vD dI) a_size), some ((vD (dL (dP (dT (dT dI)) (dT dI)))) s6), some ((vD (dL (dT dI))) lines5), some ((vD dI) e7), some ((vN (dP (dT (dT dI)) (dT dI))) s9), none, none, none, none, none, none]) (η1 := fun (s9 : ((List ((List (List Int)) × (List Int))))) (e10 : ((List (List Int)) × (List Int))) => [some ((vD dI) a_size), some ((vD (dL (dP (dT (dT dI)) (dT dI)))) s6), some ((vD (dL (dT dI))) lines5), some ((vD dI) e7), some ((vN (dP (dT (dT dI)) (dT dI))) s9), some ((vD (dT (dT dI))) e10.1), some ((vD (dT dI)) e10.2), none, none, none, none]) rfl (EvI.seq (d := (dP (dT (dT dI)) (dT dI))) (fun _ => rfl) (fun _ => rfl) (Ev.var (E := (vD (dL (dP (dT (dT dI)) (dT dI))))) (x := s6) rfl rfl)) (fun _ _ => rfl) (fun (s9 : ((List ((List (List Int)) × (List Int))))) (e10 : ((List (List Int)) × (List Int))) =>
      Sq.env (η' := [some ((vD dI) a_size), some ((vD (dL (dP (dT (dT dI)) (dT dI)))) s6), some ((vD (dL (dT dI))) lines5), some ((vD dI) e7), some ((vN (dP (dT (dT dI)) (dT dI))) s9), some ((vD (dT (dT dI))) e10.1), some ((vD (dT dI)) e10.2), none, none, none, none]) (fun _ => rfl) <|
      Sq.for (ri := Z.ok (lines5)) (s0 := (s9)) (Env1 := fun (s11 : ((List ((List (List Int)) × (List Int))))) => [some ((vD dI) a_size), some ((vD (dL (dP (dT (dT dI)) (dT dI)))) s6), some ((vD (dL (dT dI))) lines5), some ((vD dI) e7), some ((vN (dP (dT (dT dI)) (dT dI))) s11), some ((vD (dT (dT dI))) e10.1), some ((vD (dT dI)) e10.2), none, none, none, none]) (η1 := fun (s11 : ((List ((List (List Int)) × (List Int))))) (e12 : (List Int)) => [some ((vD dI) a_size), some ((vD (dL (dP (dT (dT dI)) (dT dI)))) s6), some ((vD (dL (dT dI))) lines5), some ((vD dI) e7), some ((vN (dP (dT (dT dI)) (dT dI))) s11), some ((vD (dT (dT dI))) e10.1), some ((vD (dT dI)) e10.2), some ((vD (dT dI)) e12), none, none, none]) rfl (EvI.seq (d := (dT dI)) (fun _ => rfl) (fun _ => rfl) (Ev.var (E := (vD (dL (dT dI)))) (x := lines5) rfl rfl)) (fun _ _ => rfl) (fun (s11 : ((List ((List (List Int)) × (List Int))))) (e12 : (List Int)) =>
        Sq.asg (re := Z.fits (((List.zip e10.2 e12)).map fun (e13 : (Int × Int)) => e13.1 + e13.2)) (η1 := fun (sums14 : (List Int)) => [some ((vD dI) a_size), some ((vD (dL (dP (dT (dT dI)) (dT dI)))) s6), some ((vD (dL (dT dI))) lines5), some ((vD dI) e7), some ((vN (dP (dT (dT dI)) (dT dI))) s11), some ((vD (dT (dT dI))) e10.1), some ((vD (dT dI)) e10.2), some ((vD (dT dI)) e12), none, none, some ((vD (dT dI)) sums14)]) (Ev.tuple (d := dI) (fun _ _ => rfl) (Ev.lcT (d' := dI) (g := fun (e13 : (Int × Int)) => e13.1 + e13.2) (η1 := fun (e13 : (Int × Int)) => [some ((vD dI) a_size), some ((vD (dL (dP (dT (dT dI)) (dT dI)))) s6), some ((vD (dL (dT dI))) lines5), some ((vD dI) e7), some ((vN (dP (dT (dT dI)) (dT dI))) s11), some ((vD (dT (dT dI))) e10.1), some ((vD (dT dI)) e10.2), some ((vD (dT dI)) e12), some ((vD dI) e13.1), some ((vD dI) e13.2), none]) (EvI.zip (d := dI) (d' := dI) (fun _ _ => rfl) (fun _ => rfl) (fun _ => rfl) (Ev.var (E := (vD (dT dI))) (x := e10.2) rfl rfl) (Ev.var (E := (vD (dT dI))) (x := e12) rfl rfl)) (fun _ => rfl) (fun _ => rfl) fun (e13 : (Int × Int)) => (Ev.add (Ev.var (E := (vD dI)) (x := e13.1) rfl rfl) (Ev.var (E := (vD dI)) (x := e13.2) rfl rfl)))) (fun _ => rfl) (fun _ => rfl) fun sums14 =>
        Sq.ifG (rc := ((Z.opt (minZ sums14)).bind fun x16 => Z.ok (decide ((0 : Int) ≤ x16))).bind fun x17 => if x17 then (Z.opt (maxZ sums14)).bind fun x15 => Z.ok (decide (x15 ≤ (1 : Int))) else Z.ok false) (Env1 := fun (s18 : ((List ((List (List Int)) × (List Int))))) => [some ((vD dI) a_size), some ((vD (dL (dP (dT (dT dI)) (dT dI)))) s6), some ((vD (dL (dT dI))) lines5), some ((vD dI) e7), some ((vN (dP (dT (dT dI)) (dT dI))) s18), some ((vD (dT (dT dI))) e10.1), some ((vD (dT dI)) e10.2), some ((vD (dT dI)) e12), none, none, some ((vD (dT dI)) sums14)]) (Ev.and (Ev.ge (Ev.min (fun _ _ => rfl) (Ev.var (E := (vD (dT dI))) (x := sums14) rfl rfl)) (Ev.int 0)) (Ev.one (Ev.le (Ev.max (fun _ _ => rfl) (Ev.var (E := (vD (dT dI))) (x := sums14) rfl rfl)) (Ev.int 1)))) (Sq.app (xs := s11) (d := (dP (dT (dT dI)) (dT dI))) (f := fun y => y) (re := (Z.fits (e10.1 ++ ([e12] : List (List Int)))).bind fun x20 => Z.ok ((x20, sums14))) (η1 := fun (longer19 : (List ((List (List Int)) × (List Int)))) => [some ((vD dI) a_size), some ((vD (dL (dP (dT (dT dI)) (dT dI)))) s6), some ((vD (dL (dT dI))) lines5), some ((vD dI) e7), some ((vN (dP (dT (dT dI)) (dT dI))) longer19), some ((vD (dT (dT dI))) e10.1), some ((vD (dT dI)) e10.2), some ((vD (dT dI)) e12), none, none, some ((vD (dT dI)) sums14)]) rfl (fun _ => rfl) (Ev.tup2 (fun _ => rfl) (fun _ => rfl) (Ev.catT (Ev.var (E := (vD (dT (dT dI)))) (x := e10.1) rfl rfl) (Ev.tup (EvL.cons (d := (dT dI)) (f := fun z => z) (fun _ => rfl) (Ev.var (E := (vD (dT dI))) (x := e12) rfl rfl) (EvL.nil (d := (dT dI)))))) (Ev.var (E := (vD (dT dI))) (x := sums14) rfl rfl)) (fun _ => rfl) fun longer19 =>
          Sq.nil rfl) (Sq.nil rfl) fun s18 =>
        Sq.env (η' := [some ((vD dI) a_size), some ((vD (dL (dP (dT (dT dI)) (dT dI)))) s6), some ((vD (dL (dT dI))) lines5), some ((vD dI) e7), some ((vN (dP (dT (dT dI)) (dT dI))) s18), some ((vD (dT (dT dI))) e10.1), some ((vD (dT dI)) e10.2), none, none, none, none]) (fun _ => rfl) <|
        Sq.nil rfl) fun (s21 : ((List ((List (List Int)) × (List Int))))) =>
      Sq.env (η' := [some ((vD dI) a_size), some ((vD (dL (dP (dT (dT dI)) (dT dI)))) s6), some ((vD (dL (dT dI))) lines5), some ((vD dI) e7), some ((vN (dP (dT (dT dI)) (dT dI))) s21), none, none, none, none, none, none]) (fun _ => rfl) <|
      Sq.nil rfl) fun (s22 : ((List ((List (List Int)) × (List Int))))) =>
    Sq.env (η' := [some ((vD dI) a_size), some ((vD (dL (dP (dT (dT dI)) (dT dI)))) s22), some ((vD (dL (dT dI))) lines5), some ((vD dI) e7), some ((vD (dL (dP (dT (dT dI)) (dT dI)))) s22), none, none, none, none, none, none]) (fun _ => rfl) <|
    Sq.env (η' := [some ((vD dI) a_size), some ((vD (dL (dP (dT (dT dI)) (dT dI)))) s22), some ((vD (dL (dT dI))) lines5), none, none, none, none, none, none, none, none]) (fun _ => rfl) <|
    Sq.nil rfl) fun (s23 : ((List ((List (List Int)) × (List Int))))) =>
  Sq.ret (re := Z.lcIf (fun (e24 : ((List (List Int)) × (List Int))) => (Z.opt (minZ e24.2)).bind fun x25 => Z.ok (decide (x25 = (1 : Int)))) (fun (e24 : ((List (List Int)) × (List Int))) => Z.ok (e24.1)) s23) (Ev.lcIf (d' := (dT (dT dI))) (p := fun (e24 : ((List (List Int)) × (List Int))) => (Z.opt (minZ e24.2)).bind fun x25 => Z.ok (decide (x25 = (1 : Int)))) (g := fun (e24 : ((List (List Int)) × (List Int))) => Z.ok (e24.1)) (η1 := fun (e24 : ((List (List Int)) × (List Int))) => [some ((vD dI) a_size), some ((vD (dL (dP (dT (dT dI)) (dT dI)))) s23), some ((vD (dL (dT dI))) lines5), none, none, some ((vD (dT (dT dI))) e24.1), none, none, none, none, some ((vD (dT dI)) e24.2)]) (EvI.seq (d := (dP (dT (dT dI)) (dT dI))) (fun _ => rfl) (fun _ => rfl) (Ev.var (E := (vD (dL (dP (dT (dT dI)) (dT dI))))) (x := s23) rfl rfl)) (fun _ => rfl) (fun _ => rfl) (fun (e24 : ((List (List Int)) × (List Int))) => (Ev.eq Good.I (by decide) (fun _ _ _ => rfl) (Ev.min (fun _ _ => rfl) (Ev.var (E := (vD (dT dI))) (x := e24.2) rfl rfl)) (Ev.int 1))) fun (e24 : ((List (List Int)) × (List Int))) => (Ev.var (E := (vD (dT (dT dI)))) (x := e24.1) rfl rfl)) (fun _ => rfl)
@[irreducible] def m_permutation_tables (a_size : Int) : Rz (List (List (List Int))) := Z.run (Y.fin (
  Z.so ((Z.lift (m_tables_of a_size)).bind fun x3 => Z.lcIf (fun (e1 : (List (List Int))) => (Z.lift (m_negative_count e1)).bind fun x2 => Z.ok (decide (x2 = (0 : Int)))) (fun (e1 : (List (List Int))) => Z.ok (e1)) x3) fun x => Y.rt x))
theorem permutation_tables_is {k : Nat} (hk : 4 ≤ k) (a_size : Int) (m : Mem) : sem tab k f_permutation_tables [(vD dI) a_size] m = (m_permutation_tables a_size).rs (vN (dT (dT dI))) m := by
  unfold m_permutation_tables
  exact sem_P (n := 3) (d := c_permutation_tables) rfl hk fun k hk => fin_P (S := sem tab k) (m := m) (Env0 := Empty.elim) (by rfl) <|
  Sq.ret (re := (Z.lift (m_tables_of a_size)).bind fun x3 => Z.lcIf (fun (e1 : (List (List Int))) => (Z.lift (m_negative_count e1)).bind fun x2 => Z.ok (decide (x2 = (0 : Int)))) (fun (e1 : (List (List Int))) => Z.ok (e1)) x3) (Ev.lcIf (d' := (dT (dT dI))) (p := fun (e1 : (List (List Int))) => (Z.lift (m_negative_count e1)).bind fun x2 => Z.ok (decide (x2 = (0 : Int)))) (g := fun (e1 : (List (List Int))) => Z.ok (e1)) (η1 := fun (e1 : (List (List Int))) => [some ((vD dI) a_size), some ((vD (dT (dT dI))) e1)]) (EvI.seq (d := (dT (dT dI))) (fun _ => rfl) (fun _ => rfl) (Ev.call1T (E := (vN (dT (dT dI)))) (g := Z.lift (m_tables_of a_size)) (fun w => call_P (M := fun _ => m) (w := w) rfl (tables_of_is (by omega) a_size _)) (Ev.var (E := (vD dI)) (x := a_size) rfl rfl))) (fun _ => rfl) (fun _ => rfl) (fun (e1 : (List (List Int))) => (Ev.eq Good.I (by decide) (fun _ _ _ => rfl) (Ev.call1T (E := (vD dI)) (g := Z.lift (m_negative_count e1)) (fun w => call_P (M := fun _ => m) (w := w) rfl (negative_count_is (by omega) e1 _)) (Ev.var (E := (vD (dT (dT dI)))) (x := e1) rfl rfl)) (Ev.int 0))) fun (e1 : (List (List Int))) => (Ev.var (E := (vD (dT (dT dI)))) (x := e1) rfl rfl)) (fun _ => rfl)
@[irreducible] def m_below (a_one : (List (List Int))) (a_other : (List (List Int))) : Rz Bool := Z.run (Y.fin (
  Y.then (Z.so ((Z.lift (m_sums_of a_one)).bind fun x1 => (Z.lift (m_sums_of a_other)).bind fun x2 => Z.ok (List.zip x1 x2)) fun xs => Y.for (fun (s3 : Unit) (e4 : ((List Int) × (List Int))) =>
    Z.so ((Z.fits (((List.zip e4.1 e4.2)).map fun (e5 : (Int × Int)) => decide (e5.1 < e5.2))).bind fun x6 => Z.ok ((x6).any id)) fun k => if k then Y.all (Z.so (Z.ok (false)) fun x => Y.rt x) else
    Y.nx ()) xs ()) fun s7 =>
  Z.so (Z.ok (true)) fun x => Y.rt x))
theorem below_is {k : Nat} (hk : 2 ≤ k) (a_one : (List (List Int))) (a_other : (List (List Int))) (m : Mem) : sem tab k f_below [(vD (dT (dT dI))) a_one, (vD (dT (dT dI))) a_other] m = (m_below a_one a_other).rs (vD dB) m := by
  unfold m_below
  exact sem_P (n := 1) (d := c_below) rfl hk fun k hk => fin_P (S := sem tab k) (m := m) (Env0 := Empty.elim) (by rfl) <|
  Sq.for (ri := (Z.lift (m_sums_of a_one)).bind fun x1 => (Z.lift (m_sums_of a_other)).bind fun x2 => Z.ok (List.zip x1 x2)) (s0 := ()) (Env1 := fun (s3 : Unit) => [some ((vD (dT (dT dI))) a_one), some ((vD (dT (dT dI))) a_other), none, none, none, none]) (η1 := fun (s3 : Unit) (e4 : ((List Int) × (List Int))) => [some ((vD (dT (dT dI))) a_one), some ((vD (dT (dT dI))) a_other), some ((vD (dT dI)) e4.1), some ((vD (dT dI)) e4.2), none, none]) rfl (EvI.zip (d := (dT dI)) (d' := (dT dI)) (fun _ _ => rfl) (fun _ => rfl) (fun _ => rfl) (Ev.call1T (E := (vD (dT (dT dI)))) (g := Z.lift (m_sums_of a_one)) (fun w => call_P (M := fun _ => m) (w := w) rfl (sums_of_is (by omega) a_one _)) (Ev.var (E := (vD (dT (dT dI)))) (x := a_one) rfl rfl)) (Ev.call1T (E := (vD (dT (dT dI)))) (g := Z.lift (m_sums_of a_other)) (fun w => call_P (M := fun _ => m) (w := w) rfl (sums_of_is (by omega) a_other _)) (Ev.var (E := (vD (dT (dT dI)))) (x := a_other) rfl rfl))) (fun _ _ => rfl) (fun (s3 : Unit) (e4 : ((List Int) × (List Int))) =>
    Sq.ifR (Env0 := Empty.elim) (rc := (Z.fits (((List.zip e4.1 e4.2)).map fun (e5 : (Int × Int)) => decide (e5.1 < e5.2))).bind fun x6 => Z.ok ((x6).any id)) (Ev.any (fun _ _ => rfl) (Ev.lcT (d' := dB) (g := fun (e5 : (Int × Int)) => decide (e5.1 < e5.2)) (η1 := fun (e5 : (Int × Int)) => [some ((vD (dT (dT dI))) a_one), some ((vD (dT (dT dI))) a_other), some ((vD (dT dI)) e4.1), some ((vD (dT dI)) e4.2), some ((vD dI) e5.1), some ((vD dI) e5.2)]) (EvI.zip (d := dI) (d' := dI) (fun _ _ => rfl) (fun _ => rfl) (fun _ => rfl) (Ev.var (E := (vD (dT dI))) (x := e4.1) rfl rfl) (Ev.var (E := (vD (dT dI))) (x := e4.2) rfl rfl)) (fun _ => rfl) (fun _ => rfl) fun (e5 : (Int × Int)) => (Ev.lt (Ev.var (E := (vD dI)) (x := e5.1) rfl rfl) (Ev.var (E := (vD dI)) (x := e5.2) rfl rfl)))) (Sq.ret (re := Z.ok (false)) (Ev.bl false) (fun _ => rfl)) <|
    Sq.env (η' := [some ((vD (dT (dT dI))) a_one), some ((vD (dT (dT dI))) a_other), none, none, none, none]) (fun _ => rfl) <|
    Sq.nil rfl) fun (s7 : Unit) =>
  Sq.ret (re := Z.ok (true)) (Ev.bl true) (fun _ => rfl)
@[irreducible] def m_permutations_below (a_table : (List (List Int))) : Rz (List (List (List Int))) := Z.run (Y.fin (
  Z.so (Z.lift (m_check_table a_table)) fun _ =>
  Z.so ((Z.lift (m_permutation_tables ((a_table.length : Nat) : Int))).bind fun x2 => Z.lcIf (fun (e1 : (List (List Int))) => Z.lift (m_below e1 a_table)) (fun (e1 : (List (List Int))) => Z.ok (e1)) x2) fun x => Y.rt x))
theorem permutations_below_is {k : Nat} (hk : 5 ≤ k) (a_table : (List (List Int))) (m : Mem) : sem tab k f_permutations_below [(vD (dT (dT dI))) a_table] m = (m_permutations_below a_table).rs (vN (dT (dT dI))) m := by
  unfold m_permutations_below
  exact sem_P (n := 4) (d := c_permutations_below) rfl hk fun k hk => fin_P (S := sem tab k) (m := m) (Env0 := Empty.elim) (by rfl) <|
  Sq.ex (re := Z.lift (m_check_table a_table)) (Ev.call1T (E := (vD dU)) (g := Z.lift (m_check_table a_table)) (fun w => call_P (M := fun _ => m) (w := w) rfl (check_table_is (by omega) a_table _)) (Ev.var (E := (vD (dT (dT dI)))) (x := a_table) rfl rfl)) <|
  Sq.ret (re := (Z.lift (m_permutation_tables ((a_table.length : Nat) : Int))).bind fun x2 => Z.lcIf (fun (e1 : (List (List Int))) => Z.lift (m_below e1 a_table)) (fun (e1 : (List (List Int))) => Z.ok (e1)) x2) (Ev.lcIf (d' := (dT (dT dI))) (p := fun (e1 : (List (List Int))) => Z.lift (m_below e1 a_table)) (g := fun (e1 : (List (List Int))) => Z.ok (e1)) (η1 := fun (e1 : (List (List Int))) => [some ((vD (dT (dT dI))) a_table), some ((vD (dT (dT dI))) e1)]) (EvI.seq (d := (dT (dT dI))) (fun _ => rfl) (fun _ => rfl) (Ev.call1T (E := (vN (dT (dT dI)))) (g := Z.lift (m_permutation_tables ((a_table.length : Nat) : Int))) (fun w => call_P (M := fun _ => m) (w := w) rfl (permutation_tables_is (by omega) ((a_table.length : Nat) : Int) _)) (Ev.len (d := (dT dI)) (fun _ _ => rfl) (Ev.var (E := (vD (dT (dT dI)))) (x := a_table) rfl rfl)))) (fun _ => rfl) (fun _ => rfl) (fun (e1 : (List (List Int))) => (Ev.call2T (E := (vD dB)) (g := Z.lift (m_below e1 a_table)) (fun w => call_P (M := fun _ => m) (w := w) rfl (below_is (by omega) e1 a_table _)) (Ev.var (E := (vD (dT (dT dI)))) (x := e1) rfl rfl) (Ev.var (E := (vD (dT (dT dI)))) (x := a_table) rfl rfl))) fun (e1 : (List (List Int))) => (Ev.var (E := (vD (dT (dT dI)))) (x := e1) rfl rfl)) (fun _ => rfl)
@[irreducible] def m_permutations_above (a_table : (List (List Int))) : Rz (List (List (List Int))) := Z.run (Y.fin (
  Z.so (Z.lift (m_check_table a_table)) fun _ =>
  Z.so ((Z.lift (m_permutation_tables ((a_table.length : Nat) : Int))).bind fun x2 => Z.lcIf (fun (e1 : (List (List Int))) => Z.lift (m_below a_table e1)) (fun (e1 : (List (List Int))) => Z.ok (e1)) x2) fun x => Y.rt x))
theorem permutations_above_is {k : Nat} (hk : 5 ≤ k) (a_table : (List (List Int))) (m : Mem) : sem tab k f_permutations_above [(vD (dT (dT dI))) a_table] m = (m_permutations_above a_table).rs (vN (dT (dT dI))) m := by
  unfold m_permutations_above
  exact sem_P (n := 4) (d := c_permutations_above) rfl hk fun k hk => fin_P (S := sem tab k) (m := m) (Env0 := Empty.elim) (by rfl) <|
  Sq.ex (re := Z.lift (m_check_table a_table)) (Ev.call1T (E := (vD dU)) (g := Z.lift (m_check_table a_table)) (fun w => call_P (M := fun _ => m) (w := w) rfl (check_table_is (by omega) a_table _)) (Ev.var (E := (vD (dT (dT dI)))) (x := a_table) rfl rfl)) <|
  Sq.ret (re := (Z.lift (m_permutation_tables ((a_table.length : Nat) : Int))).bind fun x2 => Z.lcIf (fun (e1 : (List (List Int))) => Z.lift (m_below a_table e1)) (fun (e1 : (List (List Int))) => Z.ok (e1)) x2) (Ev.lcIf (d' := (dT (dT dI))) (p := fun (e1 : (List (List Int))) => Z.lift (m_below a_table e1)) (g := fun (e1 : (List (List Int))) => Z.ok (e1)) (η1 := fun (e1 : (List (List Int))) => [some ((vD (dT (dT dI))) a_table), some ((vD (dT (dT dI))) e1)]) (EvI.seq (d := (dT (dT dI))) (fun _ => rfl) (fun _ => rfl) (Ev.call1T (E := (vN (dT (dT dI)))) (g := Z.lift (m_permutation_tables ((a_table.length : Nat) : Int))) (fun w => call_P (M := fun _ => m) (w := w) rfl (permutation_tables_is (by omega) ((a_table.length : Nat) : Int) _)) (Ev.len (d := (dT dI)) (fun _ _ => rfl) (Ev.var (E := (vD (dT (dT dI)))) (x := a_table) rfl rfl)))) (fun _ => rfl) (fun _ => rfl) (fun (e1 : (List (List Int))) => (Ev.call2T (E := (vD dB)) (g := Z.lift (m_below a_table e1)) (fun w => call_P (M := fun _ => m) (w := w) rfl (below_is (by omega) a_table e1 _)) (Ev.var (E := (vD (dT (dT dI)))) (x := a_table) rfl rfl) (Ev.var (E := (vD (dT (dT dI)))) (x := e1) rfl rfl))) fun (e1 : (List (List Int))) => (Ev.var (E := (vD (dT (dT dI)))) (x := e1) rfl rfl)) (fun _ => rfl)
@[irreducible] def m_changed (a_sums : (List (List Int))) (a_i : Int) (a_j : Int) (a_by : Int) : Rz (List (List Int)) := Z.run (Y.fin (
  Z.so ((((Z.opt (L2.atI a_sums a_i)).bind fun x1 => Z.ok (cut x1 none (some a_j))).bind fun x6 => (((((Z.opt (L2.atI a_sums a_i)).bind fun x2 => Z.opt (L2.atI x2 a_j)).bind fun x3 => Z.ok (x3 + a_by)).bind fun x4 => ((Z.ok [] : Z _ (List Int))).bind fun x5 => Z.ok (x4 :: x5)).bind Z.fits).bind fun x7 => Z.fits (x6 ++ x7)).bind fun x9 => ((Z.opt (L2.atI a_sums a_i)).bind fun x8 => Z.ok (cut x8 (some (a_j + (1 : Int))) none)).bind fun x10 => Z.fits (x9 ++ x10)) fun row11 =>
  Z.so ((Z.fits ((cut a_sums none (some a_i)) ++ ([row11] : List (List Int)))).bind fun x12 => Z.fits (x12 ++ (cut a_sums (some (a_i + (1 : Int))) none))) fun x => Y.rt x))
theorem changed_is {k : Nat} (hk : 1 ≤ k) (a_sums : (List (List Int))) (a_i : Int) (a_j : Int) (a_by : Int) (m : Mem) : sem tab k f_changed [(vD (dT (dT dI))) a_sums, (vD dI) a_i, (vD dI) a_j, (vD dI) a_by] m = (m_changed a_sums a_i a_j a_by).rs (vD (dT (dT dI))) m := by
  unfold m_changed
  exact sem_P (n := 0) (d := c_changed) rfl hk fun k hk => fin_P (S := sem tab k) (m := m) (Env0 := Empty.elim) (by rfl) <|
  Sq.asg (re := (((Z.opt (L2.atI a_sums a_i)).bind fun x1 => Z.ok (cut x1 none (some a_j))).bind fun x6 => (((((Z.opt (L2.atI a_sums a_i)).bind fun x2 => Z.opt (L2.atI x2 a_j)).bind fun x3 => Z.ok (x3 + a_by)).bind fun x4 => ((Z.ok [] : Z _ (List Int))).bind fun x5 => Z.ok (x4 :: x5)).bind Z.fits).bind fun x7 => Z.fits (x6 ++ x7)).bind fun x9 => ((Z.opt (L2.atI a_sums a_i)).bind fun x8 => Z.ok (cut x8 (some (a_j + (1 : Int))) none)).bind fun x10 => Z.fits (x9 ++ x10)) (η1 := fun (row11 : (List Int)) => [some ((vD (dT (dT dI))) a_sums), some ((vD dI) a_i), some ((vD dI) a_j), some ((vD dI) a_by), some ((vD (dT dI)) row11)]) (Ev.catT (Ev.catT (Ev.sl (E := (vD (dT dI))) sl_T (Ev.ix (d := (dT dI)) (fun _ _ _ => rfl) (Ev.var (E := (vD (dT (dT dI)))) (x := a_sums) rfl rfl) (Ev.var (E := (vD dI)) (x := a_i) rfl rfl)) EvO.no (EvO.yes (Ev.var (E := (vD dI)) (x := a_j) rfl rfl))) (Ev.tup (EvL.cons (d := dI) (f := fun z => z) (fun _ => rfl) (Ev.add (Ev.ix (d := dI) (fun _ _ _ => rfl) (Ev.ix (d := (dT dI)) (fun _ _ _ => rfl) (Ev.var (E := (vD (dT (dT dI)))) (x := a_sums) rfl rfl) (Ev.var (E := (vD dI)) (x := a_i) rfl rfl)) (Ev.var (E := (vD dI)) (x := a_j) rfl rfl)) (Ev.var (E := (vD dI)) (x := a_by) rfl rfl)) (EvL.nil (d := dI))))) (Ev.sl (E := (vD (dT dI))) sl_T (Ev.ix (d := (dT dI)) (fun _ _ _ => rfl) (Ev.var (E := (vD (dT (dT dI)))) (x := a_sums) rfl rfl) (Ev.var (E := (vD dI)) (x := a_i) rfl rfl)) (EvO.yes (Ev.add (Ev.var (E := (vD dI)) (x := a_j) rfl rfl) (Ev.int 1))) EvO.no)) (fun _ => rfl) (fun _ => rfl) fun row11 =>
  Sq.ret (re := (Z.fits ((cut a_sums none (some a_i)) ++ ([row11] : List (List Int)))).bind fun x12 => Z.fits (x12 ++ (cut a_sums (some (a_i + (1 : Int))) none))) (Ev.catT (Ev.catT (Ev.sl (E := (vD (dT (dT dI)))) sl_T (Ev.var (E := (vD (dT (dT dI)))) (x := a_sums) rfl rfl) EvO.no (EvO.yes (Ev.var (E := (vD dI)) (x := a_i) rfl rfl))) (Ev.tup (EvL.cons (d := (dT dI)) (f := fun z => z) (fun _ => rfl) (Ev.var (E := (vD (dT dI))) (x := row11) rfl rfl) (EvL.nil (d := (dT dI)))))) (Ev.sl (E := (vD (dT (dT dI)))) sl_T (Ev.var (E := (vD (dT (dT dI)))) (x := a_sums) rfl rfl) (EvO.yes (Ev.add (Ev.var (E := (vD dI)) (x := a_i) rfl rfl) (Ev.int 1))) EvO.no)) (fun _ => rfl)
@[irreducible] def m_options_of (a_table : (List (List Int))) : Rz (List (Int × Int × Int)) := Z.run (Y.fin (
  Z.so (Z.lift (m_sums_of a_table)) fun sums1 =>
  Z.so (Z.ok (([] : List (Int × Int × Int)))) fun found2 =>
  Y.then (Z.so (Z.if (rangeOk (1 : Int) ((a_table.length : Nat) : Int)) (rangeZ (1 : Int) ((a_table.length : Nat) : Int))) fun xs => Y.for (fun (s3 : ((List (Int × Int × Int)))) (e4 : Int) =>
    Y.then (Z.so (Z.if (rangeOk (1 : Int) ((a_table.length : Nat) : Int)) (rangeZ (1 : Int) ((a_table.length : Nat) : Int))) fun xs => Y.for (fun (s5 : ((List (Int × Int × Int)))) (e6 : Int) =>
      Z.so (Z.lcIf (fun (e8 : Int) => (Z.lift (m_changed sums1 e4 e6 e8)).bind fun z0 => Z.lift (m_are_sums z0)) (fun (e8 : Int) => Z.ok ((e4, e6, e8))) ([(-(1 : Int)), (1 : Int)] : List Int)) fun y => Z.so (Z.fits (s5 ++ y)) fun found7 =>
      Y.nx (found7)) xs (s3)) fun s9 =>
    Y.nx (s9)) xs (found2)) fun s10 =>
  Y.rt s10))
theorem options_of_is {k : Nat} (hk : 4 ≤ k) (a_table : (List (List Int))) (m : Mem) : sem tab k f_options_of [(vD (dT (dT dI))) a_table] m = (m_options_of a_table).rs (vN (dP3 dI dI dI)) m := by
  unfold m_options_of
  exact sem_P (n := 3) (d := c_options_of) rfl hk fun k hk => fin_P (S := sem tab k) (m := m) (Env0 := Empty.elim) (by rfl) <|
  Sq.par2 (ra := Z.lift (m_sums_of a_table)) (rb := Z.ok (([] : List (Int × Int × Int)))) (η1 := fun (sums1 : (List (List Int))) (found2 : (List (Int × Int × Int))) => [some ((vD (dT (dT dI))) a_table), some ((vD (dT (dT dI))) sums1), some ((vN (dP3 dI dI dI)) found2), none, none, none]) (Ev.call1T (E := (vD (dT (dT dI)))) (g := Z.lift (m_sums_of a_table)) (fun w => call_P (M := fun _ => m) (w := w) rfl (sums_of_is (by omega) a_table _)) (Ev.var (E := (vD (dT (dT dI)))) (x := a_table) rfl rfl)) (Ev.lst (EvL.nil (d := (dP3 dI dI dI)))) (fun _ _ => rfl) fun sums1 found2 =>
  Sq.for (ri := Z.if (rangeOk (1 : Int) ((a_table.length : Nat) : Int)) (rangeZ (1 : Int) ((a_table.length : Nat) : Int))) (s0 := (found2)) (Env1 := fun (s3 : ((List (Int × Int × Int)))) => [some ((vD (dT (dT dI))) a_table), some ((vD (dT (dT dI))) sums1), some ((vN (dP3 dI dI dI)) s3), none, none, none]) (η1 := fun (s3 : ((List (Int × Int × Int)))) (e4 : Int) => [some ((vD (dT (dT dI))) a_table), some ((vD (dT (dT dI))) sums1), some ((vN (dP3 dI dI dI)) s3), some ((vD dI) e4), none, none]) rfl (EvI.rng2 (Ev.int 1) (Ev.len (d := (dT dI)) (fun _ _ => rfl) (Ev.var (E := (vD (dT (dT dI)))) (x := a_table) rfl rfl))) (fun _ _ => rfl) (fun (s3 : ((List (Int × Int × Int)))) (e4 : Int) =>
    Sq.for (ri := Z.if (rangeOk (1 : Int) ((a_table.length : Nat) : Int)) (rangeZ (1 : Int) ((a_table.length : Nat) : Int))) (s0 := (s3)) (Env1 := fun (s5 : ((List (Int × Int × Int)))) => [some ((vD (dT (dT dI))) a_table), some ((vD (dT (dT dI))) sums1), some ((vN (dP3 dI dI dI)) s5), some ((vD dI) e4), none, none]) (η1 := fun (s5 : ((List (Int × Int × Int)))) (e6 : Int) => [some ((vD (dT (dT dI))) a_table), some ((vD (dT (dT dI))) sums1), some ((vN (dP3 dI dI dI)) s5), some ((vD dI) e4), some ((vD dI) e6), none]) rfl (EvI.rng2 (Ev.int 1) (Ev.len (d := (dT dI)) (fun _ _ => rfl) (Ev.var (E := (vD (dT (dT dI)))) (x := a_table) rfl rfl))) (fun _ _ => rfl) (fun (s5 : ((List (Int × Int × Int)))) (e6 : Int) =>
      Sq.ext (xs := s5) (d := (dP3 dI dI dI)) (re := Z.lcIf (fun (e8 : Int) => (Z.lift (m_changed sums1 e4 e6 e8)).bind fun z0 => Z.lift (m_are_sums z0)) (fun (e8 : Int) => Z.ok ((e4, e6, e8))) ([(-(1 : Int)), (1 : Int)] : List Int)) (η1 := fun (found7 : (List (Int × Int × Int))) => [some ((vD (dT (dT dI))) a_table), some ((vD (dT (dT dI))) sums1), some ((vN (dP3 dI dI dI)) found7), some ((vD dI) e4), some ((vD dI) e6), none]) rfl (Ev.lcIf (d' := (dP3 dI dI dI)) (p := fun (e8 : Int) => (Z.lift (m_changed sums1 e4 e6 e8)).bind fun z0 => Z.lift (m_are_sums z0)) (g := fun (e8 : Int) => Z.ok ((e4, e6, e8))) (η1 := fun (e8 : Int) => [some ((vD (dT (dT dI))) a_table), some ((vD (dT (dT dI))) sums1), some ((vN (dP3 dI dI dI)) s5), some ((vD dI) e4), some ((vD dI) e6), some ((vD dI) e8)]) (EvI.seq (d := dI) (fun _ => rfl) (fun _ => rfl) (Ev.tup (EvL.cons (d := dI) (f := fun z => z) (fun _ => rfl) (Ev.neg (Ev.int 1)) (EvL.cons (d := dI) (f := fun z => z) (fun _ => rfl) (Ev.int 1) (EvL.nil (d := dI)))))) (fun _ => rfl) (fun _ => rfl) (fun (e8 : Int) => (Ev.call1 (E := (vD dB)) (g := fun z0 => Z.lift (m_are_sums z0)) (fun z0 w => call_P (M := fun _ => m) (w := w) rfl (are_sums_is (by omega) z0 _)) (Ev.call4T (E := (vD (dT (dT dI)))) (g := Z.lift (m_changed sums1 e4 e6 e8)) (fun w => call_P (M := fun _ => m) (w := w) rfl (changed_is (by omega) sums1 e4 e6 e8 _)) (Ev.var (E := (vD (dT (dT dI)))) (x := sums1) rfl rfl) (Ev.var (E := (vD dI)) (x := e4) rfl rfl) (Ev.var (E := (vD dI)) (x := e6) rfl rfl) (Ev.var (E := (vD dI)) (x := e8) rfl rfl)))) fun (e8 : Int) => (Ev.tup3 (fun _ => rfl) (fun _ => rfl) (fun _ => rfl) (Ev.var (E := (vD dI)) (x := e4) rfl rfl) (Ev.var (E := (vD dI)) (x := e6) rfl rfl) (Ev.var (E := (vD dI)) (x := e8) rfl rfl))) (fun _ => rfl) fun found7 =>
      Sq.env (η' := [some ((vD (dT (dT dI))) a_table), some ((vD (dT (dT dI))) sums1), some ((vN (dP3 dI dI dI)) found7), some ((vD dI) e4), none, none]) (fun _ => rfl) <|
      Sq.nil rfl) fun (s9 : ((List (Int × Int × Int)))) =>
    Sq.env (η' := [some ((vD (dT (dT dI))) a_table), some ((vD (dT (dT dI))) sums1), some ((vN (dP3 dI dI dI)) s9), none, none, none]) (fun _ => rfl) <|
    Sq.nil rfl) fun (s10 : ((List (Int × Int × Int)))) =>
  Sq.retv rfl
@[irreducible] def m_is_below (a_one : (List (List Int))) (a_other : (List (List Int))) : Rz Bool := Z.run (Y.fin (
  Z.so (Z.lift (m_check_two a_one a_other)) fun _ =>
  Z.so (Z.lift (m_below a_one a_other)) fun x => Y.rt x))
theorem is_below_is {k : Nat} (hk : 6 ≤ k) (a_one : (List (List Int))) (a_other : (List (List Int))) (m : Mem) : sem tab k f_is_below [(vD (dT (dT dI))) a_one, (vD (dT (dT dI))) a_other] m = (m_is_below a_one a_other).rs (vD dB) m := by
  unfold m_is_below
  exact sem_P (n := 5) (d := c_is_below) rfl hk fun k hk => fin_P (S := sem tab k) (m := m) (Env0 := Empty.elim) (by rfl) <|
  Sq.ex (re := Z.lift (m_check_two a_one a_other)) (Ev.call2T (E := (vD dU)) (g := Z.lift (m_check_two a_one a_other)) (fun w => call_P (M := fun _ => m) (w := w) rfl (check_two_is (by omega) a_one a_other _)) (Ev.var (E := (vD (dT (dT dI)))) (x := a_one) rfl rfl) (Ev.var (E := (vD (dT (dT dI)))) (x := a_other) rfl rfl)) <|
  Sq.ret (re := Z.lift (m_below a_one a_other)) (Ev.call2T (E := (vD dB)) (g := Z.lift (m_below a_one a_other)) (fun w => call_P (M := fun _ => m) (w := w) rfl (below_is (by omega) a_one a_other _)) (Ev.var (E := (vD (dT (dT dI)))) (x := a_one) rfl rfl) (Ev.var (E := (vD (dT (dT dI)))) (x := a_other) rfl rfl)) (fun _ => rfl)
@[irreducible] def m_merged (a_one : (List (List Int))) (a_other : (List (List Int))) (a_lesser : Bool) : Rz (List (List Int)) := Z.run (Y.fin (
  Z.so (Z.ok (([] : List (List Int)))) fun rows1 =>
  Y.then (Z.so ((Z.lift (m_sums_of a_one)).bind fun x2 => (Z.lift (m_sums_of a_other)).bind fun x3 => Z.ok (List.zip x2 x3)) fun xs => Y.for (fun (s4 : ((List (List Int)))) (e5 : ((List Int) × (List Int))) =>
    Z.so (Z.lc (fun (e7 : (Int × Int)) => if a_lesser then Z.opt (minZ [e7.1, e7.2]) else Z.opt (maxZ [e7.1, e7.2])) (List.zip e5.1 e5.2)) fun y => Z.so (Z.fits (s4 ++ [y])) fun rows6 =>
    Y.nx (rows6)) xs (rows1)) fun s8 =>
  Z.so (Z.lift (m_table_of s8)) fun x => Y.rt x))
theorem merged_is {k : Nat} (hk : 2 ≤ k) (a_one : (List (List Int))) (a_other : (List (List Int))) (a_lesser : Bool) (m : Mem) : sem tab k f_merged [(vD (dT (dT dI))) a_one, (vD (dT (dT dI))) a_other, (vD dB) a_lesser] m = (m_merged a_one a_other a_lesser).rs (vD (dT (dT dI))) m := by
  unfold m_merged
  exact sem_P (n := 1) (d := c_merged) rfl hk fun k hk => fin_P (S := sem tab k) (m := m) (Env0 := Empty.elim) (by rfl) <|
  Sq.asg (re := Z.ok (([] : List (List Int)))) (η1 := fun (rows1 : (List (List Int))) => [some ((vD (dT (dT dI))) a_one), some ((vD (dT (dT dI))) a_other), some ((vD dB) a_lesser), some ((vN (dT dI)) rows1), none, none, none]) (Ev.lst (EvL.nil (d := (dT dI)))) (fun _ => rfl) (fun _ => rfl) fun rows1 =>
  Sq.for (ri := (Z.lift (m_sums_of a_one)).bind fun x2 => (Z.lift (m_sums_of a_other)).bind fun x3 => Z.ok (List.zip x2 x3)) (s0 := (rows1)) (Env1 := fun (s4 : ((List (List Int)))) => [some ((vD (dT (dT dI))) a_one), some ((vD (dT (dT dI))) a_other), some ((vD dB) a_lesser), some ((vN (dT dI)) s4), none, none, none]) (η1 := fun (s4 : ((List (List Int)))) (e5 : ((List Int) × (List Int))) => [some ((vD (dT (dT dI))) a_one), some ((vD (dT (dT dI))) a_other), some ((vD dB) a_lesser), some ((vN (dT dI)) s4), some ((vD (dT dI)) e5.1), some ((vD (dT dI)) e5.2), none]) rfl (EvI.zip (d := (dT dI)) (d' := (dT dI)) (fun _ _ => rfl) (fun _ => rfl) (fun _ => rfl) (Ev.call1T (E := (vD (dT (dT dI)))) (g := Z.lift (m_sums_of a_one)) (fun w => call_P (M := fun _ => m) (w := w) rfl (sums_of_is (by omega) a_one _)) (Ev.var (E := (vD (dT (dT dI)))) (x := a_one) rfl rfl)) (Ev.call1T (E := (vD (dT (dT dI)))) (g := Z.lift (m_sums_of a_other)) (fun w => call_P (M := fun _ => m) (w := w) rfl (sums_of_is (by omega) a_other _)) (Ev.var (E := (vD (dT (dT dI)))) (x := a_other) rfl rfl))) (fun _ _ => rfl) (fun (s4 : ((List (List Int)))) (e5 : ((List Int) × (List Int))) =>
    Sq.app (xs := s4) (d := (dT dI)) (f := fun y => y) (re := Z.lc (fun (e7 : (Int × Int)) => if a_lesser then Z.opt (minZ [e7.1, e7.2]) else Z.opt (maxZ [e7.1, e7.2])) (List.zip e5.1 e5.2)) (η1 := fun (rows6 : (List (List Int))) => [some ((vD (dT (dT dI))) a_one), some ((vD (dT (dT dI))) a_other), some ((vD dB) a_lesser), some ((vN (dT dI)) rows6), some ((vD (dT dI)) e5.1), some ((vD (dT dI)) e5.2), none]) rfl (fun _ => rfl) (Ev.tuple (d := dI) (fun _ _ => rfl) (Ev.lc (d' := dI) (g := fun (e7 : (Int × Int)) => if a_lesser then Z.opt (minZ [e7.1, e7.2]) else Z.opt (maxZ [e7.1, e7.2])) (η1 := fun (e7 : (Int × Int)) => [some ((vD (dT (dT dI))) a_one), some ((vD (dT (dT dI))) a_other), some ((vD dB) a_lesser), some ((vN (dT dI)) s4), some ((vD (dT dI)) e5.1), some ((vD (dT dI)) e5.2), some ((vD (dP dI dI)) e7)]) (EvI.zip (d := dI) (d' := dI) (fun _ _ => rfl) (fun _ => rfl) (fun _ => rfl) (Ev.var (E := (vD (dT dI))) (x := e5.1) rfl rfl) (Ev.var (E := (vD (dT dI))) (x := e5.2) rfl rfl)) (fun _ => rfl) (fun _ => rfl) fun (e7 : (Int × Int)) => (Ev.ite (Ev.var (E := (vD dB)) (x := a_lesser) rfl rfl) (Ev.min (fun _ _ => rfl) (Ev.enc (E' := (vD (dT dI))) (f := fun z => [z.1, z.2]) (Ev.var (E := (vD (dP dI dI))) (x := e7) rfl rfl) (fun _ => rfl))) (Ev.max (fun _ _ => rfl) (Ev.enc (E' := (vD (dT dI))) (f := fun z => [z.1, z.2]) (Ev.var (E := (vD (dP dI dI))) (x := e7) rfl rfl) (fun _ => rfl)))))) (fun _ => rfl) fun rows6 =>
    Sq.env (η' := [some ((vD (dT (dT dI))) a_one), some ((vD (dT (dT dI))) a_other), some ((vD dB) a_lesser), some ((vN (dT dI)) rows6), none, none, none]) (fun _ => rfl) <|
    Sq.nil rfl) fun (s8 : ((List (List Int)))) =>
  Sq.ret (re := Z.lift (m_table_of s8)) (Ev.call1T (E := (vD (dT (dT dI)))) (g := Z.lift (m_table_of s8)) (fun w => call_P (M := fun _ => m) (w := w) rfl (table_of_is (by omega) s8 _)) (Ev.tuple (d := (dT dI)) (fun _ _ => rfl) (Ev.var (E := (vB (dT dI))) (x := s8) rfl rfl))) (fun _ => rfl)
@[irreducible] def m_least_above (a_one : (List (List Int))) (a_other : (List (List Int))) : Rz (List (List Int)) := Z.run (Y.fin (
  Z.so (Z.lift (m_check_two a_one a_other)) fun _ =>
  Z.so (Z.lift (m_merged a_one a_other true)) fun x => Y.rt x))
theorem least_above_is {k : Nat} (hk : 6 ≤ k) (a_one : (List (List Int))) (a_other : (List (List Int))) (m : Mem) : sem tab k f_least_above [(vD (dT (dT dI))) a_one, (vD (dT (dT dI))) a_other] m = (m_least_above a_one a_other).rs (vD (dT (dT dI))) m := by
  unfold m_least_above
  exact sem_P (n := 5) (d := c_least_above) rfl hk fun k hk => fin_P (S := sem tab k) (m := m) (Env0 := Empty.elim) (by rfl) <|
  Sq.ex (re := Z.lift (m_check_two a_one a_other)) (Ev.call2T (E := (vD dU)) (g := Z.lift (m_check_two a_one a_other)) (fun w => call_P (M := fun _ => m) (w := w) rfl (check_two_is (by omega) a_one a_other _)) (Ev.var (E := (vD (dT (dT dI)))) (x := a_one) rfl rfl) (Ev.var (E := (vD (dT (dT dI)))) (x := a_other) rfl rfl)) <|
  Sq.ret (re := Z.lift (m_merged a_one a_other true)) (Ev.call3T (E := (vD (dT (dT dI)))) (g := Z.lift (m_merged a_one a_other true)) (fun w => call_P (M := fun _ => m) (w := w) rfl (merged_is (by omega) a_one a_other true _)) (Ev.var (E := (vD (dT (dT dI)))) (x := a_one) rfl rfl) (Ev.var (E := (vD (dT (dT dI)))) (x := a_other) rfl rfl) (Ev.bl true)) (fun _ => rfl)
@[irreducible] def m_greatest_below (a_one : (List (List Int))) (a_other : (List (List Int))) : Rz (List (List Int)) := Z.run (Y.fin (
  Z.so (Z.lift (m_check_two a_one a_other)) fun _ =>
  Z.so (Z.lift (m_merged a_one a_other false)) fun x => Y.rt x))
theorem greatest_below_is {k : Nat} (hk : 6 ≤ k) (a_one : (List (List Int))) (a_other : (List (List Int))) (m : Mem) : sem tab k f_greatest_below [(vD (dT (dT dI))) a_one, (vD (dT (dT dI))) a_other] m = (m_greatest_below a_one a_other).rs (vD (dT (dT dI))) m := by
  unfold m_greatest_below
  exact sem_P (n := 5) (d := c_greatest_below) rfl hk fun k hk => fin_P (S := sem tab k) (m := m) (Env0 := Empty.elim) (by rfl) <|
  Sq.ex (re := Z.lift (m_check_two a_one a_other)) (Ev.call2T (E := (vD dU)) (g := Z.lift (m_check_two a_one a_other)) (fun w => call_P (M := fun _ => m) (w := w) rfl (check_two_is (by omega) a_one a_other _)) (Ev.var (E := (vD (dT (dT dI)))) (x := a_one) rfl rfl) (Ev.var (E := (vD (dT (dT dI)))) (x := a_other) rfl rfl)) <|
  Sq.ret (re := Z.lift (m_merged a_one a_other false)) (Ev.call3T (E := (vD (dT (dT dI)))) (g := Z.lift (m_merged a_one a_other false)) (fun w => call_P (M := fun _ => m) (w := w) rfl (merged_is (by omega) a_one a_other false _)) (Ev.var (E := (vD (dT (dT dI)))) (x := a_one) rfl rfl) (Ev.var (E := (vD (dT (dT dI)))) (x := a_other) rfl rfl) (Ev.bl false)) (fun _ => rfl)
@[irreducible] def m_apart (a_one : (List (List Int))) (a_other : (List (List Int))) : Rz Int := Z.run (Y.fin (
  Z.so (Z.ok ((0 : Int))) fun total1 =>
  Y.then (Z.so ((Z.lift (m_sums_of a_one)).bind fun x2 => (Z.lift (m_sums_of a_other)).bind fun x3 => Z.ok (List.zip x2 x3)) fun xs => Y.for (fun (s4 : (Int)) (e5 : ((List Int) × (List Int))) =>
    Z.so ((Z.fits (((List.zip e5.1 e5.2)).map fun (e6 : (Int × Int)) => if (e6.2 - e6.1) > (e6.1 - e6.2) then (e6.2 - e6.1) else (e6.1 - e6.2))).bind fun x7 => Z.ok ((x7).sum)) fun y8 =>
    Y.nx ((s4 + y8))) xs (total1)) fun s10 =>
  Y.rt s10))
theorem apart_is {k : Nat} (hk : 2 ≤ k) (a_one : (List (List Int))) (a_other : (List (List Int))) (m : Mem) : sem tab k f_apart [(vD (dT (dT dI))) a_one, (vD (dT (dT dI))) a_other] m = (m_apart a_one a_other).rs (vD dI) m := by
  unfold m_apart
  exact sem_P (n := 1) (d := c_apart) rfl hk fun k hk => fin_P (S := sem tab k) (m := m) (Env0 := Empty.elim) (by rfl) <|
  Sq.asg (re := Z.ok ((0 : Int))) (η1 := fun (total1 : Int) => [some ((vD (dT (dT dI))) a_one), some ((vD (dT (dT dI))) a_other), some ((vD dI) total1), none, none, none, none]) (Ev.int 0) (fun _ => rfl) (fun _ => rfl) fun total1 =>
  Sq.for (ri := (Z.lift (m_sums_of a_one)).bind fun x2 => (Z.lift (m_sums_of a_other)).bind fun x3 => Z.ok (List.zip x2 x3)) (s0 := (total1)) (Env1 := fun (s4 : (Int)) => [some ((vD (dT (dT dI))) a_one), some ((vD (dT (dT dI))) a_other), some ((vD dI) s4), none, none, none, none]) (η1 := fun (s4 : (Int)) (e5 : ((List Int) × (List Int))) => [some ((vD (dT (dT dI))) a_one), some ((vD (dT (dT dI))) a_other), some ((vD dI) s4), some ((vD (dT dI)) e5.1), some ((vD (dT dI)) e5.2), none, none]) rfl (EvI.zip (d := (dT dI)) (d' := (dT dI)) (fun _ _ => rfl) (fun _ => rfl) (fun _ => rfl) (Ev.call1T (E := (vD (dT (dT dI)))) (g := Z.lift (m_sums_of a_one)) (fun w => call_P (M := fun _ => m) (w := w) rfl (sums_of_is (by omega) a_one _)) (Ev.var (E := (vD (dT (dT dI)))) (x := a_one) rfl rfl)) (Ev.call1T (E := (vD (dT (dT dI)))) (g := Z.lift (m_sums_of a_other)) (fun w => call_P (M := fun _ => m) (w := w) rfl (sums_of_is (by omega) a_other _)) (Ev.var (E := (vD (dT (dT dI)))) (x := a_other) rfl rfl))) (fun _ _ => rfl) (fun (s4 : (Int)) (e5 : ((List Int) × (List Int))) =>
    Sq.aug (x := s4) (f := fun a b => a + b) (re := (Z.fits (((List.zip e5.1 e5.2)).map fun (e6 : (Int × Int)) => if (e6.2 - e6.1) > (e6.1 - e6.2) then (e6.2 - e6.1) else (e6.1 - e6.2))).bind fun x7 => Z.ok ((x7).sum)) (η1 := fun (y8 : Int) => [some ((vD (dT (dT dI))) a_one), some ((vD (dT (dT dI))) a_other), some ((vD dI) (s4 + y8)), some ((vD (dT dI)) e5.1), some ((vD (dT dI)) e5.2), none, none]) rfl (Or.inl ⟨rfl, rfl⟩) (Ev.sum (fun _ _ => rfl) (Ev.lcT (d' := dI) (g := fun (e6 : (Int × Int)) => if (e6.2 - e6.1) > (e6.1 - e6.2) then (e6.2 - e6.1) else (e6.1 - e6.2)) (η1 := fun (e6 : (Int × Int)) => [some ((vD (dT (dT dI))) a_one), some ((vD (dT (dT dI))) a_other), some ((vD dI) s4), some ((vD (dT dI)) e5.1), some ((vD (dT dI)) e5.2), some ((vD dI) e6.1), some ((vD dI) e6.2)]) (EvI.zip (d := dI) (d' := dI) (fun _ _ => rfl) (fun _ => rfl) (fun _ => rfl) (Ev.var (E := (vD (dT dI))) (x := e5.1) rfl rfl) (Ev.var (E := (vD (dT dI))) (x := e5.2) rfl rfl)) (fun _ => rfl) (fun _ => rfl) fun (e6 : (Int × Int)) => (Ev.mx (Ev.sub (Ev.var (E := (vD dI)) (x := e6.1) rfl rfl) (Ev.var (E := (vD dI)) (x := e6.2) rfl rfl)) (Ev.sub (Ev.var (E := (vD dI)) (x := e6.2) rfl rfl) (Ev.var (E := (vD dI)) (x := e6.1) rfl rfl))))) (fun _ => rfl) fun y8 =>
    Sq.env (η' := [some ((vD (dT (dT dI))) a_one), some ((vD (dT (dT dI))) a_other), some ((vD dI) (s4 + y8)), none, none, none, none]) (fun _ => rfl) <|
    Sq.nil rfl) fun (s10 : (Int)) =>
  Sq.retv rfl
end SS
end
/- SM3 -/
section
set_option linter.all false
set_option maxRecDepth 100000
set_option maxHeartbeats 0
/-! Mirrors, printed by mir.py. -/
namespace SS
open PySem L2
@[irreducible] def m_distance (a_one : (List (List Int))) (a_other : (List (List Int))) : Rz Int := Z.run (Y.fin (
  Z.so (Z.lift (m_check_two a_one a_other)) fun _ =>
  Z.so (Z.lift (m_apart a_one a_other)) fun x => Y.rt x))
theorem distance_is {k : Nat} (hk : 6 ≤ k) (a_one : (List (List Int))) (a_other : (List (List Int))) (m : Mem) : sem tab k f_distance [(vD (dT (dT dI))) a_one, (vD (dT (dT dI))) a_other] m = (m_distance a_one a_other).rs (vD dI) m := by
  unfold m_distance
  exact sem_P (n := 5) (d := c_distance) rfl hk fun k hk => fin_P (S := sem tab k) (m := m) (Env0 := Empty.elim) (by rfl) <|
  Sq.ex (re := Z.lift (m_check_two a_one a_other)) (Ev.call2T (E := (vD dU)) (g := Z.lift (m_check_two a_one a_other)) (fun w => call_P (M := fun _ => m) (w := w) rfl (check_two_is (by omega) a_one a_other _)) (Ev.var (E := (vD (dT (dT dI)))) (x := a_one) rfl rfl) (Ev.var (E := (vD (dT (dT dI)))) (x := a_other) rfl rfl)) <|
  Sq.ret (re := Z.lift (m_apart a_one a_other)) (Ev.call2T (E := (vD dI)) (g := Z.lift (m_apart a_one a_other)) (fun w => call_P (M := fun _ => m) (w := w) rfl (apart_is (by omega) a_one a_other _)) (Ev.var (E := (vD (dT (dT dI)))) (x := a_one) rfl rfl) (Ev.var (E := (vD (dT (dT dI)))) (x := a_other) rfl rfl)) (fun _ => rfl)
@[irreducible] def m__law_corners (a_own : (List (List Int))) : Rz (List (List Int)) := Z.run (Y.fin (
  Z.so (Z.ok (((a_own.length : Nat) : Int))) fun n1 =>
  Z.so (Z.ok (([] : List (List Int)))) fun rows2 =>
  Y.then (Z.so (Z.if (rangeOk 0 (n1 + (1 : Int))) (rangeZ 0 (n1 + (1 : Int)))) fun xs => Y.for (fun (s3 : ((List (List Int)))) (e4 : Int) =>
    Z.so ((Z.if (rangeOk 0 (n1 + (1 : Int))) (rangeZ 0 (n1 + (1 : Int)))).bind fun x9 => Z.lc (fun (e6 : Int) => (Z.fits (((cut a_own none (some e4))).map fun (e7 : (List Int)) => ((cut e7 none (some e6))).sum)).bind fun x8 => Z.ok ((x8).sum)) x9) fun y => Z.so (Z.fits (s3 ++ [y])) fun rows5 =>
    Y.nx (rows5)) xs (rows2)) fun s10 =>
  Z.so (Z.ok (s10)) fun x => Y.rt x))
theorem _law_corners_is {k : Nat} (hk : 1 ≤ k) (a_own : (List (List Int))) (m : Mem) : sem tab k f__law_corners [(vD (dT (dT dI))) a_own] m = (m__law_corners a_own).rs (vD (dT (dT dI))) m := by
  unfold m__law_corners
  exact sem_P (n := 0) (d := c__law_corners) rfl hk fun k hk => fin_P (S := sem tab k) (m := m) (Env0 := Empty.elim) (by rfl) <|
  Sq.asg (re := Z.ok (((a_own.length : Nat) : Int))) (η1 := fun (n1 : Int) => [some ((vD (dT (dT dI))) a_own), some ((vD dI) n1), none, none, none, none]) (Ev.len (d := (dT dI)) (fun _ _ => rfl) (Ev.var (E := (vD (dT (dT dI)))) (x := a_own) rfl rfl)) (fun _ => rfl) (fun _ => rfl) fun n1 =>
  Sq.asg (re := Z.ok (([] : List (List Int)))) (η1 := fun (rows2 : (List (List Int))) => [some ((vD (dT (dT dI))) a_own), some ((vD dI) n1), some ((vN (dT dI)) rows2), none, none, none]) (Ev.lst (EvL.nil (d := (dT dI)))) (fun _ => rfl) (fun _ => rfl) fun rows2 =>
  Sq.for (ri := Z.if (rangeOk 0 (n1 + (1 : Int))) (rangeZ 0 (n1 + (1 : Int)))) (s0 := (rows2)) (Env1 := fun (s3 : ((List (List Int)))) => [some ((vD (dT (dT dI))) a_own), some ((vD dI) n1), some ((vN (dT dI)) s3), none, none, none]) (η1 := fun (s3 : ((List (List Int)))) (e4 : Int) => [some ((vD (dT (dT dI))) a_own), some ((vD dI) n1), some ((vN (dT dI)) s3), some ((vD dI) e4), none, none]) rfl (EvI.rng1 (Ev.add (Ev.var (E := (vD dI)) (x := n1) rfl rfl) (Ev.int 1))) (fun _ _ => rfl) (fun (s3 : ((List (List Int)))) (e4 : Int) =>
    Sq.app (xs := s3) (d := (dT dI)) (f := fun y => y) (re := (Z.if (rangeOk 0 (n1 + (1 : Int))) (rangeZ 0 (n1 + (1 : Int)))).bind fun x9 => Z.lc (fun (e6 : Int) => (Z.fits (((cut a_own none (some e4))).map fun (e7 : (List Int)) => ((cut e7 none (some e6))).sum)).bind fun x8 => Z.ok ((x8).sum)) x9) (η1 := fun (rows5 : (List (List Int))) => [some ((vD (dT (dT dI))) a_own), some ((vD dI) n1), some ((vN (dT dI)) rows5), some ((vD dI) e4), none, none]) rfl (fun _ => rfl) (Ev.tuple (d := dI) (fun _ _ => rfl) (Ev.lc (d' := dI) (g := fun (e6 : Int) => (Z.fits (((cut a_own none (some e4))).map fun (e7 : (List Int)) => ((cut e7 none (some e6))).sum)).bind fun x8 => Z.ok ((x8).sum)) (η1 := fun (e6 : Int) => [some ((vD (dT (dT dI))) a_own), some ((vD dI) n1), some ((vN (dT dI)) s3), some ((vD dI) e4), some ((vD dI) e6), none]) (EvI.rng1 (Ev.add (Ev.var (E := (vD dI)) (x := n1) rfl rfl) (Ev.int 1))) (fun _ => rfl) (fun _ => rfl) fun (e6 : Int) => (Ev.sum (fun _ _ => rfl) (Ev.lcT (d' := dI) (g := fun (e7 : (List Int)) => ((cut e7 none (some e6))).sum) (η1 := fun (e7 : (List Int)) => [some ((vD (dT (dT dI))) a_own), some ((vD dI) n1), some ((vN (dT dI)) s3), some ((vD dI) e4), some ((vD dI) e6), some ((vD (dT dI)) e7)]) (EvI.seq (d := (dT dI)) (fun _ => rfl) (fun _ => rfl) (Ev.sl (E := (vD (dT (dT dI)))) sl_T (Ev.var (E := (vD (dT (dT dI)))) (x := a_own) rfl rfl) EvO.no (EvO.yes (Ev.var (E := (vD dI)) (x := e4) rfl rfl)))) (fun _ => rfl) (fun _ => rfl) fun (e7 : (List Int)) => (Ev.sum (fun _ _ => rfl) (Ev.sl (E := (vD (dT dI))) sl_T (Ev.var (E := (vD (dT dI))) (x := e7) rfl rfl) EvO.no (EvO.yes (Ev.var (E := (vD dI)) (x := e6) rfl rfl)))))))) (fun _ => rfl) fun rows5 =>
    Sq.env (η' := [some ((vD (dT (dT dI))) a_own), some ((vD dI) n1), some ((vN (dT dI)) rows5), none, none, none]) (fun _ => rfl) <|
    Sq.nil rfl) fun (s10 : ((List (List Int)))) =>
  Sq.ret (re := Z.ok (s10)) (Ev.tuple (d := (dT dI)) (fun _ _ => rfl) (Ev.var (E := (vB (dT dI))) (x := s10) rfl rfl)) (fun _ => rfl)
@[irreducible] def m__law_uncorner (a_rows : (List (List Int))) : Rz (List (List Int)) := Z.run (Y.fin (
  Z.so (Z.ok (((a_rows.length : Nat) : Int) - (1 : Int))) fun n1 =>
  Z.so (Z.ok (([] : List (List Int)))) fun made2 =>
  Y.then (Z.so (Z.if (rangeOk 0 n1) (rangeZ 0 n1)) fun xs => Y.for (fun (s3 : ((List (List Int)))) (e4 : Int) =>
    Z.so (((Z.opt (L2.atI a_rows e4)).bind fun x5 => (Z.opt (L2.atI a_rows (e4 + (1 : Int)))).bind fun x6 => Z.ok (List.zip x5 x6)).bind fun x8 => Z.fits ((x8).map fun (e7 : (Int × Int)) => e7.2 - e7.1)) fun steps9 =>
    Z.so ((Z.if (rangeOk 0 n1) (rangeZ 0 n1)).bind fun x14 => Z.lc (fun (e11 : Int) => (Z.opt (L2.atI steps9 (e11 + (1 : Int)))).bind fun x12 => (Z.opt (L2.atI steps9 e11)).bind fun x13 => Z.ok (x12 - x13)) x14) fun y => Z.so (Z.fits (s3 ++ [y])) fun made10 =>
    Y.nx (made10)) xs (made2)) fun s15 =>
  Z.so (Z.ok (s15)) fun x => Y.rt x))
theorem _law_uncorner_is {k : Nat} (hk : 1 ≤ k) (a_rows : (List (List Int))) (m : Mem) : sem tab k f__law_uncorner [(vD (dT (dT dI))) a_rows] m = (m__law_uncorner a_rows).rs (vD (dT (dT dI))) m := by
  unfold m__law_uncorner
  exact sem_P (n := 0) (d := c__law_uncorner) rfl hk fun k hk => fin_P (S := sem tab k) (m := m) (Env0 := Empty.elim) (by rfl) <|
  Sq.asg (re := Z.ok (((a_rows.length : Nat) : Int) - (1 : Int))) (η1 := fun (n1 : Int) => [some ((vD (dT (dT dI))) a_rows), some ((vD dI) n1), none, none, none, none, none, none]) (Ev.sub (Ev.len (d := (dT dI)) (fun _ _ => rfl) (Ev.var (E := (vD (dT (dT dI)))) (x := a_rows) rfl rfl)) (Ev.int 1)) (fun _ => rfl) (fun _ => rfl) fun n1 =>
  Sq.asg (re := Z.ok (([] : List (List Int)))) (η1 := fun (made2 : (List (List Int))) => [some ((vD (dT (dT dI))) a_rows), some ((vD dI) n1), some ((vN (dT dI)) made2), none, none, none, none, none]) (Ev.lst (EvL.nil (d := (dT dI)))) (fun _ => rfl) (fun _ => rfl) fun made2 =>
  Sq.for (ri := Z.if (rangeOk 0 n1) (rangeZ 0 n1)) (s0 := (made2)) (Env1 := fun (s3 : ((List (List Int)))) => [some ((vD (dT (dT dI))) a_rows), some ((vD dI) n1), some ((vN (dT dI)) s3), none, none, none, none, none]) (η1 := fun (s3 : ((List (List Int)))) (e4 : Int) => [some ((vD (dT (dT dI))) a_rows), some ((vD dI) n1), some ((vN (dT dI)) s3), some ((vD dI) e4), none, none, none, none]) rfl (EvI.rng1 (Ev.var (E := (vD dI)) (x := n1) rfl rfl)) (fun _ _ => rfl) (fun (s3 : ((List (List Int)))) (e4 : Int) =>
    Sq.asg (re := ((Z.opt (L2.atI a_rows e4)).bind fun x5 => (Z.opt (L2.atI a_rows (e4 + (1 : Int)))).bind fun x6 => Z.ok (List.zip x5 x6)).bind fun x8 => Z.fits ((x8).map fun (e7 : (Int × Int)) => e7.2 - e7.1)) (η1 := fun (steps9 : (List Int)) => [some ((vD (dT (dT dI))) a_rows), some ((vD dI) n1), some ((vN (dT dI)) s3), some ((vD dI) e4), none, none, some ((vN dI) steps9), none]) (Ev.lcT (d' := dI) (g := fun (e7 : (Int × Int)) => e7.2 - e7.1) (η1 := fun (e7 : (Int × Int)) => [some ((vD (dT (dT dI))) a_rows), some ((vD dI) n1), some ((vN (dT dI)) s3), some ((vD dI) e4), some ((vD dI) e7.1), some ((vD dI) e7.2), none, none]) (EvI.zip (d := dI) (d' := dI) (fun _ _ => rfl) (fun _ => rfl) (fun _ => rfl) (Ev.ix (d := (dT dI)) (fun _ _ _ => rfl) (Ev.var (E := (vD (dT (dT dI)))) (x := a_rows) rfl rfl) (Ev.var (E := (vD dI)) (x := e4) rfl rfl)) (Ev.ix (d := (dT dI)) (fun _ _ _ => rfl) (Ev.var (E := (vD (dT (dT dI)))) (x := a_rows) rfl rfl) (Ev.add (Ev.var (E := (vD dI)) (x := e4) rfl rfl) (Ev.int 1)))) (fun _ => rfl) (fun _ => rfl) fun (e7 : (Int × Int)) => (Ev.sub (Ev.var (E := (vD dI)) (x := e7.2) rfl rfl) (Ev.var (E := (vD dI)) (x := e7.1) rfl rfl))) (fun _ => rfl) (fun _ => rfl) fun steps9 =>
    Sq.app (xs := s3) (d := (dT dI)) (f := fun y => y) (re := (Z.if (rangeOk 0 n1) (rangeZ 0 n1)).bind fun x14 => Z.lc (fun (e11 : Int) => (Z.opt (L2.atI steps9 (e11 + (1 : Int)))).bind fun x12 => (Z.opt (L2.atI steps9 e11)).bind fun x13 => Z.ok (x12 - x13)) x14) (η1 := fun (made10 : (List (List Int))) => [some ((vD (dT (dT dI))) a_rows), some ((vD dI) n1), some ((vN (dT dI)) made10), some ((vD dI) e4), none, none, some ((vN dI) steps9), none]) rfl (fun _ => rfl) (Ev.tuple (d := dI) (fun _ _ => rfl) (Ev.lc (d' := dI) (g := fun (e11 : Int) => (Z.opt (L2.atI steps9 (e11 + (1 : Int)))).bind fun x12 => (Z.opt (L2.atI steps9 e11)).bind fun x13 => Z.ok (x12 - x13)) (η1 := fun (e11 : Int) => [some ((vD (dT (dT dI))) a_rows), some ((vD dI) n1), some ((vN (dT dI)) s3), some ((vD dI) e4), none, none, some ((vN dI) steps9), some ((vD dI) e11)]) (EvI.rng1 (Ev.var (E := (vD dI)) (x := n1) rfl rfl)) (fun _ => rfl) (fun _ => rfl) fun (e11 : Int) => (Ev.sub (Ev.ix (d := dI) (fun _ _ _ => rfl) (Ev.var (E := (vB dI)) (x := steps9) rfl rfl) (Ev.add (Ev.var (E := (vD dI)) (x := e11) rfl rfl) (Ev.int 1))) (Ev.ix (d := dI) (fun _ _ _ => rfl) (Ev.var (E := (vB dI)) (x := steps9) rfl rfl) (Ev.var (E := (vD dI)) (x := e11) rfl rfl))))) (fun _ => rfl) fun made10 =>
    Sq.env (η' := [some ((vD (dT (dT dI))) a_rows), some ((vD dI) n1), some ((vN (dT dI)) made10), none, none, none, none, none]) (fun _ => rfl) <|
    Sq.nil rfl) fun (s15 : ((List (List Int)))) =>
  Sq.ret (re := Z.ok (s15)) (Ev.tuple (d := (dT dI)) (fun _ _ => rfl) (Ev.var (E := (vB (dT dI))) (x := s15) rfl rfl)) (fun _ => rfl)
@[irreducible] def m__law_good (a_own : (List (List Int))) : Rz Bool := Z.run (Y.fin (
  Z.so (((Z.if (rangeOk 0 ((a_own.length : Nat) : Int)) (rangeZ 0 ((a_own.length : Nat) : Int))).bind fun x3 => Z.lc (fun (e1 : Int) => Z.lc (fun (e2 : (List Int)) => Z.opt (L2.atI e2 e1)) a_own) x3).bind fun x4 => Z.fits (a_own ++ x4)) fun lines5 =>
  Y.then (Z.so (Z.ok (lines5)) fun xs => Y.for (fun (s6 : Unit) (e7 : (List Int)) =>
    Z.so (Z.fits (((e7).filter fun (e8 : Int) => !decide (e8 = (0 : Int))).map fun (e8 : Int) => e8)) fun signs9 =>
    Z.so ((((Z.if (rangeOk 0 ((signs9.length : Nat) : Int)) (rangeZ 0 ((signs9.length : Nat) : Int))).bind fun x11 => Z.fits ((x11).map fun (e10 : Int) => if (decide ((e10 % (2 : Int)) = (0 : Int))) then (1 : Int) else -(1 : Int))).bind fun x12 => Z.ok (!decide (signs9 = x12))).bind fun x13 => Z.ok (x13 || (decide ((((signs9.length : Nat) : Int) % (2 : Int)) = (0 : Int))))) fun k => if k then Y.all (Z.so (Z.ok (false)) fun x => Y.rt x) else
    Y.nx ()) xs ()) fun s14 =>
  Z.so (Z.ok (true)) fun x => Y.rt x))
theorem _law_good_is {k : Nat} (hk : 1 ≤ k) (a_own : (List (List Int))) (m : Mem) : sem tab k f__law_good [(vD (dT (dT dI))) a_own] m = (m__law_good a_own).rs (vD dB) m := by
  unfold m__law_good
  exact sem_P (n := 0) (d := c__law_good) rfl hk fun k hk => fin_P (S := sem tab k) (m := m) (Env0 := Empty.elim) (by rfl) <|
  Sq.asg (re := ((Z.if (rangeOk 0 ((a_own.length : Nat) : Int)) (rangeZ 0 ((a_own.length : Nat) : Int))).bind fun x3 => Z.lc (fun (e1 : Int) => Z.lc (fun (e2 : (List Int)) => Z.opt (L2.atI e2 e1)) a_own) x3).bind fun x4 => Z.fits (a_own ++ x4)) (η1 := fun (lines5 : (List (List Int))) => [some ((vD (dT (dT dI))) a_own), none, none, some ((vN (dT dI)) lines5), none, none, none, none]) (Ev.catL (d := (dT dI)) (fun _ _ _ => rfl) (Ev.list (d := (dT dI)) (fun _ _ => rfl) (Ev.var (E := (vD (dT (dT dI)))) (x := a_own) rfl rfl)) (Ev.lc (d' := (dT dI)) (g := fun (e1 : Int) => Z.lc (fun (e2 : (List Int)) => Z.opt (L2.atI e2 e1)) a_own) (η1 := fun (e1 : Int) => [some ((vD (dT (dT dI))) a_own), some ((vD dI) e1), none, none, none, none, none, none]) (EvI.rng1 (Ev.len (d := (dT dI)) (fun _ _ => rfl) (Ev.var (E := (vD (dT (dT dI)))) (x := a_own) rfl rfl))) (fun _ => rfl) (fun _ => rfl) fun (e1 : Int) => (Ev.tuple (d := dI) (fun _ _ => rfl) (Ev.lc (d' := dI) (g := fun (e2 : (List Int)) => Z.opt (L2.atI e2 e1)) (η1 := fun (e2 : (List Int)) => [some ((vD (dT (dT dI))) a_own), some ((vD dI) e1), some ((vD (dT dI)) e2), none, none, none, none, none]) (EvI.seq (d := (dT dI)) (fun _ => rfl) (fun _ => rfl) (Ev.var (E := (vD (dT (dT dI)))) (x := a_own) rfl rfl)) (fun _ => rfl) (fun _ => rfl) fun (e2 : (List Int)) => (Ev.ix (d := dI) (fun _ _ _ => rfl) (Ev.var (E := (vD (dT dI))) (x := e2) rfl rfl) (Ev.var (E := (vD dI)) (x := e1) rfl rfl)))))) (fun _ => rfl) (fun _ => rfl) fun lines5 =>
  Sq.env (η' := [some ((vD (dT (dT dI))) a_own), none, none, some ((vD (dL (dT dI))) lines5), none, none, none, none]) (fun _ => rfl) <|
  Sq.for (ri := Z.ok (lines5)) (s0 := ()) (Env1 := fun (s6 : Unit) => [some ((vD (dT (dT dI))) a_own), none, none, some ((vD (dL (dT dI))) lines5), none, none, none, none]) (η1 := fun (s6 : Unit) (e7 : (List Int)) => [some ((vD (dT (dT dI))) a_own), none, none, some ((vD (dL (dT dI))) lines5), some ((vD (dT dI)) e7), none, none, none]) rfl (EvI.seq (d := (dT dI)) (fun _ => rfl) (fun _ => rfl) (Ev.var (E := (vD (dL (dT dI)))) (x := lines5) rfl rfl)) (fun _ _ => rfl) (fun (s6 : Unit) (e7 : (List Int)) =>
    Sq.asg (re := Z.fits (((e7).filter fun (e8 : Int) => !decide (e8 = (0 : Int))).map fun (e8 : Int) => e8)) (η1 := fun (signs9 : (List Int)) => [some ((vD (dT (dT dI))) a_own), none, none, some ((vD (dL (dT dI))) lines5), some ((vD (dT dI)) e7), none, some ((vN dI) signs9), none]) (Ev.lcIfT (d' := dI) (p := fun (e8 : Int) => !decide (e8 = (0 : Int))) (g := fun (e8 : Int) => e8) (η1 := fun (e8 : Int) => [some ((vD (dT (dT dI))) a_own), none, none, some ((vD (dL (dT dI))) lines5), some ((vD (dT dI)) e7), some ((vD dI) e8), none, none]) (EvI.seq (d := dI) (fun _ => rfl) (fun _ => rfl) (Ev.var (E := (vD (dT dI))) (x := e7) rfl rfl)) (fun _ => rfl) (fun _ => rfl) (fun (e8 : Int) => (Ev.ne Good.I (by decide) (fun _ _ _ => rfl) (Ev.var (E := (vD dI)) (x := e8) rfl rfl) (Ev.int 0))) fun (e8 : Int) => (Ev.var (E := (vD dI)) (x := e8) rfl rfl)) (fun _ => rfl) (fun _ => rfl) fun signs9 =>
    Sq.ifR (Env0 := Empty.elim) (rc := (((Z.if (rangeOk 0 ((signs9.length : Nat) : Int)) (rangeZ 0 ((signs9.length : Nat) : Int))).bind fun x11 => Z.fits ((x11).map fun (e10 : Int) => if (decide ((e10 % (2 : Int)) = (0 : Int))) then (1 : Int) else -(1 : Int))).bind fun x12 => Z.ok (!decide (signs9 = x12))).bind fun x13 => Z.ok (x13 || (decide ((((signs9.length : Nat) : Int) % (2 : Int)) = (0 : Int))))) (Ev.orT (Ev.ne (Good.L Good.I) (by decide) (fun _ _ _ => rfl) (Ev.var (E := (vB dI)) (x := signs9) rfl rfl) (Ev.lcT (d' := dI) (g := fun (e10 : Int) => if (decide ((e10 % (2 : Int)) = (0 : Int))) then (1 : Int) else -(1 : Int)) (η1 := fun (e10 : Int) => [some ((vD (dT (dT dI))) a_own), none, none, some ((vD (dL (dT dI))) lines5), some ((vD (dT dI)) e7), none, some ((vN dI) signs9), some ((vD dI) e10)]) (EvI.rng1 (Ev.len (d := dI) (fun _ _ => rfl) (Ev.var (E := (vB dI)) (x := signs9) rfl rfl))) (fun _ => rfl) (fun _ => rfl) fun (e10 : Int) => (Ev.iteT (Ev.eq Good.I (by decide) (fun _ _ _ => rfl) (Ev.mod (Ev.var (E := (vD dI)) (x := e10) rfl rfl) (Ev.int 2)) (Ev.int 0)) (Ev.int 1) (Ev.neg (Ev.int 1))))) (Ev.one (Ev.eq Good.I (by decide) (fun _ _ _ => rfl) (Ev.mod (Ev.len (d := dI) (fun _ _ => rfl) (Ev.var (E := (vB dI)) (x := signs9) rfl rfl)) (Ev.int 2)) (Ev.int 0)))) (Sq.ret (re := Z.ok (false)) (Ev.bl false) (fun _ => rfl)) <|
    Sq.env (η' := [some ((vD (dT (dT dI))) a_own), none, none, some ((vD (dL (dT dI))) lines5), none, none, none, none]) (fun _ => rfl) <|
    Sq.nil rfl) fun (s14 : Unit) =>
  Sq.ret (re := Z.ok (true)) (Ev.bl true) (fun _ => rfl)
@[irreducible] def m__law_sum_like (a_rows : (List (List Int))) : Rz Bool := Z.run (Y.fin (
  Z.so (Z.ok (((a_rows.length : Nat) : Int) - (1 : Int))) fun n1 =>
  Y.then (Z.so (Z.if (rangeOk 0 (n1 + (1 : Int))) (rangeZ 0 (n1 + (1 : Int)))) fun xs => Y.for (fun (s2 : Unit) (e3 : Int) =>
    Z.so ((((Z.opt (L2.atI a_rows (0 : Int))).bind fun x4 => Z.opt (L2.atI x4 e3)).bind fun x8 => ((Z.opt (L2.atI a_rows e3)).bind fun x5 => Z.opt (L2.atI x5 (0 : Int))).bind fun x9 => ((Z.opt (L2.atI a_rows n1)).bind fun x6 => Z.opt (L2.atI x6 e3)).bind fun x10 => ((Z.opt (L2.atI a_rows e3)).bind fun x7 => Z.opt (L2.atI x7 n1)).bind fun x11 => Z.ok ((x8, x9, x10, x11))).bind fun x12 => Z.ok (!decide (x12 = ((0 : Int), (0 : Int), e3, e3)))) fun k => if k then Y.all (Z.so (Z.ok (false)) fun x => Y.rt x) else
    Y.then (Z.so (Z.if (rangeOk 0 n1) (rangeZ 0 n1)) fun xs => Y.for (fun (s13 : Unit) (e14 : Int) =>
      Z.so (((((Z.opt (L2.atI a_rows e3)).bind fun x20 => Z.opt (L2.atI x20 (e14 + (1 : Int)))).bind fun x22 => ((Z.opt (L2.atI a_rows e3)).bind fun x21 => Z.opt (L2.atI x21 e14)).bind fun x23 => Z.ok (x22 - x23)).bind fun x24 => Z.ok (!decide (x24 ∈ ([(0 : Int), (1 : Int)] : List Int)))).bind fun x25 => if x25 then Z.ok true else (((Z.opt (L2.atI a_rows (e14 + (1 : Int)))).bind fun x15 => Z.opt (L2.atI x15 e3)).bind fun x17 => ((Z.opt (L2.atI a_rows e14)).bind fun x16 => Z.opt (L2.atI x16 e3)).bind fun x18 => Z.ok (x17 - x18)).bind fun x19 => Z.ok (!decide (x19 ∈ ([(0 : Int), (1 : Int)] : List Int)))) fun k => if k then Y.all (Z.so (Z.ok (false)) fun x => Y.rt x) else
      Y.nx ()) xs ()) fun s26 =>
    Y.nx ()) xs ()) fun s27 =>
  Z.so (Z.ok (true)) fun x => Y.rt x))
theorem _law_sum_like_is {k : Nat} (hk : 1 ≤ k) (a_rows : (List (List Int))) (m : Mem) : sem tab k f__law_sum_like [(vD (dT (dT dI))) a_rows] m = (m__law_sum_like a_rows).rs (vD dB) m := by
  unfold m__law_sum_like
  exact sem_P (n := 0) (d := c__law_sum_like) rfl hk fun k hk => fin_P (S := sem tab k) (m := m) (Env0 := Empty.elim) (by rfl) <|
  Sq.asg (re := Z.ok (((a_rows.length : Nat) : Int) - (1 : Int))) (η1 := fun (n1 : Int) => [some ((vD (dT (dT dI))) a_rows), some ((vD dI) n1), none, none]) (Ev.sub (Ev.len (d := (dT dI)) (fun _ _ => rfl) (Ev.var (E := (vD (dT (dT dI)))) (x := a_rows) rfl rfl)) (Ev.int 1)) (fun _ => rfl) (fun _ => rfl) fun n1 =>
  Sq.for (ri := Z.if (rangeOk 0 (n1 + (1 : Int))) (rangeZ 0 (n1 + (1 : Int)))) (s0 := ()) (Env1 := fun (s2 : Unit) => [some ((vD (dT (dT dI))) a_rows), some ((vD dI) n1), none, none]) (η1 := fun (s2 : Unit) (e3 : Int) => [some ((vD (dT (dT dI))) a_rows), some ((vD dI) n1), some ((vD dI) e3), none]) rfl (EvI.rng1 (Ev.add (Ev.var (E := (vD dI)) (x := n1) rfl rfl) (Ev.int 1))) (fun _ _ => rfl) (fun (s2 : Unit) (e3 : Int) =>
    Sq.ifR (Env0 := Empty.elim) (rc := (((Z.opt (L2.atI a_rows (0 : Int))).bind fun x4 => Z.opt (L2.atI x4 e3)).bind fun x8 => ((Z.opt (L2.atI a_rows e3)).bind fun x5 => Z.opt (L2.atI x5 (0 : Int))).bind fun x9 => ((Z.opt (L2.atI a_rows n1)).bind fun x6 => Z.opt (L2.atI x6 e3)).bind fun x10 => ((Z.opt (L2.atI a_rows e3)).bind fun x7 => Z.opt (L2.atI x7 n1)).bind fun x11 => Z.ok ((x8, x9, x10, x11))).bind fun x12 => Z.ok (!decide (x12 = ((0 : Int), (0 : Int), e3, e3)))) (Ev.ne (Good.P4 Good.I Good.I Good.I Good.I) (by decide) (fun _ _ _ => rfl) (Ev.tup4 (fun _ => rfl) (fun _ => rfl) (fun _ => rfl) (fun _ => rfl) (Ev.ix (d := dI) (fun _ _ _ => rfl) (Ev.ix (d := (dT dI)) (fun _ _ _ => rfl) (Ev.var (E := (vD (dT (dT dI)))) (x := a_rows) rfl rfl) (Ev.int 0)) (Ev.var (E := (vD dI)) (x := e3) rfl rfl)) (Ev.ix (d := dI) (fun _ _ _ => rfl) (Ev.ix (d := (dT dI)) (fun _ _ _ => rfl) (Ev.var (E := (vD (dT (dT dI)))) (x := a_rows) rfl rfl) (Ev.var (E := (vD dI)) (x := e3) rfl rfl)) (Ev.int 0)) (Ev.ix (d := dI) (fun _ _ _ => rfl) (Ev.ix (d := (dT dI)) (fun _ _ _ => rfl) (Ev.var (E := (vD (dT (dT dI)))) (x := a_rows) rfl rfl) (Ev.var (E := (vD dI)) (x := n1) rfl rfl)) (Ev.var (E := (vD dI)) (x := e3) rfl rfl)) (Ev.ix (d := dI) (fun _ _ _ => rfl) (Ev.ix (d := (dT dI)) (fun _ _ _ => rfl) (Ev.var (E := (vD (dT (dT dI)))) (x := a_rows) rfl rfl) (Ev.var (E := (vD dI)) (x := e3) rfl rfl)) (Ev.var (E := (vD dI)) (x := n1) rfl rfl))) (Ev.tup4 (fun _ => rfl) (fun _ => rfl) (fun _ => rfl) (fun _ => rfl) (Ev.int 0) (Ev.int 0) (Ev.var (E := (vD dI)) (x := e3) rfl rfl) (Ev.var (E := (vD dI)) (x := e3) rfl rfl))) (Sq.ret (re := Z.ok (false)) (Ev.bl false) (fun _ => rfl)) <|
    Sq.for (ri := Z.if (rangeOk 0 n1) (rangeZ 0 n1)) (s0 := ()) (Env1 := fun (s13 : Unit) => [some ((vD (dT (dT dI))) a_rows), some ((vD dI) n1), some ((vD dI) e3), none]) (η1 := fun (s13 : Unit) (e14 : Int) => [some ((vD (dT (dT dI))) a_rows), some ((vD dI) n1), some ((vD dI) e3), some ((vD dI) e14)]) rfl (EvI.rng1 (Ev.var (E := (vD dI)) (x := n1) rfl rfl)) (fun _ _ => rfl) (fun (s13 : Unit) (e14 : Int) =>
      Sq.ifR (Env0 := Empty.elim) (rc := ((((Z.opt (L2.atI a_rows e3)).bind fun x20 => Z.opt (L2.atI x20 (e14 + (1 : Int)))).bind fun x22 => ((Z.opt (L2.atI a_rows e3)).bind fun x21 => Z.opt (L2.atI x21 e14)).bind fun x23 => Z.ok (x22 - x23)).bind fun x24 => Z.ok (!decide (x24 ∈ ([(0 : Int), (1 : Int)] : List Int)))).bind fun x25 => if x25 then Z.ok true else (((Z.opt (L2.atI a_rows (e14 + (1 : Int)))).bind fun x15 => Z.opt (L2.atI x15 e3)).bind fun x17 => ((Z.opt (L2.atI a_rows e14)).bind fun x16 => Z.opt (L2.atI x16 e3)).bind fun x18 => Z.ok (x17 - x18)).bind fun x19 => Z.ok (!decide (x19 ∈ ([(0 : Int), (1 : Int)] : List Int)))) (Ev.or (Ev.ninT (Ev.sub (Ev.ix (d := dI) (fun _ _ _ => rfl) (Ev.ix (d := (dT dI)) (fun _ _ _ => rfl) (Ev.var (E := (vD (dT (dT dI)))) (x := a_rows) rfl rfl) (Ev.var (E := (vD dI)) (x := e3) rfl rfl)) (Ev.add (Ev.var (E := (vD dI)) (x := e14) rfl rfl) (Ev.int 1))) (Ev.ix (d := dI) (fun _ _ _ => rfl) (Ev.ix (d := (dT dI)) (fun _ _ _ => rfl) (Ev.var (E := (vD (dT (dT dI)))) (x := a_rows) rfl rfl) (Ev.var (E := (vD dI)) (x := e3) rfl rfl)) (Ev.var (E := (vD dI)) (x := e14) rfl rfl))) (Ev.tup (EvL.cons (d := dI) (f := fun z => z) (fun _ => rfl) (Ev.int 0) (EvL.cons (d := dI) (f := fun z => z) (fun _ => rfl) (Ev.int 1) (EvL.nil (d := dI)))))) (Ev.one (Ev.ninT (Ev.sub (Ev.ix (d := dI) (fun _ _ _ => rfl) (Ev.ix (d := (dT dI)) (fun _ _ _ => rfl) (Ev.var (E := (vD (dT (dT dI)))) (x := a_rows) rfl rfl) (Ev.add (Ev.var (E := (vD dI)) (x := e14) rfl rfl) (Ev.int 1))) (Ev.var (E := (vD dI)) (x := e3) rfl rfl)) (Ev.ix (d := dI) (fun _ _ _ => rfl) (Ev.ix (d := (dT dI)) (fun _ _ _ => rfl) (Ev.var (E := (vD (dT (dT dI)))) (x := a_rows) rfl rfl) (Ev.var (E := (vD dI)) (x := e14) rfl rfl)) (Ev.var (E := (vD dI)) (x := e3) rfl rfl))) (Ev.tup (EvL.cons (d := dI) (f := fun z => z) (fun _ => rfl) (Ev.int 0) (EvL.cons (d := dI) (f := fun z => z) (fun _ => rfl) (Ev.int 1) (EvL.nil (d := dI)))))))) (Sq.ret (re := Z.ok (false)) (Ev.bl false) (fun _ => rfl)) <|
      Sq.env (η' := [some ((vD (dT (dT dI))) a_rows), some ((vD dI) n1), some ((vD dI) e3), none]) (fun _ => rfl) <|
      Sq.nil rfl) fun (s26 : Unit) =>
    Sq.env (η' := [some ((vD (dT (dT dI))) a_rows), some ((vD dI) n1), none, none]) (fun _ => rfl) <|
    Sq.nil rfl) fun (s27 : Unit) =>
  Sq.ret (re := Z.ok (true)) (Ev.bl true) (fun _ => rfl)
@[irreducible] def m__law_sum_like_2 (a_rows : (List (List Int))) : Rz Bool := Z.run (Y.fin (
  Z.so (Z.ok (((a_rows.length : Nat) : Int) - (1 : Int))) fun n1 =>
  Y.then (Z.so (Z.if (rangeOk 0 (n1 + (1 : Int))) (rangeZ 0 (n1 + (1 : Int)))) fun xs => Y.for (fun (s2 : Unit) (e3 : Int) =>
    Z.so ((((Z.opt (L2.atI a_rows (0 : Int))).bind fun x4 => Z.opt (L2.atI x4 e3)).bind fun x8 => ((Z.opt (L2.atI a_rows e3)).bind fun x5 => Z.opt (L2.atI x5 (0 : Int))).bind fun x9 => ((Z.opt (L2.atI a_rows n1)).bind fun x6 => Z.opt (L2.atI x6 e3)).bind fun x10 => ((Z.opt (L2.atI a_rows e3)).bind fun x7 => Z.opt (L2.atI x7 n1)).bind fun x11 => Z.ok ((x8, x9, x10, x11))).bind fun x12 => Z.ok (!decide (x12 = ((0 : Int), (0 : Int), e3, e3)))) fun k => if k then Y.all (Z.so (Z.ok (false)) fun x => Y.rt x) else
    Y.then (Z.so (Z.if (rangeOk 0 n1) (rangeZ 0 n1)) fun xs => Y.for (fun (s13 : Unit) (e14 : Int) =>
      Z.so (((((Z.opt (L2.atI a_rows e3)).bind fun x20 => Z.opt (L2.atI x20 (e14 + (1 : Int)))).bind fun x22 => ((Z.opt (L2.atI a_rows e3)).bind fun x21 => Z.opt (L2.atI x21 e14)).bind fun x23 => Z.ok (x22 - x23)).bind fun x24 => Z.ok (!decide (x24 ∈ ([(0 : Int), (1 : Int)] : List Int)))).bind fun x25 => if x25 then Z.ok true else (((Z.opt (L2.atI a_rows (e14 + (1 : Int)))).bind fun x15 => Z.opt (L2.atI x15 e3)).bind fun x17 => ((Z.opt (L2.atI a_rows e14)).bind fun x16 => Z.opt (L2.atI x16 e3)).bind fun x18 => Z.ok (x17 - x18)).bind fun x19 => Z.ok (!decide (x19 ∈ ([(0 : Int), (1 : Int)] : List Int)))) fun k => if k then Y.all (Z.so (Z.ok (false)) fun x => Y.rt x) else
      Y.nx ()) xs ()) fun s26 =>
    Y.nx ()) xs ()) fun s27 =>
  Z.so (Z.ok (true)) fun x => Y.rt x))
theorem _law_sum_like_2_is {k : Nat} (hk : 1 ≤ k) (a_rows : (List (List Int))) (m : Mem) : sem tab k f__law_sum_like [(vD (dL (dL dI))) a_rows] m = (m__law_sum_like_2 a_rows).rs (vD dB) m := by
  unfold m__law_sum_like_2
  exact sem_P (n := 0) (d := c__law_sum_like) rfl hk fun k hk => fin_P (S := sem tab k) (m := m) (Env0 := Empty.elim) (by rfl) <|
  Sq.asg (re := Z.ok (((a_rows.length : Nat) : Int) - (1 : Int))) (η1 := fun (n1 : Int) => [some ((vD (dL (dL dI))) a_rows), some ((vD dI) n1), none, none]) (Ev.sub (Ev.len (d := (dL dI)) (fun _ _ => rfl) (Ev.var (E := (vD (dL (dL dI)))) (x := a_rows) rfl rfl)) (Ev.int 1)) (fun _ => rfl) (fun _ => rfl) fun n1 =>
  Sq.for (ri := Z.if (rangeOk 0 (n1 + (1 : Int))) (rangeZ 0 (n1 + (1 : Int)))) (s0 := ()) (Env1 := fun (s2 : Unit) => [some ((vD (dL (dL dI))) a_rows), some ((vD dI) n1), none, none]) (η1 := fun (s2 : Unit) (e3 : Int) => [some ((vD (dL (dL dI))) a_rows), some ((vD dI) n1), some ((vD dI) e3), none]) rfl (EvI.rng1 (Ev.add (Ev.var (E := (vD dI)) (x := n1) rfl rfl) (Ev.int 1))) (fun _ _ => rfl) (fun (s2 : Unit) (e3 : Int) =>
    Sq.ifR (Env0 := Empty.elim) (rc := (((Z.opt (L2.atI a_rows (0 : Int))).bind fun x4 => Z.opt (L2.atI x4 e3)).bind fun x8 => ((Z.opt (L2.atI a_rows e3)).bind fun x5 => Z.opt (L2.atI x5 (0 : Int))).bind fun x9 => ((Z.opt (L2.atI a_rows n1)).bind fun x6 => Z.opt (L2.atI x6 e3)).bind fun x10 => ((Z.opt (L2.atI a_rows e3)).bind fun x7 => Z.opt (L2.atI x7 n1)).bind fun x11 => Z.ok ((x8, x9, x10, x11))).bind fun x12 => Z.ok (!decide (x12 = ((0 : Int), (0 : Int), e3, e3)))) (Ev.ne (Good.P4 Good.I Good.I Good.I Good.I) (by decide) (fun _ _ _ => rfl) (Ev.tup4 (fun _ => rfl) (fun _ => rfl) (fun _ => rfl) (fun _ => rfl) (Ev.ix (d := dI) (fun _ _ _ => rfl) (Ev.ix (d := (dL dI)) (fun _ _ _ => rfl) (Ev.var (E := (vD (dL (dL dI)))) (x := a_rows) rfl rfl) (Ev.int 0)) (Ev.var (E := (vD dI)) (x := e3) rfl rfl)) (Ev.ix (d := dI) (fun _ _ _ => rfl) (Ev.ix (d := (dL dI)) (fun _ _ _ => rfl) (Ev.var (E := (vD (dL (dL dI)))) (x := a_rows) rfl rfl) (Ev.var (E := (vD dI)) (x := e3) rfl rfl)) (Ev.int 0)) (Ev.ix (d := dI) (fun _ _ _ => rfl) (Ev.ix (d := (dL dI)) (fun _ _ _ => rfl) (Ev.var (E := (vD (dL (dL dI)))) (x := a_rows) rfl rfl) (Ev.var (E := (vD dI)) (x := n1) rfl rfl)) (Ev.var (E := (vD dI)) (x := e3) rfl rfl)) (Ev.ix (d := dI) (fun _ _ _ => rfl) (Ev.ix (d := (dL dI)) (fun _ _ _ => rfl) (Ev.var (E := (vD (dL (dL dI)))) (x := a_rows) rfl rfl) (Ev.var (E := (vD dI)) (x := e3) rfl rfl)) (Ev.var (E := (vD dI)) (x := n1) rfl rfl))) (Ev.tup4 (fun _ => rfl) (fun _ => rfl) (fun _ => rfl) (fun _ => rfl) (Ev.int 0) (Ev.int 0) (Ev.var (E := (vD dI)) (x := e3) rfl rfl) (Ev.var (E := (vD dI)) (x := e3) rfl rfl))) (Sq.ret (re := Z.ok (false)) (Ev.bl false) (fun _ => rfl)) <|
    Sq.for (ri := Z.if (rangeOk 0 n1) (rangeZ 0 n1)) (s0 := ()) (Env1 := fun (s13 : Unit) => [some ((vD (dL (dL dI))) a_rows), some ((vD dI) n1), some ((vD dI) e3), none]) (η1 := fun (s13 : Unit) (e14 : Int) => [some ((vD (dL (dL dI))) a_rows), some ((vD dI) n1), some ((vD dI) e3), some ((vD dI) e14)]) rfl (EvI.rng1 (Ev.var (E := (vD dI)) (x := n1) rfl rfl)) (fun _ _ => rfl) (fun (s13 : Unit) (e14 : Int) =>
      Sq.ifR (Env0 := Empty.elim) (rc := ((((Z.opt (L2.atI a_rows e3)).bind fun x20 => Z.opt (L2.atI x20 (e14 + (1 : Int)))).bind fun x22 => ((Z.opt (L2.atI a_rows e3)).bind fun x21 => Z.opt (L2.atI x21 e14)).bind fun x23 => Z.ok (x22 - x23)).bind fun x24 => Z.ok (!decide (x24 ∈ ([(0 : Int), (1 : Int)] : List Int)))).bind fun x25 => if x25 then Z.ok true else (((Z.opt (L2.atI a_rows (e14 + (1 : Int)))).bind fun x15 => Z.opt (L2.atI x15 e3)).bind fun x17 => ((Z.opt (L2.atI a_rows e14)).bind fun x16 => Z.opt (L2.atI x16 e3)).bind fun x18 => Z.ok (x17 - x18)).bind fun x19 => Z.ok (!decide (x19 ∈ ([(0 : Int), (1 : Int)] : List Int)))) (Ev.or (Ev.ninT (Ev.sub (Ev.ix (d := dI) (fun _ _ _ => rfl) (Ev.ix (d := (dL dI)) (fun _ _ _ => rfl) (Ev.var (E := (vD (dL (dL dI)))) (x := a_rows) rfl rfl) (Ev.var (E := (vD dI)) (x := e3) rfl rfl)) (Ev.add (Ev.var (E := (vD dI)) (x := e14) rfl rfl) (Ev.int 1))) (Ev.ix (d := dI) (fun _ _ _ => rfl) (Ev.ix (d := (dL dI)) (fun _ _ _ => rfl) (Ev.var (E := (vD (dL (dL dI)))) (x := a_rows) rfl rfl) (Ev.var (E := (vD dI)) (x := e3) rfl rfl)) (Ev.var (E := (vD dI)) (x := e14) rfl rfl))) (Ev.tup (EvL.cons (d := dI) (f := fun z => z) (fun _ => rfl) (Ev.int 0) (EvL.cons (d := dI) (f := fun z => z) (fun _ => rfl) (Ev.int 1) (EvL.nil (d := dI)))))) (Ev.one (Ev.ninT (Ev.sub (Ev.ix (d := dI) (fun _ _ _ => rfl) (Ev.ix (d := (dL dI)) (fun _ _ _ => rfl) (Ev.var (E := (vD (dL (dL dI)))) (x := a_rows) rfl rfl) (Ev.add (Ev.var (E := (vD dI)) (x := e14) rfl rfl) (Ev.int 1))) (Ev.var (E := (vD dI)) (x := e3) rfl rfl)) (Ev.ix (d := dI) (fun _ _ _ => rfl) (Ev.ix (d := (dL dI)) (fun _ _ _ => rfl) (Ev.var (E := (vD (dL (dL dI)))) (x := a_rows) rfl rfl) (Ev.var (E := (vD dI)) (x := e14) rfl rfl)) (Ev.var (E := (vD dI)) (x := e3) rfl rfl))) (Ev.tup (EvL.cons (d := dI) (f := fun z => z) (fun _ => rfl) (Ev.int 0) (EvL.cons (d := dI) (f := fun z => z) (fun _ => rfl) (Ev.int 1) (EvL.nil (d := dI)))))))) (Sq.ret (re := Z.ok (false)) (Ev.bl false) (fun _ => rfl)) <|
      Sq.env (η' := [some ((vD (dL (dL dI))) a_rows), some ((vD dI) n1), some ((vD dI) e3), none]) (fun _ => rfl) <|
      Sq.nil rfl) fun (s26 : Unit) =>
    Sq.env (η' := [some ((vD (dL (dL dI))) a_rows), some ((vD dI) n1), none, none]) (fun _ => rfl) <|
    Sq.nil rfl) fun (s27 : Unit) =>
  Sq.ret (re := Z.ok (true)) (Ev.bl true) (fun _ => rfl)
@[irreducible] def m__law_uncorner_2 (a_rows : (List (List Int))) : Rz (List (List Int)) := Z.run (Y.fin (
  Z.so (Z.ok (((a_rows.length : Nat) : Int) - (1 : Int))) fun n1 =>
  Z.so (Z.ok (([] : List (List Int)))) fun made2 =>
  Y.then (Z.so (Z.if (rangeOk 0 n1) (rangeZ 0 n1)) fun xs => Y.for (fun (s3 : ((List (List Int)))) (e4 : Int) =>
    Z.so (((Z.opt (L2.atI a_rows e4)).bind fun x5 => (Z.opt (L2.atI a_rows (e4 + (1 : Int)))).bind fun x6 => Z.ok (List.zip x5 x6)).bind fun x8 => Z.fits ((x8).map fun (e7 : (Int × Int)) => e7.2 - e7.1)) fun steps9 =>
    Z.so ((Z.if (rangeOk 0 n1) (rangeZ 0 n1)).bind fun x14 => Z.lc (fun (e11 : Int) => (Z.opt (L2.atI steps9 (e11 + (1 : Int)))).bind fun x12 => (Z.opt (L2.atI steps9 e11)).bind fun x13 => Z.ok (x12 - x13)) x14) fun y => Z.so (Z.fits (s3 ++ [y])) fun made10 =>
    Y.nx (made10)) xs (made2)) fun s15 =>
  Z.so (Z.ok (s15)) fun x => Y.rt x))
theorem _law_uncorner_2_is {k : Nat} (hk : 1 ≤ k) (a_rows : (List (List Int))) (m : Mem) : sem tab k f__law_uncorner [(vD (dL (dL dI))) a_rows] m = (m__law_uncorner_2 a_rows).rs (vD (dT (dT dI))) m := by
  unfold m__law_uncorner_2
  exact sem_P (n := 0) (d := c__law_uncorner) rfl hk fun k hk => fin_P (S := sem tab k) (m := m) (Env0 := Empty.elim) (by rfl) <|
  Sq.asg (re := Z.ok (((a_rows.length : Nat) : Int) - (1 : Int))) (η1 := fun (n1 : Int) => [some ((vD (dL (dL dI))) a_rows), some ((vD dI) n1), none, none, none, none, none, none]) (Ev.sub (Ev.len (d := (dL dI)) (fun _ _ => rfl) (Ev.var (E := (vD (dL (dL dI)))) (x := a_rows) rfl rfl)) (Ev.int 1)) (fun _ => rfl) (fun _ => rfl) fun n1 =>
  Sq.asg (re := Z.ok (([] : List (List Int)))) (η1 := fun (made2 : (List (List Int))) => [some ((vD (dL (dL dI))) a_rows), some ((vD dI) n1), some ((vN (dT dI)) made2), none, none, none, none, none]) (Ev.lst (EvL.nil (d := (dT dI)))) (fun _ => rfl) (fun _ => rfl) fun made2 =>
  Sq.for (ri := Z.if (rangeOk 0 n1) (rangeZ 0 n1)) (s0 := (made2)) (Env1 := fun (s3 : ((List (List Int)))) => [some ((vD (dL (dL dI))) a_rows), some ((vD dI) n1), some ((vN (dT dI)) s3), none, none, none, none, none]) (η1 := fun (s3 : ((List (List Int)))) (e4 : Int) => [some ((vD (dL (dL dI))) a_rows), some ((vD dI) n1), some ((vN (dT dI)) s3), some ((vD dI) e4), none, none, none, none]) rfl (EvI.rng1 (Ev.var (E := (vD dI)) (x := n1) rfl rfl)) (fun _ _ => rfl) (fun (s3 : ((List (List Int)))) (e4 : Int) =>
    Sq.asg (re := ((Z.opt (L2.atI a_rows e4)).bind fun x5 => (Z.opt (L2.atI a_rows (e4 + (1 : Int)))).bind fun x6 => Z.ok (List.zip x5 x6)).bind fun x8 => Z.fits ((x8).map fun (e7 : (Int × Int)) => e7.2 - e7.1)) (η1 := fun (steps9 : (List Int)) => [some ((vD (dL (dL dI))) a_rows), some ((vD dI) n1), some ((vN (dT dI)) s3), some ((vD dI) e4), none, none, some ((vN dI) steps9), none]) (Ev.lcT (d' := dI) (g := fun (e7 : (Int × Int)) => e7.2 - e7.1) (η1 := fun (e7 : (Int × Int)) => [some ((vD (dL (dL dI))) a_rows), some ((vD dI) n1), some ((vN (dT dI)) s3), some ((vD dI) e4), some ((vD dI) e7.1), some ((vD dI) e7.2), none, none]) (EvI.zip (d := dI) (d' := dI) (fun _ _ => rfl) (fun _ => rfl) (fun _ => rfl) (Ev.ix (d := (dL dI)) (fun _ _ _ => rfl) (Ev.var (E := (vD (dL (dL dI)))) (x := a_rows) rfl rfl) (Ev.var (E := (vD dI)) (x := e4) rfl rfl)) (Ev.ix (d := (dL dI)) (fun _ _ _ => rfl) (Ev.var (E := (vD (dL (dL dI)))) (x := a_rows) rfl rfl) (Ev.add (Ev.var (E := (vD dI)) (x := e4) rfl rfl) (Ev.int 1)))) (fun _ => rfl) (fun _ => rfl) fun (e7 : (Int × Int)) => (Ev.sub (Ev.var (E := (vD dI)) (x := e7.2) rfl rfl) (Ev.var (E := (vD dI)) (x := e7.1) rfl rfl))) (fun _ => rfl) (fun _ => rfl) fun steps9 =>
    Sq.app (xs := s3) (d := (dT dI)) (f := fun y => y) (re := (Z.if (rangeOk 0 n1) (rangeZ 0 n1)).bind fun x14 => Z.lc (fun (e11 : Int) => (Z.opt (L2.atI steps9 (e11 + (1 : Int)))).bind fun x12 => (Z.opt (L2.atI steps9 e11)).bind fun x13 => Z.ok (x12 - x13)) x14) (η1 := fun (made10 : (List (List Int))) => [some ((vD (dL (dL dI))) a_rows), some ((vD dI) n1), some ((vN (dT dI)) made10), some ((vD dI) e4), none, none, some ((vN dI) steps9), none]) rfl (fun _ => rfl) (Ev.tuple (d := dI) (fun _ _ => rfl) (Ev.lc (d' := dI) (g := fun (e11 : Int) => (Z.opt (L2.atI steps9 (e11 + (1 : Int)))).bind fun x12 => (Z.opt (L2.atI steps9 e11)).bind fun x13 => Z.ok (x12 - x13)) (η1 := fun (e11 : Int) => [some ((vD (dL (dL dI))) a_rows), some ((vD dI) n1), some ((vN (dT dI)) s3), some ((vD dI) e4), none, none, some ((vN dI) steps9), some ((vD dI) e11)]) (EvI.rng1 (Ev.var (E := (vD dI)) (x := n1) rfl rfl)) (fun _ => rfl) (fun _ => rfl) fun (e11 : Int) => (Ev.sub (Ev.ix (d := dI) (fun _ _ _ => rfl) (Ev.var (E := (vB dI)) (x := steps9) rfl rfl) (Ev.add (Ev.var (E := (vD dI)) (x := e11) rfl rfl) (Ev.int 1))) (Ev.ix (d := dI) (fun _ _ _ => rfl) (Ev.var (E := (vB dI)) (x := steps9) rfl rfl) (Ev.var (E := (vD dI)) (x := e11) rfl rfl))))) (fun _ => rfl) fun made10 =>
    Sq.env (η' := [some ((vD (dL (dL dI))) a_rows), some ((vD dI) n1), some ((vN (dT dI)) made10), none, none, none, none, none]) (fun _ => rfl) <|
    Sq.nil rfl) fun (s15 : ((List (List Int)))) =>
  Sq.ret (re := Z.ok (s15)) (Ev.tuple (d := (dT dI)) (fun _ _ => rfl) (Ev.var (E := (vB (dT dI))) (x := s15) rfl rfl)) (fun _ => rfl)
@[irreducible] def m__law_under (a_one : (List (List Int))) (a_other : (List (List Int))) : Rz Bool := Z.run (Y.fin (
  Y.then (Z.so ((Z.lift (m__law_corners a_one)).bind fun x1 => (Z.lift (m__law_corners a_other)).bind fun x2 => Z.ok (List.zip x1 x2)) fun xs => Y.for (fun (s3 : Unit) (e4 : ((List Int) × (List Int))) =>
    Z.so ((Z.fits ((((List.zip e4.1 e4.2)).filter fun (e5 : (Int × Int)) => decide (e5.1 < e5.2)).map fun (e5 : (Int × Int)) => (1 : Int))).bind fun x6 => Z.ok (!decide (x6 = ([] : List Int)))) fun k => if k then Y.all (Z.so (Z.ok (false)) fun x => Y.rt x) else
    Y.nx ()) xs ()) fun s7 =>
  Z.so (Z.ok (true)) fun x => Y.rt x))
theorem _law_under_is {k : Nat} (hk : 2 ≤ k) (a_one : (List (List Int))) (a_other : (List (List Int))) (m : Mem) : sem tab k f__law_under [(vD (dT (dT dI))) a_one, (vD (dT (dT dI))) a_other] m = (m__law_under a_one a_other).rs (vD dB) m := by
  unfold m__law_under
  exact sem_P (n := 1) (d := c__law_under) rfl hk fun k hk => fin_P (S := sem tab k) (m := m) (Env0 := Empty.elim) (by rfl) <|
  Sq.for (ri := (Z.lift (m__law_corners a_one)).bind fun x1 => (Z.lift (m__law_corners a_other)).bind fun x2 => Z.ok (List.zip x1 x2)) (s0 := ()) (Env1 := fun (s3 : Unit) => [some ((vD (dT (dT dI))) a_one), some ((vD (dT (dT dI))) a_other), none, none, none, none]) (η1 := fun (s3 : Unit) (e4 : ((List Int) × (List Int))) => [some ((vD (dT (dT dI))) a_one), some ((vD (dT (dT dI))) a_other), some ((vD (dT dI)) e4.1), some ((vD (dT dI)) e4.2), none, none]) rfl (EvI.zip (d := (dT dI)) (d' := (dT dI)) (fun _ _ => rfl) (fun _ => rfl) (fun _ => rfl) (Ev.call1T (E := (vD (dT (dT dI)))) (g := Z.lift (m__law_corners a_one)) (fun w => call_P (M := fun _ => m) (w := w) rfl (_law_corners_is (by omega) a_one _)) (Ev.var (E := (vD (dT (dT dI)))) (x := a_one) rfl rfl)) (Ev.call1T (E := (vD (dT (dT dI)))) (g := Z.lift (m__law_corners a_other)) (fun w => call_P (M := fun _ => m) (w := w) rfl (_law_corners_is (by omega) a_other _)) (Ev.var (E := (vD (dT (dT dI)))) (x := a_other) rfl rfl))) (fun _ _ => rfl) (fun (s3 : Unit) (e4 : ((List Int) × (List Int))) =>
    Sq.ifR (Env0 := Empty.elim) (rc := (Z.fits ((((List.zip e4.1 e4.2)).filter fun (e5 : (Int × Int)) => decide (e5.1 < e5.2)).map fun (e5 : (Int × Int)) => (1 : Int))).bind fun x6 => Z.ok (!decide (x6 = ([] : List Int)))) (Ev.ne (Good.L Good.I) (by decide) (fun _ _ _ => rfl) (Ev.lcIfT (d' := dI) (p := fun (e5 : (Int × Int)) => decide (e5.1 < e5.2)) (g := fun (e5 : (Int × Int)) => (1 : Int)) (η1 := fun (e5 : (Int × Int)) => [some ((vD (dT (dT dI))) a_one), some ((vD (dT (dT dI))) a_other), some ((vD (dT dI)) e4.1), some ((vD (dT dI)) e4.2), some ((vD dI) e5.1), some ((vD dI) e5.2)]) (EvI.zip (d := dI) (d' := dI) (fun _ _ => rfl) (fun _ => rfl) (fun _ => rfl) (Ev.var (E := (vD (dT dI))) (x := e4.1) rfl rfl) (Ev.var (E := (vD (dT dI))) (x := e4.2) rfl rfl)) (fun _ => rfl) (fun _ => rfl) (fun (e5 : (Int × Int)) => (Ev.lt (Ev.var (E := (vD dI)) (x := e5.1) rfl rfl) (Ev.var (E := (vD dI)) (x := e5.2) rfl rfl))) fun (e5 : (Int × Int)) => (Ev.int 1)) (Ev.lst (EvL.nil (d := dI)))) (Sq.ret (re := Z.ok (false)) (Ev.bl false) (fun _ => rfl)) <|
    Sq.env (η' := [some ((vD (dT (dT dI))) a_one), some ((vD (dT (dT dI))) a_other), none, none, none, none]) (fun _ => rfl) <|
    Sq.nil rfl) fun (s7 : Unit) =>
  Sq.ret (re := Z.ok (true)) (Ev.bl true) (fun _ => rfl)
@[irreducible] def m__law_same_number (a_got : Int) (a_due : Int) : Rz Bool := Z.run (Y.fin (
  Z.so (Z.ok (true && ((!false) && (decide (a_got = a_due))))) fun x => Y.rt x))
theorem _law_same_number_is {k : Nat} (hk : 1 ≤ k) (a_got : Int) (a_due : Int) (m : Mem) : sem tab k f__law_same_number [(vD dI) a_got, (vD dI) a_due] m = (m__law_same_number a_got a_due).rs (vD dB) m := by
  unfold m__law_same_number
  exact sem_P (n := 0) (d := c__law_same_number) rfl hk fun k hk => fin_P (S := sem tab k) (m := m) (Env0 := Empty.elim) (by rfl) <|
  Sq.ret (re := Z.ok (true && ((!false) && (decide (a_got = a_due))))) (Ev.andT (Ev.isiT (v := true) (fun _ _ => rfl) (Ev.var (E := (vD dI)) (x := a_got) rfl rfl)) (Ev.andT (Ev.nt (Ev.isiT (v := false) (fun _ _ => rfl) (Ev.var (E := (vD dI)) (x := a_got) rfl rfl))) (Ev.one (Ev.eq Good.I (by decide) (fun _ _ _ => rfl) (Ev.var (E := (vD dI)) (x := a_got) rfl rfl) (Ev.var (E := (vD dI)) (x := a_due) rfl rfl))))) (fun _ => rfl)
@[irreducible] def m__law_same_truth (a_got : Bool) (a_due : Bool) : Rz Bool := Z.run (Y.fin (
  Z.so (Z.ok (true && (decide (a_got = a_due)))) fun x => Y.rt x))
theorem _law_same_truth_is {k : Nat} (hk : 1 ≤ k) (a_got : Bool) (a_due : Bool) (m : Mem) : sem tab k f__law_same_truth [(vD dB) a_got, (vD dB) a_due] m = (m__law_same_truth a_got a_due).rs (vD dB) m := by
  unfold m__law_same_truth
  exact sem_P (n := 0) (d := c__law_same_truth) rfl hk fun k hk => fin_P (S := sem tab k) (m := m) (Env0 := Empty.elim) (by rfl) <|
  Sq.ret (re := Z.ok (true && (decide (a_got = a_due)))) (Ev.andT (Ev.isiT (v := true) (fun _ _ => rfl) (Ev.var (E := (vD dB)) (x := a_got) rfl rfl)) (Ev.one (Ev.eq Good.B (by decide) (fun _ _ _ => rfl) (Ev.var (E := (vD dB)) (x := a_got) rfl rfl) (Ev.var (E := (vD dB)) (x := a_due) rfl rfl)))) (fun _ => rfl)
@[irreducible] def m__law_one_apart (a_one : (List (List Int))) (a_other : (List (List Int))) : Rz Bool := Z.run (Y.fin (
  Z.so (Z.ok (([] : List Int))) fun steps1 =>
  Y.then (Z.so ((Z.lift (m__law_corners a_one)).bind fun x2 => (Z.lift (m__law_corners a_other)).bind fun x3 => Z.ok (List.zip x2 x3)) fun xs => Y.for (fun (s4 : ((List Int))) (e5 : ((List Int) × (List Int))) =>
    Z.so (Z.fits (((List.zip e5.1 e5.2)).map fun (e7 : (Int × Int)) => if (e7.2 - e7.1) > (e7.1 - e7.2) then (e7.2 - e7.1) else (e7.1 - e7.2))) fun y => Z.so (Z.fits (s4 ++ y)) fun steps6 =>
    Y.nx (steps6)) xs (steps1)) fun s8 =>
  Z.so (Z.ok (decide (((s8).sum) = (1 : Int)))) fun x => Y.rt x))
theorem _law_one_apart_is {k : Nat} (hk : 2 ≤ k) (a_one : (List (List Int))) (a_other : (List (List Int))) (m : Mem) : sem tab k f__law_one_apart [(vD (dT (dT dI))) a_one, (vD (dT (dT dI))) a_other] m = (m__law_one_apart a_one a_other).rs (vD dB) m := by
  unfold m__law_one_apart
  exact sem_P (n := 1) (d := c__law_one_apart) rfl hk fun k hk => fin_P (S := sem tab k) (m := m) (Env0 := Empty.elim) (by rfl) <|
  Sq.asg (re := Z.ok (([] : List Int))) (η1 := fun (steps1 : (List Int)) => [some ((vD (dT (dT dI))) a_one), some ((vD (dT (dT dI))) a_other), some ((vN dI) steps1), none, none, none, none]) (Ev.lst (EvL.nil (d := dI))) (fun _ => rfl) (fun _ => rfl) fun steps1 =>
  Sq.for (ri := (Z.lift (m__law_corners a_one)).bind fun x2 => (Z.lift (m__law_corners a_other)).bind fun x3 => Z.ok (List.zip x2 x3)) (s0 := (steps1)) (Env1 := fun (s4 : ((List Int))) => [some ((vD (dT (dT dI))) a_one), some ((vD (dT (dT dI))) a_other), some ((vN dI) s4), none, none, none, none]) (η1 := fun (s4 : ((List Int))) (e5 : ((List Int) × (List Int))) => [some ((vD (dT (dT dI))) a_one), some ((vD (dT (dT dI))) a_other), some ((vN dI) s4), some ((vD (dT dI)) e5.1), some ((vD (dT dI)) e5.2), none, none]) rfl (EvI.zip (d := (dT dI)) (d' := (dT dI)) (fun _ _ => rfl) (fun _ => rfl) (fun _ => rfl) (Ev.call1T (E := (vD (dT (dT dI)))) (g := Z.lift (m__law_corners a_one)) (fun w => call_P (M := fun _ => m) (w := w) rfl (_law_corners_is (by omega) a_one _)) (Ev.var (E := (vD (dT (dT dI)))) (x := a_one) rfl rfl)) (Ev.call1T (E := (vD (dT (dT dI)))) (g := Z.lift (m__law_corners a_other)) (fun w => call_P (M := fun _ => m) (w := w) rfl (_law_corners_is (by omega) a_other _)) (Ev.var (E := (vD (dT (dT dI)))) (x := a_other) rfl rfl))) (fun _ _ => rfl) (fun (s4 : ((List Int))) (e5 : ((List Int) × (List Int))) =>
    Sq.ext (xs := s4) (d := dI) (re := Z.fits (((List.zip e5.1 e5.2)).map fun (e7 : (Int × Int)) => if (e7.2 - e7.1) > (e7.1 - e7.2) then (e7.2 - e7.1) else (e7.1 - e7.2))) (η1 := fun (steps6 : (List Int)) => [some ((vD (dT (dT dI))) a_one), some ((vD (dT (dT dI))) a_other), some ((vN dI) steps6), some ((vD (dT dI)) e5.1), some ((vD (dT dI)) e5.2), none, none]) rfl (Ev.lcT (d' := dI) (g := fun (e7 : (Int × Int)) => if (e7.2 - e7.1) > (e7.1 - e7.2) then (e7.2 - e7.1) else (e7.1 - e7.2)) (η1 := fun (e7 : (Int × Int)) => [some ((vD (dT (dT dI))) a_one), some ((vD (dT (dT dI))) a_other), some ((vN dI) s4), some ((vD (dT dI)) e5.1), some ((vD (dT dI)) e5.2), some ((vD dI) e7.1), some ((vD dI) e7.2)]) (EvI.zip (d := dI) (d' := dI) (fun _ _ => rfl) (fun _ => rfl) (fun _ => rfl) (Ev.var (E := (vD (dT dI))) (x := e5.1) rfl rfl) (Ev.var (E := (vD (dT dI))) (x := e5.2) rfl rfl)) (fun _ => rfl) (fun _ => rfl) fun (e7 : (Int × Int)) => (Ev.mx (Ev.sub (Ev.var (E := (vD dI)) (x := e7.1) rfl rfl) (Ev.var (E := (vD dI)) (x := e7.2) rfl rfl)) (Ev.sub (Ev.var (E := (vD dI)) (x := e7.2) rfl rfl) (Ev.var (E := (vD dI)) (x := e7.1) rfl rfl)))) (fun _ => rfl) fun steps6 =>
    Sq.env (η' := [some ((vD (dT (dT dI))) a_one), some ((vD (dT (dT dI))) a_other), some ((vN dI) steps6), none, none, none, none]) (fun _ => rfl) <|
    Sq.nil rfl) fun (s8 : ((List Int))) =>
  Sq.ret (re := Z.ok (decide (((s8).sum) = (1 : Int)))) (Ev.eq Good.I (by decide) (fun _ _ _ => rfl) (Ev.sum (fun _ _ => rfl) (Ev.var (E := (vB dI)) (x := s8) rfl rfl)) (Ev.int 1)) (fun _ => rfl)
@[irreducible] def m__law_pick (a_script : (List Int)) (a_town : Unit) (a_some : (List Int)) : Z Nat Int := Y.fin (
  Z.so ((m__law_draw a_script a_town ((a_some.length : Nat) : Int)).bind fun x1 => Z.opt (L2.atI a_some x1)) fun x => Y.rt x)
theorem _law_pick_is {k : Nat} (hk : 4 ≤ k) (a_script : (List Int)) (a_town : Unit) (a_some : (List Int)) (t : Nat) {ms : Mem} : sem tab k f__law_pick [vS a_script, (vR 0) a_town, (vD (dL dI)) a_some] (twn ms t) = (m__law_pick a_script a_town a_some t).rs (twn ms) (vD dI) := by
  unfold m__law_pick
  exact sem_P (n := 3) (d := c__law_pick) rfl hk fun k hk => fin_W (S := sem tab k) (M := twn ms) (Env0 := Empty.elim) (by rfl) <|
  Sq.ret (re := (m__law_draw a_script a_town ((a_some.length : Nat) : Int)).bind fun x1 => Z.opt (L2.atI a_some x1)) (Ev.ix (d := dI) (fun _ _ _ => rfl) (Ev.var (E := (vD (dL dI))) (x := a_some) rfl rfl) (Ev.call3T (E := (vD dI)) (g := m__law_draw a_script a_town ((a_some.length : Nat) : Int)) (fun w => call_W (M := twn ms) (w := w) rfl (_law_draw_is (by omega) a_script a_town ((a_some.length : Nat) : Int) _)) (Ev.var (E := vS) (x := a_script) rfl rfl) (Ev.var (E := (vR 0)) (x := a_town) rfl rfl) (Ev.len (d := dI) (fun _ _ => rfl) (Ev.var (E := (vD (dL dI))) (x := a_some) rfl rfl)))) (fun _ => rfl)
@[irreducible] def m__law_some_table (a_script : (List Int)) (a_town : Unit) (a_most : Int) : Z Nat (List (List Int)) := Y.fin (
  Z.so ((m__law_draw a_script a_town a_most).bind fun x1 => Z.ok ((1 : Int) + x1)) fun n2 =>
  Z.so (Z.if (rangeOk 0 n2) (rangeZ 0 n2)) fun left3 =>
  Z.so (Z.ok (([] : List (List Int)))) fun made4 =>
  Y.then (Z.so (Z.if (rangeOk 0 n2) (rangeZ 0 n2)) fun xs => Y.for (fun (s5 : ((List Int) × (List (List Int)))) (e6 : Int) =>
    Z.so (m__law_pick a_script a_town s5.1) fun one7 =>
    Z.so (Z.ok (one7)) fun y => Z.so (Z.if (decide (y ∈ s5.1)) (s5.1.erase y)) fun left8 =>
    Z.so ((Z.if (rangeOk 0 n2) (rangeZ 0 n2)).bind fun x11 => Z.fits ((x11).map fun (e10 : Int) => if (decide (e10 = one7)) then (1 : Int) else (0 : Int))) fun y => Z.so (Z.fits (s5.2 ++ [y])) fun made9 =>
    Y.nx (left8, made9)) xs (left3, made4)) fun s12 =>
  Z.so ((Z.lift (m__law_corners s12.2)).bind fun x13 => Z.fits x13) fun rows14 =>
  Y.then (Z.so (Z.ok (decide ((1 : Int) < n2))) fun k => if k then (Y.then (Z.so (Z.if (rangeOk 0 ((3 : Int) * n2)) (rangeZ 0 ((3 : Int) * n2))) fun xs => Y.for (fun (s16 : ((List (List Int)))) (e17 : Int) =>
      Z.so ((m__law_draw a_script a_town (n2 - (1 : Int))).bind fun x18 => Z.ok ((1 : Int) + x18)) fun i20 =>
      Z.so ((m__law_draw a_script a_town (n2 - (1 : Int))).bind fun x19 => Z.ok ((1 : Int) + x19)) fun j21 =>
      Z.so (((m__law_draw a_script a_town (2 : Int)).bind fun x22 => Z.ok ((2 : Int) * x22)).bind fun x23 => Z.ok (x23 - (1 : Int))) fun by24 =>
      Z.so (Z.opt (incZ2 s16 i20 j21 (by24))) fun rows25 =>
      Y.then (Z.so ((Z.lift (m__law_sum_like_2 rows25)).bind fun x26 => Z.ok (!x26)) fun k => if k then (Z.so (Z.opt (incZ2 rows25 i20 j21 (-by24))) fun rows28 =>
        Y.nx (rows28)) else (Y.nx (rows25))) fun s27 =>
      Y.nx (s27)) xs (rows14)) fun s29 =>
    Y.nx (s29)) else (Y.nx (rows14))) fun s15 =>
  Z.so (Z.lift (m__law_uncorner_2 s15)) fun x => Y.rt x)
theorem _law_some_table_is {k : Nat} (hk : 5 ≤ k) (a_script : (List Int)) (a_town : Unit) (a_most : Int) (t : Nat) {ms : Mem} : sem tab k f__law_some_table [vS a_script, (vR 0) a_town, (vD dI) a_most] (twn ms t) = (m__law_some_table a_script a_town a_most t).rs (twn ms) (vD (dT (dT dI))) := by
  unfold m__law_some_table
  exact sem_P (n := 4) (d := c__law_some_table) rfl hk fun k hk => fin_W (S := sem tab k) (M := twn ms) (Env0 := Empty.elim) (by rfl) <|
  Sq.asg (re := (m__law_draw a_script a_town a_most).bind fun x1 => Z.ok ((1 : Int) + x1)) (η1 := fun (n2 : Int) => [some (vS a_script), some ((vR 0) a_town), some ((vD dI) a_most), some ((vD dI) n2), none, none, none, none, none, none, none, none, none, none]) (Ev.add (Ev.int 1) (Ev.call3T (E := (vD dI)) (g := m__law_draw a_script a_town a_most) (fun w => call_W (M := twn ms) (w := w) rfl (_law_draw_is (by omega) a_script a_town a_most _)) (Ev.var (E := vS) (x := a_script) rfl rfl) (Ev.var (E := (vR 0)) (x := a_town) rfl rfl) (Ev.var (E := (vD dI)) (x := a_most) rfl rfl))) (fun _ => rfl) (fun _ => rfl) fun n2 =>
  Sq.par2 (ra := Z.if (rangeOk 0 n2) (rangeZ 0 n2)) (rb := Z.ok (([] : List (List Int)))) (η1 := fun (left3 : (List Int)) (made4 : (List (List Int))) => [some (vS a_script), some ((vR 0) a_town), some ((vD dI) a_most), some ((vD dI) n2), some ((vN dI) left3), some ((vN (dT dI)) made4), none, none, none, none, none, none, none, none]) (Ev.rngL (Ev.var (E := (vD dI)) (x := n2) rfl rfl)) (Ev.lst (EvL.nil (d := (dT dI)))) (fun _ _ => rfl) fun left3 made4 =>
  Sq.for (ri := Z.if (rangeOk 0 n2) (rangeZ 0 n2)) (s0 := (left3, made4)) (Env1 := fun (s5 : ((List Int) × (List (List Int)))) => [some (vS a_script), some ((vR 0) a_town), some ((vD dI) a_most), some ((vD dI) n2), some ((vN dI) s5.1), some ((vN (dT dI)) s5.2), none, none, none, none, none, none, none, none]) (η1 := fun (s5 : ((List Int) × (List (List Int)))) (e6 : Int) => [some (vS a_script), some ((vR 0) a_town), some ((vD dI) a_most), some ((vD dI) n2), some ((vN dI) s5.1), some ((vN (dT dI)) s5.2), some ((vD dI) e6), none, none, none, none, none, none, none]) rfl (EvI.rng1 (Ev.var (E := (vD dI)) (x := n2) rfl rfl)) (fun _ _ => rfl) (fun (s5 : ((List Int) × (List (List Int)))) (e6 : Int) =>
    Sq.asg (re := m__law_pick a_script a_town s5.1) (η1 := fun (one7 : Int) => [some (vS a_script), some ((vR 0) a_town), some ((vD dI) a_most), some ((vD dI) n2), some ((vN dI) s5.1), some ((vN (dT dI)) s5.2), some ((vD dI) e6), some ((vD dI) one7), none, none, none, none, none, none]) (Ev.call3T (E := (vD dI)) (g := m__law_pick a_script a_town s5.1) (fun w => call_WB (M := twn ms) (w := w) rfl (fun q => NL.I q) (_law_pick_is (by omega) a_script a_town s5.1 _)) (Ev.var (E := vS) (x := a_script) rfl rfl) (Ev.var (E := (vR 0)) (x := a_town) rfl rfl) (Ev.var (E := (vB dI)) (x := s5.1) rfl rfl)) (fun _ => rfl) (fun _ => rfl) fun one7 =>
    Sq.rem (xs := s5.1) (re := Z.ok (one7)) (η1 := fun (left8 : List Int) => [some (vS a_script), some ((vR 0) a_town), some ((vD dI) a_most), some ((vD dI) n2), some ((vN dI) left8), some ((vN (dT dI)) s5.2), some ((vD dI) e6), some ((vD dI) one7), none, none, none, none, none, none]) rfl (Ev.var (E := (vD dI)) (x := one7) rfl rfl) (fun _ => rfl) fun left8 =>
    Sq.app (xs := s5.2) (d := (dT dI)) (f := fun y => y) (re := (Z.if (rangeOk 0 n2) (rangeZ 0 n2)).bind fun x11 => Z.fits ((x11).map fun (e10 : Int) => if (decide (e10 = one7)) then (1 : Int) else (0 : Int))) (η1 := fun (made9 : (List (List Int))) => [some (vS a_script), some ((vR 0) a_town), some ((vD dI) a_most), some ((vD dI) n2), some ((vN dI) left8), some ((vN (dT dI)) made9), some ((vD dI) e6), some ((vD dI) one7), none, none, none, none, none, none]) rfl (fun _ => rfl) (Ev.tuple (d := dI) (fun _ _ => rfl) (Ev.lcT (d' := dI) (g := fun (e10 : Int) => if (decide (e10 = one7)) then (1 : Int) else (0 : Int)) (η1 := fun (e10 : Int) => [some (vS a_script), some ((vR 0) a_town), some ((vD dI) a_most), some ((vD dI) n2), some ((vN dI) left8), some ((vN (dT dI)) s5.2), some ((vD dI) e6), some ((vD dI) one7), some ((vD dI) e10), none, none, none, none, none]) (EvI.rng1 (Ev.var (E := (vD dI)) (x := n2) rfl rfl)) (fun _ => rfl) (fun _ => rfl) fun (e10 : Int) => (Ev.iteT (Ev.eq Good.I (by decide) (fun _ _ _ => rfl) (Ev.var (E := (vD dI)) (x := e10) rfl rfl) (Ev.var (E := (vD dI)) (x := one7) rfl rfl)) (Ev.int 1) (Ev.int 0)))) (fun _ => rfl) fun made9 =>
    Sq.env (η' := [some (vS a_script), some ((vR 0) a_town), some ((vD dI) a_most), some ((vD dI) n2), some ((vN dI) left8), some ((vN (dT dI)) made9), none, none, none, none, none, none, none, none]) (fun _ => rfl) <|
    Sq.nil rfl) fun (s12 : ((List Int) × (List (List Int)))) =>
  Sq.asg (re := (Z.lift (m__law_corners s12.2)).bind fun x13 => Z.fits x13) (η1 := fun (rows14 : (List (List Int))) => [some (vS a_script), some ((vR 0) a_town), some ((vD dI) a_most), some ((vD dI) n2), some ((vN dI) s12.1), some ((vN (dT dI)) s12.2), none, none, none, none, some ((vN2 dI) rows14), none, none, none]) (Ev.rows (Ev.call1T (E := (vD (dT (dT dI)))) (g := Z.lift (m__law_corners s12.2)) (fun w => call_P (M := twn ms) (w := w) rfl (_law_corners_is (by omega) s12.2 _)) (Ev.tuple (d := (dT dI)) (fun _ _ => rfl) (Ev.var (E := (vB (dT dI))) (x := s12.2) rfl rfl)))) (fun _ => rfl) (fun _ => rfl) fun rows14 =>
  Sq.ifG (rc := Z.ok (decide ((1 : Int) < n2))) (Env1 := fun (s15 : ((List (List Int)))) => [some (vS a_script), some ((vR 0) a_town), some ((vD dI) a_most), some ((vD dI) n2), some ((vN dI) s12.1), some ((vN (dT dI)) s12.2), none, none, none, none, some ((vN2 dI) s15), none, none, none]) (Ev.gt (Ev.var (E := (vD dI)) (x := n2) rfl rfl) (Ev.int 1)) (Sq.for (ri := Z.if (rangeOk 0 ((3 : Int) * n2)) (rangeZ 0 ((3 : Int) * n2))) (s0 := (rows14)) (Env1 := fun (s16 : ((List (List Int)))) => [some (vS a_script), some ((vR 0) a_town), some ((vD dI) a_most), some ((vD dI) n2), some ((vN dI) s12.1), some ((vN (dT dI)) s12.2), none, none, none, none, some ((vN2 dI) s16), none, none, none]) (η1 := fun (s16 : ((List (List Int)))) (e17 : Int) => [some (vS a_script), some ((vR 0) a_town), some ((vD dI) a_most), some ((vD dI) n2), some ((vN dI) s12.1), some ((vN (dT dI)) s12.2), some ((vD dI) e17), none, none, none, some ((vN2 dI) s16), none, none, none]) rfl (EvI.rng1 (Ev.mulL (ra := Z.ok 0) rfl (Ev.int 3) (Ev.var (E := (vD dI)) (x := n2) rfl rfl))) (fun _ _ => rfl) (fun (s16 : ((List (List Int)))) (e17 : Int) =>
      Sq.par2 (ra := (m__law_draw a_script a_town (n2 - (1 : Int))).bind fun x18 => Z.ok ((1 : Int) + x18)) (rb := (m__law_draw a_script a_town (n2 - (1 : Int))).bind fun x19 => Z.ok ((1 : Int) + x19)) (η1 := fun (i20 : Int) (j21 : Int) => [some (vS a_script), some ((vR 0) a_town), some ((vD dI) a_most), some ((vD dI) n2), some ((vN dI) s12.1), some ((vN (dT dI)) s12.2), some ((vD dI) e17), none, none, none, some ((vN2 dI) s16), some ((vD dI) i20), some ((vD dI) j21), none]) (Ev.add (Ev.int 1) (Ev.call3T (E := (vD dI)) (g := m__law_draw a_script a_town (n2 - (1 : Int))) (fun w => call_W (M := twn ms) (w := w) rfl (_law_draw_is (by omega) a_script a_town (n2 - (1 : Int)) _)) (Ev.var (E := vS) (x := a_script) rfl rfl) (Ev.var (E := (vR 0)) (x := a_town) rfl rfl) (Ev.sub (Ev.var (E := (vD dI)) (x := n2) rfl rfl) (Ev.int 1)))) (Ev.add (Ev.int 1) (Ev.call3T (E := (vD dI)) (g := m__law_draw a_script a_town (n2 - (1 : Int))) (fun w => call_W (M := twn ms) (w := w) rfl (_law_draw_is (by omega) a_script a_town (n2 - (1 : Int)) _)) (Ev.var (E := vS) (x := a_script) rfl rfl) (Ev.var (E := (vR 0)) (x := a_town) rfl rfl) (Ev.sub (Ev.var (E := (vD dI)) (x := n2) rfl rfl) (Ev.int 1)))) (fun _ _ => rfl) fun i20 j21 =>
      Sq.asg (re := ((m__law_draw a_script a_town (2 : Int)).bind fun x22 => Z.ok ((2 : Int) * x22)).bind fun x23 => Z.ok (x23 - (1 : Int))) (η1 := fun (by24 : Int) => [some (vS a_script), some ((vR 0) a_town), some ((vD dI) a_most), some ((vD dI) n2), some ((vN dI) s12.1), some ((vN (dT dI)) s12.2), some ((vD dI) e17), none, none, none, some ((vN2 dI) s16), some ((vD dI) i20), some ((vD dI) j21), some ((vD dI) by24)]) (Ev.sub (Ev.mulL (ra := Z.ok 0) rfl (Ev.int 2) (Ev.call3T (E := (vD dI)) (g := m__law_draw a_script a_town (2 : Int)) (fun w => call_W (M := twn ms) (w := w) rfl (_law_draw_is (by omega) a_script a_town (2 : Int) _)) (Ev.var (E := vS) (x := a_script) rfl rfl) (Ev.var (E := (vR 0)) (x := a_town) rfl rfl) (Ev.int 2))) (Ev.int 1)) (fun _ => rfl) (fun _ => rfl) fun by24 =>
      Sq.aug2 (xs := s16) (p := i20) (q := j21) (y := by24) (η1 := fun (rows25 : List (List Int)) => [some (vS a_script), some ((vR 0) a_town), some ((vD dI) a_most), some ((vD dI) n2), some ((vN dI) s12.1), some ((vN (dT dI)) s12.2), some ((vD dI) e17), none, none, none, some ((vN2 dI) rows25), some ((vD dI) i20), some ((vD dI) j21), some ((vD dI) by24)]) rfl (Or.inl rfl) (Ev.var (E := (vD dI)) (x := i20) rfl rfl) (Ev.var (E := (vD dI)) (x := j21) rfl rfl) (Ev.var (E := (vD dI)) (x := by24) rfl rfl) (fun _ => rfl) fun rows25 =>
      Sq.ifG (rc := (Z.lift (m__law_sum_like_2 rows25)).bind fun x26 => Z.ok (!x26)) (Env1 := fun (s27 : ((List (List Int)))) => [some (vS a_script), some ((vR 0) a_town), some ((vD dI) a_most), some ((vD dI) n2), some ((vN dI) s12.1), some ((vN (dT dI)) s12.2), some ((vD dI) e17), none, none, none, some ((vN2 dI) s27), some ((vD dI) i20), some ((vD dI) j21), some ((vD dI) by24)]) (Ev.nt (Ev.call1T (E := (vD dB)) (g := Z.lift (m__law_sum_like_2 rows25)) (fun w => call_B (M := twn ms) (w := w) arg_b2 (fun q => NL.B q) (_law_sum_like_2_is (by omega) rows25 _)) (Ev.var (E := (vB2 dI)) (x := rows25) rfl rfl))) (Sq.aug2 (xs := rows25) (p := i20) (q := j21) (y := by24) (η1 := fun (rows28 : List (List Int)) => [some (vS a_script), some ((vR 0) a_town), some ((vD dI) a_most), some ((vD dI) n2), some ((vN dI) s12.1), some ((vN (dT dI)) s12.2), some ((vD dI) e17), none, none, none, some ((vN2 dI) rows28), some ((vD dI) i20), some ((vD dI) j21), some ((vD dI) by24)]) rfl (Or.inr rfl) (Ev.var (E := (vD dI)) (x := i20) rfl rfl) (Ev.var (E := (vD dI)) (x := j21) rfl rfl) (Ev.var (E := (vD dI)) (x := by24) rfl rfl) (fun _ => rfl) fun rows28 =>
        Sq.nil rfl) (Sq.nil rfl) fun s27 =>
      Sq.env (η' := [some (vS a_script), some ((vR 0) a_town), some ((vD dI) a_most), some ((vD dI) n2), some ((vN dI) s12.1), some ((vN (dT dI)) s12.2), none, none, none, none, some ((vN2 dI) s27), none, none, none]) (fun _ => rfl) <|
      Sq.nil rfl) fun (s29 : ((List (List Int)))) =>
    Sq.env (η' := [some (vS a_script), some ((vR 0) a_town), some ((vD dI) a_most), some ((vD dI) n2), some ((vN dI) s12.1), some ((vN (dT dI)) s12.2), none, none, none, none, some ((vN2 dI) s29), none, none, none]) (fun _ => rfl) <|
    Sq.nil rfl) (Sq.nil rfl) fun s15 =>
  Sq.ret (re := Z.lift (m__law_uncorner_2 s15)) (Ev.call1T (E := (vD (dT (dT dI)))) (g := Z.lift (m__law_uncorner_2 s15)) (fun w => call_B (M := twn ms) (w := w) arg_b2 (fun q => (NL.T (NL.T NL.I)) q) (_law_uncorner_2_is (by omega) s15 _)) (Ev.var (E := (vB2 dI)) (x := s15) rfl rfl)) (fun _ => rfl)
@[irreducible] def m__law_same_size (a_script : (List Int)) (a_town : Unit) (a_own : (List (List Int))) : Z Nat (List (List Int)) := Y.fin (
  Z.so (Z.ok (((a_own.length : Nat) : Int))) fun n1 =>
  Z.so (if (decide ((1 : Int) < n1)) then (m__law_draw a_script a_town (2 : Int)).bind fun x2 => Z.ok (decide (x2 = (0 : Int))) else Z.ok false) fun k => if k then Y.all (Z.so ((Z.lift (m__law_corners a_own)).bind fun x3 => Z.fits x3) fun rows4 =>
    Y.then (Z.so (((m__law_draw a_script a_town (9 : Int)).bind fun x5 => Z.ok ((1 : Int) + x5)).bind fun x6 => Z.if (rangeOk 0 x6) (rangeZ 0 x6)) fun xs => Y.for (fun (s7 : ((List (List Int)))) (e8 : Int) =>
      Z.so ((m__law_draw a_script a_town (n1 - (1 : Int))).bind fun x9 => Z.ok ((1 : Int) + x9)) fun i11 =>
      Z.so ((m__law_draw a_script a_town (n1 - (1 : Int))).bind fun x10 => Z.ok ((1 : Int) + x10)) fun j12 =>
      Z.so (((m__law_draw a_script a_town (2 : Int)).bind fun x13 => Z.ok ((2 : Int) * x13)).bind fun x14 => Z.ok (x14 - (1 : Int))) fun by15 =>
      Z.so (Z.opt (incZ2 s7 i11 j12 (by15))) fun rows16 =>
      Y.then (Z.so ((Z.lift (m__law_sum_like_2 rows16)).bind fun x17 => Z.ok (!x17)) fun k => if k then (Z.so (Z.opt (incZ2 rows16 i11 j12 (-by15))) fun rows19 =>
        Y.nx (rows19)) else (Y.nx (rows16))) fun s18 =>
      Y.nx (s18)) xs (rows4)) fun s20 =>
    Z.so (Z.lift (m__law_uncorner_2 s20)) fun x => Y.rt x) else
  Z.so (Z.if (rangeOk 0 n1) (rangeZ 0 n1)) fun left21 =>
  Z.so (Z.ok (([] : List (List Int)))) fun made22 =>
  Y.then (Z.so (Z.if (rangeOk 0 n1) (rangeZ 0 n1)) fun xs => Y.for (fun (s23 : ((List Int) × (List (List Int)))) (e24 : Int) =>
    Z.so (m__law_pick a_script a_town s23.1) fun one25 =>
    Z.so (Z.ok (one25)) fun y => Z.so (Z.if (decide (y ∈ s23.1)) (s23.1.erase y)) fun left26 =>
    Z.so ((Z.if (rangeOk 0 n1) (rangeZ 0 n1)).bind fun x29 => Z.fits ((x29).map fun (e28 : Int) => if (decide (e28 = one25)) then (1 : Int) else (0 : Int))) fun y => Z.so (Z.fits (s23.2 ++ [y])) fun made27 =>
    Y.nx (left26, made27)) xs (left21, made22)) fun s30 =>
  Z.so (Z.ok (s30.2)) fun x => Y.rt x)
theorem _law_same_size_is {k : Nat} (hk : 5 ≤ k) (a_script : (List Int)) (a_town : Unit) (a_own : (List (List Int))) (t : Nat) {ms : Mem} : sem tab k f__law_same_size [vS a_script, (vR 0) a_town, (vD (dT (dT dI))) a_own] (twn ms t) = (m__law_same_size a_script a_town a_own t).rs (twn ms) (vD (dT (dT dI))) := by
  unfold m__law_same_size
  exact sem_P (n := 4) (d := c__law_same_size) rfl hk fun k hk => fin_W (S := sem tab k) (M := twn ms) (Env0 := Empty.elim) (by rfl) <|
  Sq.asg (re := Z.ok (((a_own.length : Nat) : Int))) (η1 := fun (n1 : Int) => [some (vS a_script), some ((vR 0) a_town), some ((vD (dT (dT dI))) a_own), some ((vD dI) n1), none, none, none, none, none, none, none, none, none, none]) (Ev.len (d := (dT dI)) (fun _ _ => rfl) (Ev.var (E := (vD (dT (dT dI)))) (x := a_own) rfl rfl)) (fun _ => rfl) (fun _ => rfl) fun n1 =>
  Sq.ifR (Env0 := Empty.elim) (rc := if (decide ((1 : Int) < n1)) then (m__law_draw a_script a_town (2 : Int)).bind fun x2 => Z.ok (decide (x2 = (0 : Int))) else Z.ok false) (Ev.and (Ev.gt (Ev.var (E := (vD dI)) (x := n1) rfl rfl) (Ev.int 1)) (Ev.one (Ev.eq Good.I (by decide) (fun _ _ _ => rfl) (Ev.call3T (E := (vD dI)) (g := m__law_draw a_script a_town (2 : Int)) (fun w => call_W (M := twn ms) (w := w) rfl (_law_draw_is (by omega) a_script a_town (2 : Int) _)) (Ev.var (E := vS) (x := a_script) rfl rfl) (Ev.var (E := (vR 0)) (x := a_town) rfl rfl) (Ev.int 2)) (Ev.int 0)))) (Sq.asg (re := (Z.lift (m__law_corners a_own)).bind fun x3 => Z.fits x3) (η1 := fun (rows4 : (List (List Int))) => [some (vS a_script), some ((vR 0) a_town), some ((vD (dT (dT dI))) a_own), some ((vD dI) n1), none, some ((vN2 dI) rows4), none, none, none, none, none, none, none, none]) (Ev.rows (Ev.call1T (E := (vD (dT (dT dI)))) (g := Z.lift (m__law_corners a_own)) (fun w => call_P (M := twn ms) (w := w) rfl (_law_corners_is (by omega) a_own _)) (Ev.var (E := (vD (dT (dT dI)))) (x := a_own) rfl rfl))) (fun _ => rfl) (fun _ => rfl) fun rows4 =>
    Sq.for (ri := ((m__law_draw a_script a_town (9 : Int)).bind fun x5 => Z.ok ((1 : Int) + x5)).bind fun x6 => Z.if (rangeOk 0 x6) (rangeZ 0 x6)) (s0 := (rows4)) (Env1 := fun (s7 : ((List (List Int)))) => [some (vS a_script), some ((vR 0) a_town), some ((vD (dT (dT dI))) a_own), some ((vD dI) n1), none, some ((vN2 dI) s7), none, none, none, none, none, none, none, none]) (η1 := fun (s7 : ((List (List Int)))) (e8 : Int) => [some (vS a_script), some ((vR 0) a_town), some ((vD (dT (dT dI))) a_own), some ((vD dI) n1), none, some ((vN2 dI) s7), some ((vD dI) e8), none, none, none, none, none, none, none]) rfl (EvI.rng1 (Ev.add (Ev.int 1) (Ev.call3T (E := (vD dI)) (g := m__law_draw a_script a_town (9 : Int)) (fun w => call_W (M := twn ms) (w := w) rfl (_law_draw_is (by omega) a_script a_town (9 : Int) _)) (Ev.var (E := vS) (x := a_script) rfl rfl) (Ev.var (E := (vR 0)) (x := a_town) rfl rfl) (Ev.int 9)))) (fun _ _ => rfl) (fun (s7 : ((List (List Int)))) (e8 : Int) =>
      Sq.par2 (ra := (m__law_draw a_script a_town (n1 - (1 : Int))).bind fun x9 => Z.ok ((1 : Int) + x9)) (rb := (m__law_draw a_script a_town (n1 - (1 : Int))).bind fun x10 => Z.ok ((1 : Int) + x10)) (η1 := fun (i11 : Int) (j12 : Int) => [some (vS a_script), some ((vR 0) a_town), some ((vD (dT (dT dI))) a_own), some ((vD dI) n1), none, some ((vN2 dI) s7), some ((vD dI) e8), some ((vD dI) i11), some ((vD dI) j12), none, none, none, none, none]) (Ev.add (Ev.int 1) (Ev.call3T (E := (vD dI)) (g := m__law_draw a_script a_town (n1 - (1 : Int))) (fun w => call_W (M := twn ms) (w := w) rfl (_law_draw_is (by omega) a_script a_town (n1 - (1 : Int)) _)) (Ev.var (E := vS) (x := a_script) rfl rfl) (Ev.var (E := (vR 0)) (x := a_town) rfl rfl) (Ev.sub (Ev.var (E := (vD dI)) (x := n1) rfl rfl) (Ev.int 1)))) (Ev.add (Ev.int 1) (Ev.call3T (E := (vD dI)) (g := m__law_draw a_script a_town (n1 - (1 : Int))) (fun w => call_W (M := twn ms) (w := w) rfl (_law_draw_is (by omega) a_script a_town (n1 - (1 : Int)) _)) (Ev.var (E := vS) (x := a_script) rfl rfl) (Ev.var (E := (vR 0)) (x := a_town) rfl rfl) (Ev.sub (Ev.var (E := (vD dI)) (x := n1) rfl rfl) (Ev.int 1)))) (fun _ _ => rfl) fun i11 j12 =>
      Sq.asg (re := ((m__law_draw a_script a_town (2 : Int)).bind fun x13 => Z.ok ((2 : Int) * x13)).bind fun x14 => Z.ok (x14 - (1 : Int))) (η1 := fun (by15 : Int) => [some (vS a_script), some ((vR 0) a_town), some ((vD (dT (dT dI))) a_own), some ((vD dI) n1), none, some ((vN2 dI) s7), some ((vD dI) e8), some ((vD dI) i11), some ((vD dI) j12), some ((vD dI) by15), none, none, none, none]) (Ev.sub (Ev.mulL (ra := Z.ok 0) rfl (Ev.int 2) (Ev.call3T (E := (vD dI)) (g := m__law_draw a_script a_town (2 : Int)) (fun w => call_W (M := twn ms) (w := w) rfl (_law_draw_is (by omega) a_script a_town (2 : Int) _)) (Ev.var (E := vS) (x := a_script) rfl rfl) (Ev.var (E := (vR 0)) (x := a_town) rfl rfl) (Ev.int 2))) (Ev.int 1)) (fun _ => rfl) (fun _ => rfl) fun by15 =>
      Sq.aug2 (xs := s7) (p := i11) (q := j12) (y := by15) (η1 := fun (rows16 : List (List Int)) => [some (vS a_script), some ((vR 0) a_town), some ((vD (dT (dT dI))) a_own), some ((vD dI) n1), none, some ((vN2 dI) rows16), some ((vD dI) e8), some ((vD dI) i11), some ((vD dI) j12), some ((vD dI) by15), none, none, none, none]) rfl (Or.inl rfl) (Ev.var (E := (vD dI)) (x := i11) rfl rfl) (Ev.var (E := (vD dI)) (x := j12) rfl rfl) (Ev.var (E := (vD dI)) (x := by15) rfl rfl) (fun _ => rfl) fun rows16 =>
      Sq.ifG (rc := (Z.lift (m__law_sum_like_2 rows16)).bind fun x17 => Z.ok (!x17)) (Env1 := fun (s18 : ((List (List Int)))) => [some (vS a_script), some ((vR 0) a_town), some ((vD (dT (dT dI))) a_own), some ((vD dI) n1), none, some ((vN2 dI) s18), some ((vD dI) e8), some ((vD dI) i11), some ((vD dI) j12), some ((vD dI) by15), none, none, none, none]) (Ev.nt (Ev.call1T (E := (vD dB)) (g := Z.lift (m__law_sum_like_2 rows16)) (fun w => call_B (M := twn ms) (w := w) arg_b2 (fun q => NL.B q) (_law_sum_like_2_is (by omega) rows16 _)) (Ev.var (E := (vB2 dI)) (x := rows16) rfl rfl))) (Sq.aug2 (xs := rows16) (p := i11) (q := j12) (y := by15) (η1 := fun (rows19 : List (List Int)) => [some (vS a_script), some ((vR 0) a_town), some ((vD (dT (dT dI))) a_own), some ((vD dI) n1), none, some ((vN2 dI) rows19), some ((vD dI) e8), some ((vD dI) i11), some ((vD dI) j12), some ((vD dI) by15), none, none, none, none]) rfl (Or.inr rfl) (Ev.var (E := (vD dI)) (x := i11) rfl rfl) (Ev.var (E := (vD dI)) (x := j12) rfl rfl) (Ev.var (E := (vD dI)) (x := by15) rfl rfl) (fun _ => rfl) fun rows19 =>
        Sq.nil rfl) (Sq.nil rfl) fun s18 =>
      Sq.env (η' := [some (vS a_script), some ((vR 0) a_town), some ((vD (dT (dT dI))) a_own), some ((vD dI) n1), none, some ((vN2 dI) s18), none, none, none, none, none, none, none, none]) (fun _ => rfl) <|
      Sq.nil rfl) fun (s20 : ((List (List Int)))) =>
    Sq.ret (re := Z.lift (m__law_uncorner_2 s20)) (Ev.call1T (E := (vD (dT (dT dI)))) (g := Z.lift (m__law_uncorner_2 s20)) (fun w => call_B (M := twn ms) (w := w) arg_b2 (fun q => (NL.T (NL.T NL.I)) q) (_law_uncorner_2_is (by omega) s20 _)) (Ev.var (E := (vB2 dI)) (x := s20) rfl rfl)) (fun _ => rfl)) <|
  Sq.par2 (ra := Z.if (rangeOk 0 n1) (rangeZ 0 n1)) (rb := Z.ok (([] : List (List Int)))) (η1 := fun (left21 : (List Int)) (made22 : (List (List Int))) => [some (vS a_script), some ((vR 0) a_town), some ((vD (dT (dT dI))) a_own), some ((vD dI) n1), none, none, none, none, none, none, some ((vN dI) left21), some ((vN (dT dI)) made22), none, none]) (Ev.rngL (Ev.var (E := (vD dI)) (x := n1) rfl rfl)) (Ev.lst (EvL.nil (d := (dT dI)))) (fun _ _ => rfl) fun left21 made22 =>
  Sq.for (ri := Z.if (rangeOk 0 n1) (rangeZ 0 n1)) (s0 := (left21, made22)) (Env1 := fun (s23 : ((List Int) × (List (List Int)))) => [some (vS a_script), some ((vR 0) a_town), some ((vD (dT (dT dI))) a_own), some ((vD dI) n1), none, none, none, none, none, none, some ((vN dI) s23.1), some ((vN (dT dI)) s23.2), none, none]) (η1 := fun (s23 : ((List Int) × (List (List Int)))) (e24 : Int) => [some (vS a_script), some ((vR 0) a_town), some ((vD (dT (dT dI))) a_own), some ((vD dI) n1), none, none, some ((vD dI) e24), none, none, none, some ((vN dI) s23.1), some ((vN (dT dI)) s23.2), none, none]) rfl (EvI.rng1 (Ev.var (E := (vD dI)) (x := n1) rfl rfl)) (fun _ _ => rfl) (fun (s23 : ((List Int) × (List (List Int)))) (e24 : Int) =>
    Sq.asg (re := m__law_pick a_script a_town s23.1) (η1 := fun (one25 : Int) => [some (vS a_script), some ((vR 0) a_town), some ((vD (dT (dT dI))) a_own), some ((vD dI) n1), none, none, some ((vD dI) e24), none, none, none, some ((vN dI) s23.1), some ((vN (dT dI)) s23.2), some ((vD dI) one25), none]) (Ev.call3T (E := (vD dI)) (g := m__law_pick a_script a_town s23.1) (fun w => call_WB (M := twn ms) (w := w) rfl (fun q => NL.I q) (_law_pick_is (by omega) a_script a_town s23.1 _)) (Ev.var (E := vS) (x := a_script) rfl rfl) (Ev.var (E := (vR 0)) (x := a_town) rfl rfl) (Ev.var (E := (vB dI)) (x := s23.1) rfl rfl)) (fun _ => rfl) (fun _ => rfl) fun one25 =>
    Sq.rem (xs := s23.1) (re := Z.ok (one25)) (η1 := fun (left26 : List Int) => [some (vS a_script), some ((vR 0) a_town), some ((vD (dT (dT dI))) a_own), some ((vD dI) n1), none, none, some ((vD dI) e24), none, none, none, some ((vN dI) left26), some ((vN (dT dI)) s23.2), some ((vD dI) one25), none]) rfl (Ev.var (E := (vD dI)) (x := one25) rfl rfl) (fun _ => rfl) fun left26 =>
    Sq.app (xs := s23.2) (d := (dT dI)) (f := fun y => y) (re := (Z.if (rangeOk 0 n1) (rangeZ 0 n1)).bind fun x29 => Z.fits ((x29).map fun (e28 : Int) => if (decide (e28 = one25)) then (1 : Int) else (0 : Int))) (η1 := fun (made27 : (List (List Int))) => [some (vS a_script), some ((vR 0) a_town), some ((vD (dT (dT dI))) a_own), some ((vD dI) n1), none, none, some ((vD dI) e24), none, none, none, some ((vN dI) left26), some ((vN (dT dI)) made27), some ((vD dI) one25), none]) rfl (fun _ => rfl) (Ev.tuple (d := dI) (fun _ _ => rfl) (Ev.lcT (d' := dI) (g := fun (e28 : Int) => if (decide (e28 = one25)) then (1 : Int) else (0 : Int)) (η1 := fun (e28 : Int) => [some (vS a_script), some ((vR 0) a_town), some ((vD (dT (dT dI))) a_own), some ((vD dI) n1), none, none, some ((vD dI) e24), none, none, none, some ((vN dI) left26), some ((vN (dT dI)) s23.2), some ((vD dI) one25), some ((vD dI) e28)]) (EvI.rng1 (Ev.var (E := (vD dI)) (x := n1) rfl rfl)) (fun _ => rfl) (fun _ => rfl) fun (e28 : Int) => (Ev.iteT (Ev.eq Good.I (by decide) (fun _ _ _ => rfl) (Ev.var (E := (vD dI)) (x := e28) rfl rfl) (Ev.var (E := (vD dI)) (x := one25) rfl rfl)) (Ev.int 1) (Ev.int 0)))) (fun _ => rfl) fun made27 =>
    Sq.env (η' := [some (vS a_script), some ((vR 0) a_town), some ((vD (dT (dT dI))) a_own), some ((vD dI) n1), none, none, none, none, none, none, some ((vN dI) left26), some ((vN (dT dI)) made27), none, none]) (fun _ => rfl) <|
    Sq.nil rfl) fun (s30 : ((List Int) × (List (List Int)))) =>
  Sq.ret (re := Z.ok (s30.2)) (Ev.tuple (d := (dT dI)) (fun _ _ => rfl) (Ev.var (E := (vB (dT dI))) (x := s30.2) rfl rfl)) (fun _ => rfl)
end SS
end
/- SM4 -/
section
set_option linter.all false
set_option maxRecDepth 100000
set_option maxHeartbeats 0
/-! Mirrors, printed by mir.py. -/
namespace SS
open PySem L2
@[irreducible] def m__law_chosen (a_tables : (List (List (List Int)))) (a_lesser : Bool) : Rz (List (List Int)) := Z.run (Y.fin (
  Z.so (Z.lc (fun (e1 : (List (List Int))) => Z.lift (m__law_corners e1)) a_tables) fun all_rows2 =>
  Z.so ((Z.opt (L2.atI a_tables (0 : Int))).bind fun x3 => Z.ok (((x3.length : Nat) : Int))) fun n4 =>
  Z.so (Z.ok (([] : List (List Int)))) fun rows5 =>
  Y.then (Z.so (Z.if (rangeOk 0 (n4 + (1 : Int))) (rangeZ 0 (n4 + (1 : Int)))) fun xs => Y.for (fun (s6 : ((List (List Int)))) (e7 : Int) =>
    Z.so (Z.ok (([] : List Int))) fun line8 =>
    Y.then (Z.so (Z.if (rangeOk 0 (n4 + (1 : Int))) (rangeZ 0 (n4 + (1 : Int)))) fun xs => Y.for (fun (s9 : ((List Int))) (e10 : Int) =>
      Z.so (Z.lc (fun (e11 : (List (List Int))) => (Z.opt (L2.atI e11 e7)).bind fun x12 => Z.opt (L2.atI x12 e10)) all_rows2) fun here13 =>
      Z.so (if a_lesser then Z.opt (minZ here13) else Z.opt (maxZ here13)) fun y => Z.so (Z.fits (s9 ++ [y])) fun line14 =>
      Y.nx (line14)) xs (line8)) fun s15 =>
    Z.so (Z.ok (s15)) fun y => Z.so (Z.fits (s6 ++ [y])) fun rows16 =>
    Y.nx (rows16)) xs (rows5)) fun s17 =>
  Z.so (Z.lift (m__law_uncorner s17)) fun x => Y.rt x))
theorem _law_chosen_is {k : Nat} (hk : 2 ≤ k) (a_tables : (List (List (List Int)))) (a_lesser : Bool) (m : Mem) : sem tab k f__law_chosen [(vD (dL (dT (dT dI)))) a_tables, (vD dB) a_lesser] m = (m__law_chosen a_tables a_lesser).rs (vD (dT (dT dI))) m := by
  unfold m__law_chosen
  exact sem_P (n := 1) (d := c__law_chosen) rfl hk fun k hk => fin_P (S := sem tab k) (m := m) (Env0 := Empty.elim) (by rfl) <|
  Sq.asg (re := Z.lc (fun (e1 : (List (List Int))) => Z.lift (m__law_corners e1)) a_tables) (η1 := fun (all_rows2 : (List (List (List Int)))) => [some ((vD (dL (dT (dT dI)))) a_tables), some ((vD dB) a_lesser), none, some ((vN (dT (dT dI))) all_rows2), none, none, none, none, none, none, none]) (Ev.lc (d' := (dT (dT dI))) (g := fun (e1 : (List (List Int))) => Z.lift (m__law_corners e1)) (η1 := fun (e1 : (List (List Int))) => [some ((vD (dL (dT (dT dI)))) a_tables), some ((vD dB) a_lesser), some ((vD (dT (dT dI))) e1), none, none, none, none, none, none, none, none]) (EvI.seq (d := (dT (dT dI))) (fun _ => rfl) (fun _ => rfl) (Ev.var (E := (vD (dL (dT (dT dI))))) (x := a_tables) rfl rfl)) (fun _ => rfl) (fun _ => rfl) fun (e1 : (List (List Int))) => (Ev.call1T (E := (vD (dT (dT dI)))) (g := Z.lift (m__law_corners e1)) (fun w => call_P (M := fun _ => m) (w := w) rfl (_law_corners_is (by omega) e1 _)) (Ev.var (E := (vD (dT (dT dI)))) (x := e1) rfl rfl))) (fun _ => rfl) (fun _ => rfl) fun all_rows2 =>
  Sq.asg (re := (Z.opt (L2.atI a_tables (0 : Int))).bind fun x3 => Z.ok (((x3.length : Nat) : Int))) (η1 := fun (n4 : Int) => [some ((vD (dL (dT (dT dI)))) a_tables), some ((vD dB) a_lesser), none, some ((vN (dT (dT dI))) all_rows2), some ((vD dI) n4), none, none, none, none, none, none]) (Ev.len (d := (dT dI)) (fun _ _ => rfl) (Ev.ix (d := (dT (dT dI))) (fun _ _ _ => rfl) (Ev.var (E := (vD (dL (dT (dT dI))))) (x := a_tables) rfl rfl) (Ev.int 0))) (fun _ => rfl) (fun _ => rfl) fun n4 =>
  Sq.asg (re := Z.ok (([] : List (List Int)))) (η1 := fun (rows5 : (List (List Int))) => [some ((vD (dL (dT (dT dI)))) a_tables), some ((vD dB) a_lesser), none, some ((vN (dT (dT dI))) all_rows2), some ((vD dI) n4), some ((vN (dT dI)) rows5), none, none, none, none, none]) (Ev.lst (EvL.nil (d := (dT dI)))) (fun _ => rfl) (fun _ => rfl) fun rows5 =>
  Sq.for (ri := Z.if (rangeOk 0 (n4 + (1 : Int))) (rangeZ 0 (n4 + (1 : Int)))) (s0 := (rows5)) (Env1 := fun (s6 : ((List (List Int)))) => [some ((vD (dL (dT (dT dI)))) a_tables), some ((vD dB) a_lesser), none, some ((vN (dT (dT dI))) all_rows2), some ((vD dI) n4), some ((vN (dT dI)) s6), none, none, none, none, none]) (η1 := fun (s6 : ((List (List Int)))) (e7 : Int) => [some ((vD (dL (dT (dT dI)))) a_tables), some ((vD dB) a_lesser), none, some ((vN (dT (dT dI))) all_rows2), some ((vD dI) n4), some ((vN (dT dI)) s6), some ((vD dI) e7), none, none, none, none]) rfl (EvI.rng1 (Ev.add (Ev.var (E := (vD dI)) (x := n4) rfl rfl) (Ev.int 1))) (fun _ _ => rfl) (fun (s6 : ((List (List Int)))) (e7 : Int) =>
    Sq.asg (re := Z.ok (([] : List Int))) (η1 := fun (line8 : (List Int)) => [some ((vD (dL (dT (dT dI)))) a_tables), some ((vD dB) a_lesser), none, some ((vN (dT (dT dI))) all_rows2), some ((vD dI) n4), some ((vN (dT dI)) s6), some ((vD dI) e7), some ((vN dI) line8), none, none, none]) (Ev.lst (EvL.nil (d := dI))) (fun _ => rfl) (fun _ => rfl) fun line8 =>
    Sq.for (ri := Z.if (rangeOk 0 (n4 + (1 : Int))) (rangeZ 0 (n4 + (1 : Int)))) (s0 := (line8)) (Env1 := fun (s9 : ((List Int))) => [some ((vD (dL (dT (dT dI)))) a_tables), some ((vD dB) a_lesser), none, some ((vN (dT (dT dI))) all_rows2), some ((vD dI) n4), some ((vN (dT dI)) s6), some ((vD dI) e7), some ((vN dI) s9), none, none, none]) (η1 := fun (s9 : ((List Int))) (e10 : Int) => [some ((vD (dL (dT (dT dI)))) a_tables), some ((vD dB) a_lesser), none, some ((vN (dT (dT dI))) all_rows2), some ((vD dI) n4), some ((vN (dT dI)) s6), some ((vD dI) e7), some ((vN dI) s9), some ((vD dI) e10), none, none]) rfl (EvI.rng1 (Ev.add (Ev.var (E := (vD dI)) (x := n4) rfl rfl) (Ev.int 1))) (fun _ _ => rfl) (fun (s9 : ((List Int))) (e10 : Int) =>
      Sq.asg (re := Z.lc (fun (e11 : (List (List Int))) => (Z.opt (L2.atI e11 e7)).bind fun x12 => Z.opt (L2.atI x12 e10)) all_rows2) (η1 := fun (here13 : (List Int)) => [some ((vD (dL (dT (dT dI)))) a_tables), some ((vD dB) a_lesser), none, some ((vN (dT (dT dI))) all_rows2), some ((vD dI) n4), some ((vN (dT dI)) s6), some ((vD dI) e7), some ((vN dI) s9), some ((vD dI) e10), none, some ((vN dI) here13)]) (Ev.lc (d' := dI) (g := fun (e11 : (List (List Int))) => (Z.opt (L2.atI e11 e7)).bind fun x12 => Z.opt (L2.atI x12 e10)) (η1 := fun (e11 : (List (List Int))) => [some ((vD (dL (dT (dT dI)))) a_tables), some ((vD dB) a_lesser), none, some ((vN (dT (dT dI))) all_rows2), some ((vD dI) n4), some ((vN (dT dI)) s6), some ((vD dI) e7), some ((vN dI) s9), some ((vD dI) e10), some ((vD (dT (dT dI))) e11), none]) (EvI.seq (d := (dT (dT dI))) (fun _ => rfl) (fun _ => rfl) (Ev.var (E := (vB (dT (dT dI)))) (x := all_rows2) rfl rfl)) (fun _ => rfl) (fun _ => rfl) fun (e11 : (List (List Int))) => (Ev.ix (d := dI) (fun _ _ _ => rfl) (Ev.ix (d := (dT dI)) (fun _ _ _ => rfl) (Ev.var (E := (vD (dT (dT dI)))) (x := e11) rfl rfl) (Ev.var (E := (vD dI)) (x := e7) rfl rfl)) (Ev.var (E := (vD dI)) (x := e10) rfl rfl))) (fun _ => rfl) (fun _ => rfl) fun here13 =>
      Sq.app (xs := s9) (d := dI) (f := fun y => y) (re := if a_lesser then Z.opt (minZ here13) else Z.opt (maxZ here13)) (η1 := fun (line14 : (List Int)) => [some ((vD (dL (dT (dT dI)))) a_tables), some ((vD dB) a_lesser), none, some ((vN (dT (dT dI))) all_rows2), some ((vD dI) n4), some ((vN (dT dI)) s6), some ((vD dI) e7), some ((vN dI) line14), some ((vD dI) e10), none, some ((vN dI) here13)]) rfl (fun _ => rfl) (Ev.ite (Ev.var (E := (vD dB)) (x := a_lesser) rfl rfl) (Ev.min (fun _ _ => rfl) (Ev.var (E := (vB dI)) (x := here13) rfl rfl)) (Ev.max (fun _ _ => rfl) (Ev.var (E := (vB dI)) (x := here13) rfl rfl))) (fun _ => rfl) fun line14 =>
      Sq.env (η' := [some ((vD (dL (dT (dT dI)))) a_tables), some ((vD dB) a_lesser), none, some ((vN (dT (dT dI))) all_rows2), some ((vD dI) n4), some ((vN (dT dI)) s6), some ((vD dI) e7), some ((vN dI) line14), none, none, none]) (fun _ => rfl) <|
      Sq.nil rfl) fun (s15 : ((List Int))) =>
    Sq.app (xs := s6) (d := (dT dI)) (f := fun y => y) (re := Z.ok (s15)) (η1 := fun (rows16 : (List (List Int))) => [some ((vD (dL (dT (dT dI)))) a_tables), some ((vD dB) a_lesser), none, some ((vN (dT (dT dI))) all_rows2), some ((vD dI) n4), some ((vN (dT dI)) rows16), some ((vD dI) e7), some ((vN dI) s15), none, none, none]) rfl (fun _ => rfl) (Ev.tuple (d := dI) (fun _ _ => rfl) (Ev.var (E := (vB dI)) (x := s15) rfl rfl)) (fun _ => rfl) fun rows16 =>
    Sq.env (η' := [some ((vD (dL (dT (dT dI)))) a_tables), some ((vD dB) a_lesser), none, some ((vN (dT (dT dI))) all_rows2), some ((vD dI) n4), some ((vN (dT dI)) rows16), none, none, none, none, none]) (fun _ => rfl) <|
    Sq.nil rfl) fun (s17 : ((List (List Int)))) =>
  Sq.ret (re := Z.lift (m__law_uncorner s17)) (Ev.call1T (E := (vD (dT (dT dI)))) (g := Z.lift (m__law_uncorner s17)) (fun w => call_P (M := fun _ => m) (w := w) rfl (_law_uncorner_is (by omega) s17 _)) (Ev.tuple (d := (dT dI)) (fun _ _ => rfl) (Ev.var (E := (vB (dT dI))) (x := s17) rfl rfl))) (fun _ => rfl)
end SS
end
/- SM -/
/- SP1 -/
set_option linter.all false
set_option maxRecDepth 100000
/-! Plain part: rules to evaluate mirrors. -/
namespace SS
open PySem L2
section
variable {W α β γ σ τ ρ : Type}
@[simp] theorem Z.ok_bind' {x : α} {f : α → Z W β} : (Z.ok x : Z W α).bind f = f x := id rfl
@[simp] theorem Z.ok_so {x : α} {f : α → Y W σ ρ} : (Z.ok x : Z W α).so f = f x := id rfl
@[simp] theorem Y.nx_then {s : σ} {f : σ → Y W τ ρ} : (Y.nx s : Y W σ ρ).then f = f s := id rfl
@[simp] theorem Y.rt_then {v : ρ} {f : σ → Y W τ ρ} : (Y.rt v : Y W σ ρ).then f = Y.rt v := id rfl
@[simp] theorem Y.rt_all {v : ρ} : (Y.rt v : Y W Empty ρ).all = (Y.rt v : Y W σ ρ) := id rfl
@[simp] theorem Y.ex_all {c : Str} : (Y.ex c : Y W Empty ρ).all = (Y.ex c : Y W σ ρ) := id rfl
@[simp] theorem Y.ex_then {c : Str} {f : σ → Y W τ ρ} : (Y.ex c : Y W σ ρ).then f = Y.ex c := id rfl
@[simp] theorem Y.rt_fin {v : ρ} : (Y.rt v : Y W Empty ρ).fin = Z.ok v := id rfl
@[simp] theorem Y.ex_fin {c : Str} : (Y.ex c : Y W Empty ρ).fin = Z.ex c := id rfl
@[simp] theorem Y.nx_finU {s : σ} : (Y.nx s : Y W σ Unit).finU = Z.ok () := id rfl
@[simp] theorem Y.ex_finU {c : Str} : (Y.ex c : Y W σ Unit).finU = Z.ex c := id rfl
@[simp] theorem Z.run_ok {x : α} : Z.run (Z.ok x) = .ok x := id rfl
@[simp] theorem Z.run_ex {c : Str} : Z.run (Z.ex c : Z Unit α) = .ex c := id rfl
@[simp] theorem Z.opt_some {x : α} : (Z.opt (some x) : Z W α) = Z.ok x := id rfl
@[simp] theorem Z.lift_ok {x : α} : (Z.lift (.ok x) : Z W α) = Z.ok x := id rfl
@[simp] theorem Z.lift_ex {c : Str} : (Z.lift (.ex c) : Z W α) = Z.ex c := id rfl
@[simp] theorem Z.if_true {x : α} : (Z.if true x : Z W α) = Z.ok x := id rfl
theorem fits_of {n : Nat} (h : n ≤ 16000000) : SS.fits n = true := by unfold SS.fits; simp [h]
theorem Z.fits_ok {xs : List α} (h : xs.length ≤ 16000000) : (Z.fits xs : Z W (List α)) = Z.ok xs := by
  unfold Z.fits
  rw [fits_of h]; rfl
theorem Z.lc_ok {g : α → Z W β} {f : α → β} {xs : List α} (h : ∀ x ∈ xs, g x = Z.ok (f x)) (hl : xs.length ≤ 16000000) : Z.lc g xs = Z.ok (xs.map f) := by
  have e : Z.mapM (fun x => (g x).noEx) xs = Z.ok (xs.map f) := by
    clear hl
    induction xs with
    | nil => rfl
    | cons x xs ih =>
      simp only [Z.mapM, h x List.mem_cons_self, ih fun y hy => h y (List.mem_cons_of_mem _ hy)]
      rfl
  unfold Z.lc
  rw [e]
  show Z.fits (xs.map f) = _
  exact Z.fits_ok (by rw [List.length_map]; exact hl)
theorem Z.lcIf_ok {p : α → Z W Bool} {g : α → Z W β} {q : α → Bool} {f : α → β} {xs : List α} (hp : ∀ x ∈ xs, p x = Z.ok (q x)) (hg : ∀ x ∈ xs, q x = true → g x = Z.ok (f x)) (hl : xs.length ≤ 16000000) : Z.lcIf p g xs = Z.ok ((xs.filter q).map f) := by
  have e : Z.mapM (fun x => ((p x).bind fun b => if b then (g x).bind fun y => Z.ok (some y) else Z.ok none).noEx) xs = Z.ok (xs.map fun x => if q x then some (f x) else none) := by
    clear hl
    induction xs with
    | nil => rfl
    | cons x xs ih =>
      simp only [Z.mapM, hp x List.mem_cons_self, ih (fun y hy => hp y (List.mem_cons_of_mem _ hy)) fun y hy => hg y (List.mem_cons_of_mem _ hy)]
      cases hq : q x with
      | false => simp [hq]; rfl
      | true => simp [hq, hg x List.mem_cons_self hq]; rfl
  unfold Z.lcIf
  rw [e]
  show Z.fits _ = _
  rw [List.filterMap_map]
  have e2 : xs.filterMap (id ∘ fun x => if q x then some (f x) else none) = (xs.filter q).map f := fm_filter xs
  rw [e2]
  exact Z.fits_ok (by rw [List.length_map]; exact Nat.le_trans (List.length_filter_le _ _) hl)
theorem Y.for_cons {body : σ → α → Y W σ ρ} {x : α} {xs : List α} {s : σ} : Y.for body (x :: xs) s = (body s x).then fun s1 => Y.for body xs s1 := rfl
/-- a loop by its state -/
theorem Y.for_fold {body : σ → α → Y W σ ρ} {step : σ → α → σ} (I : σ → Prop) : ∀ {xs : List α} {s : σ}, I s → (∀ s, I s → ∀ x ∈ xs, body s x = Y.nx (step s x) ∧ I (step s x)) → Y.for body xs s = Y.nx (xs.foldl step s) ∧ I (xs.foldl step s)
  | [], s, hs, _ => ⟨rfl, hs⟩
  | x :: xs, s, hs, h => by
    obtain ⟨h1, h2⟩ := h s hs x List.mem_cons_self
    rw [Y.for_cons, h1]
    exact Y.for_fold I h2 fun s hs y hy => h s hs y (List.mem_cons_of_mem _ hy)
/-- a loop that appends -/
theorem Y.for_app {body : List β → α → Y W (List β) ρ} {f : α → β} : ∀ {xs : List α} {acc : List β}, acc.length + xs.length ≤ 16000000 → (∀ s : List β, s.length + 1 ≤ 16000000 → ∀ x ∈ xs, body s x = Y.nx (s ++ [f x])) → Y.for body xs acc = Y.nx (acc ++ xs.map f)
  | [], acc, _, _ => by simp [Y.for]
  | x :: xs, acc, hl, h => by
    simp only [List.length_cons] at hl
    rw [Y.for_cons, h acc (by omega) x List.mem_cons_self]
    show Y.for body xs (acc ++ [f x]) = _
    rw [Y.for_app (by simp; omega) fun s hs y hy => h s hs y (List.mem_cons_of_mem _ hy)]
    simp
/-- a loop that stops with an answer -/
theorem Y.for_all {body : Unit → α → Y W Unit ρ} {p : α → Bool} {v : ρ} : ∀ {xs : List α}, (∀ x ∈ xs, body () x = if p x then Y.nx () else Y.rt v) → Y.for body xs () = if xs.all p then Y.nx () else Y.rt v
  | [], _ => rfl
  | x :: xs, h => by
    rw [Y.for_cons, h x List.mem_cons_self, List.all_cons]
    cases p x with
    | false => rfl
    | true => exact Y.for_all fun y hy => h y (List.mem_cons_of_mem _ hy)
end
/-! ### ranges, places -/
theorem rangeZ_nat (n : Nat) : rangeZ 0 (n : Int) = (List.range n).map fun i => ((i : Nat) : Int) := by
  unfold rangeZ
  simp
theorem rangeZ_mem {n : Nat} {x : Int} (h : x ∈ rangeZ 0 (n : Int)) : ∃ i : Nat, i < n ∧ x = i := by
  rw [rangeZ_nat] at h
  obtain ⟨i, hi, rfl⟩ := List.mem_map.mp h
  exact ⟨i, List.mem_range.mp hi, rfl⟩
theorem rangeZ_nat2 (a n : Nat) : rangeZ (a : Int) (n : Int) = (List.range (n - a)).map fun i => ((a + i : Nat) : Int) := by
  unfold rangeZ
  have : ((n : Int) - (a : Int)).toNat = n - a := by omega
  rw [this]
  rfl
theorem rangeOk_of {a b : Int} (h1 : -1000000 ≤ a) (h2 : a ≤ 1000000) (h3 : -1000000 ≤ b) (h4 : b ≤ 1000000) : rangeOk a b = true := by
  unfold rangeOk
  simp [h1, h2, h3, h4]
theorem atI_n {α : Type} (xs : List α) (i : Nat) : L2.atI xs (i : Int) = xs[i]? := by
  unfold L2.atI L2.ixN
  rw [if_pos (Int.natCast_nonneg i)]
  by_cases h : i < xs.length
  · rw [if_pos (by omega)]
    simp
  · rw [if_neg (by omega), List.getElem?_eq_none (by omega)]
    rfl
theorem atI_last {α : Type} (xs : List α) : L2.atI xs (-1) = xs.getLast? := by
  cases xs with
  | nil => rfl
  | cons x xs =>
    unfold L2.atI L2.ixN
    rw [if_neg (by decide), if_pos (by simp only [List.length_cons]; omega), List.getLast?_eq_getElem?]
    have : ((-1 : Int) + ((x :: xs).length : Nat)).toNat = (x :: xs).length - 1 := by simp only [List.length_cons]; omega
    show (x :: xs)[((-1 : Int) + ((x :: xs).length : Nat)).toNat]? = _
    rw [this]
theorem cut_to {α : Type} (xs : List α) (j : Nat) : cut xs none (some (j : Int)) = xs.take j := by
  unfold cut
  rw [HT.sIx_nat, HT.sIx_none]
  simp only [List.drop_zero, Nat.sub_zero]
  by_cases h : j ≤ xs.length
  · rw [Nat.min_eq_left h]
  · rw [Nat.min_eq_right (by omega), List.take_of_length_le (Nat.le_refl _), List.take_of_length_le (by omega)]
theorem cut_from {α : Type} (xs : List α) (j : Nat) : cut xs (some (j : Int)) none = xs.drop j := by
  unfold cut
  rw [HT.sIx_nat, HT.sIx_none]
  by_cases h : j ≤ xs.length
  · rw [Nat.min_eq_left h]
    exact List.take_of_length_le (by rw [List.length_drop]; exact Nat.le_refl _)
  · rw [Nat.min_eq_right (by omega), List.drop_of_length_le (Nat.le_refl _), List.drop_of_length_le (by omega), List.take_nil]
end SS
/- SP2 -/
set_option linter.all false
set_option maxRecDepth 100000
/-! Plain part: grids; what the law's own functions compute. -/
namespace SS
open PySem L2
def cell (R : List (List Int)) (i j : Nat) : Int := (R.getD i []).getD j 0
/-- rows of n, n of them -/
structure Grid (n : Nat) (R : List (List Int)) : Prop where
  len : R.length = n
  row : ∀ r ∈ R, r.length = n
theorem Grid.row_at {n : Nat} {R : List (List Int)} (g : Grid n R) {i : Nat} (hi : i < n) : R[i]? = some (R.getD i []) ∧ (R.getD i []).length = n := by
  have h : i < R.length := by rw [g.len]; exact hi
  refine ⟨by simp [List.getD, h], ?_⟩
  have : R.getD i [] = R[i] := by simp [List.getD, h]
  rw [this]
  exact g.row _ (List.getElem_mem h)
theorem Grid.at2 {W : Type} {n : Nat} {R : List (List Int)} (g : Grid n R) {i j : Nat} (hi : i < n) (hj : j < n) : ((Z.opt (L2.atI R (i : Int)) : Z W (List Int)).bind fun x => Z.opt (L2.atI x (j : Int))) = Z.ok (cell R i j) := by
  obtain ⟨h1, h2⟩ := g.row_at hi
  rw [atI_n, h1]
  show Z.opt (L2.atI (R.getD i []) (j : Int)) = _
  rw [atI_n]
  unfold cell
  have : j < (R.getD i []).length := by rw [h2]; exact hj
  generalize R.getD i [] = r at this
  rw [List.getElem?_eq_getElem this]
  simp [List.getD, this]
def stepOk (R : List (List Int)) (i j : Nat) : Bool := decide (cell R i (j + 1) - cell R i j = 0 ∨ cell R i (j + 1) - cell R i j = 1) && decide (cell R (j + 1) i - cell R j i = 0 ∨ cell R (j + 1) i - cell R j i = 1)
def edgeOk (n : Nat) (R : List (List Int)) (i : Nat) : Bool := decide (cell R 0 i = 0) && (decide (cell R i 0 = 0) && (decide (cell R n i = i) && decide (cell R i n = i)))
def sumLike (n : Nat) (R : List (List Int)) : Bool := (List.range (n + 1)).all fun i => edgeOk n R i && (List.range n).all fun j => stepOk R i j
theorem mem01 (x : Int) : decide (x ∈ [(0 : Int), 1]) = decide (x = 0 ∨ x = 1) := by simp
theorem sum_like_eq {n : Nat} {R : List (List Int)} (g : Grid (n + 1) R) (hn : n ≤ 1000) : m__law_sum_like R = .ok (sumLike n R) := by
  unfold m__law_sum_like
  have e1 : ((R.length : Nat) : Int) - 1 = (n : Int) := by rw [g.len]; omega
  simp only [Z.ok_so, e1]
  have e2 : rangeOk 0 ((n : Int) + 1) = true := rangeOk_of (by omega) (by omega) (by omega) (by omega)
  have e3 : rangeOk 0 (n : Int) = true := rangeOk_of (by omega) (by omega) (by omega) (by omega)
  have e4 : rangeZ 0 ((n : Int) + 1) = (List.range (n + 1)).map fun i => ((i : Nat) : Int) := rangeZ_nat (n + 1)
  rw [e2, e3, e4, rangeZ_nat]
  simp only [Z.if_true, Z.ok_so]
  rw [Y.for_all (p := fun x : Int => edgeOk n R x.toNat && (List.range n).all fun j => stepOk R x.toNat j) (v := false)]
  · rw [List.all_map]
    unfold sumLike
    have : ((fun x : Int => edgeOk n R x.toNat && (List.range n).all fun j => stepOk R x.toNat j) ∘ fun i : Nat => (i : Int)) = fun i => edgeOk n R i && (List.range n).all fun j => stepOk R i j := by
      funext i
      simp
    rw [this]
    cases (List.range (n + 1)).all fun i => edgeOk n R i && (List.range n).all fun j => stepOk R i j <;> rfl
  · intro x hx
    obtain ⟨i, hi, rfl⟩ := List.mem_map.mp hx
    have hi := List.mem_range.mp hi
    have z0 := g.at2 (W := Unit) (i := 0) (j := i) (by omega) hi
    have z1 := g.at2 (W := Unit) (i := i) (j := 0) hi (by omega)
    have z2 := g.at2 (W := Unit) (i := n) (j := i) (by omega) hi
    have z3 := g.at2 (W := Unit) (i := i) (j := n) hi (by omega)
    simp only [Int.natCast_zero] at z0 z1
    rw [z0, z1, z2, z3]
    rw [Y.for_all (p := fun y : Int => stepOk R i y.toNat) (v := false)]
    · simp only [Z.ok_bind', Z.ok_so, Y.rt_all]
      have e5 : decide ((cell R 0 i, cell R i 0, cell R n i, cell R i n) = ((0 : Int), (0 : Int), (i : Int), (i : Int))) = edgeOk n R i := by
        unfold edgeOk
        by_cases h1 : cell R 0 i = 0 <;> by_cases h2 : cell R i 0 = 0 <;> by_cases h3 : cell R n i = i <;> by_cases h4 : cell R i n = i <;> simp [h1, h2, h3, h4]
      rw [e5, List.all_map]
      have e6 : ((fun y : Int => stepOk R i y.toNat) ∘ fun i : Nat => (i : Int)) = fun j => stepOk R i j := by
        funext j
        simp
      rw [e6]
      simp only [Int.toNat_natCast]
      rcases Bool.eq_false_or_eq_true (edgeOk n R i) with h1 | h1 <;> rcases Bool.eq_false_or_eq_true ((List.range n).all fun j => stepOk R i j) with h2 | h2 <;> simp only [h1, h2, Bool.not_true, Bool.not_false, Bool.false_eq_true, if_true, if_false, Y.nx_then, Y.rt_then, Bool.and_self, Bool.and_false, Bool.and_true]
    · intro y hy
      obtain ⟨j, hj, rfl⟩ := List.mem_map.mp hy
      have hj := List.mem_range.mp hj
      have w0 := g.at2 (W := Unit) (i := i) (j := j + 1) hi (by omega)
      have w1 := g.at2 (W := Unit) (i := i) (j := j) hi (by omega)
      have w2 := g.at2 (W := Unit) (i := j + 1) (j := i) (by omega) hi
      have w3 := g.at2 (W := Unit) (i := j) (j := i) (by omega) hi
      simp only [Int.natCast_add, Int.natCast_one] at w0 w2
      rw [w0, w1, w2, w3]
      simp only [Z.ok_bind', mem01, Int.toNat_natCast]
      unfold stepOk
      rcases Bool.eq_false_or_eq_true (decide (cell R i (j + 1) - cell R i j = 0 ∨ cell R i (j + 1) - cell R i j = 1)) with h1 | h1 <;> rcases Bool.eq_false_or_eq_true (decide (cell R (j + 1) i - cell R j i = 0 ∨ cell R (j + 1) i - cell R j i = 1)) with h2 | h2 <;> simp only [h1, h2, Bool.not_true, Bool.not_false, Bool.false_eq_true, if_true, if_false, Z.ok_so, Y.rt_all, Bool.and_self, Bool.and_false, Bool.and_true]
end SS
/- SP3 -/
set_option linter.all false
set_option maxRecDepth 100000
/-! Plain part: corner sums and tables. -/
namespace SS
open PySem L2
/-- a, a + x1, a + x1 + x2, ... -/
def psum : Int → List Int → List Int
  | a, [] => [a]
  | a, x :: xs => a :: psum (a + x) xs
def diffs : List Int → List Int
  | a :: b :: r => (b - a) :: diffs (b :: r)
  | _ => []
def add2 (r s : List Int) : List Int := List.zipWith (fun a b => a + b) r s
def sub2 (r s : List Int) : List Int := List.zipWith (fun a b => b - a) r s
/-- corner sums, from a first row on -/
def sumsFrom : List Int → List (List Int) → List (List Int)
  | S, [] => [S]
  | S, r :: T => S :: sumsFrom (add2 S (psum 0 r)) T
def unL : List (List Int) → List (List Int)
  | r :: r' :: R => diffs (sub2 r r') :: unL (r' :: R)
  | _ => []
def zeros (n : Nat) : List Int := List.replicate n 0
def sumsP (T : List (List Int)) : List (List Int) := sumsFrom (zeros (T.length + 1)) T
theorem psum_len : ∀ (a : Int) (xs : List Int), (psum a xs).length = xs.length + 1
  | a, [] => rfl
  | a, x :: xs => by simp [psum, psum_len (a + x) xs]
theorem diffs_psum : ∀ (a : Int) (xs : List Int), diffs (psum a xs) = xs
  | a, [] => rfl
  | a, [x] => by simp [psum, diffs]; omega
  | a, x :: y :: xs => by
    have ih := diffs_psum (a + x) (y :: xs)
    simp only [psum] at ih ⊢
    simp only [diffs, ih]
    congr 1; omega
theorem psum_diffs : ∀ (x : Int) (r : List Int), psum x (diffs (x :: r)) = x :: r
  | x, [] => rfl
  | x, y :: r => by
    have ih := psum_diffs y r
    simp only [diffs, psum]
    have e : x + (y - x) = y := by omega
    rw [e, ih]
theorem diffs_len : ∀ (r : List Int), (diffs r).length = r.length - 1
  | [] => rfl
  | [a] => rfl
  | a :: b :: r => by simp [diffs, diffs_len (b :: r)]
theorem sub_add : ∀ (r s : List Int), r.length = s.length → sub2 r (add2 r s) = s
  | [], [], _ => rfl
  | [], _ :: _, h => by simp at h
  | _ :: _, [], h => by simp at h
  | a :: r, b :: s, h => by
    have ih := sub_add r s (by simpa using h)
    simp only [sub2, add2, List.zipWith_cons_cons] at ih ⊢
    rw [ih]; congr 1; omega
theorem add_sub : ∀ (r s : List Int), r.length = s.length → add2 r (sub2 r s) = s
  | [], [], _ => rfl
  | [], _ :: _, h => by simp at h
  | _ :: _, [], h => by simp at h
  | a :: r, b :: s, h => by
    have ih := add_sub r s (by simpa using h)
    simp only [sub2, add2, List.zipWith_cons_cons] at ih ⊢
    rw [ih]; congr 1; omega
theorem add2_len (r s : List Int) : (add2 r s).length = min r.length s.length := by simp [add2]
theorem sub2_len (r s : List Int) : (sub2 r s).length = min r.length s.length := by simp [sub2]
/-- a table from its corner sums -/
theorem unL_sums {n : Nat} : ∀ (T : List (List Int)) (S : List Int), (∀ r ∈ T, r.length = n) → S.length = n + 1 → unL (sumsFrom S T) = T
  | [], S, _, _ => rfl
  | r :: T, S, h, hS => by
    have hr := h r List.mem_cons_self
    have hl : (psum 0 r).length = n + 1 := by rw [psum_len, hr]
    have ih := unL_sums T (add2 S (psum 0 r)) (fun r hr => h r (List.mem_cons_of_mem _ hr)) (by rw [add2_len, hS, hl]; simp)
    have e : sumsFrom S (r :: T) = S :: sumsFrom (add2 S (psum 0 r)) T := rfl
    rw [e]
    cases T with
    | nil =>
      simp only [sumsFrom, unL]
      rw [sub_add S (psum 0 r) (by rw [hS, hl]), diffs_psum]
    | cons r' T =>
      have e2 : sumsFrom (add2 S (psum 0 r)) (r' :: T) = add2 S (psum 0 r) :: sumsFrom (add2 (add2 S (psum 0 r)) (psum 0 r')) T := rfl
      rw [e2] at ih ⊢
      have e3 : unL (S :: add2 S (psum 0 r) :: sumsFrom (add2 (add2 S (psum 0 r)) (psum 0 r')) T) = diffs (sub2 S (add2 S (psum 0 r))) :: unL (add2 S (psum 0 r) :: sumsFrom (add2 (add2 S (psum 0 r)) (psum 0 r')) T) := rfl
      rw [e3, ih, sub_add S (psum 0 r) (by rw [hS, hl]), diffs_psum]
/-- corner sums of the table of corner sums -/
theorem sums_unL {n : Nat} : ∀ (R : List (List Int)) (r0 : List Int), (∀ r ∈ r0 :: R, r.length = n + 1 ∧ r.head? = some 0) → sumsFrom r0 (unL (r0 :: R)) = r0 :: R
  | [], r0, _ => rfl
  | r1 :: R, r0, h => by
    obtain ⟨l0, z0⟩ := h r0 (by simp)
    obtain ⟨l1, z1⟩ := h r1 (by simp)
    have ih := sums_unL R r1 fun r hr => h r (by simp at hr ⊢; right; exact hr)
    have e : unL (r0 :: r1 :: R) = diffs (sub2 r0 r1) :: unL (r1 :: R) := rfl
    rw [e]
    have e1 : add2 r0 (psum 0 (diffs (sub2 r0 r1))) = r1 := by
      cases r0 with
      | nil => simp at z0
      | cons a r0 =>
        cases r1 with
        | nil => simp at z1
        | cons b r1 =>
          simp at z0 z1
          subst z0; subst z1
          have : sub2 (0 :: r0) (0 :: r1) = 0 :: sub2 r0 r1 := by simp [sub2]
          rw [this, psum_diffs, ← this]
          exact add_sub _ _ (by rw [l0, l1])
    have e2 : sumsFrom r0 (diffs (sub2 r0 r1) :: unL (r1 :: R)) = r0 :: sumsFrom (add2 r0 (psum 0 (diffs (sub2 r0 r1)))) (unL (r1 :: R)) := rfl
    rw [e2, e1, ih]
/-! ### what the mirrors compute -/
theorem diffs_zip : ∀ (xs : List Int), (xs.zip (xs.drop 1)).map (fun p => p.2 - p.1) = diffs xs
  | [] => rfl
  | [a] => rfl
  | a :: b :: r => by
    have ih := diffs_zip (b :: r)
    simp only [List.drop_succ_cons, List.drop_zero, List.zip_cons_cons, List.map_cons, diffs] at ih ⊢
    rw [ih]
theorem sub2_zip (r s : List Int) : (r.zip s).map (fun p => p.2 - p.1) = sub2 r s := by
  unfold sub2
  rw [List.zip, List.map_zipWith]
theorem diffs_sub2 (xs : List Int) : sub2 xs (xs.drop 1) = diffs xs := (sub2_zip _ _).symm.trans (diffs_zip xs)
theorem unL_zip : ∀ (R : List (List Int)), (R.zip (R.drop 1)).map (fun p => diffs (sub2 p.1 p.2)) = unL R
  | [] => rfl
  | [a] => rfl
  | a :: b :: r => by
    have ih := unL_zip (b :: r)
    simp only [List.drop_succ_cons, List.drop_zero, List.zip_cons_cons, List.map_cons, unL] at ih ⊢
    rw [ih]
theorem cut1 {α : Type} (xs : List α) : cut xs (some (1 : Int)) none = xs.drop 1 := cut_from xs 1
theorem table_of_eq {R : List (List Int)} (h1 : R.length ≤ 1000) (h2 : ∀ r ∈ R, r.length ≤ 1000) : m_table_of R = .ok (unL R) := by
  unfold m_table_of
  simp only [Z.ok_so, cut1]
  rw [Y.for_app (f := fun p : List Int × List Int => diffs (sub2 p.1 p.2))]
  · simp only [List.nil_append, Y.nx_then, Z.ok_so, Y.rt_fin, Z.run_ok, unL_zip]
  · simp only [List.length_nil, List.length_zip, List.length_drop]; omega
  · intro s hs p hp
    have hp1 : p.1 ∈ R := (List.of_mem_zip hp).1
    have l1 := h2 _ hp1
    have l2 : (sub2 p.1 p.2).length ≤ 1000 := by rw [sub2_len]; omega
    rw [Z.fits_ok (by rw [List.length_map, List.length_zip]; omega)]
    simp only [Z.ok_so, sub2_zip, diffs_sub2]
    rw [Z.fits_ok (by rw [diffs_len]; omega)]
    simp only [Z.ok_so]
    rw [Z.fits_ok (by simpa using hs)]
    rfl
/-- the law's way to the table -/
theorem uncorner_eq {n : Nat} {R : List (List Int)} (g : Grid (n + 1) R) (hn : n ≤ 1000) : m__law_uncorner R = .ok (unL R) := by
  unfold m__law_uncorner
  have e1 : ((R.length : Nat) : Int) - 1 = (n : Int) := by rw [g.len]; omega
  simp only [Z.ok_so, e1]
  have e3 : rangeOk 0 (n : Int) = true := rangeOk_of (by omega) (by omega) (by omega) (by omega)
  rw [e3, rangeZ_nat]
  simp only [Z.if_true, Z.ok_so, Z.ok_bind']
  rw [Y.for_app (f := fun x : Int => diffs (sub2 (R.getD x.toNat []) (R.getD (x.toNat + 1) [])))]
  · simp only [List.nil_append, Y.nx_then, Z.ok_so, Y.rt_fin, Z.run_ok, List.map_map]
    congr 1
    rw [← unL_zip]
    refine List.ext_getElem (by simp [g.len]) fun i h1 h2 => ?_
    have hi : i < n := by simpa using h1
    have hi0 : i < R.length := by rw [g.len]; omega
    have hi1 : i + 1 < R.length := by rw [g.len]; omega
    simp [List.getD, hi0, hi1]
  · simp only [List.length_nil, List.length_map, List.length_range]; omega
  · intro s hs x hx
    obtain ⟨i, hi, rfl⟩ := List.mem_map.mp hx
    have hi := List.mem_range.mp hi
    obtain ⟨h1, h2⟩ := g.row_at (i := i) (by omega)
    obtain ⟨h3, h4⟩ := g.row_at (i := i + 1) (by omega)
    have e5 : L2.atI R ((i : Int) + 1) = some (R.getD (i + 1) []) := (atI_n R (i + 1)).trans h3
    rw [atI_n, h1, e5]
    simp only [Z.opt_some, Z.ok_bind', sub2_zip, Int.toNat_natCast]
    have l1 : (sub2 (R.getD i []) (R.getD (i + 1) [])).length = n + 1 := by rw [sub2_len, h2, h4]; simp
    rw [Z.fits_ok (by rw [l1]; omega)]
    simp only [Z.ok_so]
    generalize sub2 (R.getD i []) (R.getD (i + 1) []) = st at l1
    rw [Z.lc_ok (f := fun y : Int => st.getD (y.toNat + 1) 0 - st.getD y.toNat 0)]
    · simp only [Z.ok_so]
      have e6 : ((List.range n).map fun i => ((i : Nat) : Int)).map (fun y : Int => st.getD (y.toNat + 1) 0 - st.getD y.toNat 0) = diffs st := by
        rw [← diffs_zip]
        refine List.ext_getElem (by simp [l1]) fun j h1 h2 => ?_
        have hj : j < n := by simpa using h1
        have hj0 : j < st.length := by omega
        have hj1 : j + 1 < st.length := by omega
        simp [List.getD, hj0, hj1]
      rw [e6, Z.fits_ok (by simpa using hs)]
      rfl
    · intro y hy
      obtain ⟨j, hj, rfl⟩ := List.mem_map.mp hy
      have hj := List.mem_range.mp hj
      have hj0 : j < st.length := by omega
      have hj1 : j + 1 < st.length := by omega
      have e7 : L2.atI st ((j : Int) + 1) = some (st.getD (j + 1) 0) := by
        refine (atI_n st (j + 1)).trans ?_
        simp [List.getD, hj1]
      have e8 : L2.atI st (j : Int) = some (st.getD j 0) := by
        rw [atI_n]
        simp [List.getD, hj0]
      rw [e7, e8]
      simp
    · simp; omega
theorem uncorner2_eq (R : List (List Int)) : m__law_uncorner_2 R = m__law_uncorner R := by
  unfold m__law_uncorner_2 m__law_uncorner
  rfl
theorem sum_like2_eq (R : List (List Int)) : m__law_sum_like_2 R = m__law_sum_like R := by
  unfold m__law_sum_like_2 m__law_sum_like
  rfl
end SS
/- SP4 -/
set_option linter.all false
set_option maxRecDepth 100000
/-! Plain part: corner sums by the program and by the law. -/
namespace SS
open PySem L2
def ptail : Int → List Int → List Int
  | _, [] => []
  | t, x :: r => (t + x) :: ptail (t + x) r
theorem psum_eq : ∀ (t : Int) (r : List Int), psum t r = t :: ptail t r
  | t, [] => rfl
  | t, x :: r => by simp only [psum, ptail, psum_eq (t + x) r]
theorem ptail_len : ∀ (t : Int) (r : List Int), (ptail t r).length = r.length
  | t, [] => rfl
  | t, x :: r => by simp [ptail, ptail_len (t + x) r]
theorem rep_one (n : Nat) : rep n [(0 : Int)] = zeros n := by
  unfold rep zeros
  induction n with
  | zero => rfl
  | succ n ih => rw [List.replicate_succ, List.flatten_cons, ih, List.replicate_succ]; rfl
theorem sums_inner {W ρ : Type} {S : List Int} {body : Int × List Int → Int × Int → Y W (Int × List Int) ρ} (hS : S.length ≤ 1000) (hb : ∀ (s : Int × List Int) (k : Nat) (x : Int), k + 1 < S.length → s.2.length ≤ 2000 → body s ((k : Int), x) = Y.nx (s.1 + x, s.2 ++ [S.getD (k + 1) 0 + (s.1 + x)])) :
    ∀ (r : List Int) (k : Nat) (t : Int) (line : List Int), k + r.length + 1 = S.length → line.length + r.length ≤ 2000 → Y.for body ((r.zipIdx k).map fun p => (((p.2 : Nat) : Int), p.1)) (t, line) = Y.nx (t + r.sum, line ++ add2 (S.drop (k + 1)) (ptail t r))
  | [], k, t, line, h, hl => by simp [Y.for, ptail, add2]
  | x :: r, k, t, line, h, hl => by
    simp only [List.length_cons] at h hl
    simp only [List.zipIdx_cons, List.map_cons]
    rw [Y.for_cons, hb _ k x (by omega) (by simp; omega), Y.nx_then]
    rw [sums_inner hS hb r (k + 1) (t + x) _ (by omega) (by simp; omega)]
    have hk : k + 1 < S.length := by omega
    rw [List.drop_eq_getElem_cons hk]
    simp only [ptail, add2, List.zipWith_cons_cons, List.sum_cons, List.append_assoc, List.cons_append, List.nil_append]
    have e : S.getD (k + 1) 0 = S[k + 1] := by simp [List.getD, hk]
    rw [e, Int.add_assoc]
theorem add2_head {S : List Int} {t : Int} {r : List Int} (h : S.head? = some 0) : add2 S (psum 0 r) = 0 :: add2 (S.drop 1) (ptail 0 r) := by
  cases S with
  | nil => simp at h
  | cons a S =>
    simp at h
    subst h
    simp [psum_eq, add2]
theorem sums_of_eq {n : Nat} {T : List (List Int)} (hT : T.length = n) (hr : ∀ r ∈ T, r.length = n) (hn : n ≤ 900) : m_sums_of T = .ok (sumsP T) := by
  unfold m_sums_of
  have e1 : smallRep (((T.length : Nat) : Int) + 1) ([(0 : Int)] : List Int).length = true := by
    unfold smallRep
    simp; omega
  have e2 : (((T.length : Nat) : Int) + 1).toNat = n + 1 := by omega
  rw [e1, e2, rep_one]
  simp only [Z.if_true, Z.ok_bind', Z.ok_so]
  rw [Z.fits_ok (by simp)]
  simp only [Z.ok_so]
  have key : ∀ (U : List (List Int)) (acc : List (List Int)) (S : List Int), (∀ r ∈ U, r.length = n) → S.length = n + 1 → S.head? = some 0 → acc.length + U.length ≤ 2000 →
      Y.for (W := Unit) (ρ := List (List Int)) (fun (s4 : List (List Int)) (e5 : List Int) => (Y.for (fun (s8 : Int × List Int) (e9 : Int × Int) =>
        Z.so (((Z.opt (L2.atI s4 (-(1 : Int)))).bind fun x12 => Z.opt (L2.atI x12 (e9.1 + (1 : Int)))).bind fun x13 => Z.ok (x13 + (s8.1 + e9.2))) fun y => Z.so (Z.fits (s8.2 ++ [y])) fun line11 => Y.nx ((s8.1 + e9.2), line11)) (enumZ e5) ((0 : Int), [(0 : Int)])).then fun s15 => Z.so (Z.fits (s4 ++ [s15.2])) fun rows16 => Y.nx rows16) U (acc ++ [S]) = Y.nx (acc ++ sumsFrom S U) := by
    intro U
    induction U with
    | nil => intro acc S _ _ _ _; rfl
    | cons r U ih =>
      intro acc S hU hS h0 hl
      simp only [List.length_cons] at hl
      have hr := hU r List.mem_cons_self
      rw [Y.for_cons]
      have inner : Y.for (W := Unit) (ρ := List (List Int)) (fun (s8 : Int × List Int) (e9 : Int × Int) =>
        Z.so (((Z.opt (L2.atI (acc ++ [S]) (-(1 : Int)))).bind fun x12 => Z.opt (L2.atI x12 (e9.1 + (1 : Int)))).bind fun x13 => Z.ok (x13 + (s8.1 + e9.2))) fun y => Z.so (Z.fits (s8.2 ++ [y])) fun line11 => Y.nx ((s8.1 + e9.2), line11)) (enumZ r) ((0 : Int), [(0 : Int)]) = Y.nx (0 + r.sum, [0] ++ add2 (S.drop 1) (ptail 0 r)) := by
        unfold enumZ
        refine sums_inner (S := S) (by omega) ?_ r 0 0 [0] (by omega) (by simp; omega)
        intro s k x hk hs
        have a1 : L2.atI (acc ++ [S]) (-(1 : Int)) = some S := by
          have := atI_last (acc ++ [S])
          simpa using this
        have a2 : L2.atI S ((k : Int) + 1) = some (S.getD (k + 1) 0) := by
          refine (atI_n S (k + 1)).trans ?_
          simp [List.getD, hk]
        rw [a1]
        simp only [Z.opt_some, Z.ok_bind']
        rw [a2]
        simp only [Z.opt_some, Z.ok_bind', Z.ok_so]
        rw [Z.fits_ok (by simp; omega)]
        rfl
      rw [inner, Y.nx_then]
      have e5 : [(0 : Int)] ++ add2 (S.drop 1) (ptail 0 r) = add2 S (psum 0 r) := by rw [add2_head (t := 0) h0]; rfl
      simp only [e5]
      rw [Z.fits_ok (by simp; omega)]
      simp only [Z.ok_so, Y.nx_then]
      have := ih (acc ++ [S]) (add2 S (psum 0 r)) (fun r hr => hU r (List.mem_cons_of_mem _ hr)) (by rw [add2_len, psum_len, hS, hr]; simp) (by rw [add2_head (t := 0) h0]; rfl) (by simp; omega)
      rw [this]
      simp [sumsFrom]
  have k2 := key T [] (zeros (n + 1)) hr (by simp [zeros]) (by simp [zeros, List.replicate_succ]) (by simp; omega)
  simp only [List.nil_append] at k2
  rw [k2]
  simp only [Y.nx_then, Y.rt_fin, Z.run_ok]
  unfold sumsP
  rw [hT]
/-! ### the law's corner sums -/
def cornersP (n : Nat) (T : List (List Int)) : List (List Int) := (List.range (n + 1)).map fun i => (List.range (n + 1)).map fun j => ((T.take i).map fun r => (r.take j).sum).sum
theorem corners_eq0 {n : Nat} {T : List (List Int)} (hT : T.length = n) (hn : n ≤ 900) : m__law_corners T = .ok (cornersP n T) := by
  unfold m__law_corners
  rw [hT]
  simp only [Z.ok_so]
  have e2 : rangeOk 0 ((n : Int) + 1) = true := rangeOk_of (by omega) (by omega) (by omega) (by omega)
  have e4 : rangeZ 0 ((n : Int) + 1) = (List.range (n + 1)).map fun i => ((i : Nat) : Int) := rangeZ_nat (n + 1)
  rw [e2, e4]
  simp only [Z.if_true, Z.ok_so, Z.ok_bind']
  rw [Y.for_app (f := fun x : Int => (List.range (n + 1)).map fun j => ((T.take x.toNat).map fun r => (r.take j).sum).sum)]
  · simp only [List.nil_append, Y.nx_then, Z.ok_so, Y.rt_fin, Z.run_ok, List.map_map]
    unfold cornersP
    congr 1
  · simp; omega
  · intro s hs x hx
    obtain ⟨i, hi, rfl⟩ := List.mem_map.mp hx
    rw [Z.lc_ok (f := fun y : Int => ((T.take i).map fun r => (r.take y.toNat).sum).sum)]
    · simp only [Z.ok_so, List.map_map, Int.toNat_natCast]
      rw [Z.fits_ok (by simpa using hs)]
      simp only [Z.ok_so]
      congr 3
    · intro y hy
      obtain ⟨j, hj, rfl⟩ := List.mem_map.mp hy
      simp only [cut_to, Int.toNat_natCast]
      rw [Z.fits_ok (by simp; omega)]
      rfl
    · simp; omega
theorem psum_range : ∀ (r : List Int) (a : Int), psum a r = (List.range (r.length + 1)).map fun j => a + (r.take j).sum
  | [], a => by simp [psum]
  | x :: r, a => by
    rw [psum, psum_range r (a + x), List.length_cons, List.range_succ_eq_map (n := r.length + 1), List.map_cons, List.map_map]
    simp only [List.take_zero, List.sum_nil, Int.add_zero, List.cons.injEq, true_and]
    apply List.map_congr_left
    intro j _
    simp [Int.add_assoc]
theorem sumsFrom_range : ∀ (T : List (List Int)) (S : List Int), sumsFrom S T = (List.range (T.length + 1)).map fun i => (T.take i).foldl (fun s r => add2 s (psum 0 r)) S
  | [], S => by simp [sumsFrom]
  | r :: T, S => by
    rw [sumsFrom, sumsFrom_range T, List.length_cons, List.range_succ_eq_map (n := T.length + 1), List.map_cons, List.map_map]
    simp only [List.take_zero, List.foldl_nil, List.cons.injEq, true_and]
    apply List.map_congr_left
    intro j _
    simp
theorem add2_map {α : Type} (l : List α) (f g : α → Int) : add2 (l.map f) (l.map g) = l.map fun x => f x + g x := by
  unfold add2
  induction l with
  | nil => rfl
  | cons x l ih => simp only [List.map_cons, List.zipWith_cons_cons, ih]
theorem foldl_range {n : Nat} : ∀ (L : List (List Int)) (f : Nat → Int), (∀ r ∈ L, r.length = n) → L.foldl (fun s r => add2 s (psum 0 r)) ((List.range (n + 1)).map f) = (List.range (n + 1)).map fun j => f j + (L.map fun r => (r.take j).sum).sum
  | [], f, _ => by simp
  | r :: L, f, h => by
    have hr := h r List.mem_cons_self
    rw [List.foldl_cons, psum_range, hr, add2_map, foldl_range L _ fun r hr => h r (List.mem_cons_of_mem _ hr)]
    apply List.map_congr_left
    intro j _
    simp [Int.add_assoc]
theorem corners_sums {n : Nat} {T : List (List Int)} (hT : T.length = n) (hr : ∀ r ∈ T, r.length = n) : cornersP n T = sumsP T := by
  unfold cornersP sumsP
  rw [sumsFrom_range, hT]
  apply List.map_congr_left
  intro i _
  have e : zeros (n + 1) = (List.range (n + 1)).map fun _ => (0 : Int) := by
    unfold zeros
    rw [List.map_const']
    simp
  rw [e, foldl_range _ _ fun r hr' => hr r (List.mem_of_mem_take hr')]
  simp
theorem corners_eq {n : Nat} {T : List (List Int)} (hT : T.length = n) (hr : ∀ r ∈ T, r.length = n) (hn : n ≤ 900) : m__law_corners T = .ok (sumsP T) := by
  rw [corners_eq0 hT hn, corners_sums hT hr]
end SS
/- SP5 -/
set_option linter.all false
set_option maxRecDepth 100000
/-! Plain part: squares, tables. -/
namespace SS
open PySem L2
structure Sqr (n : Nat) (T : List (List Int)) : Prop where
  len : T.length = n
  row : ∀ r ∈ T, r.length = n
def colsP (n : Nat) (T : List (List Int)) : List (List Int) := (List.range n).map fun j => T.map fun r => r.getD j 0
theorem atI_getD {r : List Int} {j : Nat} (h : j < r.length) : L2.atI r (j : Int) = some (r.getD j 0) := by
  rw [atI_n]
  simp [List.getD, h]
theorem cols_lc {W : Type} {n : Nat} {T : List (List Int)} (s : Sqr n T) (hn : n ≤ 900) : Z.lc (W := W) (fun (e3 : Int) => Z.lc (fun (e4 : List Int) => Z.opt (L2.atI e4 e3)) T) (rangeZ 0 (n : Int)) = Z.ok (colsP n T) := by
  rw [rangeZ_nat, Z.lc_ok (f := fun y : Int => T.map fun r => r.getD y.toNat 0)]
  · rw [List.map_map]; rfl
  · intro x hx
    obtain ⟨j, hj, rfl⟩ := List.mem_map.mp hx
    have hj := List.mem_range.mp hj
    rw [Z.lc_ok (f := fun r : List Int => r.getD j 0)]
    · rfl
    · intro r hr
      rw [atI_getD (by rw [s.row r hr]; exact hj)]
      rfl
    · rw [s.len]; omega
  · simp; omega
theorem columns_of_eq {n : Nat} {T : List (List Int)} (s : Sqr n T) (h1 : 1 ≤ n) (hn : n ≤ 900) : m_columns_of T = .ok (colsP n T) := by
  unfold m_columns_of
  have e : L2.atI T (0 : Int) = some (T.getD 0 []) := by
    refine (atI_n T 0).trans ?_
    have : 0 < T.length := by rw [s.len]; omega
    simp [List.getD, this]
  have e2 : (T.getD 0 []).length = n := by
    have : 0 < T.length := by rw [s.len]; omega
    have e3 : T.getD 0 [] = T[0] := by simp [List.getD, this]
    rw [e3]
    exact s.row _ (List.getElem_mem this)
  rw [e]
  simp only [Z.opt_some, Z.ok_bind', e2]
  rw [rangeOk_of (by omega) (by omega) (by omega) (by omega)]
  simp only [Z.if_true, Z.ok_bind']
  rw [cols_lc s hn]
  simp
/-- a line's walk -/
def altR : Int → List Int → Option Int
  | t, [] => some t
  | t, x :: xs => if t + x = 0 ∨ t + x = 1 then altR (t + x) xs else none
def altL (xs : List Int) : Bool := match altR 0 xs with
  | some t => decide (t = 1)
  | none => false
theorem alt_for {W : Type} : ∀ (r : List Int) (t : Int), Y.for (W := W) (ρ := Bool) (fun (s2 : Int) (e3 : Int) => if (!decide ((s2 + e3) ∈ ([(0 : Int), (1 : Int)] : List Int))) then Y.rt false else Y.nx (s2 + e3)) r t = match altR t r with
    | some t' => Y.nx t'
    | none => Y.rt false
  | [], t => rfl
  | x :: r, t => by
    rw [Y.for_cons]
    simp only [mem01, altR]
    by_cases h : t + x = 0 ∨ t + x = 1
    · simp only [h, decide_true, Bool.not_true, Bool.false_eq_true, if_false, if_true, Y.nx_then]
      have := alt_for (W := W) r (t + x)
      simp only [mem01] at this
      exact this
    · simp only [h, decide_false, Bool.not_false, if_true, if_false, Y.rt_then]
theorem alternates_eq (r : List Int) : m_alternates r = .ok (altL r) := by
  unfold m_alternates
  simp only [Z.ok_so, Y.rt_all]
  rw [alt_for]
  unfold altL
  cases altR 0 r <;> rfl
def in1 (x : Int) : Bool := decide (-1 ≤ x) && decide (x ≤ 1)
def Ent (T : List (List Int)) : Prop := ∀ r ∈ T, ∀ x ∈ r, -1 ≤ x ∧ x ≤ 1
theorem is_integer_eq (x a b : Int) : m_is_integer x a b = .ok (decide (a ≤ x) && decide (x ≤ b)) := by
  unfold m_is_integer
  simp
theorem is_square_eq {n : Nat} {T : List (List Int)} {a b lo hi : Int} (s : Sqr n T) (h1 : a ≤ (n : Int)) (h2 : (n : Int) ≤ b) (hn : n ≤ 900) : m_is_square T a b lo hi = .ok (T.all fun r => r.all fun x => decide (lo ≤ x) && decide (x ≤ hi)) := by
  unfold m_is_square
  simp only [Z.ok_so, s.len, h1, h2, decide_true, Bool.and_self, Bool.not_true, Bool.or_self, Bool.false_eq_true, if_false, Y.rt_all, is_integer_eq, Z.lift_ok]
  rw [Y.for_all (p := fun r : List Int => r.all fun x => decide (lo ≤ x) && decide (x ≤ hi)) (v := false)]
  · rcases Bool.eq_false_or_eq_true (T.all fun r => r.all fun x => decide (lo ≤ x) && decide (x ≤ hi)) with h | h <;> simp only [h, if_true, Bool.false_eq_true, if_false, Y.nx_then, Y.rt_then, Y.rt_fin, Z.run_ok]
  · intro r hr
    have lr := s.row r hr
    simp only [lr, decide_true, Bool.not_true, Bool.or_self, Bool.false_eq_true, if_false]
    rw [Z.lc_ok (f := fun x => decide (lo ≤ x) && decide (x ≤ hi)) (fun x _ => rfl) (by omega)]
    simp only [Z.ok_bind', Z.ok_so, List.all_map]
    have e : (id ∘ fun x : Int => decide (lo ≤ x) && decide (x ≤ hi)) = fun x : Int => decide (lo ≤ x) && decide (x ≤ hi) := rfl
    rw [e]
    rcases Bool.eq_false_or_eq_true (r.all fun x => decide (lo ≤ x) && decide (x ≤ hi)) with h | h <;> simp only [h, Bool.not_true, Bool.not_false, if_true, Bool.false_eq_true, if_false]
theorem Ent.all {T : List (List Int)} (h : Ent T) : (T.all fun r => r.all fun x => decide (-(1 : Int) ≤ x) && decide (x ≤ 1)) = true := by
  rw [List.all_eq_true]
  intro r hr
  rw [List.all_eq_true]
  intro x hx
  simpa using h r hr x hx
def isTab (n : Nat) (T : List (List Int)) : Bool := (T ++ colsP n T).all altL
theorem is_table_eq {n : Nat} {T : List (List Int)} (s : Sqr n T) (e : Ent T) (h1 : 1 ≤ n) (h5 : n ≤ 5) : m_is_table T = .ok (isTab n T) := by
  unfold m_is_table
  rw [is_square_eq s (by omega) (by omega) (by omega), e.all, columns_of_eq s h1 (by omega)]
  simp only [Z.lift_ok, Z.ok_bind', Z.ok_so, Bool.not_true, Bool.false_eq_true, if_false, alternates_eq]
  rw [Z.fits_ok (by simp [colsP, s.len]; omega)]
  simp only [Z.ok_bind']
  rw [Z.lc_ok (f := altL) (fun x _ => rfl) (by simp [colsP, s.len]; omega)]
  simp only [Z.ok_bind', Z.ok_so, List.all_map]
  rfl
/-! ### the law's own test -/
def goodL (line : List Int) : Bool := decide ((line.filter fun x => !decide (x = 0)) = (List.range (line.filter fun x => !decide (x = 0)).length).map fun i => if i % 2 = 0 then (1 : Int) else -1) && !decide ((line.filter fun x => !decide (x = 0)).length % 2 = 0)
theorem good_eq {n : Nat} {T : List (List Int)} (s : Sqr n T) (h5 : n ≤ 900) : m__law_good T = .ok ((T ++ colsP n T).all goodL) := by
  unfold m__law_good
  rw [s.len, rangeOk_of (by omega) (by omega) (by omega) (by omega)]
  simp only [Z.if_true, Z.ok_bind']
  rw [cols_lc s h5]
  simp only [Z.ok_bind']
  rw [Z.fits_ok (by simp [colsP, s.len]; omega)]
  simp only [Z.ok_so, List.map_id', Y.rt_all]
  have hl : ∀ r ∈ T ++ colsP n T, r.length ≤ 900 := by
    intro r hr
    rcases List.mem_append.mp hr with h | h
    · rw [s.row r h]; exact h5
    · obtain ⟨j, _, rfl⟩ := List.mem_map.mp h
      simp [s.len]; omega
  rw [Y.for_all (p := goodL) (v := false)]
  · rcases Bool.eq_false_or_eq_true ((T ++ colsP n T).all goodL) with h | h <;> simp only [h, if_true, Bool.false_eq_true, if_false, Y.nx_then, Y.rt_then, Y.rt_fin, Z.run_ok]
  · intro r hr
    have lr := hl r hr
    have lf : (r.filter fun x => !decide (x = 0)).length ≤ 900 := Nat.le_trans (List.length_filter_le _ _) lr
    rw [Z.fits_ok (by omega)]
    simp only [Z.ok_so]
    unfold goodL
    generalize (r.filter fun x => !decide (x = 0)) = sg at lf
    rw [rangeOk_of (by omega) (by omega) (by omega) (by omega), rangeZ_nat]
    simp only [Z.if_true, Z.ok_bind', List.map_map]
    rw [Z.fits_ok (by simp; omega)]
    simp only [Z.ok_bind', Z.ok_so]
    have e1 : ((List.range sg.length).map ((fun e10 : Int => if (decide ((e10 % (2 : Int)) = (0 : Int))) then (1 : Int) else -(1 : Int)) ∘ fun i : Nat => (i : Int))) = (List.range sg.length).map fun i => if i % 2 = 0 then (1 : Int) else -1 := by
      apply List.map_congr_left
      intro i _
      simp only [Function.comp]
      by_cases h : i % 2 = 0
      · have : ((i : Int) % 2) = 0 := by omega
        simp [h, this]
      · have : ¬ ((i : Int) % 2) = 0 := by omega
        simp [h, this]
    have e2 : decide ((((sg.length : Nat) : Int) % (2 : Int)) = (0 : Int)) = decide (sg.length % 2 = 0) := by
      by_cases h : sg.length % 2 = 0
      · have : (((sg.length : Nat) : Int) % 2) = 0 := by omega
        simp [h, this]
      · have : ¬ (((sg.length : Nat) : Int) % 2) = 0 := by omega
        simp [h, this]
    rw [e1, e2]
    rcases Bool.eq_false_or_eq_true (decide (sg = (List.range sg.length).map fun i => if i % 2 = 0 then (1 : Int) else -1)) with h | h <;> rcases Bool.eq_false_or_eq_true (decide (sg.length % 2 = 0)) with h2 | h2 <;> simp only [h, h2, Bool.not_true, Bool.not_false, Bool.or_false, Bool.or_true, Bool.and_true, Bool.and_false, Bool.and_self, Bool.or_self, if_true, Bool.false_eq_true, if_false]
/-! ### lines of -1, 0, 1 -/
def lines3 : Nat → List (List Int)
  | 0 => [[]]
  | n + 1 => (lines3 n).flatMap fun r => [-1 :: r, 0 :: r, 1 :: r]
theorem lines3_mem : ∀ {r : List Int}, (∀ x ∈ r, -1 ≤ x ∧ x ≤ 1) → r ∈ lines3 r.length
  | [], _ => by simp [lines3]
  | x :: r, h => by
    have hx := h x List.mem_cons_self
    have ih := lines3_mem fun y hy => h y (List.mem_cons_of_mem _ hy)
    simp only [List.length_cons, lines3, List.mem_flatMap]
    refine ⟨r, ih, ?_⟩
    have : x = -1 ∨ x = 0 ∨ x = 1 := by omega
    rcases this with rfl | rfl | rfl <;> simp
theorem lines_ok : ((List.range 6).all fun n => (lines3 n).all fun r => altL r == goodL r) = true := by decide +kernel
theorem alt_good {r : List Int} (h : ∀ x ∈ r, -1 ≤ x ∧ x ≤ 1) (hl : r.length ≤ 5) : altL r = goodL r := by
  have := List.all_eq_true.mp lines_ok r.length (List.mem_range.mpr (by omega))
  have := List.all_eq_true.mp this r (lines3_mem h)
  simpa using this
theorem Ent.cols {n : Nat} {T : List (List Int)} (e : Ent T) (s : Sqr n T) : ∀ r ∈ T ++ colsP n T, (∀ x ∈ r, -1 ≤ x ∧ x ≤ 1) ∧ r.length = n := by
  intro r hr
  rcases List.mem_append.mp hr with h | h
  · exact ⟨e r h, s.row r h⟩
  · obtain ⟨j, hj, rfl⟩ := List.mem_map.mp h
    have hj := List.mem_range.mp hj
    refine ⟨fun x hx => ?_, by simp [s.len]⟩
    obtain ⟨q, hq, rfl⟩ := List.mem_map.mp hx
    have : j < q.length := by rw [s.row q hq]; exact hj
    have e2 : q.getD j 0 = q[j] := by simp [List.getD, this]
    rw [e2]
    exact e q hq _ (List.getElem_mem this)
theorem isTab_good {n : Nat} {T : List (List Int)} (s : Sqr n T) (e : Ent T) (h5 : n ≤ 5) : (T ++ colsP n T).all goodL = isTab n T := by
  unfold isTab
  rw [Bool.eq_iff_iff, List.all_eq_true, List.all_eq_true]
  constructor
  · intro h r hr
    rw [alt_good (e.cols s r hr).1 (by rw [(e.cols s r hr).2]; exact h5)]
    exact h r hr
  · intro h r hr
    rw [← alt_good (e.cols s r hr).1 (by rw [(e.cols s r hr).2]; exact h5)]
    exact h r hr
end SS
/- SP6 -/
set_option linter.all false
set_option maxRecDepth 100000
/-! Plain part: what is sum-like; all of them. -/
namespace SS
open PySem L2
def is01 (x : Int) : Prop := x = 0 ∨ x = 1
structure SL (n : Nat) (R : List (List Int)) : Prop where
  g : Grid (n + 1) R
  top : ∀ j, j ≤ n → cell R 0 j = 0
  left : ∀ i, i ≤ n → cell R i 0 = 0
  bot : ∀ j, j ≤ n → cell R n j = j
  right : ∀ i, i ≤ n → cell R i n = i
  h : ∀ i j, i ≤ n → j < n → is01 (cell R i (j + 1) - cell R i j)
  v : ∀ i j, i < n → j ≤ n → is01 (cell R (i + 1) j - cell R i j)
theorem SL_iff {n : Nat} {R : List (List Int)} (g : Grid (n + 1) R) : sumLike n R = true ↔ SL n R := by
  unfold sumLike
  rw [List.all_eq_true]
  constructor
  · intro h
    have q : ∀ i, i ≤ n → (cell R 0 i = 0 ∧ cell R i 0 = 0 ∧ cell R n i = i ∧ cell R i n = i) ∧ ∀ j, j < n → is01 (cell R i (j + 1) - cell R i j) ∧ is01 (cell R (j + 1) i - cell R j i) := by
      intro i hi
      have := h i (List.mem_range.mpr (by omega))
      simp only [Bool.and_eq_true, List.all_eq_true, edgeOk, stepOk, decide_eq_true_eq] at this
      exact ⟨this.1, fun j hj => this.2 j (List.mem_range.mpr hj)⟩
    exact ⟨g, fun j hj => (q j hj).1.1, fun j hj => (q j hj).1.2.1, fun j hj => (q j hj).1.2.2.1, fun j hj => (q j hj).1.2.2.2, fun i j hi hj => ((q i hi).2 j hj).1, fun i j hi hj => ((q j hj).2 i hi).2⟩
  · intro s i hi
    have hi := List.mem_range.mp hi
    simp only [Bool.and_eq_true, List.all_eq_true, edgeOk, stepOk, decide_eq_true_eq]
    exact ⟨⟨s.top i (by omega), s.left i (by omega), s.bot i (by omega), s.right i (by omega)⟩, fun j hj => ⟨s.h i j (by omega) (List.mem_range.mp hj), s.v j i (List.mem_range.mp hj) (by omega)⟩⟩
/-! ### rows and cells -/
theorem cell_row (R : List (List Int)) (i j : Nat) : cell R i j = (R.getD i []).getD j 0 := rfl
theorem getD_mem {α : Type} {xs : List α} {i : Nat} {d : α} (h : i < xs.length) : xs.getD i d ∈ xs := by
  have : xs.getD i d = xs[i] := by simp [List.getD, h]
  rw [this]
  exact List.getElem_mem h
theorem mem_getD {α : Type} {xs : List α} {x d : α} (h : x ∈ xs) : ∃ i, i < xs.length ∧ xs.getD i d = x := by
  obtain ⟨i, hi, e⟩ := List.getElem_of_mem h
  exact ⟨i, hi, by simp [List.getD, hi, e]⟩
/-- grids that agree -/
theorem grid_ext {n : Nat} {R R' : List (List Int)} (g : Grid n R) (g' : Grid n R') (h : ∀ i j, i < n → j < n → cell R i j = cell R' i j) : R = R' := by
  refine List.ext_getElem (by rw [g.len, g'.len]) fun i h1 h2 => ?_
  have hi : i < n := by rw [← g.len]; exact h1
  have l1 := g.row _ (List.getElem_mem h1)
  have l2 := g'.row _ (List.getElem_mem h2)
  refine List.ext_getElem (by rw [l1, l2]) fun j h3 h4 => ?_
  have := h i j hi (by omega)
  unfold cell at this
  simpa [List.getD, h1, h2, h3, h4] using this
theorem getD_of {α : Type} {xs : List α} {i : Nat} {d : α} (h : i < xs.length) : xs.getD i d = xs[i] := by simp [List.getD, h]
theorem sub2_getD {a b : List Int} {j : Nat} (h1 : j < a.length) (h2 : j < b.length) : (sub2 a b).getD j 0 = b.getD j 0 - a.getD j 0 := by
  rw [getD_of (by rw [sub2_len]; omega), getD_of h1, getD_of h2]
  simp [sub2]
theorem diffs_getD {s : List Int} {j : Nat} (h : j + 1 < s.length) : (diffs s).getD j 0 = s.getD (j + 1) 0 - s.getD j 0 := by
  have hl : j < ((s.zip (s.drop 1)).map fun p => p.2 - p.1).length := by simp; omega
  rw [← diffs_zip, getD_of hl, getD_of h, getD_of (show j < s.length by omega)]
  simp
theorem unL_len (R : List (List Int)) : (unL R).length = R.length - 1 := by
  rw [← unL_zip]
  simp
theorem unL_row {n : Nat} {R : List (List Int)} (g : Grid (n + 1) R) {i : Nat} (hi : i < n) : (unL R).getD i [] = diffs (sub2 (R.getD i []) (R.getD (i + 1) [])) := by
  have h1 : i < R.length := by rw [g.len]; omega
  have h2 : i + 1 < R.length := by rw [g.len]; omega
  have hl : i < ((R.zip (R.drop 1)).map fun p => diffs (sub2 p.1 p.2)).length := by simp; omega
  rw [← unL_zip, getD_of hl, getD_of h1, getD_of h2]
  simp
theorem Sqr_unL {n : Nat} {R : List (List Int)} (g : Grid (n + 1) R) : Sqr n (unL R) := by
  refine ⟨by rw [unL_len, g.len]; rfl, fun r hr => ?_⟩
  obtain ⟨i, hi, rfl⟩ := mem_getD (d := []) hr
  rw [unL_len, g.len] at hi
  have hi : i < n := hi
  rw [unL_row g hi, diffs_len, sub2_len, (g.row_at (i := i) (by omega)).2, (g.row_at (i := i + 1) (by omega)).2]
  simp
theorem cell_unL {n : Nat} {R : List (List Int)} (g : Grid (n + 1) R) {i j : Nat} (hi : i < n) (hj : j < n) : cell (unL R) i j = (cell R (i + 1) (j + 1) - cell R i (j + 1)) - (cell R (i + 1) j - cell R i j) := by
  have l1 := (g.row_at (i := i) (by omega)).2
  have l2 := (g.row_at (i := i + 1) (by omega)).2
  rw [cell_row, unL_row g hi, diffs_getD (by rw [sub2_len, l1, l2]; omega), sub2_getD (by omega) (by omega), sub2_getD (by omega) (by omega)]
  rfl
/-! ### sum-like grids are the corner sums of tables -/
theorem alt_diffs : ∀ (d : List Int) (v : Int), (∀ x ∈ d, is01 x) → altR v (diffs (v :: d)) = (v :: d).getLast?
  | [], v, _ => rfl
  | x :: d, v, h => by
    have hx : x = 0 ∨ x = 1 := h x List.mem_cons_self
    simp only [diffs, altR]
    have e : v + (x - v) = x := by omega
    rw [e, if_pos hx, alt_diffs d x fun y hy => h y (List.mem_cons_of_mem _ hy), List.getLast?_cons_cons]
theorem altL_diffs {s : List Int} (h0 : s.head? = some 0) (h : ∀ x ∈ s, is01 x) (hl : s.getLast? = some 1) : altL (diffs s) = true := by
  cases s with
  | nil => simp at h0
  | cons v d =>
    simp at h0
    subst h0
    unfold altL
    rw [alt_diffs d 0 fun x hx => h x (List.mem_cons_of_mem _ hx), hl]
    rfl
theorem head_getD {s : List Int} (h : 0 < s.length) : s.head? = some (s.getD 0 0) := by
  cases s with
  | nil => simp at h
  | cons a s => rfl
theorem last_getD {s : List Int} {n : Nat} (h : s.length = n + 1) : s.getLast? = some (s.getD n 0) := by
  rw [List.getLast?_eq_getElem?, h]
  simp [List.getD, h]
theorem SL.ent {n : Nat} {R : List (List Int)} (s : SL n R) : Ent (unL R) := by
  intro r hr x hx
  have sq := Sqr_unL s.g
  obtain ⟨i, hi, rfl⟩ := mem_getD (d := []) hr
  rw [sq.len] at hi
  obtain ⟨j, hj, rfl⟩ := mem_getD (d := 0) hx
  have hj : j < n := by rw [sq.row _ hr] at hj; exact hj
  have e := cell_unL s.g hi hj
  rw [cell_row] at e
  rw [e]
  have h1 := s.v i j hi (by omega)
  have h2 := s.v i (j + 1) hi (by omega)
  unfold is01 at h1 h2
  omega
theorem SL.tab {n : Nat} {R : List (List Int)} (s : SL n R) (hn : 1 ≤ n) : isTab n (unL R) = true := by
  have sq := Sqr_unL s.g
  unfold isTab
  rw [List.all_eq_true]
  intro r hr
  rcases List.mem_append.mp hr with hr | hr
  · obtain ⟨i, hi, rfl⟩ := mem_getD (d := []) hr
    rw [sq.len] at hi
    rw [unL_row s.g hi]
    have l1 := (s.g.row_at (i := i) (by omega)).2
    have l2 := (s.g.row_at (i := i + 1) (by omega)).2
    have l3 : (sub2 (R.getD i []) (R.getD (i + 1) [])).length = n + 1 := by rw [sub2_len, l1, l2]; simp
    refine altL_diffs ?_ ?_ ?_
    · rw [head_getD (by omega), sub2_getD (by omega) (by omega)]
      have a := s.left i (by omega)
      have b := s.left (i + 1) (by omega)
      rw [cell_row] at a b
      rw [a, b]; rfl
    · intro x hx
      obtain ⟨j, hj, rfl⟩ := mem_getD (d := 0) hx
      rw [l3] at hj
      rw [sub2_getD (by omega) (by omega)]
      exact s.v i j hi (by omega)
    · rw [last_getD l3, sub2_getD (by omega) (by omega)]
      have a := s.right i (by omega)
      have b := s.right (i + 1) (by omega)
      rw [cell_row] at a b
      rw [a, b]
      congr 1
      omega
  · obtain ⟨j, hj, rfl⟩ := List.mem_map.mp hr
    have hj := List.mem_range.mp hj
    have e : (unL R).map (fun r => r.getD j 0) = diffs (R.map fun r => r.getD (j + 1) 0 - r.getD j 0) := by
      rw [← unL_zip, ← diffs_zip, List.map_map, ← List.map_drop, List.zip_map, List.map_map]
      apply List.map_congr_left
      intro p hp
      have m1 := (List.of_mem_zip hp).1
      have m2 := List.mem_of_mem_drop (List.of_mem_zip hp).2
      have l1 := s.g.row _ m1
      have l2 := s.g.row _ m2
      simp only [Function.comp, Prod.map]
      rw [diffs_getD (by rw [sub2_len]; omega), sub2_getD (by omega) (by omega), sub2_getD (by omega) (by omega)]
      omega
    rw [e]
    have cellm : ∀ i, i ≤ n → (R.map fun r => r.getD (j + 1) 0 - r.getD j 0).getD i 0 = cell R i (j + 1) - cell R i j := by
      intro i hi
      have : i < R.length := by rw [s.g.len]; omega
      unfold cell
      simp [List.getD, this]
    refine altL_diffs ?_ ?_ ?_
    · rw [head_getD (by rw [List.length_map, s.g.len]; omega), cellm 0 (by omega), s.top j (by omega), s.top (j + 1) (by omega)]; rfl
    · intro x hx
      obtain ⟨i, hi, rfl⟩ := mem_getD (d := 0) hx
      rw [List.length_map, s.g.len] at hi
      rw [cellm i (by omega)]
      exact s.h i j (by omega) hj
    · rw [last_getD (n := n) (by rw [List.length_map, s.g.len]), cellm n (by omega), s.bot j (by omega), s.bot (j + 1) (by omega)]
      congr 1
      omega
theorem SL.rows0 {n : Nat} {R : List (List Int)} (s : SL n R) : ∀ r ∈ R, r.length = n + 1 ∧ r.head? = some 0 := by
  intro r hr
  obtain ⟨i, hi, rfl⟩ := mem_getD (d := []) hr
  rw [s.g.len] at hi
  have l1 := (s.g.row_at hi).2
  refine ⟨l1, ?_⟩
  rw [head_getD (by omega)]
  have a := s.left i (by omega)
  rw [cell_row] at a
  rw [a]
theorem SL.row0 {n : Nat} {R : List (List Int)} (s : SL n R) : ∃ R', R = zeros (n + 1) :: R' := by
  cases R with
  | nil => have := s.g.len; simp at this
  | cons r R =>
    refine ⟨R, ?_⟩
    congr 1
    have l1 : r.length = n + 1 := s.g.row r List.mem_cons_self
    refine List.ext_getElem (by simp [l1, zeros]) fun j h1 h2 => ?_
    have := s.top j (by omega)
    unfold cell at this
    simpa [zeros, h1] using this
theorem SL.sums {n : Nat} {R : List (List Int)} (s : SL n R) : sumsP (unL R) = R := by
  unfold sumsP
  rw [(Sqr_unL s.g).len]
  have r0 := s.rows0
  obtain ⟨R', rfl⟩ := s.row0
  exact sums_unL R' _ r0
end SS
/- SP7 -/
set_option linter.all false
set_option maxRecDepth 100000
/-! Plain part: runs that draw. -/
namespace SS
open PySem L2
section
variable {α β σ τ ρ : Type}
/-- ends well, with at most B draws -/
def Ok (z : Z Nat α) (B : Nat) (P : α → Prop) : Prop := ∀ t, t + B ≤ 1000000 → ∃ a t', z t = .ok a t' ∧ t' ≤ t + B ∧ P a
def OkY (y : Y Nat σ ρ) (B : Nat) (P : σ → Prop) (Q : ρ → Prop) : Prop := ∀ t, t + B ≤ 1000000 → (∃ s t', y t = .nx s t' ∧ t' ≤ t + B ∧ P s) ∨ (∃ v t', y t = .rt v t' ∧ t' ≤ t + B ∧ Q v)
theorem Ok.ok {P : α → Prop} {a : α} (h : P a) : Ok (Z.ok a) 0 P := fun t _ => ⟨a, t, rfl, by omega, h⟩
theorem Ok.eq {P : α → Prop} {z : Z Nat α} {a : α} (e : z = Z.ok a) (h : P a) : Ok z 0 P := e ▸ Ok.ok h
theorem Ok.mono {z : Z Nat α} {B C : Nat} {P Q : α → Prop} (h : Ok z B P) (hB : B ≤ C) (hP : ∀ a, P a → Q a) : Ok z C Q := fun t ht => by
  obtain ⟨a, t', e, l, p⟩ := h t (by omega)
  exact ⟨a, t', e, by omega, hP a p⟩
theorem OkY.mono {y : Y Nat σ ρ} {B C : Nat} {P P' : σ → Prop} {Q Q' : ρ → Prop} (h : OkY y B P Q) (hB : B ≤ C) (hP : ∀ a, P a → P' a) (hQ : ∀ a, Q a → Q' a) : OkY y C P' Q' := fun t ht => by
  rcases h t (by omega) with ⟨a, t', e, l, p⟩ | ⟨a, t', e, l, p⟩
  · exact .inl ⟨a, t', e, by omega, hP a p⟩
  · exact .inr ⟨a, t', e, by omega, hQ a p⟩
theorem Ok.bind {z : Z Nat α} {f : α → Z Nat β} {B C : Nat} {P : α → Prop} {Q : β → Prop} (h : Ok z B P) (hf : ∀ a, P a → Ok (f a) C Q) : Ok (z.bind f) (B + C) Q := fun t ht => by
  obtain ⟨a, t1, e, l, p⟩ := h t (by omega)
  obtain ⟨b, t2, e2, l2, q⟩ := hf a p t1 (by omega)
  refine ⟨b, t2, ?_, by omega, q⟩
  unfold Z.bind
  rw [e]
  exact e2
theorem Ok.so {z : Z Nat α} {f : α → Y Nat σ ρ} {B C : Nat} {P : α → Prop} {Q : σ → Prop} {Q' : ρ → Prop} (h : Ok z B P) (hf : ∀ a, P a → OkY (f a) C Q Q') : OkY (z.so f) (B + C) Q Q' := fun t ht => by
  obtain ⟨a, t1, e, l, p⟩ := h t (by omega)
  have e1 : z.so f t = f a t1 := by unfold Z.so; rw [e]
  rw [e1]
  rcases hf a p t1 (by omega) with ⟨b, t2, e2, l2, q⟩ | ⟨b, t2, e2, l2, q⟩
  · exact .inl ⟨b, t2, e2, by omega, q⟩
  · exact .inr ⟨b, t2, e2, by omega, q⟩
theorem OkY.then {y : Y Nat σ ρ} {f : σ → Y Nat τ ρ} {B C : Nat} {P : σ → Prop} {Q : τ → Prop} {Q' : ρ → Prop} (h : OkY y B P Q') (hf : ∀ a, P a → OkY (f a) C Q Q') : OkY (y.then f) (B + C) Q Q' := fun t ht => by
  rcases h t (by omega) with ⟨a, t1, e, l, p⟩ | ⟨a, t1, e, l, p⟩
  · have e1 : y.then f t = f a t1 := by unfold Y.then; rw [e]
    rw [e1]
    rcases hf a p t1 (by omega) with ⟨b, t2, e2, l2, q⟩ | ⟨b, t2, e2, l2, q⟩
    · exact .inl ⟨b, t2, e2, by omega, q⟩
    · exact .inr ⟨b, t2, e2, by omega, q⟩
  · refine .inr ⟨a, t1, ?_, by omega, p⟩
    unfold Y.then
    rw [e]
theorem OkY.nx {s : σ} {P : σ → Prop} {Q : ρ → Prop} (h : P s) : OkY (Y.nx s : Y Nat σ ρ) 0 P Q := fun t _ => .inl ⟨s, t, rfl, by omega, h⟩
theorem OkY.rt {v : ρ} {P : σ → Prop} {Q : ρ → Prop} (h : Q v) : OkY (Y.rt v : Y Nat σ ρ) 0 P Q := fun t _ => .inr ⟨v, t, rfl, by omega, h⟩
theorem OkY.all {y : Y Nat Empty ρ} {B : Nat} {P : Empty → Prop} {P' : σ → Prop} {Q : ρ → Prop} (h : OkY y B P Q) : OkY (y.all : Y Nat σ ρ) B P' Q := fun t ht => by
  rcases h t ht with ⟨a, t1, e, l, p⟩ | ⟨a, t1, e, l, p⟩
  · exact a.elim
  · refine .inr ⟨a, t1, ?_, l, p⟩
    unfold Y.all
    rw [e]
theorem OkY.fin {y : Y Nat Empty ρ} {B : Nat} {P : Empty → Prop} {Q : ρ → Prop} (h : OkY y B P Q) : Ok y.fin B Q := fun t ht => by
  rcases h t ht with ⟨a, t1, e, l, p⟩ | ⟨a, t1, e, l, p⟩
  · exact a.elim
  · refine ⟨a, t1, ?_, l, p⟩
    unfold Y.fin
    rw [e]
theorem OkY.for {body : σ → α → Y Nat σ ρ} {B : Nat} {I : σ → Prop} {Q : ρ → Prop} : ∀ {xs : List α} {s : σ}, I s → (∀ s, I s → ∀ x ∈ xs, OkY (body s x) B I Q) → OkY (Y.for body xs s) (xs.length * B) I Q
  | [], s, hs, _ => OkY.mono (OkY.nx hs) (by simp) (fun _ h => h) fun _ h => h
  | x :: xs, s, hs, h => by
    have h1 := OkY.then (h s hs x List.mem_cons_self) fun a ha => OkY.for (xs := xs) ha fun s hs y hy => h s hs y (List.mem_cons_of_mem _ hy)
    exact OkY.mono h1 (by rw [List.length_cons, Nat.add_mul]; omega) (fun _ h => h) fun _ h => h
theorem OkY.for' {body : σ → α → Y Nat σ ρ} {B N : Nat} {I : σ → Prop} {Q : ρ → Prop} {xs : List α} {s : σ} (hs : I s) (hl : xs.length ≤ N) (h : ∀ s, I s → ∀ x ∈ xs, OkY (body s x) B I Q) : OkY (Y.for body xs s) (N * B) I Q :=
  OkY.mono (OkY.for hs h) (Nat.mul_le_mul_right _ hl) (fun _ h => h) fun _ h => h
end
/-! ### draws -/
theorem cell_at_ok {ns : List Int} (j : Nat) (hl : ns.length ≤ 63) : ∃ z, m__law_cell_at ns (j : Int) = .ok z := by
  unfold m__law_cell_at
  simp only [Z.ok_so, Y.rt_all]
  by_cases h : (j : Int) < (ns.length : Int)
  · have hj : j < ns.length := by omega
    simp only [h, decide_true, if_true]
    rw [atI_getD hj]
    exact ⟨_, rfl⟩
  · simp only [h, decide_false, Bool.false_eq_true, if_false]
    by_cases hn : ns = []
    · simp only [hn, decide_true, if_true]
      exact ⟨_, rfl⟩
    · have hp : 0 < ns.length := List.length_pos_iff.mpr hn
      have hp' : (0 : Int) < (ns.length : Int) := by omega
      have hp2 : (ns.length : Int) < 1073741824 := by omega
      simp only [hn, decide_false, Bool.false_eq_true, if_false, hp', hp2, decide_true, Bool.and_self, Z.if_true, Z.ok_bind']
      have hm : ((j : Int) % (ns.length : Int)) = ((j % ns.length : Nat) : Int) := (Int.natCast_emod j ns.length).symm
      have lt : j % ns.length < ns.length := Nat.mod_lt _ hp
      rw [hm, atI_getD lt]
      simp only [Z.opt_some, Z.ok_so, Z.ok_bind']
      have hq : ((j : Int) / (ns.length : Int)) = ((j / ns.length : Nat) : Int) := (Int.natCast_ediv j ns.length).symm
      rw [hq]
      clear hq
      generalize j / ns.length = q
      rw [rangeOk_of (by omega) (by omega) (by split <;> omega) (by split <;> omega)]
      simp only [Z.if_true, Z.ok_so]
      obtain ⟨e, _⟩ := Y.for_fold (W := Unit) (ρ := Int) (body := fun (s5 : Int) (e6 : Int) => Y.nx (s5 / 1000003)) (step := fun (s5 : Int) (e6 : Int) => s5 / 1000003) (fun _ => True) (xs := rangeZ 0 (if (60 : Int) < ((q : Nat) : Int) then 60 else ((q : Nat) : Int))) (s := ns.getD (j % ns.length) 0) trivial fun s _ x _ => ⟨rfl, trivial⟩
      rw [e]
      exact ⟨_, rfl⟩
theorem mixed_ok {ns : List Int} (j : Nat) {many : Int} (hl : ns.length ≤ 63) (hm : 0 < many) : ∃ v, m__law_mixed ns (j : Int) many = .ok v ∧ 0 ≤ v ∧ v < many := by
  unfold m__law_mixed
  obtain ⟨z, hz⟩ := cell_at_ok j hl
  rw [hz]
  simp only [Z.lift_ok, Z.ok_bind', Z.ok_so]
  have q0 : 0 ≤ (z * 1103515245 + 7919 * j + 12345) % 2147483647 := Int.emod_nonneg _ (by decide)
  have q1 : (z * 1103515245 + 7919 * j + 12345) % 2147483647 < 2147483647 := Int.emod_lt_of_pos _ (by decide)
  generalize (z * 1103515245 + 7919 * j + 12345) % 2147483647 = y at q0 q1
  have pw : (decide ((0 : Int) ≤ 5) && decide ((5 : Int) ≤ 1000000) && decide (y.natAbs < 2 ^ 64)) = true := by
    have : y.natAbs < 2 ^ 64 := by omega
    simp [this]
  rw [pw, decide_eq_true hm]
  simp only [Z.if_true, Z.ok_bind', Z.ok_so]
  exact ⟨_, rfl, Int.emod_nonneg _ (by omega), Int.emod_lt_of_pos _ hm⟩
theorem draw_ok {ns : List Int} {u : Unit} {many : Int} (hl : ns.length ≤ 63) (hm : 0 < many) : Ok (m__law_draw ns u many) 1 fun v => 0 ≤ v ∧ v < many := fun t ht => by
  unfold m__law_draw
  rw [fits_of (by omega)]
  obtain ⟨v, e, h⟩ := mixed_ok (t + 1) hl hm
  simp only [if_true]
  rw [e]
  exact ⟨v, t + 1, rfl, by omega, h⟩
/-- some + a draw -/
theorem draw1_ok {ns : List Int} {u : Unit} {many : Int} (hl : ns.length ≤ 63) (hm : 0 < many) : Ok ((m__law_draw ns u many).bind fun x => Z.ok ((1 : Int) + x)) 1 fun v => 1 ≤ v ∧ v ≤ many := (Ok.bind (draw_ok hl hm) fun a h => Ok.ok (P := fun v => 1 ≤ v ∧ v ≤ many) (by omega)).mono (by omega) fun _ h => h
theorem by_ok {ns : List Int} {u : Unit} (hl : ns.length ≤ 63) : Ok (((m__law_draw ns u 2).bind fun x => Z.ok ((2 : Int) * x)).bind fun x => Z.ok (x - (1 : Int))) 1 fun v => v = 1 ∨ v = -1 :=
  (Ok.bind (Ok.bind (draw_ok hl (by decide)) fun a h => Ok.ok (P := fun v => v = 0 ∨ v = 2) (by omega)) fun a h => Ok.ok (P := fun v => v = 1 ∨ v = -1) (by omega)).mono (by omega) fun _ h => h
theorem pick_ok {ns : List Int} {u : Unit} {xs : List Int} (hl : ns.length ≤ 63) (hx : xs ≠ []) : Ok (m__law_pick ns u xs) 1 fun v => v ∈ xs := by
  unfold m__law_pick
  have hp : 0 < xs.length := List.length_pos_iff.mpr hx
  refine (OkY.fin (P := fun _ => True) (Ok.so (B := 1) (C := 0) (P := fun v => v ∈ xs) ?_ fun a h => OkY.rt h)).mono (by omega) fun _ h => h
  refine (Ok.bind (C := 0) (draw_ok hl (by omega)) fun v h => ?_).mono (by omega) fun _ h => h
  obtain ⟨j, rfl⟩ : ∃ j : Nat, v = j := ⟨v.toNat, by omega⟩
  have hj : j < xs.length := by omega
  rw [atI_getD hj]
  exact Ok.ok (getD_mem hj)
end SS
/- SP8 -/
set_option linter.all false
set_option maxRecDepth 100000
/-! Plain part: random tables. -/
namespace SS
open PySem L2
/-- a table of size n -/
def Tb (n : Nat) (T : List (List Int)) : Prop := ∃ R, SL n R ∧ T = unL R
/-! ### a change of one cell -/
def setCell (R : List (List Int)) (i j : Nat) (x : Int) : List (List Int) := R.set i ((R.getD i []).set j x)
theorem ixN_nat {n i : Nat} (h : i < n) : L2.ixN n (i : Int) = some i := by
  unfold L2.ixN
  rw [if_pos (Int.natCast_nonneg i), if_pos (by omega)]
  simp
theorem Grid.set {n : Nat} {R : List (List Int)} {i j : Nat} {x : Int} (g : Grid n R) (hi : i < n) : Grid n (setCell R i j x) := by
  unfold setCell
  refine ⟨by rw [List.length_set]; exact g.len, fun r hr => ?_⟩
  rcases List.mem_or_eq_of_mem_set hr with h | rfl
  · exact g.row r h
  · rw [List.length_set]
    exact (g.row_at hi).2
theorem cell_set {n : Nat} {R : List (List Int)} {i j : Nat} {x : Int} (g : Grid n R) (hi : i < n) (hj : j < n) : ∀ a b, a < n → b < n → cell (setCell R i j x) a b = if a = i ∧ b = j then x else cell R a b := by
  intro a b ha hb
  have hi' : i < R.length := by rw [g.len]; exact hi
  have ha' : a < R.length := by rw [g.len]; exact ha
  unfold cell setCell
  by_cases h : a = i
  · subst h
    have l := (g.row_at hi).2
    rw [getD_of (xs := R.set a _) (by rw [List.length_set]; exact ha')]
    rw [List.getElem_set_self]
    by_cases h2 : b = j
    · subst h2
      rw [getD_of (by rw [List.length_set, l]; exact hb), List.getElem_set_self]
      simp
    · have hbl : b < (R.getD a []).length := by rw [l]; exact hb
      rw [getD_of (by rw [List.length_set, l]; exact hb), List.getElem_set_ne (fun e => h2 e.symm), getD_of hbl]
      simp [h2]
  · rw [getD_of (xs := R.set i _) (by rw [List.length_set]; exact ha'), List.getElem_set_ne (fun e => h e.symm), getD_of (xs := R) ha']
    simp [h]
theorem inc_eq {n : Nat} {R : List (List Int)} {i j : Nat} {k : Int} (g : Grid n R) (hi : i < n) (hj : j < n) : incZ2 R (i : Int) (j : Int) k = some (setCell R i j (cell R i j + k)) := by
  unfold incZ2
  obtain ⟨h1, h2⟩ := g.row_at hi
  rw [g.len, ixN_nat hi]
  simp only
  rw [h1]
  simp only [Option.bind_some]
  unfold incZ
  rw [h2, ixN_nat hj]
  simp only
  have : j < (R.getD i []).length := by rw [h2]; exact hj
  rw [List.getElem?_eq_getElem this]
  simp only [Option.map_some]
  unfold setCell
  rw [cell_row, getD_of this]
theorem inc_back {n : Nat} {R : List (List Int)} {i j : Nat} {k : Int} (g : Grid n R) (hi : i < n) (hj : j < n) : incZ2 (setCell R i j (cell R i j + k)) (i : Int) (j : Int) (-k) = some R := by
  have g1 : Grid n (setCell R i j (cell R i j + k)) := g.set hi
  rw [inc_eq g1 hi hj]
  congr 1
  refine grid_ext (g1.set hi) g fun a b ha hb => ?_
  rw [cell_set g1 hi hj a b ha hb, cell_set g hi hj a b ha hb, cell_set g hi hj i j hi hj]
  by_cases h : a = i ∧ b = j
  · obtain ⟨rfl, rfl⟩ := h
    simp
    omega
  · simp [h]
/-! ### the loops -/
section
variable {ns : List Int} {u : Unit}
theorem change_ok {ρ : Type} {n : Nat} {Q : ρ → Prop} {body : List (List Int) → Int → Y Nat (List (List Int)) ρ} (hl : ns.length ≤ 63) (hn : 1 < n) (h5 : n ≤ 5)
    (hb : ∀ s e, body s e = Z.so ((m__law_draw ns u ((n : Int) - (1 : Int))).bind fun x18 => Z.ok ((1 : Int) + x18)) fun i20 =>
      Z.so ((m__law_draw ns u ((n : Int) - (1 : Int))).bind fun x19 => Z.ok ((1 : Int) + x19)) fun j21 =>
      Z.so (((m__law_draw ns u (2 : Int)).bind fun x22 => Z.ok ((2 : Int) * x22)).bind fun x23 => Z.ok (x23 - (1 : Int))) fun by24 =>
      Z.so (Z.opt (incZ2 s i20 j21 (by24))) fun rows25 =>
      Y.then (Z.so ((Z.lift (m__law_sum_like_2 rows25)).bind fun x26 => Z.ok (!x26)) fun k => if k then (Z.so (Z.opt (incZ2 rows25 i20 j21 (-by24))) fun rows28 =>
        Y.nx (rows28)) else (Y.nx (rows25))) fun s27 =>
      Y.nx (s27)) : ∀ s, SL n s → ∀ e, OkY (body s e) 3 (SL n) Q := by
  intro R s e
  rw [hb]
  refine OkY.mono (Ok.so (draw1_ok hl (by omega)) fun i hi => Ok.so (draw1_ok hl (by omega)) fun j hj => Ok.so (by_ok hl) fun k hk => (?_ : OkY _ 0 (SL n) Q)) (by omega) (fun _ h => h) fun _ h => h
  obtain ⟨i, rfl⟩ : ∃ a : Nat, i = a := ⟨i.toNat, by omega⟩
  obtain ⟨j, rfl⟩ : ∃ a : Nat, j = a := ⟨j.toNat, by omega⟩
  have hi' : i < n + 1 := by omega
  have hj' : j < n + 1 := by omega
  rw [inc_eq s.g hi' hj']
  have g1 : Grid (n + 1) (setCell R i j (cell R i j + k)) := s.g.set hi'
  simp only [Z.opt_some, Z.ok_so, sum_like2_eq, sum_like_eq g1 (by omega), Z.lift_ok, Z.ok_bind']
  rcases Bool.eq_false_or_eq_true (sumLike n (setCell R i j (cell R i j + k))) with h | h
  · simp only [h, Bool.not_true, Bool.false_eq_true, if_false, Y.nx_then]
    exact OkY.nx ((SL_iff g1).mp h)
  · simp only [h, Bool.not_false, if_true, inc_back s.g hi' hj', Z.opt_some, Z.ok_so, Y.nx_then]
    exact OkY.nx s
def unitRow (n : Nat) (x : Int) : List Int := (rangeZ 0 (n : Int)).map fun e => if decide (e = x) then (1 : Int) else 0
def picksI : Nat → List Int → List (List Int)
  | 0, _ => [[]]
  | k + 1, left => left.flatMap fun x => (picksI k (left.erase x)).map (x :: ·)
theorem picks_ok {ρ : Type} {n : Nat} {Q : ρ → Prop} {body : List Int × List (List Int) → Int → Y Nat (List Int × List (List Int)) ρ} (hl : ns.length ≤ 63) (h5 : n ≤ 5)
    (hb : ∀ s e, body s e = Z.so (m__law_pick ns u s.1) fun one7 =>
    Z.so (Z.ok (one7)) fun y => Z.so (Z.if (decide (y ∈ s.1)) (s.1.erase y)) fun left8 =>
    Z.so ((Z.if (rangeOk 0 (n : Int)) (rangeZ 0 (n : Int))).bind fun x11 => Z.fits ((x11).map fun (e10 : Int) => if (decide (e10 = one7)) then (1 : Int) else (0 : Int))) fun y => Z.so (Z.fits (s.2 ++ [y])) fun made9 =>
    Y.nx (left8, made9)) : ∀ (xs : List Int) (left : List Int) (made : List (List Int)), left.length = xs.length → made.length + xs.length ≤ 100 → OkY (Y.for body xs (left, made)) xs.length (fun s => ∃ c ∈ picksI xs.length left, s.2 = made ++ c.map (unitRow n)) Q
  | [], left, made, _, _ => OkY.mono (OkY.nx ⟨[], by simp [picksI], by simp⟩) (by simp) (fun _ h => h) fun _ h => h
  | x :: xs, left, made, h, hm => by
    simp only [List.length_cons] at h hm
    rw [Y.for_cons, hb]
    refine OkY.mono (OkY.then (B := 1) (C := xs.length) (P := fun s => ∃ y ∈ left, s = (left.erase y, made ++ [unitRow n y])) ?_ fun s hs => ?_) (by rw [List.length_cons]; omega) (fun _ h => h) fun _ h => h
    · refine Ok.so (B := 1) (C := 0) (pick_ok hl (by intro e; rw [show left = [] from e] at h; simp at h)) fun y hy => ?_
      simp only [Z.ok_so, hy, decide_true, Z.if_true]
      rw [rangeOk_of (by omega) (by omega) (by omega) (by omega)]
      simp only [Z.if_true, Z.ok_bind']
      rw [Z.fits_ok (by rw [rangeZ_nat]; simp; omega)]
      simp only [Z.ok_so]
      rw [Z.fits_ok (by simp; omega)]
      simp only [Z.ok_so]
      exact OkY.nx ⟨y, hy, rfl⟩
    · obtain ⟨y, hy, rfl⟩ := hs
      refine OkY.mono (picks_ok hl h5 hb xs _ _ ?_ ?_) (Nat.le_refl _) ?_ fun _ h => h
      · rw [List.length_erase_of_mem hy]; omega
      · simp; omega
      · rintro s ⟨c, hc, e⟩
        refine ⟨y :: c, ?_, ?_⟩
        · simp only [List.length_cons, picksI, List.mem_flatMap]
          exact ⟨y, hy, List.mem_map.mpr ⟨c, hc, rfl⟩⟩
        · rw [e]; simp
end
def permsOk (n : Nat) : Bool := (picksI n (rangeZ 0 (n : Int))).all fun c => let T := c.map (unitRow n); decide (T.length = n) && (T.all fun r => decide (r.length = n)) && sumLike n (sumsP T)
theorem perms_ok : ((List.range 6).all fun n => permsOk n) = true := by decide +kernel
theorem grid_sums {n : Nat} {T : List (List Int)} (s : Sqr n T) : Grid (n + 1) (sumsP T) := by
  rw [← corners_sums s.len s.row]
  unfold cornersP
  exact ⟨by simp, fun r hr => by
    obtain ⟨i, _, rfl⟩ := List.mem_map.mp hr
    simp⟩
theorem unL_sumsP {n : Nat} {T : List (List Int)} (s : Sqr n T) : unL (sumsP T) = T := by
  unfold sumsP
  rw [s.len]
  exact unL_sums T _ s.row (by simp [zeros])
theorem perm_tab {n : Nat} (h5 : n ≤ 5) {c : List Int} (hc : c ∈ picksI n (rangeZ 0 (n : Int))) : Sqr n (c.map (unitRow n)) ∧ SL n (sumsP (c.map (unitRow n))) := by
  have h := List.all_eq_true.mp perms_ok n (List.mem_range.mpr (by omega))
  have h := List.all_eq_true.mp h c hc
  simp only [Bool.and_eq_true, decide_eq_true_eq, List.all_eq_true] at h
  have s : Sqr n (c.map (unitRow n)) := ⟨h.1.1, fun r hr => h.1.2 r hr⟩
  exact ⟨s, (SL_iff (grid_sums s)).mp h.2⟩
theorem some_table_ok {ns : List Int} {u : Unit} {most : Int} (hl : ns.length ≤ 63) (h0 : 0 < most) (h5 : most ≤ 5) : Ok (m__law_some_table ns u most) 100 fun T => ∃ n : Nat, 1 ≤ n ∧ (n : Int) ≤ most ∧ Tb n T := by
  unfold m__law_some_table
  refine (OkY.fin (P := fun _ => True) (Ok.so (draw1_ok hl h0) fun n2 hn2 => (?_ : OkY _ 99 _ _))).mono (by omega) fun _ h => h
  obtain ⟨n, rfl⟩ : ∃ a : Nat, n2 = a := ⟨n2.toNat, by omega⟩
  have hn1 : 1 ≤ n := by omega
  have hn5 : n ≤ 5 := by omega
  have r1 : rangeOk 0 (n : Int) = true := rangeOk_of (by omega) (by omega) (by omega) (by omega)
  have r2 : rangeOk 0 (3 * (n : Int)) = true := rangeOk_of (by omega) (by omega) (by omega) (by omega)
  have lr : (rangeZ 0 (n : Int)).length = n := by rw [rangeZ_nat]; simp
  have lr3 : (rangeZ 0 (3 * (n : Int))).length = 3 * n := by
    have := rangeZ_nat (3 * n)
    rw [show ((3 * n : Nat) : Int) = 3 * (n : Int) from by omega] at this
    rw [this]; simp
  rw [r1, r2]
  simp only [Z.if_true, Z.ok_so]
  refine OkY.mono (OkY.then (C := 45) (picks_ok (u := u) (n := n) hl hn5 (fun _ _ => by simp only [r1, Z.if_true, Z.ok_so]) _ _ _ rfl (by simp [lr]; omega)) fun s hs => ?_) (by rw [lr]; omega) (fun _ h => h) fun _ h => h
  obtain ⟨c, hc, e⟩ := hs
  rw [lr] at hc
  obtain ⟨sq, sl⟩ := perm_tab hn5 hc
  simp only [List.nil_append] at e
  rw [e, corners_eq sq.len sq.row (by omega)]
  simp only [Z.lift_ok, Z.ok_bind']
  rw [Z.fits_ok (by rw [sl.g.len]; omega)]
  simp only [Z.ok_so]
  have fin : ∀ R, SL n R → OkY (Z.so (Z.lift (m__law_uncorner_2 R)) fun x => Y.rt x : Y Nat Empty (List (List Int))) 0 (fun _ => True) fun T => ∃ n : Nat, 1 ≤ n ∧ (n : Int) ≤ most ∧ Tb n T := by
    intro R s
    rw [uncorner2_eq, uncorner_eq s.g (by omega)]
    simp only [Z.lift_ok, Z.ok_so]
    exact OkY.rt ⟨n, hn1, by omega, R, s, rfl⟩
  refine OkY.mono (OkY.then (B := 45) (P := SL n) ?_ fun R s => fin R s) (by omega) (fun _ h => h) fun _ h => h
  by_cases h1 : (1 : Int) < n
  · simp only [h1, decide_true, if_true]
    refine OkY.mono (OkY.then (C := 0) (OkY.for' (N := 15) (B := 3) (I := SL n) sl (by rw [lr3]; omega) fun s hs x _ => change_ok (u := u) hl (by omega) hn5 (fun _ _ => rfl) s hs x) fun s hs => OkY.nx hs) (by omega) (fun _ h => h) fun _ h => h
  · simp only [h1, decide_false, Bool.false_eq_true, if_false]
    exact OkY.mono (OkY.nx sl) (by omega) (fun _ h => h) fun _ h => h
theorem same_size_ok {ns : List Int} {u : Unit} {n : Nat} {T : List (List Int)} (hl : ns.length ≤ 63) (hn1 : 1 ≤ n) (hn5 : n ≤ 5) (hT : Tb n T) : Ok (m__law_same_size ns u T) 100 (Tb n) := by
  obtain ⟨R, s, rfl⟩ := hT
  have sq := Sqr_unL s.g
  unfold m__law_same_size
  rw [sq.len]
  simp only [Z.ok_so]
  have r1 : rangeOk 0 (n : Int) = true := rangeOk_of (by omega) (by omega) (by omega) (by omega)
  have lr : (rangeZ 0 (n : Int)).length = n := by rw [rangeZ_nat]; simp
  refine (OkY.fin (P := fun _ => True) (Ok.so (B := 1) (C := 99) (P := fun b => b = true → 1 < n) ?_ fun b hb => ?_)).mono (by omega) fun _ h => h
  · by_cases h : (1 : Int) < n
    · simp only [h, decide_true, if_true]
      exact (Ok.bind (C := 0) (draw_ok hl (by decide)) fun a _ => Ok.ok (fun _ => by omega)).mono (by omega) fun _ h => h
    · simp only [h, decide_false, Bool.false_eq_true, if_false]
      exact (Ok.ok (by simp)).mono (by omega) fun _ h => h
  · cases b with
    | true =>
      have hn := hb rfl
      simp only [if_true]
      rw [corners_eq sq.len sq.row (by omega), s.sums]
      simp only [Z.lift_ok, Z.ok_bind']
      rw [Z.fits_ok (by rw [s.g.len]; omega)]
      simp only [Z.ok_so]
      refine OkY.all (P := fun _ => True) ?_
      refine OkY.mono (OkY.then (B := 50) (C := 0) (P := SL n) ?_ fun R s => ?_) (by omega) (fun _ h => h) fun _ h => h
      · refine OkY.mono (Ok.so (B := 1) (C := 27) (P := fun xs : List Int => xs.length ≤ 9) ?_ fun xs hxs => ?_) (by omega) (fun _ h => h) fun _ h => h
        · refine (Ok.bind (C := 0) (draw1_ok hl (by decide)) fun v hv => ?_).mono (by omega) fun _ h => h
          obtain ⟨a, rfl⟩ : ∃ a : Nat, v = a := ⟨v.toNat, by omega⟩
          rw [rangeOk_of (by omega) (by omega) (by omega) (by omega), rangeZ_nat]
          exact Ok.ok (by simp; omega)
        · exact OkY.mono (OkY.for' (N := 9) (B := 3) (I := SL n) s hxs fun s hs x _ => change_ok (u := u) hl hn hn5 (fun _ _ => rfl) s hs x) (by omega) (fun _ h => h) fun _ h => h
      · rw [uncorner2_eq, uncorner_eq s.g (by omega)]
        simp only [Z.lift_ok, Z.ok_so]
        exact OkY.rt ⟨R, s, rfl⟩
    | false =>
      simp only [Bool.false_eq_true, if_false]
      rw [r1]
      simp only [Z.if_true, Z.ok_so]
      refine OkY.mono (OkY.then (C := 0) (picks_ok (u := u) (n := n) hl hn5 (fun _ _ => by simp only [r1, Z.if_true, Z.ok_so]) _ _ _ rfl (by simp [lr]; omega)) fun s hs => ?_) (by rw [lr]; omega) (fun _ h => h) fun _ h => h
      obtain ⟨c, hc, e⟩ := hs
      rw [lr] at hc
      obtain ⟨sq, sl⟩ := perm_tab hn5 hc
      simp only [List.nil_append] at e
      rw [e]
      exact OkY.rt ⟨_, sl, (unL_sumsP sq).symm⟩
end SS
/- SP9 -/
set_option linter.all false
set_option maxRecDepth 100000
/-! Plain part: the program's functions on tables. -/
namespace SS
open PySem L2
def mkG (n : Nat) (f : Nat → Nat → Int) : List (List Int) := (List.range (n + 1)).map fun i => (List.range (n + 1)).map fun j => f i j
theorem grid_mkG (n : Nat) (f : Nat → Nat → Int) : Grid (n + 1) (mkG n f) := ⟨by simp [mkG], fun r hr => by
  obtain ⟨i, _, rfl⟩ := List.mem_map.mp hr
  simp⟩
theorem cell_mkG {n : Nat} {f : Nat → Nat → Int} {i j : Nat} (hi : i ≤ n) (hj : j ≤ n) : cell (mkG n f) i j = f i j := by
  have h1 : i < n + 1 := by omega
  have h2 : j < n + 1 := by omega
  unfold cell mkG
  simp [List.getD, h1, h2]
/-- sum-like, by a function -/
structure SF (n : Nat) (f : Nat → Nat → Int) : Prop where
  top : ∀ j, j ≤ n → f 0 j = 0
  left : ∀ i, i ≤ n → f i 0 = 0
  bot : ∀ j, j ≤ n → f n j = j
  right : ∀ i, i ≤ n → f i n = i
  h : ∀ i j, i ≤ n → j < n → is01 (f i (j + 1) - f i j)
  v : ∀ i j, i < n → j ≤ n → is01 (f (i + 1) j - f i j)
theorem SL.sf {n : Nat} {R : List (List Int)} (s : SL n R) : SF n (cell R) := ⟨s.top, s.left, s.bot, s.right, s.h, s.v⟩
theorem SF.sl {n : Nat} {f : Nat → Nat → Int} (s : SF n f) : SL n (mkG n f) := by
  refine ⟨grid_mkG n f, fun j hj => ?_, fun j hj => ?_, fun j hj => ?_, fun j hj => ?_, fun i j hi hj => ?_, fun i j hi hj => ?_⟩
  · rw [cell_mkG (by omega) hj]; exact s.top j hj
  · rw [cell_mkG hj (by omega)]; exact s.left j hj
  · rw [cell_mkG (by omega) hj]; exact s.bot j hj
  · rw [cell_mkG hj (by omega)]; exact s.right j hj
  · rw [cell_mkG hi (by omega), cell_mkG hi (by omega)]; exact s.h i j hi hj
  · rw [cell_mkG (by omega) hj, cell_mkG (by omega) hj]; exact s.v i j hi hj
/-! ### tables -/
section
variable {n : Nat} {T T' : List (List Int)}
theorem Tb.sq (h : Tb n T) : Sqr n T := by
  obtain ⟨R, s, rfl⟩ := h
  exact Sqr_unL s.g
theorem Tb.sl (h : Tb n T) : SL n (sumsP T) := by
  obtain ⟨R, s, rfl⟩ := h
  rw [s.sums]
  exact s
theorem Tb.un (h : Tb n T) : unL (sumsP T) = T := unL_sumsP h.sq
theorem Tb.of (s : SL n (sumsP T)) (q : Sqr n T) : Tb n T := ⟨_, s, (unL_sumsP q).symm⟩
theorem SL.tb {R : List (List Int)} (s : SL n R) : Tb n (unL R) := ⟨R, s, rfl⟩
theorem SL.inj {R R' : List (List Int)} (s : SL n R) (s' : SL n R') (h : unL R = unL R') : R = R' := by rw [← s.sums, h, s'.sums]
theorem Tb.ent (h : Tb n T) : Ent T := by
  have := h.sl.ent
  rwa [h.un] at this
theorem Tb.isTab (h : Tb n T) (h1 : 1 ≤ n) : SS.isTab n T = true := by
  have := h.sl.tab h1
  rwa [h.un] at this
theorem Tb.is_table (h : Tb n T) (h1 : 1 ≤ n) (h5 : n ≤ 5) : m_is_table T = .ok true := by rw [is_table_eq h.sq h.ent h1 h5, h.isTab h1]
theorem Tb.good (h : Tb n T) (h1 : 1 ≤ n) (h5 : n ≤ 5) : m__law_good T = .ok true := by rw [good_eq h.sq (by omega), isTab_good h.sq h.ent h5, h.isTab h1]
theorem Tb.check (h : Tb n T) (h1 : 1 ≤ n) (h5 : n ≤ 5) : m_check_table T = .ok () := by
  unfold m_check_table
  rw [h.is_table h1 h5]
  simp
theorem Tb.check2 (h : Tb n T) (h' : Tb n T') (h1 : 1 ≤ n) (h5 : n ≤ 5) : m_check_two T T' = .ok () := by
  unfold m_check_two
  rw [h.check h1 h5, h'.check h1 h5, h.sq.len, h'.sq.len]
  simp
theorem Tb.sums (h : Tb n T) (h5 : n ≤ 5) : m_sums_of T = .ok (sumsP T) := sums_of_eq h.sq.len h.sq.row (by omega)
theorem Tb.corners (h : Tb n T) (h5 : n ≤ 5) : m__law_corners T = .ok (sumsP T) := corners_eq h.sq.len h.sq.row (by omega)
theorem Tb.csums (h : Tb n T) (h1 : 1 ≤ n) (h5 : n ≤ 5) : m_corner_sums T = .ok (sumsP T) := by
  unfold m_corner_sums
  rw [h.check h1 h5, h.sums h5]
  simp
end
/-! ### cells of a table -/
theorem sqr_ext {n : Nat} {T T' : List (List Int)} (g : Sqr n T) (g' : Sqr n T') (h : ∀ i j, i < n → j < n → cell T i j = cell T' i j) : T = T' := grid_ext ⟨g.len, g.row⟩ ⟨g'.len, g'.row⟩ h
theorem Sqr.grid {n : Nat} {T : List (List Int)} (s : Sqr n T) : Grid n T := ⟨s.len, s.row⟩
def mkT (n : Nat) (f : Nat → Nat → Int) : List (List Int) := (List.range n).map fun i => (List.range n).map fun j => f i j
theorem sqr_mkT (n : Nat) (f : Nat → Nat → Int) : Sqr n (mkT n f) := ⟨by simp [mkT], fun r hr => by
  obtain ⟨i, _, rfl⟩ := List.mem_map.mp hr
  simp⟩
theorem cell_mkT {n : Nat} {f : Nat → Nat → Int} {i j : Nat} (h1 : i < n) (h2 : j < n) : cell (mkT n f) i j = f i j := by
  unfold cell mkT
  simp [List.getD, h1, h2]
theorem Sqr.eqT {n : Nat} {T : List (List Int)} (s : Sqr n T) : T = mkT n (cell T) := sqr_ext s (sqr_mkT _ _) fun i j hi hj => (cell_mkT hi hj).symm
theorem cols_mk {n : Nat} {T : List (List Int)} (s : Sqr n T) : colsP n T = mkT n fun i j => cell T j i := by
  have q : Sqr n (colsP n T) := ⟨by simp [colsP], fun r hr => by
    obtain ⟨i, _, rfl⟩ := List.mem_map.mp hr
    simp [s.len]⟩
  refine sqr_ext q (sqr_mkT _ _) fun i j hi hj => ?_
  rw [cell_mkT hi hj]
  have hj' : j < T.length := by rw [s.len]; exact hj
  unfold cell colsP
  simp [List.getD, hi, hj']
theorem Sqr.getRow {n : Nat} {T : List (List Int)} (s : Sqr n T) {i : Nat} (hi : i < n) : (T.getD i []).length = n := (s.grid.row_at hi).2
theorem mir_mk {n : Nat} {T : List (List Int)} (s : Sqr n T) : T.map List.reverse = mkT n fun i j => cell T i (n - 1 - j) := by
  have q : Sqr n (T.map List.reverse) := ⟨by simp [s.len], fun r hr => by
    obtain ⟨i, h, rfl⟩ := List.mem_map.mp hr
    simp [s.row i h]⟩
  refine sqr_ext q (sqr_mkT _ _) fun i j hi hj => ?_
  rw [cell_mkT hi hj]
  have hi' : i < T.length := by rw [s.len]; exact hi
  have l := s.getRow hi
  unfold cell
  rw [getD_of (xs := T.map List.reverse) (by simp; exact hi'), getD_of hi'] at *
  simp only [List.getElem_map]
  have l : T[i].length = n := s.row _ (List.getElem_mem hi')
  rw [getD_of (by simp [l]; exact hj), getD_of (by omega)]
  simp [l]
theorem rev_mk {n : Nat} {T : List (List Int)} (s : Sqr n T) : T.reverse = mkT n fun i j => cell T (n - 1 - i) j := by
  have q : Sqr n T.reverse := ⟨by simp [s.len], fun r hr => s.row r (by simpa using hr)⟩
  refine sqr_ext q (sqr_mkT _ _) fun i j hi hj => ?_
  rw [cell_mkT hi hj]
  have hi' : i < T.length := by rw [s.len]; exact hi
  unfold cell
  rw [getD_of (xs := T.reverse) (by simp; exact hi'), getD_of (xs := T) (by rw [s.len]; omega)]
  simp [s.len]
theorem unL_mk {n : Nat} {R : List (List Int)} (g : Grid (n + 1) R) : unL R = mkT n fun i j => (cell R (i + 1) (j + 1) - cell R i (j + 1)) - (cell R (i + 1) j - cell R i j) :=
  sqr_ext (Sqr_unL g) (sqr_mkT _ _) fun i j hi hj => by rw [cell_unL g hi hj, cell_mkT hi hj]
theorem unL_mkG {n : Nat} {f : Nat → Nat → Int} : unL (mkG n f) = mkT n fun i j => (f (i + 1) (j + 1) - f i (j + 1)) - (f (i + 1) j - f i j) :=
  sqr_ext (Sqr_unL (grid_mkG n f)) (sqr_mkT _ _) fun i j hi hj => by
    rw [cell_unL (grid_mkG n f) hi hj, cell_mkT hi hj, cell_mkG (by omega) (by omega), cell_mkG (by omega) (by omega), cell_mkG (by omega) (by omega), cell_mkG (by omega) (by omega)]
theorem mkT_congr {n : Nat} {f g : Nat → Nat → Int} (h : ∀ i j, i < n → j < n → f i j = g i j) : mkT n f = mkT n g := sqr_ext (sqr_mkT _ _) (sqr_mkT _ _) fun i j hi hj => by rw [cell_mkT hi hj, cell_mkT hi hj, h i j hi hj]
theorem mkG_congr {n : Nat} {f g : Nat → Nat → Int} (h : ∀ i j, i ≤ n → j ≤ n → f i j = g i j) : mkG n f = mkG n g := grid_ext (grid_mkG _ _) (grid_mkG _ _) fun i j hi hj => by rw [cell_mkG (by omega) (by omega), cell_mkG (by omega) (by omega), h i j (by omega) (by omega)]
theorem Grid.eqG {n : Nat} {R : List (List Int)} (g : Grid (n + 1) R) : R = mkG n (cell R) := grid_ext g (grid_mkG _ _) fun i j hi hj => (cell_mkG (by omega) (by omega)).symm
/-- the entries of a table by its corner sums -/
theorem Tb.cell {n : Nat} {T : List (List Int)} (h : Tb n T) {i j : Nat} (hi : i < n) (hj : j < n) : SS.cell T i j = (SS.cell (sumsP T) (i + 1) (j + 1) - SS.cell (sumsP T) i (j + 1)) - (SS.cell (sumsP T) (i + 1) j - SS.cell (sumsP T) i j) := by
  have := cell_unL h.sl.g hi hj
  rwa [h.un] at this
/-! ### pairs of grids -/
theorem zip_rows {n : Nat} {R R' : List (List Int)} (g : Grid (n + 1) R) (g' : Grid (n + 1) R') : R.zip R' = (List.range (n + 1)).map fun i => (R.getD i [], R'.getD i []) := by
  refine List.ext_getElem (by simp [g.len, g'.len]) fun i h1 h2 => ?_
  have hi : i < n + 1 := by simpa using h2
  have a : i < R.length := by rw [g.len]; exact hi
  have b : i < R'.length := by rw [g'.len]; exact hi
  simp [List.getD, a, b]
theorem zip_row {n : Nat} {r r' : List Int} (g : r.length = n + 1) (g' : r'.length = n + 1) : r.zip r' = (List.range (n + 1)).map fun i => (r.getD i 0, r'.getD i 0) := by
  refine List.ext_getElem (by simp [g, g']) fun i h1 h2 => ?_
  have hi : i < n + 1 := by simpa using h2
  have a : i < r.length := by rw [g]; exact hi
  have b : i < r'.length := by rw [g']; exact hi
  simp [List.getD, a, b]
def belowB (n : Nat) (R R' : List (List Int)) : Bool := (List.range (n + 1)).all fun i => (List.range (n + 1)).all fun j => decide (cell R' i j ≤ cell R i j)
theorem belowB_iff {n : Nat} {R R' : List (List Int)} : belowB n R R' = true ↔ ∀ i j, i ≤ n → j ≤ n → cell R' i j ≤ cell R i j := by
  unfold belowB
  simp only [List.all_eq_true, decide_eq_true_eq, List.mem_range]
  exact ⟨fun h i j hi hj => h i (by omega) j (by omega), fun h i hi j hj => h i j (by omega) (by omega)⟩
def absD (a b : Int) : Int := if b - a > a - b then b - a else a - b
def apartZ (n : Nat) (R R' : List (List Int)) : Int := ((List.range (n + 1)).map fun i => ((List.range (n + 1)).map fun j => absD (cell R i j) (cell R' i j)).sum).sum
theorem foldl_sum {α : Type} (f : α → Int) : ∀ (xs : List α) (t : Int), xs.foldl (fun s x => s + f x) t = t + (xs.map f).sum
  | [], t => by simp
  | x :: xs, t => by rw [List.foldl_cons, foldl_sum f xs, List.map_cons, List.sum_cons, Int.add_assoc]
section
variable {n : Nat} {T T' : List (List Int)}
theorem below_eq (h : Tb n T) (h' : Tb n T') (h1 : 1 ≤ n) (h5 : n ≤ 5) : m_below T T' = .ok (belowB n (sumsP T) (sumsP T')) := by
  unfold m_below
  rw [h.sums h5, h'.sums h5]
  simp only [Z.lift_ok, Z.ok_bind', Z.ok_so, Y.rt_all]
  rw [zip_rows h.sl.g h'.sl.g]
  rw [Y.for_all (p := fun e : List Int × List Int => !((e.1.zip e.2).map fun q => decide (q.1 < q.2)).any id) (v := false)]
  · rw [List.all_map]
    have e : (List.range (n + 1)).all ((fun e : List Int × List Int => !((e.1.zip e.2).map fun q => decide (q.1 < q.2)).any id) ∘ fun i => ((sumsP T).getD i [], (sumsP T').getD i [])) = belowB n (sumsP T) (sumsP T') := by
      rw [Bool.eq_iff_iff, belowB_iff, List.all_eq_true]
      have q : ∀ i, i < n + 1 → (((fun e : List Int × List Int => !((e.1.zip e.2).map fun q => decide (q.1 < q.2)).any id) ∘ fun i => ((sumsP T).getD i [], (sumsP T').getD i [])) i = true ↔ ∀ j, j ≤ n → cell (sumsP T') i j ≤ cell (sumsP T) i j) := by
        intro i hi
        simp only [Function.comp]
        rw [zip_row (h.sl.g.row_at hi).2 (h'.sl.g.row_at hi).2]
        simp only [List.map_map, List.any_map, Bool.not_eq_true', List.any_eq_false, List.mem_range, Function.comp, id, decide_eq_true_eq]
        exact ⟨fun q j hj => by have := q j (by omega); unfold cell; omega, fun q j hj => by have := q j (by omega); unfold cell at this; omega⟩
      exact ⟨fun w i j hi hj => (q i (by omega)).mp (w i (List.mem_range.mpr (by omega))) j hj, fun w i hi => (q i (List.mem_range.mp hi)).mpr fun j hj => w i j (by have := List.mem_range.mp hi; omega) hj⟩
    rw [e]
    rcases Bool.eq_false_or_eq_true (belowB n (sumsP T) (sumsP T')) with w | w <;> simp only [w, if_true, Bool.false_eq_true, if_false, Y.nx_then, Y.rt_then, Y.rt_fin, Z.run_ok]
  · intro e he
    obtain ⟨i, hi, rfl⟩ := List.mem_map.mp he
    have hi := List.mem_range.mp hi
    rw [Z.fits_ok (by simp only [List.length_map, List.length_zip, (h.sl.g.row_at hi).2]; omega)]
    simp only [Z.ok_bind', Z.ok_so]
    rcases Bool.eq_false_or_eq_true (List.any (List.map (fun q : Int × Int => decide (q.1 < q.2)) (((sumsP T).getD i []).zip ((sumsP T').getD i []))) id) with w | w <;> simp only [w, Bool.not_true, Bool.not_false, if_true, Bool.false_eq_true, if_false]
theorem is_below_eq (h : Tb n T) (h' : Tb n T') (h1 : 1 ≤ n) (h5 : n ≤ 5) : m_is_below T T' = .ok (belowB n (sumsP T) (sumsP T')) := by
  unfold m_is_below
  rw [h.check2 h' h1 h5, below_eq h h' h1 h5]
  simp
theorem apart_eq (h : Tb n T) (h' : Tb n T') (h5 : n ≤ 5) : m_apart T T' = .ok (apartZ n (sumsP T) (sumsP T')) := by
  unfold m_apart
  rw [h.sums h5, h'.sums h5]
  simp only [Z.lift_ok, Z.ok_bind', Z.ok_so]
  rw [zip_rows h.sl.g h'.sl.g]
  obtain ⟨e, _⟩ := Y.for_fold (W := Unit) (ρ := Int) (body := fun (s4 : Int) (e5 : List Int × List Int) => Z.so ((Z.fits (((List.zip e5.1 e5.2)).map fun (e6 : (Int × Int)) => if (e6.2 - e6.1) > (e6.1 - e6.2) then (e6.2 - e6.1) else (e6.1 - e6.2))).bind fun x7 => Z.ok ((x7).sum)) fun y8 => Y.nx ((s4 + y8))) (step := fun s e => s + ((List.zip e.1 e.2).map fun q => absD q.1 q.2).sum) (fun _ => True) (xs := (List.range (n + 1)).map fun i => ((sumsP T).getD i [], (sumsP T').getD i [])) (s := 0) trivial (fun s _ x hx => by
    obtain ⟨i, hi, rfl⟩ := List.mem_map.mp hx
    have hi := List.mem_range.mp hi
    refine ⟨?_, trivial⟩
    rw [Z.fits_ok (by simp only [List.length_map, List.length_zip, (h.sl.g.row_at hi).2]; omega)]
    rfl)
  rw [e]
  simp only [Y.nx_then, Y.rt_fin, Z.run_ok]
  rw [foldl_sum]
  congr 1
  unfold apartZ
  rw [List.map_map, Int.zero_add]
  congr 1
  apply List.map_congr_left
  intro i hi
  have hi := List.mem_range.mp hi
  simp only [Function.comp]
  rw [zip_row (h.sl.g.row_at hi).2 (h'.sl.g.row_at hi).2, List.map_map]
  rfl
theorem distance_eq (h : Tb n T) (h' : Tb n T') (h1 : 1 ≤ n) (h5 : n ≤ 5) : m_distance T T' = .ok (apartZ n (sumsP T) (sumsP T')) := by
  unfold m_distance
  rw [h.check2 h' h1 h5, apart_eq h h' h5]
  simp
/-! ### turning -/
theorem Tb.mirrored (h : Tb n T) (h1 : 1 ≤ n) (h5 : n ≤ 5) : m_mirrored T = .ok (T.map List.reverse) := by
  unfold m_mirrored
  rw [h.check h1 h5, Z.fits_ok (by simp [h.sq.len]; omega)]
  simp
theorem Tb.exchanged (h : Tb n T) (h1 : 1 ≤ n) (h5 : n ≤ 5) : m_exchanged T = .ok (colsP n T) := by
  unfold m_exchanged
  rw [h.check h1 h5, columns_of_eq h.sq h1 (by omega)]
  simp
theorem Tb.turned (h : Tb n T) (h1 : 1 ≤ n) (h5 : n ≤ 5) : m_turned T = .ok (colsP n T.reverse) := by
  unfold m_turned
  have q : Sqr n T.reverse := ⟨by simp [h.sq.len], fun r hr => h.sq.row r (by simpa using hr)⟩
  rw [h.check h1 h5, columns_of_eq q h1 (by omega)]
  simp
/-- corner sums of the mirrored table -/
theorem mir_tb (h : Tb n T) : Tb n (T.map List.reverse) ∧ sumsP (T.map List.reverse) = mkG n fun i j => (i : Int) - cell (sumsP T) i (n - j) := by
  have s := h.sl
  have sf : SF n fun i j => (i : Int) - SS.cell (sumsP T) i (n - j) := by
    refine ⟨fun j hj => ?_, fun i hi => ?_, fun j hj => ?_, fun i hi => ?_, fun i j hi hj => ?_, fun i j hi hj => ?_⟩
    · have := s.top (n - j) (by omega); simp [this]
    · have := s.right i hi; simp [this]
    · have := s.bot (n - j) (by omega); rw [this]; omega
    · have := s.left i hi; simp [this]
    · have := s.h i (n - (j + 1)) hi (by omega)
      rw [show n - (j + 1) + 1 = n - j from by omega] at this
      unfold is01 at this ⊢
      omega
    · have := s.v i (n - j) hi (by omega)
      unfold is01 at this ⊢
      omega
  have e : T.map List.reverse = unL (mkG n fun i j => (i : Int) - SS.cell (sumsP T) i (n - j)) := by
    rw [mir_mk h.sq, unL_mkG]
    refine mkT_congr fun i j hi hj => ?_
    rw [h.cell hi (by omega)]
    rw [show n - 1 - j + 1 = n - j from by omega, show n - 1 - j = n - (j + 1) from by omega]
    omega
  rw [e]
  exact ⟨sf.sl.tb, sf.sl.sums⟩
theorem cols_tb (h : Tb n T) : Tb n (colsP n T) ∧ sumsP (colsP n T) = mkG n fun i j => cell (sumsP T) j i := by
  have s := h.sl
  have sf : SF n fun i j => SS.cell (sumsP T) j i := ⟨fun j hj => s.left j hj, fun i hi => s.top i hi, fun j hj => s.right j hj, fun i hi => s.bot i hi, fun i j hi hj => s.v j i hj hi, fun i j hi hj => s.h j i hj hi⟩
  have e : colsP n T = unL (mkG n fun i j => SS.cell (sumsP T) j i) := by
    rw [cols_mk h.sq, unL_mkG]
    refine mkT_congr fun i j hi hj => ?_
    rw [h.cell hj hi]
    omega
  rw [e]
  exact ⟨sf.sl.tb, sf.sl.sums⟩
theorem turn_mir (h : Tb n T) : colsP n T.reverse = (colsP n T).map List.reverse := by
  have q : Sqr n T.reverse := ⟨by simp [h.sq.len], fun r hr => h.sq.row r (by simpa using hr)⟩
  rw [cols_mk q, mir_mk (cols_tb h).1.sq]
  refine mkT_congr fun i j hi hj => ?_
  rw [rev_mk h.sq, cell_mkT hj hi, cols_mk h.sq, cell_mkT hi (by omega)]
theorem turn_tb (h : Tb n T) : Tb n (colsP n T.reverse) := by
  rw [turn_mir h]
  exact (mir_tb (cols_tb h).1).1
end
end SS
/- SPA -/
set_option linter.all false
set_option maxRecDepth 100000
/-! Plain part: all sum-like grids; negative entries and inversions. -/
namespace SS
open PySem L2
/-- lists that begin with v and go on by 0 or 1 -/
def rowsFrom : Nat → Int → List (List Int)
  | 0, v => [[v]]
  | k + 1, v => (rowsFrom k v).map (v :: ·) ++ (rowsFrom k (v + 1)).map (v :: ·)
def fitsRow (r r' : List Int) : Bool := (r.zip r').all fun p => decide (p.2 - p.1 = 0) || decide (p.2 - p.1 = 1)
def chains (n : Nat) : Nat → List Int → Int → List (List (List Int))
  | 0, r, _ => [[r]]
  | k + 1, r, i => ((rowsFrom n 0).filter fun r' => decide (r'.getLast? = some (i + 1)) && fitsRow r r').flatMap fun r' => (chains n k r' (i + 1)).map (r :: ·)
def sumsOf (n : Nat) : List (List (List Int)) := chains n n (zeros (n + 1)) 0
theorem rowsFrom_mem : ∀ (k : Nat) (r : List Int) (v : Int), r.length = k + 1 → r.getD 0 0 = v → (∀ j, j < k → is01 (r.getD (j + 1) 0 - r.getD j 0)) → r ∈ rowsFrom k v
  | 0, r, v, h, h0, _ => by
    match r, h with
    | [a], _ =>
      have : a = v := h0
      subst this
      simp [rowsFrom]
  | k + 1, r, v, h, h0, hs => by
    match r, h with
    | a :: b :: r, h =>
      have ha : a = v := h0
      subst ha
      have h1 := hs 0 (by omega)
      have hb : b - a = 0 ∨ b - a = 1 := h1
      have ih := fun w (hw : b = w) => rowsFrom_mem k (b :: r) w (by simpa using h) hw fun j hj => hs (j + 1) (by omega)
      simp only [rowsFrom, List.mem_append, List.mem_map]
      rcases hb with q | q
      · exact .inl ⟨b :: r, ih a (by omega), rfl⟩
      · exact .inr ⟨b :: r, ih (a + 1) (by omega), rfl⟩
theorem chains_mem {n : Nat} : ∀ (R : List (List Int)) (r : List Int) (i : Int), (∀ k, k < R.length → (R.getD k []) ∈ rowsFrom n 0 ∧ (R.getD k []).getLast? = some (i + k + 1) ∧ fitsRow ((r :: R).getD k []) (R.getD k []) = true) → r :: R ∈ chains n R.length r i
  | [], r, i, _ => by simp [chains]
  | r' :: R, r, i, h => by
    have h0 := h 0 (by simp)
    have ih := chains_mem (n := n) R r' (i + 1) fun k hk => by
      have := h (k + 1) (by simp; omega)
      simp only [List.getD_cons_succ] at this
      refine ⟨this.1, ?_, this.2.2⟩
      rw [this.2.1]
      congr 1
      omega
    simp only [List.length_cons, chains, List.mem_flatMap, List.mem_filter, List.mem_map]
    refine ⟨r', ⟨h0.1, ?_⟩, r' :: R, ih, rfl⟩
    have e1 := h0.2.1
    have e2 := h0.2.2
    simp at e1 e2
    simp [e1, e2]
theorem SL.mem {n : Nat} {R : List (List Int)} (s : SL n R) : R ∈ sumsOf n := by
  have hl := s.g.len
  have hrow : ∀ k, k ≤ n → (R.getD k []).length = n + 1 := fun k hk => (s.g.row_at (by omega)).2
  obtain ⟨R', rfl⟩ := s.row0
  simp only [List.length_cons] at hl
  unfold sumsOf
  have : R'.length = n := by omega
  rw [show chains n n = chains n R'.length by rw [this]]
  refine chains_mem R' _ _ fun k hk => ?_
  have hk' : k < n := by omega
  have e : ∀ j, cell (zeros (n + 1) :: R') (k + 1) j = (R'.getD k []).getD j 0 := fun j => by unfold cell; simp
  have lk := hrow (k + 1) (by omega)
  simp only [List.getD_cons_succ] at lk
  have lk0 := hrow k (by omega)
  refine ⟨rowsFrom_mem n _ 0 lk ?_ fun j hj => ?_, ?_, ?_⟩
  · rw [← e]; exact s.left (k + 1) (by omega)
  · rw [← e, ← e]; exact s.h (k + 1) j (by omega) hj
  · rw [last_getD lk, ← e, s.right (k + 1) (by omega)]
    congr 1
    omega
  · unfold fitsRow
    rw [List.all_eq_true]
    intro p hp
    rw [zip_row lk0 lk] at hp
    obtain ⟨j, hj, rfl⟩ := List.mem_map.mp hp
    have hj := List.mem_range.mp hj
    have := s.v k j hk' (by omega)
    rw [e] at this
    have this : is01 ((R'.getD k []).getD j 0 - ((zeros (n + 1) :: R').getD k []).getD j 0) := this
    unfold is01 at this
    simp only [Bool.or_eq_true, decide_eq_true_eq]
    exact this
/-- what holds for all of them -/
theorem SL.by {n : Nat} {R : List (List Int)} {P : List (List Int) → Bool} (s : SL n R) (h : (sumsOf n).all P = true) : P R = true := List.all_eq_true.mp h R s.mem
theorem Tb.by {n : Nat} {T : List (List Int)} {P : List (List Int) → Bool} (h : Tb n T) (q : (sumsOf n).all (fun R => P (unL R)) = true) : P T = true := by
  have := h.sl.by (P := fun R => P (unL R)) q
  rwa [h.un] at this
/-- for all sizes -/
theorem Tb.all {n : Nat} {T : List (List Int)} {P : Nat → List (List Int) → Bool} (h : Tb n T) (h5 : n ≤ 5) (q : ((List.range 6).all fun n => (sumsOf n).all fun R => P n (unL R)) = true) : P n T = true := h.by (List.all_eq_true.mp q n (List.mem_range.mpr (by omega)))
/-! ### negative entries, inversions -/
def negP (T : List (List Int)) : Int := (T.map fun r => ((r.count (-1) : Nat) : Int)).sum
def invRow (above : List Int) : Nat → List Int → Int
  | _, [] => 0
  | k, x :: r => x * (above.drop (k + 1)).sum + invRow above (k + 1) r
def invFrom : List Int → List (List Int) → Int
  | _, [] => 0
  | above, r :: T => invRow above 0 r + invFrom (add2 above r) T
def invP (T : List (List Int)) : Int := invFrom (zeros T.length) T
section
variable {n : Nat} {T : List (List Int)}
theorem neg_count_eq (s : Sqr n T) (h5 : n ≤ 900) : m_negative_count T = .ok (negP T) := by
  unfold m_negative_count
  rw [Z.fits_ok (by simp [s.len]; omega)]
  simp [negP]
theorem Tb.negatives (h : Tb n T) (h1 : 1 ≤ n) (h5 : n ≤ 5) : m_negatives T = .ok (negP T) := by
  unfold m_negatives
  rw [h.check h1 h5, neg_count_eq h.sq (by omega)]
  simp
theorem Tb.isperm (h : Tb n T) (h1 : 1 ≤ n) (h5 : n ≤ 5) : m_is_permutation T = .ok (decide (negP T = 0)) := by
  unfold m_is_permutation
  rw [h.check h1 h5, neg_count_eq h.sq (by omega)]
  simp
theorem inv_inner {W ρ : Type} {above : List Int} {body : Int → Int × Int → Y W Int ρ} (hb : ∀ (s : Int) (k : Nat) (x : Int), -1 ≤ x ∧ x ≤ 1 → body s ((k : Int), x) = Y.nx (s + x * (above.drop (k + 1)).sum)) :
    ∀ (r : List Int) (k : Nat) (t : Int), (∀ x ∈ r, -1 ≤ x ∧ x ≤ 1) → Y.for body ((r.zipIdx k).map fun p => (((p.2 : Nat) : Int), p.1)) t = Y.nx (t + invRow above k r)
  | [], k, t, _ => by simp [Y.for, invRow]
  | x :: r, k, t, h => by
    simp only [List.zipIdx_cons, List.map_cons]
    rw [Y.for_cons, hb t k x (h x List.mem_cons_self), Y.nx_then, inv_inner hb r (k + 1) _ fun y hy => h y (List.mem_cons_of_mem _ hy), invRow, Int.add_assoc]
theorem small1 {x : Int} (h : -1 ≤ x ∧ x ≤ 1) : small64 x = true := by
  unfold small64
  simp
  omega
theorem inv_count_eq (s : Sqr n T) (e : Ent T) (h5 : n ≤ 900) : m_inversion_count T = .ok (invP T) := by
  unfold m_inversion_count
  have e1 : smallRep ((T.length : Nat) : Int) ([(0 : Int)] : List Int).length = true := by
    unfold smallRep
    simp [s.len]; omega
  rw [e1, Int.toNat_natCast, rep_one]
  simp only [Z.if_true, Z.ok_so]
  have key : ∀ (U : List (List Int)) (above : List Int) (t : Int), (∀ r ∈ U, r.length = n ∧ ∀ x ∈ r, -1 ≤ x ∧ x ≤ 1) → above.length = n →
      ∃ ab, Y.for (W := Unit) (ρ := Int) (fun (s3 : Int × List Int) (e4 : List Int) => (Y.for (fun (s5 : Int) (e6 : Int × Int) => Z.so (Z.if (small64 e6.2 || small64 (((cut s3.2 (some (e6.1 + (1 : Int))) none)).sum)) (e6.2 * (((cut s3.2 (some (e6.1 + (1 : Int))) none)).sum))) fun y7 => Y.nx ((s5 + y7))) (enumZ e4) (s3.1)).then fun s9 => Z.so (Z.fits (((List.zip s3.2 e4)).map fun (e10 : (Int × Int)) => e10.1 + e10.2)) fun above11 => Y.nx (s9, above11)) U (t, above) = Y.nx (t + invFrom above U, ab) := by
    intro U
    induction U with
    | nil => intro above t _ _; exact ⟨above, by simp [Y.for, invFrom]⟩
    | cons r U ih =>
      intro above t hU ha
      obtain ⟨hr, hx⟩ := hU r List.mem_cons_self
      rw [Y.for_cons]
      simp only [enumZ]
      rw [inv_inner (above := above) (fun s k x hx => by
        simp only [small1 hx, Bool.true_or, Z.if_true, Z.ok_so]
        rw [show ((k : Int) + 1) = ((k + 1 : Nat) : Int) from by omega, cut_from]) r 0 t hx]
      simp only [Y.nx_then]
      have e2 : ((above.zip r).map fun e10 => e10.1 + e10.2) = add2 above r := by
        unfold add2
        rw [List.zip, List.map_zipWith]
      rw [e2, Z.fits_ok (by rw [add2_len]; omega)]
      simp only [Z.ok_so, Y.nx_then]
      obtain ⟨ab, q⟩ := ih (add2 above r) (t + invRow above 0 r) (fun r hr => hU r (List.mem_cons_of_mem _ hr)) (by rw [add2_len]; omega)
      simp only [enumZ] at q
      refine ⟨ab, ?_⟩
      rw [q, invFrom, Int.add_assoc]
  obtain ⟨ab, q⟩ := key T (zeros T.length) 0 (fun r hr => ⟨s.row r hr, e r hr⟩) (by simp [zeros, s.len])
  rw [q]
  simp [invP]
theorem Tb.inversions (h : Tb n T) (h1 : 1 ≤ n) (h5 : n ≤ 5) : m_inversions T = .ok (invP T) := by
  unfold m_inversions
  rw [h.check h1 h5, inv_count_eq h.sq h.ent (by omega)]
  simp
end
/-- facts about all tables -/
def turnB (n : Nat) (T : List (List Int)) : Bool := decide (negP (colsP n T) = negP T) && (decide (invP (colsP n T) = invP T) && decide (invP T + invP (T.map List.reverse) = ((n : Int) * ((n : Int) - 1)) / 2 + negP T))
theorem turn_all : ((List.range 6).all fun n => (sumsOf n).all fun R => turnB n (unL R)) = true := by decide +kernel
theorem neg_mir (T : List (List Int)) : negP (T.map List.reverse) = negP T := by
  unfold negP
  rw [List.map_map]
  congr 1
  apply List.map_congr_left
  intro r _
  simp
end SS
/- SPB -/
set_option linter.all false
set_option maxRecDepth 100000
/-! Plain part: any data as a table. -/
namespace SS
open PySem L2
/-- the mirrors of one def at two types stand for the same run -/
theorem rs_inj {α : Type} {E : α → Vl} {m : Mem} {a b : Rz α} (hE : ∀ x y, E x = E y → x = y) (h : a.rs E m = b.rs E m) : a = b := by
  cases a <;> cases b <;> simp only [Rz.rs] at h <;> first | rfl | (cases h; done) | skip
  · injection h with h1
    rw [hE _ _ h1]
  · injection h with h1
    rw [h1]
theorem vB_inj (x y : Bool) (h : vD dB x = vD dB y) : x = y := by
  injection h with h
  injection h
theorem is_table_D (T : List (List Int)) : m_is_table_2 (dT (dT dI) T) = m_is_table T := by
  have a := is_table_is (k := 9) (by omega) T []
  have b := is_table_2_is (k := 9) (by omega) (dT (dT dI) T) []
  exact rs_inj vB_inj (b.symm.trans a)
def noDict : PyData → Bool
  | .dict _ => false
  | _ => true
/-- an entry in range -/
def intIn (lo hi : Int) : PyData → Bool
  | .int x => decide (lo ≤ x) && decide (x ≤ hi)
  | _ => false
theorem is_integer_D {d : PyData} {lo hi : Int} (h : noDict d = true) : m_is_integer_2 d lo hi = .ok (intIn lo hi d) := by
  unfold m_is_integer_2
  cases d with
  | dict _ => simp [noDict] at h
  | int x =>
    simp only [isiV, isiD, Z.opt_some, Z.ok_bind', if_true, Bool.not_false, asI, intIn]
    rcases Bool.eq_false_or_eq_true (decide (lo ≤ x)) with q | q <;> simp only [q, if_true, Bool.false_eq_true, if_false, Z.ok_so, Y.rt_fin, Z.run_ok, Bool.true_and, Bool.false_and]
  | _ => rfl
def rowOk (n : Nat) (lo hi : Int) : PyData → Bool
  | .tuple es => decide (es.length = n) && es.all (intIn lo hi)
  | _ => false
/-- no dict as a row, nor as an entry of one -/
def plainRow : PyData → Bool
  | .tuple es => es.all noDict && decide (es.length ≤ 1000)
  | .dict _ => false
  | _ => true
def isSq (least most lo hi : Int) : PyData → Bool
  | .tuple rows => decide (least ≤ rows.length) && (decide ((rows.length : Int) ≤ most) && rows.all (rowOk rows.length lo hi))
  | _ => false
def plainT : PyData → Bool
  | .tuple rows => rows.all plainRow
  | .dict _ => false
  | _ => true
theorem is_square_D {d : PyData} {least most lo hi : Int} (h : plainT d = true) : m_is_square_2 d least most lo hi = .ok (isSq least most lo hi d) := by
  unfold m_is_square_2
  cases d with
  | dict _ => simp [plainT] at h
  | tuple rows =>
    have hp : ∀ r ∈ rows, plainRow r = true := fun r hr => List.all_eq_true.mp h r hr
    simp only [isiV, isiD, Z.opt_some, Z.ok_bind', Bool.not_true, Bool.false_eq_true, if_false, lenD, iterOf, walkOf, Z.ok_so, Y.rt_all]
    rw [Y.for_all (p := rowOk rows.length lo hi) (v := false)]
    · simp only [isSq]
      rcases Bool.eq_false_or_eq_true (decide (least ≤ (rows.length : Int))) with q | q <;> rcases Bool.eq_false_or_eq_true (decide ((rows.length : Int) ≤ most)) with q2 | q2 <;> rcases Bool.eq_false_or_eq_true (rows.all (rowOk rows.length lo hi)) with q3 | q3 <;> simp only [q, q2, q3, Bool.and_self, Bool.and_true, Bool.and_false, Bool.true_and, Bool.false_and, Bool.not_true, Bool.not_false, if_true, Bool.false_eq_true, if_false, Y.nx_then, Y.rt_then, Y.rt_fin, Z.run_ok]
    · intro r hr
      have pr := hp r hr
      cases r with
      | dict _ => simp [plainRow] at pr
      | tuple es =>
        simp only [plainRow, Bool.and_eq_true, decide_eq_true_eq] at pr
        simp only [isiV, isiD, Z.opt_some, Z.ok_bind', Bool.not_true, Bool.false_eq_true, if_false, lenD, iterOf, walkOf, Z.ok_so, rowOk]
        rw [Z.lc_ok (f := intIn lo hi) (fun x hx => by rw [is_integer_D (List.all_eq_true.mp pr.1 x hx)]; rfl) (by omega)]
        simp only [Z.ok_bind', Z.ok_so, List.all_map]
        have e : (id ∘ intIn lo hi) = intIn lo hi := rfl
        rw [e]
        have e2 : decide ((es.length : Int) = (rows.length : Int)) = decide (es.length = rows.length) := by
          by_cases q : es.length = rows.length
          · simp [q]
          · have : ¬ (es.length : Int) = (rows.length : Int) := by omega
            simp [q, this]
        rw [e2]
        rcases Bool.eq_false_or_eq_true (decide (es.length = rows.length)) with q | q <;> rcases Bool.eq_false_or_eq_true (es.all (intIn lo hi)) with q2 | q2 <;> simp only [q, q2, Bool.not_true, Bool.not_false, Bool.and_self, Bool.and_true, Bool.and_false, Bool.true_and, Bool.false_and, if_true, Bool.false_eq_true, if_false]
      | _ => rfl
  | _ => rfl
/-- what is no square is no table -/
theorem no_table_D {d : PyData} (h : plainT d = true) (hs : isSq 1 5 (-1) 1 d = false) : m_is_table_2 d = .ok false := by
  unfold m_is_table_2
  rw [is_square_D h, hs]
  simp
end SS
/- SL_k01 -/
section
set_option linter.all false
set_option maxRecDepth 100000
set_option maxHeartbeats 0
/-! The law, printed by mir.py. -/
namespace SS
open PySem L2
@[irreducible] def m_law_k01 (a_script : List Int) : Z Nat Bool := Y.fin (
  Z.so (m__law_some_table a_script () (5 : Int)) fun own1 =>
  Z.so (Z.ok (((own1.length : Nat) : Int))) fun n2 =>
  Z.so ((Z.lift (m_is_table own1)).bind fun x3 => Z.ok (!decide (x3 = true))) fun k => if k then Y.all (Z.so (Z.ok (false)) fun x => Y.rt x) else
  Z.so ((Z.lc (fun (e4 : (List Int)) => (Z.fits (((e4).filter fun (e5 : Int) => decide (e5 < (0 : Int))).map fun (e5 : Int) => e5)).bind fun x6 => Z.ok (((x6.length : Nat) : Int))) own1).bind fun x7 => Z.ok ((x7).sum)) fun low8 =>
  Z.so ((((Z.lift (m_negatives own1)).bind fun z0 => (Z.ok (low8)).bind fun z1 => Z.lift (m__law_same_number z0 z1)).bind fun x10 => Z.ok (!x10)).bind fun x11 => if x11 then Z.ok true else ((Z.lift (m_is_permutation own1)).bind fun z0 => (Z.ok (decide (low8 = (0 : Int)))).bind fun z1 => Z.lift (m__law_same_truth z0 z1)).bind fun x9 => Z.ok (!x9)) fun k => if k then Y.all (Z.so (Z.ok (false)) fun x => Y.rt x) else
  Z.so (Z.ok ((0 : Int))) fun total12 =>
  Y.then (Z.so (Z.if (rangeOk 0 n2) (rangeZ 0 n2)) fun xs => Y.for (fun (s13 : (Int)) (e14 : Int) =>
    Y.then (Z.so (Z.if (rangeOk 0 n2) (rangeZ 0 n2)) fun xs => Y.for (fun (s15 : (Int)) (e16 : Int) =>
      Z.so (((Z.opt (L2.atI own1 e14)).bind fun x17 => Z.opt (L2.atI x17 e16)).bind fun x20 => ((Z.fits (((cut own1 (some (e14 + (1 : Int))) none)).map fun (e18 : (List Int)) => ((cut e18 none (some e16))).sum)).bind fun x19 => Z.ok ((x19).sum)).bind fun x21 => Z.if (small64 x20 || small64 x21) (x20 * x21)) fun y22 =>
      Y.nx ((s15 + y22))) xs (s13)) fun s24 =>
    Y.nx (s24)) xs (total12)) fun s25 =>
  Z.so ((((Z.lift (m_inversions own1)).bind fun z0 => (Z.ok (s25)).bind fun z1 => Z.lift (m__law_same_number z0 z1)).bind fun x26 => Z.ok (!x26)).bind fun x27 => Z.ok (x27 || (decide (s25 < low8)))) fun k => if k then Y.all (Z.so (Z.ok (false)) fun x => Y.rt x) else
  Y.then (Z.so (Z.if (rangeOk 0 (4 : Int)) (rangeZ 0 (4 : Int))) fun xs => Y.for (fun (s28 : Unit) (e29 : Int) =>
    Z.so (m__law_draw a_script () n2) fun i30 =>
    Z.so (m__law_draw a_script () n2) fun j31 =>
    Z.so ((((Z.opt (L2.atI own1 i30)).bind fun x32 => Z.ok (cut x32 none (some j31))).bind fun x36 => ((((m__law_draw a_script () (3 : Int)).bind fun x33 => Z.ok (x33 - (1 : Int))).bind fun x34 => ((Z.ok [] : Z _ (List Int))).bind fun x35 => Z.ok (x34 :: x35)).bind Z.fits).bind fun x37 => Z.fits (x36 ++ x37)).bind fun x39 => ((Z.opt (L2.atI own1 i30)).bind fun x38 => Z.ok (cut x38 (some (j31 + (1 : Int))) none)).bind fun x40 => Z.fits (x39 ++ x40)) fun row41 =>
    Z.so ((Z.fits ((cut own1 none (some i30)) ++ ([row41] : List (List Int)))).bind fun x42 => Z.fits (x42 ++ (cut own1 (some (i30 + (1 : Int))) none))) fun other43 =>
    Z.so ((Z.fits ((cut own1 none (some i30)) ++ (cut own1 (some (i30 + (1 : Int))) none))).bind fun x44 => Z.fits (x44 ++ (cut own1 (some i30) (some (i30 + (1 : Int)))))) fun mixed45 =>
    Y.then (Z.so (((Z.ok (other43)).bind fun x51 => ((Z.ok (mixed45)).bind fun x49 => ((Z.lc (fun (e46 : (List Int)) => Z.fits ((cut e46 (some (1 : Int)) none) ++ (cut e46 none (some (1 : Int))))) own1).bind fun x47 => ((Z.ok [] : Z _ (List (List (List Int))))).bind fun x48 => Z.ok (x47 :: x48)).bind fun x50 => Z.ok (x49 :: x50)).bind fun x52 => Z.ok (x51 :: x52)).bind Z.fits) fun xs => Y.for (fun (s53 : Unit) (e54 : (List (List Int))) =>
      Z.so (((Z.lift (m_is_table e54)).bind fun z0 => (Z.lift (m__law_good e54)).bind fun z1 => Z.lift (m__law_same_truth z0 z1)).bind fun x55 => Z.ok (!x55)) fun k => if k then Y.all (Z.so (Z.ok (false)) fun x => Y.rt x) else
      Y.nx ()) xs ()) fun s56 =>
    Y.nx ()) xs ()) fun s57 =>
  Z.so (((Z.ok (())).bind fun x74 => ((Z.ok ((5 : Int))).bind fun x72 => ((Z.ok (([] : List Int))).bind fun x70 => ((Z.ok (own1)).bind fun x68 => ((Z.fits ((((cut own1 (some (1 : Int)) none)).map fun z => (dT dI) z) ++ ((([()] : List Unit)).map fun z => dU z))).bind fun x66 => ((Z.fits (own1 ++ (cut own1 none (some (1 : Int))))).bind fun x64 => ((((((Z.opt (L2.atI own1 (-(1 : Int)))).bind fun x58 => Z.fits (x58 ++ ([(0 : Int)] : List Int))).bind fun x59 => ((Z.ok [] : Z _ (List (List Int)))).bind fun x60 => Z.ok (x59 :: x60)).bind Z.fits).bind fun x61 => Z.fits ((cut own1 none (some (-(1 : Int)))) ++ x61)).bind fun x62 => ((Z.ok [] : Z _ (List PyData))).bind fun x63 => Z.ok (((dT (dT dI)) x62) :: x63)).bind fun x65 => Z.ok (((dT (dT dI)) x64) :: x65)).bind fun x67 => Z.ok (((dT dD) x66) :: x67)).bind fun x69 => Z.ok (((dL (dT dI)) x68) :: x69)).bind fun x71 => Z.ok (((dT dI) x70) :: x71)).bind fun x73 => Z.ok ((dI x72) :: x73)).bind fun x75 => Z.ok ((dU x74) :: x75)).bind Z.fits) fun odds76 =>
  Z.so (((((((Z.opt (L2.atI own1 (-(1 : Int)))).bind fun x78 => ((Z.ok [] : Z _ (List (List Int)))).bind fun x79 => Z.ok (x78 :: x79)).bind Z.fits).bind fun x80 => Z.ok ((x80).map fun z => (dL dI) z)).bind fun x81 => Z.fits ((((cut own1 none (some (-(1 : Int))))).map fun z => (dT dI) z) ++ x81)).bind fun x94 => ((Z.ok (([([true] : List Bool)] : List (List Bool)))).bind fun x92 => ((Z.ok (([([("1")] : List Str)] : List (List Str)))).bind fun x90 => ((Z.ok (([([(2 : Int)] : List Int)] : List (List Int)))).bind fun x88 => ((Z.ok (([([(0 : Int)] : List Int)] : List (List Int)))).bind fun x86 => ((Z.ok (([([(-(1 : Int))] : List Int)] : List (List Int)))).bind fun x84 => ((Z.ok (([(1 : Int)] : List Int))).bind fun x82 => ((Z.ok [] : Z _ (List PyData))).bind fun x83 => Z.ok (((dT dI) x82) :: x83)).bind fun x85 => Z.ok (((dT (dT dI)) x84) :: x85)).bind fun x87 => Z.ok (((dT (dT dI)) x86) :: x87)).bind fun x89 => Z.ok (((dT (dT dI)) x88) :: x89)).bind fun x91 => Z.ok (((dT (dT dS)) x90) :: x91)).bind fun x93 => Z.ok (((dT (dT dB)) x92) :: x93)).bind fun x95 => Z.ok (((dT dD) x94) :: x95)).bind Z.fits) fun y => Z.so (Z.fits (odds76 ++ y)) fun odds77 =>
  Z.so ((Z.if (rangeOk 0 (6 : Int)) (rangeZ 0 (6 : Int))).bind fun x101 => Z.lc (fun (e97 : Int) => ((Z.if (smallRep e97 (([(0 : Int)] : List Int)).length) (rep (e97).toNat ([(0 : Int)] : List Int))).bind fun x98 => Z.fits (x98 ++ ([(1 : Int)] : List Int))).bind fun x99 => (Z.if (smallRep ((5 : Int) - e97) (([(0 : Int)] : List Int)).length) (rep (((5 : Int) - e97)).toNat ([(0 : Int)] : List Int))).bind fun x100 => Z.fits (x99 ++ x100)) x101) fun y => Z.so (Z.fits (odds77 ++ [(dT (dT dI)) y])) fun odds96 =>
  Z.so (Z.ok (([(dT (dT dI)) ([([(1 : Int), (0 : Int)] : List Int), ([(1 : Int), (0 : Int)] : List Int)] : List (List Int)), (dT (dT dI)) ([([(0 : Int), (0 : Int)] : List Int), ([(1 : Int), (1 : Int)] : List Int)] : List (List Int)), (dT (dT dI)) ([([(1 : Int), (1 : Int), (-(1 : Int))] : List Int), ([(0 : Int), (0 : Int), (1 : Int)] : List Int), ([(0 : Int), (0 : Int), (1 : Int)] : List Int)] : List (List Int)), (dT (dT dI)) ([([(1 : Int), (-(1 : Int))] : List Int), ([(0 : Int), (1 : Int)] : List Int)] : List (List Int))] : List PyData))) fun y => Z.so (Z.fits (odds96 ++ y)) fun odds102 =>
  Z.so ((Z.lc (fun (e103 : PyData) => Z.lift (m_is_table_2 e103)) odds102).bind fun x104 => (Z.if (smallRep ((odds102.length : Nat) : Int) (([false] : List Bool)).length) (rep (((odds102.length : Nat) : Int)).toNat ([false] : List Bool))).bind fun x105 => Z.ok (decide (x104 = x105))) fun x => Y.rt x)
theorem law_k01_is {k : Nat} (hk : 6 ≤ k) (a_script : List Int) : sem tab k f_law_k01 [vS a_script] [] = (m_law_k01 a_script 0).rs (twn []) (vD dB) := by
  unfold m_law_k01
  exact sem_P (n := 5) (d := c_law_k01) rfl hk fun k hk => law_W (S := sem tab k) (ns := 15) (Env0 := Empty.elim) rfl rfl rfl <|
  Sq.asg (re := m__law_some_table a_script () (5 : Int)) (η1 := fun (own1 : (List (List Int))) => [some (vS a_script), some ((vR 0) ()), some ((vD (dT (dT dI))) own1), none, none, none, none, none, none, none, none, none, none, none, none, none, none]) (Ev.call3T (E := (vD (dT (dT dI)))) (g := m__law_some_table a_script () (5 : Int)) (fun w => call_W (M := twn []) (w := w) rfl (_law_some_table_is (by omega) a_script () (5 : Int) _)) (Ev.var (E := vS) (x := a_script) rfl rfl) (Ev.var (E := (vR 0)) (x := ()) rfl rfl) (Ev.int 5)) (fun _ => rfl) (fun _ => rfl) fun own1 =>
  Sq.asg (re := Z.ok (((own1.length : Nat) : Int))) (η1 := fun (n2 : Int) => [some (vS a_script), some ((vR 0) ()), some ((vD (dT (dT dI))) own1), some ((vD dI) n2), none, none, none, none, none, none, none, none, none, none, none, none, none]) (Ev.len (d := (dT dI)) (fun _ _ => rfl) (Ev.var (E := (vD (dT (dT dI)))) (x := own1) rfl rfl)) (fun _ => rfl) (fun _ => rfl) fun n2 =>
  Sq.ifR (Env0 := Empty.elim) (rc := (Z.lift (m_is_table own1)).bind fun x3 => Z.ok (!decide (x3 = true))) (Ev.isnB (Ev.call1T (E := (vD dB)) (g := Z.lift (m_is_table own1)) (fun w => call_P (M := twn []) (w := w) rfl (is_table_is (by omega) own1 _)) (Ev.var (E := (vD (dT (dT dI)))) (x := own1) rfl rfl)) (Ev.bl true)) (Sq.ret (re := Z.ok (false)) (Ev.bl false) (fun _ => rfl)) <|
  Sq.asg (re := (Z.lc (fun (e4 : (List Int)) => (Z.fits (((e4).filter fun (e5 : Int) => decide (e5 < (0 : Int))).map fun (e5 : Int) => e5)).bind fun x6 => Z.ok (((x6.length : Nat) : Int))) own1).bind fun x7 => Z.ok ((x7).sum)) (η1 := fun (low8 : Int) => [some (vS a_script), some ((vR 0) ()), some ((vD (dT (dT dI))) own1), some ((vD dI) n2), none, none, some ((vD dI) low8), none, none, none, none, none, none, none, none, none, none]) (Ev.sum (fun _ _ => rfl) (Ev.lc (d' := dI) (g := fun (e4 : (List Int)) => (Z.fits (((e4).filter fun (e5 : Int) => decide (e5 < (0 : Int))).map fun (e5 : Int) => e5)).bind fun x6 => Z.ok (((x6.length : Nat) : Int))) (η1 := fun (e4 : (List Int)) => [some (vS a_script), some ((vR 0) ()), some ((vD (dT (dT dI))) own1), some ((vD dI) n2), some ((vD (dT dI)) e4), none, none, none, none, none, none, none, none, none, none, none, none]) (EvI.seq (d := (dT dI)) (fun _ => rfl) (fun _ => rfl) (Ev.var (E := (vD (dT (dT dI)))) (x := own1) rfl rfl)) (fun _ => rfl) (fun _ => rfl) fun (e4 : (List Int)) => (Ev.len (d := dI) (fun _ _ => rfl) (Ev.lcIfT (d' := dI) (p := fun (e5 : Int) => decide (e5 < (0 : Int))) (g := fun (e5 : Int) => e5) (η1 := fun (e5 : Int) => [some (vS a_script), some ((vR 0) ()), some ((vD (dT (dT dI))) own1), some ((vD dI) n2), some ((vD (dT dI)) e4), some ((vD dI) e5), none, none, none, none, none, none, none, none, none, none, none]) (EvI.seq (d := dI) (fun _ => rfl) (fun _ => rfl) (Ev.var (E := (vD (dT dI))) (x := e4) rfl rfl)) (fun _ => rfl) (fun _ => rfl) (fun (e5 : Int) => (Ev.lt (Ev.var (E := (vD dI)) (x := e5) rfl rfl) (Ev.int 0))) fun (e5 : Int) => (Ev.var (E := (vD dI)) (x := e5) rfl rfl))))) (fun _ => rfl) (fun _ => rfl) fun low8 =>
  Sq.ifR (Env0 := Empty.elim) (rc := (((Z.lift (m_negatives own1)).bind fun z0 => (Z.ok (low8)).bind fun z1 => Z.lift (m__law_same_number z0 z1)).bind fun x10 => Z.ok (!x10)).bind fun x11 => if x11 then Z.ok true else ((Z.lift (m_is_permutation own1)).bind fun z0 => (Z.ok (decide (low8 = (0 : Int)))).bind fun z1 => Z.lift (m__law_same_truth z0 z1)).bind fun x9 => Z.ok (!x9)) (Ev.or (Ev.nt (Ev.call2 (E := (vD dB)) (g := fun z0 z1 => Z.lift (m__law_same_number z0 z1)) (fun z0 z1 w => call_P (M := twn []) (w := w) rfl (_law_same_number_is (by omega) z0 z1 _)) (Ev.call1T (E := (vD dI)) (g := Z.lift (m_negatives own1)) (fun w => call_P (M := twn []) (w := w) rfl (negatives_is (by omega) own1 _)) (Ev.var (E := (vD (dT (dT dI)))) (x := own1) rfl rfl)) (Ev.var (E := (vD dI)) (x := low8) rfl rfl))) (Ev.one (Ev.nt (Ev.call2 (E := (vD dB)) (g := fun z0 z1 => Z.lift (m__law_same_truth z0 z1)) (fun z0 z1 w => call_P (M := twn []) (w := w) rfl (_law_same_truth_is (by omega) z0 z1 _)) (Ev.call1T (E := (vD dB)) (g := Z.lift (m_is_permutation own1)) (fun w => call_P (M := twn []) (w := w) rfl (is_permutation_is (by omega) own1 _)) (Ev.var (E := (vD (dT (dT dI)))) (x := own1) rfl rfl)) (Ev.eq Good.I (by decide) (fun _ _ _ => rfl) (Ev.var (E := (vD dI)) (x := low8) rfl rfl) (Ev.int 0)))))) (Sq.ret (re := Z.ok (false)) (Ev.bl false) (fun _ => rfl)) <|
  Sq.asg (re := Z.ok ((0 : Int))) (η1 := fun (total12 : Int) => [some (vS a_script), some ((vR 0) ()), some ((vD (dT (dT dI))) own1), some ((vD dI) n2), none, none, some ((vD dI) low8), some ((vD dI) total12), none, none, none, none, none, none, none, none, none]) (Ev.int 0) (fun _ => rfl) (fun _ => rfl) fun total12 =>
  Sq.for (ri := Z.if (rangeOk 0 n2) (rangeZ 0 n2)) (s0 := (total12)) (Env1 := fun (s13 : (Int)) => [some (vS a_script), some ((vR 0) ()), some ((vD (dT (dT dI))) own1), some ((vD dI) n2), none, none, some ((vD dI) low8), some ((vD dI) s13), none, none, none, none, none, none, none, none, none]) (η1 := fun (s13 : (Int)) (e14 : Int) => [some (vS a_script), some ((vR 0) ()), some ((vD (dT (dT dI))) own1), some ((vD dI) n2), none, none, some ((vD dI) low8), some ((vD dI) s13), some ((vD dI) e14), none, none, none, none, none, none, none, none]) rfl (EvI.rng1 (Ev.var (E := (vD dI)) (x := n2) rfl rfl)) (fun _ _ => rfl) (fun (s13 : (Int)) (e14 : Int) =>
    Sq.for (ri := Z.if (rangeOk 0 n2) (rangeZ 0 n2)) (s0 := (s13)) (Env1 := fun (s15 : (Int)) => [some (vS a_script), some ((vR 0) ()), some ((vD (dT (dT dI))) own1), some ((vD dI) n2), none, none, some ((vD dI) low8), some ((vD dI) s15), some ((vD dI) e14), none, none, none, none, none, none, none, none]) (η1 := fun (s15 : (Int)) (e16 : Int) => [some (vS a_script), some ((vR 0) ()), some ((vD (dT (dT dI))) own1), some ((vD dI) n2), none, none, some ((vD dI) low8), some ((vD dI) s15), some ((vD dI) e14), some ((vD dI) e16), none, none, none, none, none, none, none]) rfl (EvI.rng1 (Ev.var (E := (vD dI)) (x := n2) rfl rfl)) (fun _ _ => rfl) (fun (s15 : (Int)) (e16 : Int) =>
      Sq.aug (x := s15) (f := fun a b => a + b) (re := ((Z.opt (L2.atI own1 e14)).bind fun x17 => Z.opt (L2.atI x17 e16)).bind fun x20 => ((Z.fits (((cut own1 (some (e14 + (1 : Int))) none)).map fun (e18 : (List Int)) => ((cut e18 none (some e16))).sum)).bind fun x19 => Z.ok ((x19).sum)).bind fun x21 => Z.if (small64 x20 || small64 x21) (x20 * x21)) (η1 := fun (y22 : Int) => [some (vS a_script), some ((vR 0) ()), some ((vD (dT (dT dI))) own1), some ((vD dI) n2), none, none, some ((vD dI) low8), some ((vD dI) (s15 + y22)), some ((vD dI) e14), some ((vD dI) e16), none, none, none, none, none, none, none]) rfl (Or.inl ⟨rfl, rfl⟩) (Ev.mul (Ev.ix (d := dI) (fun _ _ _ => rfl) (Ev.ix (d := (dT dI)) (fun _ _ _ => rfl) (Ev.var (E := (vD (dT (dT dI)))) (x := own1) rfl rfl) (Ev.var (E := (vD dI)) (x := e14) rfl rfl)) (Ev.var (E := (vD dI)) (x := e16) rfl rfl)) (Ev.sum (fun _ _ => rfl) (Ev.lcT (d' := dI) (g := fun (e18 : (List Int)) => ((cut e18 none (some e16))).sum) (η1 := fun (e18 : (List Int)) => [some (vS a_script), some ((vR 0) ()), some ((vD (dT (dT dI))) own1), some ((vD dI) n2), some ((vD (dT dI)) e18), none, some ((vD dI) low8), some ((vD dI) s15), some ((vD dI) e14), some ((vD dI) e16), none, none, none, none, none, none, none]) (EvI.seq (d := (dT dI)) (fun _ => rfl) (fun _ => rfl) (Ev.sl (E := (vD (dT (dT dI)))) sl_T (Ev.var (E := (vD (dT (dT dI)))) (x := own1) rfl rfl) (EvO.yes (Ev.add (Ev.var (E := (vD dI)) (x := e14) rfl rfl) (Ev.int 1))) EvO.no)) (fun _ => rfl) (fun _ => rfl) fun (e18 : (List Int)) => (Ev.sum (fun _ _ => rfl) (Ev.sl (E := (vD (dT dI))) sl_T (Ev.var (E := (vD (dT dI))) (x := e18) rfl rfl) EvO.no (EvO.yes (Ev.var (E := (vD dI)) (x := e16) rfl rfl))))))) (fun _ => rfl) fun y22 =>
      Sq.env (η' := [some (vS a_script), some ((vR 0) ()), some ((vD (dT (dT dI))) own1), some ((vD dI) n2), none, none, some ((vD dI) low8), some ((vD dI) (s15 + y22)), some ((vD dI) e14), none, none, none, none, none, none, none, none]) (fun _ => rfl) <|
      Sq.nil rfl) fun (s24 : (Int)) =>
    Sq.env (η' := [some (vS a_script), some ((vR 0) ()), some ((vD (dT (dT dI))) own1), some ((vD dI) n2), none, none, some ((vD dI) low8), some ((vD dI) s24), none, none, none, none, none, none, none, none, none]) (fun _ => rfl) <|
    Sq.nil rfl) fun (s25 : (Int)) =>
  Sq.ifR (Env0 := Empty.elim) (rc := (((Z.lift (m_inversions own1)).bind fun z0 => (Z.ok (s25)).bind fun z1 => Z.lift (m__law_same_number z0 z1)).bind fun x26 => Z.ok (!x26)).bind fun x27 => Z.ok (x27 || (decide (s25 < low8)))) (Ev.orT (Ev.nt (Ev.call2 (E := (vD dB)) (g := fun z0 z1 => Z.lift (m__law_same_number z0 z1)) (fun z0 z1 w => call_P (M := twn []) (w := w) rfl (_law_same_number_is (by omega) z0 z1 _)) (Ev.call1T (E := (vD dI)) (g := Z.lift (m_inversions own1)) (fun w => call_P (M := twn []) (w := w) rfl (inversions_is (by omega) own1 _)) (Ev.var (E := (vD (dT (dT dI)))) (x := own1) rfl rfl)) (Ev.var (E := (vD dI)) (x := s25) rfl rfl))) (Ev.one (Ev.gt (Ev.var (E := (vD dI)) (x := low8) rfl rfl) (Ev.var (E := (vD dI)) (x := s25) rfl rfl)))) (Sq.ret (re := Z.ok (false)) (Ev.bl false) (fun _ => rfl)) <|
  Sq.for (ri := Z.if (rangeOk 0 (4 : Int)) (rangeZ 0 (4 : Int))) (s0 := ()) (Env1 := fun (s28 : Unit) => [some (vS a_script), some ((vR 0) ()), some ((vD (dT (dT dI))) own1), some ((vD dI) n2), none, none, some ((vD dI) low8), some ((vD dI) s25), none, none, none, none, none, none, none, none, none]) (η1 := fun (s28 : Unit) (e29 : Int) => [some (vS a_script), some ((vR 0) ()), some ((vD (dT (dT dI))) own1), some ((vD dI) n2), none, none, some ((vD dI) low8), some ((vD dI) s25), none, none, some ((vD dI) e29), none, none, none, none, none, none]) rfl (EvI.rng1 (Ev.int 4)) (fun _ _ => rfl) (fun (s28 : Unit) (e29 : Int) =>
    Sq.par2 (ra := m__law_draw a_script () n2) (rb := m__law_draw a_script () n2) (η1 := fun (i30 : Int) (j31 : Int) => [some (vS a_script), some ((vR 0) ()), some ((vD (dT (dT dI))) own1), some ((vD dI) n2), none, none, some ((vD dI) low8), some ((vD dI) s25), some ((vD dI) i30), some ((vD dI) j31), some ((vD dI) e29), none, none, none, none, none, none]) (Ev.call3T (E := (vD dI)) (g := m__law_draw a_script () n2) (fun w => call_W (M := twn []) (w := w) rfl (_law_draw_is (by omega) a_script () n2 _)) (Ev.var (E := vS) (x := a_script) rfl rfl) (Ev.var (E := (vR 0)) (x := ()) rfl rfl) (Ev.var (E := (vD dI)) (x := n2) rfl rfl)) (Ev.call3T (E := (vD dI)) (g := m__law_draw a_script () n2) (fun w => call_W (M := twn []) (w := w) rfl (_law_draw_is (by omega) a_script () n2 _)) (Ev.var (E := vS) (x := a_script) rfl rfl) (Ev.var (E := (vR 0)) (x := ()) rfl rfl) (Ev.var (E := (vD dI)) (x := n2) rfl rfl)) (fun _ _ => rfl) fun i30 j31 =>
    Sq.asg (re := (((Z.opt (L2.atI own1 i30)).bind fun x32 => Z.ok (cut x32 none (some j31))).bind fun x36 => ((((m__law_draw a_script () (3 : Int)).bind fun x33 => Z.ok (x33 - (1 : Int))).bind fun x34 => ((Z.ok [] : Z _ (List Int))).bind fun x35 => Z.ok (x34 :: x35)).bind Z.fits).bind fun x37 => Z.fits (x36 ++ x37)).bind fun x39 => ((Z.opt (L2.atI own1 i30)).bind fun x38 => Z.ok (cut x38 (some (j31 + (1 : Int))) none)).bind fun x40 => Z.fits (x39 ++ x40)) (η1 := fun (row41 : (List Int)) => [some (vS a_script), some ((vR 0) ()), some ((vD (dT (dT dI))) own1), some ((vD dI) n2), some ((vD (dT dI)) row41), none, some ((vD dI) low8), some ((vD dI) s25), some ((vD dI) i30), some ((vD dI) j31), some ((vD dI) e29), none, none, none, none, none, none]) (Ev.catT (Ev.catT (Ev.sl (E := (vD (dT dI))) sl_T (Ev.ix (d := (dT dI)) (fun _ _ _ => rfl) (Ev.var (E := (vD (dT (dT dI)))) (x := own1) rfl rfl) (Ev.var (E := (vD dI)) (x := i30) rfl rfl)) EvO.no (EvO.yes (Ev.var (E := (vD dI)) (x := j31) rfl rfl))) (Ev.tup (EvL.cons (d := dI) (f := fun z => z) (fun _ => rfl) (Ev.sub (Ev.call3T (E := (vD dI)) (g := m__law_draw a_script () (3 : Int)) (fun w => call_W (M := twn []) (w := w) rfl (_law_draw_is (by omega) a_script () (3 : Int) _)) (Ev.var (E := vS) (x := a_script) rfl rfl) (Ev.var (E := (vR 0)) (x := ()) rfl rfl) (Ev.int 3)) (Ev.int 1)) (EvL.nil (d := dI))))) (Ev.sl (E := (vD (dT dI))) sl_T (Ev.ix (d := (dT dI)) (fun _ _ _ => rfl) (Ev.var (E := (vD (dT (dT dI)))) (x := own1) rfl rfl) (Ev.var (E := (vD dI)) (x := i30) rfl rfl)) (EvO.yes (Ev.add (Ev.var (E := (vD dI)) (x := j31) rfl rfl) (Ev.int 1))) EvO.no)) (fun _ => rfl) (fun _ => rfl) fun row41 =>
    Sq.asg (re := (Z.fits ((cut own1 none (some i30)) ++ ([row41] : List (List Int)))).bind fun x42 => Z.fits (x42 ++ (cut own1 (some (i30 + (1 : Int))) none))) (η1 := fun (other43 : (List (List Int))) => [some (vS a_script), some ((vR 0) ()), some ((vD (dT (dT dI))) own1), some ((vD dI) n2), some ((vD (dT dI)) row41), none, some ((vD dI) low8), some ((vD dI) s25), some ((vD dI) i30), some ((vD dI) j31), some ((vD dI) e29), some ((vD (dT (dT dI))) other43), none, none, none, none, none]) (Ev.catT (Ev.catT (Ev.sl (E := (vD (dT (dT dI)))) sl_T (Ev.var (E := (vD (dT (dT dI)))) (x := own1) rfl rfl) EvO.no (EvO.yes (Ev.var (E := (vD dI)) (x := i30) rfl rfl))) (Ev.tup (EvL.cons (d := (dT dI)) (f := fun z => z) (fun _ => rfl) (Ev.var (E := (vD (dT dI))) (x := row41) rfl rfl) (EvL.nil (d := (dT dI)))))) (Ev.sl (E := (vD (dT (dT dI)))) sl_T (Ev.var (E := (vD (dT (dT dI)))) (x := own1) rfl rfl) (EvO.yes (Ev.add (Ev.var (E := (vD dI)) (x := i30) rfl rfl) (Ev.int 1))) EvO.no)) (fun _ => rfl) (fun _ => rfl) fun other43 =>
    Sq.asg (re := (Z.fits ((cut own1 none (some i30)) ++ (cut own1 (some (i30 + (1 : Int))) none))).bind fun x44 => Z.fits (x44 ++ (cut own1 (some i30) (some (i30 + (1 : Int)))))) (η1 := fun (mixed45 : (List (List Int))) => [some (vS a_script), some ((vR 0) ()), some ((vD (dT (dT dI))) own1), some ((vD dI) n2), some ((vD (dT dI)) row41), none, some ((vD dI) low8), some ((vD dI) s25), some ((vD dI) i30), some ((vD dI) j31), some ((vD dI) e29), some ((vD (dT (dT dI))) other43), some ((vD (dT (dT dI))) mixed45), none, none, none, none]) (Ev.catT (Ev.catT (Ev.sl (E := (vD (dT (dT dI)))) sl_T (Ev.var (E := (vD (dT (dT dI)))) (x := own1) rfl rfl) EvO.no (EvO.yes (Ev.var (E := (vD dI)) (x := i30) rfl rfl))) (Ev.sl (E := (vD (dT (dT dI)))) sl_T (Ev.var (E := (vD (dT (dT dI)))) (x := own1) rfl rfl) (EvO.yes (Ev.add (Ev.var (E := (vD dI)) (x := i30) rfl rfl) (Ev.int 1))) EvO.no)) (Ev.sl (E := (vD (dT (dT dI)))) sl_T (Ev.var (E := (vD (dT (dT dI)))) (x := own1) rfl rfl) (EvO.yes (Ev.var (E := (vD dI)) (x := i30) rfl rfl)) (EvO.yes (Ev.add (Ev.var (E := (vD dI)) (x := i30) rfl rfl) (Ev.int 1))))) (fun _ => rfl) (fun _ => rfl) fun mixed45 =>
    Sq.for (ri := ((Z.ok (other43)).bind fun x51 => ((Z.ok (mixed45)).bind fun x49 => ((Z.lc (fun (e46 : (List Int)) => Z.fits ((cut e46 (some (1 : Int)) none) ++ (cut e46 none (some (1 : Int))))) own1).bind fun x47 => ((Z.ok [] : Z _ (List (List (List Int))))).bind fun x48 => Z.ok (x47 :: x48)).bind fun x50 => Z.ok (x49 :: x50)).bind fun x52 => Z.ok (x51 :: x52)).bind Z.fits) (s0 := ()) (Env1 := fun (s53 : Unit) => [some (vS a_script), some ((vR 0) ()), some ((vD (dT (dT dI))) own1), some ((vD dI) n2), some ((vD (dT dI)) row41), none, some ((vD dI) low8), some ((vD dI) s25), some ((vD dI) i30), some ((vD dI) j31), some ((vD dI) e29), some ((vD (dT (dT dI))) other43), some ((vD (dT (dT dI))) mixed45), none, none, none, none]) (η1 := fun (s53 : Unit) (e54 : (List (List Int))) => [some (vS a_script), some ((vR 0) ()), some ((vD (dT (dT dI))) own1), some ((vD dI) n2), some ((vD (dT dI)) row41), none, some ((vD dI) low8), some ((vD dI) s25), some ((vD dI) i30), some ((vD dI) j31), some ((vD dI) e29), some ((vD (dT (dT dI))) other43), some ((vD (dT (dT dI))) mixed45), some ((vD (dT (dT dI))) e54), none, none, none]) rfl (EvI.seq (d := (dT (dT dI))) (fun _ => rfl) (fun _ => rfl) (Ev.tup (EvL.cons (d := (dT (dT dI))) (f := fun z => z) (fun _ => rfl) (Ev.var (E := (vD (dT (dT dI)))) (x := other43) rfl rfl) (EvL.cons (d := (dT (dT dI))) (f := fun z => z) (fun _ => rfl) (Ev.var (E := (vD (dT (dT dI)))) (x := mixed45) rfl rfl) (EvL.cons (d := (dT (dT dI))) (f := fun z => z) (fun _ => rfl) (Ev.tuple (d := (dT dI)) (fun _ _ => rfl) (Ev.lc (d' := (dT dI)) (g := fun (e46 : (List Int)) => Z.fits ((cut e46 (some (1 : Int)) none) ++ (cut e46 none (some (1 : Int))))) (η1 := fun (e46 : (List Int)) => [some (vS a_script), some ((vR 0) ()), some ((vD (dT (dT dI))) own1), some ((vD dI) n2), some ((vD (dT dI)) e46), none, some ((vD dI) low8), some ((vD dI) s25), some ((vD dI) i30), some ((vD dI) j31), some ((vD dI) e29), some ((vD (dT (dT dI))) other43), some ((vD (dT (dT dI))) mixed45), none, none, none, none]) (EvI.seq (d := (dT dI)) (fun _ => rfl) (fun _ => rfl) (Ev.var (E := (vD (dT (dT dI)))) (x := own1) rfl rfl)) (fun _ => rfl) (fun _ => rfl) fun (e46 : (List Int)) => (Ev.catT (Ev.sl (E := (vD (dT dI))) sl_T (Ev.var (E := (vD (dT dI))) (x := e46) rfl rfl) (EvO.yes (Ev.int 1)) EvO.no) (Ev.sl (E := (vD (dT dI))) sl_T (Ev.var (E := (vD (dT dI))) (x := e46) rfl rfl) EvO.no (EvO.yes (Ev.int 1)))))) (EvL.nil (d := (dT (dT dI))))))))) (fun _ _ => rfl) (fun (s53 : Unit) (e54 : (List (List Int))) =>
      Sq.ifR (Env0 := Empty.elim) (rc := ((Z.lift (m_is_table e54)).bind fun z0 => (Z.lift (m__law_good e54)).bind fun z1 => Z.lift (m__law_same_truth z0 z1)).bind fun x55 => Z.ok (!x55)) (Ev.nt (Ev.call2 (E := (vD dB)) (g := fun z0 z1 => Z.lift (m__law_same_truth z0 z1)) (fun z0 z1 w => call_P (M := twn []) (w := w) rfl (_law_same_truth_is (by omega) z0 z1 _)) (Ev.call1T (E := (vD dB)) (g := Z.lift (m_is_table e54)) (fun w => call_P (M := twn []) (w := w) rfl (is_table_is (by omega) e54 _)) (Ev.var (E := (vD (dT (dT dI)))) (x := e54) rfl rfl)) (Ev.call1T (E := (vD dB)) (g := Z.lift (m__law_good e54)) (fun w => call_P (M := twn []) (w := w) rfl (_law_good_is (by omega) e54 _)) (Ev.var (E := (vD (dT (dT dI)))) (x := e54) rfl rfl)))) (Sq.ret (re := Z.ok (false)) (Ev.bl false) (fun _ => rfl)) <|
      Sq.env (η' := [some (vS a_script), some ((vR 0) ()), some ((vD (dT (dT dI))) own1), some ((vD dI) n2), some ((vD (dT dI)) row41), none, some ((vD dI) low8), some ((vD dI) s25), some ((vD dI) i30), some ((vD dI) j31), some ((vD dI) e29), some ((vD (dT (dT dI))) other43), some ((vD (dT (dT dI))) mixed45), none, none, none, none]) (fun _ => rfl) <|
      Sq.nil rfl) fun (s56 : Unit) =>
    Sq.env (η' := [some (vS a_script), some ((vR 0) ()), some ((vD (dT (dT dI))) own1), some ((vD dI) n2), none, none, some ((vD dI) low8), some ((vD dI) s25), none, none, none, none, none, none, none, none, none]) (fun _ => rfl) <|
    Sq.nil rfl) fun (s57 : Unit) =>
  Sq.asg (re := ((Z.ok (())).bind fun x74 => ((Z.ok ((5 : Int))).bind fun x72 => ((Z.ok (([] : List Int))).bind fun x70 => ((Z.ok (own1)).bind fun x68 => ((Z.fits ((((cut own1 (some (1 : Int)) none)).map fun z => (dT dI) z) ++ ((([()] : List Unit)).map fun z => dU z))).bind fun x66 => ((Z.fits (own1 ++ (cut own1 none (some (1 : Int))))).bind fun x64 => ((((((Z.opt (L2.atI own1 (-(1 : Int)))).bind fun x58 => Z.fits (x58 ++ ([(0 : Int)] : List Int))).bind fun x59 => ((Z.ok [] : Z _ (List (List Int)))).bind fun x60 => Z.ok (x59 :: x60)).bind Z.fits).bind fun x61 => Z.fits ((cut own1 none (some (-(1 : Int)))) ++ x61)).bind fun x62 => ((Z.ok [] : Z _ (List PyData))).bind fun x63 => Z.ok (((dT (dT dI)) x62) :: x63)).bind fun x65 => Z.ok (((dT (dT dI)) x64) :: x65)).bind fun x67 => Z.ok (((dT dD) x66) :: x67)).bind fun x69 => Z.ok (((dL (dT dI)) x68) :: x69)).bind fun x71 => Z.ok (((dT dI) x70) :: x71)).bind fun x73 => Z.ok ((dI x72) :: x73)).bind fun x75 => Z.ok ((dU x74) :: x75)).bind Z.fits) (η1 := fun (odds76 : (List PyData)) => [some (vS a_script), some ((vR 0) ()), some ((vD (dT (dT dI))) own1), some ((vD dI) n2), none, none, some ((vD dI) low8), some ((vD dI) s25), none, none, none, none, none, none, some ((vN dD) odds76), none, none]) (Ev.lst (EvL.cons (d := dD) (f := fun z => dU z) (fun _ => rfl) Ev.non (EvL.cons (d := dD) (f := fun z => dI z) (fun _ => rfl) (Ev.int 5) (EvL.cons (d := dD) (f := fun z => (dT dI) z) (fun _ => rfl) (Ev.tup (EvL.nil (d := dI))) (EvL.cons (d := dD) (f := fun z => (dL (dT dI)) z) (fun _ => rfl) (Ev.list (d := (dT dI)) (fun _ _ => rfl) (Ev.var (E := (vD (dT (dT dI)))) (x := own1) rfl rfl)) (EvL.cons (d := dD) (f := fun z => (dT dD) z) (fun _ => rfl) (Ev.catT (Ev.encT (f := fun z => (dT dI) z) (d' := dD) (fun _ => rfl) (Ev.sl (E := (vD (dT (dT dI)))) sl_T (Ev.var (E := (vD (dT (dT dI)))) (x := own1) rfl rfl) (EvO.yes (Ev.int 1)) EvO.no)) (Ev.encT (f := fun z => dU z) (d' := dD) (fun _ => rfl) (Ev.tup (EvL.cons (d := dU) (f := fun z => z) (fun _ => rfl) Ev.non (EvL.nil (d := dU)))))) (EvL.cons (d := dD) (f := fun z => (dT (dT dI)) z) (fun _ => rfl) (Ev.catT (Ev.var (E := (vD (dT (dT dI)))) (x := own1) rfl rfl) (Ev.sl (E := (vD (dT (dT dI)))) sl_T (Ev.var (E := (vD (dT (dT dI)))) (x := own1) rfl rfl) EvO.no (EvO.yes (Ev.int 1)))) (EvL.cons (d := dD) (f := fun z => (dT (dT dI)) z) (fun _ => rfl) (Ev.catT (Ev.sl (E := (vD (dT (dT dI)))) sl_T (Ev.var (E := (vD (dT (dT dI)))) (x := own1) rfl rfl) EvO.no (EvO.yes (Ev.neg (Ev.int 1)))) (Ev.tup (EvL.cons (d := (dT dI)) (f := fun z => z) (fun _ => rfl) (Ev.catT (Ev.ix (d := (dT dI)) (fun _ _ _ => rfl) (Ev.var (E := (vD (dT (dT dI)))) (x := own1) rfl rfl) (Ev.neg (Ev.int 1))) (Ev.tup (EvL.cons (d := dI) (f := fun z => z) (fun _ => rfl) (Ev.int 0) (EvL.nil (d := dI))))) (EvL.nil (d := (dT dI)))))) (EvL.nil (d := dD)))))))))) (fun _ => rfl) (fun _ => rfl) fun odds76 =>
  Sq.ext (xs := odds76) (d := dD) (re := ((((((Z.opt (L2.atI own1 (-(1 : Int)))).bind fun x78 => ((Z.ok [] : Z _ (List (List Int)))).bind fun x79 => Z.ok (x78 :: x79)).bind Z.fits).bind fun x80 => Z.ok ((x80).map fun z => (dL dI) z)).bind fun x81 => Z.fits ((((cut own1 none (some (-(1 : Int))))).map fun z => (dT dI) z) ++ x81)).bind fun x94 => ((Z.ok (([([true] : List Bool)] : List (List Bool)))).bind fun x92 => ((Z.ok (([([("1")] : List Str)] : List (List Str)))).bind fun x90 => ((Z.ok (([([(2 : Int)] : List Int)] : List (List Int)))).bind fun x88 => ((Z.ok (([([(0 : Int)] : List Int)] : List (List Int)))).bind fun x86 => ((Z.ok (([([(-(1 : Int))] : List Int)] : List (List Int)))).bind fun x84 => ((Z.ok (([(1 : Int)] : List Int))).bind fun x82 => ((Z.ok [] : Z _ (List PyData))).bind fun x83 => Z.ok (((dT dI) x82) :: x83)).bind fun x85 => Z.ok (((dT (dT dI)) x84) :: x85)).bind fun x87 => Z.ok (((dT (dT dI)) x86) :: x87)).bind fun x89 => Z.ok (((dT (dT dI)) x88) :: x89)).bind fun x91 => Z.ok (((dT (dT dS)) x90) :: x91)).bind fun x93 => Z.ok (((dT (dT dB)) x92) :: x93)).bind fun x95 => Z.ok (((dT dD) x94) :: x95)).bind Z.fits) (η1 := fun (odds77 : (List PyData)) => [some (vS a_script), some ((vR 0) ()), some ((vD (dT (dT dI))) own1), some ((vD dI) n2), none, none, some ((vD dI) low8), some ((vD dI) s25), none, none, none, none, none, none, some ((vN dD) odds77), none, none]) rfl (Ev.lst (EvL.cons (d := dD) (f := fun z => (dT dD) z) (fun _ => rfl) (Ev.catT (Ev.encT (f := fun z => (dT dI) z) (d' := dD) (fun _ => rfl) (Ev.sl (E := (vD (dT (dT dI)))) sl_T (Ev.var (E := (vD (dT (dT dI)))) (x := own1) rfl rfl) EvO.no (EvO.yes (Ev.neg (Ev.int 1))))) (Ev.encT (f := fun z => (dL dI) z) (d' := dD) (fun _ => rfl) (Ev.tup (EvL.cons (d := (dL dI)) (f := fun z => z) (fun _ => rfl) (Ev.list (d := dI) (fun _ _ => rfl) (Ev.ix (d := (dT dI)) (fun _ _ _ => rfl) (Ev.var (E := (vD (dT (dT dI)))) (x := own1) rfl rfl) (Ev.neg (Ev.int 1)))) (EvL.nil (d := (dL dI))))))) (EvL.cons (d := dD) (f := fun z => (dT (dT dB)) z) (fun _ => rfl) (Ev.tup (EvL.cons (d := (dT dB)) (f := fun z => z) (fun _ => rfl) (Ev.tup (EvL.cons (d := dB) (f := fun z => z) (fun _ => rfl) (Ev.bl true) (EvL.nil (d := dB)))) (EvL.nil (d := (dT dB))))) (EvL.cons (d := dD) (f := fun z => (dT (dT dS)) z) (fun _ => rfl) (Ev.tup (EvL.cons (d := (dT dS)) (f := fun z => z) (fun _ => rfl) (Ev.tup (EvL.cons (d := dS) (f := fun z => z) (fun _ => rfl) (Ev.str "1") (EvL.nil (d := dS)))) (EvL.nil (d := (dT dS))))) (EvL.cons (d := dD) (f := fun z => (dT (dT dI)) z) (fun _ => rfl) (Ev.tup (EvL.cons (d := (dT dI)) (f := fun z => z) (fun _ => rfl) (Ev.tup (EvL.cons (d := dI) (f := fun z => z) (fun _ => rfl) (Ev.int 2) (EvL.nil (d := dI)))) (EvL.nil (d := (dT dI))))) (EvL.cons (d := dD) (f := fun z => (dT (dT dI)) z) (fun _ => rfl) (Ev.tup (EvL.cons (d := (dT dI)) (f := fun z => z) (fun _ => rfl) (Ev.tup (EvL.cons (d := dI) (f := fun z => z) (fun _ => rfl) (Ev.int 0) (EvL.nil (d := dI)))) (EvL.nil (d := (dT dI))))) (EvL.cons (d := dD) (f := fun z => (dT (dT dI)) z) (fun _ => rfl) (Ev.tup (EvL.cons (d := (dT dI)) (f := fun z => z) (fun _ => rfl) (Ev.tup (EvL.cons (d := dI) (f := fun z => z) (fun _ => rfl) (Ev.neg (Ev.int 1)) (EvL.nil (d := dI)))) (EvL.nil (d := (dT dI))))) (EvL.cons (d := dD) (f := fun z => (dT dI) z) (fun _ => rfl) (Ev.tup (EvL.cons (d := dI) (f := fun z => z) (fun _ => rfl) (Ev.int 1) (EvL.nil (d := dI)))) (EvL.nil (d := dD)))))))))) (fun _ => rfl) fun odds77 =>
  Sq.app (xs := odds77) (d := dD) (f := fun y => (dT (dT dI)) y) (re := (Z.if (rangeOk 0 (6 : Int)) (rangeZ 0 (6 : Int))).bind fun x101 => Z.lc (fun (e97 : Int) => ((Z.if (smallRep e97 (([(0 : Int)] : List Int)).length) (rep (e97).toNat ([(0 : Int)] : List Int))).bind fun x98 => Z.fits (x98 ++ ([(1 : Int)] : List Int))).bind fun x99 => (Z.if (smallRep ((5 : Int) - e97) (([(0 : Int)] : List Int)).length) (rep (((5 : Int) - e97)).toNat ([(0 : Int)] : List Int))).bind fun x100 => Z.fits (x99 ++ x100)) x101) (η1 := fun (odds96 : (List PyData)) => [some (vS a_script), some ((vR 0) ()), some ((vD (dT (dT dI))) own1), some ((vD dI) n2), none, none, some ((vD dI) low8), some ((vD dI) s25), none, none, none, none, none, none, some ((vN dD) odds96), none, none]) rfl (fun _ => rfl) (Ev.tuple (d := (dT dI)) (fun _ _ => rfl) (Ev.lc (d' := (dT dI)) (g := fun (e97 : Int) => ((Z.if (smallRep e97 (([(0 : Int)] : List Int)).length) (rep (e97).toNat ([(0 : Int)] : List Int))).bind fun x98 => Z.fits (x98 ++ ([(1 : Int)] : List Int))).bind fun x99 => (Z.if (smallRep ((5 : Int) - e97) (([(0 : Int)] : List Int)).length) (rep (((5 : Int) - e97)).toNat ([(0 : Int)] : List Int))).bind fun x100 => Z.fits (x99 ++ x100)) (η1 := fun (e97 : Int) => [some (vS a_script), some ((vR 0) ()), some ((vD (dT (dT dI))) own1), some ((vD dI) n2), none, none, some ((vD dI) low8), some ((vD dI) s25), none, none, none, none, none, none, some ((vN dD) odds77), some ((vD dI) e97), none]) (EvI.rng1 (Ev.int 6)) (fun _ => rfl) (fun _ => rfl) fun (e97 : Int) => (Ev.catT (Ev.catT (Ev.repT (Ev.tup (EvL.cons (d := dI) (f := fun z => z) (fun _ => rfl) (Ev.int 0) (EvL.nil (d := dI)))) (Ev.var (E := (vD dI)) (x := e97) rfl rfl)) (Ev.tup (EvL.cons (d := dI) (f := fun z => z) (fun _ => rfl) (Ev.int 1) (EvL.nil (d := dI))))) (Ev.repT (Ev.tup (EvL.cons (d := dI) (f := fun z => z) (fun _ => rfl) (Ev.int 0) (EvL.nil (d := dI)))) (Ev.sub (Ev.int 5) (Ev.var (E := (vD dI)) (x := e97) rfl rfl)))))) (fun _ => rfl) fun odds96 =>
  Sq.ext (xs := odds96) (d := dD) (re := Z.ok (([(dT (dT dI)) ([([(1 : Int), (0 : Int)] : List Int), ([(1 : Int), (0 : Int)] : List Int)] : List (List Int)), (dT (dT dI)) ([([(0 : Int), (0 : Int)] : List Int), ([(1 : Int), (1 : Int)] : List Int)] : List (List Int)), (dT (dT dI)) ([([(1 : Int), (1 : Int), (-(1 : Int))] : List Int), ([(0 : Int), (0 : Int), (1 : Int)] : List Int), ([(0 : Int), (0 : Int), (1 : Int)] : List Int)] : List (List Int)), (dT (dT dI)) ([([(1 : Int), (-(1 : Int))] : List Int), ([(0 : Int), (1 : Int)] : List Int)] : List (List Int))] : List PyData))) (η1 := fun (odds102 : (List PyData)) => [some (vS a_script), some ((vR 0) ()), some ((vD (dT (dT dI))) own1), some ((vD dI) n2), none, none, some ((vD dI) low8), some ((vD dI) s25), none, none, none, none, none, none, some ((vN dD) odds102), none, none]) rfl (Ev.lst (EvL.cons (d := dD) (f := fun z => (dT (dT dI)) z) (fun _ => rfl) (Ev.tup (EvL.cons (d := (dT dI)) (f := fun z => z) (fun _ => rfl) (Ev.tup (EvL.cons (d := dI) (f := fun z => z) (fun _ => rfl) (Ev.int 1) (EvL.cons (d := dI) (f := fun z => z) (fun _ => rfl) (Ev.int 0) (EvL.nil (d := dI))))) (EvL.cons (d := (dT dI)) (f := fun z => z) (fun _ => rfl) (Ev.tup (EvL.cons (d := dI) (f := fun z => z) (fun _ => rfl) (Ev.int 1) (EvL.cons (d := dI) (f := fun z => z) (fun _ => rfl) (Ev.int 0) (EvL.nil (d := dI))))) (EvL.nil (d := (dT dI)))))) (EvL.cons (d := dD) (f := fun z => (dT (dT dI)) z) (fun _ => rfl) (Ev.tup (EvL.cons (d := (dT dI)) (f := fun z => z) (fun _ => rfl) (Ev.tup (EvL.cons (d := dI) (f := fun z => z) (fun _ => rfl) (Ev.int 0) (EvL.cons (d := dI) (f := fun z => z) (fun _ => rfl) (Ev.int 0) (EvL.nil (d := dI))))) (EvL.cons (d := (dT dI)) (f := fun z => z) (fun _ => rfl) (Ev.tup (EvL.cons (d := dI) (f := fun z => z) (fun _ => rfl) (Ev.int 1) (EvL.cons (d := dI) (f := fun z => z) (fun _ => rfl) (Ev.int 1) (EvL.nil (d := dI))))) (EvL.nil (d := (dT dI)))))) (EvL.cons (d := dD) (f := fun z => (dT (dT dI)) z) (fun _ => rfl) (Ev.tup (EvL.cons (d := (dT dI)) (f := fun z => z) (fun _ => rfl) (Ev.tup (EvL.cons (d := dI) (f := fun z => z) (fun _ => rfl) (Ev.int 1) (EvL.cons (d := dI) (f := fun z => z) (fun _ => rfl) (Ev.int 1) (EvL.cons (d := dI) (f := fun z => z) (fun _ => rfl) (Ev.neg (Ev.int 1)) (EvL.nil (d := dI)))))) (EvL.cons (d := (dT dI)) (f := fun z => z) (fun _ => rfl) (Ev.tup (EvL.cons (d := dI) (f := fun z => z) (fun _ => rfl) (Ev.int 0) (EvL.cons (d := dI) (f := fun z => z) (fun _ => rfl) (Ev.int 0) (EvL.cons (d := dI) (f := fun z => z) (fun _ => rfl) (Ev.int 1) (EvL.nil (d := dI)))))) (EvL.cons (d := (dT dI)) (f := fun z => z) (fun _ => rfl) (Ev.tup (EvL.cons (d := dI) (f := fun z => z) (fun _ => rfl) (Ev.int 0) (EvL.cons (d := dI) (f := fun z => z) (fun _ => rfl) (Ev.int 0) (EvL.cons (d := dI) (f := fun z => z) (fun _ => rfl) (Ev.int 1) (EvL.nil (d := dI)))))) (EvL.nil (d := (dT dI))))))) (EvL.cons (d := dD) (f := fun z => (dT (dT dI)) z) (fun _ => rfl) (Ev.tup (EvL.cons (d := (dT dI)) (f := fun z => z) (fun _ => rfl) (Ev.tup (EvL.cons (d := dI) (f := fun z => z) (fun _ => rfl) (Ev.int 1) (EvL.cons (d := dI) (f := fun z => z) (fun _ => rfl) (Ev.neg (Ev.int 1)) (EvL.nil (d := dI))))) (EvL.cons (d := (dT dI)) (f := fun z => z) (fun _ => rfl) (Ev.tup (EvL.cons (d := dI) (f := fun z => z) (fun _ => rfl) (Ev.int 0) (EvL.cons (d := dI) (f := fun z => z) (fun _ => rfl) (Ev.int 1) (EvL.nil (d := dI))))) (EvL.nil (d := (dT dI)))))) (EvL.nil (d := dD))))))) (fun _ => rfl) fun odds102 =>
  Sq.ret (re := (Z.lc (fun (e103 : PyData) => Z.lift (m_is_table_2 e103)) odds102).bind fun x104 => (Z.if (smallRep ((odds102.length : Nat) : Int) (([false] : List Bool)).length) (rep (((odds102.length : Nat) : Int)).toNat ([false] : List Bool))).bind fun x105 => Z.ok (decide (x104 = x105))) (Ev.eq (Good.L Good.B) (by decide) (fun _ _ _ => rfl) (Ev.lc (d' := dB) (g := fun (e103 : PyData) => Z.lift (m_is_table_2 e103)) (η1 := fun (e103 : PyData) => [some (vS a_script), some ((vR 0) ()), some ((vD (dT (dT dI))) own1), some ((vD dI) n2), none, none, some ((vD dI) low8), some ((vD dI) s25), none, none, none, none, none, none, some ((vN dD) odds102), none, some ((vD dD) e103)]) (EvI.seq (d := dD) (fun _ => rfl) (fun _ => rfl) (Ev.var (E := (vB dD)) (x := odds102) rfl rfl)) (fun _ => rfl) (fun _ => rfl) fun (e103 : PyData) => (Ev.call1T (E := (vD dB)) (g := Z.lift (m_is_table_2 e103)) (fun w => call_P (M := twn []) (w := w) rfl (is_table_2_is (by omega) e103 _)) (Ev.var (E := (vD dD)) (x := e103) rfl rfl))) (Ev.repL (d := dB) (fun _ _ _ => rfl) (Ev.lst (EvL.cons (d := dB) (f := fun z => z) (fun _ => rfl) (Ev.bl false) (EvL.nil (d := dB)))) (Ev.len (d := dD) (fun _ _ => rfl) (Ev.var (E := (vB dD)) (x := odds102) rfl rfl)))) (fun _ => rfl)
end SS
end
/- SK_k01 -/
set_option linter.all false
set_option maxRecDepth 100000
/-! The law k01. -/
namespace SS
open PySem L2
theorem same_number_eq (a b : Int) : m__law_same_number a b = .ok (decide (a = b)) := by
  unfold m__law_same_number
  simp
theorem same_truth_eq (a b : Bool) : m__law_same_truth a b = .ok (decide (a = b)) := by
  unfold m__law_same_truth
  simp
theorem filter_neg {r : List Int} (h : ∀ x ∈ r, -1 ≤ x ∧ x ≤ 1) : (r.filter fun x => decide (x < 0)).length = r.count (-1) := by
  rw [List.count_eq_length_filter]
  congr 1
  apply List.filter_congr
  intro x hx
  have := h x hx
  by_cases q : x = -1
  · simp [q]
  · have : ¬ x < 0 := by omega
    simp [q, this]
theorem low_eq {W : Type} {n : Nat} {T : List (List Int)} (s : Sqr n T) (e : Ent T) (h5 : n ≤ 5) : (Z.lc (W := W) (fun (e4 : (List Int)) => (Z.fits (((e4).filter fun (e5 : Int) => decide (e5 < (0 : Int))).map fun (e5 : Int) => e5)).bind fun x6 => Z.ok (((x6.length : Nat) : Int))) T).bind (fun x7 => Z.ok ((x7).sum)) = Z.ok (negP T) := by
  rw [Z.lc_ok (f := fun r : List Int => ((r.count (-1) : Nat) : Int))]
  · rfl
  · intro r hr
    have l := s.row r hr
    rw [Z.fits_ok (by simp only [List.map_id']; exact Nat.le_trans (List.length_filter_le _ _) (by omega))]
    simp only [Z.ok_bind', List.map_id', filter_neg (e r hr)]
  · rw [s.len]; omega
/-- the law's count of inversions -/
def invL (n : Nat) (T : List (List Int)) : Int := ((List.range n).map fun i => ((List.range n).map fun j => cell T i j * ((T.drop (i + 1)).map fun r => (r.take j).sum).sum).sum).sum
def invB (n : Nat) (T : List (List Int)) : Bool := decide (invL n T = invP T) && decide (negP T ≤ invP T)
theorem inv_all : ((List.range 6).all fun n => (sumsOf n).all fun R => invB n (unL R)) = true := by decide +kernel
theorem ent_small {n : Nat} {T : List (List Int)} (s : Sqr n T) (e : Ent T) {i j : Nat} (hi : i < n) (hj : j < n) : -1 ≤ cell T i j ∧ cell T i j ≤ 1 := by
  have h1 : T.getD i [] ∈ T := getD_mem (by rw [s.len]; exact hi)
  exact e _ h1 _ (getD_mem (by rw [s.row _ h1]; exact hj))
theorem inv_loop {n : Nat} {T : List (List Int)} {body : Int → Int → Y Nat Int Bool} (s : Sqr n T) (e : Ent T) (h5 : n ≤ 5) (hb : ∀ s13 e14, body s13 e14 = Y.then (Y.for (fun (s15 : (Int)) (e16 : Int) =>
      Z.so (((Z.opt (L2.atI T e14)).bind fun x17 => Z.opt (L2.atI x17 e16)).bind fun x20 => ((Z.fits (((cut T (some (e14 + (1 : Int))) none)).map fun (e18 : (List Int)) => ((cut e18 none (some e16))).sum)).bind fun x19 => Z.ok ((x19).sum)).bind fun x21 => Z.if (small64 x20 || small64 x21) (x20 * x21)) fun y22 =>
      Y.nx ((s15 + y22))) (rangeZ 0 (n : Int)) (s13)) fun s24 => Y.nx (s24)) : Y.for body (rangeZ 0 (n : Int)) 0 = Y.nx (invL n T) := by
  rw [rangeZ_nat]
  obtain ⟨q, _⟩ := Y.for_fold (body := body) (step := fun (t : Int) (x : Int) => t + ((List.range n).map fun j => cell T x.toNat j * ((T.drop (x.toNat + 1)).map fun r => (r.take j).sum).sum).sum) (fun _ => True) (xs := (List.range n).map fun i => ((i : Nat) : Int)) (s := 0) trivial (fun t _ x hx => by
    obtain ⟨i, hi, rfl⟩ := List.mem_map.mp hx
    have hi := List.mem_range.mp hi
    refine ⟨?_, trivial⟩
    rw [hb, rangeZ_nat]
    obtain ⟨q, _⟩ := Y.for_fold (W := Nat) (ρ := Bool) (body := fun (s15 : (Int)) (e16 : Int) =>
      Z.so (((Z.opt (L2.atI T (i : Int))).bind fun x17 => Z.opt (L2.atI x17 e16)).bind fun x20 => ((Z.fits (((cut T (some ((i : Int) + (1 : Int))) none)).map fun (e18 : (List Int)) => ((cut e18 none (some e16))).sum)).bind fun x19 => Z.ok ((x19).sum)).bind fun x21 => Z.if (small64 x20 || small64 x21) (x20 * x21)) fun y22 =>
      Y.nx ((s15 + y22))) (step := fun (t : Int) (y : Int) => t + cell T i y.toNat * ((T.drop (i + 1)).map fun r => (r.take y.toNat).sum).sum) (fun _ => True) (xs := (List.range n).map fun i => ((i : Nat) : Int)) (s := t) trivial (fun t _ y hy => by
      obtain ⟨j, hj, rfl⟩ := List.mem_map.mp hy
      have hj := List.mem_range.mp hj
      refine ⟨?_, trivial⟩
      rw [s.grid.at2 hi hj, show ((i : Int) + 1) = ((i + 1 : Nat) : Int) from by omega]
      simp only [Z.ok_bind', cut_from, cut_to, Int.toNat_natCast]
      rw [Z.fits_ok (by simp [s.len]; omega)]
      simp only [Z.ok_bind', small1 (ent_small s e hi hj), Bool.true_or, Z.if_true, Z.ok_so])
    rw [q, Y.nx_then, foldl_sum, List.map_map]
    rfl)
  rw [q, foldl_sum, List.map_map, Int.zero_add]
  rfl
/-! ### changed tables -/
theorem Sqr.of_parts {n : Nat} {T : List (List Int)} (h : T.length = n) (h2 : ∀ r ∈ T, r.length = n) : Sqr n T := ⟨h, h2⟩
theorem cut_one {α : Type} {xs : List α} {i : Nat} (h : i < xs.length) : cut xs (some (i : Int)) (some ((i : Int) + 1)) = [xs[i]] := by
  unfold cut
  rw [show ((i : Int) + 1) = ((i + 1 : Nat) : Int) from by omega, HT.sIx_nat, HT.sIx_nat, Nat.min_eq_left (by omega), Nat.min_eq_left (by omega)]
  rw [show i + 1 - i = 1 from by omega, List.take_one, List.head?_drop, List.getElem?_eq_getElem h]
  rfl
theorem cut_m1 {α : Type} (xs : List α) : cut xs none (some (-(1 : Int))) = xs.dropLast := by
  unfold cut
  rw [HT.sIx_none]
  have : HT.sIx xs.length xs.length (some (-(1 : Int))) = xs.length - 1 := by
    unfold HT.sIx
    simp
    omega
  rw [this, List.dropLast_eq_take]
  simp
theorem same_ok {n : Nat} {e : List (List Int)} (s : Sqr n e) (en : Ent e) (h1 : 1 ≤ n) (h5 : n ≤ 5) : (Z.so (((Z.lift (m_is_table e)).bind fun z0 => (Z.lift (m__law_good e)).bind fun z1 => Z.ok (decide (z0 = z1))).bind fun x55 => Z.ok (!x55)) fun k => if k then Y.all (Y.rt false) else Y.nx () : Y Nat Unit Bool) = if true then Y.nx () else Y.rt false := by
  rw [is_table_eq s en h1 h5, good_eq s (by omega), isTab_good s en h5]
  simp
theorem rep_false (n : Nat) : rep n [false] = List.replicate n false := by
  unfold rep
  induction n with
  | zero => rfl
  | succ n ih => rw [List.replicate_succ, List.flatten_cons, ih, List.replicate_succ]; rfl
theorem plain_row {r : List Int} (h : r.length ≤ 1000) : plainRow (dT dI r) = true := by
  show ((r.map dI).all noDict && decide ((r.map dI).length ≤ 1000)) = true
  rw [List.length_map, decide_eq_true h, Bool.and_true, List.all_map]
  rw [List.all_eq_true]
  intro x _
  rfl
theorem all_false {α : Type} {p : α → Bool} {xs : List α} {x : α} (h : x ∈ xs) (hx : p x = false) : xs.all p = false := by
  rw [List.all_eq_false]
  exact ⟨x, h, by simp [hx]⟩
theorem sq_false {rows : List PyData} {r : PyData} (h : r ∈ rows) (hr : rowOk rows.length (-1) 1 r = false) : isSq 1 5 (-1) 1 (.tuple rows) = false := by
  simp only [isSq, all_false h hr, Bool.and_false]
theorem rowOk_len {n : Nat} {r : List Int} (h : r.length ≠ n) : rowOk n (-1) 1 (dT dI r) = false := by
  show (decide ((r.map dI).length = n) && _) = false
  rw [List.length_map, decide_eq_false h]
  rfl
/-- the odd values of the law -/
def oddsP (T : List (List Int)) : List PyData := [dU (), dI 5, dT dI [], dL (dT dI) T, dT dD ((T.drop 1).map (fun z => (dT dI) z) ++ [dU ()]), dT (dT dI) (T ++ T.take 1), dT (dT dI) (T.dropLast ++ [(T.getLast?.getD []) ++ [0]]),
  dT dD (T.dropLast.map (fun z => (dT dI) z) ++ [dL dI (T.getLast?.getD [])]), dT (dT dB) [[true]], dT (dT dS) [["1"]], dT (dT dI) [[2]], dT (dT dI) [[0]], dT (dT dI) [[-1]], dT dI [1],
  dT (dT dI) [[1, 0, 0, 0, 0, 0], [0, 1, 0, 0, 0, 0], [0, 0, 1, 0, 0, 0], [0, 0, 0, 1, 0, 0], [0, 0, 0, 0, 1, 0], [0, 0, 0, 0, 0, 1]],
  dT (dT dI) [[1, 0], [1, 0]], dT (dT dI) [[0, 0], [1, 1]], dT (dT dI) [[1, 1, -1], [0, 0, 1], [0, 0, 1]], dT (dT dI) [[1, -1], [0, 1]]]
theorem odds_no {n : Nat} {T : List (List Int)} (s : Sqr n T) (h1 : 1 ≤ n) (h5 : n ≤ 5) : ∀ e ∈ oddsP T, m_is_table_2 e = .ok false := by
  have hl : ∀ r ∈ T, r.length = n := s.row
  have hlast : T.getLast?.getD [] ∈ T := by
    have : T ≠ [] := by intro e; have := s.len; rw [e] at this; simp at this; omega
    rw [List.getLast?_eq_some_getLast this]
    exact List.getLast_mem this
  have pr : ∀ r ∈ T, plainRow (dT dI r) = true := fun r hr => plain_row (by rw [hl r hr]; omega)
  have prm : ∀ U : List (List Int), (∀ r ∈ U, r.length ≤ 1000) → plainT (dT (dT dI) U) = true := by
    intro U hU
    show (U.map (dT dI)).all plainRow = true
    rw [List.all_map, List.all_eq_true]
    intro r hr
    exact plain_row (hU r hr)
  intro e he
  unfold oddsP at he
  simp only [List.mem_cons, List.not_mem_nil, or_false] at he
  rcases he with rfl | rfl | rfl | rfl | rfl | rfl | rfl | rfl | rfl | rfl | rfl | rfl | rfl | rfl | rfl | rfl | rfl | rfl | rfl
  · exact no_table_D rfl rfl
  · exact no_table_D rfl rfl
  · exact no_table_D rfl rfl
  · exact no_table_D rfl rfl
  · refine no_table_D ?_ ?_
    · show (((T.drop 1).map (fun z => (dT dI) z) ++ [dU ()]).map dD).all plainRow = true
      rw [map_dD, List.all_append, List.all_map, Bool.and_eq_true, List.all_eq_true]
      exact ⟨fun r hr => pr r (List.mem_of_mem_drop hr), rfl⟩
    · show isSq 1 5 (-1) 1 (.tuple (((T.drop 1).map (fun z => (dT dI) z) ++ [dU ()]).map dD)) = false
      rw [map_dD]
      exact sq_false (r := .none) (by simp) rfl
  · refine no_table_D (prm _ fun r hr => ?_) ?_
    · rcases List.mem_append.mp hr with h | h
      · rw [hl r h]; omega
      · rw [hl r (List.mem_of_mem_take h)]; omega
    · cases T with
      | nil => have := s.len; simp at this; omega
      | cons r T =>
        have := hl r List.mem_cons_self
        have ln := s.len
        refine sq_false (r := dT dI r) (by simp) (rowOk_len ?_)
        simp only [List.length_map, List.length_append, List.length_take, List.length_cons] at ln ⊢
        omega
  · refine no_table_D (prm _ fun r hr => ?_) ?_
    · rcases List.mem_append.mp hr with h | h
      · rw [hl r (List.dropLast_subset _ h)]; omega
      · simp at h
        subst h
        simp
        have := hl _ hlast
        omega
    · refine sq_false (r := dT dI ((T.getLast?.getD []) ++ [0])) (by simp) (rowOk_len ?_)
      have := hl _ hlast
      have ln := s.len
      simp only [List.length_map, List.length_append, List.length_dropLast, List.length_cons, List.length_nil]
      omega
  · refine no_table_D ?_ ?_
    · show ((T.dropLast.map (fun z => (dT dI) z) ++ [dL dI (T.getLast?.getD [])]).map dD).all plainRow = true
      rw [map_dD, List.all_append, List.all_map, Bool.and_eq_true, List.all_eq_true]
      exact ⟨fun r hr => pr r (List.dropLast_subset _ hr), rfl⟩
    · show isSq 1 5 (-1) 1 (.tuple ((T.dropLast.map (fun z => (dT dI) z) ++ [dL dI (T.getLast?.getD [])]).map dD)) = false
      rw [map_dD]
      exact sq_false (r := dL dI (T.getLast?.getD [])) (by simp) rfl
  all_goals decide +kernel
theorem k01_ok {ns : List Int} (hl : ns.length ≤ 63) : Ok (m_law_k01 ns) 300 fun b => b = true := by
  unfold m_law_k01
  refine (OkY.fin (P := fun _ => True) (Ok.so (C := 200) (some_table_ok (u := ()) hl (by decide) (by decide)) fun T hT => ?_)).mono (by omega) fun _ h => h
  obtain ⟨n, h1, h5, h⟩ := hT
  have h5 : n ≤ 5 := by omega
  have s := h.sq
  have en := h.ent
  have rk : rangeOk 0 (n : Int) = true := rangeOk_of (by omega) (by omega) (by omega) (by omega)
  have r4 : rangeOk 0 (4 : Int) = true := rfl
  have ib := h.all (P := invB) h5 inv_all
  unfold invB at ib
  simp only [Bool.and_eq_true, decide_eq_true_eq] at ib
  rw [s.len, low_eq s en h5]
  simp only [Z.ok_so, h.is_table h1 h5, h.negatives h1 h5, h.isperm h1 h5, h.inversions h1 h5, same_number_eq, same_truth_eq, Z.lift_ok, Z.ok_bind', decide_true, Bool.not_true, Bool.false_eq_true, if_false, rk, r4, Z.if_true]
  rw [inv_loop s en h5 fun _ _ => rfl]
  have nlt : decide (invP T < negP T) = false := by simp; omega
  simp only [Y.nx_then, ib.1, nlt, decide_true, Bool.not_true, Bool.or_self, Bool.false_eq_true, if_false]
  refine OkY.mono (OkY.then (B := 4 * 3) (C := 0) (P := fun _ => True) (OkY.for' (N := 4) (B := 3) (I := fun _ => True) trivial (by decide) fun _ _ x _ => ?_) fun _ _ => ?_) (by omega) (fun _ h => h) fun _ h => h
  · -- changed tables
    refine OkY.mono (Ok.so (B := 1) (C := 2) (draw_ok (u := ()) hl (by omega)) fun i hi => (Ok.so (B := 1) (C := 1) (draw_ok (u := ()) hl (by omega)) fun j hj => ?_)) (by omega) (fun _ h => h) fun _ h => h
    obtain ⟨i, rfl⟩ : ∃ a : Nat, i = a := ⟨i.toNat, by omega⟩
    obtain ⟨j, rfl⟩ : ∃ a : Nat, j = a := ⟨j.toNat, by omega⟩
    have hi' : i < n := by omega
    have hj' : j < n := by omega
    obtain ⟨a1, a2⟩ := s.grid.row_at hi'
    have hit : i < T.length := by rw [s.len]; exact hi'
    have em : T.getD i [] ∈ T := getD_mem hit
    have ee := en _ em
    rw [atI_n, a1, show ((i : Int) + 1) = ((i + 1 : Nat) : Int) from by omega, show ((j : Int) + 1) = ((j + 1 : Nat) : Int) from by omega]
    simp only [Z.opt_some, Z.ok_bind', cut_to, cut_from]
    generalize T.getD i [] = r at a1 a2 em ee
    refine Ok.so (B := 1) (C := 0) (P := fun row : List Int => row.length = n ∧ ∀ x ∈ row, -1 ≤ x ∧ x ≤ 1) ?_ fun row hrow => ?_
    · refine (Ok.bind (B := 1) (C := 0) (P := fun x39 : List Int => ∃ v, (-1 ≤ v ∧ v ≤ 1) ∧ x39 = r.take j ++ [v]) ?_ fun x39 hx => ?_).mono (by omega) fun _ h => h
      · refine (Ok.bind (B := 1) (C := 0) (P := fun x37 : List Int => ∃ v, (-1 ≤ v ∧ v ≤ 1) ∧ x37 = [v]) ?_ fun x37 hx => ?_).mono (by omega) fun _ h => h
        · refine (Ok.bind (B := 1) (C := 0) (P := fun x37 : List Int => ∃ v, (-1 ≤ v ∧ v ≤ 1) ∧ x37 = [v]) ?_ fun x37 hx => ?_).mono (by omega) fun _ h => h
          · refine (Ok.bind (B := 1) (C := 0) (P := fun v : Int => -1 ≤ v ∧ v ≤ 1) ?_ fun v hv => Ok.ok ⟨v, hv, rfl⟩).mono (by omega) fun _ h => h
            exact (Ok.bind (B := 1) (C := 0) (draw_ok (u := ()) hl (by decide)) fun v hv => Ok.ok (P := fun v : Int => -1 ≤ v ∧ v ≤ 1) (by omega)).mono (by omega) fun _ h => h
          · obtain ⟨v, hv, rfl⟩ := hx
            exact Ok.eq (Z.fits_ok (by simp)) ⟨v, hv, rfl⟩
        · obtain ⟨v, hv, rfl⟩ := hx
          exact Ok.eq (Z.fits_ok (by simp; omega)) ⟨v, hv, rfl⟩
      · obtain ⟨v, hv, rfl⟩ := hx
        refine Ok.eq (Z.fits_ok (by simp; omega)) ⟨by simp; omega, fun x hx => ?_⟩
        rcases List.mem_append.mp hx with q | q
        · rcases List.mem_append.mp q with q | q
          · exact ee x (List.mem_of_mem_take q)
          · simp at q; subst q; exact hv
        · exact ee x (List.mem_of_mem_drop q)
    · have so : Sqr n (T.take i ++ [row] ++ T.drop (i + 1)) := ⟨by simp [s.len]; omega, fun q hq => by
        rcases List.mem_append.mp hq with q1 | q1
        · rcases List.mem_append.mp q1 with q1 | q1
          · exact s.row q (List.mem_of_mem_take q1)
          · simp at q1; subst q1; exact hrow.1
        · exact s.row q (List.mem_of_mem_drop q1)⟩
      have eo : Ent (T.take i ++ [row] ++ T.drop (i + 1)) := fun q hq => by
        rcases List.mem_append.mp hq with q1 | q1
        · rcases List.mem_append.mp q1 with q1 | q1
          · exact en q (List.mem_of_mem_take q1)
          · simp at q1; subst q1; exact hrow.2
        · exact en q (List.mem_of_mem_drop q1)
      have c1 : cut T (some (i : Int)) (some ((i + 1 : Nat) : Int)) = [T[i]] := by
        rw [show ((i + 1 : Nat) : Int) = (i : Int) + 1 from by omega]
        exact cut_one hit
      have sm : Sqr n (T.take i ++ T.drop (i + 1) ++ [T[i]]) := ⟨by simp [s.len]; omega, fun q hq => by
        rcases List.mem_append.mp hq with q1 | q1
        · rcases List.mem_append.mp q1 with q1 | q1
          · exact s.row q (List.mem_of_mem_take q1)
          · exact s.row q (List.mem_of_mem_drop q1)
        · simp at q1; subst q1; exact s.row _ (List.getElem_mem hit)⟩
      have em2 : Ent (T.take i ++ T.drop (i + 1) ++ [T[i]]) := fun q hq => by
        rcases List.mem_append.mp hq with q1 | q1
        · rcases List.mem_append.mp q1 with q1 | q1
          · exact en q (List.mem_of_mem_take q1)
          · exact en q (List.mem_of_mem_drop q1)
        · simp at q1; subst q1; exact en _ (List.getElem_mem hit)
      have sr : Sqr n (T.map fun r => r.drop 1 ++ r.take 1) := ⟨by simp [s.len], fun q hq => by
        obtain ⟨r, hr, rfl⟩ := List.mem_map.mp hq
        have := s.row r hr
        simp; omega⟩
      have er : Ent (T.map fun r => r.drop 1 ++ r.take 1) := fun q hq x hx => by
        obtain ⟨r, hr, rfl⟩ := List.mem_map.mp hq
        rcases List.mem_append.mp hx with q1 | q1
        · exact en r hr x (List.mem_of_mem_drop q1)
        · exact en r hr x (List.mem_of_mem_take q1)
      rw [Z.fits_ok (by simp [s.len]; omega), c1]
      simp only [Z.ok_bind']
      rw [Z.fits_ok (by have := so.len; simp only [List.length_append, List.length_take, List.length_drop, List.length_cons, List.length_nil] at this ⊢; omega)]
      simp only [Z.ok_so]
      rw [Z.fits_ok (by simp [s.len]; omega)]
      simp only [Z.ok_bind']
      rw [Z.fits_ok (by have := sm.len; simp only [List.length_append, List.length_take, List.length_drop, List.length_cons, List.length_nil] at this ⊢; omega)]
      simp only [Z.ok_so]
      rw [Z.lc_ok (f := fun r : List Int => r.drop 1 ++ r.take 1) (fun r hr => by
        rw [cut1, show (some (1 : Int)) = some ((1 : Nat) : Int) from rfl, cut_to]
        exact Z.fits_ok (by have := s.row r hr; simp; omega)) (by rw [s.len]; omega)]
      simp only [Z.ok_bind']
      rw [Z.fits_ok (by simp)]
      simp only [Z.ok_so]
      rw [Y.for_all (p := fun _ => true) (v := false)]
      · simp only [List.all_cons, List.all_nil, Bool.and_self, if_true, Y.nx_then]
        exact OkY.nx trivial
      · intro e he
        simp only [List.mem_cons, List.not_mem_nil, or_false] at he
        rcases he with rfl | rfl | rfl
        · exact same_ok so eo h1 h5
        · exact same_ok sm em2 h1 h5
        · exact same_ok sr er h1 h5
  · -- odd values
    have hne : T ≠ [] := by intro e; have := s.len; rw [e] at this; simp at this; omega
    have la : L2.atI T (-(1 : Int)) = some (T.getLast?.getD []) := by
      have := atI_last T
      rw [List.getLast?_eq_some_getLast hne] at this ⊢
      exact this
    have ll : (T.getLast?.getD []).length = n := by
      rw [List.getLast?_eq_some_getLast hne]
      exact s.row _ (List.getLast_mem hne)
    have idd : (Z.if (W := Nat) (rangeOk 0 (6 : Int)) (rangeZ 0 (6 : Int))).bind (fun x101 => Z.lc (fun (e97 : Int) => ((Z.if (smallRep e97 (([(0 : Int)] : List Int)).length) (rep (e97).toNat ([(0 : Int)] : List Int))).bind fun x98 => Z.fits (x98 ++ ([(1 : Int)] : List Int))).bind fun x99 => (Z.if (smallRep ((5 : Int) - e97) (([(0 : Int)] : List Int)).length) (rep (((5 : Int) - e97)).toNat ([(0 : Int)] : List Int))).bind fun x100 => Z.fits (x99 ++ x100)) x101) = Z.ok [[1, 0, 0, 0, 0, 0], [0, 1, 0, 0, 0, 0], [0, 0, 1, 0, 0, 0], [0, 0, 0, 1, 0, 0], [0, 0, 0, 0, 1, 0], [0, 0, 0, 0, 0, 1]] := by
      funext t
      rfl
    rw [idd, la, cut1, cut_m1, show (some (1 : Int)) = some ((1 : Nat) : Int) from rfl, cut_to]
    simp only [Z.opt_some, Z.ok_bind']
    rw [Z.fits_ok (xs := List.map (fun z => dT dI z) (List.drop 1 T) ++ List.map (fun z => dU z) [()]) (by simp [s.len]; omega), Z.fits_ok (xs := T ++ T.take 1) (by simp [s.len]; omega), Z.fits_ok (xs := T.getLast?.getD [] ++ [0]) (by simp [ll]; omega)]
    simp only [Z.ok_bind']
    rw [Z.fits_ok (xs := [T.getLast?.getD [] ++ [0]]) (by simp), Z.fits_ok (xs := [T.getLast?.getD []]) (by simp)]
    simp only [Z.ok_bind']
    rw [Z.fits_ok (xs := T.dropLast ++ [T.getLast?.getD [] ++ [0]]) (by simp [s.len]; omega), Z.fits_ok (xs := List.map (fun z => dT dI z) T.dropLast ++ List.map (fun z => dL dI z) [T.getLast?.getD []]) (by simp [s.len]; omega)]
    simp only [Z.ok_bind']
    rw [Z.fits_ok (by simp), Z.fits_ok (by simp)]
    simp only [Z.ok_so]
    rw [Z.fits_ok (by simp)]
    simp only [Z.ok_so]
    rw [Z.fits_ok (by simp)]
    simp only [Z.ok_so]
    rw [Z.fits_ok (by simp)]
    simp only [Z.ok_so]
    refine OkY.mono (?_ : OkY (Z.so ((Z.lc (fun (e103 : PyData) => Z.lift (m_is_table_2 e103)) (oddsP T)).bind fun x104 => (Z.if (smallRep (((oddsP T).length : Nat) : Int) (([false] : List Bool)).length) (rep ((((oddsP T).length : Nat) : Int)).toNat ([false] : List Bool))).bind fun x105 => Z.ok (decide (x104 = x105))) fun x => Y.rt x) 0 (fun _ => True) fun b => b = true) (by omega) (fun _ h => h) fun _ h => h
    rw [Z.lc_ok (f := fun _ => false) (fun e he => by rw [odds_no s h1 h5 e he]; rfl) (by simp [oddsP])]
    have l19 : (oddsP T).length = 19 := by simp [oddsP]
    rw [l19, rep_false]
    have e1 : smallRep (((19 : Nat) : Int)) ([false] : List Bool).length = true := rfl
    rw [e1]
    simp only [Z.if_true, Z.ok_bind', Z.ok_so]
    refine OkY.rt ?_
    simp [List.map_const', l19]
theorem k01_true (ns : List Int) (hl : ns.length ≤ 63) : ∃ m, sem tab 12 f_law_k01 [.scr ns] [] = .ok (.dat (.bool true)) m := by
  obtain ⟨a, t, e, _, rfl⟩ := k01_ok hl 0 (by omega)
  refine ⟨twn [] t, ?_⟩
  have := law_k01_is (k := 12) (by omega) ns
  rw [e] at this
  exact this
end SS
/- SD_k01 -/
section
set_option Elab.async false
set_option linter.all false
set_option maxRecDepth 100000
set_option maxHeartbeats 0
/-! The defs of the law. -/
namespace SS.k01
open PySem L2
def top (i : Nat) : Stmt := PySem.Challenge.pw_signsquares_k01_whole_tables.main.body.getD i (.Pass ⟨0, 0, 0, 0⟩)
def I : Inf := ⟨[(f_is_integer, "is_integer"), (f_alternates, "alternates"), (f_columns_of, "columns_of"), (f_is_square, "is_square"), (f_is_table, "is_table"), (f_check_table, "check_table"), (f_negative_count, "negative_count"), (f_is_permutation, "is_permutation"), (f_inversion_count, "inversion_count"), (f_inversions, "inversions"), (f_negatives, "negatives"), (f__law_cell_at, "_law_cell_at"), (f__law_mixed, "_law_mixed"), (f__law_draw, "_law_draw"), (f__law_same_number, "_law_same_number"), (f__law_same_truth, "_law_same_truth"), (f__law_pick, "_law_pick"), (f__law_corners, "_law_corners"), (f__law_sum_like, "_law_sum_like"), (f__law_uncorner, "_law_uncorner"), (f__law_some_table, "_law_some_table"), (f__law_good, "_law_good"), (f_law_k01, "law")], [("SIZE", 5)], [], ["TableError", "InvalidTable"]⟩
def d_is_integer : DI := ⟨f_is_integer, "is_integer", top 5, ["value", "low", "high"]⟩
def d_alternates : DI := ⟨f_alternates, "alternates", top 6, ["line", "total", "entry"]⟩
def d_columns_of : DI := ⟨f_columns_of, "columns_of", top 7, ["rows", "at", "row"]⟩
def d_is_square : DI := ⟨f_is_square, "is_square", top 8, ["value", "least", "most", "low", "high", "row", "entry"]⟩
def d_is_table : DI := ⟨f_is_table, "is_table", top 9, ["value", "line"]⟩
def d_check_table : DI := ⟨f_check_table, "check_table", top 10, ["table"]⟩
def d_negative_count : DI := ⟨f_negative_count, "negative_count", top 11, ["table", "row"]⟩
def d_is_permutation : DI := ⟨f_is_permutation, "is_permutation", top 12, ["table"]⟩
def d_inversion_count : DI := ⟨f_inversion_count, "inversion_count", top 13, ["table", "total", "above", "row", "at", "entry", "one"]⟩
def d_inversions : DI := ⟨f_inversions, "inversions", top 14, ["table"]⟩
def d_negatives : DI := ⟨f_negatives, "negatives", top 15, ["table"]⟩
def d__law_cell_at : DI := ⟨f__law_cell_at, "_law_cell_at", top 17, ["script", "k", "spare", "again"]⟩
def d__law_mixed : DI := ⟨f__law_mixed, "_law_mixed", top 18, ["script", "k", "many", "spun"]⟩
def d__law_draw : DI := ⟨f__law_draw, "_law_draw", top 19, ["script", "town", "many"]⟩
def d__law_same_number : DI := ⟨f__law_same_number, "_law_same_number", top 20, ["got", "due"]⟩
def d__law_same_truth : DI := ⟨f__law_same_truth, "_law_same_truth", top 21, ["got", "due"]⟩
def d__law_pick : DI := ⟨f__law_pick, "_law_pick", top 22, ["script", "town", "some"]⟩
def d__law_corners : DI := ⟨f__law_corners, "_law_corners", top 23, ["own", "n", "rows", "i", "j", "row"]⟩
def d__law_sum_like : DI := ⟨f__law_sum_like, "_law_sum_like", top 24, ["rows", "n", "i", "j"]⟩
def d__law_uncorner : DI := ⟨f__law_uncorner, "_law_uncorner", top 25, ["rows", "n", "made", "i", "one", "below_one", "steps", "j"]⟩
def d__law_some_table : DI := ⟨f__law_some_table, "_law_some_table", top 26, ["script", "town", "most", "n", "left", "made", "again", "one", "at", "row", "rows", "i", "j", "by"]⟩
def d__law_good : DI := ⟨f__law_good, "_law_good", top 27, ["own", "j", "row", "lines", "line", "entry", "signs", "at"]⟩
def d_law_k01 : DI := ⟨f_law_k01, "law", top 28, ["script", "town", "own", "n", "row", "entry", "low", "total", "i", "j", "again", "other", "mixed", "table", "odds", "at", "odd"]⟩
def defs : List DI := [d_is_integer, d_alternates, d_columns_of, d_is_square, d_is_table, d_check_table, d_negative_count, d_is_permutation, d_inversion_count, d_inversions, d_negatives, d__law_cell_at, d__law_mixed, d__law_draw, d__law_same_number, d__law_same_truth, d__law_pick, d__law_corners, d__law_sum_like, d__law_uncorner, d__law_some_table, d__law_good, d_law_k01]
end SS.k01
end
/- SH_k01 -/
section
set_option Elab.async false
set_option linter.all false
set_option maxRecDepth 100000
set_option maxHeartbeats 0
namespace SS
def lev : Nat := 12
end SS
namespace SS.k01
open PySem PySem.Spec PyProof.Rows L2
abbrev R : PySem.W.OpenRow := PySem.W.OpenLaw.row PySem.Challenge.rw_signsquares_k01_whole_tables
abbrev hk : PySem.W.Hook := He.hookD 6 (faL I defs) (fnL defs)
def ob (s : PySem.W.SharedT) : He.AlD := He.obsDG 6 (faL I defs) (fnL defs) (HandSHeadRun.getT s)
theorem ob_eq (s : PySem.W.SharedT) : ob s = hk.obs s.abs := He.obsDG_eq (HandSHeadRun.getT_eq s)
def loose0 : List Str := ["TableError", "InvalidTable", "SIZE", "is_integer", "alternates", "columns_of", "is_square", "is_table", "check_table", "negative_count", "is_permutation", "inversion_count", "inversions", "negatives", "_law_cell_at", "_law_mixed", "_law_draw", "_law_same_number", "_law_same_truth", "_law_pick", "_law_corners", "_law_sum_like", "_law_uncorner", "_law_some_table", "_law_good"]
abbrev loose : List Str := loose0
theorem run (w : World) : HandSHeadRun.RunEq R (PySem.W.view R.prog [28]) hk ob 2000 loose w := by
  intro os
  kernel_rfl
theorem text_ok : (defs.all fun d => d.ok I tab) = true := by decide +kernel
theorem fns_ok : fnsB I defs = true := by decide +kernel
end SS.k01
open PySem PySem.W PySem.Calls PyProof.Rows
theorem SS.k01.holds (hev : ∀ ns : List Int, ns.length ≤ 63 → ∃ m, SS.sem SS.tab SS.lev SS.f_law_k01 [.scr ns] [] = .ok (.dat (.bool true)) m) : PySem.Challenge.rw_signsquares_k01_whole_tables.Holds := by
  w_on; o_law
  refine HandSHeadRun.head_any (r := OpenLaw.row PySem.Challenge.rw_signsquares_k01_whole_tables) (q := view (OpenLaw.row PySem.Challenge.rw_signsquares_k01_whole_tables).prog [28]) (H := SS.k01.hk) (ob := SS.k01.ob) (M := 2000) (loose := SS.k01.loose) (d := HandSHeadRun.topDef (OpenLaw.row PySem.Challenge.rw_signsquares_k01_whole_tables).prog 28) (kwd := []) SS.k01.ob_eq
    (by kernel_rfl) (fun s => by kernel_rfl) SS.k01.run (by kernel_rfl) (by kernel_rfl) (by kernel_rfl) (by rfl) (by first | assumption | decide +kernel) (by decide +kernel) ⟨rfl, rfl, rfl, rfl, rfl, by decide +kernel⟩ ?hw ?hc
  case hw => w_witness2
  case hc =>
    refine SS.walk_me (I := SS.k01.I) (tab := SS.tab) (defs := SS.k01.defs) (l := PySem.Challenge.rw_signsquares_k01_whole_tables) (n := 63) (k := SS.lev) (lw := SS.k01.d_law_k01) rfl (by decide) (by kernel_rfl) ⟨rfl, by decide, by decide⟩ SS.gaps_all (fun w h y => y) SS.k01.text_ok SS.k01.fns_ok (by decide +kernel) (by unfold SS.k01.defs; simp only [List.mem_cons, true_or, or_true]) (by kernel_rfl) (by kernel_rfl) hev
end
set_option maxHeartbeats 0 in
theorem PySem.Challenge.cw_signsquares_k01_whole_tables_holds : PySem.Challenge.rw_signsquares_k01_whole_tables.Holds := by
  exact SS.k01.holds SS.k01_true
