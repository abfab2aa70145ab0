import PyProof.Rows.All
import HandS.ForMost
import HandS.Flow
import HandS.Style
import HandS.Deep
import HandS.DictComp
import HandS.IsInst
import HandS.TupAny
import HandS.Rev
import HandS.Zip
import HandS.CallLocal
import HandS.Words
import HandS.SetFor
import HandS.Set
import HandS.EndTab
import HandS.EndBits
import KE.SortData
import KE.DataCmp
import KE.DataEq
import KE.DataFind
import KE.DataMinMax
import KE.KeyNested
import PyProof.DictRoadsH
import PyProof.DictMoreH
import HandS.TupMul
import HandS.Strs
import HandS.Conv
import HandS.Head0
import HandS.Head1
import HandS.Head2
import HandS.HeadEnd
import HandS.HeadHook1
import PySem.Challenge.RW_webfamilies_k36_whole_two_sided_webs
import Lean
import KE.KStateDown
set_option Elab.async false
set_option linter.all false
set_option maxRecDepth 100000
/-! W1: the small language (core terms) and its meaning. -/
namespace Wf
open PySem

/-- a value: plain data, a mutable object of the store, a def of the table, the script -/
inductive Val where
  | d (x : PyData)
  | r (k : Nat)
  | f (k : Nat)
  | scr (ns : List Int)

/-- a mutable object: a list or a dict (lk: locked while a loop walks it), or one that is known no more -/
inductive Cell where
  | lst (lk : Bool) (xs : List Val)
  | dct (lk : Bool) (kvs : List (NestedKey × PyData))
  | dead

abbrev Store := List Cell
abbrev EnvW := List (Option Val)
abbrev SM (α : Type) := Store → Option (α × Store)

def sbind {α β : Type} (m : SM α) (f : α → SM β) : SM β := fun S => match m S with
  | some (a, S1) => f a S1
  | none => none
def sret {α : Type} (a : α) : SM α := fun S => some (a, S)
def sfail {α : Type} : SM α := fun _ => none
/-- a reading of the store -/
def sask {α : Type} (f : Store → Option α) : SM α := fun S => match f S with
  | some a => some (a, S)
  | none => none
def sif {α : Type} (b : Bool) (m : SM α) : SM α := fun S => if b = true then m S else none

inductive BI where
  | len | abs | int | tuple | list | sorted | sum | min | max | setlen | sortedset | all | any
  | isinst (ty : String)
  deriving DecidableEq
inductive MT where
  | index | count | join | append | pop | remove | insert
  deriving DecidableEq

/-- core terms -/
inductive CE where
  | var (i : Nat)
  | int (n : Int) | str (x : Str) | bl (b : Bool) | non
  | fn (k : Nat)
  | bin (op : Operator) (a b : CE)
  | neg (a : CE)
  | cmp (op : CmpOp) (a b : CE)
  | cmp2 (op op' : CmpOp) (a b c : CE)
  | cmp3 (op op' op2 : CmpOp) (a b c d : CE)
  | and (a b : CE) | or (a b : CE) | not (a : CE)
  | ife (c a b : CE)
  | tup (es : List CE) | lst (kp : Bool) (es : List CE)
  | keep (a : CE)
  | idx (a i : CE)
  | slc (a lo hi : CE)
  | rev (a : CE)
  | rng (lo hi : CE)
  | dcomp (own : List Nat) (tg : List Nat) (tu : Bool) (it c ke ve : CE)
  | lrg (lo hi : CE)
  | trg (lo hi : CE)
  | it (a : CE)
  | enu (a : CE) | zip (a b : CE) | rvd (a : CE)
  | callp (k : Nat) (es : List CE)
  | calls (k : Nat) (es : List CE)
  | callv (i : Nat) (es : List CE)
  | bi (b : BI) (es : List CE)
  | mt (m : MT) (o : CE) (es : List CE)
  | comp (kp : Bool) (own : List Nat) (tg : List Nat) (tu : Bool) (it c e : CE)
  | comp2 (kp : Bool) (own : List Nat) (tg : List Nat) (tu : Bool) (it : CE) (tg2 : List Nat) (tu2 : Bool) (it2 c e : CE)

/-! ### reading -/
def datOf : Val → Option PyData
  | .d x => some x
  | _ => none
def datsOf : List Val → Option (List PyData)
  | [] => some []
  | .d x :: r => (datsOf r).map (x :: ·)
  | _ :: _ => none
/-- the items of a list -/
def rdL (S : Store) : Val → Option (List Val)
  | .d (.list xs) => some (xs.map .d)
  | .r k => match S[k]? with
    | some (.lst _ xs) => some xs
    | _ => none
  | .scr ns => some (ns.map fun i => .d (.int i))
  | _ => none
/-- the items of a list (not the script) -/
def rdM (S : Store) : Val → Option (List Val)
  | .d (.list xs) => some (xs.map .d)
  | .r k => match S[k]? with
    | some (.lst _ xs) => some xs
    | _ => none
  | _ => none
/-- the items of a list or a tuple -/
def rdS (S : Store) : Val → Option (List Val)
  | .d (.tuple xs) => some (xs.map .d)
  | v => rdL S v
/-- a value as data: as it stands now -/
def dr (S : Store) : Val → Option PyData
  | .d x => some x
  | .r k => match S[k]? with
    | some (.lst _ xs) => (datsOf xs).map .list
    | _ => none
  | _ => none
/-- an argument: as it stands now -/
def dv (S : Store) : Val → Option Val
  | .d x => some (.d x)
  | .f k => some (.f k)
  | .scr ns => some (.scr ns)
  | .r k => (dr S (.r k)).map .d
def dvs (S : Store) : List Val → Option (List Val)
  | [] => some []
  | v :: r => match dv S v, dvs S r with
    | some x, some xs => some (x :: xs)
    | _, _ => none
def isR : Val → Bool
  | .r _ => true
  | _ => false

mutual
/-- no list within (tuples, numbers, texts alone) -/
def tupOnly : PyData → Bool
  | .tuple xs => tupOnlys xs
  | .list _ => false
  | .dict _ => false
  | .none => true
  | .bool _ => true
  | .int _ => true
  | .str _ => true
def tupOnlys : List PyData → Bool
  | [] => true
  | x :: xs => tupOnly x && tupOnlys xs
end

/-- data of at most n levels, no dicts -/
def lv : Nat → PyData → Bool
  | _, .none => true
  | _, .bool _ => true
  | _, .int _ => true
  | _, .str _ => true
  | n + 1, .list xs => xs.all (lv n)
  | n + 1, .tuple xs => xs.all (lv n)
  | _, _ => false
def lvs (xs : List PyData) : Bool := xs.all (lv 40)

/-! ### operations by values -/
def truth (v : Val) (S : Store) : Option Bool := match v with
  | .d .none => some false
  | .d (.bool b) => some b
  | .d (.int i) => some (i != 0)
  | .d (.str y) => if y.length ≤ sizeLine then some ((y.length : Int) != 0) else none
  | v => (rdS S v).map fun xs => !xs.isEmpty

instance (i j : Int) : Decidable (L2.CMul i j) := inferInstanceAs (Decidable (_ ∨ _))
instance (i j : Int) : Decidable (L2.CDiv i j) := inferInstanceAs (Decidable (_ ∧ _))

/-- data of the values, in a list of a fitting size -/
def listOf (vs : List Val) : Option Val := match datsOf vs with
  | some ds => if ds.length ≤ sizeLine then some (.d (.list ds)) else none
  | none => none
def binop (op : Operator) (x y : Val) (S : Store) : Option Val :=
  match op, x, y with
  | .Add, .d (.int i), .d (.int j) => some (.d (.int (i + j)))
  | .Sub, .d (.int i), .d (.int j) => some (.d (.int (i - j)))
  | .Mult, .d (.int i), .d (.int j) => if L2.CMul i j then some (.d (.int (i * j))) else none
  | .FloorDiv, .d (.int i), .d (.int j) => if L2.CDiv i j then some (.d (.int (i / j))) else none
  | .Mod, .d (.int i), .d (.int j) => if 0 < j then some (.d (.int (i % j))) else none
  | .Add, .d (.str a), .d (.str b) => if a.length + b.length ≤ sizeLine then some (.d (.str (a ++ b))) else none
  | .Add, .d (.tuple xs), .d (.tuple ys) => if xs.length + ys.length ≤ sizeLine then some (.d (.tuple (xs ++ ys))) else none
  | .Mult, .d (.tuple xs), .d (.int k) => if xs ≠ [] ∧ 1 ≤ k ∧ k ≤ 1000 ∧ xs.length ≤ 1000 then some (.d (.tuple (List.replicate k.toNat xs).flatten)) else none
  | .Mult, .d (.list xs), .d (.int k) => if -(2 ^ 63) ≤ k ∧ k < 2 ^ 63 ∧ xs.length * k.toNat ≤ sizeLine then some (.d (.list (List.replicate k.toNat xs).flatten)) else none
  | .Add, x, y => match rdM S x, rdM S y with
    | some xs, some ys => listOf (xs ++ ys)
    | _, _ => none
  | _, _, _ => none

mutual
/-- data as a dict's key -/
def keyN : PyData → Option NestedKey
  | .int i => some (.num i)
  | .str x => some (.text x)
  | .none => some .none
  | .tuple ds => (keyNs ds).map .tup
  | .bool _ => none
  | .list _ => none
  | .dict _ => none
def keyNs : List PyData → Option (List NestedKey)
  | [] => some []
  | d :: ds => match keyN d, keyNs ds with
    | some k, some ks => some (k :: ks)
    | _, _ => none
end
def isTupK : NestedKey → Bool
  | .tup _ => true
  | _ => false
def dctOf (S : Store) : Val → Option (List (NestedKey × PyData))
  | .r k => match S[k]? with
    | some (.dct _ kvs) => some kvs
    | _ => none
  | _ => none
def dlook (kvs : List (NestedKey × PyData)) (k : NestedKey) : Option PyData := (kvs.find? fun p => decide (p.1 = k)).map (·.2)
/-- a key that fits the dict's kind -/
def keyFor (S : Store) (kvs : List (NestedKey × PyData)) (x : Val) : Option NestedKey := ((dr S x).bind keyN).bind fun k => if (isTupK k && decide (k.depth ≤ 8) && kvs.all fun p => isTupK p.1) = true then some k else none
def isNone : Val → Bool
  | .d .none => true
  | _ => false
def anyEqv (d : PyData) (ds : List PyData) : Bool := ds.any fun z => PyData.eqv z d
def cmpop (op : CmpOp) (x y : Val) (S : Store) : Option Bool :=
  match op, x, y with
  | .Lt, .d (.int i), .d (.int j) => some (decide (i < j))
  | .LtE, .d (.int i), .d (.int j) => some (decide (i ≤ j))
  | .Gt, .d (.int i), .d (.int j) => some (decide (j < i))
  | .GtE, .d (.int i), .d (.int j) => some (decide (j ≤ i))
  | .Eq, x, y => match dr S x, dr S y with
    | some a, some b => if lv 40 a = true ∧ lv 40 b = true then some (PyData.eqv a b) else none
    | _, _ => none
  | .NotEq, x, y => match dr S x, dr S y with
    | some a, some b => if lv 40 a = true ∧ lv 40 b = true then some (!PyData.eqv a b) else none
    | _, _ => none
  | .Is, x, .d .none => some (isNone x)
  | .IsNot, x, .d .none => some (!isNone x)
  | .Is, .d (.bool a), .d (.bool b) => some (decide (a = b))
  | .IsNot, .d (.bool a), .d (.bool b) => some (!decide (a = b))
  | .In, x, y => match dctOf S y with
   | some kvs => (keyFor S kvs x).map fun k => (dlook kvs k).isSome
   | none => match dr S x, (rdS S y).bind datsOf with
    | some a, some ds => if lv 40 a = true ∧ ds.all (lv 39) = true then some (anyEqv a ds) else none
    | _, _ => none
  | .NotIn, x, y => match dctOf S y with
   | some kvs => (keyFor S kvs x).map fun k => !(dlook kvs k).isSome
   | none => match dr S x, (rdS S y).bind datsOf with
    | some a, some ds => if lv 40 a = true ∧ ds.all (lv 39) = true then some (!anyEqv a ds) else none
    | _, _ => none
  | _, _, _ => none

def atV {α : Type} (xs : List α) (i : Int) : Option α := L2.atI xs i
def cutW {α : Type} (xs : List α) (lo hi : Option Int) : List α := (xs.drop (HT.sIx xs.length 0 lo)).take (HT.sIx xs.length xs.length hi - HT.sIx xs.length 0 lo)
def partOf : Val → Option (Option Int)
  | .d .none => some none
  | .d (.int i) => some (some i)
  | _ => none

def cutS (x : Val) (lo hi : Option Int) (S : Store) : Option Val := match x with
  | .d (.tuple xs) => some (.d (.tuple (cutW xs lo hi)))
  | .d (.str z) => if z.length ≤ sizeLine then some (.d (.str (L2.cutS z lo hi))) else none
  | x => (rdL S x).bind fun xs => listOf (cutW xs lo hi)
def idxS (x i : Val) (S : Store) : Option Val := match x, i with
  | .d (.str z), .d (.int i) => if z.length ≤ sizeLine then (atV z.cps.toList i).map fun c => .d (.str ⟨#[c]⟩) else none
  | x, .d (.int i) => (rdS S x).bind fun xs => atV xs i
  | _, _ => none
def revS (x : Val) (S : Store) : Option Val := match x with
  | .d (.tuple xs) => some (.d (.tuple xs.reverse))
  | x => (rdL S x).bind fun xs => listOf xs.reverse

def intsOf : List PyData → Option (List Int)
  | [] => some []
  | .int i :: r => (intsOf r).map (i :: ·)
  | _ :: _ => none
def boolsOf : List PyData → Option (List Bool)
  | [] => some []
  | .bool i :: r => (boolsOf r).map (i :: ·)
  | _ :: _ => none

def isTupNE : PyData → Bool
  | .tuple (_ :: _) => true
  | _ => false
def isTup : PyData → Bool
  | .tuple _ => true
  | _ => false
def isNon : PyData → Bool
  | .none => true
  | _ => false
/-- data that sorted takes: alike, and of a kind -/
def sortOk (ds : List PyData) : Bool := ds.all (fun a => ds.all fun b => PySem.W.alike a b) && (ds.all isTupNE || ds.all fun a => !isTup a && !isNon a) && ds.all (lv 40)
def sortD (ds : List PyData) : List PyData := ds.mergeSort fun a b => !PySem.W.dataLt b a
def tyOf : PyData → String
  | .none => "NoneType"
  | .bool _ => "bool"
  | .int _ => "int"
  | .str _ => "str"
  | .list _ => "list"
  | .tuple _ => "tuple"
  | .dict _ => "dict"
/-- isinstance of plain data -/
def isInst (x : PyData) (t : String) : Bool := tyOf x == t || (tyOf x == "bool" && t == "int")

def rdI (S : Store) (x : Val) : Option (List Int) := ((rdS S x).bind datsOf).bind intsOf
def fLen (vs : List Val) (S : Store) : Option Val := match vs with
  | [.d (.str z)] => if z.length ≤ sizeLine then some (.d (.int z.length)) else none
  | [x] => (rdS S x).map fun xs => .d (.int xs.length)
  | _ => none
def fAbs (vs : List Val) (S : Store) : Option Val := match vs with
  | [.d (.int i)] => some (.d (.int (if i < 0 then -i else i)))
  | _ => none
def fInt (vs : List Val) (S : Store) : Option Val := match vs with
  | [.d (.int i)] => some (.d (.int i))
  | [.d (.bool k)] => some (.d (.int (if k then 1 else 0)))
  | _ => none
def fTuple (vs : List Val) (S : Store) : Option Val := match vs with
  | [x] => ((rdS S x).bind datsOf).map fun ds => .d (.tuple ds)
  | _ => none
def fList (vs : List Val) (S : Store) : Option Val := match vs with
  | [x] => (rdS S x).bind listOf
  | _ => none
def fSorted (vs : List Val) (S : Store) : Option Val := match vs with
  | [x] => ((rdS S x).bind datsOf).bind fun ds => if sortOk ds = true ∧ ds.length ≤ sizeLine then some (.d (.list (sortD ds))) else none
  | _ => none
def fSum (vs : List Val) (S : Store) : Option Val := match vs with
  | [x] => ((rdL S x).bind datsOf).bind fun ds => (intsOf ds).map fun ns => .d (.int ns.sum)
  | _ => none
/-- the first least, the first greatest of alike data -/
def alikeB (ds : List PyData) : Bool := ds.all (fun a => ds.all fun b => PySem.W.alike a b) && ds.all (fun a => !isNon a) && ds.all (lv 40)
def minOf : List PyData → Option Val
  | [] => none
  | d :: r => if alikeB (d :: r) = true then some (.d (PySem.W.minD d r)) else none
def maxOf : List PyData → Option Val
  | [] => none
  | d :: r => if alikeB (d :: r) = true then some (.d (PySem.W.maxD d r)) else none
def fMin (vs : List Val) (S : Store) : Option Val := match vs with
  | [x] => ((rdS S x).bind datsOf).bind minOf
  | [.d (.int i), .d (.int j)] => some (.d (.int (if j < i then j else i)))
  | _ => none
def fMax (vs : List Val) (S : Store) : Option Val := match vs with
  | [x] => ((rdS S x).bind datsOf).bind maxOf
  | [.d (.int i), .d (.int j)] => some (.d (.int (if j > i then j else i)))
  | _ => none
def fAll (vs : List Val) (S : Store) : Option Val := match vs with
  | [x] => ((rdL S x).bind datsOf).bind fun ds => (boolsOf ds).map fun ns => .d (.bool (ns.all id))
  | _ => none
def fAny (vs : List Val) (S : Store) : Option Val := match vs with
  | [x] => ((rdL S x).bind datsOf).bind fun ds => (boolsOf ds).map fun ns => .d (.bool (ns.any id))
  | _ => none
def fIsInst (t : String) (vs : List Val) (S : Store) : Option Val := match vs with
  | [x] => (dr S x).map fun d => .d (.bool (isInst d t))
  | _ => none
/-- equal numbers once -/
def dedupI : List Int → List Int
  | [] => []
  | x :: r => if x ∈ r then dedupI r else x :: dedupI r
def sortI (ns : List Int) : List Int := ns.mergeSort fun a b => decide (a ≤ b)
def fSetLen (vs : List Val) (S : Store) : Option Val := match vs with
  | [x] => (rdI S x).bind fun ns => if ns.length ≤ 1000 then some (.d (.int (dedupI ns).length)) else none
  | _ => none
def fSortedSet (vs : List Val) (S : Store) : Option Val := match vs with
  | [x] => (rdI S x).bind fun ns => if ns.length ≤ 1000 ∧ (dedupI ns).length < 64 then some (.d (.list ((sortI (dedupI ns)).map .int))) else none
  | _ => none
def biop : BI → List Val → Store → Option Val
  | .len => fLen
  | .abs => fAbs
  | .int => fInt
  | .tuple => fTuple
  | .list => fList
  | .sorted => fSorted
  | .sum => fSum
  | .min => fMin
  | .max => fMax
  | .all => fAll
  | .any => fAny
  | .isinst t => fIsInst t
  | .setlen => fSetLen
  | .sortedset => fSortedSet
/-! ### what enters a tuple, a list, a store is data: a mutable object goes in for good -/
def absorb1 (v : Val) : SM PyData := fun S => match v with
  | .d x => some (x, S)
  | .r k => match S[k]? with
    | some (.lst false xs) => match datsOf xs with
      | some ds => some (.list ds, S.set k .dead)
      | none => none
    | _ => none
  | _ => none
def absorb : List Val → SM (List PyData)
  | [] => sret []
  | v :: r => sbind (absorb1 v) fun x => sbind (absorb r) fun xs => sret (x :: xs)
def mkT (vs : List Val) : SM Val := sbind (absorb vs) fun ds => sif (decide (ds.length ≤ sizeLine)) (sret (.d (.tuple ds)))
def alloc (xs : List Val) : SM Val := fun S => if xs.length ≤ sizeLine then some (.r S.length, S ++ [.lst false xs]) else none
def mkL (kp : Bool) (vs : List Val) : SM Val := if kp = true then alloc vs else sbind (absorb vs) fun ds => sif (decide (ds.length ≤ sizeLine)) (sret (.d (.list ds)))

/-- methods -/
def gIndex (o : Val) (vs : List Val) : SM Val := match vs with
  | [x] => sask fun S => match (rdS S o).bind datsOf, dr S x with
    | some ds, some d => if lv 40 d = true ∧ ds.all (lv 39) = true then (ds.findIdx? fun z => PyData.eqv z d).map (fun (j : Nat) => (Val.d (.int (j : Int)))) else none
    | _, _ => none
  | _ => sfail
def gCount (o : Val) (vs : List Val) : SM Val := match vs with
  | [x] => sask fun S => match (rdS S o).bind datsOf, dr S x with
    | some ds, some d => if lv 40 d = true ∧ ds.all (lv 39) = true then some (.d (.int (ds.countP fun z => PyData.eqv z d))) else none
    | _, _ => none
  | _ => sfail
/-- a mutable list that is not locked -/
def live (S : Store) (o : Val) : Option (Nat × List Val) := match o with
  | .r k => match S[k]? with
    | some (.lst false xs) => some (k, xs)
    | _ => none
  | _ => none
def gAppend (o : Val) (vs : List Val) : SM Val := match vs with
  | [x] => sbind (absorb1 x) fun d => fun S => match live S o with
    | some (k, xs) => if xs.length < sizeLine then some (.d .none, S.set k (.lst false (xs ++ [.d d]))) else none
    | none => none
  | _ => sfail
def gInsert (o : Val) (vs : List Val) : SM Val := match vs with
  | [.d (.int i), x] => sbind (absorb1 x) fun d => fun S => match live S o with
    | some (k, xs) => if xs.length < sizeLine ∧ 0 ≤ i ∧ i < 2 ^ 63 then some (.d .none, S.set k (.lst false (xs.take i.toNat ++ [.d d] ++ xs.drop i.toNat))) else none
    | none => none
  | _ => sfail
def gPop (o : Val) (vs : List Val) : SM Val := match vs with
  | [] => fun S => match live S o with
    | some (k, xs) => match xs.getLast? with
      | some x => some (x, S.set k (.lst false xs.dropLast))
      | none => none
    | none => none
  | [.d (.int i)] => fun S => match live S o with
    | some (k, xs) => match L2.ixN xs.length i with
      | some j => match xs[j]? with
        | some x => some (x, S.set k (.lst false (xs.eraseIdx j)))
        | none => none
      | none => none
    | none => none
  | _ => sfail
def gRemove (o : Val) (vs : List Val) : SM Val := match vs with
  | [x] => fun S => match live S o with
    | some (k, xs) => match datsOf xs, dr S x with
      | some ds, some d => if lv 40 d = true ∧ ds.all (lv 39) = true then (match ds.findIdx? fun z => PyData.eqv z d with
        | some j => some (.d .none, S.set k (.lst false (xs.eraseIdx j)))
        | none => none) else none
      | _, _ => none
    | none => none
  | _ => sfail
def mtop : MT → Val → List Val → SM Val
  | .index => gIndex
  | .count => gCount
  | .append => gAppend
  | .insert => gInsert
  | .pop => gPop
  | .remove => gRemove
  | .join => fun _ _ => sfail
/-- o[i] = v -/
def putS (o i v : Val) : SM Unit := sbind (absorb1 v) fun d => fun S => match live S o, i with
  | some (k, xs), .d (.int i) => match L2.ixN xs.length i with
    | some j => some ((), S.set k (.lst false (xs.set j (.d d))))
    | none => none
  | _, _ => none

/-- a list just made is kept as a mutable object -/
def keepV (x : Val) : SM Val := match x with
  | .d (.list ds) => alloc (ds.map .d)
  | _ => sfail

/-! ### targets, loops -/
/-- the items of a value that is walked -/
def wipeW (ρ : EnvW) : List Nat → EnvW
  | [] => ρ
  | v :: vs => (wipeW ρ vs).set v none
def setAll (ρ : EnvW) : List Nat → List Val → Option EnvW
  | [], [] => some ρ
  | i :: is, v :: vs => setAll (ρ.set i (some v)) is vs
  | _, _ => none
/-- a name, or a tuple of names, takes a value -/
def bindT (tg : List Nat) (tu : Bool) (v : Val) (ρ : EnvW) : Option EnvW := match tu, tg, v with
  | false, [i], v => some (ρ.set i (some v))
  | true, tg, .d (.tuple xs) => setAll ρ tg (xs.map .d)
  | _, _, _ => none
/-- the list of what f gives, from the left -/
def mapF (f : Val → SM (List Val)) : List Val → SM (List Val)
  | [] => sret []
  | x :: r => sbind (f x) fun y => sbind (mapF f r) fun ys => sret (y ++ ys)
def lockAt (S : Store) : Val → Store
  | .r k => match S[k]? with
    | some (.lst false xs) => S.set k (.lst true xs)
    | _ => S
  | _ => S
def unlockAt (S0 S : Store) : Val → Store
  | .r k => match S0[k]?, S[k]? with
    | some (.lst false _), some (.lst true ys) => S.set k (.lst false ys)
    | _, _ => S
  | _ => S
/-- what is walked stands still meanwhile -/
def locked {α : Type} (v : Val) (m : SM α) : SM α := fun S => match m (lockAt S v) with
  | some (a, S1) => some (a, unlockAt S S1 v)
  | none => none

structure Tab where
  pure : Nat → List Val → Option PyData
  st : Nat → List Val → SM Val
  isP : Nat → Bool

def callP (T : Tab) (k : Nat) (vs : List Val) : SM Val := fun S => match dvs S vs with
  | some xs => match T.pure k xs with
    | some d => if (!vs.any isR || tupOnly d) = true then some (.d d, S) else none
    | none => none
  | none => none
/-- range(lo, hi) as what is walked -/
def rangeV (lo hi : Int) : List Val := (List.range (hi - lo).toNat).map fun (i : Nat) => .d (.int (lo + (i : Int)))
def small62 (i : Int) : Bool := decide (-(2 ^ 62) ≤ i ∧ i < 2 ^ 62)

/-- a slice's part is left out (none), or an int -/
def CE.isNon : CE → Bool
  | .non => true
  | _ => false
/-- the part is an int: others fail -/
def onlyI (f : EnvW → SM Val) : EnvW → SM Val := fun ρ => sbind (f ρ) fun x => match x with
  | .d (.int i) => sret (.d (.int i))
  | _ => sfail
def partE (n : Bool) (f : EnvW → SM Val) : EnvW → SM Val := if n = true then fun _ => sret (.d .none) else onlyI f
def enuW (ds : List PyData) : List Val := ds.zipIdx.map fun p => .d (.tuple [.int p.2, p.1])
/-- zip of two lists, of two tuples -/
def zipW (x y : Val) (S : Store) : Option (List Val) := match x, y with
  | .d (.tuple xs), .d (.tuple ys) => some ((xs.zip ys).map fun p => .d (.tuple [p.1, p.2]))
  | x, y => match (rdL S x).bind datsOf, (rdL S y).bind datsOf with
    | some xs, some ys => some ((xs.zip ys).map fun p => .d (.tuple [p.1, p.2]))
    | _, _ => none
/-- a dict takes an entry: the key that stands keeps its place -/
def dput (kvs : List (NestedKey × PyData)) (k : NestedKey) (d : PyData) : List (NestedKey × PyData) :=
  if (dlook kvs k).isSome = true then kvs.map (fun p => if p.1 = k then (p.1, d) else p) else kvs ++ [(k, d)]
/-- a dict of pairs, its keys tuples -/
def dictOf (kvs : List (NestedKey × PyData)) : List Val → Option (List (NestedKey × PyData))
  | [] => some kvs
  | .d (.tuple [kd, vd]) :: r => match keyN kd with
    | some k => if (isTupK k && decide (k.depth ≤ 8)) = true then dictOf (dput kvs k vd) r else none
    | none => none
  | _ :: _ => none
def mkD (ps : List Val) : SM Val := fun S => match dictOf [] ps with
  | some kvs => if kvs.length < sizeLine then some (.r S.length, S ++ [.dct false kvs]) else none
  | none => none
def pairD (k v : Val) : SM (List Val) := match k, v with
  | .d kd, .d vd => sret [.d (.tuple [kd, vd])]
  | _, _ => sfail
def turnD (own tg : List Nat) (tu : Bool) (ρ : EnvW) (fc fk fv : EnvW → SM Val) : Val → SM (List Val) := fun x => match bindT tg tu x (wipeW ρ own) with
  | some ρ1 => sbind (fc ρ1) fun t => sbind (sask (truth t)) fun b => if b = true then sbind (fk ρ1) fun k => sbind (fv ρ1) fun v => pairD k v else sret []
  | none => sfail
/-- the two ends of a range -/
def rng2 (f g : EnvW → SM Val) (ρ : EnvW) : SM (Int × Int) := sbind (f ρ) fun x => sbind (g ρ) fun y => match x, y with
  | .d (.int i), .d (.int j) => sif (small62 i && small62 j && decide ((j - i).toNat ≤ sizeLine)) (sret (i, j))
  | _, _ => sfail
def rangeD (lo hi : Int) : List PyData := (List.range (hi - lo).toNat).map fun (i : Nat) => .int (lo + (i : Int))
mutual
def ev (T : Tab) : CE → EnvW → SM Val
  | .var i, ρ => sask fun _ => ρ.getD i none
  | .int n, _ => sret (.d (.int n))
  | .str x, _ => sret (.d (.str x))
  | .bl b, _ => sret (.d (.bool b))
  | .non, _ => sret (.d .none)
  | .fn k, _ => sret (.f k)
  | .bin op a b, ρ => sbind (ev T a ρ) fun x => sbind (ev T b ρ) fun y => sask (binop op x y)
  | .neg a, ρ => sbind (ev T a ρ) fun x => match x with
    | .d (.int i) => sret (.d (.int (-i)))
    | _ => sfail
  | .cmp op a b, ρ => sbind (ev T a ρ) fun x => sbind (ev T b ρ) fun y => sbind (sask (cmpop op x y)) fun c => sret (.d (.bool c))
  | .cmp2 op op' a b c, ρ => sbind (ev T a ρ) fun x => sbind (ev T b ρ) fun y => sbind (sask (cmpop op x y)) fun k =>
      if k = true then sbind (ev T c ρ) fun z => sbind (sask (cmpop op' y z)) fun k => sret (.d (.bool k)) else sret (.d (.bool false))
  | .cmp3 op op' op2 a b c d, ρ => sbind (ev T a ρ) fun x => sbind (ev T b ρ) fun y => sbind (sask (cmpop op x y)) fun k =>
      if k = true then sbind (ev T c ρ) fun z => sbind (sask (cmpop op' y z)) fun k => if k = true then sbind (ev T d ρ) fun w => sbind (sask (cmpop op2 z w)) fun k => sret (.d (.bool k)) else sret (.d (.bool false)) else sret (.d (.bool false))
  | .and a b, ρ => sbind (ev T a ρ) fun x => sbind (sask (truth x)) fun k => if k = true then ev T b ρ else sret x
  | .or a b, ρ => sbind (ev T a ρ) fun x => sbind (sask (truth x)) fun k => if k = true then sret x else ev T b ρ
  | .not a, ρ => sbind (ev T a ρ) fun x => sbind (sask (truth x)) fun k => sret (.d (.bool (!k)))
  | .ife c a b, ρ => sbind (ev T c ρ) fun x => sbind (sask (truth x)) fun k => if k = true then ev T a ρ else ev T b ρ
  | .tup es, ρ => sbind (evs T es ρ) mkT
  | .lst kp es, ρ => sbind (evs T es ρ) (mkL kp)
  | .keep a, ρ => sbind (ev T a ρ) keepV
  | .idx a i, ρ => sbind (ev T a ρ) fun x => sbind (ev T i ρ) fun y => sask (idxS x y)
  | .slc a lo hi, ρ => sbind (ev T a ρ) fun x => sbind (partE lo.isNon (ev T lo) ρ) fun l => sbind (partE hi.isNon (ev T hi) ρ) fun h => sask fun S => match partOf l, partOf h with
    | some l, some h => cutS x l h S
    | _, _ => none
  | .rev a, ρ => sbind (ev T a ρ) fun x => sask (revS x)
  | .dcomp own tg tu it c ke ve, ρ => sbind (evI T it ρ) fun (w, xs) => sbind (locked w (mapF (turnD own tg tu ρ (ev T c) (ev T ke) (ev T ve)) xs)) mkD
  | .lrg lo hi, ρ => sbind (rng2 (ev T lo) (ev T hi) ρ) fun p => sret (.d (.list (rangeD p.1 p.2)))
  | .trg lo hi, ρ => sbind (rng2 (ev T lo) (ev T hi) ρ) fun p => sret (.d (.tuple (rangeD p.1 p.2)))
  | .rng _ _, _ => sfail
  | .it _, _ => sfail
  | .enu _, _ => sfail
  | .zip _ _, _ => sfail
  | .rvd _, _ => sfail
  | .callp k es, ρ => sbind (evs T es ρ) (callP T k)
  | .calls k es, ρ => sbind (evs T es ρ) (T.st k)
  | .callv i es, ρ => sbind (evs T es ρ) fun vs => match ρ.getD i none with
    | some (.f k) => sif (T.isP k) (callP T k vs)
    | _ => sfail
  | .bi b es, ρ => sbind (evs T es ρ) fun vs => sask (biop b vs)
  | .mt m o es, ρ => sbind (ev T o ρ) fun x => sbind (sask fun S => rdS S x) fun _ => sbind (evs T es ρ) fun vs => mtop m x vs
  | .comp kp own tg tu it c e, ρ => sbind (evI T it ρ) fun (w, xs) => sbind (locked w (mapF (fun x => match bindT tg tu x (wipeW ρ own) with
      | some ρ1 => sbind (ev T c ρ1) fun t => sbind (sask (truth t)) fun k => if k = true then sbind (ev T e ρ1) fun y => sret [y] else sret []
      | none => sfail) xs)) (mkL kp)
  | .comp2 kp own tg tu it tg2 tu2 it2 c e, ρ => sbind (evI T it ρ) fun (w, xs) => sbind (locked w (mapF (fun x => match bindT tg tu x (wipeW ρ own) with
      | some ρ1 => sbind (evI T it2 ρ1) fun (w2, ys) => locked w2 (mapF (fun y => match bindT tg2 tu2 y (wipeW ρ1 tg2) with
        | some ρ2 => sbind (ev T c ρ2) fun t => sbind (sask (truth t)) fun k => if k = true then sbind (ev T e ρ2) fun z => sret [z] else sret []
        | none => sfail) ys)
      | none => sfail) xs)) (mkL kp)
def evs (T : Tab) : List CE → EnvW → SM (List Val)
  | [], _ => sret []
  | e :: es, ρ => sbind (ev T e ρ) fun x => sbind (evs T es ρ) fun xs => sret (x :: xs)
/-- what is walked: the value (locked meanwhile), its items -/
def evI (T : Tab) : CE → EnvW → SM (Val × List Val)
  | .rng lo hi, ρ => sbind (ev T lo ρ) fun x => sbind (ev T hi ρ) fun y => match x, y with
    | .d (.int i), .d (.int j) => sif (small62 i && small62 j) (sret (.d .none, rangeV i j))
    | _, _ => sfail
  | .it a, ρ => sbind (ev T a ρ) fun x => sbind (sask fun S => rdS S x) fun xs => sret (x, xs)
  | .rvd a, ρ => sbind (ev T a ρ) fun x => sbind (sask fun S => rdS S x) fun xs => sret (x, xs.reverse)
  | .enu a, ρ => sbind (ev T a ρ) fun x => sbind (sask fun S => (rdL S x).bind datsOf) fun ds => sret (x, enuW ds)
  | .zip a b, ρ => sbind (ev T a ρ) fun x => sbind (ev T b ρ) fun y => sbind (sask (zipW x y)) fun zs =>
      sif (!isR x && !isR y) (sret (.d .none, zs))
  | _, _ => sfail
end

/-! ### statements -/
inductive CS where
  | set (i : Nat) (e : CE)
  | tset (is : List Nat) (e : CE)
  | par (is : List Nat) (es : List CE)
  | sub (o i e : CE)
  | parsub (os is es : List CE)
  | aug (i : Nat) (e : CE)
  | ex (e : CE)
  | ret (e : CE) | retn
  | ite (c : CE) (a b : List CS)
  | forr (tg : List Nat) (tu : Bool) (it : CE) (body : List CS)
  | whl (c : CE) (body : List CS)
  | brk | cnt | pass
inductive Out where
  | nx (ρ : EnvW) | rt (v : Val) | bk (ρ : EnvW) | ct (ρ : EnvW)
/-- names that were not set ahead of a loop are forgotten behind a turn -/
def mask : EnvW → EnvW → EnvW
  | [], _ => []
  | none :: a, _ :: b => none :: mask a b
  | some _ :: a, y :: b => y :: mask a b
  | _ :: a, [] => []
def forW (ρ0 : EnvW) (body : Val → EnvW → SM Out) : List Val → EnvW → SM Out
  | [], ρ => sret (.nx ρ)
  | x :: r, ρ => sbind (body x ρ) fun o => match o with
    | .nx ρ1 => forW ρ0 body r (mask ρ0 ρ1)
    | .ct ρ1 => forW ρ0 body r (mask ρ0 ρ1)
    | .bk ρ1 => sret (.nx (mask ρ0 ρ1))
    | .rt v => sret (.rt v)
def whileN (ρ0 : EnvW) (test : EnvW → SM Bool) (body : EnvW → SM Out) : Nat → EnvW → SM Out
  | 0, _ => sfail
  | n + 1, ρ => sbind (test ρ) fun b => if b = true then sbind (body ρ) fun o => match o with
    | .nx ρ1 => whileN ρ0 test body n (mask ρ0 ρ1)
    | .ct ρ1 => whileN ρ0 test body n (mask ρ0 ρ1)
    | .bk ρ1 => sret (.nx (mask ρ0 ρ1))
    | .rt v => sret (.rt v)
    else sret (.nx ρ)
open Classical in
noncomputable def whileW (test : EnvW → SM Bool) (body : EnvW → SM Out) (ρ : EnvW) : SM Out := fun S =>
  if h : ∃ n, (whileN ρ test body n ρ S).isSome then whileN ρ test body h.choose ρ S else none
def putEach (T : Tab) (ρ : EnvW) : List CE → List CE → List Val → SM Unit
  | o :: os, i :: is, v :: vs => sbind (ev T o ρ) fun x => sbind (ev T i ρ) fun y => sbind (putS x y v) fun _ => putEach T ρ os is vs
  | [], [], [] => sret ()
  | _, _, _ => sfail
mutual
noncomputable def exec (T : Tab) : CS → EnvW → SM Out
  | .set i e, ρ => sbind (ev T e ρ) fun v => sret (.nx (ρ.set i (some v)))
  | .tset is e, ρ => sbind (ev T e ρ) fun v => match bindT is true v ρ with
    | some ρ1 => sret (.nx ρ1)
    | none => sfail
  | .par is es, ρ => sbind (evs T es ρ) fun vs => match setAll ρ is vs with
    | some ρ1 => sret (.nx ρ1)
    | none => sfail
  | .sub o i e, ρ => sbind (ev T e ρ) fun v => sbind (ev T o ρ) fun x => sbind (ev T i ρ) fun y => sbind (putS x y v) fun _ => sret (.nx ρ)
  | .parsub os is es, ρ => sbind (sbind (evs T es ρ) mkT) fun v => match v with
    | .d (.tuple ds) => sbind (putEach T ρ os is (ds.map .d)) fun _ => sret (.nx ρ)
    | _ => sfail
  | .aug i e, ρ => sbind (sask fun _ => ρ.getD i none) fun x => sbind (ev T e ρ) fun y => match x, y with
    | .d (.int a), .d (.int b) => sret (.nx (ρ.set i (some (.d (.int (a + b))))))
    | _, _ => sfail
  | .ex e, ρ => sbind (ev T e ρ) fun _ => sret (.nx ρ)
  | .ret e, ρ => sbind (ev T e ρ) fun v => sret (.rt v)
  | .retn, _ => sret (.rt (.d .none))
  | .ite c a b, ρ => sbind (ev T c ρ) fun x => sbind (sask (truth x)) fun k => if k = true then execs T a ρ else execs T b ρ
  | .forr tg tu it body, ρ => sbind (evI T it ρ) fun (w, xs) => locked w (forW ρ (fun x ρ => match bindT tg tu x ρ with
    | some ρ1 => execs T body ρ1
    | none => sfail) xs ρ)
  | .whl c body, ρ => whileW (fun ρ => sbind (ev T c ρ) fun x => sask (truth x)) (fun ρ => execs T body ρ) ρ
  | .brk, ρ => sret (.bk ρ)
  | .cnt, ρ => sret (.ct ρ)
  | .pass, ρ => sret (.nx ρ)
noncomputable def execs (T : Tab) : List CS → EnvW → SM Out
  | [], ρ => sret (.nx ρ)
  | s :: r, ρ => sbind (exec T s ρ) fun o => match o with
    | .nx ρ1 => execs T r ρ1
    | o => sret o
end

/-! ### defs -/
structure Def where
  np : Nat
  nv : Nat
  isP : Bool
  kp : Bool
  body : List CS
def startW (d : Def) (vs : List Val) : EnvW := vs.map some ++ List.replicate (d.nv - d.np) none
noncomputable def runP (T : Tab) (d : Def) (vs : List Val) : Option PyData :=
  if vs.length = d.np then match execs T d.body (startW d vs) [] with
    | some (.rt v, S) => dr S v
    | some (.nx _, _) => some .none
    | _ => none
  else none
/-- what a def gives back as data is new, or data -/
def newR (n : Nat) : Val → Bool
  | .r k => decide (n ≤ k)
  | _ => true
noncomputable def runS (T : Tab) (d : Def) (vs : List Val) : SM Val := fun S =>
  if vs.length = d.np then match execs T d.body (startW d vs) S with
    | some (.rt v, S1) => if d.kp = true then some (v, S1) else if newR S.length v = true then match dr S1 v with
      | some x => some (.d x, S1.take S.length)
      | none => none else none
    | some (.nx _, S1) => some (.d .none, S1.take S.length)
    | _ => none
  else none
def isPW (defs : List Def) (k : Nat) : Bool := match defs[k]? with
      | some d => d.isP
      | none => false
noncomputable def mkTab (defs : List Def) : Nat → Tab
  | 0 => ⟨fun _ _ => none, fun _ _ => sfail, isPW defs⟩
  | n + 1 => ⟨fun k vs => match defs[k]? with
      | some d => if d.isP = true then runP (mkTab defs n) d vs else none
      | none => none, fun k vs => match defs[k]? with
      | some d => if d.isP = true then sfail else runS (mkTab defs n) d vs
      | none => sfail, isPW defs⟩
example (T : Tab) (ρ : EnvW) (a b : CE) : ev T (.bin .Add a b) ρ = sbind (ev T a ρ) fun x => sbind (ev T b ρ) fun y => sask (binop .Add x y) := rfl
example (T : Tab) (ρ : EnvW) (a : CE) : evs T [a] ρ = sbind (ev T a ρ) fun x => sbind (sret []) fun xs => sret (x :: xs) := rfl
end Wf
set_option maxRecDepth 100000
set_option maxHeartbeats 4000000
/-! W2: how the small language's values lie in the abstract heap. -/
namespace Wf
open PySem PySem.Spec PyProof.Rows L2

abbrev FrZ := Addr → Prop
def KT (K : PySem.W.Frag) (a : Addr) (xs : List V) : Prop :=
  ∃ (o : Obj) (its : Array Value) (n : Nat), K.lookup a = some o ∧ o.dict = none ∧ o.cls = .type "tuple" ∧ o.data = .seq its n ∧ its.size ≤ sizeLine ∧ Vals xs its.toList
def KL (K : PySem.W.Frag) (a : Addr) (xs : List V) : Prop :=
  ∃ (o : Obj) (its : Array Value) (n : Nat), K.lookup a = some o ∧ o.cls = .type "list" ∧ o.dict = none ∧ o.data = .seq its n ∧ its.size ≤ sizeLine ∧ Vals xs its.toList

mutual
def Rep (K : PySem.W.Frag) (F : FrZ) (H : Hp) : PyData → V → Prop
  | .none, v => v = .non
  | .bool b, v => v = .bl b
  | .int i, v => v = .int i
  | .str x, v => v = .str x
  | .tuple ds, v => ∃ a xs, v = .ref a ∧ ((F a ∧ ∃ o, H a = some (.frz o (.tup xs)) ∧ o.dict = none) ∨ KT K a xs) ∧ Reps K F H ds xs
  | .list ds, v => ∃ a xs, v = .ref a ∧ F a ∧ H a = some (.lst xs) ∧ Reps K F H ds xs
  | .dict _, _ => False
def Reps (K : PySem.W.Frag) (F : FrZ) (H : Hp) : List PyData → List V → Prop
  | [], xs => xs = []
  | d :: ds, xs => ∃ x r, xs = x :: r ∧ Rep K F H d x ∧ Reps K F H ds r
end

theorem KT.sq {K : PySem.W.Frag} {H : Hp} {a : Addr} {xs : List V} (h : KT K a xs) : SqT K H a xs :=
  let ⟨o, its, n, h1, _, h2, h3, h4, h5⟩ := h
  .inr ⟨o, its, n, h1, h2, h3, h4, h5⟩
theorem sqt_of {K : PySem.W.Frag} {F : FrZ} {H : Hp} {a : Addr} {xs : List V} (h : (F a ∧ ∃ o, H a = some (.frz o (.tup xs)) ∧ o.dict = none) ∨ KT K a xs) : SqT K H a xs := by
  rcases h with ⟨_, o, g, _⟩ | k
  · exact .inl (.inr ⟨o, g⟩)
  · exact k.sq
section
variable {K : PySem.W.Frag} {F F' : FrZ} {H H' : Hp}
mutual
theorem Rep.mono (hF : ∀ a, F a → F' a ∧ H' a = H a) : ∀ (d : PyData) (v : V), Rep K F H d v → Rep K F' H' d v
  | .none, _, h => h
  | .bool _, _, h => h
  | .int _, _, h => h
  | .str _, _, h => h
  | .tuple ds, v, h => by
    unfold Rep at h ⊢
    obtain ⟨a, xs, e, h1, h2⟩ := h
    refine ⟨a, xs, e, ?_, Reps.mono hF ds xs h2⟩
    rcases h1 with ⟨f, o, g, gd⟩ | k
    · exact .inl ⟨(hF a f).1, o, by rw [(hF a f).2]; exact g, gd⟩
    · exact .inr k
  | .list ds, v, h => by
    unfold Rep at h ⊢
    obtain ⟨a, xs, e, f, g, h2⟩ := h
    exact ⟨a, xs, e, (hF a f).1, by rw [(hF a f).2]; exact g, Reps.mono hF ds xs h2⟩
  | .dict _, _, h => by
    unfold Rep at h
    exact h.elim
theorem Reps.mono (hF : ∀ a, F a → F' a ∧ H' a = H a) : ∀ (ds : List PyData) (xs : List V), Reps K F H ds xs → Reps K F' H' ds xs
  | [], _, h => h
  | d :: ds, xs, h => by
    unfold Reps at h ⊢
    obtain ⟨x, r, e, h1, h2⟩ := h
    exact ⟨x, r, e, Rep.mono hF d x h1, Reps.mono hF ds r h2⟩
end
mutual
theorem Rep.dp : ∀ (d : PyData) (v : V), Rep K F H d v → Dp K H v d
  | .none, _, h => by
    unfold Rep at h
    subst h
    exact .non
  | .bool b, _, h => by
    unfold Rep at h
    subst h
    exact .bl b
  | .int b, _, h => by
    unfold Rep at h
    subst h
    exact .int b
  | .str b, _, h => by
    unfold Rep at h
    subst h
    exact .str b
  | .tuple ds, v, h => by
    unfold Rep at h
    obtain ⟨a, xs, rfl, h1, h2⟩ := h
    refine .tup (xs := xs) ?_ (Reps.dp ds xs h2)
    exact sqt_of h1
  | .list ds, v, h => by
    unfold Rep at h
    obtain ⟨a, xs, rfl, f, g, h2⟩ := h
    exact .lst (SqL.of g) (Reps.dp ds xs h2)
  | .dict _, _, h => by
    unfold Rep at h
    exact h.elim
theorem Reps.dp : ∀ (ds : List PyData) (xs : List V), Reps K F H ds xs → DpAll K H xs ds
  | [], _, h => by
    unfold Reps at h
    subst h
    exact .nil
  | d :: ds, xs, h => by
    unfold Reps at h
    obtain ⟨x, r, rfl, h1, h2⟩ := h
    exact .cons (Rep.dp d x h1) (Reps.dp ds r h2)
end
mutual
/-- what holds tuples alone is known by the tuples that stand -/
theorem Rep.only (hF : ∀ a o xs, F a → H a = some (.frz o (.tup xs)) → F' a) : ∀ (d : PyData) (v : V), tupOnly d = true → Rep K F H d v → Rep K F' H d v
  | .none, _, _, h => h
  | .bool _, _, _, h => h
  | .int _, _, _, h => h
  | .str _, _, _, h => h
  | .tuple ds, v, t, h => by
    unfold Rep at h ⊢
    obtain ⟨a, xs, e, h1, h2⟩ := h
    refine ⟨a, xs, e, ?_, Reps.only hF ds xs (by simpa [tupOnly] using t) h2⟩
    rcases h1 with ⟨f, o, g, gd⟩ | k
    · exact .inl ⟨hF a o xs f g, o, g, gd⟩
    · exact .inr k
  | .list ds, v, t, h => by simp [tupOnly] at t
  | .dict _, _, _, h => by
    unfold Rep at h
    exact h.elim
theorem Reps.only (hF : ∀ a o xs, F a → H a = some (.frz o (.tup xs)) → F' a) : ∀ (ds : List PyData) (xs : List V), tupOnlys ds = true → Reps K F H ds xs → Reps K F' H ds xs
  | [], _, _, h => h
  | d :: ds, xs, t, h => by
    unfold Reps at h ⊢
    obtain ⟨x, r, e, h1, h2⟩ := h
    simp [tupOnlys] at t
    exact ⟨x, r, e, Rep.only hF d x t.1 h1, Reps.only hF ds r t.2 h2⟩
end
theorem Reps.length : ∀ {ds : List PyData} {xs : List V}, Reps K F H ds xs → ds.length = xs.length
  | [], _, h => by
    unfold Reps at h
    subst h
    rfl
  | d :: ds, xs, h => by
    unfold Reps at h
    obtain ⟨x, r, rfl, _, h2⟩ := h
    simp [Reps.length h2]
end

/-- the defs' addresses, the world -/
structure FaW where
  l : List Addr
  h : NestedKey → Int
  deriving Inhabited
/-- a value of the small language -/
def RepV (K : PySem.W.Frag) (fa : FaW) (F : FrZ) (m : List Addr) (H : Hp) : Val → V → Prop
  | .d x, v => Rep K F H x v
  | .r k, v => ∃ a, m[k]? = some a ∧ v = .ref a
  | .f k, v => ∃ a, fa.l[k]? = some a ∧ v = .ref a
  | .scr ns, v => ∃ a, v = .ref a ∧ ((F a ∧ Rd H a (.lst (ns.map V.int))) ∨ KL K a (ns.map V.int))
def RepVs (K : PySem.W.Frag) (fa : FaW) (F : FrZ) (m : List Addr) (H : Hp) : List Val → List V → Prop
  | [], xs => xs = []
  | d :: ds, xs => ∃ x r, xs = x :: r ∧ RepV K fa F m H d x ∧ RepVs K fa F m H ds r

theorem pre_get {α : Type} {m m' : List α} (hm : m <+: m') {k : Nat} {a : α} (h : m[k]? = some a) : m'[k]? = some a := by
  obtain ⟨t, rfl⟩ := hm
  rw [List.getElem?_append_left (List.getElem?_eq_some_iff.mp h).1]
  exact h
section
variable {K : PySem.W.Frag} {fa : FaW} {F F' : FrZ} {m m' : List Addr} {H H' : Hp}
theorem RepV.mono (hF : ∀ a, F a → F' a ∧ H' a = H a) (hm : m <+: m') : ∀ (d : Val) (v : V), RepV K fa F m H d v → RepV K fa F' m' H' d v
  | .d x, v, h => Rep.mono hF x v h
  | .r k, v, ⟨a, h1, h2⟩ => ⟨a, pre_get hm h1, h2⟩
  | .f k, v, h => h
  | .scr ns, v, ⟨a, e, h⟩ => ⟨a, e, h.elim (fun ⟨f, g⟩ => .inl ⟨(hF a f).1, by unfold Rd at g ⊢; rw [(hF a f).2]; exact g⟩) .inr⟩
theorem RepVs.mono (hF : ∀ a, F a → F' a ∧ H' a = H a) (hm : m <+: m') : ∀ (ds : List Val) (xs : List V), RepVs K fa F m H ds xs → RepVs K fa F' m' H' ds xs
  | [], _, h => h
  | d :: ds, xs, ⟨x, r, e, h1, h2⟩ => ⟨x, r, e, RepV.mono hF hm d x h1, RepVs.mono hF hm ds r h2⟩
theorem RepVs.length : ∀ {ds : List Val} {xs : List V}, RepVs K fa F m H ds xs → ds.length = xs.length
  | [], _, h => by
    have h : _ = [] := h
    subst h
    rfl
  | d :: ds, xs, ⟨x, r, e, _, h2⟩ => by
    subst e
    simp [RepVs.length h2]
theorem RepVs.get : ∀ {ds : List Val} {xs : List V} {i : Nat} {d : Val}, RepVs K fa F m H ds xs → ds[i]? = some d → ∃ x, xs[i]? = some x ∧ RepV K fa F m H d x
  | d :: ds, xs, 0, d', ⟨x, r, e, h1, h2⟩, g => by
    subst e
    simp at g
    subst g
    exact ⟨x, rfl, h1⟩
  | d :: ds, xs, i + 1, d', ⟨x, r, e, h1, h2⟩, g => by
    subst e
    exact RepVs.get (i := i) h2 (by simpa using g)
theorem RepVs.append : ∀ {ds es : List Val} {xs ys : List V}, RepVs K fa F m H ds xs → RepVs K fa F m H es ys → RepVs K fa F m H (ds ++ es) (xs ++ ys)
  | [], es, xs, ys, h, g => by
    have h : xs = [] := h
    subst h
    exact g
  | d :: ds, es, xs, ys, ⟨x, r, e, h1, h2⟩, g => by
    subst e
    exact ⟨x, r ++ ys, rfl, h1, RepVs.append h2 g⟩
theorem RepVs.set : ∀ {ds : List Val} {xs : List V} (i : Nat) {d : Val} {x : V}, RepVs K fa F m H ds xs → RepV K fa F m H d x → RepVs K fa F m H (ds.set i d) (xs.set i x)
  | [], xs, i, d, x, h, g => by
    have h : xs = [] := h
    subst h
    exact rfl
  | d :: ds, xs, 0, d', x', ⟨x, r, e, h1, h2⟩, g => by
    subst e
    exact ⟨x', r, rfl, g, h2⟩
  | d :: ds, xs, i + 1, d', x', ⟨x, r, e, h1, h2⟩, g => by
    subst e
    exact ⟨x, r.set i x', rfl, h1, RepVs.set i h2 g⟩
theorem RepVs.take : ∀ {ds : List Val} {xs : List V} (n : Nat), RepVs K fa F m H ds xs → RepVs K fa F m H (ds.take n) (xs.take n)
  | _, _, 0, _ => rfl
  | [], xs, n + 1, h => by
    have h : xs = [] := h
    subst h
    exact rfl
  | d :: ds, xs, n + 1, ⟨x, r, e, h1, h2⟩ => by
    subst e
    exact ⟨x, r.take n, rfl, h1, RepVs.take n h2⟩
theorem RepVs.drop : ∀ {ds : List Val} {xs : List V} (n : Nat), RepVs K fa F m H ds xs → RepVs K fa F m H (ds.drop n) (xs.drop n)
  | _, _, 0, h => h
  | [], xs, n + 1, h => by
    have h : xs = [] := h
    subst h
    exact rfl
  | d :: ds, xs, n + 1, ⟨x, r, e, h1, h2⟩ => by
    subst e
    exact RepVs.drop n h2
theorem RepVs.eraseIdx : ∀ {ds : List Val} {xs : List V} (i : Nat), RepVs K fa F m H ds xs → RepVs K fa F m H (ds.eraseIdx i) (xs.eraseIdx i)
  | [], xs, i, h => by
    have h : xs = [] := h
    subst h
    exact rfl
  | d :: ds, xs, 0, ⟨x, r, e, h1, h2⟩ => by
    subst e
    exact h2
  | d :: ds, xs, i + 1, ⟨x, r, e, h1, h2⟩ => by
    subst e
    exact ⟨x, r.eraseIdx i, rfl, h1, RepVs.eraseIdx i h2⟩
theorem RepVs.reverse : ∀ {ds : List Val} {xs : List V}, RepVs K fa F m H ds xs → RepVs K fa F m H ds.reverse xs.reverse
  | [], xs, h => by
    have h : xs = [] := h
    subst h
    exact rfl
  | d :: ds, xs, ⟨x, r, e, h1, h2⟩ => by
    subst e
    rw [List.reverse_cons, List.reverse_cons]
    exact RepVs.append (RepVs.reverse h2) ⟨x, [], rfl, h1, rfl⟩
/-- data of the values -/
theorem RepVs.data : ∀ {ds : List Val} {xs : List V} {es : List PyData}, RepVs K fa F m H ds xs → datsOf ds = some es → Reps K F H es xs
  | [], xs, es, h, e => by
    have h : xs = [] := h
    subst h
    simp [datsOf] at e
    subst e
    unfold Reps
    rfl
  | .d y :: ds, xs, es, ⟨x, r, e1, h1, h2⟩, e => by
    subst e1
    simp [datsOf] at e
    obtain ⟨es', e2, e3⟩ := e
    subst e3
    unfold Reps
    exact ⟨x, r, rfl, h1, RepVs.data h2 e2⟩
  | .r _ :: _, _, _, _, e => by simp [datsOf] at e
  | .f _ :: _, _, _, _, e => by simp [datsOf] at e
  | .scr _ :: _, _, _, _, e => by simp [datsOf] at e
theorem Reps.vals : ∀ {es : List PyData} {xs : List V}, Reps K F H es xs → RepVs K fa F m H (es.map .d) xs
  | [], xs, h => by
    unfold Reps at h
    exact h
  | e :: es, xs, h => by
    unfold Reps at h
    obtain ⟨x, r, e1, h1, h2⟩ := h
    exact ⟨x, r, e1, h1, Reps.vals h2⟩
theorem reps_ints : ∀ (ns : List Int), RepVs K fa F m H (ns.map fun i => .d (.int i)) (ns.map V.int)
  | [] => rfl
  | n :: ns => ⟨.int n, ns.map V.int, rfl, rfl, reps_ints ns⟩
end

/-! ### the store in the heap -/
section
variable (K : PySem.W.Frag) (fa : FaW) (F : FrZ) (m : List Addr)
/-- a dict whose keys are tuples, by its entries -/
def DH (hs : NestedKey → Int) (d : Addr) (xs : List (NestedKey × Addr × Value)) : HO := .ext fun h => ∃ o es ep, h.get? d = some o ∧ o.ExactDict ∧ o.data = .dict es ep ∧ es.toList = xs.map (fun x => (⟨hs x.1, .ref x.2.1, x.2.2⟩ : DictEntry)) ∧ (xs.map (·.1)).Nodup ∧ (d == sysModules) = false
def Rel2 (H : Hp) : List (NestedKey × PyData) → List (NestedKey × Addr × Value) → Prop
  | [], xs => xs = []
  | (k, d) :: r, xs => ∃ ka vv xr u, xs = (k, ka, vv) :: xr ∧ k.depth ≤ 8 ∧ Rep K F H k.data (.ref ka) ∧ RelV u vv ∧ Rep K F H d u ∧ Rel2 H r xr
def keyK : NestedKey → Option Key
  | .num i => some (.inl i)
  | .text x => some (.inr x)
  | _ => none
def RelK (H : Hp) : List (NestedKey × PyData) → List (Key × V) → Prop
  | [], ks => ks = []
  | (k, d) :: r, ks => ∃ kk u kr, ks = (kk, u) :: kr ∧ keyK k = some kk ∧ Rep K F H d u ∧ RelK H r kr
def CellOk (H : Hp) (a : Addr) : Cell → Prop
  | .lst _ xs => ¬ F a ∧ ∃ vs, H a = some (.lst vs) ∧ RepVs K fa F m H xs vs
  | .dct _ kvs => ¬ F a ∧ kvs.length < sizeLine ∧ ((∃ ks, H a = some (.dK ks) ∧ RelK K F H kvs ks) ∨ ∃ xs, H a = some (DH fa.h a xs) ∧ Rel2 K F H kvs xs)
  | .dead => True
structure SR (S : Store) (H : Hp) : Prop where
  len : m.length = S.length
  cell : ∀ (k : Nat) a c, m[k]? = some a → S[k]? = some c → CellOk K fa F m H a c
  inj : ∀ (i j : Nat) a, m[i]? = some a → m[j]? = some a → i = j
  live : ∀ a, F a → H a ≠ none
  mlive : ∀ a ∈ m, H a ≠ none
  wf : ∀ (k : Nat) lk xs j, S[k]? = some (.lst lk xs) → Val.r j ∈ xs → j < k
def ER (H : Hp) (ρ : EnvW) (σ : L2.St) : Prop := ρ.length ≤ σ.length ∧ ∀ (i : Nat) v, ρ[i]? = some (some v) → ∃ u, σ[i]? = some (some u) ∧ RepV K fa F m H v u
end
/-- from one world to a later one -/
structure Step (F : FrZ) (m : List Addr) (S : Store) (H : Hp) (F' : FrZ) (m' : List Addr) (S' : Store) (H' : Hp) : Prop where
  sub : ∀ a, F a → F' a
  pre : m <+: m'
  fr : ∀ a, H a ≠ none → (a ∈ m → F a) → H' a = H a
  lk : ∀ (k : Nat) a xs, m[k]? = some a → S[k]? = some (.lst true xs) → H' a = H a ∧ S'[k]? = some (.lst true xs)
  new : ∀ a, F' a → F a ∨ H a = none ∨ a ∈ m
  mnew : ∀ a, a ∈ m' → a ∈ m ∨ H a = none
  up : ∀ a, H' a = none → H a = none
section
variable {K : PySem.W.Frag} {fa : FaW} {F F1 F2 F' : FrZ} {m m1 m2 m' : List Addr} {S S1 S2 S' : Store} {H H1 H2 H' : Hp}
theorem Step.refl : Step F m S H F m S H := ⟨fun _ h => h, List.prefix_refl _, fun _ _ _ => rfl, fun _ _ _ _ h => ⟨rfl, h⟩, fun _ h => .inl h, fun _ h => .inl h, fun _ h => h⟩
theorem Step.trans (s : Step F m S H F1 m1 S1 H1) (t : Step F1 m1 S1 H1 F2 m2 S2 H2) : Step F m S H F2 m2 S2 H2 where
  sub := fun a h => t.sub a (s.sub a h)
  pre := s.pre.trans t.pre
  fr := fun a h g => by
    have e := s.fr a h g
    rw [← e]
    refine t.fr a (by rw [e]; exact h) fun q => ?_
    rcases s.mnew a q with q | q
    · exact s.sub a (g q)
    · exact absurd q h
  lk := fun k a xs h1 h2 => by
    obtain ⟨e1, e2⟩ := s.lk k a xs h1 h2
    obtain ⟨e3, e4⟩ := t.lk k a xs (pre_get s.pre h1) e2
    exact ⟨e3.trans e1, e4⟩
  new := fun a h => by
    rcases t.new a h with h | h | h
    · exact s.new a h
    · exact .inr (.inl (s.up a h))
    · rcases s.mnew a h with h | h
      · exact .inr (.inr h)
      · exact .inr (.inl h)
  mnew := fun a h => by
    rcases t.mnew a h with h | h
    · exact s.mnew a h
    · exact .inr (s.up a h)
  up := fun a h => s.up a (t.up a h)
theorem Step.keepF (s : Step F m S H F' m' S' H') (r : SR K fa F m S H) : ∀ a, F a → F' a ∧ H' a = H a := fun a h => ⟨s.sub a h, s.fr a (r.live a h) fun _ => h⟩
theorem Step.rep (s : Step F m S H F' m' S' H') (r : SR K fa F m S H) {v : Val} {u : V} (h : RepV K fa F m H v u) : RepV K fa F' m' H' v u := RepV.mono (s.keepF r) s.pre v u h
theorem Step.reps (s : Step F m S H F' m' S' H') (r : SR K fa F m S H) {v : List Val} {u : List V} (h : RepVs K fa F m H v u) : RepVs K fa F' m' H' v u := RepVs.mono (s.keepF r) s.pre v u h
theorem Step.er (s : Step F m S H F' m' S' H') (r : SR K fa F m S H) {ρ : EnvW} {σ : L2.St} (h : ER K fa F m H ρ σ) : ER K fa F' m' H' ρ σ :=
  ⟨h.1, fun i v e => let ⟨u, h1, h2⟩ := h.2 i v e; ⟨u, h1, s.rep r h2⟩⟩
theorem mem_of_get {α : Type} {l : List α} {k : Nat} {a : α} (h : l[k]? = some a) : a ∈ l := List.mem_of_getElem? h

/-- a value as data -/
theorem SR.data (r : SR K fa F m S H) {v : Val} {u : V} {d : PyData} (h : RepV K fa F m H v u) (e : dr S v = some d) : Dp K H u d := by
  cases v with
  | d x =>
    simp [dr] at e
    subst e
    exact Rep.dp x u h
  | r k =>
    obtain ⟨a, h1, rfl⟩ := h
    simp only [dr] at e
    cases hc : S[k]? with
    | none => simp [hc] at e
    | some c =>
      rw [hc] at e
      cases c with
      | lst lk xs =>
        simp only [Option.map_eq_some_iff] at e
        obtain ⟨ds, e1, rfl⟩ := e
        obtain ⟨_, vs, g1, g2⟩ := r.cell k a _ h1 hc
        exact .lst (SqL.of g1) (Reps.dp ds vs (g2.data e1))
      | dct lk kvs => simp at e
      | dead => simp at e
  | f k => simp [dr] at e
  | scr ns => simp [dr] at e
/-- a list -/
theorem SR.list (r : SR K fa F m S H) {v : Val} {u : V} {xs : List Val} (h : RepV K fa F m H v u) (e : rdL S v = some xs) : ∃ a us, u = .ref a ∧ SqL K H a us ∧ RepVs K fa F m H xs us := by
  cases v with
  | d x =>
    cases x with
    | list ds =>
      simp [rdL] at e
      subst e
      have h : Rep K F H (.list ds) u := h
      unfold Rep at h
      obtain ⟨a, us, e1, f, g, h2⟩ := h
      exact ⟨a, us, e1, SqL.of g, Reps.vals h2⟩
    | _ => simp [rdL] at e
  | r k =>
    obtain ⟨a, h1, rfl⟩ := h
    simp only [rdL] at e
    cases hc : S[k]? with
    | none => simp [hc] at e
    | some c =>
      rw [hc] at e
      cases c with
      | lst lk ys =>
        simp at e
        subst e
        obtain ⟨_, vs, g1, g2⟩ := r.cell k a _ h1 hc
        exact ⟨a, vs, rfl, SqL.of g1, g2⟩
      | dct lk kvs => simp at e
      | dead => simp at e
  | f k => simp [rdL] at e
  | scr ns =>
    simp [rdL] at e
    subst e
    obtain ⟨a, rfl, h⟩ := h
    refine ⟨a, ns.map V.int, rfl, ?_, reps_ints ns⟩
    rcases h with ⟨_, g⟩ | g
    · exact .inl g
    · exact .inr g
theorem SR.lst (r : SR K fa F m S H) {v : Val} {u : V} {xs : List Val} (h : RepV K fa F m H v u) (e : rdM S v = some xs) : ∃ a us, u = .ref a ∧ H a = some (.lst us) ∧ RepVs K fa F m H xs us := by
  cases v with
  | d x =>
    cases x with
    | list ds =>
      simp [rdM] at e
      subst e
      have h : Rep K F H (.list ds) u := h
      unfold Rep at h
      obtain ⟨a, us, e1, f, g, h2⟩ := h
      exact ⟨a, us, e1, g, Reps.vals h2⟩
    | _ => simp [rdM] at e
  | r k =>
    obtain ⟨a, h1, rfl⟩ := h
    simp only [rdM] at e
    cases hc : S[k]? with
    | none => simp [hc] at e
    | some c =>
      rw [hc] at e
      cases c with
      | lst lk ys =>
        simp at e
        subst e
        obtain ⟨_, vs, g1, g2⟩ := r.cell k a _ h1 hc
        exact ⟨a, vs, rfl, g1, g2⟩
      | dct lk kvs => simp at e
      | dead => simp at e
  | f k => simp [rdM] at e
  | scr ns => simp [rdM] at e
theorem SR.seq (r : SR K fa F m S H) {v : Val} {u : V} {xs : List Val} (h : RepV K fa F m H v u) (e : rdS S v = some xs) : ∃ a us, u = .ref a ∧ (SqL K H a us ∨ SqT K H a us) ∧ RepVs K fa F m H xs us := by
  cases v with
  | d x =>
    cases x with
    | tuple ds =>
      simp [rdS] at e
      subst e
      have h : Rep K F H (.tuple ds) u := h
      unfold Rep at h
      obtain ⟨a, us, e1, f, h2⟩ := h
      exact ⟨a, us, e1, .inr (sqt_of f), Reps.vals h2⟩
    | _ =>
      obtain ⟨a, us, h1, h2, h3⟩ := r.list h (by simpa [rdS] using e)
      exact ⟨a, us, h1, .inl h2, h3⟩
  | _ =>
    obtain ⟨a, us, h1, h2, h3⟩ := r.list h (by simpa [rdS] using e)
    exact ⟨a, us, h1, .inl h2, h3⟩
end
end Wf
set_option maxRecDepth 100000
set_option maxHeartbeats 4000000
/-! W3: the ghost steps, the readings. -/
namespace Wf
open PySem PySem.Spec PyProof.Rows L2

theorem sbind_some {α β : Type} {m : SM α} {f : α → SM β} {S : Store} {p : β × Store} (h : sbind m f S = some p) : ∃ a S1, m S = some (a, S1) ∧ f a S1 = some p := by
  unfold sbind at h
  split at h
  · rename_i a S1 e
    exact ⟨a, S1, e, h⟩
  · cases h
theorem sask_some {α : Type} {f : Store → Option α} {S : Store} {p : α × Store} (h : sask f S = some p) : f S = some p.1 ∧ p.2 = S := by
  unfold sask at h
  split at h
  · rename_i a e
    cases h
    exact ⟨e, rfl⟩
  · cases h
theorem sret_some {α : Type} {a : α} {S : Store} {p : α × Store} (h : sret a S = some p) : p.1 = a ∧ p.2 = S := by
  unfold sret at h
  cases h
  exact ⟨rfl, rfl⟩
theorem sif_some {α : Type} {b : Bool} {m : SM α} {S : Store} {p : α × Store} (h : sif b m S = some p) : b = true ∧ m S = some p := by
  unfold sif at h
  split at h
  · exact ⟨by assumption, h⟩
  · cases h

section
variable {K : PySem.W.Frag} {fa : FaW} {F : FrZ} {m : List Addr} {S : Store} {H : Hp}
theorem relK_mono {F' : FrZ} {H' : Hp} (hF : ∀ b, F b → F' b ∧ H' b = H b) : ∀ {kvs : List (NestedKey × PyData)} {ks : List (Key × V)}, RelK K F H kvs ks → RelK K F' H' kvs ks
  | [], _, h => h
  | (k, d) :: r, _, ⟨kk, u, kr, e, h1, h2, h3⟩ => ⟨kk, u, kr, e, h1, Rep.mono hF _ _ h2, relK_mono hF h3⟩
theorem rel2_mono {F' : FrZ} {H' : Hp} (hF : ∀ b, F b → F' b ∧ H' b = H b) : ∀ {kvs : List (NestedKey × PyData)} {ks : List (NestedKey × Addr × Value)}, Rel2 K F H kvs ks → Rel2 K F' H' kvs ks
  | [], _, h => h
  | (k, d) :: r, _, ⟨ka, vv, xr, u, e, h0, h1, h2, h3, h4⟩ => ⟨ka, vv, xr, u, e, h0, Rep.mono hF _ _ h1, h2, Rep.mono hF _ _ h3, rel2_mono hF h4⟩
theorem dct_mono {F' : FrZ} {m' : List Addr} {H' : Hp} {a : Addr} {lk : Bool} {kvs : List (NestedKey × PyData)} (hF : ∀ b, F b → F' b ∧ H' b = H b) (hn : ¬ F a → ¬ F' a) (ha : H' a = H a) (h : CellOk K fa F m H a (.dct lk kvs)) : CellOk K fa F' m' H' a (.dct lk kvs) := by
  obtain ⟨n, hz, h⟩ := h
  refine ⟨hn n, hz, ?_⟩
  rcases h with ⟨ks, e, g⟩ | ⟨xs, e, g⟩
  · exact .inl ⟨ks, by rw [ha]; exact e, relK_mono hF g⟩
  · exact .inr ⟨xs, by rw [ha]; exact e, rel2_mono hF g⟩
theorem cell_mono {F' : FrZ} {m' : List Addr} {H' : Hp} {a : Addr} {c : Cell} (hF : ∀ b, F b → F' b ∧ H' b = H b) (hm : m <+: m') (hn : ¬ F a → ¬ F' a) (ha : H' a = H a) (h : CellOk K fa F m H a c) : CellOk K fa F' m' H' a c := by
  cases c with
  | lst lk xs =>
    obtain ⟨n, vs, e, g⟩ := h
    exact ⟨hn n, vs, by rw [ha]; exact e, RepVs.mono hF hm xs vs g⟩
  | dct lk kvs => exact dct_mono hF hn ha h
  | dead => trivial

/-- a new thing that never changes -/
theorem fresh_frz (r : SR K fa F m S H) {p : Addr} (hp : H p = none) (o : HO) : Step F m S H (fun a => F a ∨ a = p) m S (upd H p o) ∧ SR K fa (fun a => F a ∨ a = p) m S (upd H p o) := by
  have ne : ∀ a, H a ≠ none → a ≠ p := fun a h e => h (by rw [e]; exact hp)
  have hF : ∀ b, F b → (F b ∨ b = p) ∧ upd H p o b = H b := fun b h => ⟨.inl h, upd_ne (ne b (r.live b h))⟩
  refine ⟨⟨fun a h => .inl h, List.prefix_refl _, fun a h _ => upd_ne (ne a h), fun k a xs h1 h2 => ⟨upd_ne (ne a (r.mlive a (mem_of_get h1))), h2⟩, fun a h => ?_, fun a h => .inl h, fun a h => ?_⟩,
    ⟨r.len, fun k a c h1 h2 => ?_, r.inj, fun a h => ?_, fun a h => ?_, r.wf⟩⟩
  · rcases h with h | h
    · exact .inl h
    · exact .inr (.inl (by rw [h]; exact hp))
  · by_cases e : a = p
    · rw [e]; exact hp
    · rw [upd_ne e] at h; exact h
  · have na := ne a (r.mlive a (mem_of_get h1))
    refine cell_mono hF (List.prefix_refl _) (fun q z => ?_) (upd_ne na) (r.cell k a c h1 h2)
    rcases z with z | z
    · exact q z
    · exact na z
  · by_cases e : a = p
    · rw [e, upd_same]; simp
    · rw [upd_ne e]
      rcases h with h | h
      · exact r.live a h
      · exact absurd h e
  · rw [upd_ne (ne a (r.mlive a h))]
    exact r.mlive a h
theorem rep_tup (r : SR K fa F m S H) {p : Addr} (hp : H p = none) {ds : List PyData} {us : List V} {o : Obj} (ho : o.dict = none) (h : Reps K F H ds us) : Rep K (fun a => F a ∨ a = p) (upd H p (.frz o (.tup us))) (.tuple ds) (.ref p) := by
  unfold Rep
  refine ⟨p, us, rfl, .inl ⟨.inr rfl, o, upd_same, ho⟩, Reps.mono (fun a h => ⟨.inl h, upd_ne fun e => r.live a h (by rw [e]; exact hp)⟩) ds us h⟩
theorem rep_lst (r : SR K fa F m S H) {p : Addr} (hp : H p = none) {ds : List PyData} {us : List V} (h : Reps K F H ds us) : Rep K (fun a => F a ∨ a = p) (upd H p (.lst us)) (.list ds) (.ref p) := by
  unfold Rep
  refine ⟨p, us, rfl, .inr rfl, upd_same, Reps.mono (fun a h => ⟨.inl h, upd_ne fun e => r.live a h (by rw [e]; exact hp)⟩) ds us h⟩
/-- a new mutable list -/
theorem fresh_cell (r : SR K fa F m S H) {p : Addr} (hp : H p = none) {xs : List Val} {us : List V} (h : RepVs K fa F m H xs us) (hw : ∀ j, Val.r j ∈ xs → j < S.length) :
    Step F m S H F (m ++ [p]) (S ++ [.lst false xs]) (upd H p (.lst us)) ∧ SR K fa F (m ++ [p]) (S ++ [.lst false xs]) (upd H p (.lst us)) := by
  have ne : ∀ a, H a ≠ none → a ≠ p := fun a h e => h (by rw [e]; exact hp)
  have nF : ¬ F p := fun h => r.live p h hp
  have hF : ∀ b, F b → F b ∧ upd H p (.lst us) b = H b := fun b h => ⟨h, upd_ne (ne b (r.live b h))⟩
  have pm : m <+: m ++ [p] := List.prefix_append _ _
  have npm : p ∉ m := fun q => r.mlive p q hp
  refine ⟨⟨fun a h => h, pm, fun a h _ => upd_ne (ne a h), fun k a xs h1 h2 => ⟨upd_ne (ne a (r.mlive a (mem_of_get h1))), ?_⟩, fun a h => .inl h, fun a h => ?_, fun a h => ?_⟩,
    ⟨by simp [r.len], fun k a c h1 h2 => ?_, fun i j a h1 h2 => ?_, fun a h => ?_, fun a h => ?_, fun k lk ys j h1 h2 => ?_⟩⟩
  · rw [List.getElem?_append_left (List.getElem?_eq_some_iff.mp h2).1]; exact h2
  · rcases List.mem_append.mp h with h | h
    · exact .inl h
    · exact .inr (by rw [List.mem_singleton.mp h]; exact hp)
  · by_cases e : a = p
    · rw [e]; exact hp
    · rw [upd_ne e] at h; exact h
  · by_cases hk : k < m.length
    · rw [List.getElem?_append_left hk] at h1
      rw [List.getElem?_append_left (by rw [← r.len]; exact hk)] at h2
      exact cell_mono hF pm (fun q => q) (upd_ne (ne a (r.mlive a (mem_of_get h1)))) (r.cell k a c h1 h2)
    · have hk' : k = m.length := by
        have := (List.getElem?_eq_some_iff.mp h1).1
        simp at this
        omega
      subst hk'
      simp at h1
      subst h1
      rw [r.len] at h2
      simp at h2
      subst h2
      exact ⟨nF, us, upd_same, RepVs.mono hF pm xs us h⟩
  · by_cases hi : i < m.length <;> by_cases hj : j < m.length
    · rw [List.getElem?_append_left hi] at h1
      rw [List.getElem?_append_left hj] at h2
      exact r.inj i j a h1 h2
    · rw [List.getElem?_append_left hi] at h1
      have hj' : j = m.length := by
        have := (List.getElem?_eq_some_iff.mp h2).1
        simp at this
        omega
      subst hj'
      simp at h2
      subst h2
      exact absurd (mem_of_get h1) npm
    · rw [List.getElem?_append_left hj] at h2
      have hi' : i = m.length := by
        have := (List.getElem?_eq_some_iff.mp h1).1
        simp at this
        omega
      subst hi'
      simp at h1
      subst h1
      exact absurd (mem_of_get h2) npm
    · have a1 := (List.getElem?_eq_some_iff.mp h1).1
      have a2 := (List.getElem?_eq_some_iff.mp h2).1
      simp at a1 a2
      omega
  · rw [upd_ne (ne a (r.live a h))]
    exact r.live a h
  · by_cases e : a = p
    · rw [e, upd_same]; simp
    · rw [upd_ne e]
      rcases List.mem_append.mp h with h | h
      · exact r.mlive a h
      · exact absurd (List.mem_singleton.mp h) e
  · by_cases hk : k < S.length
    · rw [List.getElem?_append_left hk] at h1
      exact r.wf k lk ys j h1 h2
    · have hk' : k = S.length := by
        have := (List.getElem?_eq_some_iff.mp h1).1
        simp at this
        omega
      subst hk'
      simp at h1
      obtain ⟨_, rfl⟩ := h1
      exact hw j h2
/-- a mutable list changes -/
theorem write_cell (r : SR K fa F m S H) {k : Nat} {a : Addr} {xs ys : List Val} {us : List V} (hk : m[k]? = some a) (hS : S[k]? = some (.lst false xs)) (h : RepVs K fa F m H ys us) (hw : ∀ j, Val.r j ∈ ys → Val.r j ∈ xs) :
    Step F m S H F m (S.set k (.lst false ys)) (upd H a (.lst us)) ∧ SR K fa F m (S.set k (.lst false ys)) (upd H a (.lst us)) := by
  obtain ⟨nF, _, ha, _⟩ := r.cell k a _ hk hS
  have hF : ∀ b, F b → F b ∧ upd H a (.lst us) b = H b := fun b h => ⟨h, upd_ne fun e => nF (by rw [← e]; exact h)⟩
  have lk : k < S.length := (List.getElem?_eq_some_iff.mp hS).1
  refine ⟨⟨fun a h => h, List.prefix_refl _, fun b h g => upd_ne fun e => nF (by rw [← e]; exact g (by rw [e]; exact mem_of_get hk)), fun j b zs h1 h2 => ?_, fun a h => .inl h, fun a h => .inl h, fun b h => ?_⟩,
    ⟨by simp [r.len], fun j b c h1 h2 => ?_, r.inj, fun b h => ?_, fun b h => ?_, fun j lk' zs i h1 h2 => ?_⟩⟩
  · have nj : j ≠ k := fun e => by
      subst e
      rw [hS] at h2
      cases h2
    refine ⟨upd_ne fun e => nj (r.inj j k b h1 (by rw [e]; exact hk)), ?_⟩
    rw [List.getElem?_set_ne (Ne.symm nj)]
    exact h2
  · by_cases e : b = a
    · rw [e, upd_same] at h; cases h
    · rw [upd_ne e] at h; exact h
  · by_cases nj : j = k
    · subst nj
      rw [hk] at h1
      cases h1
      rw [List.getElem?_set_self lk] at h2
      cases h2
      exact ⟨nF, us, upd_same, RepVs.mono hF (List.prefix_refl _) ys us h⟩
    · rw [List.getElem?_set_ne (Ne.symm nj)] at h2
      exact cell_mono hF (List.prefix_refl _) (fun q => q) (upd_ne fun e => nj (r.inj j k b h1 (by rw [e]; exact hk))) (r.cell j b c h1 h2)
  · rw [(hF b h).2]
    exact r.live b h
  · by_cases e : b = a
    · rw [e, upd_same]; simp
    · rw [upd_ne e]; exact r.mlive b h
  · by_cases nj : j = k
    · subst nj
      rw [List.getElem?_set_self lk] at h1
      cases h1
      exact r.wf j false xs i hS (hw i h2)
    · rw [List.getElem?_set_ne (Ne.symm nj)] at h1
      exact r.wf j lk' zs i h1 h2
/-- a mutable list is given up: it never changes from now on -/
theorem kill_cell (r : SR K fa F m S H) {k : Nat} {a : Addr} {xs : List Val} {ds : List PyData} (hk : m[k]? = some a) (hS : S[k]? = some (.lst false xs)) (hd : datsOf xs = some ds) :
    Step F m S H (fun b => F b ∨ b = a) m (S.set k .dead) H ∧ SR K fa (fun b => F b ∨ b = a) m (S.set k .dead) H ∧ Rep K (fun b => F b ∨ b = a) H (.list ds) (.ref a) := by
  obtain ⟨nF, us, ha, hr⟩ := r.cell k a _ hk hS
  have hF : ∀ b, F b → (F b ∨ b = a) ∧ H b = H b := fun b h => ⟨.inl h, rfl⟩
  have lk : k < S.length := (List.getElem?_eq_some_iff.mp hS).1
  refine ⟨⟨fun a h => .inl h, List.prefix_refl _, fun _ _ _ => rfl, fun j b zs h1 h2 => ⟨rfl, ?_⟩, fun b h => ?_, fun a h => .inl h, fun b h => h⟩,
    ⟨by simp [r.len], fun j b c h1 h2 => ?_, r.inj, fun b h => ?_, r.mlive, fun j lk' zs i h1 h2 => ?_⟩, ?_⟩
  · have nj : j ≠ k := fun e => by
      subst e
      rw [hS] at h2
      cases h2
    rw [List.getElem?_set_ne (Ne.symm nj)]
    exact h2
  · rcases h with h | h
    · exact .inl h
    · exact .inr (.inr (by rw [h]; exact mem_of_get hk))
  · by_cases nj : j = k
    · subst nj
      rw [List.getElem?_set_self lk] at h2
      cases h2
      trivial
    · rw [List.getElem?_set_ne (Ne.symm nj)] at h2
      refine cell_mono hF (List.prefix_refl _) (fun q z => ?_) rfl (r.cell j b c h1 h2)
      rcases z with z | z
      · exact q z
      · exact nj (r.inj j k b h1 (by rw [z]; exact hk))
  · rcases h with h | h
    · exact r.live b h
    · rw [h, ha]; simp
  · by_cases nj : j = k
    · subst nj
      rw [List.getElem?_set_self lk] at h1
      cases h1
    · rw [List.getElem?_set_ne (Ne.symm nj)] at h1
      exact r.wf j lk' zs i h1 h2
  · unfold Rep
    exact ⟨a, us, rfl, .inr rfl, ha, Reps.mono hF ds us (hr.data hd)⟩
/-- a list is locked, unlocked -/
theorem lock_cell (r : SR K fa F m S H) {k : Nat} {xs : List Val} {b b' : Bool} (hS : S[k]? = some (.lst b xs)) : SR K fa F m (S.set k (.lst b' xs)) H := by
  have lk : k < S.length := (List.getElem?_eq_some_iff.mp hS).1
  refine ⟨by simp [r.len], fun j a c h1 h2 => ?_, r.inj, r.live, r.mlive, fun j lk' zs i h1 h2 => ?_⟩
  · by_cases nj : j = k
    · subst nj
      rw [List.getElem?_set_self lk] at h2
      cases h2
      exact r.cell j a (.lst b xs) h1 hS
    · rw [List.getElem?_set_ne (Ne.symm nj)] at h2
      exact r.cell j a c h1 h2
  · by_cases nj : j = k
    · subst nj
      rw [List.getElem?_set_self lk] at h1
      cases h1
      exact r.wf j b _ i hS h2
    · rw [List.getElem?_set_ne (Ne.symm nj)] at h1
      exact r.wf j lk' zs i h1 h2
theorem lock_step {k : Nat} {xs : List Val} (hS : S[k]? = some (.lst false xs)) : Step F m S H F m (S.set k (.lst true xs)) H := by
  refine ⟨fun a h => h, List.prefix_refl _, fun _ _ _ => rfl, fun j b zs h1 h2 => ⟨rfl, ?_⟩, fun b h => .inl h, fun a h => .inl h, fun b h => h⟩
  have nj : j ≠ k := fun e => by
    subst e
    rw [hS] at h2
    cases h2
  rw [List.getElem?_set_ne (Ne.symm nj)]
  exact h2
end

/-! ### readings -/
section
variable (K : PySem.W.Frag) (fa : FaW)
def TV (f : EnvW → SM Val) : TE := fun σ H Q => ∃ (F : FrZ) (m : List Addr) (ρ : EnvW) (S : Store) (v : Val) (S' : Store), SR K fa F m S H ∧ ER K fa F m H ρ σ ∧ f ρ S = some (v, S') ∧
  ∀ (F' : FrZ) (m' : List Addr) (H' : Hp) (u : V), Step F m S H F' m' S' H' → SR K fa F' m' S' H' → RepV K fa F' m' H' v u → Q u H'
def TVs (f : EnvW → SM (List Val)) : TA := fun σ H Q => ∃ (F : FrZ) (m : List Addr) (ρ : EnvW) (S : Store) (v : List Val) (S' : Store), SR K fa F m S H ∧ ER K fa F m H ρ σ ∧ f ρ S = some (v, S') ∧
  ∀ (F' : FrZ) (m' : List Addr) (H' : Hp) (u : List V), Step F m S H F' m' S' H' → SR K fa F' m' S' H' → RepVs K fa F' m' H' v u → Q u H'
end
theorem PE.weak {X : Cx} {e : Expr} {t t' : TE} (h : PE X e t) (w : ∀ σ H Q, t' σ H Q → t σ H Q) : PE X e t' := ⟨fun pins s σ H Q I q => h.run pins s σ H Q I (w σ H Q q)⟩
theorem PA.weak {X : Cx} {e : List Expr} {t t' : TA} (h : PA X e t) (w : ∀ σ H Q, t' σ H Q → t σ H Q) : PA X e t' := ⟨fun pos pins s σ H Q I q => h.run pos pins s σ H Q I (w σ H Q q)⟩
theorem PT.weak {X : Cx} {e : Expr} {t t' : TT} (h : PT X e t) (w : ∀ σ H Q, t' σ H Q → t σ H Q) : PT X e t' := ⟨fun pins s σ H Q I q => h.run pins s σ H Q I (w σ H Q q)⟩
/-- what is wanted behind a value, from a world -/
abbrev Kont (K : PySem.W.Frag) (fa : FaW) (F : FrZ) (m : List Addr) (S : Store) (H : Hp) (v : Val) (S' : Store) (Q : VK) : Prop :=
  ∀ (F' : FrZ) (m' : List Addr) (H' : Hp) (u : V), Step F m S H F' m' S' H' → SR K fa F' m' S' H' → RepV K fa F' m' H' v u → Q u H'

section
variable {X : Cx} {fa : FaW}
/-- two parts and an operator by values -/
theorem tv_bin {f g : EnvW → SM Val} {z : Val → Val → SM Val} {r : R2}
    (h : ∀ (F : FrZ) (m : List Addr) (S : Store) (H : Hp) (x y : Val) (u1 u2 : V) (v : Val) (S' : Store) (Q : VK), SR X.K fa F m S H → RepV X.K fa F m H x u1 → RepV X.K fa F m H y u2 → z x y S = some (v, S') → Kont X.K fa F m S H v S' Q → r u1 u2 H Q) :
    ∀ (σ : L2.St) (H : Hp) (Q : VK), TV X.K fa (fun ρ => sbind (f ρ) fun x => sbind (g ρ) fun y => z x y) σ H Q → tOp r (TV X.K fa f) (TV X.K fa g) σ H Q := by
  rintro σ H Q ⟨F, m, ρ, S, v, S', r0, e0, h0, k0⟩
  obtain ⟨x, S1, hx, h1⟩ := sbind_some h0
  obtain ⟨y, S2, hy, h2⟩ := sbind_some h1
  refine ⟨F, m, ρ, S, x, S1, r0, e0, hx, fun F1 m1 H1 u1 st1 r1 v1 => ?_⟩
  refine ⟨F1, m1, ρ, S1, y, S2, r1, st1.er r0 e0, hy, fun F2 m2 H2 u2 st2 r2 v2 => ?_⟩
  exact h F2 m2 S2 H2 x y u1 u2 v S' Q r2 (st2.rep r1 v1) v2 h2 fun F' m' H' u st r3 q => k0 F' m' H' u (st1.trans (st2.trans st)) r3 q
theorem tv_un {f : EnvW → SM Val} {z : Val → SM Val} {r : V → Hp → VK → Prop}
    (h : ∀ (F : FrZ) (m : List Addr) (S : Store) (H : Hp) (x : Val) (u1 : V) (v : Val) (S' : Store) (Q : VK), SR X.K fa F m S H → RepV X.K fa F m H x u1 → z x S = some (v, S') → Kont X.K fa F m S H v S' Q → r u1 H Q) :
    ∀ (σ : L2.St) (H : Hp) (Q : VK), TV X.K fa (fun ρ => sbind (f ρ) z) σ H Q → TV X.K fa f σ H (fun x H1 => r x H1 Q) := by
  rintro σ H Q ⟨F, m, ρ, S, v, S', r0, e0, h0, k0⟩
  obtain ⟨x, S1, hx, h1⟩ := sbind_some h0
  refine ⟨F, m, ρ, S, x, S1, r0, e0, hx, fun F1 m1 H1 u1 st1 r1 v1 => ?_⟩
  exact h F1 m1 S1 H1 x u1 v S' Q r1 v1 h1 fun F' m' H' u st r3 q => k0 F' m' H' u (st1.trans st) r3 q
theorem tv_args {f : EnvW → SM (List Val)} {z : List Val → SM Val} {r : List V → Hp → VK → Prop}
    (h : ∀ (F : FrZ) (m : List Addr) (S : Store) (H : Hp) (x : List Val) (u1 : List V) (v : Val) (S' : Store) (Q : VK), SR X.K fa F m S H → RepVs X.K fa F m H x u1 → z x S = some (v, S') → Kont X.K fa F m S H v S' Q → r u1 H Q) :
    ∀ (σ : L2.St) (H : Hp) (Q : VK), TV X.K fa (fun ρ => sbind (f ρ) z) σ H Q → TVs X.K fa f σ H (fun x H1 => r x H1 Q) := by
  rintro σ H Q ⟨F, m, ρ, S, v, S', r0, e0, h0, k0⟩
  obtain ⟨x, S1, hx, h1⟩ := sbind_some h0
  refine ⟨F, m, ρ, S, x, S1, r0, e0, hx, fun F1 m1 H1 u1 st1 r1 v1 => ?_⟩
  exact h F1 m1 S1 H1 x u1 v S' Q r1 v1 h1 fun F' m' H' u st r3 q => k0 F' m' H' u (st1.trans st) r3 q
theorem pa_nilW : PA X [] (TVs X.K fa fun _ => sret []) := PA.weak pa_nil (by
  rintro σ H Q ⟨F, m, ρ, S, v, S', r0, e0, h0, k0⟩
  obtain ⟨h1, h2⟩ := sret_some h0
  simp only at h1 h2
  subst h1 h2
  exact k0 F m H [] Step.refl r0 rfl)
theorem pa_consW {e : Expr} {es : List Expr} {f : EnvW → SM Val} {g : EnvW → SM (List Val)} (ha : PE X e (TV X.K fa f)) (hb : PA X es (TVs X.K fa g)) (hs : starEach (e :: es) X.env = (false, eval e X.env) :: starEach es X.env) :
    PA X (e :: es) (TVs X.K fa fun ρ => sbind (f ρ) fun x => sbind (g ρ) fun xs => sret (x :: xs)) := PA.weak (pa_cons ha hb hs) (by
  rintro σ H Q ⟨F, m, ρ, S, v, S', r0, e0, h0, k0⟩
  obtain ⟨x, S1, hx, h1⟩ := sbind_some h0
  obtain ⟨y, S2, hy, h2⟩ := sbind_some h1
  obtain ⟨h3, h4⟩ := sret_some h2
  simp only at h3 h4
  subst h3 h4
  refine ⟨F, m, ρ, S, x, S1, r0, e0, hx, fun F1 m1 H1 u1 st1 r1 v1 => ?_⟩
  refine ⟨F1, m1, ρ, S1, y, S', r1, st1.er r0 e0, hy, fun F2 m2 H2 u2 st2 r2 v2 => ?_⟩
  exact k0 F2 m2 H2 (u1 :: u2) (st1.trans st2) r2 ⟨u1, u2, rfl, st2.rep r1 v1, v2⟩)
end
end Wf
set_option maxRecDepth 100000
set_option maxHeartbeats 4000000
/-! W3b: dicts whose keys are tuples. -/
namespace Wf
open PySem PySem.Spec PyProof.Rows L2
mutual
theorem keyN_data : ∀ (d : PyData) (k : NestedKey), keyN d = some k → k.data = d
  | .int i, k, h => by cases h; rfl
  | .str x, k, h => by cases h; rfl
  | .none, k, h => by cases h; rfl
  | .bool _, k, h => by cases h
  | .list _, k, h => by cases h
  | .dict _, k, h => by cases h
  | .tuple ds, k, h => by
    unfold keyN at h
    obtain ⟨ks, h1, rfl⟩ := Option.map_eq_some_iff.mp h
    show PyData.tuple (NestedKey.datas ks) = _
    rw [keyNs_data ds ks h1]
theorem keyNs_data : ∀ (ds : List PyData) (ks : List NestedKey), keyNs ds = some ks → NestedKey.datas ks = ds
  | [], ks, h => by cases h; rfl
  | d :: ds, ks, h => by
    unfold keyNs at h
    split at h
    · rename_i k ks' h1 h2
      cases h
      show NestedKey.data k :: NestedKey.datas ks' = _
      rw [keyN_data d k h1, keyNs_data ds ks' h2]
    · cases h
end
section
variable {X : Cx} {pins : List (Addr × Obj)} {σ : L2.St} {H : Hp} {s : Shared} {fa : FaW} {F : FrZ} {m : List Addr} {S : Store}
mutual
theorem nested_of (I : L2.Inv X pins σ H s) : ∀ (k : NestedKey) (u : V) (v : Value), Rep X.K F H k.data u → RelV u v → NestedIs s.heap k v
  | .none, u, v, h, r => by
    have h : u = .non := by simpa [NestedKey.data, Rep] using h
    subst h
    cases r
    exact .none
  | .num i, u, v, h, r => by
    have h : u = .int i := by simpa [NestedKey.data, Rep] using h
    subst h
    obtain ⟨t, rfl⟩ := r
    exact .int i t
  | .text x, u, v, h, r => by
    have h : u = .str x := by simpa [NestedKey.data, Rep] using h
    subst h
    obtain ⟨t, rfl⟩ := r
    exact .text x t
  | .tup ks, u, v, h, r => by
    have h : Rep X.K F H (.tuple (NestedKey.datas ks)) u := h
    unfold Rep at h
    obtain ⟨a, us, rfl, t1, h2⟩ := h
    cases r
    obtain ⟨its, rv, ⟨o, ho, hc, n, hd⟩, _⟩ := I.tuple (sqt_of t1)
    exact .tup ho hc hd (by simpa using nesteds_of I ks us its h2 rv)
theorem nesteds_of (I : L2.Inv X pins σ H s) : ∀ (ks : List NestedKey) (us : List V) (vs : List Value), Reps X.K F H (NestedKey.datas ks) us → Vals us vs → NestedAll s.heap ks vs
  | [], us, vs, h, r => by
    have h : us = [] := by simpa [NestedKey.datas, Reps] using h
    subst h
    cases r
    exact .nil
  | k :: ks, us, vs, h, r => by
    have h : Reps X.K F H (k.data :: NestedKey.datas ks) us := h
    unfold Reps at h
    obtain ⟨x, t, rfl, h1, h2⟩ := h
    cases r with
    | cons r1 r2 => exact .cons (nested_of I k x _ h1 r1) (nesteds_of I ks t _ h2 r2)
end
theorem rel2_keys {K : PySem.W.Frag} : ∀ {kvs : List (NestedKey × PyData)} {xs : List (NestedKey × Addr × Value)}, Rel2 K F H kvs xs → xs.map (·.1) = kvs.map (·.1)
  | [], xs, h => by
    have h : xs = [] := h
    subst h
    rfl
  | (k, d) :: r, xs, ⟨ka, vv, xr, u, e, h0, h1, h2, h3, h4⟩ => by
    subst e
    rw [List.map_cons, List.map_cons, rel2_keys h4]
theorem rel2_is (I : L2.Inv X pins σ H s) : ∀ {kvs : List (NestedKey × PyData)} {xs : List (NestedKey × Addr × Value)}, Rel2 X.K F H kvs xs → ∀ x ∈ xs, NestedIs s.heap x.1 (.ref x.2.1) ∧ x.1.depth ≤ 8
  | [], xs, h, x, hx => by
    have h : xs = [] := h
    subst h
    cases hx
  | (k, d) :: r, xs, ⟨ka, vv, xr, u, e, h0, h1, h2, h3, h4⟩, x, hx => by
    subst e
    rcases List.mem_cons.mp hx with e | e
    · subst e
      exact ⟨nested_of I k _ _ h1 rfl, h0⟩
    · exact rel2_is I h4 x e
theorem rel2_at {K : PySem.W.Frag} {k : NestedKey} : ∀ {kvs : List (NestedKey × PyData)} {xs : List (NestedKey × Addr × Value)}, Rel2 K F H kvs xs → match dlook kvs k with
    | some d => ∃ ka vv u, atKey xs k = some (ka, vv) ∧ RelV u vv ∧ Rep K F H d u
    | none => atKey xs k = none
  | [], xs, h => by
    have h : xs = [] := h
    subst h
    rfl
  | (k', d) :: r, xs, ⟨ka, vv, xr, u, e, h0, h1, h2, h3, h4⟩ => by
    subst e
    unfold dlook atKey
    by_cases hk : k' = k
    · subst hk
      simp only [List.find?_cons, decide_true, Option.map_some]
      exact ⟨ka, vv, u, rfl, h2, h3⟩
    · have e1 : decide (k' = k) = false := decide_eq_false hk
      simp only [List.find?_cons, e1]
      exact rel2_at h4
theorem dh_of (hw : fa.h = fun k => k.hash X.w) (I : L2.Inv X pins σ H s) {a : Addr} {kvs : List (NestedKey × PyData)} {xs : List (NestedKey × Addr × Value)} (ha : H a = some (DH fa.h a xs)) (hr : Rel2 X.K F H kvs xs) : s.heap.DictOfH (nestedKind X.prog X.w) a xs ∧ (a == sysModules) = false := by
  obtain ⟨o, es, ep, h1, h2, h3, h4, h5, h6⟩ := (I.hok a _ ha).1
  refine ⟨⟨o, es, ep, h1, h2, h3, ?_, fun x hx => rel2_is I hr x hx, h5⟩, h6⟩
  rw [h4, hw]
  rfl
/-- an empty dict is of any kind -/
theorem dk_nil (I : L2.Inv X pins σ H s) {a : Addr} (ha : H a = some (.dK [])) : s.heap.DictOfH (nestedKind X.prog X.w) a [] ∧ (a == sysModules) = false := by
  obtain ⟨_, hd, vs, rel, o, es, ep, h1, h2, h3, h4, h5, h6⟩ := dk_of I.hok ha
  cases rel
  refine ⟨⟨o, es, ep, h1, h2, h3, ?_, (fun x hx => by cases hx), List.nodup_nil⟩, hd⟩
  cases hes : es.toList with
  | nil => rfl
  | cons e r =>
    rw [hes] at h5
    cases h5
/-- a dict that is asked a tuple -/
theorem dct_as (hw : fa.h = fun k => k.hash X.w) (I : L2.Inv X pins σ H s) {a : Addr} {lk : Bool} {kvs : List (NestedKey × PyData)} (h : CellOk X.K fa F m H a (.dct lk kvs)) (hk : (kvs.all fun p => isTupK p.1) = true) :
    ∃ xs, Rel2 X.K F H kvs xs ∧ s.heap.DictOfH (nestedKind X.prog X.w) a xs ∧ (a == sysModules) = false := by
  obtain ⟨_, _, h⟩ := h
  rcases h with ⟨ks, e, g⟩ | ⟨xs, e, g⟩
  · cases kvs with
    | nil =>
      have g : ks = [] := g
      subst g
      exact ⟨[], rfl, dk_nil I e⟩
    | cons p r =>
      obtain ⟨k, d⟩ := p
      obtain ⟨kk, u, kr, e1, e2, _⟩ := g
      rw [List.all_cons, Bool.and_eq_true] at hk
      cases k with
      | tup _ => cases e2
      | _ => cases hk.1
  · exact ⟨xs, g, dh_of hw I e g⟩
theorem dctOf_some {S : Store} {y : Val} {kvs : List (NestedKey × PyData)} (h : dctOf S y = some kvs) : ∃ k lk, y = .r k ∧ S[k]? = some (.dct lk kvs) := by
  unfold dctOf at h
  split at h
  · rename_i k
    split at h
    · rename_i lk kvs' hS
      cases h
      exact ⟨k, lk, rfl, hS⟩
    · cases h
  · cases h
/-- what is asked of it -/
theorem key_at (r : SR X.K fa F m S H) {kvs : List (NestedKey × PyData)} {x : Val} {u : V} {k : NestedKey} (h : RepV X.K fa F m H x u) (e : keyFor S kvs x = some k) : isTupK k = true ∧ k.depth ≤ 8 ∧ (kvs.all fun p => isTupK p.1) = true ∧ ∃ a, u = .ref a ∧ Rep X.K F H k.data u := by
  unfold keyFor at e
  obtain ⟨k', e1, e2⟩ := Option.bind_eq_some_iff.mp e
  obtain ⟨d, e3, e4⟩ := Option.bind_eq_some_iff.mp e1
  split at e2
  · rename_i hb
    cases e2
    rw [Bool.and_eq_true, Bool.and_eq_true] at hb
    have hd := keyN_data d k e4
    refine ⟨hb.1.1, of_decide_eq_true hb.1.2, hb.2, ?_⟩
    cases k with
    | tup ks =>
      have hd : d = .tuple (NestedKey.datas ks) := hd.symm
      subst hd
      cases x with
      | d x =>
        cases e3
        have h1 : Rep X.K F H (.tuple (NestedKey.datas ks)) u := h
        have h2 := h1
        unfold Rep at h2
        obtain ⟨a, us, e5, _⟩ := h2
        exact ⟨a, e5, h1⟩
      | r j =>
        unfold dr at e3
        simp only at e3
        split at e3
        · obtain ⟨_, _, z⟩ := Option.map_eq_some_iff.mp e3
          cases z
        · cases e3
      | f _ => cases e3
      | scr _ => cases e3
    | _ => cases hb.1.1
  · cases e2
theorem in_dct (hu : X.A.units + 64 < cLine) (hw : fa.h = fun k => k.hash X.w) (I : L2.Inv X pins σ H s) (r : SR X.K fa F m S H) {x y : Val} {u1 u2 : V} {v1 v2 : Value} {kvs : List (NestedKey × PyData)} {k : NestedKey} {Q : VK} (h1 : RepV X.K fa F m H x u1) (h2 : RepV X.K fa F m H y u2) (rx : RelV u1 v1) (ry : RelV u2 v2)
    (hd : dctOf S y = some kvs) (hk : keyFor S kvs x = some k) {neg : Bool} (q : Q (.bl (if neg = true then !(dlook kvs k).isSome else (dlook kvs k).isSome)) H) : wpAny (model X.prog X.w) X.A (compareOp (if neg = true then .NotIn else .In) v1 v2) (EP X pins σ Q) X.xe s := by
  obtain ⟨j, lk, rfl, hS⟩ := dctOf_some hd
  obtain ⟨a, hm, rfl⟩ := h2
  obtain ⟨q1, q2, q3, b, rfl, q4⟩ := key_at r h1 hk
  cases ry
  have hc := r.cell j a _ hm hS
  obtain ⟨xs, g1, g2, g3⟩ := dct_as hw I hc q3
  cases rx
  have hkey : (nestedKind X.prog X.w).is s.heap k b := ⟨nested_of I k _ _ q4 rfl, q2⟩
  have hroom : (nestedKind X.prog X.w).room X.A.in1 := by
    show X.A.units + 1 + 8 < cLine
    omega
  have hat : (atKey xs k).isSome = (dlook kvs k).isSome := by
    have := rel2_at (k := k) g1
    cases hdl : dlook kvs k with
    | none => rw [hdl] at this; rw [this]; rfl
    | some d =>
      rw [hdl] at this
      obtain ⟨ka, vv, u, e, _⟩ := this
      rw [e]
      rfl
  cases neg with
  | false =>
    refine wpAny_in_heap hroom hkey g3 g2 ?_
    exact ⟨.bl _, H, I.tok _, by rw [hat]; rfl, q⟩
  | true =>
    refine wpAny_notIn_heap hroom hkey g3 g2 ?_
    exact ⟨.bl _, H, I.tok _, by rw [hat]; rfl, q⟩
end
end Wf
set_option maxRecDepth 100000
set_option maxHeartbeats 4000000
/-! W4: operators by values. -/
namespace Wf
open PySem PySem.Spec PyProof.Rows L2

section
variable {K : PySem.W.Frag} {fa : FaW} {F : FrZ} {m : List Addr} {S : Store} {H : Hp} {Q : VK}
theorem kd {v : Val} {u : V} (k : Kont K fa F m S H v S Q) (r : SR K fa F m S H) (h : RepV K fa F m H v u) : Q u H := k F m H u Step.refl r h
/-- a new tuple, a new list -/
theorem k_tup {ds : List PyData} {us : List V} (k : Kont K fa F m S H (.d (.tuple ds)) S Q) (r : SR K fa F m S H) (h : Reps K F H ds us) {p : Addr} (hp : H p = none) {o : Obj} (ho : o.dict = none) : Q (.ref p) (upd H p (.frz o (.tup us))) :=
  k _ _ _ _ (fresh_frz r hp _).1 (fresh_frz r hp _).2 (rep_tup r hp ho h)
theorem k_lst {ds : List PyData} {us : List V} (k : Kont K fa F m S H (.d (.list ds)) S Q) (r : SR K fa F m S H) (h : Reps K F H ds us) {p : Addr} (hp : H p = none) : Q (.ref p) (upd H p (.lst us)) :=
  k _ _ _ _ (fresh_frz r hp _).1 (fresh_frz r hp _).2 (rep_lst r hp h)
theorem k_listOf {vs : List Val} {v : Val} {us : List V} (e : listOf vs = some v) (k : Kont K fa F m S H v S Q) (r : SR K fa F m S H) (h : RepVs K fa F m H vs us) : us.length ≤ sizeLine ∧ ∀ p, H p = none → Q (.ref p) (upd H p (.lst us)) := by
  unfold listOf at e
  split at e
  · rename_i ds hd
    split at e
    · rename_i hz
      cases e
      have hr := h.data hd
      exact ⟨by rw [← hr.length]; exact hz, fun p hp => k_lst k r hr hp⟩
    · cases e
  · cases e
end

theorem reps_app {K : PySem.W.Frag} {F : FrZ} {H : Hp} : ∀ {ds es : List PyData} {us ws : List V}, Reps K F H ds us → Reps K F H es ws → Reps K F H (ds ++ es) (us ++ ws)
  | [], es, us, ws, h, g => by
    unfold Reps at h
    subst h
    exact g
  | d :: ds, es, us, ws, h, g => by
    unfold Reps at h
    obtain ⟨x, r, rfl, h1, h2⟩ := h
    show Reps K F H (d :: (ds ++ es)) (x :: (r ++ ws))
    unfold Reps
    exact ⟨x, r ++ ws, rfl, h1, reps_app h2 g⟩
theorem reps_nil {K : PySem.W.Frag} {F : FrZ} {H : Hp} : Reps K F H [] [] := by
  unfold Reps
  rfl
theorem reps_rep {K : PySem.W.Frag} {F : FrZ} {H : Hp} {ds : List PyData} {us : List V} (h : Reps K F H ds us) : ∀ n : Nat, Reps K F H (List.replicate n ds).flatten (List.replicate n us).flatten
  | 0 => reps_nil
  | n + 1 => by
    rw [List.replicate_succ, List.replicate_succ, List.flatten_cons, List.flatten_cons]
    exact reps_app h (reps_rep h n)

/-! ### data of at most n levels -/
theorem plainAll_of : ∀ {xs : List PyData} {n : Nat}, (∀ x ∈ xs, lv n x = true → x.plain = true) → xs.all (lv n) = true → PyData.plainAll xs = true
  | [], n, _, _ => by unfold PyData.plainAll; rfl
  | x :: xs, n, h, a => by
    rw [List.all_cons, Bool.and_eq_true] at a
    unfold PyData.plainAll
    rw [h x List.mem_cons_self a.1, plainAll_of (fun y hy => h y (List.mem_cons_of_mem _ hy)) a.2]
    rfl
theorem lv_plain : ∀ (n : Nat) (d : PyData), lv n d = true → d.plain = true
  | n, .none, _ => by unfold PyData.plain; rfl
  | n, .bool _, _ => by unfold PyData.plain; rfl
  | n, .int _, _ => by unfold PyData.plain; rfl
  | n, .str _, _ => by unfold PyData.plain; rfl
  | n + 1, .list xs, h => by
    unfold PyData.plain
    unfold lv at h
    exact plainAll_of (fun x _ => lv_plain n x) h
  | n + 1, .tuple xs, h => by
    unfold PyData.plain
    unfold lv at h
    exact plainAll_of (fun x _ => lv_plain n x) h
  | 0, .list xs, h => by unfold lv at h; cases h
  | 0, .tuple xs, h => by unfold lv at h; cases h
  | n, .dict _, h => by
    cases n <;> (unfold lv at h; cases h)
theorem depthAll_le {n : Nat} : ∀ {xs : List PyData}, (∀ x ∈ xs, lv n x = true → x.depth ≤ n) → xs.all (lv n) = true → PyData.depthAll xs ≤ n
  | [], _, _ => by unfold PyData.depthAll; omega
  | x :: xs, h, a => by
    rw [List.all_cons, Bool.and_eq_true] at a
    unfold PyData.depthAll
    have h1 := h x List.mem_cons_self a.1
    have h2 := depthAll_le (fun y hy => h y (List.mem_cons_of_mem _ hy)) a.2
    omega
theorem lv_depth : ∀ (n : Nat) (d : PyData), lv n d = true → d.depth ≤ n
  | n, .none, _ => by unfold PyData.depth; omega
  | n, .bool _, _ => by unfold PyData.depth; omega
  | n, .int _, _ => by unfold PyData.depth; omega
  | n, .str _, _ => by unfold PyData.depth; omega
  | n + 1, .list xs, h => by
    unfold PyData.depth
    unfold lv at h
    have := depthAll_le (fun x _ => lv_depth n x) h
    omega
  | n + 1, .tuple xs, h => by
    unfold PyData.depth
    unfold lv at h
    have := depthAll_le (fun x _ => lv_depth n x) h
    omega
  | 0, .list xs, h => by unfold lv at h; cases h
  | 0, .tuple xs, h => by unfold lv at h; cases h
  | n, .dict _, h => by
    cases n <;> (unfold lv at h; cases h)
theorem lvs_plain {n : Nat} {xs : List PyData} (h : xs.all (lv n) = true) : PyData.plainAll xs = true := plainAll_of (fun x _ => lv_plain n x) h
theorem lvs_depth {n : Nat} {xs : List PyData} (h : xs.all (lv n) = true) : PyData.depthAll xs ≤ n := depthAll_le (fun x _ => lv_depth n x) h

/-! ### tuples are laid as known objects -/
section
variable {X : Cx} {pins : List (Addr × Obj)} {σ : L2.St} {H : Hp} {s : Shared}
def tupO (its : List Value) : Obj := { cls := .type "tuple", data := .seq its.toArray }
theorem laid_tup {xs : List V} {its : List Value} {t : Nat} (I : L2.Inv X pins σ H s) (r : Vals xs its) (hz : xs.length ≤ sizeLine) :
    L2.Inv X pins σ (upd H s.heap.objs.size (.frz (tupO its) (.tup xs))) { s with heap := s.heap.push (tupO its), toks := t } :=
  I.laid (t' := t) (fun b ob q => Heap.get?_push_of_some _ q) (Nat.le_refl _) ⟨Heap.get?_push_size _ rfl, hz, its, r, IsTup.new _ _⟩
/-- where a new tuple is wanted -/
def NewT (Q : VK) (H : Hp) (xs : List V) : Prop := ∀ p o, H p = none → o.dict = none → Q (.ref p) (upd H p (.frz o (.tup xs)))
theorem newT {Q : VK} {xs : List V} {its : List Value} {t : Nat} (I : L2.Inv X pins σ H s) (r : Vals xs its) (hz : xs.length ≤ sizeLine) (q : NewT Q H xs) :
    EP X pins σ Q (.ref s.heap.objs.size) { s with heap := s.heap.push (tupO its), toks := t } :=
  ⟨.ref s.heap.objs.size, _, laid_tup I r hz, rfl, q _ _ (I.hok.fresh (Nat.le_refl _)) rfl⟩
end
section
variable {X : Cx}
theorem op_catF : OpR X (binaryOp .Add) (fun x y H Q => ∃ a b xs ys, x = .ref a ∧ y = .ref b ∧ SqT X.K H a xs ∧ SqT X.K H b ys ∧ xs.length + ys.length ≤ sizeLine ∧
    (xs = [] → Q (.ref b) H) ∧ (xs ≠ [] → ys = [] → Q (.ref a) H) ∧ (xs ≠ [] → ys ≠ [] → NewT Q H (xs ++ ys))) := by
  intro pins s σ H x y v u Q I rx ry h
  obtain ⟨a, b, xs, ys, rfl, rfl, ha, hb, hz, q0, q1, q2⟩ := h
  cases rx
  cases ry
  obtain ⟨its, r1, p1, _⟩ := I.tuple ha
  obtain ⟨its2, r2, p2, _⟩ := I.tuple hb
  by_cases hx : xs = []
  · subst hx
    cases r1
    exact cat_tup0 p1 p2 ⟨.ref b, H, I, rfl, q0 rfl⟩
  · refine HT.cat_tup p1 p2 (fun z => hx (r1.nil_iff.mp z)) (fun z => ⟨.ref a, H, I, rfl, q1 hx (r2.nil_iff.mp z)⟩) (fun z => ?_) (by rw [← r1.length, ← r2.length]; exact hz)
    exact newT (t := s.toks) I (r1.append r2) (by rw [List.length_append]; exact hz) (q2 hx fun w => z (r2.nil_iff.mpr w))
theorem sl_tupF : SlR X (fun x lo hi H Q => ∃ a xs, x = .ref a ∧ SqT X.K H a xs ∧
    (HT.sIx xs.length 0 lo = 0 ∧ HT.sIx xs.length xs.length hi = xs.length → Q (.ref a) H) ∧ (¬ (HT.sIx xs.length 0 lo = 0 ∧ HT.sIx xs.length xs.length hi = xs.length) → NewT Q H (cutV xs lo hi))) := by
  intro pins s σ H x v vl vu lo hi sl Q I rx hs pl pu h
  obtain ⟨a, xs, rfl, hx, q1, q2⟩ := h
  cases rx
  obtain ⟨its, r, ht, hz⟩ := I.tuple hx
  have hlen : its.toArray.size = xs.length := by rw [List.size_toArray]; exact r.length.symm
  refine ⟨"tuple", _, PyProof.Rows.slot_tuple_getitem.lookup, ht.typeIs, ?_⟩
  by_cases hw : HT.sIx xs.length 0 lo = 0 ∧ HT.sIx xs.length xs.length hi = xs.length
  · exact getItem_tuple_whole ht hs pl pu (by rw [hlen]; exact hw) ⟨.ref a, H, I, rfl, q1 hw⟩
  · refine HT.getItem_tuple_cut ht hs pl pu (by rw [hlen]; exact hw) ?_ (by rw [hlen]; exact hz)
    rw [hlen]
    exact newT (t := s.toks) I ((r.drop (HT.sIx xs.length 0 lo)).take (HT.sIx xs.length xs.length hi - HT.sIx xs.length 0 lo)) (Nat.le_trans (cutV_length xs lo hi) hz) (q2 hw)
theorem call_tupleF : CallR X (.type "tuple") (fun xs H Q => ∃ p ys, xs = [.ref p] ∧ ((SqL X.K H p ys ∧ NewT Q H ys) ∨ (SqT X.K H p ys ∧ Q (.ref p) H))) := by
  intro pins s σ H xs us Q I r h
  obtain ⟨p, ys, rfl, h⟩ := h
  obtain ⟨u, rfl, rx⟩ := vals1 r
  cases rx
  rcases h with ⟨hq, q⟩ | ⟨hq, q⟩
  · obtain ⟨its, r', pl, hz⟩ := I.list hq
    have hlen := r'.length
    refine call_tuple_list pl.isList (fun h' kp => ?_) (by simp only [List.size_toArray] <;> omega)
    have I1 : L2.Inv X pins σ H { s with heap := h' } := I.kept (t' := s.toks) kp
    exact newT (t := s.toks) I1 r' hz q
  · obtain ⟨its, r', pl, hz⟩ := I.tuple hq
    exact call_tuple_same pl ⟨.ref p, H, I, rfl, q⟩
theorem pe_tupF {es : List Expr} {t : TA} {x1 : Nat} {pos : Pos} (h : PA X es t) : PE X (.Tuple es x1 pos) (fun σ H Q => t σ H fun xs H1 => xs.length ≤ sizeLine ∧ NewT Q H1 xs) := by
  refine ⟨fun pins s σ H Q I hq => ?_⟩
  refine wpAny_Tuple_spliced (thn (h.run pos pins s σ H _ I hq) fun us s1 ⟨xs, H1, I1, r, z, q⟩ => ⟨by rw [← r.length]; exact z, ?_⟩)
  exact newT (t := s1.toks) I1 r z q
theorem tuple_mul1 (l : Addr) (items : Array Value) (n : Nat) (dd : Option Addr) (sl : Array (Option Value)) (u : Tok) :
    Meets (Builtin.«tuple.__mul__» ⟨[.ref l, .int 1 u], []⟩) (fun _ R s => s.heap.get? l = some { cls := .type "tuple", dict := dd, data := .seq items n, slots := sl } ∧ R (.ok (.ret (Value.ref l))) s) :=
  .of_wp fun prog w A R s h => by
    obtain ⟨hp, g, d, tk, os⟩ := s
    obtain ⟨hl, h⟩ := h
    have f1 := AutoSeq1.idx_int
    wp_walk using wpAny_loadPart' hl
    exact ⟨_, rfl, h⟩
/-- t * k -/
theorem op_repF : OpR X (binaryOp .Mult) (fun x y H Q => ∃ l k xs, x = .ref l ∧ y = .int k ∧ SqT X.K H l xs ∧ xs ≠ [] ∧ 1 ≤ k ∧ k ≤ 1000 ∧ xs.length ≤ 1000 ∧ (k = 1 → Q (.ref l) H) ∧ (2 ≤ k → NewT Q H (List.replicate k.toNat xs).flatten)) := by
  intro pins s σ H x y v u Q I rx ry h
  obtain ⟨l, k, xs, rfl, rfl, hT, hne, h1, h2, hz, q1, q2⟩ := h
  cases rx
  obtain ⟨t, rfl⟩ := ry
  obtain ⟨its, r, ⟨⟨cls, dd, data, sl⟩, ho, hc, n, hd⟩, hs⟩ := I.tuple hT
  simp only at hc hd
  subst hc hd
  by_cases hk : k = 1
  · subst hk
    exact wpAny_binaryOp_repeat_ref (T := "tuple") (U := "int") (by decide) ⟨_, ho, rfl⟩ (fun s' => typeIs_int s' 1 t) noFill_tuple_mul F.fills_int_mul F.slot_int_rmul repeat_tuple F.slot_int_index.lookup
      (call_meets F.slot_int_rmul (typeIs_int s 1 t) F.entry_int_rmul (F.args_int_rmul_2 _ _) (int_rmul_tuple 1 t l its.toArray n dd sl)
        ⟨ho, rfl, ⟨_, ho, rfl⟩, call_meets F.slot_tuple_mul ⟨_, ho, rfl⟩ F.entry_tuple_mul (F.args_tuple_mul_2 _ _) (tuple_mul1 l its.toArray n dd sl t) ⟨ho, ⟨.ref l, H, I, rfl, q1 rfl⟩⟩⟩)
  have h1' : 2 ≤ k := by omega
  have hle : its.length = xs.length := r.length.symm
  have hn : its ≠ [] := fun e => hne (by
    rw [e] at hle
    exact List.eq_nil_of_length_eq_zero hle.symm)
  have hi : its.toArray.isEmpty = false := by
    cases its with
    | nil => exact absurd rfl hn
    | cons a b => rfl
  have hsz0 : its.toArray.size = xs.length := by rw [List.size_toArray, hle]
  have hm : ((its.toArray.size : Nat) : Int) * k ≤ 1000000 := by
    rw [hsz0]
    have a1 : ((xs.length : Nat) : Int) * k ≤ 1000 * k := Int.mul_le_mul_of_nonneg_right (by omega) (by omega)
    omega
  have flen : (List.replicate k.toNat its).flatten.length ≤ sizeLine := by
    rw [PyProof.Rows.lm_len_rep_flat, hle, sizeLine_eq]
    have a1 : k.toNat * xs.length ≤ 1000 * 1000 := Nat.mul_le_mul (by omega) hz
    omega
  have c0 : (decide (k < -(2 ^ 63)) || decide (k ≥ 2 ^ 63)) = false := by
    rw [decide_eq_false (by omega), decide_eq_false (by omega)] <;> rfl
  have c1 : (its.toArray.isEmpty || k == 1) = false := by
    rw [hi, Bool.false_or]
    exact beq_eq_false_iff_ne.mpr (by omega)
  have c2 : (decide (k ≤ 0) || its.toArray.isEmpty) = false := by
    rw [hi, Bool.or_false]
    exact decide_eq_false (by omega)
  have c4 : Builtin.Tuple.tupleTooMany (((its.toArray.size : Nat) : Int) * k) = false := by
    unfold Builtin.Tuple.tupleTooMany
    rw [sizeLine_eq]
    exact decide_eq_false (by omega)
  refine wpAny_binaryOp_repeat_ref (T := "tuple") (U := "int") (by decide) ⟨_, ho, rfl⟩ (fun s' => typeIs_int s' k t) noFill_tuple_mul F.fills_int_mul F.slot_int_rmul repeat_tuple F.slot_int_index.lookup
    (call_meets F.slot_int_rmul (typeIs_int s k t) F.entry_int_rmul (F.args_int_rmul_2 _ _) (int_rmul_tuple k t l its.toArray n dd sl)
      ⟨ho, rfl, ⟨_, ho, rfl⟩, call_meets F.slot_tuple_mul ⟨_, ho, rfl⟩ F.entry_tuple_mul (F.args_tuple_mul_2 _ _) (tuple_mulW l its.toArray n dd sl k t c0 c1 c2 (by omega) c4 (by rw [size_rep, List.size_toArray]; exact flen)) ⟨ho, ?_⟩⟩)
  rw [size_rep]
  exact newT (t := s.toks) I (r.rep k.toNat) (by rw [PyProof.Rows.lm_len_rep_flat, sizeLine_eq]; have a1 : k.toNat * xs.length ≤ 1000 * 1000 := Nat.mul_le_mul (by omega) hz; omega) (q2 h1')
end
section
variable {X : Cx} {fa : FaW}
/-- an operator's reading by the small language's values -/
def rB (K : PySem.W.Frag) (fa : FaW) (z : Val → Val → Store → Option Val) : R2 := fun u1 u2 H Q => ∃ (F : FrZ) (m : List Addr) (S : Store) (x y v : Val), SR K fa F m S H ∧ RepV K fa F m H x u1 ∧ RepV K fa F m H y u2 ∧ z x y S = some v ∧ Kont K fa F m S H v S Q
def rC (K : PySem.W.Frag) (fa : FaW) (z : Val → Val → Store → Option Bool) : R2 := fun u1 u2 H Q => ∃ (F : FrZ) (m : List Addr) (S : Store) (x y : Val) (c : Bool), SR K fa F m S H ∧ RepV K fa F m H x u1 ∧ RepV K fa F m H y u2 ∧ z x y S = some c ∧ Q (.bl c) H

theorem op_binop (op : Operator) : OpR X (binaryOp op) (rB X.K fa (binop op)) := by
  intro pins s σ H u1 u2 v u Q I rx ry ⟨F, m, S, x, y, w, r, h1, h2, e, k⟩
  unfold binop at e
  split at e
  · cases e
    exact op_add pins s σ H u1 u2 v u Q I rx ry ⟨_, _, h1, h2, kd k r rfl⟩
  · cases e
    exact op_sub pins s σ H u1 u2 v u Q I rx ry ⟨_, _, h1, h2, kd k r rfl⟩
  · split at e
    · cases e
      exact op_mul pins s σ H u1 u2 v u Q I rx ry ⟨_, _, h1, h2, by assumption, kd k r rfl⟩
    · cases e
  · split at e
    · cases e
      exact op_fdiv pins s σ H u1 u2 v u Q I rx ry ⟨_, _, h1, h2, by assumption, kd k r rfl⟩
    · cases e
  · split at e
    · cases e
      exact op_mod pins s σ H u1 u2 v u Q I rx ry ⟨_, _, h1, h2, by assumption, kd k r rfl⟩
    · cases e
  · split at e
    · cases e
      exact op_add_str pins s σ H u1 u2 v u Q I rx ry ⟨_, _, h1, h2, by assumption, kd k r rfl⟩
    · cases e
  · split at e
    · rename_i xs ys hz
      cases e
      have g1 : Rep X.K F H (.tuple xs) u1 := h1
      have g2 : Rep X.K F H (.tuple ys) u2 := h2
      unfold Rep at g1 g2
      obtain ⟨a, us, rfl, t1, q1⟩ := g1
      obtain ⟨b, ws, rfl, t2, q2⟩ := g2
      have s1 : SqT X.K H a us := sqt_of t1
      have s2 : SqT X.K H b ws := sqt_of t2
      refine op_catF pins s σ H _ _ v u Q I rx ry ⟨a, b, us, ws, rfl, rfl, s1, s2, by rw [← q1.length, ← q2.length]; exact hz, fun e1 => ?_, fun e1 e2 => ?_, fun _ _ p o hp ho => ?_⟩
      · subst e1
        have : xs = [] := List.length_eq_zero_iff.mp q1.length
        subst this
        exact kd k r h2
      · subst e2
        have : ys = [] := List.length_eq_zero_iff.mp q2.length
        subst this
        rw [List.append_nil] at k
        exact kd k r h1
      · exact k_tup k r (reps_app q1 q2) hp ho
    · cases e
  · rename_i xs j
    split at e
    · rename_i hz
      obtain ⟨hne, hz1, hz2, hz3⟩ := hz
      cases e
      have g1 : Rep X.K F H (.tuple xs) u1 := h1
      unfold Rep at g1
      obtain ⟨a, us, rfl, t1, q1⟩ := g1
      have s1 : SqT X.K H a us := sqt_of t1
      refine op_repF pins s σ H _ _ v u Q I rx ry ⟨a, j, us, rfl, h2, s1, fun z => hne (List.length_eq_zero_iff.mp (by rw [q1.length, z]; rfl)), hz1, hz2, by rw [← q1.length]; exact hz3, fun ej => ?_, fun _ p o hp ho => k_tup k r (reps_rep q1 _) hp ho⟩
      subst ej
      refine kd k r ?_
      have e1 : (List.replicate (1 : Int).toNat xs).flatten = xs := by
        show (List.replicate 1 xs).flatten = xs
        simp
      rw [e1]
      exact h1
    · cases e
  · rename_i xs j
    split at e
    · rename_i hz
      obtain ⟨hz1, hz2, hz3⟩ := hz
      cases e
      have g1 : Rep X.K F H (.list xs) u1 := h1
      unfold Rep at g1
      obtain ⟨a, us, rfl, f1, t1, q1⟩ := g1
      refine op_rep pins s σ H _ _ v u Q I rx ry ⟨a, j, us, rfl, h2, t1, hz1, hz2, by rw [← q1.length]; exact hz3, fun p hp => ?_⟩
      exact k_lst k r (reps_rep q1 _) hp
    · cases e
  · split at e
    · rename_i xs ys hx hy
      obtain ⟨a, us, rfl, t1, q1⟩ := r.lst h1 hx
      obtain ⟨b, ws, rfl, t2, q2⟩ := r.lst h2 hy
      obtain ⟨hz, kk⟩ := k_listOf e k r (q1.append q2)
      rw [List.length_append] at hz
      exact op_cat pins s σ H _ _ v u Q I rx ry ⟨a, b, us, ws, rfl, rfl, t1, t2, hz, kk⟩
    · cases e
  · cases e
theorem Dp.readsL {K : PySem.W.Frag} {H : Hp} {u : V} {d : PyData} (h : Dp K H u d) : True := trivial
/-- == and != -/
theorem eq_ok {pins : List (Addr × Obj)} {s : Shared} {σ : L2.St} {H : Hp} {x y : V} {v u : Value} {d e : PyData} {Q : VK} (hu : X.A.units + 64 < cLine) (I : Inv X pins σ H s) (rx : RelV x v) (ry : RelV y u) (hd : Dp X.K H x d) (he : Dp X.K H y e)
    (ld : lv 40 d = true) (le : lv 40 e = true) (q : Q (.bl (PyData.eqv d e)) H) : wpAny (model X.prog X.w) X.A (compareOp .Eq v u) (EP X pins σ Q) X.xe s := by
  obtain ⟨as, r1⟩ := Dp.reads I d x v hd rx
  obtain ⟨bs, r2⟩ := Dp.reads I e y u he ry
  exact SeqAt.eq_plain r1 r2 (lv_plain _ _ ld) (lv_plain _ _ le) (by have := lv_depth _ _ ld; omega) ⟨.bl _, H, I, rfl, q⟩
theorem ne_ok {pins : List (Addr × Obj)} {s : Shared} {σ : L2.St} {H : Hp} {x y : V} {v u : Value} {d e : PyData} {Q : VK} (hu : X.A.units + 64 < cLine) (I : Inv X pins σ H s) (rx : RelV x v) (ry : RelV y u) (hd : Dp X.K H x d) (he : Dp X.K H y e)
    (ld : lv 40 d = true) (le : lv 40 e = true) (q : Q (.bl (!PyData.eqv d e)) H) : wpAny (model X.prog X.w) X.A (compareOp .NotEq v u) (EP X pins σ Q) X.xe s := by
  obtain ⟨as, r1⟩ := Dp.reads I d x v hd rx
  obtain ⟨bs, r2⟩ := Dp.reads I e y u he ry
  exact SeqAt.ne_plain r1 r2 (lv_plain _ _ ld) (lv_plain _ _ le) (by have := lv_depth _ _ ld; omega) ⟨.bl _, H, I, rfl, q⟩
theorem in_ok {neg : Bool} {pins : List (Addr × Obj)} {s : Shared} {σ : L2.St} {H : Hp} {x : V} {a : Addr} {us : List V} {v u : Value} {d : PyData} {ds : List PyData} {Q : VK} (hu : X.A.units + 64 < cLine) (I : Inv X pins σ H s) (rx : RelV x v) (ry : RelV (.ref a) u) (hd : Dp X.K H x d)
    (hs : SqL X.K H a us ∨ SqT X.K H a us) (he : DpAll X.K H us ds)
    (ld : lv 40 d = true) (le : ds.all (lv 39) = true) (q : Q (.bl (if neg = true then !anyEqv d ds else anyEqv d ds)) H) : wpAny (model X.prog X.w) X.A (compareOp (if neg = true then .NotIn else .In) v u) (EP X pins σ Q) X.xe s := by
  obtain ⟨as, r1⟩ := Dp.reads I d x v hd rx
  have hr : X.A.units + 1 + min (PyData.depthAll ds) d.depth < cLine := by
    have := lvs_depth le
    omega
  rcases hs with hs | hs
  · obtain ⟨bs, r2⟩ := Dp.reads I (.list ds) (.ref a) u (.lst hs he) ry
    cases neg with
    | true => exact SeqAt.notIn_list_data r2 r1 (lvs_plain le) (lv_plain _ _ ld) hr ⟨.bl _, H, I, rfl, q⟩
    | false => exact SeqAt.in_list_data r2 r1 (lvs_plain le) (lv_plain _ _ ld) hr ⟨.bl _, H, I, rfl, q⟩
  · obtain ⟨bs, r2⟩ := Dp.reads I (.tuple ds) (.ref a) u (.tup hs he) ry
    cases neg with
    | true => exact SeqAt.notIn_tuple_data r2 r1 (lvs_plain le) (lv_plain _ _ ld) hr ⟨.bl _, H, I, rfl, q⟩
    | false => exact SeqAt.in_tuple_data r2 r1 (lvs_plain le) (lv_plain _ _ ld) hr ⟨.bl _, H, I, rfl, q⟩
theorem rep_none {K : PySem.W.Frag} {F : FrZ} {m : List Addr} {H : Hp} {x : Val} {u : V} (h : RepV K fa F m H x u) : decide (u = .non) = isNone x := by
  cases x with
  | d x =>
    cases x with
    | none =>
      have h : u = .non := by
        have h : Rep K F H .none u := h
        unfold Rep at h
        exact h
      subst h
      rfl
    | _ =>
      have h : Rep K F H _ u := h
      unfold Rep at h
      first
        | (subst h; rfl)
        | (obtain ⟨a, xs, rfl, _⟩ := h; rfl)
        | exact h.elim
  | r k =>
    obtain ⟨a, _, rfl⟩ := h
    rfl
  | f k =>
    obtain ⟨a, _, rfl⟩ := h
    rfl
  | scr ns =>
    obtain ⟨a, rfl, _⟩ := h
    rfl
theorem op_cmpop (hx : X.A.units + 64 < cLine ∧ fa.h = fun k => k.hash X.w) (op : CmpOp) : OpR X (compareOp op) (rC X.K fa (cmpop op)) := by
  obtain ⟨hu, hw⟩ := hx
  intro pins s σ H u1 u2 v u Q I rx ry ⟨F, m, S, x, y, c, r, h1, h2, e, q⟩
  unfold cmpop at e
  split at e
  · cases e
    exact op_lt pins s σ H u1 u2 v u Q I rx ry ⟨_, _, h1, h2, q⟩
  · cases e
    exact op_le pins s σ H u1 u2 v u Q I rx ry ⟨_, _, h1, h2, q⟩
  · cases e
    exact op_gt pins s σ H u1 u2 v u Q I rx ry ⟨_, _, h1, h2, q⟩
  · cases e
    exact op_ge pins s σ H u1 u2 v u Q I rx ry ⟨_, _, h1, h2, q⟩
  · split at e
    · rename_i a b hx hy
      split at e
      · rename_i hl
        cases e
        exact eq_ok hu I rx ry (r.data h1 hx) (r.data h2 hy) hl.1 hl.2 q
      · cases e
    · cases e
  · split at e
    · rename_i a b hx hy
      split at e
      · rename_i hl
        cases e
        exact ne_ok hu I rx ry (r.data h1 hx) (r.data h2 hy) hl.1 hl.2 q
      · cases e
    · cases e
  · cases e
    have h2 : u2 = .non := h2
    exact op_isN pins s σ H u1 u2 v u Q I rx ry ⟨h2, by rw [rep_none h1]; exact q⟩
  · cases e
    have h2 : u2 = .non := h2
    exact op_notN pins s σ H u1 u2 v u Q I rx ry ⟨h2, by rw [rep_none h1]; exact q⟩
  · cases e
    exact op_isBl pins s σ H u1 u2 v u Q I rx ry ⟨_, _, h1, h2, q⟩
  · cases e
    exact op_notBl pins s σ H u1 u2 v u Q I rx ry ⟨_, _, h1, h2, q⟩
  · split at e
    · rename_i kvs hd
      obtain ⟨k, hk, hc⟩ := Option.map_eq_some_iff.mp e
      subst hc
      exact in_dct (neg := false) hu hw I r h1 h2 rx ry hd hk q
    · split at e
      · rename_i a ds hx hy
        obtain ⟨vs, hy1, hy2⟩ := Option.bind_eq_some_iff.mp hy
        split at e
        · rename_i hl
          cases e
          obtain ⟨b, us, rfl, hs, hr⟩ := r.seq h2 hy1
          exact in_ok (neg := false) hu I rx ry (r.data h1 hx) hs (Reps.dp _ _ (hr.data hy2)) hl.1 hl.2 q
        · cases e
      · cases e
  · split at e
    · rename_i kvs hd
      obtain ⟨k, hk, hc⟩ := Option.map_eq_some_iff.mp e
      subst hc
      exact in_dct (neg := true) hu hw I r h1 h2 rx ry hd hk q
    · split at e
      · rename_i a ds hx hy
        obtain ⟨vs, hy1, hy2⟩ := Option.bind_eq_some_iff.mp hy
        split at e
        · rename_i hl
          cases e
          obtain ⟨b, us, rfl, hs, hr⟩ := r.seq h2 hy1
          exact in_ok (neg := true) hu I rx ry (r.data h1 hx) hs (Reps.dp _ _ (hr.data hy2)) hl.1 hl.2 q
        · cases e
      · cases e
  · cases e
end
end Wf
set_option maxRecDepth 100000
set_option maxHeartbeats 4000000
/-! W5: subscripts, slices, truth, built-ins by values. -/
namespace Wf
open PySem PySem.Spec PyProof.Rows L2

section
variable {K : PySem.W.Frag} {fa : FaW} {F : FrZ} {m : List Addr} {S : Store} {H : Hp} {Q : VK}
theorem truth_ok (r : SR K fa F m S H) {v : Val} {u : V} {b : Bool} (h : RepV K fa F m H v u) (e : truth v S = some b) : TruV K u H b := by
  have seq : (rdS S v).map (fun xs => !xs.isEmpty) = some b → TruV K u H b := fun e => by
    obtain ⟨xs, e1, e2⟩ := Option.map_eq_some_iff.mp e
    obtain ⟨a, us, rfl, hs, hr⟩ := r.seq h e1
    have e3 : b = !us.isEmpty := by
      rw [← e2]
      have := hr.length
      cases xs <;> cases us <;> simp at this ⊢
    rcases hs with hs | hs
    · exact .inl ⟨us, hs, e3⟩
    · exact .inr (.inl ⟨us, hs, e3⟩)
  unfold truth at e
  split at e
  · cases e
    have h : u = .non := h
    subst h
    rfl
  · cases e
    have h : u = .bl b := h
    subst h
    rfl
  · cases e
    rename_i i
    have h : u = .int i := h
    subst h
    rfl
  · split at e
    · rename_i y hz
      cases e
      have h : u = .str y := h
      subst h
      exact ⟨hz, rfl⟩
    · cases e
  · exact seq e
theorem atI_rep {xs : List Val} {us : List V} {i : Int} {v : Val} (h : RepVs K fa F m H xs us) (e : atV xs i = some v) : ∃ u, atI us i = some u ∧ RepV K fa F m H v u := by
  unfold atV atI at e
  obtain ⟨j, e1, e2⟩ := Option.bind_eq_some_iff.mp e
  obtain ⟨u, g1, g2⟩ := h.get e2
  refine ⟨u, ?_, g2⟩
  unfold atI
  rw [← h.length, e1]
  exact g1
theorem cut_rep {xs : List Val} {us : List V} (h : RepVs K fa F m H xs us) (lo hi : Option Int) : RepVs K fa F m H (cutW xs lo hi) (cutV us lo hi) := by
  unfold cutW cutV
  rw [h.length]
  exact (h.drop _).take _
theorem reps_take {ds : List PyData} {us : List V} (h : Reps K F H ds us) (n : Nat) : Reps K F H (ds.take n) (us.take n) := by
  have z := (Reps.vals (fa := ⟨[], default⟩) (m := []) h).take n
  rw [← List.map_take] at z
  exact z.data (dats_map _)
where dats_map : ∀ l : List PyData, datsOf (l.map .d) = some l
  | [] => rfl
  | x :: l => by simp [datsOf, dats_map l]
theorem dats_map (l : List PyData) : datsOf (l.map .d) = some l := reps_take.dats_map l
theorem reps_cut {ds : List PyData} {us : List V} (h : Reps K F H ds us) (lo hi : Option Int) : Reps K F H (cutW ds lo hi) (cutV us lo hi) := by
  have z := cut_rep (Reps.vals (fa := ⟨[], default⟩) (m := []) h) lo hi
  have e : cutW (ds.map Val.d) lo hi = (cutW ds lo hi).map Val.d := by
    unfold cutW
    rw [List.length_map, List.map_take, List.map_drop]
  rw [e] at z
  exact z.data (dats_map _)
theorem ints_rep : ∀ {ds : List PyData} {us : List V} {ns : List Int}, Reps K F H ds us → intsOf ds = some ns → us = ns.map V.int
  | [], us, ns, h, e => by
    unfold Reps at h
    simp [intsOf] at e
    subst h e
    rfl
  | .int i :: ds, us, ns, h, e => by
    unfold Reps at h
    obtain ⟨x, r, rfl, h1, h2⟩ := h
    simp [intsOf] at e
    obtain ⟨ns', e1, rfl⟩ := e
    have h1 : x = .int i := by
      unfold Rep at h1
      exact h1
    rw [h1, ints_rep h2 e1]
    rfl
  | .none :: _, _, _, _, e => by simp [intsOf] at e
  | .bool _ :: _, _, _, _, e => by simp [intsOf] at e
  | .str _ :: _, _, _, _, e => by simp [intsOf] at e
  | .list _ :: _, _, _, _, e => by simp [intsOf] at e
  | .tuple _ :: _, _, _, _, e => by simp [intsOf] at e
  | .dict _ :: _, _, _, _, e => by simp [intsOf] at e
theorem bools_rep : ∀ {ds : List PyData} {us : List V} {ns : List Bool}, Reps K F H ds us → boolsOf ds = some ns → us = ns.map V.bl
  | [], us, ns, h, e => by
    unfold Reps at h
    simp [boolsOf] at e
    subst h e
    rfl
  | .bool i :: ds, us, ns, h, e => by
    unfold Reps at h
    obtain ⟨x, r, rfl, h1, h2⟩ := h
    simp [boolsOf] at e
    obtain ⟨ns', e1, rfl⟩ := e
    have h1 : x = .bl i := by
      unfold Rep at h1
      exact h1
    rw [h1, bools_rep h2 e1]
    rfl
  | .none :: _, _, _, _, e => by simp [boolsOf] at e
  | .int _ :: _, _, _, _, e => by simp [boolsOf] at e
  | .str _ :: _, _, _, _, e => by simp [boolsOf] at e
  | .list _ :: _, _, _, _, e => by simp [boolsOf] at e
  | .tuple _ :: _, _, _, _, e => by simp [boolsOf] at e
  | .dict _ :: _, _, _, _, e => by simp [boolsOf] at e
end

section
variable {X : Cx} {fa : FaW}
theorem ix_ok : IxR X (rB X.K fa idxS) := by
  intro value slice pins s σ H u1 u2 v u Q I rx ry ⟨F, m, S, x, y, w, r, h1, h2, e, k⟩ hs
  unfold idxS at e
  split at e
  · rename_i z i
    split at e
    · rename_i hz
      obtain ⟨c, e1, e2⟩ := Option.map_eq_some_iff.mp e
      subst e2
      exact ix_str value slice pins s σ H u1 u2 v u Q I rx ry ⟨z, i, c, h1, h2, hz, e1, kd k r rfl⟩ hs
    · cases e
  · rename_i i _
    obtain ⟨xs, e1, e2⟩ := Option.bind_eq_some_iff.mp e
    obtain ⟨a, us, rfl, hq, hr⟩ := r.seq h1 e1
    obtain ⟨u', g1, g2⟩ := atI_rep hr e2
    rcases hq with hq | hq
    · exact ix_list value slice pins s σ H _ u2 v u Q I rx ry ⟨a, us, i, u', rfl, h2, hq, g1, kd k r g2⟩ hs
    · exact ix_tup value slice pins s σ H _ u2 v u Q I rx ry ⟨a, us, i, u', rfl, h2, hq, g1, kd k r g2⟩ hs
  · cases e
def rS (K : PySem.W.Frag) (fa : FaW) : V → Option Int → Option Int → Hp → VK → Prop := fun u1 lo hi H Q => ∃ (F : FrZ) (m : List Addr) (S : Store) (x v : Val), SR K fa F m S H ∧ RepV K fa F m H x u1 ∧ cutS x lo hi S = some v ∧ Kont K fa F m S H v S Q
theorem sl_ok : SlR X (rS X.K fa) := by
  intro pins s σ H u1 v vl vu lo hi sl Q I rx hs pl pu ⟨F, m, S, x, w, r, h1, e, k⟩
  unfold cutS at e
  split at e
  · rename_i xs
    cases e
    have g1 : Rep X.K F H (.tuple xs) u1 := h1
    unfold Rep at g1
    obtain ⟨a, us, rfl, t1, q1⟩ := g1
    have s1 : SqT X.K H a us := sqt_of t1
    refine sl_tupF pins s σ H _ v vl vu lo hi sl Q I rx hs pl pu ⟨a, us, rfl, s1, fun hw => ?_, fun _ p o hp ho => k_tup k r (reps_cut q1 lo hi) hp ho⟩
    have ew : cutW xs lo hi = xs := by
      unfold cutW
      rw [q1.length, hw.1, hw.2, List.drop_zero, Nat.sub_zero, List.take_of_length_le (Nat.le_of_eq q1.length)]
    rw [ew] at k
    exact kd k r h1
  · rename_i z
    split at e
    · rename_i hz
      cases e
      have h1 : u1 = .str z := h1
      exact sl_str pins s σ H u1 v vl vu lo hi sl Q I rx hs pl pu ⟨z, h1, hz, kd k r rfl⟩
    · cases e
  · obtain ⟨xs, e1, e2⟩ := Option.bind_eq_some_iff.mp e
    obtain ⟨a, us, rfl, hq, hr⟩ := r.list h1 e1
    obtain ⟨_, kk⟩ := k_listOf e2 k r (cut_rep hr lo hi)
    exact sl_list pins s σ H _ v vl vu lo hi sl Q I rx hs pl pu ⟨a, us, rfl, hq, kk⟩

/-! ### built-ins -/
def rL (K : PySem.W.Frag) (fa : FaW) (z : List Val → Store → Option Val) : List V → Hp → VK → Prop := fun us H Q => ∃ (F : FrZ) (m : List Addr) (S : Store) (xs : List Val) (v : Val), SR K fa F m S H ∧ RepVs K fa F m H xs us ∧ z xs S = some v ∧ Kont K fa F m S H v S Q
theorem reps1 {K : PySem.W.Frag} {F : FrZ} {m : List Addr} {H : Hp} {x : Val} {us : List V} (h : RepVs K fa F m H [x] us) : ∃ u, us = [u] ∧ RepV K fa F m H x u := by
  obtain ⟨u, r, rfl, h1, h2⟩ := h
  have h2 : r = [] := h2
  subst h2
  exact ⟨u, rfl, h1⟩
theorem reps2 {K : PySem.W.Frag} {F : FrZ} {m : List Addr} {H : Hp} {x y : Val} {us : List V} (h : RepVs K fa F m H [x, y] us) : ∃ u w, us = [u, w] ∧ RepV K fa F m H x u ∧ RepV K fa F m H y w := by
  obtain ⟨u, r, rfl, h1, h2⟩ := h
  obtain ⟨w, rfl, h3⟩ := reps1 h2
  exact ⟨u, w, rfl, h1, h3⟩
theorem cr_len : CallR X (.builtin "len") (rL X.K fa fLen) := by
  intro pins s σ H vs us Q I rv ⟨F, m, S, xs, v, r, h, e, k⟩
  unfold fLen at e
  split at e <;> first | cases e | skip
  · rename_i z
    obtain ⟨u, rfl, h1⟩ := reps1 h
    split at e
    · rename_i hz
      cases e
      have h1 : u = .str z := h1
      subst h1
      exact call_len_str pins s σ H _ us Q I rv ⟨z, rfl, hz, kd k r rfl⟩
    · cases e
  · rename_i x _
    obtain ⟨u, rfl, h1⟩ := reps1 h
    obtain ⟨ys, e1, e2⟩ := Option.map_eq_some_iff.mp e
    subst e2
    obtain ⟨a, ws, rfl, hq, hr⟩ := r.seq h1 e1
    rw [hr.length] at k
    exact call_len_seq pins s σ H _ us Q I rv ⟨a, ws, rfl, hq, kd k r rfl⟩
theorem cr_abs : CallR X (.builtin "abs") (rL X.K fa fAbs) := by
  intro pins s σ H vs us Q I rv ⟨F, m, S, xs, v, r, h, e, k⟩
  unfold fAbs at e
  split at e <;> first | cases e | skip
  rename_i i
  obtain ⟨u, rfl, h1⟩ := reps1 h
  have h1 : u = .int i := h1
  subst h1
  exact call_abs pins s σ H _ us Q I rv ⟨i, rfl, kd k r rfl⟩
theorem cr_int : CallR X (.type "int") (rL X.K fa fInt) := by
  intro pins s σ H vs us Q I rv ⟨F, m, S, xs, v, r, h, e, k⟩
  unfold fInt at e
  split at e <;> first | cases e | skip
  · rename_i i
    obtain ⟨u, rfl, h1⟩ := reps1 h
    have h1 : u = .int i := h1
    subst h1
    exact call_int1 pins s σ H _ us Q I rv (.inl ⟨i, rfl, kd k r rfl⟩)
  · rename_i i
    obtain ⟨u, rfl, h1⟩ := reps1 h
    have h1 : u = .bl i := h1
    subst h1
    exact call_int1 pins s σ H _ us Q I rv (.inr ⟨i, rfl, kd k r rfl⟩)
theorem cr_tuple : CallR X (.type "tuple") (rL X.K fa fTuple) := by
  intro pins s σ H vs us Q I rv ⟨F, m, S, xs, v, r, h, e, k⟩
  unfold fTuple at e
  split at e <;> first | cases e | skip
  rename_i x
  obtain ⟨u, rfl, h1⟩ := reps1 h
  obtain ⟨ds, e1, e2⟩ := Option.map_eq_some_iff.mp e
  obtain ⟨ys, e3, e4⟩ := Option.bind_eq_some_iff.mp e1
  subst e2
  have lst : ∀ zs, rdL S x = some zs → datsOf zs = some ds → wpAny (model X.prog X.w) X.A (call (.type "tuple") us) (EP X pins σ Q) X.xe s := fun zs e3 e4 => by
    obtain ⟨a, ws, rfl, hq, hr⟩ := r.list h1 e3
    exact call_tupleF pins s σ H _ us Q I rv ⟨a, ws, rfl, .inl ⟨hq, fun p o hp ho => k_tup k r (hr.data e4) hp ho⟩⟩
  unfold rdS at e3
  split at e3
  · rename_i zs
    cases e3
    rw [dats_map] at e4
    cases e4
    have g1 : Rep X.K F H (.tuple ds) u := h1
    have g2 := g1
    unfold Rep at g1
    obtain ⟨a, ws, rfl, t1, q1⟩ := g1
    have s1 : SqT X.K H a ws := sqt_of t1
    exact call_tupleF pins s σ H _ us Q I rv ⟨a, ws, rfl, .inr ⟨s1, kd k r g2⟩⟩
  · exact lst _ e3 e4
theorem cr_list : CallR X (.type "list") (rL X.K fa fList) := by
  intro pins s σ H vs us Q I rv ⟨F, m, S, xs, v, r, h, e, k⟩
  unfold fList at e
  split at e <;> first | cases e | skip
  rename_i x
  obtain ⟨u, rfl, h1⟩ := reps1 h
  obtain ⟨ys, e1, e2⟩ := Option.bind_eq_some_iff.mp e
  obtain ⟨a, ws, rfl, hq, hr⟩ := r.seq h1 e1
  exact call_list_of pins s σ H _ us Q I rv ⟨a, ws, rfl, hq, (k_listOf e2 k r hr).2⟩
theorem cr_sumW (hc : X.calm = true) : CallR X (.builtin "sum") (rL X.K fa fSum) := by
  intro pins s σ H vs us Q I rv ⟨F, m, S, xs, v, r, h, e, k⟩
  unfold fSum at e
  split at e <;> first | cases e | skip
  rename_i x
  obtain ⟨u, rfl, h1⟩ := reps1 h
  obtain ⟨ds, e1, e2⟩ := Option.bind_eq_some_iff.mp e
  obtain ⟨ys, e3, e4⟩ := Option.bind_eq_some_iff.mp e1
  obtain ⟨ns, e5, e6⟩ := Option.map_eq_some_iff.mp e2
  subst e6
  obtain ⟨a, ws, rfl, hq, hr⟩ := r.list h1 e3
  rw [ints_rep (hr.data e4) e5] at hq
  exact cr_sum hc pins s σ H _ us Q I rv ⟨a, ns, rfl, hq, kd k r rfl⟩
theorem cr_allW (hc : X.calm = true) : CallR X (.builtin "all") (rL X.K fa fAll) := by
  intro pins s σ H vs us Q I rv ⟨F, m, S, xs, v, r, h, e, k⟩
  unfold fAll at e
  split at e <;> first | cases e | skip
  rename_i x
  obtain ⟨u, rfl, h1⟩ := reps1 h
  obtain ⟨ds, e1, e2⟩ := Option.bind_eq_some_iff.mp e
  obtain ⟨ys, e3, e4⟩ := Option.bind_eq_some_iff.mp e1
  obtain ⟨ns, e5, e6⟩ := Option.map_eq_some_iff.mp e2
  subst e6
  obtain ⟨a, ws, rfl, hq, hr⟩ := r.list h1 e3
  rw [bools_rep (hr.data e4) e5] at hq
  exact L2.cr_all hc pins s σ H _ us Q I rv ⟨a, ns, rfl, hq, kd k r rfl⟩
theorem cr_anyW (hc : X.calm = true) : CallR X (.builtin "any") (rL X.K fa fAny) := by
  intro pins s σ H vs us Q I rv ⟨F, m, S, xs, v, r, h, e, k⟩
  unfold fAny at e
  split at e <;> first | cases e | skip
  rename_i x
  obtain ⟨u, rfl, h1⟩ := reps1 h
  obtain ⟨ds, e1, e2⟩ := Option.bind_eq_some_iff.mp e
  obtain ⟨ys, e3, e4⟩ := Option.bind_eq_some_iff.mp e1
  obtain ⟨ns, e5, e6⟩ := Option.map_eq_some_iff.mp e2
  subst e6
  obtain ⟨a, ws, rfl, hq, hr⟩ := r.list h1 e3
  rw [bools_rep (hr.data e4) e5] at hq
  exact L2.cr_any hc pins s σ H _ us Q I rv ⟨a, ns, rfl, hq, kd k r rfl⟩
end
end Wf
set_option maxRecDepth 100000
set_option maxHeartbeats 4000000
/-! W6: sorted, min, max, isinstance. -/
namespace Wf
open PySem PySem.Spec PyProof.Rows L2 PySem.W

section
variable {prog : Program} {w : World} {A : Around} {E : Value → Shared → Prop} {s : Shared}
/-- sorted(x), x a list or a tuple of data -/
theorem sorted_seq {l : Addr} {T : String} {o : Obj} {vs : List Value} {n : Nat} {ds : List PyData} {R : Value → PyData → Prop} {Q : Value → Shared → Prop} (hT : T = "list" ∨ T = "tuple") (ho : s.heap.get? l = some o) (hc : o.cls = .type T) (hd : o.data = .seq vs.toArray n)
    (e : EachIs R vs ds) (er : EachIs (fun v d => ∃ as, Reads s.heap v d as) vs ds) (hal : AllAlike ds) (hk : Sortable ds) (hL : vs.length ≤ sizeLine) (hu : ∀ d, d ∈ ds → A.units + 2 + d.depth < cLine)
    (h : ∀ (h1 h' : Heap) (out : List Value) ep, (∀ b ob, s.heap.get? b = some ob → h1.get? b = some ob) → (∀ b ob, h1.get? b = some ob → h'.get? b = some ob) → h'.get? h1.objs.size = some (seqObj "list" (List.toArray out) ep) → EachIs R out (ds.mergeSort (dataLe false id)) → Q (.ref h1.objs.size) { s with heap := h' }) :
    wpAny (model prog w) A (call (.builtin "sorted") [.ref l]) Q E s := by
  refine call_function_entry_kw kind_sorted plain_sorted entry_sorted (args_sorted1 _) ?_
  unfold Builtin.«sorted»
  refine wpAny_bind (m := checkCount "sorted" 1 1 _) (wpAny_pure ?_)
  refine wpAny_bind (wpAny_collect_seq l hT ho hc hd (fun h1 k1 => ?_) (by rw [List.size_toArray]; exact hL))
  rw [List.toList_toArray]
  refine wpAny_bind (wpAny_newList ?_ hL)
  have ha : (h1.push (seqObj "list" vs.toArray 0)).get? h1.objs.size = some (seqObj "list" vs.toArray 0) := Heap.get?_push_size _ rfl
  have k2 : ∀ b ob, s.heap.get? b = some ob → (h1.push (seqObj "list" vs.toArray 0)).get? b = some ob := fun b ob q => Heap.get?_push_of_some _ (k1 b ob q)
  have k3 : ∀ b ob, s.heap.get? b = some ob → b ≠ h1.objs.size := fun b ob q => Nat.ne_of_lt (Heap.lt_size (k1 b ob q))
  have er' : EachIs (fun v d => ∃ as, Reads (sortingHeap (h1.push (seqObj "list" vs.toArray 0)) h1.objs.size vs) v d as) vs ds :=
    er.mono fun _ _ ⟨as, r⟩ => ⟨as, PyProof.Rows.Reads.keeps (fun b ob q => sortingHeap_old (k3 b ob q) (k2 b ob q)) r⟩
  refine wpAny_bind (wpAny_holding (wpAny_call_entry_kw slot_list_sort ⟨_, ha, rfl⟩ entry_list_sort ?body (args_list_sort _)))
  case body =>
    refine wpAny_mono (list_sort_vals (A := A.in1.in1) (E := fun _ _ => False) (P := fun f s' => f = .done (.ret .none) ∧ Q (.ref h1.objs.size) s') ha (SortsAt.data (s := { s with heap := sortingHeap (h1.push (seqObj "list" vs.toArray 0)) h1.objs.size vs }) er' hal hk hu) hL ⟨rfl, ?_⟩) (fun f s' hf => ?_) fun _ _ e => e.elim
    · obtain ⟨ep, he⟩ := PyProof.Rows.sortedHeap_at (h := h1.push (seqObj "list" vs.toArray 0)) (vs := vs) (out := (sortVals (dataKind (sortingHeap (h1.push (seqObj "list" vs.toArray 0)) h1.objs.size vs) ds) false vs vs).toArray) ha
      refine h h1 _ _ ep k1 (fun b ob q => ?_) he ?_
      · rw [PyProof.Rows.sortedHeap_old (Nat.ne_of_lt (Heap.lt_size q)) (Heap.lt_size (Heap.get?_push_of_some _ q))]
        exact Heap.get?_push_of_some _ q
      · have z := sortVals_data (enc := id) false e (by simpa using er') (by simpa using hal)
        simpa using z
    · obtain ⟨rfl, hq⟩ := hf
      exact ⟨_, rfl, wpAny_pure ⟨_, rfl, hq⟩⟩
end

theorem sortable_of {ds : List PyData} (h : sortOk ds = true) : AllAlike ds ∧ Sortable ds ∧ ds.all (lv 40) = true := by
  unfold sortOk at h
  simp only [Bool.and_eq_true, Bool.or_eq_true] at h
  obtain ⟨⟨h1, h2⟩, h3⟩ := h
  refine ⟨fun d hd d' hd' => List.all_eq_true.mp (List.all_eq_true.mp h1 d hd) d' hd', ?_, h3⟩
  rcases h2 with h2 | h2
  · refine .inl fun d hd => ?_
    have := List.all_eq_true.mp h2 d hd
    unfold isTupNE at this
    split at this
    · exact ⟨_, _, rfl⟩
    · cases this
  · refine .inr fun d hd => ?_
    have := List.all_eq_true.mp h2 d hd
    simp only [Bool.and_eq_true, Bool.not_eq_true'] at this
    refine ⟨fun e => ?_, fun xs e => ?_⟩
    · rw [e] at this
      cases this.2
    · rw [e] at this
      cases this.1
theorem sortD_eq (ds : List PyData) : ds.mergeSort (dataLe false id) = sortD ds := rfl
theorem each_of {K : PySem.W.Frag} {F : FrZ} {H : Hp} : ∀ {ds : List PyData} {us : List V} {vs : List Value}, Reps K F H ds us → Vals us vs → EachIs (fun v d => ∃ u, RelV u v ∧ Rep K F H d u) vs ds
  | [], us, vs, h, r => by
    unfold Reps at h
    subst h
    cases r
    exact .nil
  | d :: ds, us, vs, h, r => by
    unfold Reps at h
    obtain ⟨x, t, rfl, h1, h2⟩ := h
    cases r with
    | cons r1 r2 => exact .cons ⟨x, r1, h1⟩ (each_of h2 r2)
theorem each_to {K : PySem.W.Frag} {F : FrZ} {H : Hp} : ∀ {ds : List PyData} {vs : List Value}, EachIs (fun v d => ∃ u, RelV u v ∧ Rep K F H d u) vs ds → ∃ us, Reps K F H ds us ∧ Vals us vs
  | [], _, .nil => ⟨[], reps_nil, .nil⟩
  | d :: ds, _, .cons ⟨u, r1, r2⟩ t => by
    obtain ⟨us, h1, h2⟩ := each_to t
    refine ⟨u :: us, ?_, .cons r1 h2⟩
    unfold Reps
    exact ⟨u, us, rfl, r2, h1⟩
section
variable {X : Cx} {fa : FaW}
theorem cr_sortedW (hu : X.A.units + 64 < cLine) : CallR X (.builtin "sorted") (rL X.K fa fSorted) := by
  intro pins s σ H vs us Q I rv ⟨F, m, S, xs, v, r, h, e, k⟩
  unfold fSorted at e
  split at e <;> first | cases e | skip
  rename_i x
  obtain ⟨u, rfl, h1⟩ := reps1 h
  obtain ⟨ds, e1, e2⟩ := Option.bind_eq_some_iff.mp e
  obtain ⟨ys, e3, e4⟩ := Option.bind_eq_some_iff.mp e1
  split at e2
  · rename_i hok
    obtain ⟨hok, hz⟩ := hok
    cases e2
    obtain ⟨hal, hk, hlv⟩ := sortable_of hok
    obtain ⟨a, ws, rfl, hq, hr⟩ := r.seq h1 e3
    have hd := hr.data e4
    have go : ∀ (T : String) (o : Obj) (its : List Value) (n : Nat), (T = "list" ∨ T = "tuple") → s.heap.get? a = some o → o.cls = .type T → o.data = .seq its.toArray n → Vals ws its → wpAny (model X.prog X.w) X.A (call (.builtin "sorted") us) (EP X pins σ Q) X.xe s := by
      intro T o its n hT ho hc hdt rvs
      rw [Vals.ref1 rv]
      have hlen : its.length = ds.length := by rw [← rvs.length, ← hd.length]
      refine sorted_seq hT ho hc hdt (each_of hd rvs) ((each_of hd rvs).mono fun v d ⟨u, q1, q2⟩ => Dp.reads I d u v (Rep.dp d u q2) q1) hal hk (by rw [hlen]; exact hz) (fun d hd => by
        have := lv_depth _ _ (List.all_eq_true.mp hlv d hd)
        omega) ?_
      intro h1 h' out ep k1 k2 ha heach
      rw [sortD_eq] at heach
      obtain ⟨ws', g1, g2⟩ := each_to heach
      have I1 : L2.Inv X pins σ H { s with heap := h1 } := I.kept (t' := s.toks) k1
      have hfr : H h1.objs.size = none := I1.hok.fresh (Nat.le_refl _)
      have hl' : ws'.length ≤ sizeLine := by
        rw [← g1.length]
        unfold sortD
        rw [List.length_mergeSort]
        exact hz
      exact ⟨.ref h1.objs.size, upd H h1.objs.size (.lst ws'), I1.laid (t' := s.toks) k2 (Nat.le_refl _) ⟨hl', out, ep, g2, ha⟩, rfl, k_lst k r g1 hfr⟩
    rcases hq with hq | hq
    · obtain ⟨its, rvs, ⟨o, n, ho, hc, _, hdt⟩, _⟩ := I.list hq
      exact go "list" o its n (.inl rfl) ho hc hdt rvs
    · obtain ⟨its, rvs, ⟨o, ho, hc, n, hdt⟩, _⟩ := I.tuple hq
      exact go "tuple" o its n (.inr rfl) ho hc hdt rvs
  · cases e2
end
end Wf
set_option maxRecDepth 100000
set_option maxHeartbeats 4000000
/-! W7: what enters a tuple, methods, isinstance, min, max. -/
namespace Wf
open PySem PySem.Spec PyProof.Rows L2

section
variable {K : PySem.W.Frag} {fa : FaW} {F : FrZ} {m : List Addr} {S : Store} {H : Hp}
theorem absorb1_ok (r : SR K fa F m S H) {v : Val} {u : V} {d : PyData} {S' : Store} (h : RepV K fa F m H v u) (e : absorb1 v S = some (d, S')) : ∃ F', Step F m S H F' m S' H ∧ SR K fa F' m S' H ∧ Rep K F' H d u := by
  unfold absorb1 at e
  split at e
  · cases e
    exact ⟨F, Step.refl, r, h⟩
  · rename_i k
    obtain ⟨a, h1, rfl⟩ := h
    split at e
    · rename_i xs hS
      split at e
      · rename_i ds hd
        cases e
        obtain ⟨a1, a2, a3⟩ := kill_cell r h1 hS hd
        exact ⟨_, a1, a2, a3⟩
      · cases e
    · cases e
  · cases e
theorem absorb_ok : ∀ {vs : List Val} {us : List V} {F : FrZ} {S : Store} {ds : List PyData} {S' : Store}, SR K fa F m S H → RepVs K fa F m H vs us → absorb vs S = some (ds, S') → ∃ F', Step F m S H F' m S' H ∧ SR K fa F' m S' H ∧ Reps K F' H ds us
  | [], us, F, S, ds, S', r, h, e => by
    obtain ⟨h1, h2⟩ := sret_some e
    simp only at h1 h2
    subst h1 h2
    have h : us = [] := h
    subst h
    exact ⟨F, Step.refl, r, reps_nil⟩
  | v :: vs, us, F, S, ds, S', r, h, e => by
    obtain ⟨u, ws, rfl, h1, h2⟩ := h
    obtain ⟨d, S1, e1, e2⟩ := sbind_some e
    obtain ⟨ds', S2, e3, e4⟩ := sbind_some e2
    obtain ⟨e5, e6⟩ := sret_some e4
    simp only at e5 e6
    subst e5 e6
    obtain ⟨F1, st1, r1, g1⟩ := absorb1_ok r h1 e1
    obtain ⟨F2, st2, r2, g2⟩ := absorb_ok r1 (st1.reps r h2) e3
    refine ⟨F2, st1.trans st2, r2, ?_⟩
    unfold Reps
    exact ⟨u, ws, rfl, Rep.mono (st2.keepF r1) _ _ g1, g2⟩
theorem mkT_ok (r : SR K fa F m S H) {vs : List Val} {us : List V} {v : Val} {S' : Store} {Q : VK} (h : RepVs K fa F m H vs us) (e : mkT vs S = some (v, S')) (k : Kont K fa F m S H v S' Q) : us.length ≤ sizeLine ∧ NewT Q H us := by
  obtain ⟨ds, S1, e1, e2⟩ := sbind_some e
  obtain ⟨hz, e3⟩ := sif_some e2
  obtain ⟨e4, e5⟩ := sret_some e3
  simp only at e4 e5
  subst e4 e5
  obtain ⟨F1, st1, r1, g1⟩ := absorb_ok r h e1
  refine ⟨by rw [← g1.length]; exact of_decide_eq_true hz, fun p o hp ho => ?_⟩
  exact k _ _ _ _ (st1.trans (fresh_frz r1 hp _).1) (fresh_frz r1 hp _).2 (rep_tup r1 hp ho g1)
theorem lt_of_rep (r : SR K fa F m S H) : ∀ {vs : List Val} {us : List V}, RepVs K fa F m H vs us → ∀ j, Val.r j ∈ vs → j < S.length
  | [], us, h, j, hj => by cases hj
  | v :: vs, us, ⟨u, ws, e, h1, h2⟩, j, hj => by
    rcases List.mem_cons.mp hj with e1 | e1
    · subst e1
      obtain ⟨a, h3, _⟩ := h1
      rw [← r.len]
      exact (List.getElem?_eq_some_iff.mp h3).1
    · exact lt_of_rep r h2 j e1
theorem alloc_ok (r : SR K fa F m S H) {vs : List Val} {us : List V} {v : Val} {S' : Store} {Q : VK} (h : RepVs K fa F m H vs us) (e : alloc vs S = some (v, S')) (k : Kont K fa F m S H v S' Q) : us.length ≤ sizeLine ∧ ∀ p, H p = none → Q (.ref p) (upd H p (.lst us)) := by
  unfold alloc at e
  split at e
  · rename_i hz
    cases e
    refine ⟨by rw [← h.length]; exact hz, fun p hp => ?_⟩
    obtain ⟨a1, a2⟩ := fresh_cell r hp h (lt_of_rep r h)
    exact k _ _ _ _ a1 a2 ⟨p, by rw [← r.len]; simp, rfl⟩
  · cases e
theorem mkL_ok (r : SR K fa F m S H) {kp : Bool} {vs : List Val} {us : List V} {v : Val} {S' : Store} {Q : VK} (h : RepVs K fa F m H vs us) (e : mkL kp vs S = some (v, S')) (k : Kont K fa F m S H v S' Q) : us.length ≤ sizeLine ∧ ∀ p, H p = none → Q (.ref p) (upd H p (.lst us)) := by
  unfold mkL at e
  split at e
  · exact alloc_ok r h e k
  · obtain ⟨ds, S1, e1, e2⟩ := sbind_some e
    obtain ⟨hz, e3⟩ := sif_some e2
    obtain ⟨e4, e5⟩ := sret_some e3
    simp only at e4 e5
    subst e4 e5
    obtain ⟨F1, st1, r1, g1⟩ := absorb_ok r h e1
    refine ⟨by rw [← g1.length]; exact of_decide_eq_true hz, fun p hp => ?_⟩
    exact k _ _ _ _ (st1.trans (fresh_frz r1 hp _).1) (fresh_frz r1 hp _).2 (rep_lst r1 hp g1)
theorem live_ok (r : SR K fa F m S H) {o : Val} {u : V} {k : Nat} {xs : List Val} (h : RepV K fa F m H o u) (e : live S o = some (k, xs)) : ∃ a us, u = .ref a ∧ m[k]? = some a ∧ S[k]? = some (.lst false xs) ∧ H a = some (.lst us) ∧ RepVs K fa F m H xs us := by
  unfold live at e
  split at e
  · split at e
    · rename_i ys hS
      cases e
      obtain ⟨a, h1, rfl⟩ := h
      obtain ⟨_, us, g1, g2⟩ := r.cell _ a _ h1 hS
      exact ⟨a, us, rfl, h1, hS, g1, g2⟩
    · cases e
  · cases e
end

/-! ### methods -/
/-- a list, or a tuple that is a known object without a dict of its own -/
def tyM (K : PySem.W.Frag) (T : String) (x : V) (H : Hp) : Prop := ∃ p, x = .ref p ∧ ((T = "list" ∧ ∃ xs, SqL K H p xs) ∨ (T = "tuple" ∧ ((∃ o xs, H p = some (.frz o (.tup xs)) ∧ o.dict = none) ∨ ∃ o, K.lookup p = some o ∧ o.dict = none ∧ o.cls = .type "tuple")))
section
variable {X : Cx} {fa : FaW}
theorem tyM_is {pins : List (Addr × Obj)} {σ : L2.St} {H : Hp} {s : Shared} {T : String} {x : V} {v : Value} (I : L2.Inv X pins σ H s) (r : RelV x v) (ty : tyM X.K T x H) :
    s.TypeIs v T ∧ ∀ a, v = .ref a → ∃ ob, s.heap.get? a = some ob ∧ ob.dict = none := by
  obtain ⟨p, rfl, ty⟩ := ty
  cases r
  rcases ty with ⟨rfl, xs, hq⟩ | ⟨rfl, ⟨o, xs, hk, hd⟩ | ⟨o, hk, hd, hc⟩⟩
  · obtain ⟨its, _, pl, _⟩ := I.list hq
    refine ⟨pl.isList.typeIs, fun a e => ?_⟩
    cases e
    obtain ⟨o, n, e, c, hd, _⟩ := pl
    exact ⟨o, e, hd⟩
  · obtain ⟨e, _, _, _, o', e', c, _⟩ := I.hok p _ hk
    rw [e] at e'
    cases e'
    refine ⟨⟨o, e, c⟩, fun a e2 => ?_⟩
    cases e2
    exact ⟨o, e, hd⟩
  · refine ⟨⟨o, I.kIn p o hk, hc⟩, fun a e => ?_⟩
    cases e
    exact ⟨o, I.kIn _ o hk, hd⟩
/-- the kind of what a method is called of -/
def tyS : Val → Option String
  | .d (.list _) => some "list"
  | .d (.tuple _) => some "tuple"
  | .r _ => some "list"
  | .scr _ => some "list"
  | _ => none
theorem tyS_ok {F : FrZ} {m : List Addr} {S : Store} {H : Hp} (r : SR X.K fa F m S H) {o : Val} {u : V} {T : String} (h : RepV X.K fa F m H o u) (hl : ∀ k, o = .r k → ∃ xs, rdL S o = some xs) (e : tyS o = some T) : tyM X.K T u H := by
  unfold tyS at e
  split at e <;> cases e
  · obtain ⟨a, us, rfl, hq, _⟩ := r.list h rfl
    exact ⟨a, rfl, .inl ⟨rfl, us, hq⟩⟩
  · rename_i ds
    have h : Rep X.K F H (.tuple ds) u := h
    unfold Rep at h
    obtain ⟨a, us, rfl, t, _⟩ := h
    refine ⟨a, rfl, .inr ⟨rfl, ?_⟩⟩
    rcases t with ⟨_, o, g1, g2⟩ | ⟨o, its, n, g1, g2, g3, _⟩
    · exact .inl ⟨o, us, g1, g2⟩
    · exact .inr ⟨o, g1, g2, g3⟩
  · obtain ⟨xs, e1⟩ := hl _ rfl
    obtain ⟨a, us, rfl, hq, _⟩ := r.list h e1
    exact ⟨a, rfl, .inl ⟨rfl, us, hq⟩⟩
  · obtain ⟨a, us, rfl, hq, _⟩ := r.list h rfl
    exact ⟨a, rfl, .inl ⟨rfl, us, hq⟩⟩
def rM (K : PySem.W.Frag) (fa : FaW) (T : String) (g : Val → List Val → SM Val) : V → List V → Hp → VK → Prop := fun x xs H Q => ∃ (F : FrZ) (m : List Addr) (S : Store) (o : Val) (vs : List Val) (v : Val) (S' : Store),
  SR K fa F m S H ∧ RepV K fa F m H o x ∧ RepVs K fa F m H vs xs ∧ tyS o = some T ∧ g o vs S = some (v, S') ∧ Kont K fa F m S H v S' Q
theorem rdS_ty {S : Store} {o : Val} {xs : List Val} (e : rdS S o = some xs) : ∃ T, tyS o = some T := by
  unfold rdS at e
  split at e
  · exact ⟨_, rfl⟩
  · unfold rdL at e
    split at e
    · exact ⟨_, rfl⟩
    · exact ⟨_, rfl⟩
    · exact ⟨_, rfl⟩
    · cases e
/-- o.m(..) of a list or a tuple -/
theorem pe_mt {o : Expr} {es : List Expr} {name : Str} {apos cpos : Pos} {f : EnvW → SM Val} {fs : EnvW → SM (List Val)} {g : Val → List Val → SM Val}
    (hm : ∀ o vs S p T, g o vs S = some p → tyS o = some T → ∃ id, PlainAttrs T ∧ Slot T name id ∧ typeOf (.builtin id) = pure (.type "method_descriptor") ∧ MtR X id (rM X.K fa T g))
    (ho : PE X o (TV X.K fa f)) (ha : PA X es (TVs X.K fa fs))
    (hbase : attributeBase o name X.env (eval o X.env) = eval o X.env)
    (hfew : ((backTo cpos (starEach es X.env)).all (fun x => !x.1) && (backToKw cpos (keywordEach [] X.env)).all (fun x => x.1.isSome)
      && decide (es.length + ([] : List Keyword).length + (if ([] : List Keyword).isEmpty then 0 else 1) < 30)) = true)
    (hline : (apos.endLine == cpos.line) = true) (hplain : (backTo cpos (starEach es X.env)).any (·.1) = false) (hs : ∀ e r, es = e :: r → starEach es X.env = (false, eval e X.env) :: starEach r X.env) (hnil : es = [] → fs = fun _ => sret []) :
    PE X (.Call (.Attribute o name apos) es [] cpos) (TV X.K fa fun ρ => sbind (f ρ) fun x => sbind (sask fun S => rdS S x) fun _ => sbind (fs ρ) fun vs => g x vs) := by
  refine ⟨fun pins s σ H Q I ⟨F, m, ρ, S, v, S', r0, e0, h0, k0⟩ => ?_⟩
  obtain ⟨x, S1, hx, h1⟩ := sbind_some h0
  obtain ⟨zs, S1', hz, h1'⟩ := sbind_some h1
  obtain ⟨hz1, hz2⟩ := sask_some hz
  simp only at hz1 hz2
  rw [hz2] at h1'
  obtain ⟨vs, S2, hvs, h2⟩ := sbind_some h1'
  refine wpAny_Call_method_late hbase hfew hline rfl (thn (ho.run pins s σ H (fun u1 H1 => ∃ F1 m1, Step F m S H F1 m1 S1 H1 ∧ SR X.K fa F1 m1 S1 H1 ∧ RepV X.K fa F1 m1 H1 x u1) I ⟨F, m, ρ, S, x, S1, r0, e0, hx, fun F1 m1 H1 u1 st1 r1 v1 => ⟨F1, m1, st1, r1, v1⟩⟩) fun v0 s1 ⟨u1, H1, I1, rv1, F1, m1, st1, r1, v1⟩ => ?_)
  obtain ⟨T, hT⟩ := rdS_ty hz1
  obtain ⟨id, pa, slot, hdesc, hM⟩ := hm _ _ _ _ T h2 hT
  obtain ⟨g1, g2⟩ := tyM_is I1 rv1 (tyS_ok r1 v1 (fun k ek => by
    subst ek
    exact ⟨zs, hz1⟩) hT)
  have fin : ∀ us s2, AP X pins σ (fun ws H2 => ∃ F2 m2, Step F1 m1 S1 H1 F2 m2 S2 H2 ∧ SR X.K fa F2 m2 S2 H2 ∧ RepVs X.K fa F2 m2 H2 vs ws) us s2 → wpAny (model X.prog X.w) X.A (call (.builtin id) (v0 :: us)) (EP X pins σ Q) X.xe s2 := by
    rintro us s2 ⟨ws, H2, I2, rw2, F2, m2, st2, r2, v2⟩
    exact hM pins s2 σ H2 u1 ws v0 us Q I2 rv1 rw2 ⟨F2, m2, S2, x, vs, v, S', r2, st2.rep r1 v1, v2, hT, h2, fun F' m' H' u st r3 q => k0 F' m' H' u (st1.trans (st2.trans st)) r3 q⟩
  have hA := ha.run cpos pins s1 σ H1 _ I1 ⟨F1, m1, ρ, S1, vs, S2, r1, st1.er r0 e0, hvs, fun F2 m2 H2 u2 st2 r2 v2 => (⟨F2, m2, st2, r2, v2⟩ : ∃ F2 m2, Step F1 m1 S1 H1 F2 m2 S2 H2 ∧ SR X.K fa F2 m2 S2 H2 ∧ RepVs X.K fa F2 m2 H2 vs u2)⟩
  refine ⟨T, id, pa, slot, hdesc, g1, g2, ?_⟩
  cases es with
  | nil =>
    rw [hnil rfl] at hvs
    obtain ⟨q1, q2⟩ := sret_some hvs
    simp only at q1 q2
    subst q1 q2
    exact Calls.callWith_builtin rfl (PySem.evalArgs_none (fin [] s1 ⟨[], H1, I1, .nil, F1, m1, Step.refl, r1, rfl⟩))
  | cons e r =>
    have hs' := hs e r rfl
    rw [hs'] at hA hplain ⊢
    exact Calls.callWith_builtin hplain (Calls.evalArgs_plain (thn hA fin))

/-! the methods -/
theorem tyS_L {o : Val} {S : Store} {xs : List Val} (e : tyS o = some "list") (h : rdS S o = some xs) : rdL S o = some xs := by
  unfold tyS at e
  split at e
  · exact h
  · exact absurd (Option.some.inj e) (by decide)
  · exact h
  · exact h
  · cases e
theorem tyS_T {o : Val} (e : tyS o = some "tuple") : ∃ ds, o = .d (.tuple ds) := by
  unfold tyS at e
  split at e
  · exact absurd (Option.some.inj e) (by decide)
  · exact ⟨_, rfl⟩
  · exact absurd (Option.some.inj e) (by decide)
  · exact absurd (Option.some.inj e) (by decide)
  · cases e
theorem rm_index_list (hu : X.A.units + 65 < cLine) : MtR X "list.index" (rM X.K fa "list" gIndex) := by
  intro pins s σ H x xs v us Q I rx rxs ⟨F, m, S, o, vs, w, S', r, h1, h2, ht, e, k⟩
  unfold gIndex at e
  split at e
  · rename_i y
    obtain ⟨e1, e2⟩ := sask_some e
    simp only at e2
    subst e2
    split at e1
    · rename_i ds d hx hy
      split at e1
      · rename_i hl
        obtain ⟨j, hj, ej⟩ := Option.map_eq_some_iff.mp e1
        simp only at ej
        subst ej
        obtain ⟨u, rfl, hv⟩ := reps1 h2
        obtain ⟨uy, rfl, ry⟩ := vals1 rxs
        obtain ⟨zs, z1, z2⟩ := Option.bind_eq_some_iff.mp hx
        obtain ⟨a, ws, rfl, hl', hr⟩ := r.list h1 (tyS_L ht z1)
        obtain ⟨as, r1⟩ := Dp.reads I d u uy (r.data hv hy) ry
        cases rx
        have ha := Reps.dp _ _ (hr.data z2)
        obtain ⟨its, rv, ⟨⟨cls, dd, data, sls⟩, n, ho, hc, hdn, hdt⟩, hlen⟩ := I.list hl'
        simp only at hc hdt
        subst hc hdt
        obtain ⟨bs, h4⟩ := Dp.readsAll I ds _ its ha rv
        have h4' : ReadsAll s.heap its.toArray.toList ds bs := h4
        have hpl := lvs_plain hl.2
        obtain ⟨hj1, hit, hno⟩ := SeqAt.hit_at h4' hpl hj
        have hsz : its.toArray.size ≤ sizeLine := by rw [List.size_toArray, ← rv.length]; exact hlen
        have hsl := sizeLine_eq
        refine call_meets PySem.F.slot_list_index ⟨_, ho, rfl⟩ PySem.F.entry_list_index (PySem.F.args_list_index_2 _ _)
          (SeqAt.list_indexAt a its.toArray n dd sls uy (fun u => PyData.eqv (SeqAt.readOf s.heap u) d) j hj1 (by omega) hit hno) ⟨ho, SeqAt.items_plain h4' r1 hpl (lv_plain _ _ hl.1) (by have := lvs_depth hl.2; show X.A.units + 1 + min (PyData.depthAll ds) d.depth < cLine; omega), ?_⟩
        exact ⟨.int (j : Nat), H, I.tok _, ⟨_, rfl⟩, kd k r rfl⟩
      · cases e1
    · cases e1
  · cases e
end
end Wf
set_option maxRecDepth 100000
set_option maxHeartbeats 4000000
/-! W8: the methods. -/
namespace Wf
open PySem PySem.Spec PyProof.Rows L2
section
variable {X : Cx} {fa : FaW}
theorem rm_index_tup (hu : X.A.units + 65 < cLine) : MtR X "tuple.index" (rM X.K fa "tuple" gIndex) := by
  intro pins s σ H x xs v us Q I rx rxs ⟨F, m, S, o, vs, w, S', r, h1, h2, ht, e, k⟩
  unfold gIndex at e
  split at e
  · rename_i y
    obtain ⟨e1, e2⟩ := sask_some e
    simp only at e2
    subst e2
    split at e1
    · rename_i ds d hx hy
      split at e1
      · rename_i hl
        obtain ⟨j, hj, ej⟩ := Option.map_eq_some_iff.mp e1
        simp only at ej
        subst ej
        obtain ⟨u, rfl, hv⟩ := reps1 h2
        obtain ⟨uy, rfl, ry⟩ := vals1 rxs
        obtain ⟨es, rfl⟩ := tyS_T ht
        have e0 : es = ds := by
          have hx' : datsOf (es.map .d) = some ds := hx
          rw [dats_map] at hx'
          exact Option.some.inj hx'
        subst e0
        have h1 : Rep X.K F H (.tuple es) x := h1
        unfold Rep at h1
        obtain ⟨a, ws, rfl, ta, hr⟩ := h1
        have hq := sqt_of ta
        obtain ⟨as, r1⟩ := Dp.reads I d u uy (r.data hv hy) ry
        cases rx
        have ha := Reps.dp _ _ hr
        obtain ⟨its, rv, ⟨⟨cls, dd, data, sls⟩, ho, hc, n, hdt⟩, hlen⟩ := I.tuple hq
        simp only at hc hdt
        subst hc hdt
        obtain ⟨bs, h4⟩ := Dp.readsAll I es _ its ha rv
        have h4' : ReadsAll s.heap its.toArray.toList es bs := h4
        have hpl := lvs_plain hl.2
        obtain ⟨hj1, hit, hno⟩ := SeqAt.hit_at h4' hpl hj
        refine call_meets PySem.F.slot_tuple_index ⟨_, ho, rfl⟩ PySem.F.entry_tuple_index (PySem.F.args_tuple_index_2 _ _)
          (TI.tuple_indexAt a its.toArray n dd sls uy (fun u => PyData.eqv (SeqAt.readOf s.heap u) d) j hj1 hit hno) ⟨ho, SeqAt.items_plain h4' r1 hpl (lv_plain _ _ hl.1) (by have := lvs_depth hl.2; show X.A.units + 1 + min (PyData.depthAll es) d.depth < cLine; omega), ?_⟩
        exact ⟨.int (j : Nat), H, I.tok _, ⟨_, rfl⟩, kd k r rfl⟩
      · cases e1
    · cases e1
  · cases e
theorem rm_count_list (hu : X.A.units + 65 < cLine) : MtR X "list.count" (rM X.K fa "list" gCount) := by
  intro pins s σ H x xs v us Q I rx rxs ⟨F, m, S, o, vs, w, S', r, h1, h2, ht, e, k⟩
  unfold gCount at e
  split at e
  · rename_i y
    obtain ⟨e1, e2⟩ := sask_some e
    simp only at e2
    subst e2
    split at e1
    · rename_i ds d hx hy
      split at e1
      · rename_i hl
        simp only [Option.some.injEq] at e1
        subst e1
        obtain ⟨u, rfl, hv⟩ := reps1 h2
        obtain ⟨uy, rfl, ry⟩ := vals1 rxs
        obtain ⟨zs, z1, z2⟩ := Option.bind_eq_some_iff.mp hx
        obtain ⟨a, ws, rfl, hl', hr⟩ := r.list h1 (tyS_L ht z1)
        obtain ⟨as, r1⟩ := Dp.reads I d u uy (r.data hv hy) ry
        cases rx
        have ha := Reps.dp _ _ (hr.data z2)
        obtain ⟨its, rv, hpl0, hlen⟩ := I.list hl'
        obtain ⟨bs, h4⟩ := Dp.readsAll I ds _ its ha rv
        have h4' : ReadsAll s.heap its.toArray.toList ds bs := h4
        refine SeqAt.count_list_data hpl0.isList h4' r1 (lvs_plain hl.2) (lv_plain _ _ hl.1) (by have := lvs_depth hl.2; omega) ?_
        exact ⟨.int (ds.countP _ : Nat), H, I.tok _, ⟨_, rfl⟩, kd k r rfl⟩
      · cases e1
    · cases e1
  · cases e
theorem rm_count_tup (hu : X.A.units + 65 < cLine) : MtR X "tuple.count" (rM X.K fa "tuple" gCount) := by
  intro pins s σ H x xs v us Q I rx rxs ⟨F, m, S, o, vs, w, S', r, h1, h2, ht, e, k⟩
  unfold gCount at e
  split at e
  · rename_i y
    obtain ⟨e1, e2⟩ := sask_some e
    simp only at e2
    subst e2
    split at e1
    · rename_i ds d hx hy
      split at e1
      · rename_i hl
        simp only [Option.some.injEq] at e1
        subst e1
        obtain ⟨u, rfl, hv⟩ := reps1 h2
        obtain ⟨uy, rfl, ry⟩ := vals1 rxs
        obtain ⟨es, rfl⟩ := tyS_T ht
        have e0 : es = ds := by
          have hx' : datsOf (es.map .d) = some ds := hx
          rw [dats_map] at hx'
          exact Option.some.inj hx'
        subst e0
        have h1 : Rep X.K F H (.tuple es) x := h1
        unfold Rep at h1
        obtain ⟨a, ws, rfl, ta, hr⟩ := h1
        have hq := sqt_of ta
        obtain ⟨as, r1⟩ := Dp.reads I d u uy (r.data hv hy) ry
        cases rx
        have ha := Reps.dp _ _ hr
        obtain ⟨its, rv, hpl0, hlen⟩ := I.tuple hq
        obtain ⟨bs, h4⟩ := Dp.readsAll I es _ its ha rv
        have h4' : ReadsAll s.heap its.toArray.toList es bs := h4
        refine SeqAt.count_tuple_data hpl0 h4' r1 (lvs_plain hl.2) (lv_plain _ _ hl.1) (by have := lvs_depth hl.2; omega) ?_
        exact ⟨.int (es.countP _ : Nat), H, I.tok _, ⟨_, rfl⟩, kd k r rfl⟩
      · cases e1
    · cases e1
  · cases e
theorem rep1 {K : PySem.W.Frag} {F : FrZ} {m : List Addr} {H : Hp} {d : PyData} {u : V} (h : Rep K F H d u) : RepVs K fa F m H [.d d] [u] := ⟨u, [], rfl, h, rfl⟩
theorem memr_app {xs : List Val} {d : PyData} (j : Nat) (h : Val.r j ∈ xs ++ [.d d]) : Val.r j ∈ xs := by
  rcases List.mem_append.mp h with h | h
  · exact h
  · rcases List.mem_singleton.mp h with e
    cases e
theorem rm_append : MtR X "list.append" (rM X.K fa "list" gAppend) := by
  intro pins s σ H x xs v us Q I rx rxs ⟨F, m, S, o, vs, w, S', r, h1, h2, ht, e, k⟩
  unfold gAppend at e
  split at e
  · rename_i y
    obtain ⟨d, S1, e1, e2⟩ := sbind_some e
    obtain ⟨u, rfl, hv⟩ := reps1 h2
    obtain ⟨F1, st1, r1, g1⟩ := absorb1_ok r hv e1
    split at e2
    · rename_i i zs hlv
      split at e2
      · rename_i hz
        cases e2
        obtain ⟨a, ws, rfl, a1, a2, a3, a4⟩ := live_ok r1 (st1.rep r h1) hlv
        obtain ⟨b1, b2⟩ := write_cell (ys := zs ++ [.d d]) (us := ws ++ [u]) r1 a1 a2 (a4.append (rep1 g1)) memr_app
        exact mt_append pins s σ H _ _ v us Q I rx rxs ⟨a, ws, u, rfl, rfl, a3, by rw [← a4.length]; exact hz, k _ _ _ _ (st1.trans b1) b2 rfl⟩
      · cases e2
    · cases e2
  · cases e
theorem rm_insert : MtR X "list.insert" (rM X.K fa "list" gInsert) := by
  intro pins s σ H x xs v us Q I rx rxs ⟨F, m, S, o, vs, w, S', r, h1, h2, ht, e, k⟩
  unfold gInsert at e
  split at e
  · rename_i i y
    obtain ⟨d, S1, e1, e2⟩ := sbind_some e
    obtain ⟨ui, u, rfl, hi, hv⟩ := reps2 h2
    have hi : ui = .int i := hi
    subst hi
    obtain ⟨F1, st1, r1, g1⟩ := absorb1_ok r hv e1
    split at e2
    · rename_i j zs hlv
      split at e2
      · rename_i hz
        cases e2
        obtain ⟨a, ws, rfl, a1, a2, a3, a4⟩ := live_ok r1 (st1.rep r h1) hlv
        obtain ⟨b1, b2⟩ := write_cell (ys := zs.take i.toNat ++ [.d d] ++ zs.drop i.toNat) (us := ws.take i.toNat ++ [u] ++ ws.drop i.toNat) r1 a1 a2 (((a4.take _).append (rep1 g1)).append (a4.drop _)) (fun l h => by
          rcases List.mem_append.mp h with h | h
          · exact List.mem_of_mem_take (memr_app l h)
          · exact List.mem_of_mem_drop h)
        exact mt_insert pins s σ H _ _ v us Q I rx rxs ⟨a, ws, i, u, rfl, rfl, a3, by rw [← a4.length]; exact hz.1, hz.2.1, hz.2.2, k _ _ _ _ (st1.trans b1) b2 rfl⟩
      · cases e2
    · cases e2
  · cases e
theorem rm_pop : MtR X "list.pop" (rM X.K fa "list" gPop) := by
  intro pins s σ H x xs v us Q I rx rxs ⟨F, m, S, o, vs, w, S', r, h1, h2, ht, e, k⟩
  unfold gPop at e
  split at e
  · split at e
    · rename_i j zs hlv
      split at e
      · rename_i y hy
        cases e
        have h2 : xs = [] := h2
        subst h2
        obtain ⟨a, ws, rfl, a1, a2, a3, a4⟩ := live_ok r h1 hlv
        rw [List.getLast?_eq_getElem?] at hy
        obtain ⟨u, g1, g2⟩ := a4.get hy
        have hd : RepVs X.K fa F m H zs.dropLast ws.dropLast := by
          rw [List.dropLast_eq_take, List.dropLast_eq_take, ← a4.length]
          exact a4.take _
        obtain ⟨b1, b2⟩ := write_cell (ys := zs.dropLast) (us := ws.dropLast) r a1 a2 hd (fun l h => List.dropLast_subset _ h)
        exact mt_pop pins s σ H _ _ v us Q I rx rxs ⟨a, ws, u, rfl, rfl, a3, by rw [← a4.length]; exact g1, k _ _ _ _ b1 b2 (b1.rep r g2)⟩
      · cases e
    · cases e
  · rename_i i
    split at e
    · rename_i j zs hlv
      split at e
      · rename_i l hl
        split at e
        · rename_i y hy
          cases e
          obtain ⟨ui, rfl, hi⟩ := reps1 h2
          have hi : ui = .int i := hi
          subst hi
          obtain ⟨a, ws, rfl, a1, a2, a3, a4⟩ := live_ok r h1 hlv
          obtain ⟨u, g1, g2⟩ := a4.get hy
          obtain ⟨b1, b2⟩ := write_cell (ys := zs.eraseIdx l) (us := ws.eraseIdx l) r a1 a2 (a4.eraseIdx l) (fun l h => List.mem_of_mem_eraseIdx h)
          obtain ⟨c1, c2, c3, c4⟩ := ixN_seq hl
          have hsz := (I.lstM a3).1
          have hsl := sizeLine_eq
          have hln := a4.length
          exact mt_popAt pins s σ H _ _ v us Q I rx rxs ⟨a, ws, i, l, u, rfl, rfl, a3, by omega, by omega, by rw [← hln]; exact c1, g1, k _ _ _ _ b1 b2 (b1.rep r g2)⟩
        · cases e
      · cases e
    · cases e
  · cases e
theorem rm_remove (hu : X.A.units + 65 < cLine) : MtR X "list.remove" (rM X.K fa "list" gRemove) := by
  intro pins s σ H x xs v us Q I rx rxs ⟨F, m, S, o, vs, w, S', r, h1, h2, ht, e, k⟩
  unfold gRemove at e
  split at e
  · rename_i y
    split at e
    · rename_i j zs hlv
      split at e
      · rename_i ds d hx hy
        split at e
        · rename_i hl
          split at e
          · rename_i l hj
            cases e
            obtain ⟨u, rfl, hv⟩ := reps1 h2
            obtain ⟨uy, rfl, ry⟩ := vals1 rxs
            obtain ⟨a, ws, rfl, a1, a2, a3, a4⟩ := live_ok r h1 hlv
            obtain ⟨as, r1⟩ := Dp.reads I d u uy (r.data hv hy) ry
            cases rx
            have ha := Reps.dp _ _ (a4.data hx)
            obtain ⟨z, its, n, rv, hlen, ho⟩ := I.lstM a3
            obtain ⟨bs, h4⟩ := Dp.readsAll I ds _ its ha rv
            have h4' : ReadsAll s.heap its.toArray.toList ds bs := h4
            obtain ⟨b1, b2⟩ := write_cell (ys := zs.eraseIdx l) (us := ws.eraseIdx l) r a1 a2 (a4.eraseIdx l) (fun l h => List.mem_of_mem_eraseIdx h)
            refine SeqAt.remove_list_data (j := l) (⟨_, ho, rfl, n, rfl⟩ : s.heap.IsList a its.toArray) h4' r1 (lvs_plain hl.2) (lv_plain _ _ hl.1) (by have := lvs_depth hl.2; omega) hj (by rw [List.size_toArray, ← hlen]; exact z) ?_
            refine ⟨.non, _, I.lset (its' := its.eraseIdx l) (t' := s.toks) a3 ho ?_ (rv.eraseIdx l) ?_, rfl, k _ _ _ _ b1 b2 rfl⟩
            · show its.toArray.eraseIdxIfInBounds l = (its.eraseIdx l).toArray
              rw [List.eraseIdxIfInBounds_toArray]
            · have z2 := len_erase ws l
              omega
          · cases e
        · cases e
      · cases e
    · cases e
  · cases e
/-- the methods by name -/
def mtName : MT → String
  | .index => "index"
  | .count => "count"
  | .join => "join"
  | .append => "append"
  | .pop => "pop"
  | .remove => "remove"
  | .insert => "insert"
theorem tyS_cases {o : Val} {T : String} (e : tyS o = some T) : T = "list" ∨ T = "tuple" := by
  unfold tyS at e
  split at e
  · exact .inl (Option.some.inj e).symm
  · exact .inr (Option.some.inj e).symm
  · exact .inl (Option.some.inj e).symm
  · exact .inl (Option.some.inj e).symm
  · cases e
theorem live_list {S : Store} {o : Val} {p : Nat × List Val} (e : live S o = some p) : tyS o = some "list" := by
  unfold live at e
  split at e
  · rfl
  · cases e
theorem live_rd {S : Store} {k : Nat} {p : Nat × List Val} (e : live S (.r k) = some p) : ∃ xs, rdL S (.r k) = some xs := by
  unfold live at e
  simp only at e
  split at e
  · rename_i xs h
    exact ⟨xs, by simp [rdL, h]⟩
  · cases e
theorem mt_only {mm : MT} {o : Val} {vs : List Val} {S : Store} {p : Val × Store} (e : mtop mm o vs S = some p) (h : tyS o = some "tuple") : mm = .index ∨ mm = .count := by
  have nl : ∀ S q, ¬ live S o = some q := fun S q z => by
    have z2 := live_list z
    rw [h] at z2
    exact absurd (Option.some.inj z2) (by decide)
  cases mm
  · exact .inl rfl
  · exact .inr rfl
  · cases e
  · replace e : gAppend o vs S = some p := e
    unfold gAppend at e
    split at e
    · obtain ⟨d, S1, e1, e2⟩ := sbind_some e
      split at e2
      · rename_i h
        exact absurd h (nl _ _)
      · cases e2
    · cases e
  · replace e : gPop o vs S = some p := e
    unfold gPop at e
    split at e
    · split at e
      · rename_i h
        exact absurd h (nl _ _)
      · cases e
    · split at e
      · rename_i h
        exact absurd h (nl _ _)
      · cases e
    · cases e
  · replace e : gRemove o vs S = some p := e
    unfold gRemove at e
    split at e
    · split at e
      · rename_i h
        exact absurd h (nl _ _)
      · cases e
    · cases e
  · replace e : gInsert o vs S = some p := e
    unfold gInsert at e
    split at e
    · obtain ⟨d, S1, e1, e2⟩ := sbind_some e
      split at e2
      · rename_i h
        exact absurd h (nl _ _)
      · cases e2
    · cases e
theorem mt_all (hu : X.A.units + 65 < cLine) {mm : MT} {o : Val} {vs : List Val} {S : Store} {p : Val × Store} {T : String} (e : mtop mm o vs S = some p) (h : tyS o = some T) :
    ∃ id, PlainAttrs T ∧ Slot T (Str.ofString (mtName mm)) id ∧ typeOf (.builtin id) = pure (.type "method_descriptor") ∧ MtR X id (rM X.K fa T (mtop mm)) := by
  rcases tyS_cases h with rfl | rfl
  · cases mm
    · exact ⟨"list.index", PySem.F.plainAttrs_list, PySem.F.slot_list_index, PySem.F.type_list_index, rm_index_list hu⟩
    · exact ⟨"list.count", PySem.F.plainAttrs_list, PySem.F.slot_list_count, PySem.F.type_list_count, rm_count_list hu⟩
    · cases e
    · exact ⟨"list.append", PySem.F.plainAttrs_list, PySem.F.slot_list_append, PySem.F.type_list_append, rm_append⟩
    · exact ⟨"list.pop", PySem.F.plainAttrs_list, PySem.F.slot_list_pop, PySem.F.type_list_pop, rm_pop⟩
    · exact ⟨"list.remove", PySem.F.plainAttrs_list, PySem.F.slot_list_remove, PySem.F.type_list_remove, rm_remove hu⟩
    · exact ⟨"list.insert", PySem.F.plainAttrs_list, PySem.F.slot_list_insert, PySem.F.type_list_insert, rm_insert⟩
  · rcases mt_only e h with rfl | rfl
    · exact ⟨"tuple.index", PySem.F.plainAttrs_tuple, PySem.F.slot_tuple_index, PySem.F.type_tuple_index, rm_index_tup hu⟩
    · exact ⟨"tuple.count", PySem.F.plainAttrs_tuple, PySem.F.slot_tuple_count, PySem.F.type_tuple_count, rm_count_tup hu⟩
/-- o.m(..) -/
theorem pe_mtW (hu : X.A.units + 65 < cLine) {mm : MT} {o : Expr} {es : List Expr} {apos cpos : Pos} {f : EnvW → SM Val} {fs : EnvW → SM (List Val)}
    (ho : PE X o (TV X.K fa f)) (ha : PA X es (TVs X.K fa fs))
    (hbase : attributeBase o (Str.ofString (mtName mm)) X.env (eval o X.env) = eval o X.env)
    (hfew : ((backTo cpos (starEach es X.env)).all (fun x => !x.1) && (backToKw cpos (keywordEach [] X.env)).all (fun x => x.1.isSome)
      && decide (es.length + ([] : List Keyword).length + (if ([] : List Keyword).isEmpty then 0 else 1) < 30)) = true)
    (hline : (apos.endLine == cpos.line) = true) (hplain : (backTo cpos (starEach es X.env)).any (·.1) = false) (hs : ∀ e r, es = e :: r → starEach es X.env = (false, eval e X.env) :: starEach r X.env) (hnil : es = [] → fs = fun _ => sret []) :
    PE X (.Call (.Attribute o (Str.ofString (mtName mm)) apos) es [] cpos) (TV X.K fa fun ρ => sbind (f ρ) fun x => sbind (sask fun S => rdS S x) fun _ => sbind (fs ρ) fun vs => mtop mm x vs) :=
  pe_mt (fun o vs S p T e h => mt_all hu e h) ho ha hbase hfew hline hplain hs hnil
end
end Wf
set_option maxRecDepth 100000
set_option maxHeartbeats 4000000
/-! W9: min, max, isinstance, [::-1]. -/
namespace Wf
open PySem PySem.Spec PyProof.Rows L2
theorem alike_of {ds : List PyData} (h : alikeB ds = true) : PySem.W.AlikeAll ds ∧ ds.all (lv 40) = true := by
  unfold alikeB at h
  rw [Bool.and_eq_true, Bool.and_eq_true] at h
  refine ⟨⟨fun x hx y hy => List.all_eq_true.mp (List.all_eq_true.mp h.1.1 x hx) y hy, fun x hx e => ?_⟩, h.2⟩
  have := List.all_eq_true.mp h.1.2 x hx
  subst e
  exact absurd this (by decide)
theorem dep_all {ds : List PyData} (h : ds.all (lv 40) = true) : PyData.depthAll ds ≤ 40 ∧ PyData.plainAll ds = true := by
  have := lvs_depth h
  exact ⟨by omega, lvs_plain h⟩
section
variable {X : Cx} {fa : FaW}
theorem pick_rep {F : FrZ} {H : Hp} {h' : Heap} {ds : List PyData} {ws : List V} {its : List Value} {as : List Addr} {i : Nat} {v : Value} {d : PyData} {bs : List Addr}
    (hr : Reps X.K F H ds ws) (rv : Vals ws its) (h4 : ReadsAll h' its ds as) (hpl : PyData.plainAll ds = true) (hv : its.toArray[i]? = some v) (hd : Reads h' v d bs) (hdp : d.plain = true) : ∃ u, RelV u v ∧ Rep X.K F H d u := by
  have h4' : ReadsAll h' its.toArray.toList ds as := h4
  obtain ⟨hi, ev⟩ := Array.getElem?_eq_some_iff.mp hv
  obtain ⟨h2, e2⟩ := SeqAt.readOf_at h4' hpl i hi
  have e3 := SeqAt.readOf_plain hdp hd
  rw [ev, e3] at e2
  have he : ds[i]? = some d := by rw [e2]; exact List.getElem?_eq_getElem h2
  have hvs := Reps.vals (fa := ⟨[], default⟩) (m := []) hr
  obtain ⟨u, g1, g2⟩ := RepVs.get (d := .d d) hvs (by rw [List.getElem?_map, he]; rfl)
  obtain ⟨v', g3, g4⟩ := rv.get g1
  have : v' = v := by
    have e5 : its[i]? = some v := by simpa using hv
    rw [g3] at e5
    exact Option.some.inj e5
  subst this
  exact ⟨u, g4, g2⟩
theorem mem_foldl (f : PyData → PyData → PyData) (hf : ∀ a y, f a y = a ∨ f a y = y) : ∀ (xs : List PyData) (x : PyData), xs.foldl f x ∈ x :: xs
  | [], x => List.mem_cons_self
  | y :: r, x => by
    rw [List.foldl_cons]
    have := mem_foldl f hf r (f x y)
    rcases List.mem_cons.mp this with e | e
    · rw [e]
      rcases hf x y with e2 | e2 <;> rw [e2] <;> simp
    · simp [e]
theorem minD_mem (x : PyData) (xs : List PyData) : PySem.W.minD x xs ∈ x :: xs := mem_foldl _ (fun a y => by by_cases h : PySem.W.dataLt y a = true <;> simp [h]) xs x
theorem maxD_mem (x : PyData) (xs : List PyData) : PySem.W.maxD x xs ∈ x :: xs := mem_foldl _ (fun a y => by by_cases h : PySem.W.dataLt a y = true <;> simp [h]) xs x
theorem cr_minW (hc : X.calm = true) (hu : X.A.units + 64 < cLine) : CallR X (.builtin "min") (rL X.K fa fMin) := by
  intro pins s σ H vs us Q I rv ⟨F, m, S, xs, v, r, h, e, k⟩
  unfold fMin at e
  split at e <;> first | cases e | skip
  · rename_i x
    obtain ⟨u, rfl, h1⟩ := reps1 h
    obtain ⟨ds, e1, e2⟩ := Option.bind_eq_some_iff.mp e
    obtain ⟨ys, e3, e4⟩ := Option.bind_eq_some_iff.mp e1
    obtain ⟨a, ws, rfl, hq, hr⟩ := r.seq h1 e3
    have hd := hr.data e4
    cases ds with
    | nil => cases e2
    | cons d0 ds =>
      have e2 : (if alikeB (d0 :: ds) = true then some (Val.d (PySem.W.minD d0 ds)) else none) = some v := e2
      split at e2
      · rename_i hal
        cases e2
        obtain ⟨hal, hlv⟩ := alike_of hal
        obtain ⟨hdp, hpl⟩ := dep_all hlv
        have hmp : (PySem.W.minD d0 ds).plain = true := lv_plain _ _ (List.all_eq_true.mp hlv _ (minD_mem d0 ds))
        rw [Vals.ref1 rv]
        rcases hq with hq | hq
        · obtain ⟨its, rvs, hpl0, _⟩ := I.list hq
          obtain ⟨bs, h4⟩ := Dp.readsAll I _ _ its (Reps.dp _ _ hd) rvs
          refine PySem.W.min_list_data (I.ok.hd hc) hpl0.isList (vs := its.toArray) h4 hal (by omega) fun i v h' tk cs hv hrd hk => ?_
          obtain ⟨u, g1, g2⟩ := pick_rep hd rvs (ReadsAll.keeps hk h4) hpl hv hrd hmp
          exact ⟨u, H, I.kept hk, g1, kd k r g2⟩
        · obtain ⟨its, rvs, hpl0, _⟩ := I.tuple hq
          obtain ⟨bs, h4⟩ := Dp.readsAll I _ _ its (Reps.dp _ _ hd) rvs
          refine PySem.W.min_tuple_data (I.ok.hd hc) hpl0 (vs := its.toArray) h4 hal (by omega) fun i v h' tk cs hv hrd hk => ?_
          obtain ⟨u, g1, g2⟩ := pick_rep hd rvs (ReadsAll.keeps hk h4) hpl hv hrd hmp
          exact ⟨u, H, I.kept hk, g1, kd k r g2⟩
      · cases e2
  · rename_i i j
    obtain ⟨u, w, rfl, h1, h2⟩ := reps2 h
    have h1 : u = .int i := h1
    have h2 : w = .int j := h2
    subst h1 h2
    exact call_min2 hc pins s σ H _ us Q I rv ⟨i, j, rfl, kd k r rfl⟩
theorem cr_maxW (hc : X.calm = true) (hu : X.A.units + 64 < cLine) : CallR X (.builtin "max") (rL X.K fa fMax) := by
  intro pins s σ H vs us Q I rv ⟨F, m, S, xs, v, r, h, e, k⟩
  unfold fMax at e
  split at e <;> first | cases e | skip
  · rename_i x
    obtain ⟨u, rfl, h1⟩ := reps1 h
    obtain ⟨ds, e1, e2⟩ := Option.bind_eq_some_iff.mp e
    obtain ⟨ys, e3, e4⟩ := Option.bind_eq_some_iff.mp e1
    obtain ⟨a, ws, rfl, hq, hr⟩ := r.seq h1 e3
    have hd := hr.data e4
    cases ds with
    | nil => cases e2
    | cons d0 ds =>
      have e2 : (if alikeB (d0 :: ds) = true then some (Val.d (PySem.W.maxD d0 ds)) else none) = some v := e2
      split at e2
      · rename_i hal
        cases e2
        obtain ⟨hal, hlv⟩ := alike_of hal
        obtain ⟨hdp, hpl⟩ := dep_all hlv
        have hmp : (PySem.W.maxD d0 ds).plain = true := lv_plain _ _ (List.all_eq_true.mp hlv _ (maxD_mem d0 ds))
        rw [Vals.ref1 rv]
        rcases hq with hq | hq
        · obtain ⟨its, rvs, hpl0, _⟩ := I.list hq
          obtain ⟨bs, h4⟩ := Dp.readsAll I _ _ its (Reps.dp _ _ hd) rvs
          refine PySem.W.max_list_data (I.ok.hd hc) hpl0.isList (vs := its.toArray) h4 hal (by omega) fun i v h' tk cs hv hrd hk => ?_
          obtain ⟨u, g1, g2⟩ := pick_rep hd rvs (ReadsAll.keeps hk h4) hpl hv hrd hmp
          exact ⟨u, H, I.kept hk, g1, kd k r g2⟩
        · obtain ⟨its, rvs, hpl0, _⟩ := I.tuple hq
          obtain ⟨bs, h4⟩ := Dp.readsAll I _ _ its (Reps.dp _ _ hd) rvs
          refine PySem.W.max_tuple_data (I.ok.hd hc) hpl0 (vs := its.toArray) h4 hal (by omega) fun i v h' tk cs hv hrd hk => ?_
          obtain ⟨u, g1, g2⟩ := pick_rep hd rvs (ReadsAll.keeps hk h4) hpl hv hrd hmp
          exact ⟨u, H, I.kept hk, g1, kd k r g2⟩
      · cases e2
  · rename_i i j
    obtain ⟨u, w, rfl, h1, h2⟩ := reps2 h
    have h1 : u = .int i := h1
    have h2 : w = .int j := h2
    subst h1 h2
    exact call_max2 hc pins s σ H _ us Q I rv ⟨i, j, rfl, kd k r rfl⟩
/-! isinstance -/
theorem sql_ty {K : PySem.W.Frag} {H : Hp} {a : Addr} {xs : List V} (h : SqL K H a xs) : TyX K H (.ref a) (.type "list") := by
  rcases h with (h | ⟨o, h⟩) | ⟨o, its, n, h1, h2, _⟩
  · exact .base (.lst h)
  · exact .base (.frz h)
  · exact .kList h1 h2
theorem sqt_ty {K : PySem.W.Frag} {H : Hp} {a : Addr} {xs : List V} (h : SqT K H a xs) : TyX K H (.ref a) (.type "tuple") := by
  rcases h with (h | ⟨o, h⟩) | ⟨o, its, n, h1, h2, _⟩
  · exact .base (.tup h)
  · exact .fTuple h
  · exact .kTuple h1 h2
theorem ty_of {F : FrZ} {m : List Addr} {S : Store} {H : Hp} (r : SR X.K fa F m S H) {x : Val} {u : V} {d : PyData} (h : RepV X.K fa F m H x u) (e : dr S x = some d) : TyX X.K H u (.type (tyOf d)) := by
  have hd := r.data h e
  cases hd with
  | non => exact .base .non
  | bl b => exact .base (.bl b)
  | int i => exact .base (.int i)
  | str i => exact .base (.str i)
  | lst hs _ => exact sql_ty hs
  | tup hs _ => exact sqt_ty hs
theorem kit_is (d : PyData) (t : String) (ht : t ∈ ["tuple", "list", "int", "str", "bool"]) : kitB (tyOf d) t = some (isInst d t) := by
  simp only [List.mem_cons, List.not_mem_nil, or_false] at ht
  have key : ∀ a ∈ ["NoneType", "bool", "int", "str", "list", "tuple", "dict"], ∀ b ∈ ["tuple", "list", "int", "str", "bool"], kitB a b = some (a == b || (a == "bool" && b == "int")) := by decide +kernel
  exact key _ (by cases d <;> simp [tyOf]) _ (by simp [ht])
end
end Wf
set_option maxRecDepth 100000
set_option maxHeartbeats 4000000
/-! W10: x[::-1], isinstance. -/
namespace Wf
open PySem PySem.Spec PyProof.Rows L2
section
variable {prog : Program} {w : World} {A : Around} {E : Value → Shared → Prop} {s : Shared}
theorem fm_congr {α β : Type} {f g : α → Option β} : ∀ {l : List α}, (∀ x ∈ l, f x = g x) → l.filterMap f = l.filterMap g
  | [], _ => rfl
  | a :: l, h => by
    rw [List.filterMap_cons, List.filterMap_cons, h a List.mem_cons_self, fm_congr fun x hx => h x (List.mem_cons_of_mem _ hx)]
theorem rev_pick (xs : Array Value) : ((List.range xs.size).filterMap fun (m : Nat) => xs[(((xs.size : Int) - 1) + (m : Int) * (-1)).toNat]?).toArray = xs.toList.reverse.toArray := by
  have e : ∀ m ∈ List.range xs.size, xs[(((xs.size : Int) - 1) + (m : Int) * (-1)).toNat]? = xs[xs.size - 1 - m]? := fun m hm => by
    have := List.mem_range.mp hm
    have : (((xs.size : Int) - 1) + (m : Int) * (-1)).toNat = xs.size - 1 - m := by omega
    rw [this]
  rw [fm_congr e]
  have e2 : (List.range xs.size).filterMap (fun m => xs[xs.size - 1 - m]?) = ((List.range xs.size).map fun k => xs.size - 1 - k).filterMap (xs[·]?) := by
    rw [List.filterMap_map]
    rfl
  rw [e2, PySem.W.krv_range, List.filterMap_reverse, PySem.W.krv_all]
theorem getItem_tuple_rev {t sl : Addr} {items : Array Value} {vs : Value} {Q : Value → Shared → Prop} (ht : IsTup s.heap t items) (hs : s.heap.IsSliceOf sl .none .none vs) (ps : IsPart vs (some (-1)))
    (h : Q (.ref s.heap.objs.size) { s with heap := s.heap.push { cls := .type "tuple", data := .seq items.toList.reverse.toArray } })
    (hsz : items.size ≤ sizeLine) : wpAny (model prog w) A (getItem (.ref t) (.ref sl)) Q E s := by
  have htake : sizeOk (.seq items.toList.reverse.toArray) := by
    show items.toList.reverse.toArray.size ≤ sizeLine
    rw [List.size_toArray, List.length_reverse, Array.length_toList]
    exact hsz
  obtain ⟨os, hos, hcs, hds⟩ := id hs
  have hTs : s.TypeIs (.ref sl) "slice" := ⟨os, hos, hcs⟩
  unfold getItem
  try with_reducible refine wpAny_holding ?_
  first | refine wpAny_bind (wpAny_pure ?_) | skip
  refine wpAny_bind (wpAny_sequenceKey ht.typeIs (by decide) ?_)
  refine wpAny_bind (wpAny_callSpecial?_slot (name := Str.ofString "__getitem__") ht.typeIs PyProof.Rows.slot_tuple_getitem
    (wpAny_call_entry PyProof.Rows.slot_tuple_getitem ht.typeIs entry_tuple_getitem ?_ (args_tuple_getitem _ _)))
  show wpAny _ _ (Builtin.Tuple.tupleItemsOf (.ref t) >>= _) _ _ s
  refine wpAny_bind (tupleItemsOf_ ht ?_)
  refine wpAny_bind (wpAny_typeOf hTs ?_)
  rw [if_pos (by decide)]
  have hap : ∀ (R : Int × Int × Nat → Shared → Prop) E, R ((items.size : Int) - 1, -1, items.size) s → wpAny (model prog w) A.in1 (Builtin.Slice.sliceApplied (.ref sl) (pure (items.size : Int))) R E s := by
    intro R E hR
    unfold Builtin.Slice.sliceApplied Builtin.Slice.sliceFields
    refine wpAny_bind (wpAny_bind (wpAny_field hos hds (x := .none) rfl (wpAny_bind (wpAny_field hos hds (x := .none) rfl (wpAny_bind (wpAny_field hos hds (x := vs) rfl (wpAny_pure ?_)))))))
    refine wpAny_bind (HT.slicePart_ ps ?_)
    show wpAny _ _ (if ((-1 : Int) == 0) = true then _ else _) _ _ s
    rw [if_neg (by decide)]
    refine wpAny_bind (HT.slicePart_ .none (wpAny_bind (HT.slicePart_ .none (wpAny_bind (wpAny_pure ?_)))))
    refine wpAny_pure ?_
    have e1 : Builtin.Slice.slicePlaces ((items.size : Int) - 1) (-1) (-1) = items.size := by
      unfold Builtin.Slice.slicePlaces
      rw [if_neg (by decide)]
      by_cases h0 : (items.size : Int) - 1 > -1
      · rw [if_pos h0]
        show (((items.size : Int) - 1 - -1 - 1) / 1 + 1).toNat = items.size
        rw [Int.ediv_one]
        omega
      · rw [if_neg h0]
        omega
    show R ((items.size : Int) - 1, -1, Builtin.Slice.slicePlaces ((items.size : Int) - 1) (-1) (-1)) s
    rw [e1]
    exact hR
  refine wpAny_bind (hap _ _ ?_)
  show wpAny _ _ (if ((((items.size : Int) - 1) == 0 && (-1 : Int) == 1 && items.size == items.size) = true) then _ else _) _ _ s
  have hno : ¬ ((((items.size : Int) - 1) == 0 && (-1 : Int) == 1 && items.size == items.size) = true) := by
    have : ((-1 : Int) == 1) = false := by decide
    rw [this]
    simp
  rw [if_neg hno, rev_pick]
  first
    | exact wpAny_bind (m := Builtin.Tuple.tupleExact _) (wpAny_newObj_type (wpAny_pure ⟨_, rfl, wpAny_pure h⟩) htake)
    | exact wpAny_bind (m := Builtin.Tuple.tupleExact _) (wpAny_newObj_type (wpAny_bind (wpAny_pure (wpAny_pure ⟨_, rfl, wpAny_pure h⟩))) htake)
    | exact wpAny_bind (wpAny_bind (m := Builtin.Tuple.tupleExact _) (wpAny_newObj_type (wpAny_pure (wpAny_pure ⟨_, rfl, wpAny_pure h⟩)) htake))
    | exact wpAny_bind (wpAny_bind (m := Builtin.Tuple.tupleExact _) (wpAny_newObj_type (wpAny_pure ⟨_, rfl, wpAny_pure h⟩) htake))
end
section
variable {X : Cx} {fa : FaW}
/-- xs[::-1], t[::-1] -/
def tRevW (K : PySem.W.Frag) (te : TE) : TE := fun σ H Q => te σ H fun x H1 => ∃ a xs, x = .ref a ∧ ((SqL K H1 a xs ∧ ∀ p, H1 p = none → Q (.ref p) (upd H1 p (.lst xs.reverse))) ∨ (SqT K H1 a xs ∧ NewT Q H1 xs.reverse))
theorem pe_revA {e : Expr} {te : TE} {k : Nat} {p1 p2 p3 pos : Pos} (he : PE X e te) : PE X (.Subscript e (.Slice none none (some (.UnaryOp .USub (.Constant (.int 1) k p1) p2)) p3) pos) (tRevW X.K te) := by
  refine ⟨fun pins s σ H Q I h => ?_⟩
  refine Subscript_ (thn (he.run pins s σ H _ I h) fun v s1 ⟨x, H1, I1, r1, q1⟩ => ?_)
  obtain ⟨a, xs, ex, q⟩ := q1
  subst ex
  cases r1
  have hst : PO X (some (.UnaryOp .USub (.Constant (.int 1) k p1) p2)) (tPart (tUn (rU fun i => .int (-i)) (tC (.int 1)))) := po_some (pe_un un_neg pe_int)
  refine wpAny_Slice (thn (po_none.run pins s1 σ H1 (fun o H2 => o = none ∧ H2 = H1) I1 ⟨rfl, rfl⟩) fun vl s2 ⟨l, H2, I2, pl, el, e2⟩ => ?_)
  subst el e2
  refine thn (po_none.run pins s2 σ H2 (fun o H3 => o = none ∧ H3 = H2) I2 ⟨rfl, rfl⟩) fun vu s3 ⟨u, H3, I3, pu, eu, e3⟩ => ?_
  subst eu e3
  refine thn (hst.run pins s3 σ H3 (fun o H4 => o = some (-1) ∧ H4 = H3) I3 ⟨1, rfl, -1, rfl, rfl, rfl⟩) fun vs s4 ⟨o, H4, I4, ps, eo, e4⟩ => ?_
  subst eo e4
  have I5 : Inv X pins σ H4 { s4 with heap := s4.heap.push { cls := .type "slice", data := .fields #[vl, vu, vs] } } := I4.kept (t' := s4.toks) fun b ob q => Heap.get?_push_of_some _ q
  show wpAny (model X.prog X.w) X.A (subscriptTail e (.Slice none none (some (.UnaryOp .USub (.Constant (.int 1) k p1) p2)) p3) (.ref a) (.ref s4.heap.objs.size)) (EP X pins σ Q) X.xe { s4 with heap := s4.heap.push { cls := .type "slice", data := .fields #[vl, vu, vs] } }
  rcases q with ⟨hx, q⟩ | ⟨hx, q⟩
  · obtain ⟨its, r, ht, hz⟩ := I5.list hx
    have hlen := r.length
    refine tail_any (ops := [.ref a, .ref s4.heap.objs.size]) ht.isList.typeIs (PySem.slot_list_getitem.lookup) ?_ (by with_unfolding_all rfl)
    refine wpAny_getItem_list_slice ht.isList (Heap.IsSliceOf.new _ vl vu vs) pl pu ps (by decide) ?_ (by rw [List.size_toArray]; omega)
    rw [PySem.W.krv_pick]
    refine ⟨.ref _, _, I5.laid (t' := s4.toks) (o := .lst xs.reverse) (fun b ob q => Heap.get?_push_of_some _ q) (Nat.le_refl _) ?_, rfl, q _ (I5.hok.fresh (Nat.le_refl _))⟩
    exact ⟨by rw [List.length_reverse]; exact hz, _, 0, r.reverse, Heap.get?_push_size _ rfl⟩
  · obtain ⟨its, r, ht, hz⟩ := I5.tuple hx
    have hlen := r.length
    refine tail_any (ops := [.ref a, .ref s4.heap.objs.size]) ht.typeIs (PyProof.Rows.slot_tuple_getitem.lookup) ?_ (by with_unfolding_all rfl)
    cases pl
    cases pu
    refine getItem_tuple_rev ht (Heap.IsSliceOf.new _ _ _ vs) ps ?_ (by rw [List.size_toArray]; omega)
    exact newT (t := s4.toks) I5 r.reverse (by rw [List.length_reverse]; exact hz) q
theorem reps_rev {K : PySem.W.Frag} {F : FrZ} {H : Hp} {ds : List PyData} {us : List V} (h : Reps K F H ds us) : Reps K F H ds.reverse us.reverse := by
  have z := (Reps.vals (fa := ⟨[], default⟩) (m := []) h).reverse
  rw [← List.map_reverse] at z
  exact z.data (dats_map _)
theorem pe_revW {e : Expr} {f : EnvW → SM Val} {k : Nat} {p1 p2 p3 pos : Pos} (he : PE X e (TV X.K fa f)) : PE X (.Subscript e (.Slice none none (some (.UnaryOp .USub (.Constant (.int 1) k p1) p2)) p3) pos) (TV X.K fa fun ρ => sbind (f ρ) fun x => sask (revS x)) :=
  PE.weak (pe_revA he) (tv_un (r := fun x H1 Q => ∃ a xs, x = .ref a ∧ ((SqL X.K H1 a xs ∧ ∀ p, H1 p = none → Q (.ref p) (upd H1 p (.lst xs.reverse))) ∨ (SqT X.K H1 a xs ∧ NewT Q H1 xs.reverse))) (by
    intro F m S H x u1 v S' Q r h1 e k
    obtain ⟨e1, e2⟩ := sask_some e
    simp only at e1 e2
    subst e2
    unfold revS at e1
    split at e1
    · rename_i xs
      cases e1
      have g1 : Rep X.K F H (.tuple xs) u1 := h1
      unfold Rep at g1
      obtain ⟨a, us, rfl, t1, q1⟩ := g1
      exact ⟨a, us, rfl, .inr ⟨sqt_of t1, fun p o hp ho => k_tup k r (reps_rev q1) hp ho⟩⟩
    · obtain ⟨xs, e2, e3⟩ := Option.bind_eq_some_iff.mp e1
      obtain ⟨a, us, rfl, hq, hr⟩ := r.list h1 e2
      exact ⟨a, us, rfl, .inl ⟨hq, (k_listOf e3 k r hr.reverse).2⟩⟩))
/-- isinstance(e, T) -/
theorem pe_isiW {e : Expr} {f : EnvW → SM Val} {t : String} {p p2 pos : Pos} (ht : t ∈ ["tuple", "list", "int", "str", "bool"]) (hg : Gl X "isinstance") (hm : X.mg "isinstance" = none) (hg2 : Gl X (Str.ofString t)) (hm2 : X.mg (Str.ofString t) = none)
    (he : PE X e (TV X.K fa f)) (hs : starEach [e, .Name (Str.ofString t) p2] X.env = (false, eval e X.env) :: starEach [.Name (Str.ofString t) p2] X.env) (hs2 : starEach [.Name (Str.ofString t) p2] X.env = (false, eval (.Name (Str.ofString t) p2) X.env) :: starEach [] X.env) (hpl : (backTo pos (starEach [.Name (Str.ofString t) p2] X.env)).any (·.1) = false) :
    PE X (.Call (.Name "isinstance" p) [e, .Name (Str.ofString t) p2] [] pos) (TV X.K fa fun ρ => sbind (sbind (f ρ) fun x => sbind (sret []) fun xs => sret (x :: xs)) fun vs => sask (biop (.isinst t) vs)) := by
  have hty : PE X (.Name (Str.ofString t) p2) (tC (.ty t)) := by
    refine pe_bltn (u := .type t) hg2 hm2 ?_ rfl ?_ ?_ <;> (simp only [List.mem_cons, List.not_mem_nil, or_false] at ht; rcases ht with rfl | rfl | rfl | rfl | rfl) <;> first | decide | kernel_rfl
  refine PE.weak (pe_callB call_isi hg hm PyProof.Rows.boot_isinstance (pa_cons he (pa_cons hty pa_nil hs2) hs) (by decide) (by decide) hs hpl) ?_
  rintro σ H Q ⟨F, m, ρ, S, v, S', r0, e0, h0, k0⟩
  obtain ⟨vs, S1, h1, h2⟩ := sbind_some h0
  obtain ⟨x, S2, h3, h4⟩ := sbind_some h1
  obtain ⟨ys, S3, h5, h6⟩ := sbind_some h4
  obtain ⟨a1, a2⟩ := sret_some h5
  obtain ⟨a3, a4⟩ := sret_some h6
  simp only at a1 a2 a3 a4
  subst a1 a2 a3 a4
  obtain ⟨b1, b2⟩ := sask_some h2
  simp only at b1 b2
  subst b2
  obtain ⟨d, c1, c2⟩ := Option.map_eq_some_iff.mp (show (dr _ x).map _ = some v from b1)
  subst c2
  refine ⟨F, m, ρ, S, x, _, r0, e0, h3, fun F1 m1 H1 u1 st1 r1 v1 => ?_⟩
  exact ⟨u1, .ty t, .type (tyOf d), .type t, isInst d t, rfl, .ty t, ty_of r1 v1 c1, kit_ty (kit_is d t ht), k0 _ _ _ _ st1 r1 rfl⟩
end
end Wf
set_option maxRecDepth 100000
set_option maxHeartbeats 4000000
/-! W11: terms and tests. -/
namespace Wf
open PySem PySem.Spec PyProof.Rows L2
def TB (K : PySem.W.Frag) (fa : FaW) (f : EnvW → SM Bool) : TT := fun σ H Q => ∃ (F : FrZ) (m : List Addr) (ρ : EnvW) (S : Store) (b : Bool) (S' : Store), SR K fa F m S H ∧ ER K fa F m H ρ σ ∧ f ρ S = some (b, S') ∧
  ∀ (F' : FrZ) (m' : List Addr) (H' : Hp), Step F m S H F' m' S' H' → SR K fa F' m' S' H' → Q b H'
/-- the test of a term -/
def tst (f : EnvW → SM Val) : EnvW → SM Bool := fun ρ => sbind (f ρ) fun x => sask (truth x)
theorem PW.weak {X : Cx} {e : Expr} {t t' : TT} (h : PW X e t) (w : ∀ σ H Q, t' σ H Q → t σ H Q) : PW X e t' := ⟨fun wh pins s σ H Q I q => h.run wh pins s σ H Q I (w σ H Q q)⟩
theorem sbind_eq {α β : Type} {m : SM α} {f : α → SM β} {S S1 : Store} {a : α} (h : m S = some (a, S1)) : sbind m f S = f a S1 := by
  unfold sbind
  rw [h]
theorem sask_eq {α : Type} {f : Store → Option α} {S : Store} {a : α} (h : f S = some a) : sask f S = some (a, S) := by
  unfold sask
  rw [h]
section
variable {X : Cx} {fa : FaW} {a b c d : Expr} {f g h k : EnvW → SM Val} {pos : Pos} {rest : List Expr}
/-- a term's test by its value -/
theorem pt_plainW (ha : PE X a (TV X.K fa f)) (he : ∀ whole, isTrue a X.env whole = (do let v ← whole; standAt a.pos; holding [v] (truthy v))) : PT X a (TB X.K fa (tst f)) :=
  PT.weak (pt_truth ha he) (by
    rintro σ H Q ⟨F, m, ρ, S, v, S', r0, e0, h0, k0⟩
    obtain ⟨x, S1, hx, h1⟩ := sbind_some h0
    obtain ⟨e1, e2⟩ := sask_some h1
    simp only at e1 e2
    subst e2
    exact ⟨F, m, ρ, S, x, _, r0, e0, hx, fun F1 m1 H1 u1 st1 r1 v1 => ⟨v, truth_ok r1 v1 e1, k0 F1 m1 H1 st1 r1⟩⟩)
theorem pe_constW {d0 : PyData} {v : V} (ha : PE X a (tC v)) (hv : ∀ F H, Rep X.K F H d0 v) : PE X a (TV X.K fa fun _ => sret (.d d0)) := PE.weak ha (by
  rintro σ H Q ⟨F, m, ρ, S, w, S', r0, e0, h0, k0⟩
  obtain ⟨e1, e2⟩ := sret_some h0
  simp only at e1 e2
  subst e1 e2
  exact k0 F m H v Step.refl r0 (hv F H))
theorem pe_varW {i : Nat} {x : Str} (hN : X.N[i]? = some x) (hv : Vis X.env.scope x) (hd : (x == ("__debug__" : Str)) = false) (hcd : (x == ("__classdict__" : Str)) = false) : PE X (.Name x pos) (TV X.K fa fun ρ => sask fun _ => ρ.getD i none) := PE.weak (pe_var hN hv hd hcd) (by
  rintro σ H Q ⟨F, m, ρ, S, w, S', r0, e0, h0, k0⟩
  obtain ⟨e1, e2⟩ := sask_some h0
  simp only at e1 e2
  subst e2
  have hg : ρ[i]? = some (some w) := by
    rw [List.getD_eq_getElem?_getD] at e1
    cases hi : ρ[i]? with
    | none => rw [hi] at e1; cases e1
    | some z => rw [hi] at e1; simp only [Option.getD_some] at e1; rw [e1]
  obtain ⟨u, h1, h2⟩ := e0.2 i w hg
  exact ⟨u, h1, k0 F m H u Step.refl r0 h2⟩)
theorem pe_fnW {x : Str} {j : Nat} {f0 : Addr} (hg : Gl X x) (hm : X.mg x = some (.ref f0)) (hf : fa.l[j]? = some f0) (hd : (x == ("__debug__" : Str)) = false) : PE X (.Name x pos) (TV X.K fa fun _ => sret (.f j)) := PE.weak (pe_glob (v := .ref f0) hg hm rfl hd) (by
  rintro σ H Q ⟨F, m, ρ, S, w, S', r0, e0, h0, k0⟩
  obtain ⟨e1, e2⟩ := sret_some h0
  simp only at e1 e2
  subst e1 e2
  exact k0 F m H _ Step.refl r0 ⟨f0, hf, rfl⟩)
theorem pe_binW {op : Operator} (ha : PE X a (TV X.K fa f)) (hb : PE X b (TV X.K fa g)) : PE X (.BinOp a op b pos) (TV X.K fa fun ρ => sbind (f ρ) fun x => sbind (g ρ) fun y => sask (binop op x y)) :=
  PE.weak (pe_op (op_binop op) ha hb) (tv_bin (fun F m S H x y u1 u2 v S' Q r h1 h2 e k => by
    obtain ⟨e1, e2⟩ := sask_some e
    simp only at e1 e2
    subst e2
    exact ⟨F, m, _, x, y, v, r, h1, h2, e1, k⟩))
theorem pe_negW (ha : PE X a (TV X.K fa f)) : PE X (.UnaryOp .USub a pos) (TV X.K fa fun ρ => sbind (f ρ) fun x => match x with
    | .d (.int i) => sret (.d (.int (-i)))
    | _ => sfail) :=
  PE.weak (pe_un un_neg ha) (tv_un (fun F m S H x u1 v S' Q r h1 e k => by
    split at e
    · rename_i i
      obtain ⟨e1, e2⟩ := sret_some e
      simp only at e1 e2
      subst e1 e2
      exact ⟨i, h1, kd k r rfl⟩
    · cases e))
/-- what a comparison gives -/
theorem rC_of {K : PySem.W.Frag} {F : FrZ} {m : List Addr} {S S' : Store} {H : Hp} {x y : Val} {u1 u2 : V} {op : CmpOp} {v : Val} (r : SR K fa F m S H) (h1 : RepV K fa F m H x u1) (h2 : RepV K fa F m H y u2) (e : (sbind (sask (cmpop op x y)) fun c => sret (.d (.bool c))) S = some (v, S')) :
    S' = S ∧ ∃ c, v = .d (.bool c) ∧ cmpop op x y S = some c := by
  obtain ⟨c, S1, e1, e2⟩ := sbind_some e
  obtain ⟨e3, e4⟩ := sask_some e1
  obtain ⟨e5, e6⟩ := sret_some e2
  simp only at e3 e4 e5 e6
  subst e4 e6
  exact ⟨rfl, c, e5, e3⟩
theorem pe_cmpW (hu : X.A.units + 64 < cLine ∧ fa.h = fun k => k.hash X.w) {op : CmpOp} (ha : PE X a (TV X.K fa f)) (hb : PE X b (TV X.K fa g)) (hm : behindInMarks op b = false) :
    PE X (.Compare a [op] [b] pos) (TV X.K fa fun ρ => sbind (f ρ) fun x => sbind (g ρ) fun y => sbind (sask (cmpop op x y)) fun c => sret (.d (.bool c))) :=
  PE.weak (show PE X (.Compare a [op] [b] pos) (tOp (rC X.K fa (cmpop op)) (TV X.K fa f) (TV X.K fa g)) from ⟨fun pins s σ H Q I h => wpAny_Compare1 (binT ha hb I h fun v u s2 x y H2 I2 rx ry q => op_cmpop hu op pins s2 σ H2 x y v u Q I2 rx ry q) hm⟩)
    (tv_bin (fun F m S H x y u1 u2 v S' Q r h1 h2 e k => by
      obtain ⟨e1, c, e2, e3⟩ := rC_of (u1 := u1) (u2 := u2) r h1 h2 e
      subst e1 e2
      exact ⟨F, m, _, x, y, c, r, h1, h2, e3, kd k r rfl⟩))
theorem pt_cmpW (hu : X.A.units + 64 < cLine ∧ fa.h = fun k => k.hash X.w) {op : CmpOp} (ha : PE X a (TV X.K fa f)) (hb : PE X b (TV X.K fa g)) (hm : behindInMarks op b = false) :
    PT X (.Compare a [op] [b] pos) (TB X.K fa (tst fun ρ => sbind (f ρ) fun x => sbind (g ρ) fun y => sbind (sask (cmpop op x y)) fun c => sret (.d (.bool c)))) :=
  PT.weak (pt_cmpR (op_cmpop hu op) ha hb hm) (by
    rintro σ H Q ⟨F, m, ρ, S, v, S', r0, e0, h0, k0⟩
    obtain ⟨z, S3, hz, h3⟩ := sbind_some h0
    obtain ⟨x, S1, hx, h1⟩ := sbind_some hz
    obtain ⟨y, S2, hy, h2⟩ := sbind_some h1
    obtain ⟨t1, t2⟩ := sask_some h3
    simp only at t1 t2
    subst t2
    refine ⟨F, m, ρ, S, x, S1, r0, e0, hx, fun F1 m1 H1 u1 st1 r1 v1 => ?_⟩
    refine ⟨F1, m1, ρ, S1, y, S2, r1, st1.er r0 e0, hy, fun F2 m2 H2 u2 st2 r2 v2 => ?_⟩
    obtain ⟨e1, c, e2, e3⟩ := rC_of (u1 := u1) (u2 := u2) r2 (st2.rep r1 v1) v2 h2
    subst e1 e2
    cases t1
    exact ⟨F2, m2, _, x, y, _, r2, st2.rep r1 v1, v2, e3, _, rfl, k0 F2 m2 H2 (st1.trans st2) r2⟩)
def fCmp2 (op op' : CmpOp) (f g h : EnvW → SM Val) : EnvW → SM Val := fun ρ => sbind (f ρ) fun x => sbind (g ρ) fun y => sbind (sask (cmpop op x y)) fun k =>
  if k = true then sbind (h ρ) fun z => sbind (sask (cmpop op' y z)) fun k => sret (.d (.bool k)) else sret (.d (.bool false))
theorem chain2_of {K : PySem.W.Frag} {op op' : CmpOp} {σ : L2.St} {H : Hp} {Q : VK} (w : TV K fa (fCmp2 op op' f g h) σ H Q) : tChain (rC K fa (cmpop op)) (rC K fa (cmpop op')) (TV K fa f) (TV K fa g) (TV K fa h) σ H Q := by
  obtain ⟨F, m, ρ, S, v, S', r0, e0, h0, k0⟩ := w
  obtain ⟨x, S1, hx, h1⟩ := sbind_some h0
  obtain ⟨y, S2, hy, h2⟩ := sbind_some h1
  obtain ⟨c, S3, hc, h3⟩ := sbind_some h2
  obtain ⟨t1, t2⟩ := sask_some hc
  simp only at t1 t2
  subst t2
  refine ⟨F, m, ρ, S, x, S1, r0, e0, hx, fun F1 m1 H1 u1 st1 r1 v1 => ?_⟩
  refine ⟨F1, m1, ρ, S1, y, _, r1, st1.er r0 e0, hy, fun F2 m2 H2 u2 st2 r2 v2 => ?_⟩
  refine ⟨F2, m2, _, x, y, c, r2, st2.rep r1 v1, v2, t1, c, rfl, ?_⟩
  split
  · rename_i hk
    rw [if_pos hk] at h3
    obtain ⟨z, S4, hz, h4⟩ := sbind_some h3
    refine ⟨F2, m2, ρ, _, z, S4, r2, st2.er r1 (st1.er r0 e0), hz, fun F3 m3 H3 u3 st3 r3 v3 => ?_⟩
    obtain ⟨e1, c2, e2, e3⟩ := rC_of (u1 := u2) (u2 := u3) r3 (st3.rep r2 v2) v3 h4
    subst e1 e2
    exact ⟨F3, m3, _, y, z, c2, r3, st3.rep r2 v2, v3, e3, k0 _ _ _ _ (st1.trans (st2.trans st3)) r3 rfl⟩
  · rename_i hk
    rw [if_neg hk] at h3
    obtain ⟨e1, e2⟩ := sret_some h3
    simp only at e1 e2
    subst e1 e2
    exact k0 _ _ _ _ (st1.trans st2) r2 rfl
/-- a test's reading from a bool's -/
theorem tb_of {K : PySem.W.Frag} {f : EnvW → SM Val} {σ : L2.St} {H : Hp} {Q : Bool → Hp → Prop} (hb : ∀ ρ S v S', f ρ S = some (v, S') → ∃ c, v = .d (.bool c)) (w : TB K fa (tst f) σ H Q) : TV K fa f σ H fun x H' => ∃ k, x = .bl k ∧ Q k H' := by
  obtain ⟨F, m, ρ, S, v, S', r0, e0, h0, k0⟩ := w
  obtain ⟨x, S1, hx, h1⟩ := sbind_some h0
  obtain ⟨c, rfl⟩ := hb _ _ _ _ hx
  obtain ⟨t1, t2⟩ := sask_some h1
  simp only at t1 t2
  subst t2
  cases t1
  exact ⟨F, m, ρ, S, _, _, r0, e0, hx, fun F1 m1 H1 u1 st1 r1 v1 => ⟨_, v1, k0 F1 m1 H1 st1 r1⟩⟩
theorem bl_sret {S S' : Store} {c : Bool} {v : Val} (e : sret (Val.d (.bool c)) S = some (v, S')) : ∃ c, v = .d (.bool c) := ⟨c, (sret_some e).1⟩
theorem bl_cmp2 {op op' : CmpOp} (ρ : EnvW) (S : Store) (v : Val) (S' : Store) (e : fCmp2 op op' f g h ρ S = some (v, S')) : ∃ c, v = .d (.bool c) := by
  obtain ⟨x, S1, hx, h1⟩ := sbind_some e
  obtain ⟨y, S2, hy, h2⟩ := sbind_some h1
  obtain ⟨c, S3, hc, h3⟩ := sbind_some h2
  split at h3
  · obtain ⟨z, S4, hz, h4⟩ := sbind_some h3
    obtain ⟨c, S3, hc, h3⟩ := sbind_some h4
    exact bl_sret h3
  · exact bl_sret h3
theorem pe_cmp2W (hu : X.A.units + 64 < cLine ∧ fa.h = fun k => k.hash X.w) {op op' : CmpOp} (ha : PE X a (TV X.K fa f)) (hb : PE X b (TV X.K fa g)) (hc : PE X c (TV X.K fa h)) (hm : lastMarks [op, op'] [b, c] = false) :
    PE X (.Compare a [op, op'] [b, c] pos) (TV X.K fa (fCmp2 op op' f g h)) := PE.weak (pe_chain (op_cmpop hu op) (op_cmpop hu op') ha hb hc hm) fun _ _ _ => chain2_of
theorem pt_cmp2W (hu : X.A.units + 64 < cLine ∧ fa.h = fun k => k.hash X.w) {op op' : CmpOp} (ha : PE X a (TV X.K fa f)) (hb : PE X b (TV X.K fa g)) (hc : PE X c (TV X.K fa h)) (hm : lastMarks [op, op'] [b, c] = false) :
    PT X (.Compare a [op, op'] [b, c] pos) (TB X.K fa (tst (fCmp2 op op' f g h))) := PT.weak (pt_chain (op_cmpop hu op) (op_cmpop hu op') ha hb hc hm) fun _ _ _ w => chain2_of (tb_of bl_cmp2 w)
/-! three in a row -/
def tChain3 (r r' r2 : R2) (ta tb tc td : TE) : TE := fun σ H Q => ta σ H fun x H1 => tb σ H1 fun y H2 => r x y H2 fun z H3 => ∃ k, z = .bl k ∧
  (if k = true then tc σ H3 fun w' H4 => r' y w' H4 fun z H5 => ∃ k, z = .bl k ∧ (if k = true then td σ H5 fun w2 H6 => r2 w' w2 H6 Q else Q (.bl false) H5) else Q (.bl false) H3)
theorem pe_chain3 {op op' op2 : CmpOp} {r r' r2 : R2} {ta tb tc td : TE} (ho : OpR X (compareOp op) r) (ho' : OpR X (compareOp op') r') (ho2 : OpR X (compareOp op2) r2) (ha : PE X a ta) (hb : PE X b tb) (hc : PE X c tc) (hd : PE X d td)
    (hm : lastMarks [op, op', op2] [b, c, d] = false) : PE X (.Compare a [op, op', op2] [b, c, d] pos) (tChain3 r r' r2 ta tb tc td) := by
  refine ⟨fun pins s σ H Q I h => ?_⟩
  refine Compare_chain (thn (ha.run pins s σ H _ I h) fun v s1 ⟨x, H1, I1, r1, q1⟩ => chain_link (thn (hb.run pins s1 σ H1 _ I1 q1) fun u s2 ⟨y, H2, I2, r2, q2⟩ =>
    thn (ho pins s2 σ H2 x y v u _ I2 r1 r2 q2) fun d s3 ⟨z, H3, I3, r3, k, e, q3⟩ => ?_)) hm
  subst e
  cases r3
  refine wpAny_truthy_bool ?_
  cases k with
  | false => exact ite_ff ⟨.bl false, H3, I3, rfl, q3⟩
  | true =>
    refine ite_tt (chain_link (thn (hc.run pins s3 σ H3 _ I3 q3) fun w' s4 ⟨z', H4, I4, r4, q4⟩ => thn (ho' pins s4 σ H4 y z' u w' _ I4 r2 r4 q4) fun d s5 ⟨z, H5, I5, r5, k, e, q5⟩ => ?_))
    subst e
    cases r5
    refine wpAny_truthy_bool ?_
    cases k with
    | false => exact ite_ff ⟨.bl false, H5, I5, rfl, q5⟩
    | true => exact ite_tt (chain_last (thn (hd.run pins s5 σ H5 _ I5 q5) fun w2 s6 ⟨z2, H6, I6, r6, q6⟩ => ho2 pins s6 σ H6 z' z2 w' w2 Q I6 r4 r6 q6))
theorem pt_chain3 {op op' op2 : CmpOp} {r r' r2 : R2} {ta tb tc td : TE} (ho : OpR X (compareOp op) r) (ho' : OpR X (compareOp op') r') (ho2 : OpR X (compareOp op2) r2) (ha : PE X a ta) (hb : PE X b tb) (hc : PE X c tc) (hd : PE X d td)
    (hm : lastMarks [op, op', op2] [b, c, d] = false) : PT X (.Compare a [op, op', op2] [b, c, d] pos) (tTest (tChain3 r r' r2 ta tb tc td)) := by
  refine ⟨fun pins s σ H Q I h => ?_⟩
  refine isTrue_chain (thn (ha.run pins s σ H _ I h) fun v s1 ⟨x, H1, I1, r1, q1⟩ => test_link (thn (hb.run pins s1 σ H1 _ I1 q1) fun u s2 ⟨y, H2, I2, r2, q2⟩ =>
    thn (ho pins s2 σ H2 x y v u _ I2 r1 r2 q2) fun d s3 ⟨z, H3, I3, r3, k, e, q3⟩ => ?_)) hm
  subst e
  cases r3
  refine wpAny_truthy_bool ?_
  cases k with
  | false =>
    obtain ⟨k', e', q'⟩ := q3
    cases e'
    exact ite_ff ⟨H3, I3, q'⟩
  | true =>
    refine ite_tt (test_link (thn (hc.run pins s3 σ H3 _ I3 q3) fun w' s4 ⟨z', H4, I4, r4, q4⟩ => thn (ho' pins s4 σ H4 y z' u w' _ I4 r2 r4 q4) fun d s5 ⟨z, H5, I5, r5, k, e, q5⟩ => ?_))
    subst e
    cases r5
    refine wpAny_truthy_bool ?_
    cases k with
    | false =>
      obtain ⟨k', e', q'⟩ := q5
      cases e'
      exact ite_ff ⟨H5, I5, q'⟩
    | true =>
      refine ite_tt (test_last (thn (hd.run pins s5 σ H5 _ I5 q5) fun w2 s6 ⟨z2, H6, I6, r6, q6⟩ => thn (ho2 pins s6 σ H6 z' z2 w' w2 _ I6 r4 r6 q6) fun d' s7 ⟨z3, H7, I7, r7, k2, e2, q7⟩ => ?_))
      subst e2
      cases r7
      exact wpAny_truthy_bool ⟨H7, I7, q7⟩
def fCmp3 (op op' op2 : CmpOp) (f g h k : EnvW → SM Val) : EnvW → SM Val := fun ρ => sbind (f ρ) fun x => sbind (g ρ) fun y => sbind (sask (cmpop op x y)) fun c =>
      if c = true then sbind (h ρ) fun z => sbind (sask (cmpop op' y z)) fun c => if c = true then sbind (k ρ) fun w => sbind (sask (cmpop op2 z w)) fun c => sret (.d (.bool c)) else sret (.d (.bool false)) else sret (.d (.bool false))
theorem chain3_of {K : PySem.W.Frag} {op op' op2 : CmpOp} {σ : L2.St} {H : Hp} {Q : VK} (w : TV K fa (fCmp3 op op' op2 f g h k) σ H Q) : tChain3 (rC K fa (cmpop op)) (rC K fa (cmpop op')) (rC K fa (cmpop op2)) (TV K fa f) (TV K fa g) (TV K fa h) (TV K fa k) σ H Q := by
  obtain ⟨F, m, ρ, S, v, S', r0, e0, h0, k0⟩ := w
  obtain ⟨x, S1, hx, h1⟩ := sbind_some h0
  obtain ⟨y, S2, hy, h2⟩ := sbind_some h1
  obtain ⟨c, S3, hc, h3⟩ := sbind_some h2
  obtain ⟨t1, t2⟩ := sask_some hc
  simp only at t1 t2
  subst t2
  refine ⟨F, m, ρ, S, x, S1, r0, e0, hx, fun F1 m1 H1 u1 st1 r1 v1 => ?_⟩
  refine ⟨F1, m1, ρ, S1, y, _, r1, st1.er r0 e0, hy, fun F2 m2 H2 u2 st2 r2 v2 => ?_⟩
  refine ⟨F2, m2, _, x, y, c, r2, st2.rep r1 v1, v2, t1, c, rfl, ?_⟩
  split
  · rename_i hk
    rw [if_pos hk] at h3
    obtain ⟨z, S4, hz, h4⟩ := sbind_some h3
    obtain ⟨c2, S5, hc2, h5⟩ := sbind_some h4
    obtain ⟨t3, t4⟩ := sask_some hc2
    simp only at t3 t4
    subst t4
    refine ⟨F2, m2, ρ, _, z, _, r2, st2.er r1 (st1.er r0 e0), hz, fun F3 m3 H3 u3 st3 r3 v3 => ?_⟩
    refine ⟨F3, m3, _, y, z, c2, r3, st3.rep r2 v2, v3, t3, c2, rfl, ?_⟩
    split
    · rename_i hk2
      rw [if_pos hk2] at h5
      obtain ⟨w2, S6, hw, h6⟩ := sbind_some h5
      refine ⟨F3, m3, ρ, _, w2, S6, r3, st3.er r2 (st2.er r1 (st1.er r0 e0)), hw, fun F4 m4 H4 u4 st4 r4 v4 => ?_⟩
      obtain ⟨e1, c2, e2, e3⟩ := rC_of (u1 := u3) (u2 := u4) r4 (st4.rep r3 v3) v4 h6
      subst e1 e2
      exact ⟨F4, m4, _, z, w2, c2, r4, st4.rep r3 v3, v4, e3, k0 _ _ _ _ (st1.trans (st2.trans (st3.trans st4))) r4 rfl⟩
    · rename_i hk2
      rw [if_neg hk2] at h5
      obtain ⟨e1, e2⟩ := sret_some h5
      simp only at e1 e2
      subst e1 e2
      exact k0 _ _ _ _ (st1.trans (st2.trans st3)) r3 rfl
  · rename_i hk
    rw [if_neg hk] at h3
    obtain ⟨e1, e2⟩ := sret_some h3
    simp only at e1 e2
    subst e1 e2
    exact k0 _ _ _ _ (st1.trans st2) r2 rfl
theorem bl_cmp3 {op op' op2 : CmpOp} (ρ : EnvW) (S : Store) (v : Val) (S' : Store) (e : fCmp3 op op' op2 f g h k ρ S = some (v, S')) : ∃ c, v = .d (.bool c) := by
  obtain ⟨x, S1, hx, h1⟩ := sbind_some e
  obtain ⟨y, S2, hy, h2⟩ := sbind_some h1
  obtain ⟨c, S3, hc, h3⟩ := sbind_some h2
  split at h3
  · obtain ⟨z, S4, hz, h4⟩ := sbind_some h3
    obtain ⟨c, S3, hc, h3⟩ := sbind_some h4
    split at h3
    · obtain ⟨z, S4, hz, h4⟩ := sbind_some h3
      obtain ⟨c, S3, hc, h3⟩ := sbind_some h4
      exact bl_sret h3
    · exact bl_sret h3
  · exact bl_sret h3
theorem pe_cmp3W (hu : X.A.units + 64 < cLine ∧ fa.h = fun k => k.hash X.w) {op op' op2 : CmpOp} (ha : PE X a (TV X.K fa f)) (hb : PE X b (TV X.K fa g)) (hc : PE X c (TV X.K fa h)) (hd : PE X d (TV X.K fa k)) (hm : lastMarks [op, op', op2] [b, c, d] = false) :
    PE X (.Compare a [op, op', op2] [b, c, d] pos) (TV X.K fa (fCmp3 op op' op2 f g h k)) := PE.weak (pe_chain3 (op_cmpop hu op) (op_cmpop hu op') (op_cmpop hu op2) ha hb hc hd hm) fun _ _ _ => chain3_of
theorem pt_cmp3W (hu : X.A.units + 64 < cLine ∧ fa.h = fun k => k.hash X.w) {op op' op2 : CmpOp} (ha : PE X a (TV X.K fa f)) (hb : PE X b (TV X.K fa g)) (hc : PE X c (TV X.K fa h)) (hd : PE X d (TV X.K fa k)) (hm : lastMarks [op, op', op2] [b, c, d] = false) :
    PT X (.Compare a [op, op', op2] [b, c, d] pos) (TB X.K fa (tst (fCmp3 op op' op2 f g h k))) := PT.weak (pt_chain3 (op_cmpop hu op) (op_cmpop hu op') (op_cmpop hu op2) ha hb hc hd hm) fun _ _ _ w => chain3_of (tb_of bl_cmp3 w)
/-! and, or, not, if-else -/
def fAnd (f g : EnvW → SM Val) : EnvW → SM Val := fun ρ => sbind (f ρ) fun x => sbind (sask (truth x)) fun k => if k = true then g ρ else sret x
def fOr (f g : EnvW → SM Val) : EnvW → SM Val := fun ρ => sbind (f ρ) fun x => sbind (sask (truth x)) fun k => if k = true then sret x else g ρ
def fNot (f : EnvW → SM Val) : EnvW → SM Val := fun ρ => sbind (f ρ) fun x => sbind (sask (truth x)) fun k => sret (.d (.bool (!k)))
def fIf (f g h : EnvW → SM Val) : EnvW → SM Val := fun ρ => sbind (f ρ) fun x => sbind (sask (truth x)) fun k => if k = true then g ρ else h ρ
theorem pe_andW (ha : PE X a (TV X.K fa f)) (hb : PE X (.BoolOp .And (b :: rest) pos) (TV X.K fa g)) : PE X (.BoolOp .And (a :: b :: rest) pos) (TV X.K fa (fAnd f g)) := PE.weak (pe_andT ha hb) (by
  rintro σ H Q ⟨F, m, ρ, S, v, S', r0, e0, h0, k0⟩
  obtain ⟨x, S1, hx, h1⟩ := sbind_some h0
  obtain ⟨c, S2, hc, h2⟩ := sbind_some h1
  obtain ⟨t1, t2⟩ := sask_some hc
  simp only at t1 t2
  subst t2
  refine ⟨F, m, ρ, S, x, _, r0, e0, hx, fun F1 m1 H1 u1 st1 r1 v1 => ⟨c, truth_ok r1 v1 t1, ?_⟩⟩
  split
  · rename_i hk
    rw [if_pos hk] at h2
    exact ⟨F1, m1, ρ, _, v, S', r1, st1.er r0 e0, h2, fun F2 m2 H2 u2 st2 r2 v2 => k0 F2 m2 H2 u2 (st1.trans st2) r2 v2⟩
  · rename_i hk
    rw [if_neg hk] at h2
    obtain ⟨e1, e2⟩ := sret_some h2
    simp only at e1 e2
    subst e1 e2
    exact k0 _ _ _ _ st1 r1 v1)
theorem pe_orW (ha : PE X a (TV X.K fa f)) (hb : PE X (.BoolOp .Or (b :: rest) pos) (TV X.K fa g)) : PE X (.BoolOp .Or (a :: b :: rest) pos) (TV X.K fa (fOr f g)) := PE.weak (pe_orT ha hb) (by
  rintro σ H Q ⟨F, m, ρ, S, v, S', r0, e0, h0, k0⟩
  obtain ⟨x, S1, hx, h1⟩ := sbind_some h0
  obtain ⟨c, S2, hc, h2⟩ := sbind_some h1
  obtain ⟨t1, t2⟩ := sask_some hc
  simp only at t1 t2
  subst t2
  refine ⟨F, m, ρ, S, x, _, r0, e0, hx, fun F1 m1 H1 u1 st1 r1 v1 => ⟨c, truth_ok r1 v1 t1, ?_⟩⟩
  split
  · rename_i hk
    rw [if_pos hk] at h2
    obtain ⟨e1, e2⟩ := sret_some h2
    simp only at e1 e2
    subst e1 e2
    exact k0 _ _ _ _ st1 r1 v1
  · rename_i hk
    rw [if_neg hk] at h2
    exact ⟨F1, m1, ρ, _, v, S', r1, st1.er r0 e0, h2, fun F2 m2 H2 u2 st2 r2 v2 => k0 F2 m2 H2 u2 (st1.trans st2) r2 v2⟩)
theorem pe_notW (ha : PE X a (TV X.K fa f)) : PE X (.UnaryOp .Not a pos) (TV X.K fa (fNot f)) := PE.weak (pe_notT ha) (by
  rintro σ H Q ⟨F, m, ρ, S, v, S', r0, e0, h0, k0⟩
  obtain ⟨x, S1, hx, h1⟩ := sbind_some h0
  obtain ⟨c, S2, hc, h2⟩ := sbind_some h1
  obtain ⟨t1, t2⟩ := sask_some hc
  obtain ⟨e1, e2⟩ := sret_some h2
  simp only at t1 t2 e1 e2
  subst t2 e1 e2
  exact ⟨F, m, ρ, S, x, _, r0, e0, hx, fun F1 m1 H1 u1 st1 r1 v1 => ⟨c, truth_ok r1 v1 t1, k0 _ _ _ _ st1 r1 rfl⟩⟩)
theorem pe_ifW (hc : PT X c (TB X.K fa (tst f))) (ha : PE X a (TV X.K fa g)) (hb : PE X b (TV X.K fa h)) : PE X (.IfExp c a b pos) (TV X.K fa (fIf f g h)) := PE.weak (pe_ifExp hc ha hb) (by
  rintro σ H Q ⟨F, m, ρ, S, v, S', r0, e0, h0, k0⟩
  obtain ⟨x, S1, hx, h1⟩ := sbind_some h0
  obtain ⟨c, S2, hc, h2⟩ := sbind_some h1
  refine ⟨F, m, ρ, S, c, S2, r0, e0, (sbind_eq hx).trans hc, fun F1 m1 H1 st1 r1 => ?_⟩
  cases c with
  | true => exact ⟨F1, m1, ρ, _, v, S', r1, st1.er r0 e0, h2, fun F2 m2 H2 u2 st2 r2 v2 => k0 F2 m2 H2 u2 (st1.trans st2) r2 v2⟩
  | false => exact ⟨F1, m1, ρ, _, v, S', r1, st1.er r0 e0, h2, fun F2 m2 H2 u2 st2 r2 v2 => k0 F2 m2 H2 u2 (st1.trans st2) r2 v2⟩)
/-- a test in two steps -/
theorem tst_and {ρ : EnvW} {S S' : Store} {c : Bool} (e : tst (fAnd f g) ρ S = some (c, S')) : ∃ k S1, tst f ρ S = some (k, S1) ∧ if k = true then tst g ρ S1 = some (c, S') else (c = false ∧ S' = S1) := by
  obtain ⟨v, S2, h2, h3⟩ := sbind_some e
  obtain ⟨x, S1, hx, h1⟩ := sbind_some h2
  obtain ⟨k, S3, hc, h4⟩ := sbind_some h1
  refine ⟨k, S3, (sbind_eq hx).trans hc, ?_⟩
  split
  · rename_i hk
    rw [if_pos hk] at h4
    exact (sbind_eq h4).trans h3
  · rename_i hk
    rw [if_neg hk] at h4
    obtain ⟨e1, e2⟩ := sret_some h4
    obtain ⟨t1, t2⟩ := sask_some hc
    obtain ⟨t3, t4⟩ := sask_some h3
    simp only at e1 e2 t1 t2 t3 t4
    subst e1 e2 t4
    rw [t2] at t3
    rw [t1] at t3
    cases t3
    exact ⟨by simpa using hk, rfl⟩
theorem tst_or {ρ : EnvW} {S S' : Store} {c : Bool} (e : tst (fOr f g) ρ S = some (c, S')) : ∃ k S1, tst f ρ S = some (k, S1) ∧ if k = true then (c = true ∧ S' = S1) else tst g ρ S1 = some (c, S') := by
  obtain ⟨v, S2, h2, h3⟩ := sbind_some e
  obtain ⟨x, S1, hx, h1⟩ := sbind_some h2
  obtain ⟨k, S3, hc, h4⟩ := sbind_some h1
  refine ⟨k, S3, (sbind_eq hx).trans hc, ?_⟩
  split
  · rename_i hk
    rw [if_pos hk] at h4
    obtain ⟨e1, e2⟩ := sret_some h4
    obtain ⟨t1, t2⟩ := sask_some hc
    obtain ⟨t3, t4⟩ := sask_some h3
    simp only at e1 e2 t1 t2 t3 t4
    subst e1 e2 t4
    rw [t2] at t3
    rw [t1] at t3
    cases t3
    exact ⟨by simpa using hk, rfl⟩
  · rename_i hk
    rw [if_neg hk] at h4
    exact (sbind_eq h4).trans h3
theorem pw_andW (ha : PT X a (TB X.K fa (tst f))) (hb : PW X (.BoolOp .And (b :: rest) pos) (TB X.K fa (tst g))) : PW X (.BoolOp .And (a :: b :: rest) pos) (TB X.K fa (tst (fAnd f g))) := PW.weak (pw_and ha hb) (by
  rintro σ H Q ⟨F, m, ρ, S, v, S', r0, e0, h0, k0⟩
  obtain ⟨k, S1, h1, h2⟩ := tst_and h0
  refine ⟨F, m, ρ, S, k, S1, r0, e0, h1, fun F1 m1 H1 st1 r1 => ?_⟩
  show if k = true then TB X.K fa (tst g) σ H1 Q else Q false H1
  split
  · rename_i hk
    rw [if_pos hk] at h2
    exact ⟨F1, m1, ρ, S1, v, S', r1, st1.er r0 e0, h2, fun F2 m2 H2 st2 r2 => k0 F2 m2 H2 (st1.trans st2) r2⟩
  · rename_i hk
    rw [if_neg hk] at h2
    obtain ⟨rfl, rfl⟩ := h2
    exact k0 _ _ _ st1 r1)
theorem pw_orW (ha : PT X a (TB X.K fa (tst f))) (hb : PW X (.BoolOp .Or (b :: rest) pos) (TB X.K fa (tst g))) : PW X (.BoolOp .Or (a :: b :: rest) pos) (TB X.K fa (tst (fOr f g))) := PW.weak (pw_or ha hb) (by
  rintro σ H Q ⟨F, m, ρ, S, v, S', r0, e0, h0, k0⟩
  obtain ⟨k, S1, h1, h2⟩ := tst_or h0
  refine ⟨F, m, ρ, S, k, S1, r0, e0, h1, fun F1 m1 H1 st1 r1 => ?_⟩
  show if k = true then Q true H1 else TB X.K fa (tst g) σ H1 Q
  split
  · rename_i hk
    rw [if_pos hk] at h2
    obtain ⟨rfl, rfl⟩ := h2
    exact k0 _ _ _ st1 r1
  · rename_i hk
    rw [if_neg hk] at h2
    exact ⟨F1, m1, ρ, S1, v, S', r1, st1.er r0 e0, h2, fun F2 m2 H2 st2 r2 => k0 F2 m2 H2 (st1.trans st2) r2⟩)
theorem pt_notW (ha : PT X a (TB X.K fa (tst f))) : PT X (.UnaryOp .Not a pos) (TB X.K fa (tst (fNot f))) := PT.weak (pt_not ha) (by
  rintro σ H Q ⟨F, m, ρ, S, v, S', r0, e0, h0, k0⟩
  obtain ⟨v2, S2, h2, h3⟩ := sbind_some h0
  obtain ⟨x, S1, hx, h1⟩ := sbind_some h2
  obtain ⟨k, S3, hc, h4⟩ := sbind_some h1
  obtain ⟨e1, e2⟩ := sret_some h4
  obtain ⟨t3, t4⟩ := sask_some h3
  simp only at e1 e2 t3 t4
  subst e1 e2 t4
  cases t3
  exact ⟨F, m, ρ, S, k, _, r0, e0, (sbind_eq hx).trans hc, fun F1 m1 H1 st1 r1 => k0 _ _ _ st1 r1⟩)
theorem pt_ifExp {tA t1 t2 : TT} (hc : PT X c tA) (ha : PT X a t1) (hb : PT X b t2) : PT X (.IfExp c a b pos) (fun σ H Q => tA σ H fun k H1 => if k = true then t1 σ H1 Q else t2 σ H1 Q) := by
  refine ⟨fun pins s σ H Q I h => ?_⟩
  refine isTrue_IfExp (thn (hc.run pins s σ H _ I h) fun d s1 ⟨H1, I1, q1⟩ => ?_)
  cases d with
  | true => exact ha.run pins s1 σ H1 Q I1 q1
  | false => exact hb.run pins s1 σ H1 Q I1 q1
theorem pt_ifW (hc : PT X c (TB X.K fa (tst f))) (ha : PT X a (TB X.K fa (tst g))) (hb : PT X b (TB X.K fa (tst h))) : PT X (.IfExp c a b pos) (TB X.K fa (tst (fIf f g h))) := PT.weak (pt_ifExp hc ha hb) (by
  rintro σ H Q ⟨F, m, ρ, S, v, S', r0, e0, h0, k0⟩
  obtain ⟨v2, S2, h2, h3⟩ := sbind_some h0
  obtain ⟨x, S1, hx, h1⟩ := sbind_some h2
  obtain ⟨k, S3, hc, h4⟩ := sbind_some h1
  refine ⟨F, m, ρ, S, k, S3, r0, e0, (sbind_eq hx).trans hc, fun F1 m1 H1 st1 r1 => ?_⟩
  cases k with
  | true => exact ⟨F1, m1, ρ, _, v, S', r1, st1.er r0 e0, (sbind_eq h4).trans h3, fun F2 m2 H2 st2 r2 => k0 F2 m2 H2 (st1.trans st2) r2⟩
  | false => exact ⟨F1, m1, ρ, _, v, S', r1, st1.er r0 e0, (sbind_eq h4).trans h3, fun F2 m2 H2 st2 r2 => k0 F2 m2 H2 (st1.trans st2) r2⟩)
end
end Wf
set_option maxRecDepth 100000
set_option maxHeartbeats 4000000
/-! W12: displays, subscripts, slices, calls, lists that are kept. -/
namespace Wf
open PySem PySem.Spec PyProof.Rows L2
section
variable {X : Cx} {fa : FaW} {a b c d : Expr} {f g h : EnvW → SM Val} {fs : EnvW → SM (List Val)} {pos : Pos} {es : List Expr}
theorem pe_tupW {k : Nat} (hs : PA X es (TVs X.K fa fs)) : PE X (.Tuple es k pos) (TV X.K fa fun ρ => sbind (fs ρ) mkT) :=
  PE.weak (pe_tupF hs) (tv_args (r := fun xs H1 Q => xs.length ≤ sizeLine ∧ NewT Q H1 xs) fun F m S H x u1 v S' Q r h1 e k => mkT_ok r h1 e k)
theorem pe_lstW {kp : Bool} (hs : PA X es (TVs X.K fa fs)) : PE X (.List es pos) (TV X.K fa fun ρ => sbind (fs ρ) (mkL kp)) :=
  PE.weak (pe_lst hs) (tv_args (r := fun xs H1 Q => xs.length ≤ sizeLine ∧ ∀ p, H1 p = none → Q (.ref p) (upd H1 p (.lst xs))) fun F m S H x u1 v S' Q r h1 e k => mkL_ok r h1 e k)
theorem pe_idxW (ha : PE X a (TV X.K fa f)) (hb : PE X b (TV X.K fa g)) (hs : PlainIx b) : PE X (.Subscript a b pos) (TV X.K fa fun ρ => sbind (f ρ) fun x => sbind (g ρ) fun y => sask (idxS x y)) :=
  PE.weak (pe_ix ix_ok ha hb hs) (tv_bin (fun F m S H x y u1 u2 v S' Q r h1 h2 e k => by
    obtain ⟨e1, e2⟩ := sask_some e
    simp only at e1 e2
    subst e2
    exact ⟨F, m, _, x, y, v, r, h1, h2, e1, k⟩))
def TPo (K : PySem.W.Frag) (fa : FaW) (f : EnvW → SM Val) : TO := fun σ H Q => ∃ (F : FrZ) (m : List Addr) (ρ : EnvW) (S : Store) (v : Val) (S' : Store) (o : Option Int), SR K fa F m S H ∧ ER K fa F m H ρ σ ∧ f ρ S = some (v, S') ∧ partOf v = some o ∧
  ∀ (F' : FrZ) (m' : List Addr) (H' : Hp), Step F m S H F' m' S' H' → SR K fa F' m' S' H' → Q o H'
theorem po_noneW : PO X none (TPo X.K fa fun _ => sret (.d .none)) := ⟨fun pins s σ H Q I w => by
  obtain ⟨F, m, ρ, S, v, S', o, r0, e0, h0, ho, k0⟩ := w
  obtain ⟨e1, e2⟩ := sret_some h0
  simp only at e1 e2
  subst e1 e2
  cases ho
  exact po_none.run pins s σ H Q I (k0 F m H Step.refl r0)⟩
theorem po_someW {e : Expr} (h : PE X e (TV X.K fa f)) : PO X (some e) (TPo X.K fa (onlyI f)) := ⟨fun pins s σ H Q I w => by
  obtain ⟨F, m, ρ, S, v, S', o, r0, e0, h0, ho, k0⟩ := w
  obtain ⟨x, S1, hx, h1⟩ := sbind_some h0
  split at h1
  · rename_i i
    obtain ⟨e1, e2⟩ := sret_some h1
    simp only at e1 e2
    subst e1 e2
    cases ho
    exact (po_some h).run pins s σ H Q I ⟨F, m, ρ, S, _, _, r0, e0, hx, fun F1 m1 H1 u1 st1 r1 v1 => ⟨i, v1, k0 F1 m1 H1 st1 r1⟩⟩
  · cases h1⟩
theorem pe_slcW {lo hi : Option Expr} {p2 : Pos} (ha : PE X a (TV X.K fa f)) (hl : PO X lo (TPo X.K fa g)) (hh : PO X hi (TPo X.K fa h)) :
    PE X (.Subscript a (.Slice lo hi none p2) pos) (TV X.K fa fun ρ => sbind (f ρ) fun x => sbind (g ρ) fun l => sbind (h ρ) fun h => sask fun S => match partOf l, partOf h with
    | some l, some h => cutS x l h S
    | _, _ => none) := PE.weak (pe_slice (sl_ok (fa := fa)) ha hl hh) (by
  rintro σ H Q ⟨F, m, ρ, S, v, S', r0, e0, h0, k0⟩
  obtain ⟨x, S1, hx, h1⟩ := sbind_some h0
  obtain ⟨l, S2, hl, h2⟩ := sbind_some h1
  obtain ⟨u, S3, hu, h3⟩ := sbind_some h2
  obtain ⟨t1, t2⟩ := sask_some h3
  simp only at t1 t2
  subst t2
  split at t1
  · rename_i l' u' hl' hu'
    refine ⟨F, m, ρ, S, x, S1, r0, e0, hx, fun F1 m1 H1 u1 st1 r1 v1 => ?_⟩
    refine ⟨F1, m1, ρ, S1, l, S2, l', r1, st1.er r0 e0, hl, hl', fun F2 m2 H2 st2 r2 => ?_⟩
    refine ⟨F2, m2, ρ, S2, u, _, u', r2, st2.er r1 (st1.er r0 e0), hu, hu', fun F3 m3 H3 st3 r3 => ?_⟩
    exact ⟨F3, m3, _, x, v, r3, st3.rep r2 (st2.rep r1 v1), t1, fun F4 m4 H4 u4 st4 r4 v4 => k0 F4 m4 H4 u4 (st1.trans (st2.trans (st3.trans st4))) r4 v4⟩
  · cases t1)
/-- a built-in -/
theorem bi_of {z : List Val → Store → Option Val} {σ : L2.St} {H : Hp} {Q : VK} {K : PySem.W.Frag} (w : TV K fa (fun ρ => sbind (fs ρ) fun vs => sask (z vs)) σ H Q) : tCB (rL K fa z) (TVs K fa fs) σ H Q :=
  (by
  obtain ⟨F, m, ρ, S, v, S', r0, e0, h0, k0⟩ := w
  obtain ⟨x, S1, hx, h1⟩ := sbind_some h0
  obtain ⟨t1, t2⟩ := sask_some h1
  simp only at t1 t2
  subst t2
  exact ⟨F, m, ρ, S, x, _, r0, e0, hx, fun F1 m1 H1 u1 st1 r1 v1 => ⟨F1, m1, _, x, v, r1, v1, t1, fun F4 m4 H4 u4 st4 r4 v4 => k0 F4 m4 H4 u4 (st1.trans st4) r4 v4⟩⟩)
/-! ### lists that are kept -/
theorem ds_vals {K : PySem.W.Frag} {F : FrZ} {m : List Addr} {H : Hp} {ds : List PyData} {us : List V} (h : Reps K F H ds us) : RepVs K fa F m H (ds.map .d) us := Reps.vals h
theorem keep_ok {K : PySem.W.Frag} {F : FrZ} {m : List Addr} {S S' : Store} {H : Hp} {ds : List PyData} {us : List V} {v : Val} {Q : VK} (r : SR K fa F m S H) (h : Reps K F H ds us) (e : keepV (.d (.list ds)) S = some (v, S')) (k : Kont K fa F m S H v S' Q) : ∀ p, H p = none → Q (.ref p) (upd H p (.lst us)) :=
  (alloc_ok r (ds_vals h) (show alloc (ds.map .d) S = some (v, S') from e) k).2
def rBK (K : PySem.W.Frag) (fa : FaW) (z : Val → Val → Store → Option Val) : R2 := fun u1 u2 H Q => ∃ (F : FrZ) (m : List Addr) (S : Store) (x y v w : Val) (S' : Store), SR K fa F m S H ∧ RepV K fa F m H x u1 ∧ RepV K fa F m H y u2 ∧ z x y S = some v ∧ keepV v S = some (w, S') ∧ Kont K fa F m S H w S' Q
theorem op_binK (op : Operator) : OpR X (binaryOp op) (rBK X.K fa (binop op)) := by
  intro pins s σ H u1 u2 v u Q I rx ry ⟨F, m, S, x, y, w, w', S', r, h1, h2, e, ek, k⟩
  unfold binop at e
  split at e
  · cases e; cases ek
  · cases e; cases ek
  · split at e
    · cases e; cases ek
    · cases e
  · split at e
    · cases e; cases ek
    · cases e
  · split at e
    · cases e; cases ek
    · cases e
  · split at e
    · cases e; cases ek
    · cases e
  · split at e
    · cases e; cases ek
    · cases e
  · split at e
    · cases e; cases ek
    · cases e
  · rename_i xs j
    split at e
    · rename_i hz
      obtain ⟨hz1, hz2, hz3⟩ := hz
      cases e
      have g1 : Rep X.K F H (.list xs) u1 := h1
      unfold Rep at g1
      obtain ⟨a, us, rfl, f1, t1, q1⟩ := g1
      exact op_rep pins s σ H _ _ v u Q I rx ry ⟨a, j, us, rfl, h2, t1, hz1, hz2, by rw [← q1.length]; exact hz3, keep_ok r (reps_rep q1 _) ek k⟩
    · cases e
  · split at e
    · rename_i xs ys hx hy
      obtain ⟨a, us, rfl, t1, q1⟩ := r.lst h1 hx
      obtain ⟨b, ws, rfl, t2, q2⟩ := r.lst h2 hy
      unfold listOf at e
      split at e
      · rename_i ds hd
        split at e
        · rename_i hz
          cases e
          have q3 := (q1.append q2).data hd
          have hl := q3.length
          rw [List.length_append] at hl
          exact op_cat pins s σ H _ _ v u Q I rx ry ⟨a, b, us, ws, rfl, rfl, t1, t2, by omega, keep_ok r q3 ek k⟩
        · cases e
      · cases e
    · cases e
  · cases e
theorem pe_binK {op : Operator} (ha : PE X a (TV X.K fa f)) (hb : PE X b (TV X.K fa g)) : PE X (.BinOp a op b pos) (TV X.K fa fun ρ => sbind (sbind (f ρ) fun x => sbind (g ρ) fun y => sask (binop op x y)) keepV) :=
  PE.weak (pe_op (op_binK op) ha hb) (by
  rintro σ H Q ⟨F, m, ρ, S, v, S', r0, e0, h0, k0⟩
  obtain ⟨z, Sz, hz, hk⟩ := sbind_some h0
  obtain ⟨x, S1, hx, h1⟩ := sbind_some hz
  obtain ⟨y, S2, hy, h2⟩ := sbind_some h1
  obtain ⟨t1, t2⟩ := sask_some h2
  simp only at t1 t2
  subst t2
  refine ⟨F, m, ρ, S, x, S1, r0, e0, hx, fun F1 m1 H1 u1 st1 r1 v1 => ?_⟩
  refine ⟨F1, m1, ρ, S1, y, _, r1, st1.er r0 e0, hy, fun F2 m2 H2 u2 st2 r2 v2 => ?_⟩
  exact ⟨F2, m2, _, x, y, z, v, S', r2, st2.rep r1 v1, v2, t1, hk, fun F' m' H' u st r3 q => k0 F' m' H' u (st1.trans (st2.trans st)) r3 q⟩)
def rSK (K : PySem.W.Frag) (fa : FaW) : V → Option Int → Option Int → Hp → VK → Prop := fun u1 lo hi H Q => ∃ (F : FrZ) (m : List Addr) (S : Store) (x v w : Val) (S' : Store), SR K fa F m S H ∧ RepV K fa F m H x u1 ∧ cutS x lo hi S = some v ∧ keepV v S = some (w, S') ∧ Kont K fa F m S H w S' Q
theorem sl_keep : SlR X (rSK X.K fa) := by
  intro pins s σ H u1 v vl vu lo hi sl Q I rx hs pl pu ⟨F, m, S, x, w, w', S', r, h1, e, ek, k⟩
  unfold cutS at e
  split at e
  · cases e; cases ek
  · split at e
    · cases e; cases ek
    · cases e
  · obtain ⟨xs, e1, e2⟩ := Option.bind_eq_some_iff.mp e
    obtain ⟨a, us, rfl, hq, hr⟩ := r.list h1 e1
    unfold listOf at e2
    split at e2
    · rename_i ds hd
      split at e2
      · cases e2
        exact sl_list pins s σ H _ v vl vu lo hi sl Q I rx hs pl pu ⟨a, us, rfl, hq, keep_ok r ((cut_rep hr lo hi).data hd) ek k⟩
      · cases e2
    · cases e2
theorem pe_slcK {lo hi : Option Expr} {p2 : Pos} (ha : PE X a (TV X.K fa f)) (hl : PO X lo (TPo X.K fa g)) (hh : PO X hi (TPo X.K fa h)) :
    PE X (.Subscript a (.Slice lo hi none p2) pos) (TV X.K fa fun ρ => sbind (sbind (f ρ) fun x => sbind (g ρ) fun l => sbind (h ρ) fun h => sask fun S => match partOf l, partOf h with
    | some l, some h => cutS x l h S
    | _, _ => none) keepV) := PE.weak (pe_slice (sl_keep (fa := fa)) ha hl hh) (by
  rintro σ H Q ⟨F, m, ρ, S, v, S', r0, e0, h0, k0⟩
  obtain ⟨z, Sz, hz, hk⟩ := sbind_some h0
  obtain ⟨x, S1, hx, h1⟩ := sbind_some hz
  obtain ⟨l, S2, hl, h2⟩ := sbind_some h1
  obtain ⟨u, S3, hu, h3⟩ := sbind_some h2
  obtain ⟨t1, t2⟩ := sask_some h3
  simp only at t1 t2
  subst t2
  split at t1
  · rename_i l' u' hl' hu'
    refine ⟨F, m, ρ, S, x, S1, r0, e0, hx, fun F1 m1 H1 u1 st1 r1 v1 => ?_⟩
    refine ⟨F1, m1, ρ, S1, l, S2, l', r1, st1.er r0 e0, hl, hl', fun F2 m2 H2 st2 r2 => ?_⟩
    refine ⟨F2, m2, ρ, S2, u, _, u', r2, st2.er r1 (st1.er r0 e0), hu, hu', fun F3 m3 H3 st3 r3 => ?_⟩
    exact ⟨F3, m3, _, x, z, v, S', r3, st3.rep r2 (st2.rep r1 v1), t1, hk, fun F4 m4 H4 u4 st4 r4 v4 => k0 F4 m4 H4 u4 (st1.trans (st2.trans (st3.trans st4))) r4 v4⟩
  · cases t1)
def rLK (K : PySem.W.Frag) (fa : FaW) (z : List Val → Store → Option Val) : List V → Hp → VK → Prop := fun us H Q => ∃ (F : FrZ) (m : List Addr) (S : Store) (xs : List Val) (v w : Val) (S' : Store), SR K fa F m S H ∧ RepVs K fa F m H xs us ∧ z xs S = some v ∧ keepV v S = some (w, S') ∧ Kont K fa F m S H w S' Q
theorem biK_of {z : List Val → Store → Option Val} {σ : L2.St} {H : Hp} {Q : VK} {K : PySem.W.Frag} (w : TV K fa (fun ρ => sbind (sbind (fs ρ) fun vs => sask (z vs)) keepV) σ H Q) : tCB (rLK K fa z) (TVs K fa fs) σ H Q :=
  (by
  obtain ⟨F, m, ρ, S, v, S', r0, e0, h0, k0⟩ := w
  obtain ⟨z, Sz, hz, hk⟩ := sbind_some h0
  obtain ⟨x, S1, hx, h1⟩ := sbind_some hz
  obtain ⟨t1, t2⟩ := sask_some h1
  simp only at t1 t2
  subst t2
  exact ⟨F, m, ρ, S, x, _, r0, e0, hx, fun F1 m1 H1 u1 st1 r1 v1 => ⟨F1, m1, _, x, z, v, S', r1, v1, t1, hk, fun F4 m4 H4 u4 st4 r4 v4 => k0 F4 m4 H4 u4 (st1.trans st4) r4 v4⟩⟩)
theorem cr_listK : CallR X (.type "list") (rLK X.K fa fList) := by
  intro pins s σ H vs us Q I rv ⟨F, m, S, xs, v, w, S', r, h, e, ek, k⟩
  unfold fList at e
  split at e <;> first | cases e | skip
  rename_i x
  obtain ⟨u, rfl, h1⟩ := reps1 h
  obtain ⟨ys, e1, e2⟩ := Option.bind_eq_some_iff.mp e
  obtain ⟨a, ws, rfl, hq, hr⟩ := r.seq h1 e1
  unfold listOf at e2
  split at e2
  · rename_i ds hd
    split at e2
    · cases e2
      exact call_list_of pins s σ H _ us Q I rv ⟨a, ws, rfl, hq, keep_ok r (hr.data hd) ek k⟩
    · cases e2
  · cases e2
theorem cr_sortedK (hu : X.A.units + 64 < cLine) : CallR X (.builtin "sorted") (rLK X.K fa fSorted) := by
  intro pins s σ H vs us Q I rv ⟨F, m, S, xs, v, w, S', r, h, e, ek, k⟩
  unfold fSorted at e
  split at e <;> first | cases e | skip
  rename_i x
  obtain ⟨u, rfl, h1⟩ := reps1 h
  obtain ⟨ds, e1, e2⟩ := Option.bind_eq_some_iff.mp e
  obtain ⟨ys, e3, e4⟩ := Option.bind_eq_some_iff.mp e1
  split at e2
  · rename_i hok
    obtain ⟨hok, hz⟩ := hok
    cases e2
    obtain ⟨hal, hk, hlv⟩ := sortable_of hok
    obtain ⟨a, ws, rfl, hq, hr⟩ := r.seq h1 e3
    have hd := hr.data e4
    have go : ∀ (T : String) (o : Obj) (its : List Value) (n : Nat), (T = "list" ∨ T = "tuple") → s.heap.get? a = some o → o.cls = .type T → o.data = .seq its.toArray n → Vals ws its → wpAny (model X.prog X.w) X.A (call (.builtin "sorted") us) (EP X pins σ Q) X.xe s := by
      intro T o its n hT ho hc hdt rvs
      rw [Vals.ref1 rv]
      have hlen : its.length = ds.length := by rw [← rvs.length, ← hd.length]
      refine sorted_seq hT ho hc hdt (each_of hd rvs) ((each_of hd rvs).mono fun v d ⟨u, q1, q2⟩ => Dp.reads I d u v (Rep.dp d u q2) q1) hal hk (by rw [hlen]; exact hz) (fun d hd => by
        have := lv_depth _ _ (List.all_eq_true.mp hlv d hd)
        omega) ?_
      intro h1 h' out ep k1 k2 ha heach
      rw [sortD_eq] at heach
      obtain ⟨ws', g1, g2⟩ := each_to heach
      have I1 : L2.Inv X pins σ H { s with heap := h1 } := I.kept (t' := s.toks) k1
      have hfr : H h1.objs.size = none := I1.hok.fresh (Nat.le_refl _)
      have hl' : ws'.length ≤ sizeLine := by
        rw [← g1.length]
        unfold sortD
        rw [List.length_mergeSort]
        exact hz
      exact ⟨.ref h1.objs.size, upd H h1.objs.size (.lst ws'), I1.laid (t' := s.toks) k2 (Nat.le_refl _) ⟨hl', out, ep, g2, ha⟩, rfl, keep_ok r g1 ek k _ hfr⟩
    rcases hq with hq | hq
    · obtain ⟨its, rvs, ⟨o, n, ho, hc, _, hdt⟩, _⟩ := I.list hq
      exact go "list" o its n (.inl rfl) ho hc hdt rvs
    · obtain ⟨its, rvs, ⟨o, ho, hc, n, hdt⟩, _⟩ := I.tuple hq
      exact go "tuple" o its n (.inr rfl) ho hc hdt rvs
  · cases e2
/-! ### calls of defs -/
def CXF : CXT := fun _ _ _ _ _ _ => False
def spP (K : PySem.W.Frag) (fa : FaW) (g : List Val → Option PyData) : Sp := fun vs H Q _ => ∃ (F : FrZ) (ws : List Val) (d : PyData), SR K fa F [] [] H ∧ RepVs K fa F [] H ws vs ∧ g ws = some d ∧
  ∀ (F' : FrZ) (H' : Hp) (u : V), Step F [] [] H F' [] [] H' → SR K fa F' [] [] H' → Rep K F' H' d u → Q u H'
def spS (K : PySem.W.Frag) (fa : FaW) (g : List Val → SM Val) : Sp := fun vs H Q _ => ∃ (F : FrZ) (m : List Addr) (S : Store) (ws : List Val) (v : Val) (S' : Store), SR K fa F m S H ∧ RepVs K fa F m H ws vs ∧ g ws S = some (v, S') ∧ Kont K fa F m S H v S' Q
def spOf (K : PySem.W.Frag) (fa : FaW) (T : Tab) (j : Nat) : Sp := if T.isP j = true then spP K fa (T.pure j) else spS K fa (T.st j)
/-- the callee's known world: what the caller hands in stands still -/
def Fc (F : FrZ) (m : List Addr) (S : Store) (ws : List Val) : FrZ := fun a => F a ∨ ∃ k lk xs ds, Val.r k ∈ ws ∧ m[k]? = some a ∧ S[k]? = some (.lst lk xs) ∧ datsOf xs = some ds
theorem dvs_rep {K : PySem.W.Frag} {F : FrZ} {m : List Addr} {S : Store} {H : Hp} (r : SR K fa F m S H) : ∀ {ws : List Val} {us : List V} {xs : List Val} {F1 : FrZ}, (∀ a, F a → F1 a) → (∀ k a lk xs ds, Val.r k ∈ ws → m[k]? = some a → S[k]? = some (.lst lk xs) → datsOf xs = some ds → F1 a) → RepVs K fa F m H ws us → dvs S ws = some xs → RepVs K fa F1 [] H xs us
  | [], us, xs, F1, hF, hr, h, e => by
    cases e
    exact h
  | w :: ws, us, xs, F1, hF, hr, ⟨u, vs, e0, h1, h2⟩, e => by
    subst e0
    unfold dvs at e
    split at e
    · rename_i y ys hy hys
      cases e
      refine ⟨u, vs, rfl, ?_, dvs_rep r hF (fun k a lk xs ds hk => hr k a lk xs ds (List.mem_cons_of_mem _ hk)) h2 hys⟩
      cases w with
      | d x =>
        cases hy
        exact Rep.mono (fun a ha => ⟨hF a ha, rfl⟩) _ _ h1
      | f j =>
        cases hy
        exact h1
      | scr ns =>
        cases hy
        obtain ⟨a, e1, h3⟩ := h1
        exact ⟨a, e1, h3.elim (fun ⟨q1, q2⟩ => .inl ⟨hF a q1, q2⟩) .inr⟩
      | r k =>
        obtain ⟨d, hd, rfl⟩ := Option.map_eq_some_iff.mp (show (dr S (.r k)).map Val.d = some y from hy)
        obtain ⟨a, g1, rfl⟩ := h1
        unfold dr at hd
        simp only at hd
        split at hd
        · rename_i lk zs hS
          obtain ⟨ds, e1, rfl⟩ := Option.map_eq_some_iff.mp hd
          obtain ⟨nF, vs', g2, g3⟩ := r.cell k a _ g1 hS
          show Rep K F1 H (.list ds) (.ref a)
          unfold Rep
          exact ⟨a, vs', rfl, hr k a lk zs ds List.mem_cons_self g1 hS e1, g2, Reps.mono (fun a ha => ⟨hF a ha, rfl⟩) _ _ (g3.data e1)⟩
        · cases hd
    · cases e
/-- a pure def is called -/
theorem callP_ok {K : PySem.W.Frag} {F : FrZ} {m : List Addr} {S S' : Store} {H : Hp} {T : Tab} {j : Nat} {ws : List Val} {us : List V} {v : Val} {Q : VK} {E : XK} (hP : T.isP j = true) (r : SR K fa F m S H) (h : RepVs K fa F m H ws us) (e : callP T j ws S = some (v, S')) (k : Kont K fa F m S H v S' Q) : spOf K fa T j us H Q E := by
  unfold spOf
  rw [if_pos hP]
  unfold callP at e
  split at e
  · rename_i xs hxs
    split at e
    · rename_i d hd
      split at e
      · rename_i hr
        cases e
        refine ⟨Fc F m S ws, xs, d, ⟨rfl, fun k a c h => by simp at h, fun i j a h => by simp at h, fun a ha => ?_, fun a h => by simp at h, fun k lk xs j h => by simp at h⟩, dvs_rep r (fun a ha => .inl ha) (fun k a lk xs ds h1 h2 h3 h4 => .inr ⟨k, lk, xs, ds, h1, h2, h3, h4⟩) h hxs, hd, fun F' H' u st r' hu => ?_⟩
        · rcases ha with ha | ⟨k, lk, xs, ds, _, h2, _⟩
          · exact r.live a ha
          · exact r.mlive a (mem_of_get h2)
        · have keep : ∀ a, H a ≠ none → H' a = H a := fun a ha => st.fr a ha (fun z => by simp at z)
          have back : ∀ a, F' a → a ∈ m → Fc F m S ws a := fun a ha hm => by
            rcases st.new a ha with z | z | z
            · exact z
            · exact absurd z (r.mlive a hm)
            · simp at z
          have st' : Step F m S H (fun a => F' a ∧ (a ∈ m → F a)) m S H' := ⟨fun a ha => ⟨st.sub a (.inl ha), fun _ => ha⟩, List.prefix_refl _, fun a ha _ => keep a ha, fun k a xs h1 h2 => ⟨keep a (r.mlive a (mem_of_get h1)), h2⟩,
            fun a ha => by
              rcases st.new a ha.1 with z | z | z
              · rcases z with z | ⟨k, lk, xs, ds, _, h2, _⟩
                · exact .inl z
                · exact .inr (.inr (mem_of_get h2))
              · exact .inr (.inl z)
              · simp at z, fun a ha => .inl ha, fun a ha => st.up a ha⟩
          have r'' : SR K fa (fun a => F' a ∧ (a ∈ m → F a)) m S H' := ⟨r.len, fun k a c h1 h2 => cell_mono (fun b hb => ⟨⟨st.sub b (.inl hb), fun _ => hb⟩, keep b (r.live b hb)⟩) (List.prefix_refl _) (fun q z => q (z.2 (mem_of_get h1))) (keep a (r.mlive a (mem_of_get h1))) (r.cell k a c h1 h2),
            r.inj, fun a ha => r'.live a ha.1, fun a ha => by rw [keep a (r.mlive a ha)]; exact r.mlive a ha, r.wf⟩
          refine k _ _ _ u st' r'' ?_
          show Rep K _ H' d u
          rcases Bool.or_eq_true _ _ ▸ hr with hn | ht
          · refine Rep.mono (fun a ha => ⟨⟨ha, fun hm => ?_⟩, rfl⟩) _ _ hu
            rcases back a ha hm with z | ⟨k, lk, xs, ds, h1, _⟩
            · exact z
            · have : ws.any isR = true := List.any_eq_true.mpr ⟨_, h1, rfl⟩
              rw [this] at hn
              cases hn
          · refine Rep.only (fun a o xs ha hx => ⟨ha, fun hm => ?_⟩) _ _ ht hu
            rcases back a ha hm with z | ⟨k, lk, ys, ds, h1, h2, h3, h4⟩
            · exact z
            · obtain ⟨_, vs', g2, _⟩ := r.cell k a _ h2 h3
              rw [keep a (r.mlive a hm), g2] at hx
              cases hx
      · cases e
    · cases e
  · cases e
theorem callS_ok {K : PySem.W.Frag} {F : FrZ} {m : List Addr} {S S' : Store} {H : Hp} {T : Tab} {j : Nat} {ws : List Val} {us : List V} {v : Val} {Q : VK} {E : XK} (hP : T.isP j = false) (r : SR K fa F m S H) (h : RepVs K fa F m H ws us) (e : T.st j ws S = some (v, S')) (k : Kont K fa F m S H v S' Q) : spOf K fa T j us H Q E := by
  unfold spOf
  rw [if_neg (by rw [hP]; exact Bool.false_ne_true)]
  exact ⟨F, m, S, ws, v, S', r, h, e, k⟩
end
end Wf
set_option maxRecDepth 100000
set_option maxHeartbeats 4000000
/-! W13: what is walked. -/
namespace Wf
open PySem PySem.Spec PyProof.Rows L2 RT RZ
theorem PI.weak {X : Cx} {tg e : Expr} {t t' : TI} (h : PI X tg e t) (w : ∀ σ H R, t' σ H R → t σ H R) : PI X tg e t' := ⟨fun pins s σ H R I q => h.run pins s σ H R I (w σ H R q)⟩
/-- a later world: what is known stands, what is locked stands -/
structure Later (F : FrZ) (m : List Addr) (S : Store) (H : Hp) (F' : FrZ) (m' : List Addr) (S' : Store) (H' : Hp) : Prop where
  keepL : ∀ a, F a → F' a ∧ H' a = H a
  pre : m <+: m'
  lk : ∀ (k : Nat) a xs, m[k]? = some a → S[k]? = some (.lst true xs) → H' a = H a ∧ S'[k]? = some (.lst true xs)
theorem Step.later {F F' : FrZ} {m m' : List Addr} {S S' : Store} {H H' : Hp} (s : Step F m S H F' m' S' H') (l : ∀ a, F a → H a ≠ none) : Later F m S H F' m' S' H' := ⟨fun a h => ⟨s.sub a h, s.fr a (l a h) fun _ => h⟩, s.pre, s.lk⟩
theorem Later.step {F F1 F' : FrZ} {m m1 m' : List Addr} {S S1 S' : Store} {H H1 H' : Hp} (t : Later F m S H F1 m1 S1 H1) (s : Step F1 m1 S1 H1 F' m' S' H') (l : ∀ a, F1 a → H1 a ≠ none) : Later F m S H F' m' S' H' :=
  ⟨fun a h => let ⟨g1, g2⟩ := t.keepL a h; let ⟨g3, g4⟩ := (s.later l).keepL a g1; ⟨g3, g4.trans g2⟩, t.pre.trans s.pre, fun k a xs h1 h2 => let ⟨g1, g2⟩ := t.lk k a xs h1 h2; let ⟨g3, g4⟩ := s.lk k a xs (pre_get t.pre h1) g2; ⟨g3.trans g1, g4⟩⟩
theorem Later.refl {F : FrZ} {m : List Addr} {S : Store} {H : Hp} : Later F m S H F m S H := ⟨fun _ h => ⟨h, rfl⟩, List.prefix_refl _, fun _ _ _ _ h => ⟨rfl, h⟩⟩
section
variable (K : PySem.W.Frag) (fa : FaW)
def ItemOk (tu : Bool) (F : FrZ) (m : List Addr) (H : Hp) (v : Val) (u : V) : Prop := RepV K fa F m H v u ∨ (tu = true ∧ ∃ T ds us, v = .d (.tuple ds) ∧ u = .ref T ∧ H T = some (.tup us) ∧ Reps K F H ds us)
def WalkOk (tu : Bool) (F : FrZ) (m : List Addr) (S : Store) (H : Hp) (J : It) (xs : List Val) : Prop :=
  ∀ (F2 : FrZ) (m2 : List Addr) (S2 : Store) (H2 : Hp), Later F m S H F2 m2 S2 H2 → SR K fa F2 m2 S2 H2 → ∀ i,
    (∀ v, xs[i]? = some v → J.go i H2 ∧ ∀ u H3, J.yld i H2 u H3 → ∃ F3, Step F2 m2 S2 H2 F3 m2 S2 H3 ∧ SR K fa F3 m2 S2 H3 ∧ ItemOk K fa tu F3 m2 H3 v u) ∧ (xs.length ≤ i → J.stop i H2)
def TIW (tu : Bool) (g : EnvW → SM (Val × List Val)) : TI := fun σ H R => ∃ (F : FrZ) (m : List Addr) (ρ : EnvW) (S : Store) (w : Val) (xs : List Val) (S' : Store), SR K fa F m S H ∧ ER K fa F m H ρ σ ∧ g ρ S = some ((w, xs), S') ∧
  ∀ (F' : FrZ) (m' : List Addr) (H' : Hp) (J : It), Step F m S H F' m' S' H' → SR K fa F' m' S' H' → WalkOk K fa tu F' m' (lockAt S' w) H' J xs → R J H'
end
section
variable {K : PySem.W.Frag} {fa : FaW} {F : FrZ} {m : List Addr} {S : Store} {H : Hp}
theorem lockAt_none {w : Val} (h : isR w = false) : lockAt S w = S := by
  cases w <;> first | rfl | cases h
theorem lock_SR (r : SR K fa F m S H) (w : Val) : SR K fa F m (lockAt S w) H := by
  unfold lockAt
  split
  · split
    · rename_i h
      exact lock_cell r h
    · exact r
  · exact r
theorem lock_Step (w : Val) : Step F m S H F m (lockAt S w) H := by
  unfold lockAt
  split
  · split
    · rename_i h
      exact lock_step h
    · exact Step.refl
  · exact Step.refl
/-- a list stands while it is locked -/
theorem walk_list (r : SR K fa F m S H) {w : Val} {u : V} {xs : List Val} (h : RepV K fa F m H w u) (e : rdL S w = some xs) : ∃ a us, u = .ref a ∧ SqL K H a us ∧ RepVs K fa F m H xs us ∧
    ∀ F2 m2 S2 H2, Later F m (lockAt S w) H F2 m2 S2 H2 → SqL K H2 a us := by
  cases w with
  | d x =>
    cases x with
    | list ds =>
      have g1 : Rep K F H (.list ds) u := h
      have e : some (ds.map Val.d) = some xs := e
      cases e
      unfold Rep at g1
      obtain ⟨a, us, rfl, f, g, h2⟩ := g1
      refine ⟨a, us, rfl, SqL.of g, Reps.vals h2, fun F2 m2 S2 H2 st => SqL.of ?_⟩
      rw [(st.keepL a f).2]
      exact g
    | _ => cases e
  | r k =>
    obtain ⟨a, h1, rfl⟩ := h
    unfold rdL at e
    simp only at e
    split at e
    · rename_i lk ys hS
      cases e
      obtain ⟨nF, vs, g1, g2⟩ := r.cell k a _ h1 hS
      refine ⟨a, vs, rfl, SqL.of g1, g2, fun F2 m2 S2 H2 st => SqL.of ?_⟩
      have hl : (lockAt S (.r k))[k]? = some (.lst true xs) := by
        unfold lockAt
        simp only [hS]
        cases lk with
        | false => exact List.getElem?_set_self (List.getElem?_eq_some_iff.mp hS).1
        | true => exact hS
      rw [(st.lk k a xs h1 hl).1]
      exact g1
    · cases e
  | f k => cases e
  | scr ns =>
    obtain ⟨a, rfl, h⟩ := h
    cases e
    rcases h with ⟨f, g⟩ | hK
    · exact ⟨a, _, rfl, .inl g, reps_ints ns, fun F2 m2 S2 H2 st => .inl (by unfold Rd at g ⊢; rw [(st.keepL a f).2]; exact g)⟩
    · exact ⟨a, _, rfl, .inr hK, reps_ints ns, fun F2 m2 S2 H2 st => .inr hK⟩
theorem walk_seq (r : SR K fa F m S H) {w : Val} {u : V} {xs : List Val} (h : RepV K fa F m H w u) (e : rdS S w = some xs) : ∃ a us, u = .ref a ∧ RepVs K fa F m H xs us ∧
    ((SqL K H a us ∧ ∀ F2 m2 S2 H2, Later F m (lockAt S w) H F2 m2 S2 H2 → SqL K H2 a us) ∨ (SqT K H a us ∧ ∀ F2 m2 S2 H2, Later F m (lockAt S w) H F2 m2 S2 H2 → SqT K H2 a us)) := by
  unfold rdS at e
  split at e
  · rename_i ds
    cases e
    have g1 : Rep K F H (.tuple ds) u := h
    unfold Rep at g1
    obtain ⟨a, us, rfl, t1, h2⟩ := g1
    refine ⟨a, us, rfl, Reps.vals h2, .inr ⟨sqt_of t1, fun F2 m2 S2 H2 st => ?_⟩⟩
    rcases t1 with ⟨f, o, g, gd⟩ | k
    · exact .inl (.inr ⟨o, by rw [(st.keepL a f).2]; exact g⟩)
    · exact k.sq
  · obtain ⟨a, us, h1, h2, h3, h4⟩ := walk_list r h e
    exact ⟨a, us, h1, h3, .inl ⟨h2, h4⟩⟩
theorem get_len {α : Type} {xs : List α} {i : Nat} {v : α} (h : xs[i]? = some v) : i < xs.length := (List.getElem?_eq_some_iff.mp h).1
theorem wo_list {tu : Bool} (r : SR K fa F m S H) {a : Addr} {us : List V} {xs : List Val} {S1 : Store} (hr : RepVs K fa F m H xs us) (hs : ∀ F2 m2 S2 H2, Later F m S1 H F2 m2 S2 H2 → SqL K H2 a us)
    (hi : ∀ {P : Program} {w : World} {X : Cx} {pins : List (Addr × Obj)} {σ : L2.St} {s : Shared}, True) : WalkOk K fa tu F m S1 H (Itl K a) xs := by
  intro F2 m2 S2 H2 st r2 i
  have hq := hs _ _ _ _ st
  have hl := hr.length
  refine ⟨fun v hv => ?_, fun h => ⟨us, hq, by omega⟩⟩
  obtain ⟨u, g1, g2⟩ := hr.get hv
  refine ⟨⟨us, u, hq, g1⟩, fun u' H3 hy => ?_⟩
  obtain ⟨rfl, hy⟩ := hy
  have := hy us hq
  rw [g1] at this
  cases this
  exact ⟨F2, Step.refl, r2, .inl (RepV.mono st.keepL st.pre _ _ g2)⟩
theorem wo_tup {tu : Bool} (r : SR K fa F m S H) {a : Addr} {us : List V} {xs : List Val} {S1 : Store} (hr : RepVs K fa F m H xs us) (hs : ∀ F2 m2 S2 H2, Later F m S1 H F2 m2 S2 H2 → SqT K H2 a us) : WalkOk K fa tu F m S1 H (Itt K a) xs := by
  intro F2 m2 S2 H2 st r2 i
  have hq := hs _ _ _ _ st
  have hl := hr.length
  refine ⟨fun v hv => ?_, fun h => ⟨us, hq, by omega⟩⟩
  obtain ⟨u, g1, g2⟩ := hr.get hv
  refine ⟨⟨us, u, hq, g1⟩, fun u' H3 hy => ?_⟩
  obtain ⟨rfl, hy⟩ := hy
  have := hy us hq
  rw [g1] at this
  cases this
  exact ⟨F2, Step.refl, r2, .inl (RepV.mono st.keepL st.pre _ _ g2)⟩
theorem rep_int {H : Hp} (i : Int) : RepV K fa F m H (.d (.int i)) (.int i) := by
  show Rep K F H (.int i) (.int i)
  unfold Rep
  rfl
theorem wo_rng {tu : Bool} (r : SR K fa F m S H) (lo : Int) (n : Nat) {S1 : Store} : WalkOk K fa tu F m S1 H (Itr lo n) ((List.range n).map fun (i : Nat) => Val.d (.int (lo + (i : Int)))) := by
  intro F2 m2 S2 H2 st r2 i
  refine ⟨fun v hv => ?_, fun h => by rw [List.length_map, List.length_range] at h; exact h⟩
  rw [List.getElem?_map] at hv
  obtain ⟨j, hj, rfl⟩ := Option.map_eq_some_iff.mp hv
  obtain ⟨h1, h2⟩ := List.getElem?_eq_some_iff.mp hj
  rw [List.getElem_range] at h2
  subst h2
  rw [List.length_range] at h1
  refine ⟨h1, fun u H3 hy => ?_⟩
  obtain ⟨rfl, rfl⟩ := hy
  exact ⟨F2, Step.refl, r2, .inl (rep_int _)⟩
theorem get_rev {α : Type} {xs : List α} {i : Nat} {v : α} (h : xs.reverse[i]? = some v) : i < xs.length ∧ xs[xs.length - 1 - i]? = some v := by
  have hi := get_len h
  rw [List.length_reverse] at hi
  rw [List.getElem?_reverse hi] at h
  exact ⟨hi, h⟩
theorem wo_revL {tu : Bool} (r : SR K fa F m S H) {a : Addr} {us : List V} {xs : List Val} {S1 : Store} (hr : RepVs K fa F m H xs us) (hs : ∀ F2 m2 S2 H2, Later F m S1 H F2 m2 S2 H2 → SqL K H2 a us) : WalkOk K fa tu F m S1 H (Itv K a us.length) xs.reverse := by
  intro F2 m2 S2 H2 st r2 i
  have hq := hs _ _ _ _ st
  have hl := hr.length
  refine ⟨fun v hv => ?_, fun h => by rw [List.length_reverse] at h; show us.length ≤ i; omega⟩
  obtain ⟨hi, hv⟩ := get_rev hv
  obtain ⟨u, g1, g2⟩ := hr.get hv
  rw [hl] at g1
  refine ⟨⟨by omega, us, u, hq, g1⟩, fun u' H3 hy => ?_⟩
  obtain ⟨rfl, hy⟩ := hy
  have := hy us hq
  rw [g1] at this
  cases this
  exact ⟨F2, Step.refl, r2, .inl (RepV.mono st.keepL st.pre _ _ g2)⟩
theorem wo_revT {tu : Bool} (r : SR K fa F m S H) {a : Addr} {us : List V} {xs : List Val} {S1 : Store} (hr : RepVs K fa F m H xs us) (hs : ∀ F2 m2 S2 H2, Later F m S1 H F2 m2 S2 H2 → SqT K H2 a us) : WalkOk K fa tu F m S1 H (ItvT K a us.length) xs.reverse := by
  intro F2 m2 S2 H2 st r2 i
  have hq := hs _ _ _ _ st
  have hl := hr.length
  refine ⟨fun v hv => ?_, fun h => by rw [List.length_reverse] at h; show us.length ≤ i; omega⟩
  obtain ⟨hi, hv⟩ := get_rev hv
  obtain ⟨u, g1, g2⟩ := hr.get hv
  rw [hl] at g1
  refine ⟨⟨by omega, us, u, hq, g1⟩, fun u' H3 hy => ?_⟩
  obtain ⟨rfl, hy⟩ := hy
  have := hy us hq
  rw [g1] at this
  cases this
  exact ⟨F2, Step.refl, r2, .inl (RepV.mono st.keepL st.pre _ _ g2)⟩
/-- a pair that was just laid -/
theorem pair_new (r : SR K fa F m S H) {T : Addr} (hT : H T = none) (us : List V) : Step F m S H (fun a => F a ∨ a = T) m S (upd H T (.tup us)) ∧ SR K fa (fun a => F a ∨ a = T) m S (upd H T (.tup us)) := fresh_frz r hT _
theorem wo_enu (r : SR K fa F m S H) {a : Addr} {us : List V} {ds : List PyData} {S1 : Store} (hr : Reps K F H ds us) (hs : ∀ F2 m2 S2 H2, Later F m S1 H F2 m2 S2 H2 → SqL K H2 a us) : WalkOk K fa true F m S1 H (Ite K a) (enuW ds) := by
  intro F2 m2 S2 H2 st r2 i
  have hq := hs _ _ _ _ st
  have hl := hr.length
  refine ⟨fun v hv => ?_, fun h => ⟨us, hq, by unfold enuW at h; simp at h; omega⟩⟩
  unfold enuW at hv
  rw [List.getElem?_map] at hv
  obtain ⟨p, hp, rfl⟩ := Option.map_eq_some_iff.mp hv
  rw [List.getElem?_zipIdx] at hp
  obtain ⟨d, hd, rfl⟩ := Option.map_eq_some_iff.mp hp
  have hvs := Reps.vals (fa := fa) (m := m) hr
  obtain ⟨u, g1, g2⟩ := hvs.get (d := .d d) (by rw [List.getElem?_map, hd]; rfl)
  refine ⟨⟨us, u, hq, g1⟩, fun u' H3 hy => ?_⟩
  obtain ⟨T, x, rfl, hT, rfl, hx⟩ := hy
  have := hx us hq
  rw [g1] at this
  cases this
  obtain ⟨a1, a2⟩ := pair_new r2 hT [.int (i : Nat), u]
  refine ⟨_, a1, a2, .inr ⟨rfl, T, _, _, rfl, rfl, upd_same, ?_⟩⟩
  have g3 : Rep K _ _ d u := Rep.mono (st.step a1 r2.live).keepL _ _ g2
  unfold Reps
  refine ⟨.int (i : Nat), [u], rfl, by unfold Rep; simp, ?_⟩
  unfold Reps
  exact ⟨u, [], rfl, g3, reps_nil⟩
theorem wo_zip {L : Bool} (r : SR K fa F m S H) {a b : Addr} {us ws : List V} {ds es : List PyData} {S1 : Store} (h1 : Reps K F H ds us) (h2 : Reps K F H es ws)
    (hs : ∀ F2 m2 S2 H2, Later F m S1 H F2 m2 S2 H2 → (if L = true then SqL K H2 a us ∧ SqL K H2 b ws else SqT K H2 a us ∧ SqT K H2 b ws)) : WalkOk K fa true F m S1 H (if L = true then Itz K a b else ItzT K a b) ((ds.zip es).map fun p => .d (.tuple [p.1, p.2])) := by
  intro F2 m2 S2 H2 st r2 i
  have hq := hs _ _ _ _ st
  have l1 := h1.length
  have l2 := h2.length
  have key : ∀ v, ((ds.zip es).map fun p => Val.d (.tuple [p.1, p.2]))[i]? = some v → ∃ d e u w, v = .d (.tuple [d, e]) ∧ us[i]? = some u ∧ ws[i]? = some w ∧ Rep K F H d u ∧ Rep K F H e w := fun v hv => by
    rw [List.getElem?_map] at hv
    obtain ⟨⟨d, e⟩, hp, rfl⟩ := Option.map_eq_some_iff.mp hv
    rw [List.getElem?_zip_eq_some] at hp
    obtain ⟨u, g1, g2⟩ := (Reps.vals (fa := fa) (m := m) h1).get (d := .d d) (by rw [List.getElem?_map, hp.1]; rfl)
    obtain ⟨w, g3, g4⟩ := (Reps.vals (fa := fa) (m := m) h2).get (d := .d e) (by rw [List.getElem?_map, hp.2]; rfl)
    exact ⟨d, e, u, w, rfl, g1, g3, g2, g4⟩
  have fin : ∀ {d e u w T}, H2 T = none → Rep K F H d u → Rep K F H e w → ∃ F3, Step F2 m2 S2 H2 F3 m2 S2 (upd H2 T (.tup [u, w])) ∧ SR K fa F3 m2 S2 (upd H2 T (.tup [u, w])) ∧ ItemOk K fa true F3 m2 (upd H2 T (.tup [u, w])) (.d (.tuple [d, e])) (.ref T) := fun {d e u w T} hT g2 g4 => by
    obtain ⟨a1, a2⟩ := pair_new r2 hT [u, w]
    refine ⟨_, a1, a2, .inr ⟨rfl, T, _, _, rfl, rfl, upd_same, ?_⟩⟩
    unfold Reps
    refine ⟨u, [w], rfl, Rep.mono (st.step a1 r2.live).keepL _ _ g2, ?_⟩
    unfold Reps
    exact ⟨w, [], rfl, Rep.mono (st.step a1 r2.live).keepL _ _ g4, reps_nil⟩
  cases L with
  | true =>
    obtain ⟨q1, q2⟩ := hq
    refine ⟨fun v hv => ?_, fun h => ⟨us, ws, q1, q2, by simp at h; omega⟩⟩
    obtain ⟨d, e, u, w, rfl, g1, g2, g3, g4⟩ := key v hv
    refine ⟨⟨us, ws, u, w, q1, q2, g1, g2⟩, fun u' H3 hy => ?_⟩
    obtain ⟨T, x, y, rfl, hT, rfl, hx, hy⟩ := hy
    have e1 := hx us q1
    have e2 := hy ws q2
    rw [g1] at e1
    rw [g2] at e2
    cases e1
    cases e2
    exact fin hT g3 g4
  | false =>
    obtain ⟨q1, q2⟩ := hq
    refine ⟨fun v hv => ?_, fun h => ⟨us, ws, q1, q2, by simp at h; omega⟩⟩
    obtain ⟨d, e, u, w, rfl, g1, g2, g3, g4⟩ := key v hv
    refine ⟨⟨us, ws, u, w, q1, q2, g1, g2⟩, fun u' H3 hy => ?_⟩
    obtain ⟨T, x, y, rfl, hT, rfl, hx, hy⟩ := hy
    have e1 := hx us q1
    have e2 := hy ws q2
    rw [g1] at e1
    rw [g2] at e2
    cases e1
    cases e2
    exact fin hT g3 g4
end
section
variable {X : Cx} {fa : FaW} {tg : Expr} {tu : Bool}
def iAny (K : PySem.W.Frag) (tl : TE) : TI := fun σ H R => tl σ H fun x H1 => ∃ a, x = .ref a ∧ (((∃ xs, SqL K H1 a xs) ∧ R (Itl K a) H1) ∨ ((∃ xs, SqT K H1 a xs) ∧ R (Itt K a) H1))
theorem pi_any {l : Expr} {tl : TE} (hl : PE X l tl) : PI X tg l (iAny X.K tl) := by
  refine ⟨fun pins s σ H R I h => ?_⟩
  refine thn (hl.run pins s σ H _ I h) fun v s1 ⟨x, H1, I1, r1, q1⟩ => ?_
  obtain ⟨a, e, q⟩ := q1
  subst e
  cases r1
  rcases q with ⟨⟨xs, hq⟩, q⟩ | ⟨⟨xs, hq⟩, q⟩
  · obtain ⟨its, rv, p, hz⟩ := I1.list hq
    refine wpAny_pyIter_list p.isList ?_
    refine ⟨s1.heap.objs.size, [s1.heap.objs.size], _, _, H1, rfl, I1.kept (t' := s1.toks) fun b o e => Heap.get?_push_of_some _ e, turn_list a _, ⟨_, Heap.get?_push_size _ rfl, rfl, rfl⟩, fun b hb => ?_, q⟩
    have e : b = s1.heap.objs.size := by simpa using hb
    subst e
    exact I1.fpOk (Nat.le_refl _) (I1.hok.fresh (Nat.le_refl _))
  · obtain ⟨its, rv, p, hz⟩ := I1.tuple hq
    refine wpAny_pyIter_tuple (show s1.heap.IsTuple a its.toArray from p) ?_
    refine ⟨s1.heap.objs.size, [s1.heap.objs.size], _, _, H1, rfl, I1.kept (t' := s1.toks) fun b o e => Heap.get?_push_of_some _ e, turn_tuple a _, ⟨_, Heap.get?_push_size _ rfl, rfl, rfl⟩, fun b hb => ?_, q⟩
    have e : b = s1.heap.objs.size := by simpa using hb
    subst e
    exact I1.fpOk (Nat.le_refl _) (I1.hok.fresh (Nat.le_refl _))
theorem pi_itW {l : Expr} {f : EnvW → SM Val} (hl : PE X l (TV X.K fa f)) : PI X tg l (TIW X.K fa tu fun ρ => sbind (f ρ) fun x => sbind (sask fun S => rdS S x) fun xs => sret (x, xs)) := PI.weak (pi_any hl) (by
  rintro σ H R ⟨F, m, ρ, S, w, xs, S', r0, e0, h0, k0⟩
  obtain ⟨x, S1, hx, h1⟩ := sbind_some h0
  obtain ⟨ys, S2, hy, h2⟩ := sbind_some h1
  obtain ⟨t1, t2⟩ := sask_some hy
  obtain ⟨t3, t4⟩ := sret_some h2
  simp only [Prod.mk.injEq] at t1 t2 t3 t4
  subst t2 t4
  obtain ⟨rfl, rfl⟩ := t3
  refine ⟨F, m, ρ, S, w, _, r0, e0, hx, fun F1 m1 H1 u1 st1 r1 v1 => ?_⟩
  obtain ⟨a, us, rfl, hr, hs⟩ := walk_seq r1 v1 t1
  rcases hs with ⟨hq, hs⟩ | ⟨hq, hs⟩
  · exact ⟨a, rfl, .inl ⟨⟨us, hq⟩, k0 F1 m1 H1 _ st1 r1 (wo_list r1 hr hs trivial)⟩⟩
  · exact ⟨a, rfl, .inr ⟨⟨us, hq⟩, k0 F1 m1 H1 _ st1 r1 (wo_tup r1 hr hs)⟩⟩)
theorem pi_rvdW {l : Expr} {f : EnvW → SM Val} {p pos : Pos} (hg : Gl X "reversed") (hm : X.mg "reversed" = none) (hl : PE X l (TV X.K fa f)) (hs : starEach [l] X.env = (false, eval l X.env) :: starEach [] X.env) :
    PI X tg (.Call (.Name "reversed" p) [l] [] pos) (TIW X.K fa tu fun ρ => sbind (f ρ) fun x => sbind (sask fun S => rdS S x) fun xs => sret (x, xs.reverse)) := PI.weak (pi_revA hg hm hl hs) (by
  rintro σ H R ⟨F, m, ρ, S, w, xs, S', r0, e0, h0, k0⟩
  obtain ⟨x, S1, hx, h1⟩ := sbind_some h0
  obtain ⟨ys, S2, hy, h2⟩ := sbind_some h1
  obtain ⟨t1, t2⟩ := sask_some hy
  obtain ⟨t3, t4⟩ := sret_some h2
  simp only [Prod.mk.injEq] at t1 t2 t3 t4
  subst t2 t4
  obtain ⟨rfl, rfl⟩ := t3
  refine ⟨F, m, ρ, S, w, _, r0, e0, hx, fun F1 m1 H1 u1 st1 r1 v1 => ?_⟩
  obtain ⟨a, us, rfl, hr, hs⟩ := walk_seq r1 v1 t1
  rcases hs with ⟨hq, hs⟩ | ⟨hq, hs⟩
  · exact ⟨a, us, rfl, .inl ⟨hq, k0 F1 m1 H1 _ st1 r1 (wo_revL r1 hr hs)⟩⟩
  · exact ⟨a, us, rfl, .inr ⟨hq, k0 F1 m1 H1 _ st1 r1 (wo_revT r1 hr hs)⟩⟩)
def fRng (f g : EnvW → SM Val) : EnvW → SM (Val × List Val) := fun ρ => sbind (f ρ) fun x => sbind (g ρ) fun y => match x, y with
    | .d (.int i), .d (.int j) => sif (small62 i && small62 j) (sret (.d .none, rangeV i j))
    | _, _ => sfail
theorem small_of {i : Int} (h : small62 i = true) : -(2 ^ 62) ≤ i ∧ i < 2 ^ 62 := of_decide_eq_true h
theorem pi_rng2W {a b : Expr} {f g : EnvW → SM Val} {p pos : Pos} (hg : Gl X "range") (hm : X.mg "range" = none) (ha : PE X a (TV X.K fa f)) (hb : PE X b (TV X.K fa g))
    (hs : starEach [a, b] X.env = (false, eval a X.env) :: starEach [b] X.env) (hs2 : starEach [b] X.env = (false, eval b X.env) :: starEach [] X.env) (hs0 : starEach [] X.env = []) :
    PI X tg (.Call (.Name "range" p) [a, b] [] pos) (TIW X.K fa tu (fRng f g)) := PI.weak (pi_range2 hg hm (pa_consW ha (pa_consW hb pa_nilW hs2) hs) (by rw [hs, hs2, hs0]) (by rw [hs2, hs0])) (by
  rintro σ H R ⟨F, m, ρ, S, w, xs, S', r0, e0, h0, k0⟩
  obtain ⟨x, S1, hx, h1⟩ := sbind_some h0
  obtain ⟨y, S2, hy, h2⟩ := sbind_some h1
  split at h2
  · rename_i i j
    obtain ⟨hb, h3⟩ := sif_some h2
    obtain ⟨t3, t4⟩ := sret_some h3
    simp only [Prod.mk.injEq] at t3 t4
    subst t4
    obtain ⟨rfl, rfl⟩ := t3
    rw [Bool.and_eq_true] at hb
    refine ⟨F, m, ρ, S, _, _, r0, e0, (sbind_eq hx).trans ((sbind_eq ((sbind_eq hy).trans ((sbind_eq rfl).trans rfl))).trans rfl), fun F1 m1 H1 u1 st1 r1 v1 => ?_⟩
    obtain ⟨u, w, rfl, q1, q2⟩ := reps2 v1
    have q1 : u = .int i := q1
    have q2 : w = .int j := q2
    subst q1 q2
    obtain ⟨s1, s2⟩ := small_of hb.1
    obtain ⟨s3, s4⟩ := small_of hb.2
    exact ⟨i, j, rfl, ⟨s1, s2, s3, s4⟩, k0 F1 m1 H1 _ st1 r1 (wo_rng r1 _ _)⟩
  · cases h2)
theorem pi_rng1W {b : Expr} {g : EnvW → SM Val} {p pos : Pos} (hg : Gl X "range") (hm : X.mg "range" = none) (hb : PE X b (TV X.K fa g))
    (hs2 : starEach [b] X.env = (false, eval b X.env) :: starEach [] X.env) (hs0 : starEach [] X.env = []) :
    PI X tg (.Call (.Name "range" p) [b] [] pos) (TIW X.K fa tu (fRng (fun _ => sret (.d (.int 0))) g)) := PI.weak (pi_range1 hg hm (pa_consW hb pa_nilW hs2) (by rw [hs2, hs0])) (by
  rintro σ H R ⟨F, m, ρ, S, w, xs, S', r0, e0, h0, k0⟩
  obtain ⟨x, S1, hx, h1⟩ := sbind_some h0
  obtain ⟨y, S2, hy, h2⟩ := sbind_some h1
  obtain ⟨u1, u2⟩ := sret_some hx
  simp only at u1 u2
  subst u1 u2
  obtain ⟨j, rfl⟩ : ∃ j, y = .d (.int j) := by
    cases y with
    | d y => cases y with
      | int j => exact ⟨j, rfl⟩
      | _ => cases h2
    | _ => cases h2
  have h2 : sif (small62 0 && small62 j) (sret (Val.d .none, rangeV 0 j)) S2 = some ((w, xs), S') := h2
  obtain ⟨hb, h3⟩ := sif_some h2
  obtain ⟨t3, t4⟩ := sret_some h3
  simp only [Prod.mk.injEq] at t3 t4
  subst t4
  obtain ⟨rfl, rfl⟩ := t3
  rw [Bool.and_eq_true] at hb
  refine ⟨F, m, ρ, S1, _, _, r0, e0, (sbind_eq hy).trans ((sbind_eq rfl).trans rfl), fun F1 m1 H1 u1 st1 r1 v1 => ?_⟩
  obtain ⟨u, rfl, q2⟩ := reps1 v1
  have q2 : u = .int j := q2
  subst q2
  obtain ⟨s3, s4⟩ := small_of hb.2
  refine ⟨j, rfl, s3, s4, k0 F1 m1 H1 _ st1 r1 ?_⟩
  have e1 : rangeV 0 j = (List.range j.toNat).map fun (i : Nat) => Val.d (.int (0 + (i : Int))) := by
    unfold rangeV
    rw [Int.sub_zero]
  rw [e1]
  exact wo_rng r1 _ _)
theorem pi_enuW {l : Expr} {f : EnvW → SM Val} {p pos tpos : Pos} {elts : List Expr} {kk : Nat} (hg : Gl X "enumerate") (hm : X.mg "enumerate" = none) (hl : PE X l (TV X.K fa f)) (hs : starEach [l] X.env = (false, eval l X.env) :: starEach [] X.env) (hs0 : starEach [] X.env = []) :
    PI X (.Tuple elts kk tpos) (.Call (.Name "enumerate" p) [l] [] pos) (TIW X.K fa true fun ρ => sbind (f ρ) fun x => sbind (sask fun S => (rdL S x).bind datsOf) fun ds => sret (x, enuW ds)) := PI.weak (pi_enum hg hm (pa_consW hl pa_nilW hs) (by rw [hs, hs0])) (by
  rintro σ H R ⟨F, m, ρ, S, w, xs, S', r0, e0, h0, k0⟩
  obtain ⟨x, S1, hx, h1⟩ := sbind_some h0
  obtain ⟨ds, S2, hy, h2⟩ := sbind_some h1
  obtain ⟨t1, t2⟩ := sask_some hy
  obtain ⟨t3, t4⟩ := sret_some h2
  simp only [Prod.mk.injEq] at t1 t2 t3 t4
  subst t2 t4
  obtain ⟨rfl, rfl⟩ := t3
  obtain ⟨zs, z1, z2⟩ := Option.bind_eq_some_iff.mp t1
  refine ⟨F, m, ρ, S, _, _, r0, e0, (sbind_eq hx).trans ((sbind_eq rfl).trans rfl), fun F1 m1 H1 u1 st1 r1 v1 => ?_⟩
  obtain ⟨u, rfl, v2⟩ := reps1 v1
  obtain ⟨a, us, rfl, hq, hr, hs⟩ := walk_list r1 v2 z1
  exact ⟨a, us, rfl, hq, k0 F1 m1 H1 _ st1 r1 (wo_enu r1 (hr.data z2) hs)⟩)
theorem nr_list {K : PySem.W.Frag} {F : FrZ} {m : List Addr} {S : Store} {H : Hp} (r : SR K fa F m S H) {w : Val} {u : V} {ds : List PyData} (hn : isR w = false) (h : RepV K fa F m H w u) (e : (rdL S w).bind datsOf = some ds) :
    ∃ a us, u = .ref a ∧ SqL K H a us ∧ Reps K F H ds us ∧ ∀ F2 m2 S2 H2, Later F m S H F2 m2 S2 H2 → SqL K H2 a us := by
  obtain ⟨zs, z1, z2⟩ := Option.bind_eq_some_iff.mp e
  obtain ⟨a, us, g1, g2, g3, g4⟩ := walk_list r h z1
  rw [lockAt_none hn] at g4
  exact ⟨a, us, g1, g2, g3.data z2, g4⟩
theorem pi_zipW {a b : Expr} {f g : EnvW → SM Val} {p pos tpos : Pos} {elts : List Expr} {kk : Nat} (hg : Gl X "zip") (hm : X.mg "zip" = none) (ha : PE X a (TV X.K fa f)) (hb : PE X b (TV X.K fa g))
    (hs : starEach [a, b] X.env = (false, eval a X.env) :: starEach [b] X.env) (hs2 : starEach [b] X.env = (false, eval b X.env) :: starEach [] X.env) (hpl : (backTo pos (starEach [b] X.env)).any (·.1) = false) :
    PI X (.Tuple elts kk tpos) (.Call (.Name "zip" p) [a, b] [] pos) (TIW X.K fa true fun ρ => sbind (f ρ) fun x => sbind (g ρ) fun y => sbind (sask (zipW x y)) fun zs => sif (!isR x && !isR y) (sret (.d .none, zs))) := PI.weak (pi_zipA hg hm (pa_consW ha (pa_consW hb pa_nilW hs2) hs) hs hpl) (by
  rintro σ H R ⟨F, m, ρ, S, w, xs, S', r0, e0, h0, k0⟩
  obtain ⟨x, S1, hx, h1⟩ := sbind_some h0
  obtain ⟨y, S2, hy, h2⟩ := sbind_some h1
  obtain ⟨zs, S3, hz, h3⟩ := sbind_some h2
  obtain ⟨hn, h4⟩ := sif_some h3
  obtain ⟨t1, t2⟩ := sask_some hz
  obtain ⟨t3, t4⟩ := sret_some h4
  simp only [Prod.mk.injEq] at t1 t2 t3 t4
  subst t2 t4
  obtain ⟨rfl, rfl⟩ := t3
  rw [Bool.and_eq_true, Bool.not_eq_true', Bool.not_eq_true'] at hn
  refine ⟨F, m, ρ, S, _, _, r0, e0, (sbind_eq hx).trans ((sbind_eq ((sbind_eq hy).trans ((sbind_eq rfl).trans rfl))).trans rfl), fun F1 m1 H1 u1 st1 r1 v1 => ?_⟩
  obtain ⟨u, w, rfl, q1, q2⟩ := reps2 v1
  unfold zipW at t1
  split at t1
  · rename_i ds es
    cases t1
    have g1 : Rep X.K F1 H1 (.tuple ds) u := q1
    have g2 : Rep X.K F1 H1 (.tuple es) w := q2
    unfold Rep at g1 g2
    obtain ⟨a1, us, rfl, t5, h5⟩ := g1
    obtain ⟨a2, ws, rfl, t6, h6⟩ := g2
    refine ⟨a1, a2, us, ws, rfl, .inr ⟨sqt_of t5, sqt_of t6, k0 F1 m1 H1 _ st1 r1 (wo_zip (L := false) r1 h5 h6 fun F2 m2 S2 H2 st => ⟨?_, ?_⟩)⟩⟩
    · rcases t5 with ⟨f, o, g, gd⟩ | k
      · exact .inl (.inr ⟨o, by rw [(st.keepL a1 f).2]; exact g⟩)
      · exact k.sq
    · rcases t6 with ⟨f, o, g, gd⟩ | k
      · exact .inl (.inr ⟨o, by rw [(st.keepL a2 f).2]; exact g⟩)
      · exact k.sq
  · split at t1
    · rename_i ds es hd he
      cases t1
      obtain ⟨a1, us, rfl, g2, g3, g4⟩ := nr_list r1 hn.1 q1 hd
      obtain ⟨a2, ws, rfl, g5, g6, g7⟩ := nr_list r1 hn.2 q2 he
      exact ⟨a1, a2, us, ws, rfl, .inl ⟨g2, g5, k0 F1 m1 H1 _ st1 r1 (wo_zip (L := true) r1 g3 g6 fun F2 m2 S2 H2 st => ⟨g4 _ _ _ _ st, g7 _ _ _ _ st⟩)⟩⟩
    · cases t1)
end
end Wf
set_option maxRecDepth 100000
set_option maxHeartbeats 4000000
/-! W14: targets; list comprehensions. -/
namespace Wf
open PySem PySem.Spec PyProof.Rows L2
section
variable {K : PySem.W.Frag} {fa : FaW} {F F' : FrZ} {m m' : List Addr} {S S' : Store} {H H' : Hp}
/-! ### targets -/
theorem ER.set {ρ : EnvW} {σ : L2.St} (h : ER K fa F m H ρ σ) (i : Nat) {v : Val} {u : V} (hv : RepV K fa F m H v u) : ER K fa F m H (ρ.set i (some v)) (σ.set i (some u)) := by
  refine ⟨by simpa using h.1, fun j w e => ?_⟩
  by_cases hj : i = j
  · subst hj
    have hl := get_len e
    rw [List.length_set] at hl
    rw [List.getElem?_set_self hl] at e
    cases e
    exact ⟨u, List.getElem?_set_self (Nat.lt_of_lt_of_le hl h.1), hv⟩
  · rw [List.getElem?_set_ne hj] at e
    obtain ⟨x, h1, h2⟩ := h.2 j w e
    exact ⟨x, by rw [List.getElem?_set_ne hj]; exact h1, h2⟩
theorem wipe_get {σ : L2.St} {i : Nat} : ∀ {vs : List Nat}, (wipe σ vs)[i]? = if i ∈ vs then (σ[i]?).map (fun _ => none) else σ[i]?
  | [] => by simp [wipe]
  | v :: vs => by
    unfold wipe
    by_cases hv : v = i
    · subst hv
      rw [if_pos List.mem_cons_self]
      by_cases hl : v < (wipe σ vs).length
      · rw [List.getElem?_set_self hl]
        rw [wipe_length] at hl
        rw [List.getElem?_eq_getElem hl]
        rfl
      · rw [List.getElem?_eq_none (by rw [List.length_set]; omega)]
        rw [wipe_length] at hl
        rw [List.getElem?_eq_none (by omega)]
        rfl
    · rw [List.getElem?_set_ne hv, wipe_get (vs := vs)]
      have : (i ∈ v :: vs) = (i ∈ vs) := by
        simp only [List.mem_cons, eq_iff_iff]
        exact ⟨fun h => h.elim (fun e => absurd e.symm hv) id, .inr⟩
      simp only [this]
theorem wipe_eq {σ σ1 : L2.St} {vs : List Nat} (h : ∀ i, i ∉ vs → σ1[i]? = σ[i]?) (hl : σ1.length = σ.length) : wipe σ1 vs = wipe σ vs := by
  apply List.ext_getElem?
  intro i
  rw [wipe_get, wipe_get]
  split
  · by_cases hi : i < σ.length
    · rw [List.getElem?_eq_getElem hi, List.getElem?_eq_getElem (by omega)]
      rfl
    · rw [List.getElem?_eq_none (by omega), List.getElem?_eq_none (by omega)]
  · rename_i hi
    exact h i hi
theorem wipeW_len (ρ : EnvW) : ∀ vs : List Nat, (wipeW ρ vs).length = ρ.length
  | [] => rfl
  | v :: vs => by unfold wipeW; rw [List.length_set, wipeW_len ρ vs]
theorem wipeW_some {ρ : EnvW} {i : Nat} {x : Val} : ∀ {vs : List Nat}, (wipeW ρ vs)[i]? = some (some x) → ρ[i]? = some (some x) ∧ i ∉ vs
  | [], h => ⟨h, by simp⟩
  | v :: vs, h => by
    unfold wipeW at h
    by_cases hi : v = i
    · subst hi
      by_cases hv : v < (wipeW ρ vs).length
      · rw [List.getElem?_set_self hv] at h; cases h
      · rw [List.getElem?_eq_none (by simpa using hv)] at h; cases h
    · rw [List.getElem?_set_ne hi] at h
      obtain ⟨h1, h2⟩ := wipeW_some h
      exact ⟨h1, by simp only [List.mem_cons, not_or]; exact ⟨fun e => hi e.symm, h2⟩⟩
theorem ER.wipe {ρ : EnvW} {σ : L2.St} (h : ER K fa F m H ρ σ) (vs : List Nat) : ER K fa F m H (wipeW ρ vs) (wipe σ vs) := by
  refine ⟨by rw [wipeW_len, wipe_length]; exact h.1, fun j w e => ?_⟩
  obtain ⟨e1, e2⟩ := wipeW_some e
  obtain ⟨u, g1, g2⟩ := h.2 j w e1
  refine ⟨u, ?_, g2⟩
  rw [wipe_get, if_neg e2]
  exact g1
theorem mask_key : ∀ (a b : EnvW), (Wf.mask a b).length ≤ b.length ∧ ∀ (i : Nat) (v : Val), (Wf.mask a b)[i]? = some (some v) → b[i]? = some (some v)
  | [], b => ⟨by simp [Wf.mask], fun i v e => by simp [Wf.mask] at e⟩
  | x :: a, [] => by cases x <;> exact ⟨by simp [Wf.mask], fun i v e => by simp [Wf.mask] at e⟩
  | none :: a, y :: b => by
    obtain ⟨i1, i2⟩ := mask_key a b
    refine ⟨by simpa [Wf.mask] using i1, fun i v e => ?_⟩
    cases i with
    | zero => simp [Wf.mask] at e
    | succ i => exact i2 i v (by simpa [Wf.mask] using e)
  | some x :: a, y :: b => by
    obtain ⟨i1, i2⟩ := mask_key a b
    refine ⟨by simpa [Wf.mask] using i1, fun i v e => ?_⟩
    cases i with
    | zero => simpa [Wf.mask] using e
    | succ i => exact i2 i v (by simpa [Wf.mask] using e)
theorem ER.mask {ρ0 ρ1 : EnvW} {σ : L2.St} (h : ER K fa F m H ρ1 σ) : ER K fa F m H (Wf.mask ρ0 ρ1) σ :=
  ⟨Nat.le_trans (mask_key ρ0 ρ1).1 h.1, fun i v e => h.2 i v ((mask_key ρ0 ρ1).2 i v e)⟩
def TGW (K : PySem.W.Frag) (fa : FaW) (tg : List Nat) (tu : Bool) : TG := fun u σ H Q => ∃ (F : FrZ) (m : List Addr) (S : Store) (ρ : EnvW) (v : Val) (ρ1 : EnvW), SR K fa F m S H ∧ ER K fa F m H ρ σ ∧ ItemOk K fa tu F m H v u ∧ bindT tg tu v ρ = some ρ1 ∧
  ∀ σ1, ER K fa F m H ρ1 σ1 → σ1.length = σ.length → (∀ i, i ∉ tg → σ1[i]? = σ[i]?) → Q σ1 H
def TGsW (K : PySem.W.Frag) (fa : FaW) (tg : List Nat) : TGs := fun us σ H Q => ∃ (F : FrZ) (m : List Addr) (ρ : EnvW) (vs : List Val) (ρ1 : EnvW), ER K fa F m H ρ σ ∧ RepVs K fa F m H vs us ∧ setAll ρ tg vs = some ρ1 ∧
  ∀ σ1, ER K fa F m H ρ1 σ1 → σ1.length = σ.length → (∀ i, i ∉ tg → σ1[i]? = σ[i]?) → Q σ1 H
theorem PG.weak {X : Cx} {e : Expr} {t t' : TG} (h : PG X e t) (w : ∀ u σ H Q, t' u σ H Q → t u σ H Q) : PG X e t' := ⟨fun pins s σ H v u Q I r q => h.run pins s σ H v u Q I r (w v σ H Q q)⟩
theorem PGs.weak {X : Cx} {e : List Expr} {t t' : TGs} (h : PGs X e t) (w : ∀ u σ H Q, t' u σ H Q → t u σ H Q) : PGs X e t' := ⟨fun pins s σ H v u Q I r q => h.run pins s σ H v u Q I r (w v σ H Q q)⟩
end
section
variable {X : Cx} {fa : FaW}
theorem pg_nameW {i : Nat} {x : Str} {pos : Pos} {tu : Bool} (hN : X.N.Nodup) (hi : X.N[i]? = some x) (hx : Loc X.env.scope x) (hf : X.fn x = true ∨ X.env.scope.names.lookup x = some .local) : PG X (.Name x pos) (TGW X.K fa [i] false) := PG.weak (pg_name hN hi hx hf) (by
  rintro u σ H Q ⟨F, m, S, ρ, v, ρ1, r, e, hi, hb, k⟩
  rcases hi with hi | ⟨z, _⟩
  · simp only [bindT, Option.some.injEq] at hb
    subst hb
    exact k _ (e.set i hi) (by simp) (fun j hj => List.getElem?_set_ne (by simpa using Ne.symm (by simpa using hj)))
  · cases z)
theorem pgs_nilW : PGs X [] (TGsW X.K fa []) := PGs.weak pgs_nil (by
  rintro us σ H Q ⟨F, m, ρ, vs, ρ1, e, hr, hb, k⟩
  cases vs with
  | nil =>
    cases hb
    have hr : us = [] := hr
    exact ⟨hr, k σ e rfl fun _ _ => rfl⟩
  | cons _ _ => cases hb)
theorem pgs_consW {i : Nat} {is : List Nat} {x : Str} {pos : Pos} {es : List Expr} (hN : X.N.Nodup) (hi : X.N[i]? = some x) (hx : Loc X.env.scope x) (hf : X.fn x = true ∨ X.env.scope.names.lookup x = some .local) (h2 : PGs X es (TGsW X.K fa is)) :
    PGs X (.Name x pos :: es) (TGsW X.K fa (i :: is)) := PGs.weak (pgs_cons (pg_name hN hi hx hf) h2) (by
  rintro us σ H Q ⟨F, m, ρ, vs, ρ1, e, hr, hb, k⟩
  cases vs with
  | nil => cases hb
  | cons v vs =>
    obtain ⟨u, ws, rfl, h1, h2⟩ := hr
    refine ⟨u, ws, rfl, F, m, ρ.set i (some v), vs, ρ1, e.set i h1, h2, hb, fun σ1 e1 hl ho => k σ1 e1 (by rw [hl, List.length_set]) fun j hj => ?_⟩
    simp only [List.mem_cons, not_or] at hj
    rw [ho j hj.2, List.getElem?_set_ne (Ne.symm hj.1)])
theorem bindT_tu {tg : List Nat} {v : Val} {ρ ρ1 : EnvW} (h : bindT tg true v ρ = some ρ1) : ∃ ds, v = .d (.tuple ds) ∧ setAll ρ tg (ds.map .d) = some ρ1 := by
  cases v with
  | d x => cases x with
    | tuple ds => exact ⟨ds, rfl, by simpa [bindT] using h⟩
    | _ => simp [bindT] at h
  | _ => simp [bindT] at h
theorem pg_tupW {es : List Expr} {k : Nat} {is : List Nat} {pos : Pos} (hc : X.calm = true) (h : PGs X es (TGsW X.K fa is)) (hl : es.length = is.length)
    (hn : (assignEach es X.env).length = es.length) (hst : (assignEach es X.env).findIdx? (·.1) = none) : PG X (.Tuple es k pos) (TGW X.K fa is true) := PG.weak (pg_tup hc h hn hst) (by
  rintro u σ H Q ⟨F, m, S, ρ, v, ρ1, r, e, hi, hb, k⟩
  have hsl : ∀ (is : List Nat) (ds : List Val) (ρ ρ1 : EnvW), setAll ρ is ds = some ρ1 → is.length = ds.length := by
    intro is
    induction is with
    | nil => intro ds ρ ρ1 h; cases ds with
      | nil => rfl
      | cons _ _ => cases h
    | cons i is ih => intro ds ρ ρ1 h; cases ds with
      | nil => cases h
      | cons d ds => simp [ih ds _ _ h]
  rcases hi with hi | ⟨_, T, ds, us, rfl, rfl, hT, hr⟩
  · obtain ⟨ds, rfl, hb⟩ := bindT_tu hb
    have hi : Rep X.K F H (.tuple ds) u := hi
    unfold Rep at hi
    obtain ⟨a, us, rfl, t1, hr⟩ := hi
    have := hsl _ _ _ _ hb
    rw [List.length_map] at this
    exact ⟨a, us, rfl, sqt_of t1, by rw [← hr.length, ← this, hl], F, m, ρ, _, ρ1, e, Reps.vals hr, hb, k⟩
  · have hb : setAll ρ is (ds.map .d) = some ρ1 := hb
    have := hsl _ _ _ _ hb
    rw [List.length_map] at this
    exact ⟨T, us, rfl, .inl (.inl hT), by rw [← hr.length, ← this, hl], F, m, ρ, _, ρ1, e, Reps.vals hr, hb, k⟩)
end
/-! ### locks -/
section
variable {K : PySem.W.Frag} {fa : FaW} {F F' F1 F2 : FrZ} {m m' m1 m2 : List Addr} {S S' S1 S2 : Store} {H H' H1 H2 : Hp}
theorem locked_some {α : Type} {w : Val} {f : SM α} {p : α × Store} (h : locked w f S = some p) : ∃ S2, f (lockAt S w) = some (p.1, S2) ∧ p.2 = unlockAt S S2 w := by
  unfold locked at h
  split at h
  · rename_i a S1 e
    cases h
    exact ⟨S1, e, rfl⟩
  · cases h
theorem unlock_SR {w : Val} (r : SR K fa F m S2 H) : SR K fa F m (unlockAt S S2 w) H := by
  unfold unlockAt
  split
  · split
    · rename_i h
      exact lock_cell r h
    · exact r
  · exact r
theorem unlock_Step {w : Val} (st : Step F m (lockAt S w) H F' m' S2 H') : Step F m S H F' m' (unlockAt S S2 w) H' := by
  refine ⟨st.sub, st.pre, st.fr, fun k a xs h1 h2 => ?_, st.new, st.mnew, st.up⟩
  have hl : (lockAt S w)[k]? = some (.lst true xs) := by
    unfold lockAt
    split
    · rename_i j
      split
      · rename_i ys hS
        by_cases hj : j = k
        · subst hj
          rw [h2] at hS
          cases hS
        · rw [List.getElem?_set_ne hj]
          exact h2
      · exact h2
    · exact h2
  obtain ⟨e1, e2⟩ := st.lk k a xs h1 hl
  refine ⟨e1, ?_⟩
  unfold unlockAt
  split
  · rename_i j
    split
    · rename_i ys zs hS hS2
      by_cases hj : j = k
      · subst hj
        rw [h2] at hS
        cases hS
      · rw [List.getElem?_set_ne hj]
        exact e2
    · exact e2
  · exact e2
/-! ### a list that grows, known to nobody -/
theorem SR.poke (r : SR K fa F m S H) {D : Addr} (hm : D ∉ m) (hF : ¬ F D) (o : HO) : SR K fa F m S (upd H D o) := by
  have hF' : ∀ b, F b → F b ∧ upd H D o b = H b := fun b h => ⟨h, upd_ne fun e => hF (by rw [← e]; exact h)⟩
  refine ⟨r.len, fun k a c h1 h2 => cell_mono hF' (List.prefix_refl _) id (upd_ne fun e => hm (by rw [← e]; exact mem_of_get h1)) (r.cell k a c h1 h2), r.inj, fun a h => by rw [(hF' a h).2]; exact r.live a h, fun a h => ?_, r.wf⟩
  rw [upd_ne fun e => hm (by rw [← e]; exact h)]
  exact r.mlive a h
theorem Step.poke (st : Step F m S H F' m' S' H') {D : Addr} (hD : H D = none) (ml : ∀ a ∈ m, H a ≠ none) (o : HO) : Step F m S H F' m' S' (upd H' D o) := by
  refine ⟨st.sub, st.pre, fun a h g => ?_, fun k a xs h1 h2 => ?_, st.new, st.mnew, fun a h => ?_⟩
  · rw [upd_ne fun e => h (by rw [e]; exact hD)]
    exact st.fr a h g
  · obtain ⟨e1, e2⟩ := st.lk k a xs h1 h2
    refine ⟨?_, e2⟩
    rw [upd_ne fun e => ml a (mem_of_get h1) (by rw [e]; exact hD)]
    exact e1
  · by_cases e : a = D
    · rw [e]; exact hD
    · rw [upd_ne e] at h
      exact st.up a h
theorem reps_poke {D : Addr} (hF : ¬ F D) {o : HO} {vs : List Val} {us : List V} (h : RepVs K fa F m H vs us) : RepVs K fa F m (upd H D o) vs us :=
  RepVs.mono (fun b hb => ⟨hb, upd_ne fun e => hF (by rw [← e]; exact hb)⟩) (List.prefix_refl _) _ _ h
/-- through a step the list stays as it is, and unknown -/
theorem Step.far (st : Step F m S H F' m' S' H') {D : Addr} (hD : H D ≠ none) (hm : D ∉ m) (hF : ¬ F D) : H' D = H D ∧ D ∉ m' ∧ ¬ F' D := by
  refine ⟨st.fr D hD fun h => absurd h hm, fun h => ?_, fun h => ?_⟩
  · rcases st.mnew D h with h | h
    · exact hm h
    · exact hD h
  · rcases st.new D h with h | h | h
    · exact hF h
    · exact hD h
    · exact hm h
/-- it is taken into the store -/
theorem adopt_cell (st : Step F m S H F' m' S' H') (r : SR K fa F' m' S' H') {D : Addr} {us : List V} {vs : List Val} (hD : H D = none) (hH : H' D = some (.lst us)) (hm : D ∉ m') (hF : ¬ F' D) (h : RepVs K fa F' m' H' vs us) (hw : ∀ j, Val.r j ∈ vs → j < S'.length) :
    Step F m S H F' (m' ++ [D]) (S' ++ [.lst false vs]) H' ∧ SR K fa F' (m' ++ [D]) (S' ++ [.lst false vs]) H' := by
  have pm : m' <+: m' ++ [D] := List.prefix_append _ _
  refine ⟨⟨st.sub, st.pre.trans pm, st.fr, fun k a xs h1 h2 => ?_, st.new, fun a h => ?_, st.up⟩, ⟨by simp [r.len], fun k a c h1 h2 => ?_, fun i j a h1 h2 => ?_, r.live, fun a h => ?_, fun k lk xs j h1 h2 => ?_⟩⟩
  · obtain ⟨e1, e2⟩ := st.lk k a xs h1 h2
    exact ⟨e1, by rw [List.getElem?_append_left (get_len e2)]; exact e2⟩
  · rcases List.mem_append.mp h with h | h
    · exact st.mnew a h
    · rw [List.mem_singleton.mp h]
      exact .inr hD
  · by_cases hk : k < m'.length
    · rw [List.getElem?_append_left hk] at h1
      rw [List.getElem?_append_left (by rw [← r.len]; exact hk)] at h2
      exact cell_mono (fun b hb => ⟨hb, rfl⟩) pm id rfl (r.cell k a c h1 h2)
    · have hk' : k = m'.length := by
        have := get_len h1
        simp at this
        omega
      subst hk'
      simp at h1
      subst h1
      rw [r.len] at h2
      simp at h2
      subst h2
      exact ⟨hF, us, hH, RepVs.mono (fun b hb => ⟨hb, rfl⟩) pm vs us h⟩
  · by_cases hi : i < m'.length <;> by_cases hj : j < m'.length
    · rw [List.getElem?_append_left hi] at h1
      rw [List.getElem?_append_left hj] at h2
      exact r.inj i j a h1 h2
    · rw [List.getElem?_append_left hi] at h1
      have hj' : j = m'.length := by
        have := get_len h2
        simp at this
        omega
      subst hj'
      simp at h2
      subst h2
      exact absurd (mem_of_get h1) hm
    · rw [List.getElem?_append_left hj] at h2
      have hi' : i = m'.length := by
        have := get_len h1
        simp at this
        omega
      subst hi'
      simp at h1
      subst h1
      exact absurd (mem_of_get h2) hm
    · have a1 := get_len h1
      have a2 := get_len h2
      simp at a1 a2
      omega
  · rcases List.mem_append.mp h with h | h
    · exact r.mlive a h
    · rw [List.mem_singleton.mp h, hH]; simp
  · by_cases hk : k < S'.length
    · rw [List.getElem?_append_left hk] at h1
      exact r.wf k lk xs j h1 h2
    · have hk' : k = S'.length := by
        have := get_len h1
        simp at this
        omega
      subst hk'
      simp at h1
      obtain ⟨_, rfl⟩ := h1
      exact hw j h2
/-- it never changes from now on -/
theorem adopt_frz (st : Step F m S H F' m' S' H') (r : SR K fa F' m' S' H') {D : Addr} {us : List V} {ds : List PyData} (hD : H D = none) (hH : H' D = some (.lst us)) (hm : D ∉ m') (h : Reps K F' H' ds us) :
    Step F m S H (fun a => F' a ∨ a = D) m' S' H' ∧ SR K fa (fun a => F' a ∨ a = D) m' S' H' ∧ Rep K (fun a => F' a ∨ a = D) H' (.list ds) (.ref D) := by
  refine ⟨⟨fun a h => .inl (st.sub a h), st.pre, st.fr, st.lk, fun a h => ?_, st.mnew, st.up⟩, ⟨r.len, fun k a c h1 h2 => ?_, r.inj, fun a h => ?_, r.mlive, r.wf⟩, ?_⟩
  · rcases h with h | h
    · exact st.new a h
    · rw [h]; exact .inr (.inl hD)
  · refine cell_mono (fun b hb => ⟨.inl hb, rfl⟩) (List.prefix_refl _) (fun q z => ?_) rfl (r.cell k a c h1 h2)
    rcases z with z | z
    · exact q z
    · exact hm (by rw [← z]; exact mem_of_get h1)
  · rcases h with h | h
    · exact r.live a h
    · rw [h, hH]; simp
  · unfold Rep
    exact ⟨D, us, rfl, .inr rfl, hH, Reps.mono (fun b hb => ⟨.inl hb, rfl⟩) ds us h⟩
/-- the end of a list that grew -/
theorem grown (st : Step F m S H F' m' S' H') (r : SR K fa F' m' S' H') {D : Addr} {us : List V} {vs : List Val} {kp : Bool} {v : Val} {S2 : Store} {Q : VK} (hD : H D = none) (hH : H' D = some (.lst us)) (hm : D ∉ m') (hF : ¬ F' D) (h : RepVs K fa F' m' H' vs us)
    (e : mkL kp vs S' = some (v, S2)) (k : Kont K fa F m S H v S2 Q) : Q (.ref D) H' := by
  unfold mkL at e
  split at e
  · unfold alloc at e
    split at e
    · cases e
      obtain ⟨a1, a2⟩ := adopt_cell st r hD hH hm hF h (lt_of_rep r h)
      exact k _ _ _ _ a1 a2 ⟨D, by rw [← r.len]; simp, rfl⟩
    · cases e
  · obtain ⟨ds, S3, e1, e2⟩ := sbind_some e
    obtain ⟨hz, e3⟩ := sif_some e2
    obtain ⟨e4, e5⟩ := sret_some e3
    simp only at e4 e5
    subst e4 e5
    obtain ⟨F1, st1, r1, g1⟩ := absorb_ok r h e1
    obtain ⟨_, hm1, _⟩ := st1.far (by rw [hH]; simp) hm hF
    obtain ⟨a1, a2, a3⟩ := adopt_frz (st.trans st1) r1 hD hH hm1 g1
    exact k _ _ _ _ a1 a2 a3
theorem absorb_len : ∀ {vs : List Val} {S : Store} {ds : List PyData} {S' : Store}, absorb vs S = some (ds, S') → ds.length = vs.length
  | [], S, ds, S', e => by
    obtain ⟨h1, h2⟩ := sret_some e
    simp only at h1
    subst h1
    rfl
  | v :: vs, S, ds, S', e => by
    obtain ⟨d, S1, e1, e2⟩ := sbind_some e
    obtain ⟨ds', S2, e3, e4⟩ := sbind_some e2
    obtain ⟨e5, e6⟩ := sret_some e4
    simp only at e5
    subst e5
    simp [absorb_len e3]
theorem mkL_len {kp : Bool} {vs : List Val} {v : Val} (e : mkL kp vs S = some (v, S')) : vs.length ≤ sizeLine := by
  unfold mkL at e
  split at e
  · unfold alloc at e
    split at e
    · assumption
    · cases e
  · obtain ⟨ds, S3, e1, e2⟩ := sbind_some e
    obtain ⟨hz, e3⟩ := sif_some e2
    rw [← absorb_len e1]
    exact of_decide_eq_true hz
end
/-! ### the comprehension -/
def turnC (own tg : List Nat) (tu : Bool) (ρ : EnvW) (fc fe : EnvW → SM Val) : Val → SM (List Val) := fun x => match bindT tg tu x (wipeW ρ own) with
  | some ρ1 => sbind (fc ρ1) fun t => sbind (sask (truth t)) fun k => if k = true then sbind (fe ρ1) fun y => sret [y] else sret []
  | none => sfail
def fComp (kp : Bool) (own tg : List Nat) (tu : Bool) (gi : EnvW → SM (Val × List Val)) (fc fe : EnvW → SM Val) : EnvW → SM Val := fun ρ => sbind (gi ρ) fun (w, xs) => sbind (locked w (mapF (turnC own tg tu ρ fc fe) xs)) (mkL kp)
theorem mapF_cons {f : Val → SM (List Val)} {x : Val} {r : List Val} {S : Store} {p : List Val × Store} (h : mapF f (x :: r) S = some p) : ∃ y S1 ys, f x S = some (y, S1) ∧ mapF f r S1 = some (ys, p.2) ∧ p.1 = y ++ ys := by
  obtain ⟨y, S1, h1, h2⟩ := sbind_some h
  obtain ⟨ys, S2, h3, h4⟩ := sbind_some h2
  obtain ⟨e1, e2⟩ := sret_some h4
  subst e2
  exact ⟨y, S1, ys, h1, h3, e1⟩
theorem drop_get {α : Type} {xs : List α} {i : Nat} (h : i < xs.length) : xs.drop i = xs[i] :: xs.drop (i + 1) := List.drop_eq_getElem_cons h
section
variable {fa : FaW}
theorem wipe_eq_own {K : PySem.W.Frag} {F : FrZ} {m : List Addr} {H : Hp} {own tg : List Nat} {σ σ1 : L2.St} {ρ1 : EnvW} (htg : ∀ i ∈ tg, i ∈ own) (e1 : ER K fa F m H ρ1 σ1) (hl : σ1.length = (wipe σ own).length) (ho : ∀ i, i ∉ tg → σ1[i]? = (wipe σ own)[i]?) : wipe σ1 own = wipe σ own := by
  have := wipe_eq (vs := own) (σ := wipe σ own) (σ1 := σ1) (fun i hi => ho i fun z => hi (htg i z)) hl
  rw [this]
  apply List.ext_getElem?
  intro i
  rw [wipe_get, wipe_get]
  split
  · cases σ[i]? <;> rfl
  · rfl
theorem turnC_some {own tg : List Nat} {tu : Bool} {ρ : EnvW} {fc fe : EnvW → SM Val} {x : Val} {S : Store} {p : List Val × Store} (h : turnC own tg tu ρ fc fe x S = some p) : ∃ ρ1 b S1, bindT tg tu x (wipeW ρ own) = some ρ1 ∧ tst fc ρ1 S = some (b, S1) ∧
    if b = true then ∃ y, fe ρ1 S1 = some (y, p.2) ∧ p.1 = [y] else p.1 = [] ∧ p.2 = S1 := by
  cases hb : bindT tg tu x (wipeW ρ own) with
  | none =>
    simp only [turnC, hb] at h
    cases h
  | some ρ1 =>
    simp only [turnC, hb] at h
    obtain ⟨t, S5, c1, c2⟩ := sbind_some h
    obtain ⟨b, S6, c3, c4⟩ := sbind_some c2
    refine ⟨ρ1, b, S6, rfl, (sbind_eq c1).trans c3, ?_⟩
    cases b with
    | true =>
      obtain ⟨z, S7, d1, d2⟩ := sbind_some c4
      obtain ⟨d3, d4⟩ := sret_some d2
      exact ⟨z, by rw [d4]; exact d1, d3⟩
    | false =>
      obtain ⟨d3, d4⟩ := sret_some c4
      exact ⟨d3, d4⟩
theorem lc_of {K : PySem.W.Frag} {kp : Bool} {own tg : List Nat} {tu : Bool} {gi : EnvW → SM (Val × List Val)} {fc fe : EnvW → SM Val} (htg : ∀ i ∈ tg, i ∈ own) {σ : L2.St} {H : Hp} {Q : VK} (h : TV K fa (fComp kp own tg tu gi fc fe) σ H Q) :
    tLc (TIW K fa tu gi) (TGW K fa tg tu) (TB K fa (tst fc)) (TV K fa fe) own σ H Q := by
  obtain ⟨F, m, ρ, S, v, S', r0, e0, h0, k0⟩ := h
  obtain ⟨⟨w, xs⟩, S1, h1, h2⟩ := sbind_some h0
  obtain ⟨ys, S3, h3, h4⟩ := sbind_some h2
  obtain ⟨S2, h5, h6⟩ := locked_some h3
  simp only at h5 h6
  have hlen := mkL_len h4
  refine ⟨F, m, ρ, S, w, xs, S1, r0, e0, h1, fun F1 m1 H1 J st1 r1 wo => fun D hD => ?_⟩
  have rl := lock_SR r1 w
  refine ⟨fun i n H2 => n = xs.length - i ∧ ∃ (F2 : FrZ) (m2 : List Addr) (Sx : Store) (acc : List Val) (us : List V) (ys' : List Val), Step F1 m1 (lockAt S1 w) H1 F2 m2 Sx H2 ∧ SR K fa F2 m2 Sx H2 ∧ D ∉ m2 ∧ ¬ F2 D ∧ H2 D = some (.lst us) ∧
    RepVs K fa F2 m2 H2 acc us ∧ mapF (turnC own tg tu ρ fc fe) (xs.drop i) Sx = some (ys', S2) ∧ acc ++ ys' = ys, ?_, ?_⟩
  · have nF : ¬ F1 D := fun z => r1.live D z hD
    have nm : D ∉ m1 := fun z => r1.mlive D z hD
    exact ⟨xs.length, by simp, F1, m1, _, [], [], ys, Step.refl.poke hD rl.mlive _, rl.poke nm nF _, nm, nF, upd_same, rfl, h5, rfl⟩
  · rintro i n H2 ⟨rfl, F2, m2, Sx, acc, us, ys', st2, r2, nm2, nF2, hH2, ha, hm, hy⟩
    by_cases hi : i < xs.length
    · refine .inr ⟨((wo F2 m2 Sx H2 (st2.later rl.live) r2 i).1 xs[i] (List.getElem?_eq_getElem hi)).1, fun H' => _, fun H' hN => ⟨xs.length - (i + 1), by omega, hN⟩, fun u H3 hyl => ?_⟩
      obtain ⟨F3, st3, r3, hit⟩ := ((wo F2 m2 Sx H2 (st2.later rl.live) r2 i).1 xs[i] (List.getElem?_eq_getElem hi)).2 u H3 hyl
      rw [drop_get hi] at hm
      obtain ⟨y, S4, ys2, b1, b2, b3⟩ := mapF_cons hm
      simp only at b2 b3
      subst b3
      obtain ⟨ρ1, b, S6, hb, c1, c4⟩ := turnC_some b1
      simp only at c4
      obtain ⟨hH3, nm3, nF3⟩ := st3.far (by rw [hH2]; simp) nm2 nF2
      rw [hH2] at hH3
      refine ⟨F3, m2, Sx, wipeW ρ own, xs[i], ρ1, r3, (st3.er r2 (st2.er rl (st1.er r0 e0))).wipe own, hit, hb, fun σ1 e1 hl ho => ⟨wipe_eq_own htg e1 hl ho, ?_⟩⟩
      refine ⟨F3, m2, ρ1, Sx, b, S6, r3, e1, c1, fun F4 m4 H4 st4 r4 => ?_⟩
      obtain ⟨hH4, nm4, nF4⟩ := st4.far (by rw [hH3]; simp) nm3 nF3
      rw [hH3] at hH4
      have ha4 := st4.reps r3 (st3.reps r2 ha)
      have st14 := st2.trans (st3.trans st4)
      cases b with
      | true =>
        obtain ⟨z, d1, d2⟩ := c4
        subst d2
        refine ⟨F4, m4, ρ1, S6, z, _, r4, st4.er r3 e1, d1, fun F5 m5 H5 u5 st5 r5 v5 => ?_⟩
        obtain ⟨hH5, nm5, nF5⟩ := st5.far (by rw [hH4]; simp) nm4 nF4
        rw [hH4] at hH5
        have ha5 := st5.reps r4 ha4
        have hl5 := ha5.length
        refine ⟨us, hH5, ?_, rfl, F5, m5, _, acc ++ [z], us ++ [u5], ys2, (st14.trans st5).poke hD rl.mlive _, r5.poke nm5 nF5 _, nm5, nF5, upd_same, reps_poke nF5 (ha5.append ⟨u5, [], rfl, v5, rfl⟩), b2, by simpa using hy⟩
        rw [← hy] at hlen
        simp at hlen
        omega
      | false =>
        obtain ⟨d1, d2⟩ := c4
        subst d1 d2
        exact ⟨rfl, F4, m4, _, acc, us, ys2, st14, r4, nm4, nF4, hH4, ha4, b2, by simpa using hy⟩
    · refine .inl ⟨(wo F2 m2 Sx H2 (st2.later rl.live) r2 i).2 (by omega), ?_⟩
      rw [List.drop_eq_nil_of_le (by omega)] at hm
      obtain ⟨q1, q2⟩ := sret_some hm
      simp only at q1 q2
      subst q1 q2
      rw [List.append_nil] at hy
      subst hy
      rw [h6] at h4
      exact grown (unlock_Step st2) (unlock_SR r2) hD hH2 nm2 nF2 ha h4 fun F' m' H' u st r q => k0 F' m' H' u (st1.trans st) r q
end
end Wf
set_option maxRecDepth 100000
set_option maxHeartbeats 4000000
/-! W15: statements. -/
namespace Wf
open PySem PySem.Spec PyProof.Rows L2
/-- what is wanted behind a statement's outcome -/
def OutOk (K : PySem.W.Frag) (fa : FaW) (D : Ends) (F : FrZ) (m : List Addr) (H : Hp) : Out → Prop
  | .nx ρ1 => ∀ σ1, ER K fa F m H ρ1 σ1 → D.nx σ1 H
  | .bk ρ1 => ∀ σ1, ER K fa F m H ρ1 σ1 → D.bk σ1 H
  | .ct ρ1 => ∀ σ1, ER K fa F m H ρ1 σ1 → D.ct σ1 H
  | .rt v => ∀ u, RepV K fa F m H v u → D.rt u H
def TSW (K : PySem.W.Frag) (fa : FaW) (f : EnvW → SM Out) : TS := fun D σ H => ∃ (F : FrZ) (m : List Addr) (ρ : EnvW) (S : Store) (o : Out) (S' : Store), SR K fa F m S H ∧ ER K fa F m H ρ σ ∧ f ρ S = some (o, S') ∧
  ∀ (F' : FrZ) (m' : List Addr) (H' : Hp), Step F m S H F' m' S' H' → SR K fa F' m' S' H' → OutOk K fa D F' m' H' o
theorem PS.weak {X : Cx} {st : Stmt} {t t' : TS} (h : PS X st t) (w : ∀ D σ H, t' D σ H → t D σ H) : PS X st t' := ⟨fun pins s σ H D I q => h.run pins s σ H D I (w D σ H q)⟩
theorem PSs.weak {X : Cx} {st : List Stmt} {t t' : TS} (h : PSs X st t) (w : ∀ D σ H, t' D σ H → t D σ H) : PSs X st t' := ⟨fun pins s σ H D I q => h.run pins s σ H D I (w D σ H q)⟩
section
variable {X : Cx} {fa : FaW} {f g h : EnvW → SM Val} {fs : EnvW → SM (List Val)} {A B C : EnvW → SM Out}
theorem pss_nilW : PSs X [] (TSW X.K fa fun ρ => sret (.nx ρ)) := PSs.weak pss_nil (by
  rintro D σ H ⟨F, m, ρ, S, o, S', r0, e0, h0, k0⟩
  obtain ⟨e1, e2⟩ := sret_some h0
  simp only at e1 e2
  subst e1 e2
  exact k0 F m H Step.refl r0 σ e0)
def fSeq (A B : EnvW → SM Out) : EnvW → SM Out := fun ρ => sbind (A ρ) fun o => match o with
  | .nx ρ1 => B ρ1
  | o => sret o
theorem pss_consW {st : Stmt} {rest : List Stmt} (h1 : PS X st (TSW X.K fa A)) (h2 : PSs X rest (TSW X.K fa B)) : PSs X (st :: rest) (TSW X.K fa (fSeq A B)) := PSs.weak (pss_cons h1 h2) (by
  rintro D σ H ⟨F, m, ρ, S, o, S', r0, e0, h0, k0⟩
  obtain ⟨o1, S1, ha, hb⟩ := sbind_some h0
  refine ⟨F, m, ρ, S, o1, S1, r0, e0, ha, fun F1 m1 H1 st1 r1 => ?_⟩
  cases o1 with
  | nx ρ1 => exact fun σ1 e1 => ⟨F1, m1, ρ1, S1, o, S', r1, e1, hb, fun F2 m2 H2 st2 r2 => k0 F2 m2 H2 (st1.trans st2) r2⟩
  | rt v =>
    obtain ⟨e1, e2⟩ := sret_some hb
    simp only at e1 e2
    subst e1 e2
    exact fun u hu => k0 F1 m1 H1 st1 r1 u hu
  | bk ρ1 =>
    obtain ⟨e1, e2⟩ := sret_some hb
    simp only at e1 e2
    subst e1 e2
    exact fun u hu => k0 F1 m1 H1 st1 r1 u hu
  | ct ρ1 =>
    obtain ⟨e1, e2⟩ := sret_some hb
    simp only at e1 e2
    subst e1 e2
    exact fun u hu => k0 F1 m1 H1 st1 r1 u hu)
theorem ps_passW {pos : Pos} : PS X (.Pass pos) (TSW X.K fa fun ρ => sret (.nx ρ)) := PS.weak ps_pass (by
  rintro D σ H ⟨F, m, ρ, S, o, S', r0, e0, h0, k0⟩
  obtain ⟨e1, e2⟩ := sret_some h0
  simp only at e1 e2
  subst e1 e2
  exact k0 F m H Step.refl r0 σ e0)
theorem ps_brkW {pos : Pos} : PS X (.Break pos) (TSW X.K fa fun ρ => sret (.bk ρ)) := PS.weak ps_break (by
  rintro D σ H ⟨F, m, ρ, S, o, S', r0, e0, h0, k0⟩
  obtain ⟨e1, e2⟩ := sret_some h0
  simp only at e1 e2
  subst e1 e2
  exact k0 F m H Step.refl r0 σ e0)
theorem ps_cntW {pos : Pos} : PS X (.Continue pos) (TSW X.K fa fun ρ => sret (.ct ρ)) := PS.weak ps_continue (by
  rintro D σ H ⟨F, m, ρ, S, o, S', r0, e0, h0, k0⟩
  obtain ⟨e1, e2⟩ := sret_some h0
  simp only at e1 e2
  subst e1 e2
  exact k0 F m H Step.refl r0 σ e0)
theorem ps_docW {x : Str} {j : Nat} {pos pos' : Pos} : PS X (.Expr (.Constant (.str x) j pos) pos') (TSW X.K fa fun ρ => sret (.nx ρ)) := PS.weak ps_doc (by
  rintro D σ H ⟨F, m, ρ, S, o, S', r0, e0, h0, k0⟩
  obtain ⟨e1, e2⟩ := sret_some h0
  simp only at e1 e2
  subst e1 e2
  exact k0 F m H Step.refl r0 σ e0)
theorem ps_exW {e : Expr} {pos : Pos} (he : PE X e (TV X.K fa f)) (hs : swapsWith e none pos.line X.env = pure false) : PS X (.Expr e pos) (TSW X.K fa fun ρ => sbind (f ρ) fun _ => sret (.nx ρ)) := PS.weak (ps_expr he hs) (by
  rintro D σ H ⟨F, m, ρ, S, o, S', r0, e0, h0, k0⟩
  obtain ⟨x, S1, ha, hb⟩ := sbind_some h0
  obtain ⟨e1, e2⟩ := sret_some hb
  simp only at e1 e2
  subst e1 e2
  exact ⟨F, m, ρ, S, x, _, r0, e0, ha, fun F1 m1 H1 u st1 r1 _ => k0 F1 m1 H1 st1 r1 σ (st1.er r0 e0)⟩)
theorem ps_retW {e : Expr} {pos : Pos} (he : PE X e (TV X.K fa f)) : PS X (.Return (some e) pos) (TSW X.K fa fun ρ => sbind (f ρ) fun v => sret (.rt v)) := PS.weak (ps_ret he) (by
  rintro D σ H ⟨F, m, ρ, S, o, S', r0, e0, h0, k0⟩
  obtain ⟨x, S1, ha, hb⟩ := sbind_some h0
  obtain ⟨e1, e2⟩ := sret_some hb
  simp only at e1 e2
  subst e1 e2
  exact ⟨F, m, ρ, S, x, _, r0, e0, ha, fun F1 m1 H1 u st1 r1 hu => k0 F1 m1 H1 st1 r1 u hu⟩)
theorem ps_retnW {pos : Pos} : PS X (.Return none pos) (TSW X.K fa fun _ => sret (.rt (.d .none))) := PS.weak ps_retN (by
  rintro D σ H ⟨F, m, ρ, S, o, S', r0, e0, h0, k0⟩
  obtain ⟨e1, e2⟩ := sret_some h0
  simp only at e1 e2
  subst e1 e2
  exact k0 F m H Step.refl r0 _ rfl)
theorem ps_ifW {c : Expr} {a b : List Stmt} {pos : Pos} (hc : PT X c (TB X.K fa (tst f))) (ha : PSs X a (TSW X.K fa A)) (hb : PSs X b (TSW X.K fa B)) : PS X (.If c a b pos) (TSW X.K fa fun ρ => sbind (f ρ) fun x => sbind (sask (truth x)) fun k => if k = true then A ρ else B ρ) := PS.weak (ps_if hc ha hb) (by
  rintro D σ H ⟨F, m, ρ, S, o, S', r0, e0, h0, k0⟩
  obtain ⟨x, S1, hx, h1⟩ := sbind_some h0
  obtain ⟨k, S2, hk, h2⟩ := sbind_some h1
  refine ⟨F, m, ρ, S, k, S2, r0, e0, (sbind_eq hx).trans hk, fun F1 m1 H1 st1 r1 => ?_⟩
  cases k with
  | true => exact ⟨F1, m1, ρ, S2, o, S', r1, st1.er r0 e0, h2, fun F2 m2 H2 st2 r2 => k0 F2 m2 H2 (st1.trans st2) r2⟩
  | false => exact ⟨F1, m1, ρ, S2, o, S', r1, st1.er r0 e0, h2, fun F2 m2 H2 st2 r2 => k0 F2 m2 H2 (st1.trans st2) r2⟩)
/-- name = e -/
theorem asg_of {K : PySem.W.Frag} {i : Nat} {D : Ends} {σ : L2.St} {H : Hp} (w : TSW K fa (fun ρ => sbind (f ρ) fun v => sret (.nx (ρ.set i (some v)))) D σ H) : tAsg (TV K fa f) (gName i) D σ H := by
  obtain ⟨F, m, ρ, S, o, S', r0, e0, h0, k0⟩ := w
  obtain ⟨x, S1, ha, hb⟩ := sbind_some h0
  obtain ⟨e1, e2⟩ := sret_some hb
  simp only at e1 e2
  subst e1 e2
  exact ⟨F, m, ρ, S, x, _, r0, e0, ha, fun F1 m1 H1 u st1 r1 hu => k0 F1 m1 H1 st1 r1 _ ((st1.er r0 e0).set i hu)⟩
theorem ps_setW {i : Nat} {x : Str} {e : Expr} {pos' pos : Pos} (hN : X.N.Nodup) (hi : X.N[i]? = some x) (hx : Loc X.env.scope x) (he : PE X e (TV X.K fa f)) (hs : swapsWith e (some (.Name x pos')) pos.line X.env = pure false) (hf : X.fn x = true ∨ X.env.scope.names.lookup x = some .local) :
    PS X (.Assign [.Name x pos'] e pos) (TSW X.K fa fun ρ => sbind (f ρ) fun v => sret (.nx (ρ.set i (some v)))) := PS.weak (ps_set hN hi hx he hs hf) fun _ _ _ => asg_of
/-- (a, b) = e -/
theorem ps_tsetW {tg e : Expr} {is : List Nat} {pos : Pos} (he : PE X e (TV X.K fa f)) (hg : PG X tg (TGW X.K fa is true)) (hs : swapsWithSole [tg] e pos.line X.env = pure false) (hw : swappedStores [tg] e X.env = pure none)
    (h1 : (assignEach [tg] X.env).map (·.2) = [assign tg X.env]) : PS X (.Assign [tg] e pos) (TSW X.K fa fun ρ => sbind (f ρ) fun v => match bindT is true v ρ with
    | some ρ1 => sret (.nx ρ1)
    | none => sfail) := PS.weak (ps_asg he hg hs hw h1) (by
  rintro D σ H ⟨F, m, ρ, S, o, S', r0, e0, h0, k0⟩
  obtain ⟨x, S1, ha, hb⟩ := sbind_some h0
  cases hbt : bindT is true x ρ with
  | none =>
    simp only [hbt] at hb
    cases hb
  | some ρ1 =>
    simp only [hbt] at hb
    obtain ⟨e1, e2⟩ := sret_some hb
    simp only at e1 e2
    subst e1 e2
    exact ⟨F, m, ρ, S, x, _, r0, e0, ha, fun F1 m1 H1 u st1 r1 hu => ⟨F1, m1, _, ρ, x, ρ1, r1, st1.er r0 e0, .inl hu, hbt, fun σ1 e1 _ _ => k0 F1 m1 H1 st1 r1 σ1 e1⟩⟩)
/-- a, b = x, y -/
def fPar (is : List Nat) (fs : EnvW → SM (List Val)) : EnvW → SM Out := fun ρ => sbind (fs ρ) fun vs => match setAll ρ is vs with
    | some ρ1 => sret (.nx ρ1)
    | none => sfail
theorem fPar_some {is : List Nat} {ρ : EnvW} {S : Store} {o : Out} {S' : Store} (h : fPar is fs ρ S = some (o, S')) : ∃ vs ρ1, fs ρ S = some (vs, S') ∧ setAll ρ is vs = some ρ1 ∧ o = .nx ρ1 := by
  obtain ⟨x, S1, ha, hb⟩ := sbind_some h
  cases hbt : setAll ρ is x with
  | none =>
    simp only [hbt] at hb
    cases hb
  | some ρ1 =>
    simp only [hbt] at hb
    obtain ⟨e1, e2⟩ := sret_some hb
    simp only at e1 e2
    subst e1 e2
    exact ⟨x, ρ1, ha, hbt, rfl⟩
theorem ps_par2W {i j : Nat} {x y : Str} {a b : Expr} {px py pt pos : Pos} {kt k2 : Nat} {pt2 : Pos} (hc : X.calm = true) (hN : X.N.Nodup) (hi : X.N[i]? = some x) (hj : X.N[j]? = some y) (hij : i ≠ j)
    (hx : X.env.scope.names.lookup x = some .local) (hy : X.env.scope.names.lookup y = some .local) (ha : PA X [a, b] (TVs X.K fa fs))
    (hw : swappedStores [.Tuple [.Name x px, .Name y py] kt pt] (.Tuple [a, b] k2 pt2) X.env = pure (some [x, y]))
    (hs : swapsWithSole [.Tuple [.Name x px, .Name y py] kt pt] (.Tuple [a, b] k2 pt2) pos.line X.env = pure false) :
    PS X (.Assign [.Tuple [.Name x px, .Name y py] kt pt] (.Tuple [a, b] k2 pt2) pos) (TSW X.K fa (fPar [i, j] fs)) := PS.weak (ps_par hc hN hi hj hij hx hy ha hw hs) (by
  rintro D σ H ⟨F, m, ρ, S, o, S', r0, e0, h0, k0⟩
  obtain ⟨vs, ρ1, h1, h2, rfl⟩ := fPar_some h0
  match vs, h2 with
  | [v, w], h2 =>
    cases h2
    refine ⟨F, m, ρ, S, _, _, r0, e0, h1, fun F1 m1 H1 us st1 r1 hu => ?_⟩
    obtain ⟨u1, u2, rfl, q1, q2⟩ := reps2 hu
    exact ⟨u1, u2, rfl, k0 F1 m1 H1 st1 r1 _ (((st1.er r0 e0).set i q1).set j q2)⟩)
theorem reps3 {K : PySem.W.Frag} {F : FrZ} {m : List Addr} {H : Hp} {x y z : Val} {us : List V} (h : RepVs K fa F m H [x, y, z] us) : ∃ u w t, us = [u, w, t] ∧ RepV K fa F m H x u ∧ RepV K fa F m H y w ∧ RepV K fa F m H z t := by
  obtain ⟨u, r, rfl, h1, h2⟩ := h
  obtain ⟨w, t, rfl, h3, h4⟩ := reps2 h2
  exact ⟨u, w, t, rfl, h1, h3, h4⟩
theorem ps_par3W {i j l : Nat} {x y z : Str} {a b c : Expr} {px py pz pt pos : Pos} {kt k2 : Nat} {pt2 : Pos} (hc : X.calm = true) (hN : X.N.Nodup) (hi : X.N[i]? = some x) (hj : X.N[j]? = some y) (hl : X.N[l]? = some z) (hij : i ≠ j) (hil : i ≠ l) (hjl : j ≠ l)
    (hx : X.env.scope.names.lookup x = some .local) (hy : X.env.scope.names.lookup y = some .local) (hz : X.env.scope.names.lookup z = some .local) (ha : PA X [a, b, c] (TVs X.K fa fs))
    (hw : swappedStores [.Tuple [.Name x px, .Name y py, .Name z pz] kt pt] (.Tuple [a, b, c] k2 pt2) X.env = pure (some [x, y, z]))
    (hs : swapsWithSole [.Tuple [.Name x px, .Name y py, .Name z pz] kt pt] (.Tuple [a, b, c] k2 pt2) pos.line X.env = pure false) :
    PS X (.Assign [.Tuple [.Name x px, .Name y py, .Name z pz] kt pt] (.Tuple [a, b, c] k2 pt2) pos) (TSW X.K fa (fPar [i, j, l] fs)) := PS.weak (ps_par3 hc hN hi hj hl hij hil hjl hx hy hz ha hw hs) (by
  rintro D σ H ⟨F, m, ρ, S, o, S', r0, e0, h0, k0⟩
  obtain ⟨vs, ρ1, h1, h2, rfl⟩ := fPar_some h0
  match vs, h2 with
  | [v, w, t], h2 =>
    cases h2
    refine ⟨F, m, ρ, S, _, _, r0, e0, h1, fun F1 m1 H1 us st1 r1 hu => ?_⟩
    obtain ⟨u1, u2, u3, rfl, q1, q2, q3⟩ := reps3 hu
    exact ⟨u1, u2, u3, rfl, k0 F1 m1 H1 st1 r1 _ ((((st1.er r0 e0).set i q1).set j q2).set l q3)⟩)
/-- a, b = x, y where a pair is laid -/
theorem ps_parTW {ts es : List Expr} {is : List Nat} {kt k2 : Nat} {pt pt2 pos : Pos} (hc : X.calm = true) (ha : PA X es (TVs X.K fa fs)) (hg : PGs X ts (TGsW X.K fa is)) (hl : ts.length = is.length) (hn : (assignEach ts X.env).length = ts.length) (hst : (assignEach ts X.env).findIdx? (·.1) = none)
    (hs : swapsWithSole [.Tuple ts kt pt] (.Tuple es k2 pt2) pos.line X.env = pure false) (hw : swappedStores [.Tuple ts kt pt] (.Tuple es k2 pt2) X.env = pure none) (hz : es.length ≤ 1000) (hes : ∀ ρ S vs S', fs ρ S = some (vs, S') → vs.length = es.length)
    (h1 : (assignEach [.Tuple ts kt pt] X.env).map (·.2) = [assign (.Tuple ts kt pt) X.env]) : PS X (.Assign [.Tuple ts kt pt] (.Tuple es k2 pt2) pos) (TSW X.K fa (fPar is fs)) := PS.weak (ps_asg (pe_tupF ha) (pg_tup hc hg hn hst) hs hw h1) (by
  rintro D σ H ⟨F, m, ρ, S, o, S', r0, e0, h0, k0⟩
  obtain ⟨vs, ρ1, h2, h3, rfl⟩ := fPar_some h0
  refine ⟨F, m, ρ, S, vs, _, r0, e0, h2, fun F1 m1 H1 us st1 r1 hu => ⟨?_, fun p o hp ho => ?_⟩⟩
  · rw [← hu.length, hes _ _ _ _ h2]
    have : (1000 : Nat) ≤ sizeLine := by decide
    omega
  · obtain ⟨a1, a2⟩ := fresh_frz r1 hp (HO.frz o (.tup us))
    have hsl : ∀ (is : List Nat) (ds : List Val) (ρ ρ1 : EnvW), setAll ρ is ds = some ρ1 → is.length = ds.length := by
      intro is
      induction is with
      | nil => intro ds ρ ρ1 h; cases ds with
        | nil => rfl
        | cons _ _ => cases h
      | cons i is ih => intro ds ρ ρ1 h; cases ds with
        | nil => cases h
        | cons d ds => simp [ih ds _ _ h]
    refine ⟨p, us, rfl, .inl (.inr ⟨o, upd_same⟩), by rw [← hu.length, ← hsl _ _ _ _ h3, hl], _, m1, ρ, vs, ρ1, (st1.trans a1).er r0 e0, a1.reps r1 hu, h3, fun σ1 e1 _ _ => ?_⟩
    exact k0 _ _ _ (st1.trans a1) a2 σ1 e1)
/-! ### o[i] = v -/
theorem put_ok {K : PySem.W.Frag} {F : FrZ} {m : List Addr} {S S' : Store} {H : Hp} {o i v : Val} {uo ui uv : V} {Q : Hp → Prop} (r : SR K fa F m S H) (ho : RepV K fa F m H o uo) (hi : RepV K fa F m H i ui) (hv : RepV K fa F m H v uv) (e : putS o i v S = some ((), S'))
    (k : ∀ (F' : FrZ) (m' : List Addr) (H' : Hp), Step F m S H F' m' S' H' → SR K fa F' m' S' H' → Q H') : rSetL uo ui uv H Q := by
  obtain ⟨d, S1, e1, e2⟩ := sbind_some e
  obtain ⟨F1, st1, r1, g1⟩ := absorb1_ok r hv e1
  split at e2
  · rename_i k0 xs j hl
    split at e2
    · rename_i l hj
      cases e2
      obtain ⟨a, ws, rfl, a1, a2, a3, a4⟩ := live_ok r1 (st1.rep r ho) hl
      have hi : ui = .int j := hi
      subst hi
      obtain ⟨b1, b2⟩ := write_cell (ys := xs.set l (.d d)) (us := ws.set l uv) r1 a1 a2 (a4.set l g1) (fun q hq => by
        rcases List.mem_or_eq_of_mem_set hq with h | h
        · exact h
        · cases h)
      exact ⟨a, ws, j, l, rfl, rfl, a3, by rw [← a4.length]; exact hj, k _ _ _ (st1.trans b1) b2⟩
    · cases e2
  · cases e2
theorem ps_subW {o i e : Expr} {tpos pos : Pos} (ho : PE X o (TV X.K fa g)) (hi : PE X i (TV X.K fa h)) (he : PE X e (TV X.K fa f)) (hs : swapsWithSole [.Subscript o i tpos] e pos.line X.env = pure false) (hw : swappedStores [.Subscript o i tpos] e X.env = pure none)
    (h1 : (assignEach [.Subscript o i tpos] X.env).map (·.2) = [assign (.Subscript o i tpos) X.env])
    (ha : ∀ v, assign (.Subscript o i tpos) X.env v = (do
      let ov ← holding [v] (eval o X.env)
      let iv ← holding [v, ov] (eval i X.env)
      standAt tpos
      holding [v, ov, iv] (setItem ov iv v)
      release [v, ov, iv] [])) :
    PS X (.Assign [.Subscript o i tpos] e pos) (TSW X.K fa fun ρ => sbind (f ρ) fun v => sbind (g ρ) fun x => sbind (h ρ) fun y => sbind (putS x y v) fun _ => sret (.nx ρ)) := PS.weak (ps_asg he (pg_sub ho hi set_list ha) hs hw h1) (by
  rintro D σ H ⟨F, m, ρ, S, w, S', r0, e0, h0, k0⟩
  obtain ⟨v, S1, hv, h1⟩ := sbind_some h0
  obtain ⟨x, S2, hx, h2⟩ := sbind_some h1
  obtain ⟨y, S3, hy, h3⟩ := sbind_some h2
  obtain ⟨⟨⟩, S4, hp, h4⟩ := sbind_some h3
  obtain ⟨e1, e2⟩ := sret_some h4
  simp only at e1 e2
  subst e1 e2
  refine ⟨F, m, ρ, S, v, S1, r0, e0, hv, fun F1 m1 H1 u1 st1 r1 v1 => ?_⟩
  refine ⟨F1, m1, ρ, S1, x, S2, r1, st1.er r0 e0, hx, fun F2 m2 H2 u2 st2 r2 v2 => ?_⟩
  refine ⟨F2, m2, ρ, S2, y, S3, r2, st2.er r1 (st1.er r0 e0), hy, fun F3 m3 H3 u3 st3 r3 v3 => ?_⟩
  refine put_ok r3 (st3.rep r2 v2) v3 (st3.rep r2 (st2.rep r1 v1)) hp fun F4 m4 H4 st4 r4 => ?_
  have st := st1.trans (st2.trans (st3.trans st4))
  exact k0 F4 m4 H4 st r4 σ (st.er r0 e0))
/-! several at once -/
def TGsP (K : PySem.W.Frag) (fa : FaW) (p : EnvW → List Val → SM Unit) : TGs := fun us σ H Q => ∃ (F : FrZ) (m : List Addr) (ρ : EnvW) (S : Store) (vs : List Val) (S' : Store), SR K fa F m S H ∧ ER K fa F m H ρ σ ∧ RepVs K fa F m H vs us ∧ p ρ vs S = some ((), S') ∧
  ∀ (F' : FrZ) (m' : List Addr) (H' : Hp), Step F m S H F' m' S' H' → SR K fa F' m' S' H' → Q σ H'
theorem pgs_nilP {p : EnvW → List Val → SM Unit} (hp : ∀ ρ vs S S', p ρ vs S = some ((), S') → vs = [] ∧ S' = S) : PGs X [] (TGsP X.K fa p) := PGs.weak pgs_nil (by
  rintro us σ H Q ⟨F, m, ρ, S, vs, S', r, e, hr, hb, k⟩
  obtain ⟨rfl, rfl⟩ := hp _ _ _ _ hb
  have hr : us = [] := hr
  exact ⟨hr, k F m H Step.refl r⟩)
theorem pgs_consP {o i : Expr} {tpos : Pos} {es : List Expr} {p q : EnvW → List Val → SM Unit} (ho : PE X o (TV X.K fa g)) (hi : PE X i (TV X.K fa h)) (h2 : PGs X es (TGsP X.K fa q))
    (ha : ∀ v, assign (.Subscript o i tpos) X.env v = (do
      let ov ← holding [v] (eval o X.env)
      let iv ← holding [v, ov] (eval i X.env)
      standAt tpos
      holding [v, ov, iv] (setItem ov iv v)
      release [v, ov, iv] []))
    (hs : (assignEach (.Subscript o i tpos :: es) X.env).map (·.2) = assign (.Subscript o i tpos) X.env :: (assignEach es X.env).map (·.2))
    (hp : ∀ ρ vs S S', p ρ vs S = some ((), S') → ∃ v vr, vs = v :: vr ∧ (sbind (g ρ) fun x => sbind (h ρ) fun y => sbind (putS x y v) fun _ => q ρ vr) S = some ((), S')) : PGs X (.Subscript o i tpos :: es) (TGsP X.K fa p) := PGs.weak (pgs_cons (pg_sub ho hi set_list ha) h2 hs) (by
  rintro us σ H Q ⟨F, m, ρ, S, vs, S', r0, e0, hr, hb, k0⟩
  obtain ⟨v, vr, rfl, h1⟩ := hp _ _ _ _ hb
  obtain ⟨u, ur, rfl, v1, vv⟩ := hr
  obtain ⟨x, S2, hx, h2⟩ := sbind_some h1
  obtain ⟨y, S3, hy, h3⟩ := sbind_some h2
  obtain ⟨⟨⟩, S4, hpp, h4⟩ := sbind_some h3
  refine ⟨u, ur, rfl, F, m, ρ, S, x, S2, r0, e0, hx, fun F2 m2 H2 u2 st2 r2 v2 => ?_⟩
  refine ⟨F2, m2, ρ, S2, y, S3, r2, st2.er r0 e0, hy, fun F3 m3 H3 u3 st3 r3 v3 => ?_⟩
  refine put_ok r3 (st3.rep r2 v2) v3 (st3.rep r2 (st2.rep r0 v1)) hpp fun F4 m4 H4 st4 r4 => ?_
  have st := st2.trans (st3.trans st4)
  exact ⟨F4, m4, ρ, S4, vr, S', r4, st.er r0 e0, st.reps r0 vv, h4, fun F5 m5 H5 st5 r5 => k0 F5 m5 H5 (st.trans st5) r5⟩)
theorem ps_parsubW {ts es : List Expr} {p : EnvW → List Val → SM Unit} {kt k2 : Nat} {pt pt2 pos : Pos} (hc : X.calm = true) (ha : PA X es (TVs X.K fa fs)) (hg : PGs X ts (TGsP X.K fa p)) (hl : ∀ ρ vs S S', p ρ vs S = some ((), S') → vs.length = ts.length)
    (hs : swapsWithSole [.Tuple ts kt pt] (.Tuple es k2 pt2) pos.line X.env = pure false) (hw : swappedStores [.Tuple ts kt pt] (.Tuple es k2 pt2) X.env = pure none)
    (h1 : (assignEach [.Tuple ts kt pt] X.env).map (·.2) = [assign (.Tuple ts kt pt) X.env]) (hn : (assignEach ts X.env).length = ts.length) (hst : (assignEach ts X.env).findIdx? (·.1) = none) :
    PS X (.Assign [.Tuple ts kt pt] (.Tuple es k2 pt2) pos) (TSW X.K fa fun ρ => sbind (sbind (fs ρ) mkT) fun v => match v with
    | .d (.tuple ds) => sbind (p ρ (ds.map .d)) fun _ => sret (.nx ρ)
    | _ => sfail) := PS.weak (ps_asg (pe_tupW ha) (pg_tup hc hg hn hst) hs hw h1) (by
  rintro D σ H ⟨F, m, ρ, S, w, S', r0, e0, h0, k0⟩
  obtain ⟨v, S1, hv, h1⟩ := sbind_some h0
  split at h1
  · rename_i ds
    obtain ⟨⟨⟩, S2, hp, h2⟩ := sbind_some h1
    obtain ⟨e1, e2⟩ := sret_some h2
    simp only at e1 e2
    subst e1 e2
    refine ⟨F, m, ρ, S, _, S1, r0, e0, hv, fun F1 m1 H1 u1 st1 r1 v1 => ?_⟩
    have g1 : Rep X.K F1 H1 (.tuple ds) u1 := v1
    unfold Rep at g1
    obtain ⟨a, us, rfl, t1, hr⟩ := g1
    have := hl _ _ _ _ hp
    rw [List.length_map] at this
    exact ⟨a, us, rfl, sqt_of t1, by rw [← hr.length, this], F1, m1, ρ, S1, _, _, r1, st1.er r0 e0, Reps.vals hr, hp, fun F2 m2 H2 st2 r2 => k0 F2 m2 H2 (st1.trans st2) r2 σ ((st1.trans st2).er r0 e0)⟩
  · cases h1)
/-! ### name += e -/
theorem pip_add : PIp X .Add (fun x y H Q => ∃ i j, x = .int i ∧ y = .int j ∧ Q (.int (i + j)) H) := iop_add
theorem ps_augW {i : Nat} {x : Str} {e : Expr} {pos' pos : Pos} (hN : X.N.Nodup) (hi : X.N[i]? = some x) (hx : Loc X.env.scope x) (he : PE X e (TV X.K fa f)) (hf : X.fn x = true ∨ X.env.scope.names.lookup x = some .local) :
    PS X (.AugAssign (.Name x pos') .Add e pos) (TSW X.K fa fun ρ => sbind (sask fun _ => ρ.getD i none) fun x => sbind (f ρ) fun y => match x, y with
    | .d (.int a), .d (.int b) => sret (.nx (ρ.set i (some (.d (.int (a + b))))))
    | _, _ => sfail) := PS.weak (ps_aug hN hi hx he pip_add hf) (by
  rintro D σ H ⟨F, m, ρ, S, w, S', r0, e0, h0, k0⟩
  obtain ⟨v, S1, hv, h1⟩ := sbind_some h0
  obtain ⟨y, S2, hy, h2⟩ := sbind_some h1
  obtain ⟨e1, e2⟩ := sask_some hv
  simp only at e1 e2
  subst e2
  split at h2
  · rename_i a b
    obtain ⟨e3, e4⟩ := sret_some h2
    simp only at e3 e4
    subst e3 e4
    have hg : ρ[i]? = some (some (.d (.int a))) := by
      rw [List.getD_eq_getElem?_getD] at e1
      cases hi : ρ[i]? with
      | none => rw [hi] at e1; cases e1
      | some z => rw [hi] at e1; simp only [Option.getD_some] at e1; rw [e1]
    obtain ⟨u, g1, g2⟩ := e0.2 i _ hg
    have g2 : u = .int a := g2
    subst g2
    refine ⟨.int a, g1, F, m, ρ, _, _, _, r0, e0, hy, fun F1 m1 H1 u1 st1 r1 v1 => ?_⟩
    have v1 : u1 = .int b := v1
    subst v1
    exact ⟨a, b, rfl, rfl, k0 F1 m1 H1 st1 r1 _ ((st1.er r0 e0).set i (rep_int _))⟩
  · cases h2)
/-! ### loops -/
def fFor (gi : EnvW → SM (Val × List Val)) (tg : List Nat) (tu : Bool) (A : EnvW → SM Out) : EnvW → SM Out := fun ρ => sbind (gi ρ) fun (w, xs) => locked w (forW ρ (fun x ρ => match bindT tg tu x ρ with
    | some ρ1 => A ρ1
    | none => sfail) xs ρ)
end
end Wf
set_option maxRecDepth 100000
set_option maxHeartbeats 4000000
/-! W16: loops. -/
namespace Wf
open PySem PySem.Spec PyProof.Rows L2
def bodyF (tg : List Nat) (tu : Bool) (A : EnvW → SM Out) : Val → EnvW → SM Out := fun x ρ => match bindT tg tu x ρ with
    | some ρ1 => A ρ1
    | none => sfail
theorem bodyF_some {tg : List Nat} {tu : Bool} {A : EnvW → SM Out} {x : Val} {ρ : EnvW} {S : Store} {p : Out × Store} (h : bodyF tg tu A x ρ S = some p) : ∃ ρ1, bindT tg tu x ρ = some ρ1 ∧ A ρ1 S = some p := by
  cases hb : bindT tg tu x ρ with
  | none =>
    simp only [bodyF, hb] at h
    cases h
  | some ρ1 =>
    simp only [bodyF, hb] at h
    exact ⟨ρ1, rfl, h⟩
section
variable {X : Cx} {fa : FaW} {f g h : EnvW → SM Val} {fs : EnvW → SM (List Val)} {A B C : EnvW → SM Out}
theorem for_of {K : PySem.W.Frag} {gi : EnvW → SM (Val × List Val)} {tg : List Nat} {tu : Bool} {D : Ends} {σ : L2.St} {H : Hp} (w : TSW K fa (fFor gi tg tu A) D σ H) : tFor (TIW K fa tu gi) (TGW K fa tg tu) (TSW K fa A) D σ H := by
  obtain ⟨F, m, ρ, S, o, S', r0, e0, h0, k0⟩ := w
  obtain ⟨⟨w, xs⟩, S1, h1, h2⟩ := sbind_some h0
  obtain ⟨S2, h5, h6⟩ := locked_some h2
  simp only at h5 h6
  subst h6
  change forW ρ (bodyF tg tu A) xs ρ (lockAt S1 w) = some (o, S2) at h5
  refine ⟨F, m, ρ, S, w, xs, S1, r0, e0, h1, fun F1 m1 H1 J st1 r1 wo => ?_⟩
  have rl := lock_SR r1 w
  have fin : ∀ {F2 m2 H2}, Step F1 m1 (lockAt S1 w) H1 F2 m2 S2 H2 → SR K fa F2 m2 S2 H2 → OutOk K fa D F2 m2 H2 o := fun st r => k0 _ _ _ (st1.trans (unlock_Step st)) (unlock_SR r)
  refine ⟨fun i n σ2 H2 => n = xs.length - i ∧ ∃ (F2 : FrZ) (m2 : List Addr) (ρ2 : EnvW) (Sx : Store), Step F1 m1 (lockAt S1 w) H1 F2 m2 Sx H2 ∧ SR K fa F2 m2 Sx H2 ∧ ER K fa F2 m2 H2 ρ2 σ2 ∧ forW ρ (bodyF tg tu A) (xs.drop i) ρ2 Sx = some (o, S2), ⟨xs.length, by simp, F1, m1, ρ, _, Step.refl, rl, st1.er r0 e0, h5⟩, ?_⟩
  rintro i n σ2 H2 ⟨rfl, F2, m2, ρ2, Sx, st2, r2, e2, hf⟩
  by_cases hi : i < xs.length
  · refine .inr ⟨((wo F2 m2 Sx H2 (st2.later rl.live) r2 i).1 xs[i] (List.getElem?_eq_getElem hi)).1, fun σ' H' => _, fun σ' H' hN => ⟨xs.length - (i + 1), by omega, hN⟩, fun u H3 hyl => ?_⟩
    obtain ⟨F3, st3, r3, hit⟩ := ((wo F2 m2 Sx H2 (st2.later rl.live) r2 i).1 xs[i] (List.getElem?_eq_getElem hi)).2 u H3 hyl
    rw [drop_get hi] at hf
    obtain ⟨o1, S3, b1, b2⟩ := sbind_some hf
    obtain ⟨ρ3, c1, c2⟩ := bodyF_some b1
    refine ⟨F3, m2, Sx, ρ2, xs[i], ρ3, r3, st3.er r2 e2, hit, c1, fun σ3 e3 hl3 ho => ?_⟩
    refine ⟨F3, m2, ρ3, Sx, o1, S3, r3, e3, c2, fun F4 m4 H4 st4 r4 => ?_⟩
    have st := st2.trans (st3.trans st4)
    cases o1 with
    | nx ρ4 => exact fun σ4 e4 => ⟨rfl, F4, m4, _, S3, st, r4, e4.mask, b2⟩
    | ct ρ4 => exact fun σ4 e4 => ⟨rfl, F4, m4, _, S3, st, r4, e4.mask, b2⟩
    | bk ρ4 =>
      obtain ⟨e5, e6⟩ := sret_some b2
      simp only at e5 e6
      subst e5 e6
      exact fun σ4 e4 => fin st r4 σ4 e4.mask
    | rt v =>
      obtain ⟨e5, e6⟩ := sret_some b2
      simp only at e5 e6
      subst e5 e6
      exact fun u hu => fin st r4 u hu
  · refine .inl ⟨(wo F2 m2 Sx H2 (st2.later rl.live) r2 i).2 (by omega), ?_⟩
    rw [List.drop_eq_nil_of_le (by omega)] at hf
    obtain ⟨e5, e6⟩ := sret_some hf
    simp only at e5 e6
    subst e5 e6
    exact fin st2 r2 σ2 e2
theorem ps_forW {iter tgt : Expr} {body : List Stmt} {pos : Pos} {gi : EnvW → SM (Val × List Val)} {tg : List Nat} {tu : Bool} (hp : PassesOwn (model X.prog X.w) X.A X.env X.xe) (hc : X.calm = true) (hi : PI X tgt iter (TIW X.K fa tu gi)) (hg : PG X tgt (TGW X.K fa tg tu)) (hb : PSs X body (TSW X.K fa A))
    (hs : ∀ x, foldedSetIterable iter X.env x = pure x) : PS X (.For tgt iter body [] pos) (TSW X.K fa (fFor gi tg tu A)) := PS.weak (ps_for hp hc hi hg hb hs) fun _ _ _ => for_of
theorem while_of {K : PySem.W.Frag} {D : Ends} {σ : L2.St} {H : Hp} (w : TSW K fa (whileW (tst f) A) D σ H) : tWhile (TB K fa (tst f)) (TSW K fa A) D σ H := by
  obtain ⟨F, m, ρ, S, o, S', r0, e0, h0, k0⟩ := w
  obtain ⟨N, hN⟩ : ∃ n, whileN ρ (tst f) A n ρ S = some (o, S') := by
    unfold whileW at h0
    split at h0
    · exact ⟨_, h0⟩
    · cases h0
  refine ⟨fun n σ2 H2 => ∃ (F2 : FrZ) (m2 : List Addr) (ρ2 : EnvW) (Sx : Store), Step F m S H F2 m2 Sx H2 ∧ SR K fa F2 m2 Sx H2 ∧ ER K fa F2 m2 H2 ρ2 σ2 ∧ whileN ρ (tst f) A n ρ2 Sx = some (o, S'), ⟨N, F, m, ρ, S, Step.refl, r0, e0, hN⟩, ?_⟩
  rintro n σ2 H2 ⟨F2, m2, ρ2, Sx, st2, r2, e2, hw⟩
  cases n with
  | zero => cases hw
  | succ n =>
    obtain ⟨b, S3, c1, c2⟩ := sbind_some hw
    refine ⟨F2, m2, ρ2, Sx, b, S3, r2, e2, c1, fun F3 m3 H3 st3 r3 => ?_⟩
    cases b with
    | false =>
      obtain ⟨e5, e6⟩ := sret_some c2
      simp only at e5 e6
      subst e5 e6
      exact k0 F3 m3 H3 (st2.trans st3) r3 σ2 (st3.er r2 e2)
    | true =>
      obtain ⟨o1, S4, d1, d2⟩ := sbind_some c2
      refine ⟨fun σ' H' => ∃ (F2 : FrZ) (m2 : List Addr) (ρ2 : EnvW) (Sx : Store), Step F m S H F2 m2 Sx H' ∧ SR K fa F2 m2 Sx H' ∧ ER K fa F2 m2 H' ρ2 σ' ∧ whileN ρ (tst f) A n ρ2 Sx = some (o, S'), fun σ' H' hN => ⟨n, Nat.lt_succ_self n, hN⟩, ?_⟩
      refine ⟨F3, m3, ρ2, S3, o1, S4, r3, st3.er r2 e2, d1, fun F4 m4 H4 st4 r4 => ?_⟩
      have st := st2.trans (st3.trans st4)
      cases o1 with
      | nx ρ4 => exact fun σ4 e4 => ⟨F4, m4, _, S4, st, r4, e4.mask, d2⟩
      | ct ρ4 => exact fun σ4 e4 => ⟨F4, m4, _, S4, st, r4, e4.mask, d2⟩
      | bk ρ4 =>
        obtain ⟨e5, e6⟩ := sret_some d2
        simp only at e5 e6
        subst e5 e6
        exact fun σ4 e4 => k0 F4 m4 H4 st r4 σ4 e4.mask
      | rt v =>
        obtain ⟨e5, e6⟩ := sret_some d2
        simp only at e5 e6
        subst e5 e6
        exact fun u hu => k0 F4 m4 H4 st r4 u hu
theorem ps_whileW {c : Expr} {body : List Stmt} {pos : Pos} (hp : PassesOwn (model X.prog X.w) X.A X.env X.xe) (hc : PT X c (TB X.K fa (tst f))) (hb : PSs X body (TSW X.K fa A)) : PS X (.While c body [] pos) (TSW X.K fa (whileW (tst f) A)) :=
  PS.weak (ps_while hp hc hb) fun _ _ _ => while_of
end
end Wf
set_option maxRecDepth 100000
set_option maxHeartbeats 4000000
/-! W17: list comprehensions of two loops. -/
namespace Wf
open PySem PySem.Spec PyProof.Rows L2
section
variable {K : PySem.W.Frag} {fa : FaW} {F F' F1 F2 : FrZ} {m m' m1 m2 : List Addr} {S S' S1 S2 : Store} {H H' H1 H2 : Hp}
theorem Later.poke (t : Later F m S H F1 m1 S1 H1) {D : Addr} (hm : D ∉ m) (hF : ¬ F D) (o : HO) : Later F m S H F1 m1 S1 (upd H1 D o) :=
  ⟨fun a h => let ⟨g1, g2⟩ := t.keepL a h; ⟨g1, by rw [upd_ne fun e => hF (by rw [← e]; exact h)]; exact g2⟩, t.pre, fun k a xs h1 h2 => let ⟨g1, g2⟩ := t.lk k a xs h1 h2; ⟨by rw [upd_ne fun e => hm (by rw [← e]; exact mem_of_get h1)]; exact g1, g2⟩⟩
theorem unlock_Step2 {w : Val} (s1 : Step F m S H F1 m1 S1 H1) (st : Step F m S H F' m' S2 H') : Step F m S H F' m' (unlockAt S1 S2 w) H' := by
  refine ⟨st.sub, st.pre, st.fr, fun k a xs h1 h2 => ?_, st.new, st.mnew, st.up⟩
  obtain ⟨_, hl⟩ := s1.lk k a xs h1 h2
  obtain ⟨e1, e2⟩ := st.lk k a xs h1 h2
  refine ⟨e1, ?_⟩
  unfold unlockAt
  split
  · rename_i j
    split
    · rename_i ys zs hS hS2
      by_cases hj : j = k
      · subst hj
        rw [hl] at hS
        cases hS
      · rw [List.getElem?_set_ne hj]
        exact e2
    · exact e2
  · exact e2
end
def turn2 (own tg : List Nat) (tu : Bool) (ρ : EnvW) (gi2 : EnvW → SM (Val × List Val)) (tg2 : List Nat) (tu2 : Bool) (fc fe : EnvW → SM Val) : Val → SM (List Val) := fun x => match bindT tg tu x (wipeW ρ own) with
      | some ρ1 => sbind (gi2 ρ1) fun (w2, ys) => locked w2 (mapF (turnC tg2 tg2 tu2 ρ1 fc fe) ys)
      | none => sfail
def fComp2 (kp : Bool) (own tg : List Nat) (tu : Bool) (gi : EnvW → SM (Val × List Val)) (tg2 : List Nat) (tu2 : Bool) (gi2 : EnvW → SM (Val × List Val)) (fc fe : EnvW → SM Val) : EnvW → SM Val := fun ρ => sbind (gi ρ) fun (w, xs) => sbind (locked w (mapF (turn2 own tg tu ρ gi2 tg2 tu2 fc fe) xs)) (mkL kp)
theorem turn2_some {own tg : List Nat} {tu : Bool} {ρ : EnvW} {gi2 : EnvW → SM (Val × List Val)} {tg2 : List Nat} {tu2 : Bool} {fc fe : EnvW → SM Val} {x : Val} {S : Store} {p : List Val × Store} (h : turn2 own tg tu ρ gi2 tg2 tu2 fc fe x S = some p) : ∃ ρ1 w2 ys S1 S2, bindT tg tu x (wipeW ρ own) = some ρ1 ∧ gi2 ρ1 S = some ((w2, ys), S1) ∧
    mapF (turnC tg2 tg2 tu2 ρ1 fc fe) ys (lockAt S1 w2) = some (p.1, S2) ∧ p.2 = unlockAt S1 S2 w2 := by
  cases hb : bindT tg tu x (wipeW ρ own) with
  | none =>
    simp only [turn2, hb] at h
    cases h
  | some ρ1 =>
    simp only [turn2, hb] at h
    obtain ⟨⟨w2, ys⟩, S1, h1, h2⟩ := sbind_some h
    obtain ⟨S2, h5, h6⟩ := locked_some h2
    exact ⟨ρ1, w2, ys, S1, S2, rfl, h1, h5, h6⟩
def tYesW : EnvW → SM Val := fun _ => sret (.d (.bool true))
section
variable {fa : FaW}
theorem lc2_of {K : PySem.W.Frag} {kp : Bool} {own tg : List Nat} {tu : Bool} {gi gi2 : EnvW → SM (Val × List Val)} {tg2 : List Nat} {tu2 : Bool} {fc fe : EnvW → SM Val} (htg : ∀ i ∈ tg, i ∈ own) (htg2 : ∀ i ∈ tg2, i ∈ own) {σ : L2.St} {H : Hp} {Q : VK} (h : TV K fa (fComp2 kp own tg tu gi tg2 tu2 gi2 fc fe) σ H Q) :
    tLc2 (TIW K fa tu gi) (TGW K fa tg tu) tYes (TIW K fa tu2 gi2) (TGW K fa tg2 tu2) (TB K fa (tst fc)) (TV K fa fe) own tg2 σ H Q := by
  obtain ⟨F, m, ρ, S, v, S', r0, e0, h0, k0⟩ := h
  obtain ⟨⟨w, xs⟩, S1, h1, h2⟩ := sbind_some h0
  obtain ⟨ys, S3, h3, h4⟩ := sbind_some h2
  obtain ⟨S2, h5, h6⟩ := locked_some h3
  simp only at h5 h6
  have hlen := mkL_len h4
  refine ⟨F, m, ρ, S, w, xs, S1, r0, e0, h1, fun F1 m1 H1 J st1 r1 wo => fun D hD => ?_⟩
  have rl := lock_SR r1 w
  refine ⟨fun i n H2 => n = xs.length - i ∧ ∃ (F2 : FrZ) (m2 : List Addr) (Sx : Store) (acc : List Val) (us : List V) (ys' : List Val), Step F1 m1 (lockAt S1 w) H1 F2 m2 Sx H2 ∧ SR K fa F2 m2 Sx H2 ∧ D ∉ m2 ∧ ¬ F2 D ∧ H2 D = some (.lst us) ∧
    RepVs K fa F2 m2 H2 acc us ∧ mapF (turn2 own tg tu ρ gi2 tg2 tu2 fc fe) (xs.drop i) Sx = some (ys', S2) ∧ acc ++ ys' = ys, ?_, ?_⟩
  · have nF : ¬ F1 D := fun z => r1.live D z hD
    have nm : D ∉ m1 := fun z => r1.mlive D z hD
    exact ⟨xs.length, by simp, F1, m1, _, [], [], ys, Step.refl.poke hD rl.mlive _, rl.poke nm nF _, nm, nF, upd_same, rfl, h5, rfl⟩
  · rintro i n H2 ⟨rfl, F2, m2, Sx, acc, us, ys', st2, r2, nm2, nF2, hH2, ha, hm, hy⟩
    by_cases hi : i < xs.length
    · refine .inr ⟨((wo F2 m2 Sx H2 (st2.later rl.live) r2 i).1 xs[i] (List.getElem?_eq_getElem hi)).1, fun H' => _, fun H' hN => ⟨xs.length - (i + 1), by omega, hN⟩, fun u H3 hyl => ?_⟩
      obtain ⟨F3, st3, r3, hit⟩ := ((wo F2 m2 Sx H2 (st2.later rl.live) r2 i).1 xs[i] (List.getElem?_eq_getElem hi)).2 u H3 hyl
      rw [drop_get hi] at hm
      obtain ⟨y, S4, ys2, b1, b2, b3⟩ := mapF_cons hm
      simp only at b2 b3
      subst b3
      obtain ⟨ρ1, w2, zs, S5, S6, hb, c1, c2, c3⟩ := turn2_some b1
      simp only at c2 c3
      subst c3
      obtain ⟨hH3, nm3, nF3⟩ := st3.far (by rw [hH2]; simp) nm2 nF2
      rw [hH2] at hH3
      refine ⟨F3, m2, Sx, wipeW ρ own, xs[i], ρ1, r3, (st3.er r2 (st2.er rl (st1.er r0 e0))).wipe own, hit, hb, fun σ1 e1 hl ho => ⟨wipe_eq_own htg e1 hl ho, ?_⟩⟩
      refine ⟨F3, m2, ρ1, Sx, w2, zs, S5, r3, e1, c1, fun F4 m4 H4 J1 st4 r4 wo1 => ?_⟩
      obtain ⟨hH4, nm4, nF4⟩ := st4.far (by rw [hH3]; simp) nm3 nF3
      rw [hH3] at hH4
      have ha4 := st4.reps r3 (st3.reps r2 ha)
      have st14 := st2.trans (st3.trans st4)
      have e4 := st4.er r3 e1
      have rl4 := lock_SR r4 w2
      refine ⟨fun j k H5 => k = zs.length - j ∧ ∃ (F5 : FrZ) (m5 : List Addr) (Sy : Store) (ac : List Val) (us5 : List V) (y' : List Val), Step F1 m1 (lockAt S1 w) H1 F5 m5 Sy H5 ∧ Later F4 m4 (lockAt S5 w2) H4 F5 m5 Sy H5 ∧ SR K fa F5 m5 Sy H5 ∧ D ∉ m5 ∧ ¬ F5 D ∧ H5 D = some (.lst us5) ∧
        RepVs K fa F5 m5 H5 ac us5 ∧ mapF (turnC tg2 tg2 tu2 ρ1 fc fe) (zs.drop j) Sy = some (y', S6) ∧ ac ++ y' = acc ++ y ∧ ER K fa F5 m5 H5 (wipeW ρ1 tg2) (wipe σ1 tg2),
        ⟨zs.length, by simp, F4, m4, _, acc, us, y, st14.trans (lock_Step w2), Later.refl, rl4, nm4, nF4, hH4, ha4, c2, rfl, e4.wipe tg2⟩, ?_⟩
      rintro j k H5 ⟨rfl, F5, m5, Sy, ac, us5, y', st5, lt5, r5, nm5, nF5, hH5, ha5, hm5, hy5, e5⟩
      by_cases hj : j < zs.length
      · refine .inr ⟨((wo1 F5 m5 Sy H5 lt5 r5 j).1 zs[j] (List.getElem?_eq_getElem hj)).1, fun H' => _, fun H' hN => ⟨zs.length - (j + 1), by omega, hN⟩, fun u6 H6 hyl6 => ?_⟩
        obtain ⟨F6, st6, r6, hit6⟩ := ((wo1 F5 m5 Sy H5 lt5 r5 j).1 zs[j] (List.getElem?_eq_getElem hj)).2 u6 H6 hyl6
        rw [drop_get hj] at hm5
        obtain ⟨z, S7, z2, d1, d2, d3⟩ := mapF_cons hm5
        simp only at d2 d3
        subst d3
        obtain ⟨ρ2, b, S8, hb2, g1, g2⟩ := turnC_some d1
        simp only at g2
        obtain ⟨hH6, nm6, nF6⟩ := st6.far (by rw [hH5]; simp) nm5 nF5
        rw [hH5] at hH6
        have e6 := st6.er r5 e5
        refine ⟨F6, m5, Sy, wipeW ρ1 tg2, zs[j], ρ2, r6, e6, hit6, hb2, fun σ2 e2 hl2 ho2 => ⟨wipe_eq_own (fun i hi => hi) e2 hl2 ho2, ?_⟩⟩
        refine ⟨F6, m5, ρ2, Sy, b, S8, r6, e2, g1, fun F7 m7 H7 st7 r7 => ?_⟩
        obtain ⟨hH7, nm7, nF7⟩ := st7.far (by rw [hH6]; simp) nm6 nF6
        rw [hH6] at hH7
        have ha7 := st7.reps r6 (st6.reps r5 ha5)
        have st17 := st5.trans (st6.trans st7)
        have lt7 := (lt5.step st6 r5.live).step st7 r6.live
        have e7 := st7.er r6 e6
        cases b with
        | true =>
          obtain ⟨q, q1, q2⟩ := g2
          subst q2
          refine ⟨F7, m7, ρ2, S8, q, _, r7, st7.er r6 e2, q1, fun F8 m8 H8 u8 st8 r8 v8 => ?_⟩
          obtain ⟨hH8, nm8, nF8⟩ := st8.far (by rw [hH7]; simp) nm7 nF7
          rw [hH7] at hH8
          have ha8 := st8.reps r7 ha7
          have hl8 := ha8.length
          have e8 := st8.er r7 e7
          refine ⟨us5, hH8, ?_, rfl, F8, m8, _, ac ++ [q], us5 ++ [u8], z2, (st17.trans st8).poke hD rl.mlive _, (lt7.step st8 r7.live).poke nm4 nF4 _, r8.poke nm8 nF8 _, nm8, nF8, upd_same, reps_poke nF8 (ha8.append ⟨u8, [], rfl, v8, rfl⟩), d2, by simpa using hy5, ?_⟩
          · have h9 : (ac ++ ([q] ++ z2)).length = (acc ++ y).length := by rw [hy5]
            rw [← hy] at hlen
            simp at hlen h9
            omega
          · exact ⟨e8.1, fun i v e => let ⟨x, x1, x2⟩ := e8.2 i v e; ⟨x, x1, RepV.mono (fun b hb => ⟨hb, upd_ne fun e => nF8 (by rw [← e]; exact hb)⟩) (List.prefix_refl _) _ _ x2⟩⟩
        | false =>
          obtain ⟨q1, q2⟩ := g2
          subst q1 q2
          exact ⟨rfl, F7, m7, _, ac, us5, z2, st17, lt7, r7, nm7, nF7, hH7, ha7, d2, by simpa using hy5, e7⟩
      · refine .inl ⟨(wo1 F5 m5 Sy H5 lt5 r5 j).2 (by omega), ?_⟩
        rw [List.drop_eq_nil_of_le (by omega)] at hm5
        obtain ⟨q1, q2⟩ := sret_some hm5
        simp only at q1 q2
        subst q1 q2
        rw [List.append_nil] at hy5
        subst hy5
        exact ⟨rfl, F5, m5, _, acc ++ y, us5, ys2, unlock_Step2 st14 st5, unlock_SR r5, nm5, nF5, hH5, ha5, b2, by simpa using hy⟩
    · refine .inl ⟨(wo F2 m2 Sx H2 (st2.later rl.live) r2 i).2 (by omega), ?_⟩
      rw [List.drop_eq_nil_of_le (by omega)] at hm
      obtain ⟨q1, q2⟩ := sret_some hm
      simp only at q1 q2
      subst q1 q2
      rw [List.append_nil] at hy
      subst hy
      rw [h6] at h4
      exact grown (unlock_Step st2) (unlock_SR r2) hD hH2 nm2 nF2 ha h4 fun F' m' H' u st r q => k0 F' m' H' u (st1.trans st) r q
end
end Wf
set_option maxRecDepth 100000
set_option maxHeartbeats 4000000
/-! W23: sets of whole numbers. -/
namespace Wf
open PySem PySem.Spec PyProof.Rows L2
/-! ### plain facts -/
theorem mem_dedupI {k : Int} : ∀ {ns : List Int}, k ∈ dedupI ns ↔ k ∈ ns
  | [] => Iff.rfl
  | x :: r => by
    unfold dedupI
    split
    · rename_i h
      rw [mem_dedupI, List.mem_cons]
      exact ⟨.inr, fun z => z.elim (fun e => e ▸ h) id⟩
    · rw [List.mem_cons, List.mem_cons, mem_dedupI]
theorem nodup_dedupI : ∀ (ns : List Int), (dedupI ns).Nodup
  | [] => List.nodup_nil
  | x :: r => by
    unfold dedupI
    split
    · exact nodup_dedupI r
    · rename_i h
      exact List.nodup_cons.mpr ⟨fun z => h (mem_dedupI.mp z), nodup_dedupI r⟩
theorem len_le_of_sub {α : Type} [DecidableEq α] : ∀ {xs ys : List α}, xs.Nodup → (∀ x ∈ xs, x ∈ ys) → xs.length ≤ ys.length
  | [], _, _, _ => Nat.zero_le _
  | x :: xs, ys, h, hs => by
    obtain ⟨h1, h2⟩ := List.nodup_cons.mp h
    have hx := hs x List.mem_cons_self
    have := len_le_of_sub (ys := ys.erase x) h2 fun y hy => by
      have hne : y ≠ x := fun e => h1 (e ▸ hy)
      exact (List.mem_erase_of_ne hne).mpr (hs y (List.mem_cons_of_mem _ hy))
    rw [List.length_erase_of_mem hx] at this
    have hp : 0 < ys.length := List.length_pos_of_mem hx
    rw [List.length_cons]
    omega
theorem len_eq_of_mem {α : Type} [DecidableEq α] {xs ys : List α} (h1 : xs.Nodup) (h2 : ys.Nodup) (h : ∀ k, k ∈ xs ↔ k ∈ ys) : xs.length = ys.length :=
  Nat.le_antisymm (len_le_of_sub h1 fun x hx => (h x).mp hx) (len_le_of_sub h2 fun x hx => (h x).mpr hx)
theorem eq_of_asc : ∀ {xs ys : List Int}, xs.Pairwise (· < ·) → ys.Pairwise (· < ·) → (∀ k, k ∈ xs ↔ k ∈ ys) → xs = ys
  | [], [], _, _, _ => rfl
  | [], y :: ys, _, _, h => by have := (h y).mpr List.mem_cons_self; cases this
  | x :: xs, [], _, _, h => by have := (h x).mp List.mem_cons_self; cases this
  | x :: xs, y :: ys, h1, h2, h => by
    obtain ⟨a1, a2⟩ := List.pairwise_cons.mp h1
    obtain ⟨b1, b2⟩ := List.pairwise_cons.mp h2
    have e : x = y := by
      rcases List.mem_cons.mp ((h x).mp List.mem_cons_self) with e | e
      · exact e
      · rcases List.mem_cons.mp ((h y).mpr List.mem_cons_self) with e2 | e2
        · exact e2.symm
        · have := a1 y e2
          have := b1 x e
          omega
    subst e
    rw [eq_of_asc a2 b2 fun k => ?_]
    have := h k
    simp only [List.mem_cons] at this
    constructor
    · intro hk
      rcases this.mp (.inr hk) with e | e
      · have := a1 k hk
        omega
      · exact e
    · intro hk
      rcases this.mpr (.inr hk) with e | e
      · have := b1 k hk
        omega
      · exact e
theorem asc_sortI {ns : List Int} (h : ns.Nodup) : (sortI ns).Pairwise (· < ·) := by
  unfold sortI
  have h1 : (ns.mergeSort fun a b => decide (a ≤ b)).Pairwise (fun a b => decide (a ≤ b) = true) := List.pairwise_mergeSort (fun a b c h1 h2 => by simp only [decide_eq_true_eq] at *; omega) (fun a b => by simp only [Bool.or_eq_true, decide_eq_true_eq]; omega) ns
  have h2 : (ns.mergeSort fun a b => decide (a ≤ b)).Nodup := (List.mergeSort_perm ns _).nodup_iff.mpr h
  exact List.Pairwise.imp₂ (fun a b (p : decide (a ≤ b) = true) (q : a ≠ b) => by
    have := of_decide_eq_true p
    show a < b
    omega) h1 h2
theorem mem_sortI {ns : List Int} {k : Int} : k ∈ sortI ns ↔ k ∈ ns := (List.mergeSort_perm ns _).mem_iff
section
open PySem.Spec
variable {P : Program} {w : World} {A : Around} {E : Value → Shared → Prop} {s : Shared}
set_option maxRecDepth 100000 in
set_option maxHeartbeats 3200000 in
theorem call_set_lstI {l : Addr} {items : Array Value} (ns : List Int) {Q : Value → Shared → Prop} (hh : A.handled = none) (hl : s.heap.IsList l items) (hit : IntsAre items.toList ns) (hb : ns.length + 1 < scanBound)
    (h : ∀ (h' : Heap) (tk c : Nat), SetR w h' s.heap.objs.size (fun j => decide (j ∈ ns)) c → c ≤ ns.length → (∀ b o, s.heap.get? b = some o → h'.get? b = some o) → Q (.ref s.heap.objs.size) { s with heap := h', toks := tk }) :
    wpAny (model P w) A (call (.type "set") [.ref l]) Q E s := by
  have hisz : items.size = ns.length := by
    have q := IntsAre.length hit
    rw [Array.length_toList] at q
    exact q
  obtain ⟨c, tl, hmro⟩ := F.called_set.mro
  have hmade := F.called_set.made
  have hsub := F.called_set.sub
  refine wpAny_call (codeAny_of_tree ?_)
  show wpAny _ _ (callAny (.type "set") _) _ _ _
  refine wpAny_pure ⟨Code.quiet_builtin _ (by decide +kernel), codeAny_builtin F.entry_type_call ?_⟩
  rw [Around.under_plain (weight_type_call_type "set" [.ref l] []) rfl]
  have h1 := F.called_set.notType
  have h2 := F.called_set.canCreate
  have hct := F.typeCall_set_1 (.ref l)
  repeat (any_goals (first | assumption | wp_step))

  refine codeAny_mono (code_set_led1 (.ref l) (E := E) (Q₁ := fun obj s₁ => obj = .ref s.heap.objs.size ∧ s₁ = { s with heap := s.heap.push { cls := .type "set", dict := none, data := .set #[] 0 (.fresh 0 0 (!w.params.followText "set-order")) } }) ⟨rfl, rfl⟩) fun r s₁ hr => ?_
  cases r with
  | error e => exact hr
  | ok fl =>
    cases fl with
    | ret obj =>
      obtain ⟨rfl, rfl⟩ := hr
      have hS : (s.heap.push { cls := .type "set", dict := none, data := .set #[] 0 (.fresh 0 0 (!w.params.followText "set-order")) }).get? s.heap.objs.size = some { cls := .type "set", dict := none, data := .set #[] 0 (.fresh 0 0 (!w.params.followText "set-order")) } := Heap.get?_push_size _ rfl
      have hT : Shared.TypeIs { s with heap := s.heap.push { cls := .type "set", dict := none, data := .set #[] 0 (.fresh 0 0 (!w.params.followText "set-order")) } } (.ref s.heap.objs.size) "set" := ⟨_, hS, rfl⟩
      have hli := F.called_set.init.lookup
      have hbi := F.called_set.init.bind (.ref s.heap.objs.size)
      repeat (any_goals (first | assumption | wp_step))

      refine codeAny_mono (codeAny_call_builtin (R := wants (fun r s₂ => r = .none ∧ ∃ h' tk c, s₂ = { s with heap := h', toks := tk } ∧ SetR w h' s.heap.objs.size (fun j => decide (j ∈ ns)) c ∧ c ≤ ns.length ∧
          (∀ b o, s.heap.get? b = some o → h'.get? b = some o)) E) F.called_set.init.plain F.entry_set_init (check_set_init_1 hT ?_)) fun r₂ s₂ hr₂ => ?_
      · obtain ⟨ol, hol, hcl, nl, hdl⟩ := hl
        obtain ⟨ocls, odict, odata, oslots⟩ := ol
        simp only at hcl hdl
        subst hcl; subst hdl
        have hol' : (s.heap.push { cls := .type "set", dict := none, data := .set #[] 0 (.fresh 0 0 (!w.params.followText "set-order")) }).get? l = some { cls := .type "list", dict := odict, data := .seq items nl, slots := oslots } := Heap.get?_push_of_some _ hol
        have hsls := F.sub_list_set
        have hslf := F.sub_list_frozenset
        have hne : (Value.type "list" == Value.type "dict") = false := by decide
        have hl1 : (s.heap.push { cls := .type "set", dict := none, data := .set #[] 0 (.fresh 0 0 (!w.params.followText "set-order")) }).IsList l items := ⟨_, hol', rfl, nl, rfl⟩
        unfold Builtin.«set.__init__» noKeywords Builtin.Frozenset.updateFrom
        generalize hPI : pyIter = PI
        wp_walk
        subst hPI

        refine wpAny_pyIter_list hl1 ?_
        refine wpAny_bind (wpAny_runValue ?_)
        have hlS : l < s.heap.objs.size := Heap.lt_size hol
        have hh3 : A.in1.in1.in1.handled = none := by simp [hh]
        have hz1 : (s.heap.push { cls := .type "set", dict := none, data := .set #[] 0 (.fresh 0 0 (!w.params.followText "set-order")) }).objs.size = s.heap.objs.size + 1 := Heap.size_push ..
        have hneI : l ≠ (s.heap.push { cls := .type "set", dict := none, data := .set #[] 0 (.fresh 0 0 (!w.params.followText "set-order")) }).objs.size := by
          rw [Heap.size_push]; exact Nat.ne_of_lt (Nat.lt_succ_of_lt hlS)
        have hSf : s.heap.objs.size ∉ [(s.heap.push { cls := .type "set", dict := none, data := .set #[] 0 (.fresh 0 0 (!w.params.followText "set-order")) }).objs.size, l] := by
          rw [Heap.size_push]; simp only [List.mem_cons, List.mem_singleton, List.not_mem_nil, or_false, not_or]
          exact ⟨Nat.ne_of_lt (Nat.lt_succ_self _), Nat.ne_of_gt hlS⟩
        have hval : ∀ (i : Nat) (v : Value), items[i]? = some v → ∃ k t, ns[i]? = some k ∧ v = .int k t := fun i v hv => by
          have hi : i < ns.length := by rw [← hisz]; exact (Array.getElem?_eq_some_iff.mp hv).1
          obtain ⟨t, e⟩ := PyProof.Rows.IntsAre.int_at hit i v (by rw [Array.getElem?_toList]; exact hv)
          refine ⟨ns[i], t, List.getElem?_eq_getElem hi, ?_⟩
          rw [e, List.getD_eq_getElem?_getD, List.getElem?_eq_getElem hi] <;> rfl
        refine set_update_ints ((Walks.list hh3 _ l hneI items).toS) s.heap.objs.size
          hSf ns hisz hb hval (items.size - 0) 0 _ (by omega) (Nat.zero_le _)
          ⟨⟨_, Heap.get?_push_size _ rfl, rfl, rfl⟩, (hl1.push _)⟩ ?hS0 ?hR
        case hS0 =>
          have hget : ((s.heap.push { cls := .type "set", dict := none, data := .set #[] 0 (.fresh 0 0 (!w.params.followText "set-order")) }).push { cls := .type "list_iterator", data := .fields #[.ref l, .int 0 0] }).get? s.heap.objs.size
              = some { cls := .type "set", dict := none, data := .set #[] 0 (.fresh 0 0 (!w.params.followText "set-order")) } := Heap.get?_push_of_some _ hS
          exact ⟨0, Nat.le_refl 0, setR_new_at hget⟩
        case hR =>
          intro s' c' hm hc' hS'
          obtain ⟨h', g2, d', tk', os'⟩ := s'
          have eg : g2 = s.gens := hm.gens
          have ed : d' = s.drawn := hm.drawn
          have eo : os' = s.os := hm.os
          subst eg; subst ed; subst eo
          show wpAny _ _ _ _ _ _
          refine wpAny_pure ?_
          show wpAny _ _ (ret Value.none) _ _ _
          rw [hisz] at hc'
          refine wpAny_pure ⟨rfl, h', tk', c', rfl, hS', hc', fun b o e => ?_⟩
          have hb0 : b < s.heap.objs.size := Heap.lt_size e
          have hb1 : b ≠ s.heap.objs.size := Nat.ne_of_lt hb0
          have hb2 : b ≠ (s.heap.push { cls := .type "set", dict := none, data := .set #[] 0 (.fresh 0 0 (!w.params.followText "set-order")) }).objs.size := by
            rw [Heap.size_push]; exact Nat.ne_of_lt (Nat.lt_succ_of_lt hb0)
          exact hm.heap b o (by simp only [List.mem_cons, List.mem_singleton, List.not_mem_nil, or_false, not_or]; exact ⟨hb1, hb2⟩) (Heap.get?_push_of_some _ (Heap.get?_push_of_some _ e))

      · cases r₂ with
        | error e => exact hr₂
        | ok fl₂ =>
          cases fl₂ with
          | ret r =>
            obtain ⟨rfl, h', tk, c', rfl, hS', hc', hk'⟩ := hr₂
            repeat (any_goals (first | assumption | wp_step))
            exact h _ _ _ hS' hc' hk'
          | _ => exact hr₂.elim
    | _ => exact hr.elim

end
end Wf
set_option maxRecDepth 100000
set_option maxHeartbeats 4000000
/-! W24: len(set(x)), sorted(set(x)) of whole numbers. -/
namespace Wf
open PySem PySem.Spec PyProof.Rows L2
section
variable {X : Cx} {fa : FaW}
theorem rdI_some {S : Store} {x : Val} {ns : List Int} (h : rdI S x = some ns) : ∃ xs ds, rdS S x = some xs ∧ datsOf xs = some ds ∧ intsOf ds = some ns := by
  unfold rdI at h
  obtain ⟨ds, h1, h2⟩ := Option.bind_eq_some_iff.mp h
  obtain ⟨xs, h3, h4⟩ := Option.bind_eq_some_iff.mp h1
  exact ⟨xs, ds, h3, h4, h2⟩
theorem ints_of_rep {ns : List Int} {its : List Value} (r : Vals (ns.map V.int) its) : IntsAre its.toArray.toList ns := by simpa using intsAre_of r
theorem dats_ints (ns : List Int) : datsOf (ns.map fun i => Val.d (.int i)) = some (ns.map PyData.int) := by
  have := dats_map (ns.map PyData.int)
  rw [List.map_map] at this
  exact this
/-- set(x) of whole numbers -/
theorem call_setI {pins : List (Addr × Obj)} {σ : L2.St} {s : Shared} {H : Hp} {F : FrZ} {m : List Addr} {S : Store} {x : Val} {u : V} {ns : List Int} {E : Value → Shared → Prop} {Q : Value → Shared → Prop} (hc : X.calm = true) (I : L2.Inv X pins σ H s) (r : SR X.K fa F m S H) (h : RepV X.K fa F m H x u) (e : rdI S x = some ns) (hz : ns.length ≤ 1000) {v : Value} (rx : RelV u v)
    (hQ : ∀ (h' : Heap) (tk c : Nat), SetR X.w h' s.heap.objs.size (fun j => decide (j ∈ ns)) c → (∀ b o, s.heap.get? b = some o → h'.get? b = some o) → Q (.ref s.heap.objs.size) { s with heap := h', toks := tk }) :
    wpAny (model X.prog X.w) X.A (call (.type "set") [v]) Q E s := by
  obtain ⟨xs, ds, h1, h2, h3⟩ := rdI_some e
  obtain ⟨a, ws, rfl, hq, hr⟩ := r.seq h h1
  have ew := ints_rep (hr.data h2) h3
  subst ew
  cases rx
  have hb : ns.length + 1 < scanBound := by unfold scanBound; omega
  rcases hq with hq | hq
  · obtain ⟨its, rv, pl, _⟩ := I.list hq
    exact call_set_lstI ns (I.ok.hd hc) pl.isList (ints_of_rep rv) hb fun h' tk c hS _ hk => hQ h' tk c hS hk
  · obtain ⟨its, rv, pl, _⟩ := I.tuple hq
    exact call_set_tupI ns (I.ok.hd hc) pl (ints_of_rep rv) hb fun h' tk c hS _ hk => hQ h' tk c hS hk
theorem setR_count {w : World} {h : Heap} {a : Addr} {ns : List Int} {c : Nat} (R : SetR w h a (fun j => decide (j ∈ ns)) c) : c = (dedupI ns).length := by
  obtain ⟨o, es, ep, t, _, _, _, _, nd, hm, _, _, hn, _⟩ := R
  rw [← hn, ← Array.length_toList, ← List.length_map (f := keyOf) (as := es.toList)]
  exact len_eq_of_mem nd (nodup_dedupI ns) fun k => by
    rw [← hm k, mem_dedupI]
    exact decide_eq_true_iff
theorem pe_setlenW {e : Expr} {f : EnvW → SM Val} {p p2 q pos : Pos} (hc : X.calm = true) (hg : Gl X "len") (hm : X.mg "len" = none) (hg2 : Gl X "set") (hm2 : X.mg "set" = none) (he : PE X e (TV X.K fa f))
    (hs : starEach [e] X.env = (false, eval e X.env) :: starEach [] X.env) :
    PE X (.Call (.Name "len" p) [.Call (.Name "set" p2) [e] [] q] [] pos) (TV X.K fa fun ρ => sbind (sbind (f ρ) fun x => sbind (sret []) fun xs => sret (x :: xs)) fun vs => sask (biop .setlen vs)) := by
  refine ⟨fun pins s σ H Q I ⟨F, m, ρ, S, v, S', r0, e0, h0, k0⟩ => ?_⟩
  obtain ⟨vs, S1, h1, h2⟩ := sbind_some h0
  obtain ⟨x, S2, h3, h4⟩ := sbind_some h1
  obtain ⟨ys, S3, h5, h6⟩ := sbind_some h4
  obtain ⟨a1, a2⟩ := sret_some h5
  obtain ⟨a3, a4⟩ := sret_some h6
  obtain ⟨b1, b2⟩ := sask_some h2
  simp only at a1 a2 a3 a4 b1 b2
  subst a1 a2 a3 a4 b2
  obtain ⟨ns, c1, c2⟩ := Option.bind_eq_some_iff.mp (show (rdI _ x).bind _ = some v from b1)
  split at c2
  · rename_i hz
    cases c2
    refine Call_ (ld_blt I hg hm boot_len ?_)
    refine PyProof.Rows.callWith_builtin1 (PyProof.Rows.args_cons ?_ rfl) rfl rfl
    refine Call_ (ld_blt I hg2 hm2 boot_set ?_)
    refine PyProof.Rows.callWith_type1 (PyProof.Rows.args_cons (thn (he.run pins s σ H _ I ⟨F, m, ρ, S, x, _, r0, e0, h3, fun F1 m1 H1 u1 st1 r1 v1 => (⟨F1, m1, st1, r1, v1⟩ : ∃ F1 m1, Step F m S H F1 m1 _ H1 ∧ SR X.K fa F1 m1 _ H1 ∧ RepV X.K fa F1 m1 H1 x u1)⟩) fun v s1 ⟨u1, H1, I1, rx, F1, m1, st1, r1, v1⟩ => PyProof.Rows.args_nil ?_) hs) hs rfl
    refine call_setI hc I1 r1 v1 c1 hz rx fun h' tk c hS hk => ?_
    refine PyProof.Rows.args_nil ?_
    have hcn := setR_count hS
    obtain ⟨o, es, ep, t, ho, hex, hd, _, _, _, hsb, hf, hn, _⟩ := hS
    have I2 : Inv X pins σ H1 { s1 with heap := h', toks := tk } := I1.kept hk
    refine call_len_set ho hex hd hf (by rw [hn, hcn]; have := len_le_of_sub (nodup_dedupI ns) (fun x hx => mem_dedupI.mp hx); omega) ⟨.int (dedupI ns).length, H1, I2.tok _, ⟨_, by rw [hn, hcn]⟩, k0 F1 m1 H1 _ st1 r1 (rep_int _)⟩
  · cases c2
theorem pe_sortedsetW {e : Expr} {f : EnvW → SM Val} {p p2 q pos : Pos} (hc : X.calm = true) (hg : Gl X "sorted") (hm : X.mg "sorted" = none) (hg2 : Gl X "set") (hm2 : X.mg "set" = none) (he : PE X e (TV X.K fa f))
    (hs : starEach [e] X.env = (false, eval e X.env) :: starEach [] X.env) :
    PE X (.Call (.Name "sorted" p) [.Call (.Name "set" p2) [e] [] q] [] pos) (TV X.K fa fun ρ => sbind (sbind (f ρ) fun x => sbind (sret []) fun xs => sret (x :: xs)) fun vs => sask (biop .sortedset vs)) := by
  refine ⟨fun pins s σ H Q I ⟨F, m, ρ, S, v, S', r0, e0, h0, k0⟩ => ?_⟩
  obtain ⟨vs, S1, h1, h2⟩ := sbind_some h0
  obtain ⟨x, S2, h3, h4⟩ := sbind_some h1
  obtain ⟨ys, S3, h5, h6⟩ := sbind_some h4
  obtain ⟨a1, a2⟩ := sret_some h5
  obtain ⟨a3, a4⟩ := sret_some h6
  obtain ⟨b1, b2⟩ := sask_some h2
  simp only at a1 a2 a3 a4 b1 b2
  subst a1 a2 a3 a4 b2
  obtain ⟨ns, c1, c2⟩ := Option.bind_eq_some_iff.mp (show (rdI _ x).bind _ = some v from b1)
  split at c2
  · rename_i hz
    obtain ⟨hz, h64⟩ := hz
    cases c2
    refine Call_ (ld_blt I hg hm PyProof.Rows.boot_sorted ?_)
    refine PyProof.Rows.callWith_builtin1 (PyProof.Rows.args_cons ?_ rfl) rfl rfl
    refine Call_ (ld_blt I hg2 hm2 boot_set ?_)
    refine PyProof.Rows.callWith_type1 (PyProof.Rows.args_cons (thn (he.run pins s σ H _ I ⟨F, m, ρ, S, x, _, r0, e0, h3, fun F1 m1 H1 u1 st1 r1 v1 => (⟨F1, m1, st1, r1, v1⟩ : ∃ F1 m1, Step F m S H F1 m1 _ H1 ∧ SR X.K fa F1 m1 _ H1 ∧ RepV X.K fa F1 m1 H1 x u1)⟩) fun v s1 ⟨u1, H1, I1, rx, F1, m1, st1, r1, v1⟩ => PyProof.Rows.args_nil ?_) hs) hs rfl
    refine call_setI hc I1 r1 v1 c1 hz rx fun h' tk c hS hk => ?_
    refine PyProof.Rows.args_nil ?_
    have hcn := setR_count hS
    have I2 : Inv X pins σ H1 { s1 with heap := h', toks := tk } := I1.kept hk
    refine sorted_set hS (I.ok.hd hc) (by rw [hcn]; exact h64) fun s' p out c ms k g o hp hg hi hsrt hmem hl => ?_
    have ems : ms = sortI (dedupI ns) := eq_of_asc hsrt (asc_sortI (nodup_dedupI ns)) fun k => by
      rw [hmem k, mem_sortI, mem_dedupI]
      exact decide_eq_true_iff
    subst ems
    have hlen : ((sortI (dedupI ns)).map V.int).length ≤ sizeLine := by rw [List.length_map, hl, hcn, sizeLine_eq]; omega
    have hn : H1 p = none := I2.hok.fresh hp
    have J : Inv X pins σ (upd H1 p (.lst ((sortI (dedupI ns)).map V.int))) { { s1 with heap := h', toks := tk } with heap := s'.heap, gens := s'.gens, drawn := s'.drawn, toks := s'.toks } :=
      I2.call (ch := []) (Un.laid k hp hn) (I2.hok.laid k hp ⟨hlen, out.toList, c, vals_of_ints hi, hg⟩) (by rw [g]; exact I2.bare) (fun _ z => nomatch z)
    have e : s' = { { s1 with heap := h', toks := tk } with heap := s'.heap, gens := s'.gens, drawn := s'.drawn, toks := s'.toks } := by
      cases s'
      cases s1
      cases o
      rfl
    rw [e]
    refine ⟨.ref p, _, J, rfl, k_lst (fun F' m' H' u st r q => k0 F' m' H' u (st1.trans st) r q) r1 (ds := (sortI (dedupI ns)).map .int) ?_ hn⟩
    exact (reps_ints (K := X.K) (fa := fa) (F := F1) (m := m1) (H := H1) (sortI (dedupI ns))).data (dats_ints _)
  · cases c2
/-! ### list(range(..)), tuple(range(..)) -/
theorem rgV_rep {K : PySem.W.Frag} {F : FrZ} {H : Hp} (i j : Int) : Reps K F H (rangeD i j) (rgV i j) := by
  unfold rangeD rgV
  generalize (List.range (j - i).toNat) = l
  induction l with
  | nil => exact reps_nil
  | cons a l ih =>
    rw [List.map_cons, List.map_cons]
    unfold Reps
    exact ⟨_, _, rfl, by unfold Rep; rfl, ih⟩
theorem rgV_vals {K : PySem.W.Frag} {F : FrZ} {m : List Addr} {H : Hp} (i j : Int) : RepVs K fa F m H ((rangeD i j).map .d) (rgV i j) := Reps.vals (rgV_rep i j)
/-- the reading of a range's ends -/
def tRgW (K : PySem.W.Frag) (fa : FaW) (f g : EnvW → SM Val) : L2.St → Hp → (Int → Int → Hp → Prop) → Prop := fun σ H R => ∃ (F : FrZ) (m : List Addr) (ρ : EnvW) (S : Store) (p : Int × Int) (S' : Store), SR K fa F m S H ∧ ER K fa F m H ρ σ ∧ rng2 f g ρ S = some (p, S') ∧
  ∀ (F' : FrZ) (m' : List Addr) (H' : Hp), Step F m S H F' m' S' H' → SR K fa F' m' S' H' → R p.1 p.2 H'
theorem rng2_some {f g : EnvW → SM Val} {ρ : EnvW} {S S' : Store} {p : Int × Int} (h : rng2 f g ρ S = some (p, S')) : ∃ S1, f ρ S = some (.d (.int p.1), S1) ∧ g ρ S1 = some (.d (.int p.2), S') ∧ RgOk p.1 p.2 := by
  obtain ⟨x, S1, h1, h2⟩ := sbind_some h
  obtain ⟨y, S2, h3, h4⟩ := sbind_some h2
  split at h4
  · rename_i i j
    obtain ⟨hb, h5⟩ := sif_some h4
    obtain ⟨h6, h7⟩ := sret_some h5
    simp only at h6 h7
    subst h6 h7
    rw [Bool.and_eq_true, Bool.and_eq_true] at hb
    obtain ⟨⟨b1, b2⟩, b3⟩ := hb
    obtain ⟨c1, c2⟩ := of_decide_eq_true (show decide (-(2 ^ 62) ≤ i ∧ i < 2 ^ 62) = true from b1)
    obtain ⟨c3, c4⟩ := of_decide_eq_true (show decide (-(2 ^ 62) ≤ j ∧ j < 2 ^ 62) = true from b2)
    have c5 := of_decide_eq_true b3
    have := sizeLine_eq
    exact ⟨S1, h1, h3, c1, c2, c3, c4, by omega⟩
  · cases h4
theorem PRg.weak {e : Expr} {t t' : L2.St → Hp → (Int → Int → Hp → Prop) → Prop} (h : PRg X e t) (w : ∀ σ H R, t' σ H R → t σ H R) : PRg X e t' := fun pins s σ H Q I q => h pins s σ H Q I (w σ H Q q)
theorem prg_1W {a : Expr} {g : EnvW → SM Val} {p pos : Pos} (hg : Gl X "range") (hm : X.mg "range" = none) (ha : PE X a (TV X.K fa g)) (na : starEach [a] X.env = (false, eval a X.env) :: starEach [] X.env) : PRg X (.Call (.Name "range" p) [a] [] pos) (tRgW X.K fa (fun _ => sret (.d (.int 0))) g) := PRg.weak (prg_1 hg hm ha na) (by
  rintro σ H R ⟨F, m, ρ, S, p, S', r0, e0, h0, k0⟩
  obtain ⟨S1, h1, h2, _⟩ := rng2_some h0
  obtain ⟨q1, q2⟩ := sret_some h1
  simp only at q1 q2
  subst q2
  have q1 : p.1 = 0 := by injection q1 with q; injection q with q
  refine ⟨F, m, ρ, S1, _, _, r0, e0, h2, fun F1 m1 H1 u1 st1 r1 v1 => ⟨p.2, v1, ?_⟩⟩
  rw [← q1]
  exact k0 F1 m1 H1 st1 r1)
theorem prg_2W {a b : Expr} {f g : EnvW → SM Val} {p pos : Pos} (hg : Gl X "range") (hm : X.mg "range" = none) (ha : PE X a (TV X.K fa f)) (hb : PE X b (TV X.K fa g)) (na : starEach [a, b] X.env = (false, eval a X.env) :: starEach [b] X.env) (nb : starEach [b] X.env = (false, eval b X.env) :: starEach [] X.env) (hp : (backTo pos (starEach [b] X.env)).any (·.1) = false) :
    PRg X (.Call (.Name "range" p) [a, b] [] pos) (tRgW X.K fa f g) := PRg.weak (prg_2 hg hm ha hb na nb hp) (by
  rintro σ H R ⟨F, m, ρ, S, p, S', r0, e0, h0, k0⟩
  obtain ⟨S1, h1, h2, _⟩ := rng2_some h0
  refine ⟨F, m, ρ, S, _, S1, r0, e0, h1, fun F1 m1 H1 u1 st1 r1 v1 => ?_⟩
  refine ⟨F1, m1, ρ, S1, _, S', r1, st1.er r0 e0, h2, fun F2 m2 H2 u2 st2 r2 v2 => ?_⟩
  exact ⟨p.1, p.2, v1, v2, k0 F2 m2 H2 (st1.trans st2) r2⟩)
theorem pe_lrgW {e : Expr} {f g : EnvW → SM Val} {p pos : Pos} (hc : X.calm = true) (hg : Gl X "list") (hm : X.mg "list" = none) (he : PRg X e (tRgW X.K fa f g)) (na : starEach [e] X.env = (false, eval e X.env) :: starEach [] X.env) :
    PE X (.Call (.Name "list" p) [e] [] pos) (TV X.K fa fun ρ => sbind (rng2 f g ρ) fun p => sret (.d (.list (rangeD p.1 p.2)))) := PE.weak (pe_listRg hc hg hm he na) (by
  rintro σ H Q ⟨F, m, ρ, S, v, S', r0, e0, h0, k0⟩
  obtain ⟨p, S1, h1, h2⟩ := sbind_some h0
  obtain ⟨q1, q2⟩ := sret_some h2
  simp only at q1 q2
  subst q1 q2
  obtain ⟨_, _, _, ok⟩ := rng2_some h1
  exact ⟨F, m, ρ, S, p, _, r0, e0, h1, fun F1 m1 H1 st1 r1 => ⟨ok, fun q hq => k_lst (fun F' m' H' u st r q => k0 F' m' H' u (st1.trans st) r q) r1 (rgV_rep _ _) hq⟩⟩)
theorem pe_lrgK {e : Expr} {f g : EnvW → SM Val} {p pos : Pos} (hc : X.calm = true) (hg : Gl X "list") (hm : X.mg "list" = none) (he : PRg X e (tRgW X.K fa f g)) (na : starEach [e] X.env = (false, eval e X.env) :: starEach [] X.env) :
    PE X (.Call (.Name "list" p) [e] [] pos) (TV X.K fa fun ρ => sbind (sbind (rng2 f g ρ) fun p => sret (.d (.list (rangeD p.1 p.2)))) keepV) := PE.weak (pe_listRg hc hg hm he na) (by
  rintro σ H Q ⟨F, m, ρ, S, v, S', r0, e0, h0, k0⟩
  obtain ⟨z, Sz, hz, hk⟩ := sbind_some h0
  obtain ⟨p, S1, h1, h2⟩ := sbind_some hz
  obtain ⟨q1, q2⟩ := sret_some h2
  simp only at q1 q2
  subst q1 q2
  obtain ⟨_, _, _, ok⟩ := rng2_some h1
  exact ⟨F, m, ρ, S, p, _, r0, e0, h1, fun F1 m1 H1 st1 r1 => ⟨ok, keep_ok r1 (rgV_rep _ _) hk fun F' m' H' u st r q => k0 F' m' H' u (st1.trans st) r q⟩⟩)
theorem pe_tupRgF {e : Expr} {te : L2.St → Hp → (Int → Int → Hp → Prop) → Prop} {p pos : Pos} (hc : X.calm = true) (hg : Gl X "tuple") (hm : X.mg "tuple" = none) (he : PRg X e te) (na : starEach [e] X.env = (false, eval e X.env) :: starEach [] X.env) : PE X (.Call (.Name "tuple" p) [e] [] pos) (fun σ H Q => te σ H fun a b H1 => RgOk a b ∧ NewT Q H1 (rgV a b)) := by
  refine ⟨fun pins s σ H Q I h => ?_⟩
  refine Call_ (ld_blt I hg hm PyProof.Rows.boot_tuple (PyProof.Rows.callWith_type1 (args_cons (thn (he pins s σ H _ I h) fun x s1 ⟨r, a, b, t, u, v, H1, ex, hr, I1, ok, q⟩ => args_nil ?_) na) na))
  subst ex
  obtain ⟨b1, b2, b3, b4, b5⟩ := ok
  refine call_tuple_range (n := (b - a).toNat) (I1.ok.hd hc) hr (small_one b1 b2 b3 b4) (rangeSize_nat a b) b5 fun h' tk acc hk hi => ?_
  have I2 : L2.Inv X pins σ H1 { s1 with heap := h', toks := tk } := I1.kept hk
  have := newT (t := tk) I2 (vals_rg hi) (by rw [rgV_length, sizeLine_eq]; omega) q
  exact this
theorem pe_trgW {e : Expr} {f g : EnvW → SM Val} {p pos : Pos} (hc : X.calm = true) (hg : Gl X "tuple") (hm : X.mg "tuple" = none) (he : PRg X e (tRgW X.K fa f g)) (na : starEach [e] X.env = (false, eval e X.env) :: starEach [] X.env) :
    PE X (.Call (.Name "tuple" p) [e] [] pos) (TV X.K fa fun ρ => sbind (rng2 f g ρ) fun p => sret (.d (.tuple (rangeD p.1 p.2)))) := PE.weak (pe_tupRgF hc hg hm he na) (by
  rintro σ H Q ⟨F, m, ρ, S, v, S', r0, e0, h0, k0⟩
  obtain ⟨p, S1, h1, h2⟩ := sbind_some h0
  obtain ⟨q1, q2⟩ := sret_some h2
  simp only at q1 q2
  subst q1 q2
  obtain ⟨_, _, _, ok⟩ := rng2_some h1
  exact ⟨F, m, ρ, S, p, _, r0, e0, h1, fun F1 m1 H1 st1 r1 => ⟨ok, fun q o hq ho => k_tup (fun F' m' H' u st r q => k0 F' m' H' u (st1.trans st) r q) r1 (rgV_rep _ _) hq ho⟩⟩)
end
end Wf
set_option maxRecDepth 100000
set_option maxHeartbeats 4000000
/-! W25: dict comprehensions whose keys are tuples (dcT_core, pe_dcT: HandS.DictComp's walk turned to such dicts). -/
namespace Wf
open PySem PySem.Spec PyProof.Rows L2
section
variable {X : Cx} {hs : NestedKey → Int}
theorem dh_empty {P : Program} {w : World} {H : Hp} (h : Heap) (hb : sysModules < h.objs.size) : ObjOk P w H (h.push { cls := .type "dict", data := .dict #[] }) h.objs.size (DH hs h.objs.size []) := by
  have hne : (h.objs.size == sysModules) = false := beq_eq_false_iff_ne.mpr (Nat.ne_of_gt hb)
  refine ⟨⟨_, #[], 0, Heap.get?_push_size _ rfl, ⟨rfl, rfl, rfl⟩, rfl, rfl, List.nodup_nil, hne⟩, ⟨_, Heap.get?_push_size _ rfl⟩, fun h1 h2 p k => ?_⟩
  obtain ⟨o, es, ep, e1, e2⟩ := p
  exact ⟨o, es, ep, k o e1, e2⟩
theorem dh_set {pins : List (Addr × Obj)} {σ : L2.St} {H : Hp} {s : Shared} {E : Value → Shared → Prop} {D ka : Addr} {F : FrZ} {kvs : List (NestedKey × PyData)} {xs : List (NestedKey × Addr × Value)} {k : NestedKey} {z : V} {u r : Value} {Q : Unit → Shared → Prop} (hw : hs = fun k => k.hash X.w) (hu : X.A.units + 64 < cLine) (I : L2.Inv X pins σ H s) (hD : H D = some (DH hs D xs)) (hz : xs.length < sizeLine)
    (hR : Rel2 X.K F H kvs xs) (hK : Rep X.K F H k.data (.ref ka)) (hdp : k.depth ≤ 8) (ry : RelV (.ref ka) u) (rv : RelV z r) (h : ∀ vv, RelV z vv → ∀ s', L2.Inv X pins σ (upd H D (DH hs D (storedH xs k ka vv))) s' → Q () s') : wpAny (model X.prog X.w) X.A (dictSet D u r) Q E s := by
  cases ry
  obtain ⟨hm, hsm⟩ := dh_of (fa := ⟨[], hs⟩) hw I hD hR
  have hkey : (nestedKind X.prog X.w).is s.heap k ka := ⟨nested_of I k _ _ hK rfl, hdp⟩
  refine wpAny_dictSet_heap (hsz := Nat.le_of_lt hz) (by show X.A.units + 8 < cLine; omega) hkey hm fun h' hm' hs' => h r rv _ ?_
  obtain ⟨o, es, ep, e1, e2, e3, e4, e5, e6⟩ := hm'
  refine d_write I (by rw [hD]; exact True.intro) hs' ⟨o, e1⟩ ⟨⟨o, es, ep, e1, e2, e3, ?_, e6, hsm⟩, ⟨o, e1⟩, fun h1 h2 p k => ?_⟩
  · rw [e4, hw]
    rfl
  · obtain ⟨o, es, ep, e1, e2⟩ := p
    exact ⟨o, es, ep, k o e1, e2⟩
/-- {k: v for target in iter if ..}, keys tuples: D the new dict -/
def tDcT (K : PySem.W.Frag) (hs : NestedKey → Int) (wi : TI) (g : TG) (tt : TT) (tk tv : TE) (vs : List Nat) : TE := fun σ H Q => wi σ H fun J H1 => ∀ D, H1 D = none → ∃ W : Nat → Nat → Hp → Prop, (∃ m, W 0 m (upd H1 D (DH hs D []))) ∧ ∀ i m H, W i m H →
  (J.stop i H ∧ Q (.ref D) H) ∨ (J.go i H ∧ ∃ Nx : Hp → Prop, (∀ H', Nx H' → ∃ m', m' < m ∧ W (i + 1) m' H') ∧ ∀ x H', J.yld i H x H' → g x (wipe σ vs) H' fun σ2 H2 => wipe σ2 vs = wipe σ vs ∧ tt σ2 H2 fun b H3 =>
    if b = true then tk σ2 H3 fun y H4 => tv σ2 H4 fun z H5 => ∃ (F : FrZ) (kvs : List (NestedKey × PyData)) (xs : List (NestedKey × Addr × Value)) (k : NestedKey) (ka : Addr), y = .ref ka ∧ H5 D = some (DH hs D xs) ∧ xs.length < sizeLine ∧ Rel2 K F H5 kvs xs ∧ Rep K F H5 k.data (.ref ka) ∧ k.depth ≤ 8 ∧
      ∀ vv, RelV z vv → Nx (upd H5 D (DH hs D (storedH xs k ka vv))) else Nx H3)
theorem dcT_core (hw : hs = fun k => k.hash X.w) (hu : X.A.units + 64 < cLine) {pins : List (Addr × Obj)} {s : Shared} {σ : L2.St} {H : Hp} {Q : VK} {kx vx tg iter : Expr} {ifs : List Expr} {scope : Scope} {own : List (Str × Nat)} {pos pos' : Pos} {wi : TI} {g : TG} {tt : TT} {tk tv : TE} {use : Option (Value → Sem Unit)} {Qf : Value → Shared → Prop}
    (hc : X.calm = true) (hN : X.N.Nodup) (I : L2.Inv X pins σ H s) (hi : PI X tg iter wi) (ok : BlkOk X.N X.env.scope scope own)
    (hg : ∀ (s : Shared) (H : Hp) (C : Addr) (cl : List (Str × Addr)) (fp : List Addr), PG (X.blk s H scope (compEnvC scope cl C X.env) fp) tg g) (ht : ∀ (s : Shared) (H : Hp) (C : Addr) (cl : List (Str × Addr)) (fp : List Addr), PTs (X.blk s H scope (compEnvC scope cl C X.env) fp) ifs tt)
    (hk : ∀ (s : Shared) (H : Hp) (C : Addr) (cl : List (Str × Addr)) (fp : List Addr), PE (X.blk s H scope (compEnvC scope cl C X.env) fp) kx tk)
    (he : ∀ (s : Shared) (H : Hp) (C : Addr) (cl : List (Str × Addr)) (fp : List Addr), PE (X.blk s H scope (compEnvC scope cl C X.env) fp) vx tv) (hf : ∀ x, foldedSetIterable iter X.env x = pure x)
    (h : tDcT X.K hs wi g tt tk tv (own.map (·.2)) σ H Q)
    (hRR : ∀ D C s' m H', L2.Inv X pins σ H' s' → Q (.ref D) H' → s'.heap.Ns C m → FpOk X pins H' C → compPost (model X.prog X.w) X.A X.xe use Qf (.ref D) C (.ok .next) s') :
    wpAny (model X.prog X.w) X.A (comprehension (.DictComp kx vx [⟨tg, iter, ifs, 0⟩] scope pos) scope X.env pos' newDict false (eval iter X.env) use) Qf X.xe s := by
  have hfree : ∀ y ∈ scope.names, y.2 = .free → ∃ c, X.env.cells.lookup y.1 = some c := fun y hy e => by
    rcases ok.free y hy e with k | k
    · exact I.ok.has _ (.inl k)
    · exact I.ok.has _ (.inr k)
  refine wpAny_comprehension_free (use := use) rfl hf (closure_ok hfree) ok.kind (fun y hy e => by rw [ok.uniq y hy, e])
    (thn (hi.run pins s σ H _ I h) fun xv s1 hx => thn hx fun itv s2 h2 => ?_)
  obtain ⟨it, fp, tn, J, H2, e, I2, T, st2, f2, q⟩ := h2
  subst e
  refine wpAny_newObj_type (newEnv_comp ?_)
  generalize hD : s2.heap.objs.size = D
  have hDn : H2 D = none := I2.hok.fresh (Nat.le_of_eq hD)
  obtain ⟨W, ⟨m0, w0⟩, turn⟩ := q D hDn
  -- the new list
  generalize hs3 : ({ s2 with heap := s2.heap.push { cls := .type "dict", data := .dict #[] } } : Shared) = s3
  have I3 : L2.Inv X pins σ (upd H2 D (DH hs D [])) s3 := by
    rw [← hs3]
    refine I2.laid (t' := s2.toks) (fun b o e => Heap.get?_push_of_some _ e) (Nat.le_of_eq hD) ?_
    rw [← hD]
    exact dh_empty s2.heap I2.big
  have h3 : s3.heap = s2.heap.push { cls := .type "dict", data := .dict #[] } := by rw [← hs3]
  have sz : ∀ b ∈ fp, b < s2.heap.objs.size := fun b hb => by
    obtain ⟨o, e, _⟩ := T.obj _ _ st2 b hb
    exact Heap.lt_size e
  have f3 : ∀ b ∈ fp, FpOk X pins (upd H2 D (DH hs D [])) b ∧ b < s3.heap.objs.size := fun b hb => by
    have hlt := sz b hb
    refine ⟨⟨?_, (f2 b hb).2⟩, by rw [h3, Heap.size_push]; exact Nat.lt_succ_of_lt hlt⟩
    rw [upd_ne (by rw [← hD]; exact Nat.ne_of_lt hlt)]
    exact (f2 b hb).1
  have st3 : tn 0 s3.heap := T.keep _ _ _ st2 fun b _ o e => by rw [h3]; exact Heap.get?_push_of_some _ e
  have I4 := block_start I3 ok hN f3
  have pg := hg s3 (upd H2 D (DH hs D [])) s3.heap.objs.size (cellsFrom (s3.heap.objs.size + 1) scope.names (cloFrom X.env.cells scope.names [])) fp
  have pt := ht s3 (upd H2 D (DH hs D [])) s3.heap.objs.size (cellsFrom (s3.heap.objs.size + 1) scope.names (cloFrom X.env.cells scope.names [])) fp
  have pk := hk s3 (upd H2 D (DH hs D [])) s3.heap.objs.size (cellsFrom (s3.heap.objs.size + 1) scope.names (cloFrom X.env.cells scope.names [])) fp
  have pe := he s3 (upd H2 D (DH hs D [])) s3.heap.objs.size (cellsFrom (s3.heap.objs.size + 1) scope.names (cloFrom X.env.cells scope.names [])) fp
  show codeAny _ _ (.compStart (.DictComp kx vx [⟨tg, iter, ifs, 0⟩] scope pos) 0 (.ref it) (.ref D) (compEnvC scope (cellsFrom (s3.heap.objs.size + 1) scope.names (cloFrom X.env.cells scope.names [])) s3.heap.objs.size X.env)) (compPost (model X.prog X.w) X.A X.xe use Qf (.ref D) s3.heap.objs.size) { s3 with heap := pushCells (s3.heap.push { cls := .type "dict", data := .dict #[] }) scope.names }
  have nfp : ∀ b ∈ fp, (upd H2 D (DH hs D [])) b = none := fun b hb => (f3 b hb).1.1
  generalize hce : compEnvC scope (cellsFrom (s3.heap.objs.size + 1) scope.names (cloFrom X.env.cells scope.names [])) s3.heap.objs.size X.env = ce at I4 pg pt pk pe ⊢
  have cL : ce.locals = s3.heap.objs.size := by subst hce; rfl
  generalize hH3 : upd H2 D (DH hs D []) = H3 at I3 I4 pg pt pk pe w0 nfp f3
  generalize hs4 : ({ s3 with heap := pushCells (s3.heap.push { cls := .type "dict", data := .dict #[] }) scope.names } : Shared) = s4 at I4 ⊢
  have st4 : tn 0 s4.heap := T.keep _ _ _ st3 fun b _ o e => by rw [← hs4]; exact pushCells_keeps _ _ _ _ (Heap.get?_push_of_some _ e)
  have stat : ∀ {σ' : L2.St} {H' : Hp} {s' : Shared}, L2.Inv (X.blk s3 H3 scope ce fp) [] σ' H' s' → (∀ b ∈ fp, H' b = none) → ∀ b ∈ fp, FpOk (X.blk s3 H3 scope ce fp) [] H' b := fun {σ' H' s'} I' hn b hb =>
    ⟨hn b hb, (I'.ok.exf b hb).1, I'.ok.exfs b hb, .inl hb, fun x c e => (I'.ok.exf b hb).2 x c e, fun p hp => absurd (show p ∈ ([] : List (Addr × Obj)) ++ [] from hp) (by simp)⟩
  have loop : codeAny (model X.prog X.w) X.A (.compLoop (.DictComp kx vx [⟨tg, iter, ifs, 0⟩] scope pos) 0 (.ref it) (.ref D) ce) (compPost (model X.prog X.w) X.A X.xe use Qf (.ref D) s3.heap.objs.size) s4 := by
    refine compLoop_anyD (fun n s' => ∃ i H', L2.Inv (X.blk s3 H3 scope ce fp) [] (wipe σ (own.map (·.2))) H' s' ∧ tn i s'.heap ∧ (∀ b ∈ fp, H' b = none) ∧ W i n H') ?_ m0 ⟨0, H3, I4, st4, nfp, w0⟩
    rintro n s5 ⟨i, H5, I5, st5, n5, w5⟩
    rcases turn i n H5 w5 with ⟨stop, qq⟩ | ⟨go, Nx, hNx, step⟩
    · have td := T.done (X.blk s3 H3 scope ce fp) rfl rfl rfl hc i [] s5 _ H5 (fun _ _ => False) I5 (stat I5 n5) st5 stop
      refine thnF td fun r s6 ⟨hr, I6⟩ => ?_
      subst hr
      -- back in the def's context
      have I7 : L2.Inv X pins σ H5 s6 := I3.call' (ch := fp) I6.os I6.base I6.hok I6.bare fun b hb => ⟨(f3 b hb).1.2.2.2.1, (f3 b hb).1.2.1, (f3 b hb).1.2.2.2.2.1, (f3 b hb).1.2.2.2.2.2⟩
      have nC : H5 s3.heap.objs.size = none := by
        have z : H5 ce.locals = none := I6.free
        rw [cL] at z
        exact z
      obtain ⟨m, hn, _⟩ := I6.loc
      have hn : s6.heap.Ns ce.locals m := hn
      rw [cL] at hn
      exact hRR D s3.heap.objs.size s6 m H5 I7 qq hn (I3.fpOk (Nat.le_refl _) nC)
    · have ti := T.item (X.blk s3 H3 scope ce fp) rfl rfl rfl hc i [] s5 _ H5 (fun _ _ => False) I5 (stat I5 n5) st5 go
      refine thnF ti fun r s6 ⟨u, hr, h6⟩ => ?_
      subst hr
      refine thnF h6 fun _ s7 ⟨x, H7, I7, r7, y7, st7, n7⟩ => ?_
      have I7' := I7.pinned (stat I7 n7) (T.obj _ _ st7)
      refine thnF (pg.run _ s7 _ H7 x u _ I7' r7 (step x H7 y7)) fun _ s8 ⟨σ8, H8, I8, hw8, q8⟩ => ?_
      refine thnF (pt.run _ s8 σ8 H8 _ I8 q8) fun b s9 ⟨H9, I9, q9⟩ => ?_
      -- the turn's end
      have fin : ∀ {s' : Shared} {H' : Hp}, L2.Inv (X.blk s3 H3 scope ce fp) ([] ++ pinsAt fp s7.heap) σ8 H' s' → Nx H' → ∃ m, m < n ∧ ∃ i H', L2.Inv (X.blk s3 H3 scope ce fp) [] (wipe σ (own.map (·.2))) H' s' ∧ tn i s'.heap ∧ (∀ b ∈ fp, H' b = none) ∧ W i m H' := fun {s' H'} I' nx => by
        obtain ⟨m', hm, w'⟩ := hNx H' nx
        have pin' : ∀ b ∈ fp, ∀ o, s7.heap.get? b = some o → s'.heap.get? b = some o ∧ H' b = none := fun b hb o e =>
          let z := I'.pin (b, o) (List.mem_append_right _ (List.mem_append_right _ (mem_pinsAt hb e)))
          ⟨z.1, z.2.1⟩
        have hl : (wipe σ (own.map (·.2))).length = σ8.length := by rw [← hw8, wipe_length]
        refine ⟨m', hm, i + 1, H', (I'.unpinned (pins := [])).weak hl (fun j v e => ?_), T.keep _ _ _ st7 fun b hb o e => (pin' b hb o e).1, fun b hb => ?_, w'⟩
        · rw [← hw8] at e
          exact (wipe_some e).1
        · obtain ⟨o, e, _⟩ := T.obj _ _ st7 b hb
          exact (pin' b hb o e).2
      cases b with
      | false =>
        simp only [Bool.false_eq_true, if_false] at q9 ⊢
        exact fin I9 q9
      | true =>
        simp only [if_true] at q9 ⊢
        refine thnF (pk.run _ s9 σ8 H9 _ I9 q9) fun z s10 ⟨yk, H10, I10, r10, q10⟩ => ?_
        refine thnF (pe.run _ s10 σ8 H10 _ I10 q10) fun z2 s11 ⟨yv, H11, I11, r11, F, kvs, xs, k, ka, ek, hD11, hz11, hR, hK, hdp, nx⟩ => ?_
        subst ek
        exact dh_set (X := X.blk s3 H3 scope ce fp) hw hu I11 hD11 hz11 hR hK hdp r10 r11 fun vv rv s12 I12 => fin I12 (nx vv rv)
  exact codeAny_compStart_dict loop (T.self X.A 0 _ _ _ st4 loop)
theorem pe_dcT (hw : hs = fun k => k.hash X.w) (hu : X.A.units + 64 < cLine) {kx vx tg iter : Expr} {ifs : List Expr} {scope : Scope} {own : List (Str × Nat)} {pos : Pos} {wi : TI} {g : TG} {tt : TT} {tk tv : TE} (hc : X.calm = true) (hN : X.N.Nodup) (hi : PI X tg iter wi) (ok : BlkOk X.N X.env.scope scope own)
    (hg : ∀ (s : Shared) (H : Hp) (C : Addr) (cl : List (Str × Addr)) (fp : List Addr), PG (X.blk s H scope (compEnvC scope cl C X.env) fp) tg g) (ht : ∀ (s : Shared) (H : Hp) (C : Addr) (cl : List (Str × Addr)) (fp : List Addr), PTs (X.blk s H scope (compEnvC scope cl C X.env) fp) ifs tt)
    (hk : ∀ (s : Shared) (H : Hp) (C : Addr) (cl : List (Str × Addr)) (fp : List Addr), PE (X.blk s H scope (compEnvC scope cl C X.env) fp) kx tk)
    (he : ∀ (s : Shared) (H : Hp) (C : Addr) (cl : List (Str × Addr)) (fp : List Addr), PE (X.blk s H scope (compEnvC scope cl C X.env) fp) vx tv) (hf : ∀ x, foldedSetIterable iter X.env x = pure x) :
    PE X (.DictComp kx vx [⟨tg, iter, ifs, 0⟩] scope pos) (tDcT X.K hs wi g tt tk tv (own.map (·.2))) := by
  refine ⟨fun pins s σ H Q I h => ?_⟩
  rw [arm_eval_DictComp]
  refine dcT_core hw hu hc hN I hi ok hg ht hk he hf h fun D C s' m H' I' q hn f => ⟨m, hn, fun h'' sb => ?_⟩
  obtain ⟨f0, f1, f2, f3, f4, f5⟩ := f
  exact ⟨.ref D, H', I'.turned (t' := s'.toks) (fun b o hb e => (sb.2 b hb).trans e) f0 f1 f3 f4 f5, rfl, q⟩
theorem ps_setDcT (hw : hs = fun k => k.hash X.w) (hu : X.A.units + 64 < cLine) {i : Nat} {y : Str} {py : Pos} {kx vx tg iter : Expr} {ifs : List Expr} {scope : Scope} {own : List (Str × Nat)} {pos spos : Pos} {wi : TI} {g : TG} {tt : TT} {tk tv : TE} (hc : X.calm = true) (hN : X.N.Nodup) (hy : X.N[i]? = some y) (hyl : X.env.scope.names.lookup y = some .local)
    (hsw : swapsWith (.DictComp kx vx [⟨tg, iter, ifs, 0⟩] scope pos) (some (.Name y py)) spos.line X.env = pure true) (hi : PI X tg iter wi) (ok : BlkOk X.N X.env.scope scope own)
    (hg : ∀ (s : Shared) (H : Hp) (C : Addr) (cl : List (Str × Addr)) (fp : List Addr), PG (X.blk s H scope (compEnvC scope cl C X.env) fp) tg g) (ht : ∀ (s : Shared) (H : Hp) (C : Addr) (cl : List (Str × Addr)) (fp : List Addr), PTs (X.blk s H scope (compEnvC scope cl C X.env) fp) ifs tt)
    (hk : ∀ (s : Shared) (H : Hp) (C : Addr) (cl : List (Str × Addr)) (fp : List Addr), PE (X.blk s H scope (compEnvC scope cl C X.env) fp) kx tk)
    (he : ∀ (s : Shared) (H : Hp) (C : Addr) (cl : List (Str × Addr)) (fp : List Addr), PE (X.blk s H scope (compEnvC scope cl C X.env) fp) vx tv) (hf : ∀ x, foldedSetIterable iter X.env x = pure x) :
    PS X (.Assign [.Name y py] (.DictComp kx vx [⟨tg, iter, ifs, 0⟩] scope pos) spos) (tAsg (tDcT X.K hs wi g tt tk tv (own.map (·.2))) (gName i)) := by
  refine ⟨fun pins s σ H D I h => ?_⟩
  rw [exec_Assign_Name_used _ _ _ _ hsw]
  refine wpAny_bind (wpAny_standAt (wpAny_bind ?_))
  show wpAny _ X.A (do let _ ← comprehension (.DictComp kx vx [⟨tg, iter, ifs, 0⟩] scope pos) scope X.env (firstIterPos [⟨tg, iter, ifs, 0⟩] pos) newDict false (eval iter X.env) (some (assign (.Name y py) X.env))) _ _ s
  have h : tDcT X.K hs wi g tt tk tv (own.map (·.2)) σ H (fun x H1 => gName i x σ H1 D.nx) := h
  refine wpAny_bind (thn (dcT_core (Qf := fun _ s' => SP X pins D .next s') hw hu hc hN I hi ok hg ht hk he hf h fun L C s' m H' I' q hn f => ?_) fun _ s' hq => wpAny_pure (wpAny_pure hq))
  show wpAny _ _ (assign (.Name y py) X.env (.ref L)) _ _ _
  refine wpAny_assign_Name (store_ok2 (v := V.ref L) I' hN hy (.inl hyl) rfl (fun s2 I2 ⟨a, sb, ha⟩ => ?_) (.inr hyl))
  obtain ⟨f0, f1, f2, f3, f4, f5⟩ := f
  have haC : C ≠ a := by
    rcases ha with z | z
    · rw [z]; exact f1
    · exact fun e => f4 y a z e.symm
  refine ⟨m, hn.sameBut sb haC, fun h3 sb3 => ?_⟩
  exact ⟨_, H', I2.turned (t' := s2.toks) (fun b o hb e => (sb3.2 b hb).trans e) f0 f1 f3 f4 f5, q⟩
end
end Wf
set_option maxRecDepth 100000
set_option maxHeartbeats 4000000
/-! W26: dict comprehensions whose keys are tuples: the reading. -/
namespace Wf
open PySem PySem.Spec PyProof.Rows L2
section
variable {K : PySem.W.Frag} {fa : FaW} {F F' : FrZ} {m m' : List Addr} {S S' : Store} {H H' : Hp}
theorem adopt_any {c : Cell} (st : Step F m S H F' m' S' H') (r : SR K fa F' m' S' H') {D : Addr} (hD : H D = none) (hH : H' D ≠ none) (hm : D ∉ m') (hc : CellOk K fa F' m' H' D c) (hw : ∀ lk vs j, c = .lst lk vs → Val.r j ∈ vs → j < S'.length) :
    Step F m S H F' (m' ++ [D]) (S' ++ [c]) H' ∧ SR K fa F' (m' ++ [D]) (S' ++ [c]) H' := by
  have pm : m' <+: m' ++ [D] := List.prefix_append _ _
  refine ⟨⟨st.sub, st.pre.trans pm, st.fr, fun k a xs h1 h2 => ?_, st.new, fun a h => ?_, st.up⟩, ⟨by simp [r.len], fun k a c' h1 h2 => ?_, fun i j a h1 h2 => ?_, r.live, fun a h => ?_, fun k lk xs j h1 h2 => ?_⟩⟩
  · obtain ⟨e1, e2⟩ := st.lk k a xs h1 h2
    exact ⟨e1, by rw [List.getElem?_append_left (get_len e2)]; exact e2⟩
  · rcases List.mem_append.mp h with h | h
    · exact st.mnew a h
    · rw [List.mem_singleton.mp h]
      exact .inr hD
  · by_cases hk : k < m'.length
    · rw [List.getElem?_append_left hk] at h1
      rw [List.getElem?_append_left (by rw [← r.len]; exact hk)] at h2
      exact cell_mono (fun b hb => ⟨hb, rfl⟩) pm id rfl (r.cell k a c' h1 h2)
    · have hk' : k = m'.length := by
        have := get_len h1
        simp at this
        omega
      subst hk'
      simp at h1
      subst h1
      rw [r.len] at h2
      simp at h2
      subst h2
      exact cell_mono (fun b hb => ⟨hb, rfl⟩) pm id rfl hc
  · by_cases hi : i < m'.length <;> by_cases hj : j < m'.length
    · rw [List.getElem?_append_left hi] at h1
      rw [List.getElem?_append_left hj] at h2
      exact r.inj i j a h1 h2
    · rw [List.getElem?_append_left hi] at h1
      have hj' : j = m'.length := by
        have := get_len h2
        simp at this
        omega
      subst hj'
      simp at h2
      subst h2
      exact absurd (mem_of_get h1) hm
    · rw [List.getElem?_append_left hj] at h2
      have hi' : i = m'.length := by
        have := get_len h1
        simp at this
        omega
      subst hi'
      simp at h1
      subst h1
      exact absurd (mem_of_get h2) hm
    · have a1 := get_len h1
      have a2 := get_len h2
      simp at a1 a2
      omega
  · rcases List.mem_append.mp h with h | h
    · exact r.mlive a h
    · rw [List.mem_singleton.mp h]; exact hH
  · by_cases hk : k < S'.length
    · rw [List.getElem?_append_left hk] at h1
      exact r.wf k lk xs j h1 h2
    · have hk' : k = S'.length := by
        have := get_len h1
        simp at this
        omega
      subst hk'
      simp at h1
      exact hw lk xs j h1 h2
theorem rel2_len : ∀ {kvs : List (NestedKey × PyData)} {xs : List (NestedKey × Addr × Value)}, Rel2 K F H kvs xs → xs.length = kvs.length := fun h => by
  have := congrArg List.length (rel2_keys h)
  simpa using this
theorem rel2_app : ∀ {kvs : List (NestedKey × PyData)} {xs : List (NestedKey × Addr × Value)} {k : NestedKey} {d : PyData} {ka : Addr} {u : V} {vv : Value}, Rel2 K F H kvs xs → k.depth ≤ 8 → Rep K F H k.data (.ref ka) → RelV u vv → Rep K F H d u → Rel2 K F H (kvs ++ [(k, d)]) (xs ++ [(k, ka, vv)])
  | [], xs, k, d, ka, u, vv, h, h1, h2, h3, h4 => by
    have h : xs = [] := h
    subst h
    exact ⟨ka, vv, [], u, rfl, h1, h2, h3, h4, rfl⟩
  | (k', d') :: r, xs, k, d, ka, u, vv, ⟨ka', vv', xr, u', e, g0, g1, g2, g3, g4⟩, h1, h2, h3, h4 => by
    subst e
    exact ⟨ka', vv', _, u', rfl, g0, g1, g2, g3, rel2_app g4 h1 h2 h3 h4⟩
theorem rel2_map {k : NestedKey} {d : PyData} {u : V} {vv : Value} (h3 : RelV u vv) (h4 : Rep K F H d u) : ∀ {kvs : List (NestedKey × PyData)} {xs : List (NestedKey × Addr × Value)}, Rel2 K F H kvs xs → Rel2 K F H (kvs.map fun p => if p.1 = k then (p.1, d) else p) (xs.map (putAt k vv))
  | [], xs, h => by
    have h : xs = [] := h
    subst h
    exact rfl
  | (k', d') :: r, xs, ⟨ka', vv', xr, u', e, g0, g1, g2, g3, g4⟩ => by
    subst e
    rw [List.map_cons, List.map_cons]
    unfold putAt
    by_cases hk : k' = k
    · simp only [hk, if_true]
      subst hk
      exact ⟨ka', vv, _, u, rfl, g0, g1, h3, h4, rel2_map h3 h4 g4⟩
    · simp only [hk, if_false]
      exact ⟨ka', vv', _, u', rfl, g0, g1, g2, g3, rel2_map h3 h4 g4⟩
theorem rel2_put {k : NestedKey} {d : PyData} {ka : Addr} {u : V} {vv : Value} {kvs : List (NestedKey × PyData)} {xs : List (NestedKey × Addr × Value)} (h : Rel2 K F H kvs xs) (h1 : k.depth ≤ 8) (h2 : Rep K F H k.data (.ref ka)) (h3 : RelV u vv) (h4 : Rep K F H d u) : Rel2 K F H (dput kvs k d) (storedH xs k ka vv) := by
  have hat := rel2_at (k := k) h
  unfold dput
  cases hd : dlook kvs k with
  | none =>
    rw [hd] at hat
    rw [storedH_new hat]
    exact rel2_app h h1 h2 h3 h4
  | some d' =>
    rw [hd] at hat
    obtain ⟨ka', vv', u', e, _⟩ := hat
    rw [storedH_old e]
    exact rel2_map h3 h4 h
theorem dput_len (kvs : List (NestedKey × PyData)) (k : NestedKey) (d : PyData) : kvs.length ≤ (dput kvs k d).length := by
  unfold dput
  split
  · simp
  · simp
theorem dictOf_cons {p : Val} {r : List Val} {kvs kf : List (NestedKey × PyData)} (h : dictOf kvs (p :: r) = some kf) : ∃ kd vd k, p = .d (.tuple [kd, vd]) ∧ keyN kd = some k ∧ isTupK k = true ∧ k.depth ≤ 8 ∧ dictOf (dput kvs k vd) r = some kf := by
  unfold dictOf at h
  split at h
  · rename_i z; cases z
  · rename_i kd vd r' e
    cases e
    split at h
    · rename_i k hk
      split at h
      · rename_i hb
        rw [Bool.and_eq_true] at hb
        exact ⟨kd, vd, k, rfl, hk, hb.1, of_decide_eq_true hb.2, h⟩
      · cases h
    · cases h
  · cases h
theorem dictOf_len : ∀ {ps : List Val} {kvs kf : List (NestedKey × PyData)}, dictOf kvs ps = some kf → kvs.length ≤ kf.length
  | [], kvs, kf, h => by cases h; exact Nat.le_refl _
  | p :: r, kvs, kf, h => by
    obtain ⟨kd, vd, k, _, _, _, _, h5⟩ := dictOf_cons h
    exact Nat.le_trans (dput_len kvs k vd) (dictOf_len h5)
end
def fDComp (own tg : List Nat) (tu : Bool) (gi : EnvW → SM (Val × List Val)) (fc fk fv : EnvW → SM Val) : EnvW → SM Val := fun ρ => sbind (gi ρ) fun (w, xs) => sbind (locked w (mapF (turnD own tg tu ρ fc fk fv) xs)) mkD
theorem turnD_some {own tg : List Nat} {tu : Bool} {ρ : EnvW} {fc fk fv : EnvW → SM Val} {x : Val} {S : Store} {p : List Val × Store} (h : turnD own tg tu ρ fc fk fv x S = some p) : ∃ ρ1 b S1, bindT tg tu x (wipeW ρ own) = some ρ1 ∧ tst fc ρ1 S = some (b, S1) ∧
    if b = true then ∃ kd vd S2, fk ρ1 S1 = some (.d kd, S2) ∧ fv ρ1 S2 = some (.d vd, p.2) ∧ p.1 = [.d (.tuple [kd, vd])] else p.1 = [] ∧ p.2 = S1 := by
  cases hb : bindT tg tu x (wipeW ρ own) with
  | none =>
    simp only [turnD, hb] at h
    cases h
  | some ρ1 =>
    simp only [turnD, hb] at h
    obtain ⟨t, S5, c1, c2⟩ := sbind_some h
    obtain ⟨b, S6, c3, c4⟩ := sbind_some c2
    refine ⟨ρ1, b, S6, rfl, (sbind_eq c1).trans c3, ?_⟩
    cases b with
    | true =>
      obtain ⟨k, S7, d1, d2⟩ := sbind_some c4
      obtain ⟨v, S8, d3, d4⟩ := sbind_some d2
      unfold pairD at d4
      split at d4
      · rename_i kd vd
        obtain ⟨d5, d6⟩ := sret_some d4
        exact ⟨kd, vd, S7, d1, by rw [d6]; exact d3, d5⟩
      · cases d4
    | false =>
      obtain ⟨d3, d4⟩ := sret_some c4
      exact ⟨d3, d4⟩
section
variable {fa : FaW}
theorem dc_of {K : PySem.W.Frag} {own tg : List Nat} {tu : Bool} {gi : EnvW → SM (Val × List Val)} {fc fk fv : EnvW → SM Val} (htg : ∀ i ∈ tg, i ∈ own) {σ : L2.St} {H : Hp} {Q : VK} (h : TV K fa (fDComp own tg tu gi fc fk fv) σ H Q) :
    tDcT K fa.h (TIW K fa tu gi) (TGW K fa tg tu) (TB K fa (tst fc)) (TV K fa fk) (TV K fa fv) own σ H Q := by
  obtain ⟨F, m, ρ, S, v, S', r0, e0, h0, k0⟩ := h
  obtain ⟨⟨w, xs⟩, S1, h1, h2⟩ := sbind_some h0
  obtain ⟨ys, S3, h3, h4⟩ := sbind_some h2
  obtain ⟨S2, h5, h6⟩ := locked_some h3
  simp only at h5 h6
  obtain ⟨kf, hkf, hz, hv⟩ : ∃ kf, dictOf [] ys = some kf ∧ kf.length < sizeLine ∧ (v, S') = (.r S3.length, S3 ++ [.dct false kf]) := by
    unfold mkD at h4
    split at h4
    · rename_i kf hk
      split at h4
      · exact ⟨kf, hk, by assumption, (Option.some.inj h4).symm⟩
      · cases h4
    · cases h4
  refine ⟨F, m, ρ, S, w, xs, S1, r0, e0, h1, fun F1 m1 H1 J st1 r1 wo => fun D hD => ?_⟩
  have rl := lock_SR r1 w
  refine ⟨fun i n H2 => n = xs.length - i ∧ ∃ (F2 : FrZ) (m2 : List Addr) (Sx : Store) (kvs : List (NestedKey × PyData)) (us : List (NestedKey × Addr × Value)) (ys' : List Val), Step F1 m1 (lockAt S1 w) H1 F2 m2 Sx H2 ∧ SR K fa F2 m2 Sx H2 ∧ D ∉ m2 ∧ ¬ F2 D ∧ H2 D = some (DH fa.h D us) ∧
    Rel2 K F2 H2 kvs us ∧ mapF (turnD own tg tu ρ fc fk fv) (xs.drop i) Sx = some (ys', S2) ∧ dictOf kvs ys' = some kf, ?_, ?_⟩
  · have nF : ¬ F1 D := fun z => r1.live D z hD
    have nm : D ∉ m1 := fun z => r1.mlive D z hD
    exact ⟨xs.length, by simp, F1, m1, _, [], [], ys, Step.refl.poke hD rl.mlive _, rl.poke nm nF _, nm, nF, upd_same, rfl, h5, hkf⟩
  · rintro i n H2 ⟨rfl, F2, m2, Sx, kvs, us, ys', st2, r2, nm2, nF2, hH2, ha, hm, hy⟩
    by_cases hi : i < xs.length
    · refine .inr ⟨((wo F2 m2 Sx H2 (st2.later rl.live) r2 i).1 xs[i] (List.getElem?_eq_getElem hi)).1, fun H' => _, fun H' hN => ⟨xs.length - (i + 1), by omega, hN⟩, fun u H3 hyl => ?_⟩
      obtain ⟨F3, st3, r3, hit⟩ := ((wo F2 m2 Sx H2 (st2.later rl.live) r2 i).1 xs[i] (List.getElem?_eq_getElem hi)).2 u H3 hyl
      rw [drop_get hi] at hm
      obtain ⟨y, S4, ys2, b1, b2, b3⟩ := mapF_cons hm
      simp only at b2 b3
      subst b3
      obtain ⟨ρ1, b, S6, hb, c1, c4⟩ := turnD_some b1
      simp only at c4
      obtain ⟨hH3, nm3, nF3⟩ := st3.far (by rw [hH2]; simp) nm2 nF2
      rw [hH2] at hH3
      refine ⟨F3, m2, Sx, wipeW ρ own, xs[i], ρ1, r3, (st3.er r2 (st2.er rl (st1.er r0 e0))).wipe own, hit, hb, fun σ1 e1 hl ho => ⟨wipe_eq_own htg e1 hl ho, ?_⟩⟩
      refine ⟨F3, m2, ρ1, Sx, b, S6, r3, e1, c1, fun F4 m4 H4 st4 r4 => ?_⟩
      obtain ⟨hH4, nm4, nF4⟩ := st4.far (by rw [hH3]; simp) nm3 nF3
      rw [hH3] at hH4
      have ha4 := rel2_mono (st4.keepF r3) (rel2_mono (st3.keepF r2) ha)
      have st14 := st2.trans (st3.trans st4)
      cases b with
      | true =>
        obtain ⟨kd, vd, S7, d1, d2, d3⟩ := c4
        subst d3
        obtain ⟨kd', vd', k, q1, q2, q3, q4, q5⟩ := dictOf_cons hy
        cases q1
        have hkd := keyN_data kd k q2
        refine ⟨F4, m4, ρ1, S6, _, S7, r4, st4.er r3 e1, d1, fun F5 m5 H5 u5 st5 r5 v5 => ?_⟩
        obtain ⟨hH5, nm5, nF5⟩ := st5.far (by rw [hH4]; simp) nm4 nF4
        rw [hH4] at hH5
        refine ⟨F5, m5, ρ1, S7, _, _, r5, st5.er r4 (st4.er r3 e1), d2, fun F6 m6 H6 u6 st6 r6 v6 => ?_⟩
        obtain ⟨hH6, nm6, nF6⟩ := st6.far (by rw [hH5]; simp) nm5 nF5
        rw [hH5] at hH6
        have ha6 := rel2_mono (st6.keepF r5) (rel2_mono (st5.keepF r4) ha4)
        have v5' : Rep K F6 H6 k.data u5 := by
          rw [hkd]
          exact Rep.mono (st6.keepF r5) _ _ v5
        obtain ⟨ka, rfl⟩ : ∃ ka, u5 = .ref ka := by
          cases k with
          | tup ks =>
            have z : Rep K F6 H6 (.tuple (NestedKey.datas ks)) u5 := v5'
            unfold Rep at z
            obtain ⟨a, _, e, _⟩ := z
            exact ⟨a, e⟩
          | _ => cases q3
        refine ⟨F6, kvs, us, k, ka, rfl, hH6, ?_, ha6, v5', q4, fun vv rv => ?_⟩
        · rw [rel2_len ha6]
          have := Nat.le_trans (dput_len kvs k vd) (dictOf_len q5)
          omega
        · have hput := rel2_put ha6 q4 v5' rv v6
          exact ⟨rfl, F6, m6, _, dput kvs k vd, _, ys2, ((st14.trans st5).trans st6).poke hD rl.mlive _, r6.poke nm6 nF6 _, nm6, nF6, upd_same, rel2_mono (fun b hb => ⟨hb, upd_ne fun e => nF6 (by rw [← e]; exact hb)⟩) hput, b2, q5⟩
      | false =>
        obtain ⟨d1, d2⟩ := c4
        subst d1 d2
        exact ⟨rfl, F4, m4, _, kvs, us, ys2, st14, r4, nm4, nF4, hH4, ha4, b2, hy⟩
    · refine .inl ⟨(wo F2 m2 Sx H2 (st2.later rl.live) r2 i).2 (by omega), ?_⟩
      rw [List.drop_eq_nil_of_le (by omega)] at hm
      obtain ⟨q1, q2⟩ := sret_some hm
      simp only at q1 q2
      subst q1 q2
      have hy : kvs = kf := Option.some.inj hy
      subst hy
      subst h6
      cases hv
      have ru := unlock_SR (w := w) (S := S1) r2
      obtain ⟨a1, a2⟩ := adopt_any (c := .dct false kvs) (unlock_Step st2) ru hD (by rw [hH2]; simp) nm2 ⟨nF2, hz, .inr ⟨us, hH2, ha⟩⟩ (fun _ _ _ z => by cases z)
      exact k0 _ _ _ _ (st1.trans a1) a2 ⟨D, by rw [← ru.len]; simp, rfl⟩
end
end Wf
set_option maxRecDepth 100000
set_option maxHeartbeats 4000000
/-! W18: a term of the text and its core term. -/
namespace Wf
open PySem PySem.Spec PyProof.Rows L2

structure CTab where
  N : List Str
  fns : List (Str × Nat)
  ps : List Bool
  blts : List Str
def visB (sc : Scope) (x : Str) : Bool := decide (sc.names.lookup x = some .local) || decide (sc.names.lookup x = some .cell) || decide (sc.names.lookup x = some .free)
def glB (sc : Scope) (x : Str) : Bool := decide (sc.names.lookup x = some .globalImplicit)
def nameB (x : Str) : Bool := decide (x ≠ Str.ofString "__debug__") && decide (x ≠ Str.ofString "__classdict__")
def bltB (C : CTab) (sc : Scope) (x : Str) : Bool := decide (x ∈ C.blts) && glB sc x
/-- a block's scope within another -/
def relS (scope sc : Scope) : Scope := { scope with names := scope.names.map fun (n, k) => if (k == .free && sc.kind == .function && sc.names.lookup n == some .cell) then (n, .cell) else (n, k) }
theorem relS_eq {scope : Scope} {cl : List (Str × Addr)} {D : Addr} {env : Env} {sc : Scope} (h : env.scope = sc) : (compEnvC scope cl D env).scope = relS scope sc := by
  subst h
  rfl
def cellsOf (sc : Scope) : List Str := (sc.names.filter fun y => decide (y.2 = .cell)).map (·.1)
/-- a name that a target may set -/
def setB (ow : List Str) (sc : Scope) (x : Str) : Bool := decide (sc.names.lookup x = some .local) || (decide (sc.names.lookup x = some .cell) && decide (x ∈ ow))
def tgtsB (N : List Str) (ow : List Str) (sc : Scope) : List Nat → List Expr → Bool
  | [], [] => true
  | i :: is, .Name x _ :: es => decide (N[i]? = some x) && setB ow sc x && tgtsB N ow sc is es
  | _, _ => false
def tgtB (N : List Str) (ow : List Str) (sc : Scope) (tg : List Nat) (tu : Bool) : Expr → Bool
  | .Name x _ => match tg with
    | [i] => !tu && decide (N[i]? = some x) && setB ow sc x
    | _ => false
  | .Tuple es _ _ => tu && tgtsB N ow sc tg es
  | _ => false
/-- the names of a block of its own, with their slots -/
def ownOf (N : List Str) (own : List Nat) : List (Str × Nat) := own.filterMap fun i => (N[i]?).map fun x => (x, i)
def blkB (N : List Str) (sc scope : Scope) (own : List Nat) : Bool :=
  decide (scope.kind = .function) && scope.names.all (fun y => decide (scope.names.lookup y.1 = some y.2)) && decide ((ownOf N own).map (·.2) = own) &&
  scope.names.all (fun y => !decide (y.2 = .free) || decide (sc.names.lookup y.1 = some .cell) || decide (sc.names.lookup y.1 = some .free)) &&
  scope.names.all (fun y => !(decide (y.2 = .local) || decide (y.2 = .cell)) || decide (y.1 ∈ (ownOf N own).map (·.1)) || decide (y.1 ∉ N))
theorem blk_ok {N : List Str} {sc scope : Scope} {own : List Nat} (h : blkB N sc scope own = true) : BlkOk N sc scope (ownOf N own) ∧ (ownOf N own).map (·.2) = own := by
  unfold blkB at h
  simp only [Bool.and_eq_true, List.all_eq_true, Bool.or_eq_true, Bool.not_eq_true', decide_eq_true_eq, decide_eq_false_iff_not, Bool.or_eq_false_iff] at h
  obtain ⟨⟨⟨⟨h1, h2⟩, h3⟩, h4⟩, h5⟩ := h
  refine ⟨⟨h1, h2, fun p hp => ?_, fun y hy e => ?_, fun y hy e => ?_⟩, h3⟩
  · obtain ⟨i, hi, e⟩ := List.mem_filterMap.mp hp
    obtain ⟨x, hx, rfl⟩ := Option.map_eq_some_iff.mp e
    exact hx
  · rcases h4 y hy with (h | h) | h
    · exact absurd e h
    · exact .inl h
    · exact .inr h
  · rcases h5 y hy with (h | h) | h
    · rcases e with e | e
      · exact absurd e h.1
      · exact absurd e h.2
    · exact .inl h
    · exact .inr h
def plainIxB : Expr → Bool
  | .Slice .. => false
  | _ => true
theorem plainIx_of {b : Expr} (h : plainIxB b = true) : PlainIx b := by
  intro o i
  cases b <;> first | rfl | cases h
def baseB : Expr → Bool
  | .Call .. => false
  | _ => true
theorem base_of {o : Expr} {x : Str} {env : Env} (h : baseB o = true) : attributeBase o x env (eval o env) = eval o env := by
  cases o <;> first | rfl | cases h
def notSet : Expr → Bool
  | .Set .. => false
  | _ => true
theorem folded_of {e : Expr} {env : Env} (h : notSet e = true) (x : Value) : foldedSetIterable e env x = pure x := by
  cases e <;> first | rfl | cases h
def notStar : Expr → Bool
  | .Starred .. => false
  | _ => true
theorem star_cons {e : Expr} {es : List Expr} {env : Env} (h : notStar e = true) : starEach (e :: es) env = (false, eval e env) :: starEach es env := by
  cases e <;> first | rfl | cases h
/-- a test that is a value's truth -/
def plainT : Expr → Bool
  | .BoolOp .. => false
  | .UnaryOp .Not _ _ => false
  | .IfExp .. => false
  | .Compare .. => false
  | _ => true
theorem plainT_of {e : Expr} {env : Env} (h : plainT e = true) (whole : Sem Value) : isTrue e env whole = (do let v ← whole; standAt e.pos; holding [v] (truthy v)) := by
  cases e with
  | UnaryOp op a p => cases op <;> first | rfl | cases h
  | _ => first | rfl | cases h
def mtB (m : MT) (x : Str) : Bool := decide (x = Str.ofString (mtName m))
def biName : BI → String
  | .len => "len"
  | .abs => "abs"
  | .int => "int"
  | .tuple => "tuple"
  | .list => "list"
  | .sorted => "sorted"
  | .sum => "sum"
  | .min => "min"
  | .max => "max"
  | .all => "all"
  | .any => "any"
  | _ => ""
def simpleBI : BI → Bool
  | .isinst _ => false
  | .setlen => false
  | .sortedset => false
  | _ => true
def keepBI : BI → Bool
  | .list => true
  | .sorted => true
  | _ => false
mutual
def chkE (C : CTab) (sc : Scope) : CE → Expr → Bool
  | .var i, e => match e with
    | .Name x _ => decide (C.N[i]? = some x) && visB sc x && nameB x
    | _ => false
  | .int n, e => match e with
    | .Constant (.int m) _ _ => decide (n = m)
    | _ => false
  | .str n, e => match e with
    | .Constant (.str m) _ _ => decide (n = m)
    | _ => false
  | .bl n, e => match e with
    | .Constant (.bool m) _ _ => decide (n = m)
    | _ => false
  | .non, e => match e with
    | .Constant .none _ _ => true
    | _ => false
  | .fn k, e => match e with
    | .Name x _ => decide (C.fns.lookup x = some k) && glB sc x && nameB x
    | _ => false
  | .bin op a b, e => match e with
    | .BinOp l o r _ => decide (op = o) && chkE C sc a l && chkE C sc b r
    | _ => false
  | .neg a, e => match e with
    | .UnaryOp .USub l _ => chkE C sc a l
    | _ => false
  | .cmp op a b, e => match e with
    | .Compare l [o] [r] _ => decide (op = o) && chkE C sc a l && chkE C sc b r && !behindInMarks o r
    | _ => false
  | .cmp2 op op' a b c, e => match e with
    | .Compare l [o, o'] [r, r'] _ => decide (op = o) && decide (op' = o') && chkE C sc a l && chkE C sc b r && chkE C sc c r' && !lastMarks [o, o'] [r, r']
    | _ => false
  | .cmp3 op op' op2 a b c d, e => match e with
    | .Compare l [o, o', o2] [r, r', r2] _ => decide (op = o) && decide (op' = o') && decide (op2 = o2) && chkE C sc a l && chkE C sc b r && chkE C sc c r' && chkE C sc d r2 && !lastMarks [o, o', o2] [r, r', r2]
    | _ => false
  | .and a b, e => match e with
    | .BoolOp .And (x :: y :: rest) p => chkE C sc a x && (match rest with
      | [] => chkE C sc b y
      | _ :: _ => chkE C sc b (.BoolOp .And (y :: rest) p))
    | _ => false
  | .or a b, e => match e with
    | .BoolOp .Or (x :: y :: rest) p => chkE C sc a x && (match rest with
      | [] => chkE C sc b y
      | _ :: _ => chkE C sc b (.BoolOp .Or (y :: rest) p))
    | _ => false
  | .not a, e => match e with
    | .UnaryOp .Not l _ => chkE C sc a l
    | _ => false
  | .ife c a b, e => match e with
    | .IfExp t x y _ => chkE C sc c t && chkE C sc a x && chkE C sc b y
    | _ => false
  | .tup es, e => match e with
    | .Tuple xs _ _ => chkEs C sc es xs
    | _ => false
  | .lst _ es, e => match e with
    | .List xs _ => chkEs C sc es xs
    | _ => false
  | .keep k, e => chkK C sc k e
  | .idx a i, e => match e with
    | .Subscript x y _ => chkE C sc a x && chkE C sc i y && plainIxB y
    | _ => false
  | .slc a lo hi, e => match e with
    | .Subscript x (.Slice l h none _) _ => chkE C sc a x && (match l with
        | none => lo.isNon
        | some l => !lo.isNon && chkE C sc lo l) && (match h with
        | none => hi.isNon
        | some h => !hi.isNon && chkE C sc hi h)
    | _ => false
  | .rev a, e => match e with
    | .Subscript x (.Slice none none (some (.UnaryOp .USub (.Constant (.int 1) _ _) _)) _) _ => chkE C sc a x
    | _ => false
  | .callp k es, e => match e with
    | .Call (.Name x _) xs [] _ => decide (C.fns.lookup x = some k) && glB sc x && nameB x && C.ps.getD k false && chkEs C sc es xs
    | _ => false
  | .calls k es, e => match e with
    | .Call (.Name x _) xs [] _ => decide (C.fns.lookup x = some k) && glB sc x && nameB x && !C.ps.getD k false && chkEs C sc es xs
    | _ => false
  | .callv i es, e => match e with
    | .Call (.Name x _) (y :: ys) [] _ => decide (C.N[i]? = some x) && visB sc x && nameB x && chkEs C sc es (y :: ys)
    | _ => false
  | .bi b es, e => match b with
    | .isinst t => match e with
      | .Call (.Name f _) [x, .Name y _] [] _ => decide (f = Str.ofString "isinstance") && bltB C sc f && decide (t ∈ ["tuple", "list", "int", "str", "bool"]) && decide (y = Str.ofString t) && bltB C sc y && chkEs C sc es [x]
      | _ => false
    | .setlen => match e with
      | .Call (.Name f _) [.Call (.Name y _) [x] [] _] [] _ => decide (f = Str.ofString "len") && bltB C sc f && decide (y = Str.ofString "set") && bltB C sc y && chkEs C sc es [x]
      | _ => false
    | .sortedset => match e with
      | .Call (.Name f _) [.Call (.Name y _) [x] [] _] [] _ => decide (f = Str.ofString "sorted") && bltB C sc f && decide (y = Str.ofString "set") && bltB C sc y && chkEs C sc es [x]
      | _ => false
    | b => match e with
      | .Call (.Name x _) (y :: ys) [] _ => simpleBI b && decide (x = Str.ofString (biName b)) && bltB C sc x && chkEs C sc es (y :: ys)
      | _ => false
  | .mt m o es, e => match e with
    | .Call (.Attribute x n ap) xs [] cp => mtB m n && decide (ap.endLine = cp.line) && baseB x && decide (xs.length < 30) && chkE C sc o x && chkEs C sc es xs
    | _ => false
  | .comp _ own tg tu it c e, ex => match ex with
    | .ListComp elt [⟨t, iter, ifs, 0⟩] scope _ => blkB C.N sc scope own && tgtB C.N (cellsOf scope) (relS scope sc) tg tu t && tg.all (fun i => decide (i ∈ own)) && notSet iter && chkI C sc tu t it iter && chkE C (relS scope sc) e elt && (match ifs with
      | [] => (match c with
        | .bl true => true
        | _ => false)
      | [x] => chkE C (relS scope sc) c x
      | _ => false)
    | _ => false
  | .dcomp own tg tu it c ke ve, ex => match ex with
    | .DictComp kx vx [⟨t, iter, ifs, 0⟩] scope _ => blkB C.N sc scope own && tgtB C.N (cellsOf scope) (relS scope sc) tg tu t && tg.all (fun i => decide (i ∈ own)) && notSet iter && chkI C sc tu t it iter && chkE C (relS scope sc) ke kx && chkE C (relS scope sc) ve vx && (match ifs with
      | [] => (match c with
        | .bl true => true
        | _ => false)
      | [x] => chkE C (relS scope sc) c x
      | _ => false)
    | _ => false
  | .comp2 _ own tg tu it tg2 tu2 it2 c e, ex => match ex with
    | .ListComp elt [⟨t, iter, [], 0⟩, ⟨t2, iter2, ifs, 0⟩] scope _ => blkB C.N sc scope own && tgtB C.N (cellsOf scope) (relS scope sc) tg tu t && tgtB C.N (cellsOf scope) (relS scope sc) tg2 tu2 t2 && tg.all (fun i => decide (i ∈ own)) && tg2.all (fun i => decide (i ∈ own)) && notSet iter && notSet iter2 &&
      chkI C sc tu t it iter && chkI C (relS scope sc) tu2 t2 it2 iter2 && chkE C (relS scope sc) e elt && (match ifs with
      | [] => (match c with
        | .bl true => true
        | _ => false)
      | [x] => chkE C (relS scope sc) c x
      | _ => false)
    | _ => false
  | .lrg lo hi, e => match e with
    | .Call (.Name x _) [.Call (.Name y _) [b] [] _] [] _ => decide (x = Str.ofString "list") && bltB C sc x && decide (y = Str.ofString "range") && bltB C sc y && notStar b && chkE C sc hi b && (match lo with
      | .int 0 => true
      | _ => false)
    | .Call (.Name x _) [.Call (.Name y _) [a, b] [] _] [] _ => decide (x = Str.ofString "list") && bltB C sc x && decide (y = Str.ofString "range") && bltB C sc y && notStar a && notStar b && chkE C sc lo a && chkE C sc hi b
    | _ => false
  | .trg lo hi, e => match e with
    | .Call (.Name x _) [.Call (.Name y _) [b] [] _] [] _ => decide (x = Str.ofString "tuple") && bltB C sc x && decide (y = Str.ofString "range") && bltB C sc y && notStar b && chkE C sc hi b && (match lo with
      | .int 0 => true
      | _ => false)
    | .Call (.Name x _) [.Call (.Name y _) [a, b] [] _] [] _ => decide (x = Str.ofString "tuple") && bltB C sc x && decide (y = Str.ofString "range") && bltB C sc y && notStar a && notStar b && chkE C sc lo a && chkE C sc hi b
    | _ => false
  | .rng _ _, _ => false
  | .it _, _ => false
  | .enu _, _ => false
  | .zip _ _, _ => false
  | .rvd _, _ => false
def chkEs (C : CTab) (sc : Scope) : List CE → List Expr → Bool
  | [], [] => true
  | c :: cs, e :: es => chkE C sc c e && notStar e && chkEs C sc cs es
  | _, _ => false
/-- lists that are kept -/
def chkK (C : CTab) (sc : Scope) : CE → Expr → Bool
  | .bin op a b, e => match e with
    | .BinOp l o r _ => decide (op = o) && chkE C sc a l && chkE C sc b r
    | _ => false
  | .slc a lo hi, e => match e with
    | .Subscript x (.Slice l h none _) _ => chkE C sc a x && (match l with
        | none => lo.isNon
        | some l => !lo.isNon && chkE C sc lo l) && (match h with
        | none => hi.isNon
        | some h => !hi.isNon && chkE C sc hi h)
    | _ => false
  | .bi b es, e => match e with
    | .Call (.Name x _) (y :: ys) [] _ => keepBI b && decide (x = Str.ofString (biName b)) && bltB C sc x && chkEs C sc es (y :: ys)
    | _ => false
  | .lrg lo hi, e => match e with
    | .Call (.Name x _) [.Call (.Name y _) [b] [] _] [] _ => decide (x = Str.ofString "list") && bltB C sc x && decide (y = Str.ofString "range") && bltB C sc y && notStar b && chkE C sc hi b && (match lo with
      | .int 0 => true
      | _ => false)
    | .Call (.Name x _) [.Call (.Name y _) [a, b] [] _] [] _ => decide (x = Str.ofString "list") && bltB C sc x && decide (y = Str.ofString "range") && bltB C sc y && notStar a && notStar b && chkE C sc lo a && chkE C sc hi b
    | _ => false
  | _, _ => false
/-- what is walked, for a target -/
def chkI (C : CTab) (sc : Scope) (tu : Bool) (t : Expr) : CE → Expr → Bool
  | .rng lo hi, e => match e with
    | .Call (.Name x _) [b] [] _ => decide (x = Str.ofString "range") && bltB C sc x && notStar b && chkE C sc hi b && (match lo with
      | .int 0 => true
      | _ => false)
    | .Call (.Name x _) [a, b] [] _ => decide (x = Str.ofString "range") && bltB C sc x && notStar a && notStar b && chkE C sc lo a && chkE C sc hi b
    | _ => false
  | .it a, e => chkE C sc a e
  | .rvd a, e => match e with
    | .Call (.Name x _) [b] [] _ => decide (x = Str.ofString "reversed") && bltB C sc x && notStar b && chkE C sc a b
    | _ => false
  | .enu a, e => match e with
    | .Call (.Name x _) [b] [] _ => decide (x = Str.ofString "enumerate") && bltB C sc x && notStar b && chkE C sc a b && tu && (match t with
      | .Tuple .. => true
      | _ => false)
    | _ => false
  | .zip a b, e => match e with
    | .Call (.Name x _) [c, d] [] _ => decide (x = Str.ofString "zip") && bltB C sc x && notStar c && notStar d && chkE C sc a c && chkE C sc b d && tu && (match t with
      | .Tuple .. => true
      | _ => false)
    | _ => false
  | _, _ => false
end
end Wf
set_option maxRecDepth 100000
set_option maxHeartbeats 8000000
/-! W19: the checker's soundness for terms. -/
namespace Wf
open PySem PySem.Spec PyProof.Rows L2
structure GoodX (X : Cx) (C : CTab) (fa : FaW) (T : Tab) (sc : Scope) (ow : List Str) : Prop where
  N : X.N = C.N
  nd : X.N.Nodup
  calm : X.calm = true
  sc : X.env.scope = sc
  hu : X.A.units + 65 < cLine
  hw : fa.h = fun k => k.hash X.w
  fn : ∀ x ∈ ow, X.fn x = true
  fns : ∀ x j, C.fns.lookup x = some j → ∃ f, X.mg x = some (.ref f) ∧ fa.l[j]? = some f
  blt : ∀ x ∈ C.blts, X.mg x = none
  isP : ∀ k, T.isP k = C.ps.getD k false
  tab : ∀ j f, fa.l[j]? = some f → ∃ dep fd ps, FnOk X.prog X.w X.K X.mg X.base CX0 dep f fd ps (spOf X.K fa T j) ∧ Room dep X.A ∧ PySem.W.keepIn X.K (.ref f) = true ∧ Binds X.K fd ps []
section
variable {X : Cx} {C : CTab} {fa : FaW} {T : Tab} {sc : Scope} {ow : List Str}
theorem GoodX.blk (g : GoodX X C fa T sc ow) (s : Shared) (H : Hp) (scope : Scope) (cl : List (Str × Addr)) (D : Addr) (fp : List Addr) (hq : ∀ y ∈ scope.names, scope.names.lookup y.1 = some y.2) : GoodX (X.blk s H scope (compEnvC scope cl D X.env) fp) C fa T (relS scope sc) (cellsOf scope) where
  N := g.N
  nd := g.nd
  calm := g.calm
  sc := relS_eq g.sc
  hu := g.hu
  hw := g.hw
  fn := fun x hx => by
    obtain ⟨y, hy, rfl⟩ := List.mem_map.mp hx
    obtain ⟨h1, h2⟩ := List.mem_filter.mp hy
    have e := hq y h1
    rw [of_decide_eq_true h2] at e
    show (scope.names.lookup y.1 == some .cell) = true
    rw [e]
    rfl
  fns := g.fns
  blt := g.blt
  isP := g.isP
  tab := g.tab
def Snd (X : Cx) (fa : FaW) (T : Tab) (e : Expr) (c : CE) : Prop := PE X e (TV X.K fa (ev T c)) ∧ PT X e (TB X.K fa (tst (ev T c))) ∧ ∀ op vs p, e = .BoolOp op vs p → PW X e (TB X.K fa (tst (ev T c)))
theorem snd_plain {e : Expr} {c : CE} (h : PE X e (TV X.K fa (ev T c))) (hp : plainT e = true) : Snd X fa T e c :=
  ⟨h, pt_plainW h (plainT_of hp), fun op vs p he => by subst he; cases hp⟩
theorem dbg_of {x : Str} (h : nameB x = true) : (x == ("__debug__" : Str)) = false ∧ (x == ("__classdict__" : Str)) = false := by
  unfold nameB at h
  rw [Bool.and_eq_true, decide_eq_true_eq, decide_eq_true_eq] at h
  exact ⟨beq_eq_false_iff_ne.mpr h.1, beq_eq_false_iff_ne.mpr h.2⟩
theorem vis_of {x : Str} (h : visB sc x = true) : Vis sc x := by
  unfold visB at h
  simp only [Bool.or_eq_true, decide_eq_true_eq] at h
  rcases h with (h | h) | h
  · exact .inl h
  · exact .inr (.inl h)
  · exact .inr (.inr h)
theorem gl_of {x : Str} (g : GoodX X C fa T sc ow) (h : glB sc x = true) : Gl X x := by
  unfold glB at h
  show X.env.scope.names.lookup x = _
  rw [g.sc]
  exact of_decide_eq_true h
theorem blt_of {x : Str} (g : GoodX X C fa T sc ow) (h : bltB C sc x = true) : Gl X x ∧ X.mg x = none := by
  unfold bltB at h
  rw [Bool.and_eq_true] at h
  exact ⟨gl_of g h.2, g.blt x (of_decide_eq_true h.1)⟩
theorem rep_non {K : PySem.W.Frag} (F : FrZ) (H : Hp) : Rep K F H .none .non := by unfold Rep; rfl
theorem rep_bl {K : PySem.W.Frag} (b : Bool) (F : FrZ) (H : Hp) : Rep K F H (.bool b) (.bl b) := by unfold Rep; rfl
theorem rep_i {K : PySem.W.Frag} (b : Int) (F : FrZ) (H : Hp) : Rep K F H (.int b) (.int b) := by unfold Rep; rfl
theorem rep_s {K : PySem.W.Frag} (b : Str) (F : FrZ) (H : Hp) : Rep K F H (.str b) (.str b) := by unfold Rep; rfl
/-- built-ins by name -/
def biVal : BI → Value
  | .int => .type "int"
  | .tuple => .type "tuple"
  | .list => .type "list"
  | b => .builtin (biName b)
theorem boot_name (b : BI) (h : simpleBI b = true) : bootBuiltins (Str.ofString (biName b)) = some (biVal b) := by
  cases b <;> first | (cases h; done) | decide +kernel
theorem pe_biW (g : GoodX X C fa T sc ow) {b : BI} (hb : simpleBI b = true) {e : Expr} {es : List Expr} {p pos : Pos} {fs : EnvW → SM (List Val)} (hx : bltB C sc (Str.ofString (biName b)) = true) (ha : PA X (e :: es) (TVs X.K fa fs))
    (he : starEach (e :: es) X.env = (false, eval e X.env) :: starEach es X.env) (hpl : (backTo pos (starEach es X.env)).any (·.1) = false) :
    PE X (.Call (.Name (Str.ofString (biName b)) p) (e :: es) [] pos) (TV X.K fa fun ρ => sbind (fs ρ) fun vs => sask (biop b vs)) := by
  obtain ⟨hg, hm⟩ := blt_of g hx
  have hv := boot_name b hb
  have hu : X.A.units + 64 < cLine := by have := g.hu; omega
  have hn : Str.ofString (biName b) ≠ "__name__" := by cases b <;> first | (cases hb; done) | decide +kernel
  have hd : (Str.ofString (biName b) == ("__debug__" : Str)) = false := by cases b <;> first | (cases hb; done) | decide +kernel
  cases b
  · exact PE.weak (pe_callB cr_len hg hm hv ha hn hd he hpl) fun _ _ _ => bi_of
  · exact PE.weak (pe_callB cr_abs hg hm hv ha hn hd he hpl) fun _ _ _ => bi_of
  · exact PE.weak (pe_callTy cr_int hg hm hv ha hn hd he hpl) fun _ _ _ => bi_of
  · exact PE.weak (pe_callTy cr_tuple hg hm hv ha hn hd he hpl) fun _ _ _ => bi_of
  · exact PE.weak (pe_callTy cr_list hg hm hv ha hn hd he hpl) fun _ _ _ => bi_of
  · exact PE.weak (pe_callB (cr_sortedW hu) hg hm hv ha hn hd he hpl) fun _ _ _ => bi_of
  · exact PE.weak (pe_callB (cr_sumW g.calm) hg hm hv ha hn hd he hpl) fun _ _ _ => bi_of
  · exact PE.weak (pe_callB (cr_minW g.calm hu) hg hm hv ha hn hd he hpl) fun _ _ _ => bi_of
  · exact PE.weak (pe_callB (cr_maxW g.calm hu) hg hm hv ha hn hd he hpl) fun _ _ _ => bi_of
  · cases hb
  · cases hb
  · exact PE.weak (pe_callB (cr_allW g.calm) hg hm hv ha hn hd he hpl) fun _ _ _ => bi_of
  · exact PE.weak (pe_callB (cr_anyW g.calm) hg hm hv ha hn hd he hpl) fun _ _ _ => bi_of
  · cases hb
theorem pe_biK (g : GoodX X C fa T sc ow) {b : BI} (hb : keepBI b = true) {e : Expr} {es : List Expr} {p pos : Pos} {fs : EnvW → SM (List Val)} (hx : bltB C sc (Str.ofString (biName b)) = true) (ha : PA X (e :: es) (TVs X.K fa fs))
    (he : starEach (e :: es) X.env = (false, eval e X.env) :: starEach es X.env) (hpl : (backTo pos (starEach es X.env)).any (·.1) = false) :
    PE X (.Call (.Name (Str.ofString (biName b)) p) (e :: es) [] pos) (TV X.K fa fun ρ => sbind (sbind (fs ρ) fun vs => sask (biop b vs)) keepV) := by
  obtain ⟨hg, hm⟩ := blt_of g hx
  have hu : X.A.units + 64 < cLine := by have := g.hu; omega
  cases b <;> first | (cases hb; done) | skip
  · exact PE.weak (pe_callTy cr_listK hg hm (by decide +kernel) ha (by decide +kernel) (by decide +kernel) he hpl) fun _ _ _ => biK_of
  · exact PE.weak (pe_callB (cr_sortedK hu) hg hm (by decide +kernel) ha (by decide +kernel) (by decide +kernel) he hpl) fun _ _ _ => biK_of
/-- calls of defs -/
theorem pe_callW (g : GoodX X C fa T sc ow) {j : Nat} {x : Str} {es : List Expr} {p pos : Pos} {fs : EnvW → SM (List Val)} {z : List Val → SM Val} (hx : C.fns.lookup x = some j) (hgl : glB sc x = true) (hn : nameB x = true) (ha : PA X es (TVs X.K fa fs))
    (he : ∀ e r, es = e :: r → starEach (e :: r) X.env = (false, eval e X.env) :: starEach r X.env ∧ (backTo pos (starEach r X.env)).any (·.1) = false) (hnil : es = [] → fs = fun _ => sret [])
    (hz : ∀ {F : FrZ} {m : List Addr} {S S' : Store} {H : Hp} {ws : List Val} {us : List V} {v : Val} {Q : VK}, SR X.K fa F m S H → RepVs X.K fa F m H ws us → z ws S = some (v, S') → Kont X.K fa F m S H v S' Q → spOf X.K fa T j us H Q (fun _ _ _ => False)) :
    PE X (.Call (.Name x p) es [] pos) (TV X.K fa fun ρ => sbind (fs ρ) z) := by
  obtain ⟨f, hm, hf⟩ := g.fns x j hx
  obtain ⟨dep, fd, ps, Fk, hr, hk, hb⟩ := g.tab j f hf
  obtain ⟨hdb, _⟩ := dbg_of hn
  cases es with
  | nil =>
    refine PE.weak (pe_call0 (E := fun _ _ _ => False) (dvs := []) Fk hr (gl_of g hgl) hm hk hb .nil L2.pass0 hdb) ?_
    rintro σ H Q ⟨F, m, ρ, S, v, S', r0, e0, h0, k0⟩
    rw [hnil rfl] at h0
    obtain ⟨vs, S1, h1, h2⟩ := sbind_some h0
    obtain ⟨q1, q2⟩ := sret_some h1
    simp only at q1 q2
    subst q1 q2
    exact hz (ws := []) (us := []) r0 (show RepVs X.K fa F m H [] [] from rfl) h2 k0
  | cons e r =>
    obtain ⟨he1, he2⟩ := he e r rfl
    refine PE.weak (pe_call (E := fun _ _ _ => False) (dvs := []) Fk hr (gl_of g hgl) hm hk hb .nil L2.pass0 ha hdb he1 he2) ?_
    intro σ H Q w
    refine tv_args (r := fun us H1 Q => spOf X.K fa T j (us ++ []) H1 Q (fun _ _ _ => False)) (fun F m S H x u1 v S' Q r h1 e k => ?_) σ H Q w
    rw [List.append_nil]
    exact hz r h1 e k
/-- a def that stands in a name -/
theorem pe_callvW (g : GoodX X C fa T sc ow) {i : Nat} {x : Str} {e : Expr} {es : List Expr} {p pos : Pos} {fs : EnvW → SM (List Val)} (hi : C.N[i]? = some x) (hv : visB sc x = true) (hn : nameB x = true) (ha : PA X (e :: es) (TVs X.K fa fs))
    (he : starEach (e :: es) X.env = (false, eval e X.env) :: starEach es X.env) (hpl : (backTo pos (starEach es X.env)).any (·.1) = false) :
    PE X (.Call (.Name x p) (e :: es) [] pos) (TV X.K fa fun ρ => sbind (fs ρ) fun vs => match ρ.getD i none with
    | some (.f k) => sif (T.isP k) (callP T k vs)
    | _ => sfail) := by
  obtain ⟨hdb, hcd⟩ := dbg_of hn
  refine ⟨fun pins s σ H Q I w => ?_⟩
  obtain ⟨F, m, ρ, S, v, S', r0, e0, h0, k0⟩ := w
  obtain ⟨vs, S1, h1, h2⟩ := sbind_some h0
  obtain ⟨k, hk⟩ : ∃ k, ρ.getD i none = some (.f k) := by
    cases hk : ρ.getD i none with
    | none => simp only [hk] at h2; cases h2
    | some z => cases z with
      | f k => exact ⟨k, rfl⟩
      | _ => simp only [hk] at h2; cases h2
  · simp only [hk] at h2
    obtain ⟨hP, h3⟩ := sif_some h2
    have hg : ρ[i]? = some (some (.f k)) := by
      rw [List.getD_eq_getElem?_getD] at hk
      cases hi : ρ[i]? with
      | none => rw [hi] at hk; cases hk
      | some z => rw [hi] at hk; simp only [Option.getD_some] at hk; rw [hk]
    obtain ⟨u, g1, g2⟩ := e0.2 i _ hg
    obtain ⟨f, hf, rfl⟩ := g2
    obtain ⟨dep, fd, ps, Fk, hr, hkp, hb⟩ := g.tab k f hf
    have hvis : Vis X.env.scope x := by rw [g.sc]; exact vis_of hv
    refine (pe_callL (i := i) (E := fun _ _ _ => False) (dvs := []) Fk hr (by rw [g.N]; exact hi) hvis hkp hb .nil L2.pass0 ha hdb hcd he hpl).run pins s σ H Q I ⟨g1, F, m, ρ, S, vs, S1, r0, e0, h1, fun F1 m1 H1 us st1 r1 v1 => ?_⟩
    show spOf X.K fa T k (us ++ []) H1 Q (fun _ _ _ => False)
    rw [List.append_nil]
    exact callP_ok hP r1 v1 h3 fun F' m' H' u st r q => k0 F' m' H' u (st1.trans st) r q
end
end Wf
set_option maxRecDepth 100000
set_option maxHeartbeats 8000000
/-! W20: the checker's soundness for terms: the induction. -/
namespace Wf
open PySem PySem.Spec PyProof.Rows L2
section
variable {C : CTab} {fa : FaW} {T : Tab}
theorem and1 {a b : Bool} (h : (a && b) = true) : a = true ∧ b = true := Bool.and_eq_true _ _ ▸ h
/-- argument lists: what is wanted of them -/
def SndA (X : Cx) (fa : FaW) (T : Tab) (es : List Expr) (cs : List CE) : Prop := PA X es (TVs X.K fa (evs T cs)) ∧ (∀ e r, es = e :: r → starEach (e :: r) X.env = (false, eval e X.env) :: starEach r X.env) ∧ (∀ pos, (backTo pos (starEach es X.env)).any (·.1) = false) ∧ (es = [] → evs T cs = fun _ => sret []) ∧ (es = [] ↔ cs = [])
theorem snda_call {X : Cx} {es : List Expr} {cs : List CE} {e : Expr} (h : SndA X fa T (e :: es) cs) (pos : Pos) : (backTo pos (starEach es X.env)).any (·.1) = false := by
  have h1 := h.2.1 e es rfl
  have h2 := h.2.2.1 pos
  rw [h1] at h2
  exact h2
theorem star_len {es : List Expr} {env : Env} : (starEach es env).length = es.length := by
  induction es with
  | nil => rfl
  | cons e es ih => cases e <;> simp [starEach, ih]
theorem snda_few {X : Cx} {es : List Expr} {cs : List CE} (h : SndA X fa T es cs) (cp : Pos) (hl : es.length < 30) : ((backTo cp (starEach es X.env)).all (fun x => !x.1) && (backToKw cp (keywordEach [] X.env)).all (fun x => x.1.isSome)
      && decide (es.length + ([] : List Keyword).length + (if ([] : List Keyword).isEmpty then 0 else 1) < 30)) = true := by
  have h1 := h.2.2.1 cp
  have h2 : (backTo cp (starEach es X.env)).all (fun x => !x.1) = true := by
    rw [List.all_eq_true]
    intro x hx
    rw [List.any_eq_false] at h1
    have := h1 x hx
    simpa using this
  rw [h2]
  simp [backToKw, keywordEach]
  exact hl
theorem tgts_of {X : Cx} {sc : Scope} {ow : List Str} (g : GoodX X C fa T sc ow) : ∀ {is : List Nat} {es : List Expr}, tgtsB C.N ow sc is es = true → PGs X es (TGsW X.K fa is) ∧ es.length = is.length ∧ (assignEach es X.env).length = es.length ∧ (assignEach es X.env).findIdx? (·.1) = none
  | [], [], _ => ⟨pgs_nilW, rfl, rfl, rfl⟩
  | i :: is, .Name x p :: es, h => by
    obtain ⟨h12, h3⟩ := and1 (show ((decide (C.N[i]? = some x) && setB ow sc x) && tgtsB C.N ow sc is es) = true from h)
    obtain ⟨h1, h2⟩ := and1 h12
    obtain ⟨a1, a2, a3, a4⟩ := tgts_of g h3
    have hs : X.env.scope.names.lookup x = some .local ∨ (X.env.scope.names.lookup x = some .cell ∧ x ∈ ow) := by
      rw [g.sc]
      unfold setB at h2
      simp only [Bool.or_eq_true, Bool.and_eq_true, decide_eq_true_eq] at h2
      exact h2
    have hi : X.N[i]? = some x := by rw [g.N]; exact of_decide_eq_true h1
    refine ⟨pgs_consW g.nd hi (hs.elim .inl fun z => .inr z.1) (hs.elim .inr fun z => .inl (g.fn x z.2)) a1, by simp [a2], by simp [assignEach, a3], ?_⟩
    show List.findIdx? (·.1) ((false, _) :: assignEach es X.env) = none
    rw [List.findIdx?_cons]
    simp [a4]
theorem tgt_of {X : Cx} {sc : Scope} {ow : List Str} (g : GoodX X C fa T sc ow) {tg : List Nat} {tu : Bool} {t : Expr} (h : tgtB C.N ow sc tg tu t = true) : PG X t (TGW X.K fa tg tu) := by
  cases t with
  | Name x p =>
    match tg, h with
    | [i], h =>
      obtain ⟨h12, h3⟩ := and1 (show ((!tu && decide (C.N[i]? = some x)) && setB ow sc x) = true from h)
      obtain ⟨h1, h2⟩ := and1 h12
      have hs : X.env.scope.names.lookup x = some .local ∨ (X.env.scope.names.lookup x = some .cell ∧ x ∈ ow) := by
        rw [g.sc]
        unfold setB at h3
        simp only [Bool.or_eq_true, Bool.and_eq_true, decide_eq_true_eq] at h3
        exact h3
      cases tu with
      | true => cases h1
      | false => exact pg_nameW (tu := false) g.nd (by rw [g.N]; exact of_decide_eq_true h2) (hs.elim .inl fun z => .inr z.1) (hs.elim .inr fun z => .inl (g.fn x z.2))
  | Tuple es k p =>
    obtain ⟨h1, h2⟩ := and1 (show (tu && tgtsB C.N ow sc tg es) = true from h)
    subst h1
    obtain ⟨a1, a2, a3, a4⟩ := tgts_of g h2
    exact pg_tupW g.calm a1 a2 a3 a4
  | _ => cases h
theorem yes_pts {X : Cx} : PTs X [] (TB X.K fa (tst (ev T (.bl true)))) := ⟨fun pins s σ H Q I w => by
  obtain ⟨F, m, ρ, S, b, S', r0, e0, h0, k0⟩ := w
  obtain ⟨v, S1, h1, h2⟩ := sbind_some h0
  obtain ⟨q1, q2⟩ := sret_some h1
  simp only at q1 q2
  subst q1 q2
  obtain ⟨q3, q4⟩ := sask_some h2
  simp only at q3 q4
  subst q4
  cases q3
  exact pts_nil.run pins s σ H Q I (k0 F m H Step.refl r0)⟩
mutual
theorem sndE : ∀ (c : CE) (X : Cx) (sc : Scope) (ow : List Str) (e : Expr), GoodX X C fa T sc ow → chkE C sc c e = true → Snd X fa T e c
  | .var i, X, sc, ow, e, g, h => by
    cases e with
    | Name x p =>
      obtain ⟨h12, h3⟩ := and1 (show ((decide (C.N[i]? = some x) && visB sc x) && nameB x) = true from h)
      obtain ⟨h1, h2⟩ := and1 h12
      obtain ⟨d1, d2⟩ := dbg_of h3
      exact snd_plain (pe_varW (by rw [g.N]; exact of_decide_eq_true h1) (by rw [g.sc]; exact vis_of h2) d1 d2) rfl
    | _ => cases h
  | .int n, X, sc, ow, e, g, h => by
    cases e with
    | Constant k j p => cases k with
      | int m =>
        have : n = m := of_decide_eq_true h
        subst this
        exact snd_plain (pe_constW pe_int fun F H => rep_i _ F H) rfl
      | _ => cases h
    | _ => cases h
  | .str n, X, sc, ow, e, g, h => by
    cases e with
    | Constant k j p => cases k with
      | str m =>
        have : n = m := of_decide_eq_true h
        subst this
        exact snd_plain (pe_constW pe_str fun F H => rep_s _ F H) rfl
      | _ => cases h
    | _ => cases h
  | .bl n, X, sc, ow, e, g, h => by
    cases e with
    | Constant k j p => cases k with
      | bool m =>
        have : n = m := of_decide_eq_true h
        subst this
        exact snd_plain (pe_constW pe_bl fun F H => rep_bl _ F H) rfl
      | _ => cases h
    | _ => cases h
  | .non, X, sc, ow, e, g, h => by
    cases e with
    | Constant k j p => cases k with
      | none => exact snd_plain (pe_constW pe_non fun F H => rep_non F H) rfl
      | _ => cases h
    | _ => cases h
  | .fn k, X, sc, ow, e, g, h => by
    cases e with
    | Name x p =>
      obtain ⟨h12, h3⟩ := and1 (show ((decide (C.fns.lookup x = some k) && glB sc x) && nameB x) = true from h)
      obtain ⟨h1, h2⟩ := and1 h12
      obtain ⟨f, hm, hf⟩ := g.fns x k (of_decide_eq_true h1)
      exact snd_plain (pe_fnW (gl_of g h2) hm hf (dbg_of h3).1) rfl
    | _ => cases h
  | .bin op a b, X, sc, ow, e, g, h => by
    cases e with
    | BinOp l o r p =>
      obtain ⟨h12, h3⟩ := and1 (show ((decide (op = o) && chkE C sc a l) && chkE C sc b r) = true from h)
      obtain ⟨h1, h2⟩ := and1 h12
      have : op = o := of_decide_eq_true h1
      subst this
      exact snd_plain (pe_binW (sndE a X sc ow l g h2).1 (sndE b X sc ow r g h3).1) rfl
    | _ => cases h
  | .neg a, X, sc, ow, e, g, h => by
    cases e with
    | UnaryOp op l p => cases op with
      | USub => exact snd_plain (pe_negW (sndE a X sc ow l g h).1) rfl
      | _ => cases h
    | _ => cases h
  | .cmp op a b, X, sc, ow, e, g, h => by
    have hu : X.A.units + 64 < cLine ∧ fa.h = fun k => k.hash X.w := ⟨by have := g.hu; omega, g.hw⟩
    cases e with
    | Compare l os rs p =>
      match os, rs, h with
      | [o], [r], h =>
        obtain ⟨h123, h4⟩ := and1 (show (((decide (op = o) && chkE C sc a l) && chkE C sc b r) && !behindInMarks o r) = true from h)
        obtain ⟨h12, h3⟩ := and1 h123
        obtain ⟨h1, h2⟩ := and1 h12
        have : op = o := of_decide_eq_true h1
        subst this
        have h4 : behindInMarks op r = false := by simpa using h4
        exact ⟨pe_cmpW hu (sndE a X sc ow l g h2).1 (sndE b X sc ow r g h3).1 h4, pt_cmpW hu (sndE a X sc ow l g h2).1 (sndE b X sc ow r g h3).1 h4, fun _ _ _ z => by cases z⟩
      | [], _, h => cases h
      | _ :: _ :: _, _, h => cases h
      | [_], [], h => cases h
      | [_], _ :: _ :: _, h => cases h
    | _ => cases h
  | .cmp2 op op' a b c, X, sc, ow, e, g, h => by
    have hu : X.A.units + 64 < cLine ∧ fa.h = fun k => k.hash X.w := ⟨by have := g.hu; omega, g.hw⟩
    cases e with
    | Compare l os rs p =>
      match os, rs, h with
      | [o, o'], [r, r'], h =>
        obtain ⟨h12345, h6⟩ := and1 (show (((((decide (op = o) && decide (op' = o')) && chkE C sc a l) && chkE C sc b r) && chkE C sc c r') && !lastMarks [o, o'] [r, r']) = true from h)
        obtain ⟨h1234, h5⟩ := and1 h12345
        obtain ⟨h123, h4⟩ := and1 h1234
        obtain ⟨h12, h3⟩ := and1 h123
        obtain ⟨h1, h2⟩ := and1 h12
        have : op = o := of_decide_eq_true h1
        subst this
        have : op' = o' := of_decide_eq_true h2
        subst this
        have h6 : lastMarks [op, op'] [r, r'] = false := by simpa using h6
        exact ⟨pe_cmp2W hu (sndE a X sc ow l g h3).1 (sndE b X sc ow r g h4).1 (sndE c X sc ow r' g h5).1 h6, pt_cmp2W hu (sndE a X sc ow l g h3).1 (sndE b X sc ow r g h4).1 (sndE c X sc ow r' g h5).1 h6, fun _ _ _ z => by cases z⟩
      | [], _, h => cases h
      | [_], _, h => cases h
      | _ :: _ :: _ :: _, _, h => cases h
      | [_, _], [], h => cases h
      | [_, _], [_], h => cases h
      | [_, _], _ :: _ :: _ :: _, h => cases h
    | _ => cases h
  | .cmp3 op op' op2 a b c d, X, sc, ow, e, g, h => by
    have hu : X.A.units + 64 < cLine ∧ fa.h = fun k => k.hash X.w := ⟨by have := g.hu; omega, g.hw⟩
    cases e with
    | Compare l os rs p =>
      match os, rs, h with
      | [o, o', o2], [r, r', r2], h =>
        obtain ⟨h1234567, h8⟩ := and1 (show (((((((decide (op = o) && decide (op' = o')) && decide (op2 = o2)) && chkE C sc a l) && chkE C sc b r) && chkE C sc c r') && chkE C sc d r2) && !lastMarks [o, o', o2] [r, r', r2]) = true from h)
        obtain ⟨h123456, h7⟩ := and1 h1234567
        obtain ⟨h12345, h6⟩ := and1 h123456
        obtain ⟨h1234, h5⟩ := and1 h12345
        obtain ⟨h123, h4⟩ := and1 h1234
        obtain ⟨h12, h3⟩ := and1 h123
        obtain ⟨h1, h2⟩ := and1 h12
        have : op = o := of_decide_eq_true h1
        subst this
        have : op' = o' := of_decide_eq_true h2
        subst this
        have : op2 = o2 := of_decide_eq_true h3
        subst this
        have h8 : lastMarks [op, op', op2] [r, r', r2] = false := by simpa using h8
        exact ⟨pe_cmp3W hu (sndE a X sc ow l g h4).1 (sndE b X sc ow r g h5).1 (sndE c X sc ow r' g h6).1 (sndE d X sc ow r2 g h7).1 h8, pt_cmp3W hu (sndE a X sc ow l g h4).1 (sndE b X sc ow r g h5).1 (sndE c X sc ow r' g h6).1 (sndE d X sc ow r2 g h7).1 h8, fun _ _ _ z => by cases z⟩
      | [], _, h => cases h
      | [_], _, h => cases h
      | [_, _], _, h => cases h
      | _ :: _ :: _ :: _ :: _, _, h => cases h
      | [_, _, _], [], h => cases h
      | [_, _, _], [_], h => cases h
      | [_, _, _], [_, _], h => cases h
      | [_, _, _], _ :: _ :: _ :: _ :: _, h => cases h
    | _ => cases h
  | .and a b, X, sc, ow, e, g, h => by
    cases e with
    | BoolOp op vs p =>
      cases op with
      | And =>
        match vs, h with
        | [x, y], h =>
          obtain ⟨h1, h2⟩ := and1 (show (chkE C sc a x && chkE C sc b y) = true from h)
          have pa := sndE a X sc ow x g h1
          have pb := sndE b X sc ow y g h2
          have pw := pw_andW (pos := p) pa.2.1 (show PW X (.BoolOp .And [y] p) _ from pw_and1 pb.2.1)
          exact ⟨pe_andW pa.1 (pe_one pb.1), pw.pt, fun _ _ _ z => by cases z; exact pw⟩
        | x :: y :: z :: r, h =>
          obtain ⟨h1, h2⟩ := and1 (show (chkE C sc a x && chkE C sc b (.BoolOp .And (y :: z :: r) p)) = true from h)
          have pa := sndE a X sc ow x g h1
          have pb := sndE b X sc ow _ g h2
          have pw := pw_andW pa.2.1 (pb.2.2 _ _ _ rfl)
          exact ⟨pe_andW pa.1 pb.1, pw.pt, fun _ _ _ z => by cases z; exact pw⟩
        | [], h => cases h
        | [_], h => cases h
      | Or => cases h
    | _ => cases h
  | .or a b, X, sc, ow, e, g, h => by
    cases e with
    | BoolOp op vs p =>
      cases op with
      | Or =>
        match vs, h with
        | [x, y], h =>
          obtain ⟨h1, h2⟩ := and1 (show (chkE C sc a x && chkE C sc b y) = true from h)
          have pa := sndE a X sc ow x g h1
          have pb := sndE b X sc ow y g h2
          have pw := pw_orW (pos := p) pa.2.1 (show PW X (.BoolOp .Or [y] p) _ from pw_or1 pb.2.1)
          exact ⟨pe_orW pa.1 (pe_one pb.1), pw.pt, fun _ _ _ z => by cases z; exact pw⟩
        | x :: y :: z :: r, h =>
          obtain ⟨h1, h2⟩ := and1 (show (chkE C sc a x && chkE C sc b (.BoolOp .Or (y :: z :: r) p)) = true from h)
          have pa := sndE a X sc ow x g h1
          have pb := sndE b X sc ow _ g h2
          have pw := pw_orW pa.2.1 (pb.2.2 _ _ _ rfl)
          exact ⟨pe_orW pa.1 pb.1, pw.pt, fun _ _ _ z => by cases z; exact pw⟩
        | [], h => cases h
        | [_], h => cases h
      | And => cases h
    | _ => cases h
  | .not a, X, sc, ow, e, g, h => by
    cases e with
    | UnaryOp op l p => cases op with
      | Not =>
        have pa := sndE a X sc ow l g h
        exact ⟨pe_notW pa.1, pt_notW pa.2.1, fun _ _ _ z => by cases z⟩
      | _ => cases h
    | _ => cases h
  | .ife c a b, X, sc, ow, e, g, h => by
    cases e with
    | IfExp t x y p =>
      obtain ⟨h12, h3⟩ := and1 (show ((chkE C sc c t && chkE C sc a x) && chkE C sc b y) = true from h)
      obtain ⟨h1, h2⟩ := and1 h12
      have pc := sndE c X sc ow t g h1
      have pa := sndE a X sc ow x g h2
      have pb := sndE b X sc ow y g h3
      exact ⟨pe_ifW pc.2.1 pa.1 pb.1, pt_ifW pc.2.1 pa.2.1 pb.2.1, fun _ _ _ z => by cases z⟩
    | _ => cases h
  | .tup es, X, sc, ow, e, g, h => by
    cases e with
    | Tuple xs k p => exact snd_plain (pe_tupW (sndEs es X sc ow xs g h).1) rfl
    | _ => cases h
  | .lst kp es, X, sc, ow, e, g, h => by
    cases e with
    | List xs p => exact snd_plain (pe_lstW (sndEs es X sc ow xs g h).1) rfl
    | _ => cases h
  | .keep k, X, sc, ow, e, g, h => sndK k X sc ow e g h
  | .idx a i, X, sc, ow, e, g, h => by
    cases e with
    | Subscript x y p =>
      obtain ⟨h12, h3⟩ := and1 (show ((chkE C sc a x && chkE C sc i y) && plainIxB y) = true from h)
      obtain ⟨h1, h2⟩ := and1 h12
      exact snd_plain (pe_idxW (sndE a X sc ow x g h1).1 (sndE i X sc ow y g h2).1 (plainIx_of h3)) rfl
    | _ => cases h
  | .slc a lo hi, X, sc, ow, e, g, h => by
    cases e with
    | Subscript x s p =>
      cases s with
      | Slice l u st p2 =>
        cases st with
        | some _ => cases h
        | none =>
          obtain ⟨h12, h3⟩ := and1 (show ((chkE C sc a x && (match (generalizing := false) l with
            | none => lo.isNon
            | some l => !lo.isNon && chkE C sc lo l)) && (match (generalizing := false) u with
            | none => hi.isNon
            | some h => !hi.isNon && chkE C sc hi h)) = true from h)
          obtain ⟨h1, h2⟩ := and1 h12
          refine snd_plain (pe_slcW (sndE a X sc ow x g h1).1 (?_ : PO X l (TPo X.K fa (partE lo.isNon (ev T lo)))) (?_ : PO X u (TPo X.K fa (partE hi.isNon (ev T hi))))) rfl
          · cases l with
            | none =>
              have h2 : lo.isNon = true := h2
              rw [h2]
              exact po_noneW
            | some l =>
              obtain ⟨h4, h5⟩ := and1 (show (!lo.isNon && chkE C sc lo l) = true from h2)
              have h4 : lo.isNon = false := by simpa using h4
              rw [h4]
              exact po_someW (sndE lo X sc ow l g h5).1
          · cases u with
            | none =>
              have h3 : hi.isNon = true := h3
              rw [h3]
              exact po_noneW
            | some l =>
              obtain ⟨h4, h5⟩ := and1 (show (!hi.isNon && chkE C sc hi l) = true from h3)
              have h4 : hi.isNon = false := by simpa using h4
              rw [h4]
              exact po_someW (sndE hi X sc ow l g h5).1
      | _ => cases h
    | _ => cases h
  | .rev a, X, sc, ow, e, g, h => by
    unfold chkE at h
    split at h
    · exact snd_plain (pe_revW (sndE a X sc ow _ g h).1) rfl
    · cases h
  | .callp k es, X, sc, ow, e, g, h => by
    unfold chkE at h
    split at h
    · rename_i x p xs pos
      obtain ⟨h1234, h5⟩ := and1 h
      obtain ⟨h123, h4⟩ := and1 h1234
      obtain ⟨h12, h3⟩ := and1 h123
      obtain ⟨h1, h2⟩ := and1 h12
      have pa := sndEs es X sc ow xs g h5
      refine snd_plain (pe_callW g (of_decide_eq_true h1) h2 h3 pa.1 (fun e r he => ⟨pa.2.1 e r he, ?_⟩) pa.2.2.2.1 fun r hr he hk => callP_ok (by rw [g.isP]; exact h4) r hr he hk) rfl
      subst he
      exact snda_call pa pos
    · cases h
  | .calls k es, X, sc, ow, e, g, h => by
    unfold chkE at h
    split at h
    · rename_i x p xs pos
      obtain ⟨h1234, h5⟩ := and1 h
      obtain ⟨h123, h4⟩ := and1 h1234
      obtain ⟨h12, h3⟩ := and1 h123
      obtain ⟨h1, h2⟩ := and1 h12
      have pa := sndEs es X sc ow xs g h5
      refine snd_plain (pe_callW g (of_decide_eq_true h1) h2 h3 pa.1 (fun e r he => ⟨pa.2.1 e r he, ?_⟩) pa.2.2.2.1 fun r hr he hk => callS_ok (by rw [g.isP]; simpa using h4) r hr he hk) rfl
      subst he
      exact snda_call pa pos
    · cases h
  | .callv i es, X, sc, ow, e, g, h => by
    unfold chkE at h
    split at h
    · rename_i x p y ys pos
      obtain ⟨h123, h4⟩ := and1 h
      obtain ⟨h12, h3⟩ := and1 h123
      obtain ⟨h1, h2⟩ := and1 h12
      have pa := sndEs es X sc ow _ g h4
      exact snd_plain (pe_callvW g (of_decide_eq_true h1) h2 h3 pa.1 (pa.2.1 _ _ rfl) (snda_call pa pos)) rfl
    · cases h
  | .bi b es, X, sc, ow, e, g, h => by
    unfold chkE at h
    split at h
    · rename_i t
      split at h
      · rename_i f p1 x y p2 pos
        obtain ⟨h12345, h6⟩ := and1 h
        obtain ⟨h1234, h5⟩ := and1 h12345
        obtain ⟨h123, h4⟩ := and1 h1234
        obtain ⟨h12, h3⟩ := and1 h123
        obtain ⟨h1, h2⟩ := and1 h12
        have h1 := of_decide_eq_true h1
        have h3 := of_decide_eq_true h3
        have h4 := of_decide_eq_true h4
        subst h1 h4
        obtain ⟨g1, g2⟩ := blt_of g h2
        obtain ⟨g3, g4⟩ := blt_of g h5
        match es, h6 with
        | [c], h6 =>
          obtain ⟨h78, _⟩ := and1 (show ((chkE C sc c x && notStar x) && chkEs C sc [] []) = true from h6)
          obtain ⟨h7, h8⟩ := and1 h78
          exact snd_plain (pe_isiW h3 g1 g2 g3 g4 (sndE c X sc ow x g h7).1 (star_cons h8) rfl rfl) rfl
        | [], h6 => cases h6
        | _ :: _ :: _, h6 =>
          obtain ⟨_, h9⟩ := and1 h6
          cases h9
      · cases h
    · split at h
      · rename_i f p1 y p2 x q pos
        obtain ⟨h1234, h5⟩ := and1 h
        obtain ⟨h123, h4⟩ := and1 h1234
        obtain ⟨h12, h3⟩ := and1 h123
        obtain ⟨h1, h2⟩ := and1 h12
        have h1 := of_decide_eq_true h1
        have h3 := of_decide_eq_true h3
        subst h1 h3
        obtain ⟨g1, g2⟩ := blt_of g h2
        obtain ⟨g3, g4⟩ := blt_of g h4
        match es, h5 with
        | [c], h6 =>
          obtain ⟨h78, _⟩ := and1 (show ((chkE C sc c x && notStar x) && chkEs C sc [] []) = true from h6)
          obtain ⟨h7, h8⟩ := and1 h78
          exact snd_plain (pe_setlenW g.calm g1 g2 g3 g4 (sndE c X sc ow x g h7).1 (star_cons h8)) rfl
        | [], h6 => cases h6
        | _ :: _ :: _, h6 =>
          obtain ⟨_, h9⟩ := and1 h6
          cases h9
      · cases h
    · split at h
      · rename_i f p1 y p2 x q pos
        obtain ⟨h1234, h5⟩ := and1 h
        obtain ⟨h123, h4⟩ := and1 h1234
        obtain ⟨h12, h3⟩ := and1 h123
        obtain ⟨h1, h2⟩ := and1 h12
        have h1 := of_decide_eq_true h1
        have h3 := of_decide_eq_true h3
        subst h1 h3
        obtain ⟨g1, g2⟩ := blt_of g h2
        obtain ⟨g3, g4⟩ := blt_of g h4
        match es, h5 with
        | [c], h6 =>
          obtain ⟨h78, _⟩ := and1 (show ((chkE C sc c x && notStar x) && chkEs C sc [] []) = true from h6)
          obtain ⟨h7, h8⟩ := and1 h78
          exact snd_plain (pe_sortedsetW g.calm g1 g2 g3 g4 (sndE c X sc ow x g h7).1 (star_cons h8)) rfl
        | [], h6 => cases h6
        | _ :: _ :: _, h6 =>
          obtain ⟨_, h9⟩ := and1 h6
          cases h9
      · cases h
    · rename_i hb
      split at h
      · rename_i x p y ys pos
        obtain ⟨h123, h4⟩ := and1 h
        obtain ⟨h12, h3⟩ := and1 h123
        obtain ⟨h1, h2⟩ := and1 h12
        have h2 := of_decide_eq_true h2
        subst h2
        have pa := sndEs es X sc ow _ g h4
        exact snd_plain (pe_biW g h1 h3 pa.1 (pa.2.1 _ _ rfl) (snda_call pa pos)) rfl
      · cases h
  | .mt m o es, X, sc, ow, e, g, h => by
    unfold chkE at h
    split at h
    · rename_i x n ap xs cp
      obtain ⟨h12345, h6⟩ := and1 h
      obtain ⟨h1234, h5⟩ := and1 h12345
      obtain ⟨h123, h4⟩ := and1 h1234
      obtain ⟨h12, h3⟩ := and1 h123
      obtain ⟨h1, h2⟩ := and1 h12
      have h1 : n = Str.ofString (mtName m) := of_decide_eq_true h1
      subst h1
      have pa := sndEs es X sc ow xs g h6
      refine snd_plain (pe_mtW g.hu (sndE o X sc ow x g h5).1 pa.1 (base_of h3) (snda_few pa cp (of_decide_eq_true h4)) (by simpa using h2) (pa.2.2.1 cp) (fun e r he => ?_) pa.2.2.2.1) rfl
      subst he
      exact pa.2.1 e r rfl
    · cases h
  | .comp kp own tg tu it c e, X, sc, ow, ex, g, h => by
    unfold chkE at h
    split at h
    · rename_i elt t iter ifs scope pos
      obtain ⟨h123456, h7⟩ := and1 h
      obtain ⟨h12345, h6⟩ := and1 h123456
      obtain ⟨h1234, h5⟩ := and1 h12345
      obtain ⟨h123, h4⟩ := and1 h1234
      obtain ⟨h12, h3⟩ := and1 h123
      obtain ⟨h1, h2⟩ := and1 h12
      obtain ⟨ok, eo⟩ := blk_ok h1
      have hbk := fun s H D cl fp => g.blk s H scope cl D fp ok.uniq
      have hgt : ∀ i ∈ tg, i ∈ own := fun i hi => of_decide_eq_true (List.all_eq_true.mp h3 i hi)
      have pts : ∀ (s : Shared) (H : Hp) (D : Addr) (cl : List (Str × Addr)) (fp : List Addr), PTs (X.blk s H scope (compEnvC scope cl D X.env) fp) ifs (TB X.K fa (tst (ev T c))) := fun s H D cl fp => by
        split at h7
        · split at h7
          · exact yes_pts
          · cases h7
        · exact pts_one (sndE c _ _ _ _ (hbk s H D cl fp) h7).2.1
        · cases h7
      refine snd_plain (PE.weak (pe_lc (own := ownOf C.N own) g.calm g.nd (sndI it X sc ow tu t iter g h5) (by rw [g.N, g.sc]; exact ok) (fun s H D cl fp => show PG (X.blk s H scope (compEnvC scope cl D X.env) fp) t (TGW X.K fa tg tu) from tgt_of (hbk s H D cl fp) h2) pts (fun s H D cl fp => show PE (X.blk s H scope (compEnvC scope cl D X.env) fp) elt (TV X.K fa (ev T e)) from (sndE e _ _ _ _ (hbk s H D cl fp) h6).1) (fun x => folded_of h4 x)) fun σ H Q w => ?_) rfl
      rw [eo]
      exact lc_of (kp := kp) hgt w
    · cases h
  | .dcomp own tg tu it c ke ve, X, sc, ow, ex, g, h => by
    unfold chkE at h
    split at h
    · rename_i kx vx t iter ifs scope pos
      obtain ⟨h1234568, h7⟩ := and1 h
      obtain ⟨h123456, h8⟩ := and1 h1234568
      obtain ⟨h12345, h6⟩ := and1 h123456
      obtain ⟨h1234, h5⟩ := and1 h12345
      obtain ⟨h123, h4⟩ := and1 h1234
      obtain ⟨h12, h3⟩ := and1 h123
      obtain ⟨h1, h2⟩ := and1 h12
      obtain ⟨ok, eo⟩ := blk_ok h1
      have hbk := fun s H D cl fp => g.blk s H scope cl D fp ok.uniq
      have hgt : ∀ i ∈ tg, i ∈ own := fun i hi => of_decide_eq_true (List.all_eq_true.mp h3 i hi)
      have pts : ∀ (s : Shared) (H : Hp) (D : Addr) (cl : List (Str × Addr)) (fp : List Addr), PTs (X.blk s H scope (compEnvC scope cl D X.env) fp) ifs (TB X.K fa (tst (ev T c))) := fun s H D cl fp => by
        split at h7
        · split at h7
          · exact yes_pts
          · cases h7
        · exact pts_one (sndE c _ _ _ _ (hbk s H D cl fp) h7).2.1
        · cases h7
      refine snd_plain (PE.weak (pe_dcT (hs := fa.h) (own := ownOf C.N own) g.hw (by have := g.hu; omega) g.calm g.nd (sndI it X sc ow tu t iter g h5) (by rw [g.N, g.sc]; exact ok) (fun s H D cl fp => show PG (X.blk s H scope (compEnvC scope cl D X.env) fp) t (TGW X.K fa tg tu) from tgt_of (hbk s H D cl fp) h2) pts
        (fun s H D cl fp => show PE (X.blk s H scope (compEnvC scope cl D X.env) fp) kx (TV X.K fa (ev T ke)) from (sndE ke _ _ _ _ (hbk s H D cl fp) h6).1) (fun s H D cl fp => show PE (X.blk s H scope (compEnvC scope cl D X.env) fp) vx (TV X.K fa (ev T ve)) from (sndE ve _ _ _ _ (hbk s H D cl fp) h8).1) (fun x => folded_of h4 x)) fun σ H Q w => ?_) rfl
      rw [eo]
      exact dc_of hgt w
    · cases h
  | .comp2 kp own tg tu it tg2 tu2 it2 c e, X, sc, ow, ex, g, h => by
    unfold chkE at h
    split at h
    · rename_i elt t iter t2 iter2 ifs scope pos
      obtain ⟨ha, h11⟩ := and1 h
      obtain ⟨hb, h10⟩ := and1 ha
      obtain ⟨hc, h9⟩ := and1 hb
      obtain ⟨hd, h8⟩ := and1 hc
      obtain ⟨he, h7⟩ := and1 hd
      obtain ⟨hf, h6⟩ := and1 he
      obtain ⟨hg, h5⟩ := and1 hf
      obtain ⟨hh, h4⟩ := and1 hg
      obtain ⟨hi, h3⟩ := and1 hh
      obtain ⟨h1, h2⟩ := and1 hi
      obtain ⟨ok, eo⟩ := blk_ok h1
      have hbk := fun s H D cl fp => g.blk s H scope cl D fp ok.uniq
      have hgt : ∀ i ∈ tg, i ∈ own := fun i hi => of_decide_eq_true (List.all_eq_true.mp h4 i hi)
      have hgt2 : ∀ i ∈ tg2, i ∈ own := fun i hi => of_decide_eq_true (List.all_eq_true.mp h5 i hi)
      have pts : ∀ (s : Shared) (H : Hp) (D : Addr) (cl : List (Str × Addr)) (fp : List Addr), PTs (X.blk s H scope (compEnvC scope cl D X.env) fp) ifs (TB X.K fa (tst (ev T c))) := fun s H D cl fp => by
        split at h11
        · split at h11
          · exact yes_pts
          · cases h11
        · exact pts_one (sndE c _ _ _ _ (hbk s H D cl fp) h11).2.1
        · cases h11
      refine snd_plain (PE.weak (pe_lc2 (own := ownOf C.N own) (vs1 := tg2) g.calm g.nd (sndI it X sc ow tu t iter g h8) (by rw [g.N, g.sc]; exact ok) (by rw [eo]; exact hgt2) (fun s H D cl fp => show PG (X.blk s H scope (compEnvC scope cl D X.env) fp) t (TGW X.K fa tg tu) from tgt_of (hbk s H D cl fp) h2) (fun s H D cl fp => pts_nil)
        (fun s H D cl fp => show PI (X.blk s H scope (compEnvC scope cl D X.env) fp) t2 iter2 (TIW X.K fa tu2 (evI T it2)) from sndI it2 _ _ _ tu2 t2 iter2 (hbk s H D cl fp) h9) (fun s H D cl fp => show PG (X.blk s H scope (compEnvC scope cl D X.env) fp) t2 (TGW X.K fa tg2 tu2) from tgt_of (hbk s H D cl fp) h3) pts (fun s H D cl fp => show PE (X.blk s H scope (compEnvC scope cl D X.env) fp) elt (TV X.K fa (ev T e)) from (sndE e _ _ _ _ (hbk s H D cl fp) h10).1) (fun x => folded_of h6 x) (fun env x => folded_of h7 x)) fun σ H Q w => ?_) rfl
      rw [eo]
      exact lc2_of (kp := kp) hgt hgt2 w
    · cases h
  | .lrg lo hi, X, sc, ow, e, g, h => by
    unfold chkE at h
    split at h
    · rename_i x p y p2 b q pos
      obtain ⟨h123456, h7⟩ := and1 h
      obtain ⟨h12345, h6⟩ := and1 h123456
      obtain ⟨h1234, h5⟩ := and1 h12345
      obtain ⟨h123, h4⟩ := and1 h1234
      obtain ⟨h12, h3⟩ := and1 h123
      obtain ⟨h1, h2⟩ := and1 h12
      have h1 := of_decide_eq_true h1
      have h3 := of_decide_eq_true h3
      subst h1 h3
      obtain ⟨g1, g2⟩ := blt_of g h2
      obtain ⟨g3, g4⟩ := blt_of g h4
      split at h7
      · exact snd_plain (pe_lrgW g.calm g1 g2 (prg_1W g3 g4 (sndE hi X sc ow b g h6).1 (star_cons h5)) rfl) rfl
      · cases h7
    · rename_i x p y p2 a b q pos
      obtain ⟨ha, h8⟩ := and1 h
      obtain ⟨hb, h7⟩ := and1 ha
      obtain ⟨hc, h6⟩ := and1 hb
      obtain ⟨hd, h5⟩ := and1 hc
      obtain ⟨he, h4⟩ := and1 hd
      obtain ⟨hf, h3⟩ := and1 he
      obtain ⟨h1, h2⟩ := and1 hf
      have h1 := of_decide_eq_true h1
      have h3 := of_decide_eq_true h3
      subst h1 h3
      obtain ⟨g1, g2⟩ := blt_of g h2
      obtain ⟨g3, g4⟩ := blt_of g h4
      exact snd_plain (pe_lrgW g.calm g1 g2 (prg_2W g3 g4 (sndE lo X sc ow a g h7).1 (sndE hi X sc ow b g h8).1 (star_cons h5) (star_cons h6) (by rw [star_cons h6]; rfl)) rfl) rfl
    · cases h
  | .trg lo hi, X, sc, ow, e, g, h => by
    unfold chkE at h
    split at h
    · rename_i x p y p2 b q pos
      obtain ⟨h123456, h7⟩ := and1 h
      obtain ⟨h12345, h6⟩ := and1 h123456
      obtain ⟨h1234, h5⟩ := and1 h12345
      obtain ⟨h123, h4⟩ := and1 h1234
      obtain ⟨h12, h3⟩ := and1 h123
      obtain ⟨h1, h2⟩ := and1 h12
      have h1 := of_decide_eq_true h1
      have h3 := of_decide_eq_true h3
      subst h1 h3
      obtain ⟨g1, g2⟩ := blt_of g h2
      obtain ⟨g3, g4⟩ := blt_of g h4
      split at h7
      · exact snd_plain (pe_trgW g.calm g1 g2 (prg_1W g3 g4 (sndE hi X sc ow b g h6).1 (star_cons h5)) rfl) rfl
      · cases h7
    · rename_i x p y p2 a b q pos
      obtain ⟨ha, h8⟩ := and1 h
      obtain ⟨hb, h7⟩ := and1 ha
      obtain ⟨hc, h6⟩ := and1 hb
      obtain ⟨hd, h5⟩ := and1 hc
      obtain ⟨he, h4⟩ := and1 hd
      obtain ⟨hf, h3⟩ := and1 he
      obtain ⟨h1, h2⟩ := and1 hf
      have h1 := of_decide_eq_true h1
      have h3 := of_decide_eq_true h3
      subst h1 h3
      obtain ⟨g1, g2⟩ := blt_of g h2
      obtain ⟨g3, g4⟩ := blt_of g h4
      exact snd_plain (pe_trgW g.calm g1 g2 (prg_2W g3 g4 (sndE lo X sc ow a g h7).1 (sndE hi X sc ow b g h8).1 (star_cons h5) (star_cons h6) (by rw [star_cons h6]; rfl)) rfl) rfl
    · cases h
  | .rng _ _, X, sc, ow, e, g, h => by cases h
  | .it _, X, sc, ow, e, g, h => by cases h
  | .enu _, X, sc, ow, e, g, h => by cases h
  | .zip _ _, X, sc, ow, e, g, h => by cases h
  | .rvd _, X, sc, ow, e, g, h => by cases h
theorem sndEs : ∀ (cs : List CE) (X : Cx) (sc : Scope) (ow : List Str) (es : List Expr), GoodX X C fa T sc ow → chkEs C sc cs es = true → SndA X fa T es cs
  | [], X, sc, ow, es, g, h => by
    cases es with
    | nil => exact ⟨pa_nilW, (fun e r z => nomatch z), fun _ => rfl, fun _ => rfl, Iff.intro (fun _ => rfl) (fun _ => rfl)⟩
    | cons _ _ => cases h
  | c :: cs, X, sc, ow, es, g, h => by
    cases es with
    | nil => cases h
    | cons e es =>
      obtain ⟨h12, h3⟩ := and1 (show ((chkE C sc c e && notStar e) && chkEs C sc cs es) = true from h)
      obtain ⟨h1, h2⟩ := and1 h12
      have pa := sndE c X sc ow e g h1
      have pb := sndEs cs X sc ow es g h3
      refine ⟨pa_consW pa.1 pb.1 (star_cons h2), fun e' r z => ?_, fun pos => ?_, (fun z => nomatch z), Iff.intro (fun z => nomatch z) (fun z => nomatch z)⟩
      · cases z
        exact star_cons h2
      · rw [star_cons h2]
        have := pb.2.2.1 pos
        simpa [backTo] using this
theorem sndK : ∀ (c : CE) (X : Cx) (sc : Scope) (ow : List Str) (e : Expr), GoodX X C fa T sc ow → chkK C sc c e = true → Snd X fa T e (.keep c)
  | .bin op a b, X, sc, ow, e, g, h => by
    cases e with
    | BinOp l o r p =>
      obtain ⟨h12, h3⟩ := and1 (show ((decide (op = o) && chkE C sc a l) && chkE C sc b r) = true from h)
      obtain ⟨h1, h2⟩ := and1 h12
      have : op = o := of_decide_eq_true h1
      subst this
      exact snd_plain (pe_binK (sndE a X sc ow l g h2).1 (sndE b X sc ow r g h3).1) rfl
    | _ => cases h
  | .slc a lo hi, X, sc, ow, e, g, h => by
    cases e with
    | Subscript x s p =>
      cases s with
      | Slice l u st p2 =>
        cases st with
        | some _ => cases h
        | none =>
          obtain ⟨h12, h3⟩ := and1 (show ((chkE C sc a x && (match (generalizing := false) l with
            | none => lo.isNon
            | some l => !lo.isNon && chkE C sc lo l)) && (match (generalizing := false) u with
            | none => hi.isNon
            | some h => !hi.isNon && chkE C sc hi h)) = true from h)
          obtain ⟨h1, h2⟩ := and1 h12
          refine snd_plain (pe_slcK (sndE a X sc ow x g h1).1 (?_ : PO X l (TPo X.K fa (partE lo.isNon (ev T lo)))) (?_ : PO X u (TPo X.K fa (partE hi.isNon (ev T hi))))) rfl
          · cases l with
            | none =>
              have h2 : lo.isNon = true := h2
              rw [h2]
              exact po_noneW
            | some l =>
              obtain ⟨h4, h5⟩ := and1 (show (!lo.isNon && chkE C sc lo l) = true from h2)
              have h4 : lo.isNon = false := by simpa using h4
              rw [h4]
              exact po_someW (sndE lo X sc ow l g h5).1
          · cases u with
            | none =>
              have h3 : hi.isNon = true := h3
              rw [h3]
              exact po_noneW
            | some l =>
              obtain ⟨h4, h5⟩ := and1 (show (!hi.isNon && chkE C sc hi l) = true from h3)
              have h4 : hi.isNon = false := by simpa using h4
              rw [h4]
              exact po_someW (sndE hi X sc ow l g h5).1
      | _ => cases h
    | _ => cases h
  | .bi b es, X, sc, ow, e, g, h => by
    unfold chkK at h
    split at h
    · rename_i x p y ys pos
      obtain ⟨h123, h4⟩ := and1 h
      obtain ⟨h12, h3⟩ := and1 h123
      obtain ⟨h1, h2⟩ := and1 h12
      have h2 := of_decide_eq_true h2
      subst h2
      have pa := sndEs es X sc ow _ g h4
      exact snd_plain (pe_biK g h1 h3 pa.1 (pa.2.1 _ _ rfl) (snda_call pa pos)) rfl
    · cases h
  | .var _, X, sc, ow, e, g, h => by cases h
  | .int _, X, sc, ow, e, g, h => by cases h
  | .str _, X, sc, ow, e, g, h => by cases h
  | .bl _, X, sc, ow, e, g, h => by cases h
  | .non, X, sc, ow, e, g, h => by cases h
  | .fn _, X, sc, ow, e, g, h => by cases h
  | .neg _, X, sc, ow, e, g, h => by cases h
  | .cmp _ _ _, X, sc, ow, e, g, h => by cases h
  | .cmp2 _ _ _ _ _, X, sc, ow, e, g, h => by cases h
  | .cmp3 _ _ _ _ _ _ _, X, sc, ow, e, g, h => by cases h
  | .and _ _, X, sc, ow, e, g, h => by cases h
  | .or _ _, X, sc, ow, e, g, h => by cases h
  | .not _, X, sc, ow, e, g, h => by cases h
  | .ife _ _ _, X, sc, ow, e, g, h => by cases h
  | .tup _, X, sc, ow, e, g, h => by cases h
  | .lst _ _, X, sc, ow, e, g, h => by cases h
  | .keep _, X, sc, ow, e, g, h => by cases h
  | .idx _ _, X, sc, ow, e, g, h => by cases h
  | .rev _, X, sc, ow, e, g, h => by cases h
  | .lrg lo hi, X, sc, ow, e, g, h => by
    unfold chkK at h
    split at h
    · rename_i x p y p2 b q pos
      obtain ⟨h123456, h7⟩ := and1 h
      obtain ⟨h12345, h6⟩ := and1 h123456
      obtain ⟨h1234, h5⟩ := and1 h12345
      obtain ⟨h123, h4⟩ := and1 h1234
      obtain ⟨h12, h3⟩ := and1 h123
      obtain ⟨h1, h2⟩ := and1 h12
      have h1 := of_decide_eq_true h1
      have h3 := of_decide_eq_true h3
      subst h1 h3
      obtain ⟨g1, g2⟩ := blt_of g h2
      obtain ⟨g3, g4⟩ := blt_of g h4
      split at h7
      · exact snd_plain (pe_lrgK g.calm g1 g2 (prg_1W g3 g4 (sndE hi X sc ow b g h6).1 (star_cons h5)) rfl) rfl
      · cases h7
    · rename_i x p y p2 a b q pos
      obtain ⟨ha, h8⟩ := and1 h
      obtain ⟨hb, h7⟩ := and1 ha
      obtain ⟨hc, h6⟩ := and1 hb
      obtain ⟨hd, h5⟩ := and1 hc
      obtain ⟨he, h4⟩ := and1 hd
      obtain ⟨hf, h3⟩ := and1 he
      obtain ⟨h1, h2⟩ := and1 hf
      have h1 := of_decide_eq_true h1
      have h3 := of_decide_eq_true h3
      subst h1 h3
      obtain ⟨g1, g2⟩ := blt_of g h2
      obtain ⟨g3, g4⟩ := blt_of g h4
      exact snd_plain (pe_lrgK g.calm g1 g2 (prg_2W g3 g4 (sndE lo X sc ow a g h7).1 (sndE hi X sc ow b g h8).1 (star_cons h5) (star_cons h6) (by rw [star_cons h6]; rfl)) rfl) rfl
    · cases h
  | .trg _ _, X, sc, ow, e, g, h => by cases h
  | .rng _ _, X, sc, ow, e, g, h => by cases h
  | .it _, X, sc, ow, e, g, h => by cases h
  | .enu _, X, sc, ow, e, g, h => by cases h
  | .zip _ _, X, sc, ow, e, g, h => by cases h
  | .rvd _, X, sc, ow, e, g, h => by cases h
  | .callp _ _, X, sc, ow, e, g, h => by cases h
  | .calls _ _, X, sc, ow, e, g, h => by cases h
  | .callv _ _, X, sc, ow, e, g, h => by cases h
  | .mt _ _ _, X, sc, ow, e, g, h => by cases h
  | .comp _ _ _ _ _ _ _, X, sc, ow, e, g, h => by cases h
  | .dcomp _ _ _ _ _ _ _, X, sc, ow, e, g, h => by cases h
  | .comp2 _ _ _ _ _ _ _ _ _ _, X, sc, ow, e, g, h => by cases h
theorem sndI : ∀ (c : CE) (X : Cx) (sc : Scope) (ow : List Str) (tu : Bool) (t e : Expr), GoodX X C fa T sc ow → chkI C sc tu t c e = true → PI X t e (TIW X.K fa tu (evI T c))
  | .rng lo hi, X, sc, ow, tu, t, e, g, h => by
    unfold chkI at h
    split at h
    · rename_i x p b pos
      obtain ⟨h1234, h5⟩ := and1 h
      obtain ⟨h123, h4⟩ := and1 h1234
      obtain ⟨h12, h3⟩ := and1 h123
      obtain ⟨h1, h2⟩ := and1 h12
      have h1 := of_decide_eq_true h1
      subst h1
      obtain ⟨g1, g2⟩ := blt_of g h2
      split at h5
      · exact pi_rng1W g1 g2 (sndE hi X sc ow b g h4).1 (star_cons h3) rfl
      · cases h5
    · rename_i x p a b pos
      obtain ⟨h12345, h6⟩ := and1 h
      obtain ⟨h1234, h5⟩ := and1 h12345
      obtain ⟨h123, h4⟩ := and1 h1234
      obtain ⟨h12, h3⟩ := and1 h123
      obtain ⟨h1, h2⟩ := and1 h12
      have h1 := of_decide_eq_true h1
      subst h1
      obtain ⟨g1, g2⟩ := blt_of g h2
      exact pi_rng2W g1 g2 (sndE lo X sc ow a g h5).1 (sndE hi X sc ow b g h6).1 (star_cons h3) (star_cons h4) rfl
    · cases h
  | .it a, X, sc, ow, tu, t, e, g, h => pi_itW (sndE a X sc ow e g h).1
  | .rvd a, X, sc, ow, tu, t, e, g, h => by
    unfold chkI at h
    split at h
    · rename_i x p b pos
      obtain ⟨h123, h4⟩ := and1 h
      obtain ⟨h12, h3⟩ := and1 h123
      obtain ⟨h1, h2⟩ := and1 h12
      have h1 := of_decide_eq_true h1
      subst h1
      obtain ⟨g1, g2⟩ := blt_of g h2
      exact pi_rvdW g1 g2 (sndE a X sc ow b g h4).1 (star_cons h3)
    · cases h
  | .enu a, X, sc, ow, tu, t, e, g, h => by
    unfold chkI at h
    split at h
    · rename_i x p b pos
      obtain ⟨h12345, h6⟩ := and1 h
      obtain ⟨h1234, h5⟩ := and1 h12345
      obtain ⟨h123, h4⟩ := and1 h1234
      obtain ⟨h12, h3⟩ := and1 h123
      obtain ⟨h1, h2⟩ := and1 h12
      have h1 := of_decide_eq_true h1
      subst h1
      subst h5
      obtain ⟨g1, g2⟩ := blt_of g h2
      split at h6
      · exact pi_enuW g1 g2 (sndE a X sc ow b g h4).1 (star_cons h3) rfl
      · cases h6
    · cases h
  | .zip a b, X, sc, ow, tu, t, e, g, h => by
    unfold chkI at h
    split at h
    · rename_i x p c d pos
      obtain ⟨ha, h8⟩ := and1 h
      obtain ⟨hb, h7⟩ := and1 ha
      obtain ⟨hc, h6⟩ := and1 hb
      obtain ⟨hd, h5⟩ := and1 hc
      obtain ⟨he, h4⟩ := and1 hd
      obtain ⟨hf, h3⟩ := and1 he
      obtain ⟨h1, h2⟩ := and1 hf
      have h1 := of_decide_eq_true h1
      subst h1
      subst h7
      obtain ⟨g1, g2⟩ := blt_of g h2
      split at h8
      · exact pi_zipW g1 g2 (sndE a X sc ow c g h5).1 (sndE b X sc ow d g h6).1 (star_cons h3) (star_cons h4) (by rw [star_cons h4]; rfl)
      · cases h8
    · cases h
  | .lrg _ _, X, sc, ow, tu, t, e, g, h => by cases h
  | .trg _ _, X, sc, ow, tu, t, e, g, h => by cases h
  | .var _, X, sc, ow, tu, t, e, g, h => by cases h
  | .int _, X, sc, ow, tu, t, e, g, h => by cases h
  | .str _, X, sc, ow, tu, t, e, g, h => by cases h
  | .bl _, X, sc, ow, tu, t, e, g, h => by cases h
  | .non, X, sc, ow, tu, t, e, g, h => by cases h
  | .fn _, X, sc, ow, tu, t, e, g, h => by cases h
  | .bin _ _ _, X, sc, ow, tu, t, e, g, h => by cases h
  | .neg _, X, sc, ow, tu, t, e, g, h => by cases h
  | .cmp _ _ _, X, sc, ow, tu, t, e, g, h => by cases h
  | .cmp2 _ _ _ _ _, X, sc, ow, tu, t, e, g, h => by cases h
  | .cmp3 _ _ _ _ _ _ _, X, sc, ow, tu, t, e, g, h => by cases h
  | .and _ _, X, sc, ow, tu, t, e, g, h => by cases h
  | .or _ _, X, sc, ow, tu, t, e, g, h => by cases h
  | .not _, X, sc, ow, tu, t, e, g, h => by cases h
  | .ife _ _ _, X, sc, ow, tu, t, e, g, h => by cases h
  | .tup _, X, sc, ow, tu, t, e, g, h => by cases h
  | .lst _ _, X, sc, ow, tu, t, e, g, h => by cases h
  | .keep _, X, sc, ow, tu, t, e, g, h => by cases h
  | .idx _ _, X, sc, ow, tu, t, e, g, h => by cases h
  | .slc _ _ _, X, sc, ow, tu, t, e, g, h => by cases h
  | .rev _, X, sc, ow, tu, t, e, g, h => by cases h
  | .callp _ _, X, sc, ow, tu, t, e, g, h => by cases h
  | .calls _ _, X, sc, ow, tu, t, e, g, h => by cases h
  | .callv _ _, X, sc, ow, tu, t, e, g, h => by cases h
  | .bi _ _, X, sc, ow, tu, t, e, g, h => by cases h
  | .mt _ _ _, X, sc, ow, tu, t, e, g, h => by cases h
  | .comp _ _ _ _ _ _ _, X, sc, ow, tu, t, e, g, h => by cases h
  | .dcomp _ _ _ _ _ _ _, X, sc, ow, tu, t, e, g, h => by cases h
  | .comp2 _ _ _ _ _ _ _ _ _ _, X, sc, ow, tu, t, e, g, h => by cases h
end
end
end Wf
set_option maxRecDepth 100000
set_option maxHeartbeats 8000000
/-! W21: statements: the checker, its soundness. -/
namespace Wf
open PySem PySem.Spec PyProof.Rows L2
def getPure {α : Type} : Sem α → Option α
  | .pure a => some a
  | _ => none
theorem getPure_eq {α : Type} {t : Sem α} {a : α} (h : getPure t = some a) : t = pure a := by
  cases t <;> first | (cases h; rfl) | cases h
def envS (sc : Scope) : Env := { scope := sc, locals := 0, globals := 0, cells := [] }
theorem swst_env {ts : List Expr} {v : Expr} {env : Env} {sc : Scope} (h : env.scope = sc) : swappedStores ts v env = swappedStores ts v (envS sc) := by
  subst h
  rfl
theorem swps_env {v : Expr} {t : Option Expr} {n : Nat} {env : Env} {sc : Scope} (h : env.scope = sc) : swapsWith v t n env = swapsWith v t n (envS sc) := by
  subst h
  rfl
def noSwap (sc : Scope) (v : Expr) (t : Option Expr) (n : Nat) : Bool := decide (getPure (swapsWith v t n (envS sc)) = some false)
def isSwap (sc : Scope) (v : Expr) (t : Option Expr) (n : Nat) : Bool := decide (getPure (swapsWith v t n (envS sc)) = some true)
def noStore (sc : Scope) (ts : List Expr) (v : Expr) : Bool := decide (getPure (swappedStores ts v (envS sc)) = some none)
def isStore (sc : Scope) (ts : List Expr) (v : Expr) (xs : List Str) : Bool := decide (getPure (swappedStores ts v (envS sc)) = some (some xs))
theorem noSwap_of {sc : Scope} {v : Expr} {t : Option Expr} {n : Nat} {env : Env} (he : env.scope = sc) (h : noSwap sc v t n = true) : swapsWith v t n env = pure false := by
  rw [swps_env he]
  exact getPure_eq (of_decide_eq_true h)
theorem isSwap_of {sc : Scope} {v : Expr} {t : Option Expr} {n : Nat} {env : Env} (he : env.scope = sc) (h : isSwap sc v t n = true) : swapsWith v t n env = pure true := by
  rw [swps_env he]
  exact getPure_eq (of_decide_eq_true h)
theorem noStore_of {sc : Scope} {ts : List Expr} {v : Expr} {env : Env} (he : env.scope = sc) (h : noStore sc ts v = true) : swappedStores ts v env = pure none := by
  rw [swst_env he]
  exact getPure_eq (of_decide_eq_true h)
theorem isStore_of {sc : Scope} {ts : List Expr} {v : Expr} {xs : List Str} {env : Env} (he : env.scope = sc) (h : isStore sc ts v xs = true) : swappedStores ts v env = pure (some xs) := by
  rw [swst_env he]
  exact getPure_eq (of_decide_eq_true h)
def locB (N : List Str) (sc : Scope) (i : Nat) (x : Str) : Bool := decide (N[i]? = some x) && decide (sc.names.lookup x = some .local)
/-- several subscripts -/
def subsB (C : CTab) (sc : Scope) : List CE → List CE → List Expr → Bool
  | [], [], [] => true
  | o :: os, i :: is, .Subscript x y _ :: es => chkE C sc o x && chkE C sc i y && plainIxB y && subsB C sc os is es
  | _, _, _ => false
/-- two, three names at once -/
def parB (C : CTab) (sc : Scope) (is : List Nat) (ts xs : List Expr) (k : Nat) (p : Pos) (k2 : Nat) (p2 : Pos) : Bool := match is, ts, xs with
  | [i, j], [.Name x px, .Name y py], [a, b] => locB C.N sc i x && locB C.N sc j y && decide (i ≠ j) && isStore sc [.Tuple [.Name x px, .Name y py] k p] (.Tuple [a, b] k2 p2) [x, y]
  | [i, j, l], [.Name x px, .Name y py, .Name z pz], [a, b, c] => locB C.N sc i x && locB C.N sc j y && locB C.N sc l z && decide (i ≠ j) && decide (i ≠ l) && decide (j ≠ l) && isStore sc [.Tuple [.Name x px, .Name y py, .Name z pz] k p] (.Tuple [a, b, c] k2 p2) [x, y, z]
  | _, _, _ => false
mutual
def chkS (C : CTab) (sc : Scope) (ow : List Str) : CS → Stmt → Bool
  | .set i e, st => match st with
    | .Assign [.Name x p] v pos => decide (C.N[i]? = some x) && setB ow sc x && (match e with
      | .comp kp own tg tu it c e2 => chkE C sc (.comp kp own tg tu it c e2) v && (noSwap sc v (some (.Name x p)) pos.line || (isSwap sc v (some (.Name x p)) pos.line && decide (sc.names.lookup x = some .local)))
      | .comp2 kp own tg tu it tg2 tu2 it2 c e2 => chkE C sc (.comp2 kp own tg tu it tg2 tu2 it2 c e2) v && (noSwap sc v (some (.Name x p)) pos.line || (isSwap sc v (some (.Name x p)) pos.line && decide (sc.names.lookup x = some .local)))
      | .dcomp own tg tu it c ke ve => chkE C sc (.dcomp own tg tu it c ke ve) v && (noSwap sc v (some (.Name x p)) pos.line || (isSwap sc v (some (.Name x p)) pos.line && decide (sc.names.lookup x = some .local)))
      | e => chkE C sc e v && noSwap sc v (some (.Name x p)) pos.line)
    | _ => false
  | .tset is e, st => match st with
    | .Assign [.Tuple ts k p] v pos => tgtB C.N ow sc is true (.Tuple ts k p) && chkE C sc e v && noSwap sc v (some (.Tuple ts k p)) pos.line && noStore sc [.Tuple ts k p] v
    | _ => false
  | .par is es, st => match st with
    | .Assign [.Tuple ts k p] (.Tuple xs k2 p2) pos => chkEs C sc es xs && decide (xs.length ≤ 1000) && (parB C sc is ts xs k p k2 p2 || (noStore sc [.Tuple ts k p] (.Tuple xs k2 p2) && tgtB C.N ow sc is true (.Tuple ts k p)))
    | _ => false
  | .sub o i e, st => match st with
    | .Assign [.Subscript x y p] v pos => chkE C sc o x && chkE C sc i y && plainIxB y && chkE C sc e v && noSwap sc v (some (.Subscript x y p)) pos.line
    | _ => false
  | .parsub os is es, st => match st with
    | .Assign [.Tuple ts k p] (.Tuple xs k2 p2) pos => subsB C sc os is ts && chkEs C sc es xs && noStore sc [.Tuple ts k p] (.Tuple xs k2 p2)
    | _ => false
  | .aug i e, st => match st with
    | .AugAssign (.Name x p) .Add v pos => decide (C.N[i]? = some x) && setB ow sc x && chkE C sc e v
    | _ => false
  | .ex e, st => match st with
    | .Expr v pos => chkE C sc e v && noSwap sc v none pos.line
    | _ => false
  | .ret e, st => match st with
    | .Return (some v) _ => chkE C sc e v
    | _ => false
  | .retn, st => match st with
    | .Return none _ => true
    | _ => false
  | .ite c a b, st => match st with
    | .If t x y _ => chkE C sc c t && chkB C sc ow a x && chkB C sc ow b y
    | _ => false
  | .forr tg tu it body, st => match st with
    | .For t iter bs [] _ => tgtB C.N ow sc tg tu t && chkI C sc tu t it iter && notSet iter && chkB C sc ow body bs
    | _ => false
  | .whl c body, st => match st with
    | .While t bs [] _ => chkE C sc c t && chkB C sc ow body bs
    | _ => false
  | .brk, st => match st with
    | .Break _ => true
    | _ => false
  | .cnt, st => match st with
    | .Continue _ => true
    | _ => false
  | .pass, st => match st with
    | .Pass _ => true
    | .Expr (.Constant (.str _) _ _) _ => true
    | _ => false
def chkB (C : CTab) (sc : Scope) (ow : List Str) : List CS → List Stmt → Bool
  | [], [] => true
  | c :: cs, s :: ss => chkS C sc ow c s && chkB C sc ow cs ss
  | _, _ => false
end
section
variable {C : CTab} {fa : FaW} {T : Tab} {X : Cx} {sc : Scope} {ow : List Str}
theorem asub_of {o i : Expr} {p : Pos} {env : Env} (h : plainIxB i = true) (v : Value) : assign (.Subscript o i p) env v = (do
      let ov ← holding [v] (eval o env)
      let iv ← holding [v, ov] (eval i env)
      standAt p
      holding [v, ov, iv] (setItem ov iv v)
      release [v, ov, iv] []) := by
  cases i <;> first | rfl | cases h
theorem set_of {x : Str} (g : GoodX X C fa T sc ow) (h : setB ow sc x = true) : Loc X.env.scope x ∧ (X.fn x = true ∨ X.env.scope.names.lookup x = some .local) := by
  have hs : X.env.scope.names.lookup x = some .local ∨ (X.env.scope.names.lookup x = some .cell ∧ x ∈ ow) := by
    rw [g.sc]
    unfold setB at h
    simp only [Bool.or_eq_true, Bool.and_eq_true, decide_eq_true_eq] at h
    exact h
  exact ⟨hs.elim .inl fun z => .inr z.1, hs.elim .inr fun z => .inl (g.fn x z.2)⟩
theorem loc_of {i : Nat} {x : Str} (g : GoodX X C fa T sc ow) (h : locB C.N sc i x = true) : X.N[i]? = some x ∧ X.env.scope.names.lookup x = some .local := by
  obtain ⟨h1, h2⟩ := and1 h
  exact ⟨by rw [g.N]; exact of_decide_eq_true h1, by rw [g.sc]; exact of_decide_eq_true h2⟩
/-- name = [..] -/
theorem ps_setSwap (g : GoodX X C fa T sc ow) {i : Nat} {x : Str} {px pos : Pos} {v : Expr} {c : CE} (hc : (∃ kp own tg tu it t e, c = .comp kp own tg tu it t e) ∨ ∃ kp own tg tu it tg2 tu2 it2 t e, c = .comp2 kp own tg tu it tg2 tu2 it2 t e) (hi : X.N[i]? = some x) (hl : X.env.scope.names.lookup x = some .local)
    (hs : swapsWith v (some (.Name x px)) pos.line X.env = pure true) (h : chkE C sc c v = true) : PS X (.Assign [.Name x px] v pos) (TSW X.K fa fun ρ => sbind (ev T c ρ) fun v => sret (.nx (ρ.set i (some v)))) := by
  rcases hc with ⟨kp, own, tg, tu, it, c, e, rfl⟩ | ⟨kp, own, tg, tu, it, tg2, tu2, it2, c, e, rfl⟩
  · unfold chkE at h
    split at h
    · rename_i elt t iter ifs scope pos'
      obtain ⟨h123456, h7⟩ := and1 h
      obtain ⟨h12345, h6⟩ := and1 h123456
      obtain ⟨h1234, h5⟩ := and1 h12345
      obtain ⟨h123, h4⟩ := and1 h1234
      obtain ⟨h12, h3⟩ := and1 h123
      obtain ⟨h1, h2⟩ := and1 h12
      obtain ⟨ok, eo⟩ := blk_ok h1
      have hbk := fun s H D cl fp => g.blk s H scope cl D fp ok.uniq
      have hgt : ∀ i ∈ tg, i ∈ own := fun i hi => of_decide_eq_true (List.all_eq_true.mp h3 i hi)
      have pts : ∀ (s : Shared) (H : Hp) (D : Addr) (cl : List (Str × Addr)) (fp : List Addr), PTs (X.blk s H scope (compEnvC scope cl D X.env) fp) ifs (TB X.K fa (tst (ev T c))) := fun s H D cl fp => by
        split at h7
        · split at h7
          · exact yes_pts
          · cases h7
        · exact pts_one (sndE c _ _ _ _ (hbk s H D cl fp) h7).2.1
        · cases h7
      refine PS.weak (ps_setLc (own := ownOf C.N own) g.calm g.nd hi hl hs (sndI it X sc ow tu t iter g h5) (by rw [g.N, g.sc]; exact ok) (fun s H D cl fp => show PG (X.blk s H scope (compEnvC scope cl D X.env) fp) t (TGW X.K fa tg tu) from tgt_of (hbk s H D cl fp) h2) pts
        (fun s H D cl fp => show PE (X.blk s H scope (compEnvC scope cl D X.env) fp) elt (TV X.K fa (ev T e)) from (sndE e _ _ _ _ (hbk s H D cl fp) h6).1) (fun x => folded_of h4 x)) fun D σ H w => ?_
      rw [eo]
      exact lc_of (kp := kp) hgt (asg_of w)
    · cases h
  · unfold chkE at h
    split at h
    · rename_i elt t iter t2 iter2 ifs scope pos'
      obtain ⟨ha, h11⟩ := and1 h
      obtain ⟨hb, h10⟩ := and1 ha
      obtain ⟨hc, h9⟩ := and1 hb
      obtain ⟨hd, h8⟩ := and1 hc
      obtain ⟨he, h7⟩ := and1 hd
      obtain ⟨hf, h6⟩ := and1 he
      obtain ⟨hg, h5⟩ := and1 hf
      obtain ⟨hh, h4⟩ := and1 hg
      obtain ⟨hi', h3⟩ := and1 hh
      obtain ⟨h1, h2⟩ := and1 hi'
      obtain ⟨ok, eo⟩ := blk_ok h1
      have hbk := fun s H D cl fp => g.blk s H scope cl D fp ok.uniq
      have hgt : ∀ i ∈ tg, i ∈ own := fun i hi => of_decide_eq_true (List.all_eq_true.mp h4 i hi)
      have hgt2 : ∀ i ∈ tg2, i ∈ own := fun i hi => of_decide_eq_true (List.all_eq_true.mp h5 i hi)
      have pts : ∀ (s : Shared) (H : Hp) (D : Addr) (cl : List (Str × Addr)) (fp : List Addr), PTs (X.blk s H scope (compEnvC scope cl D X.env) fp) ifs (TB X.K fa (tst (ev T c))) := fun s H D cl fp => by
        split at h11
        · split at h11
          · exact yes_pts
          · cases h11
        · exact pts_one (sndE c _ _ _ _ (hbk s H D cl fp) h11).2.1
        · cases h11
      refine PS.weak (ps_setLc2 (own := ownOf C.N own) (vs1 := tg2) g.calm g.nd hi hl hs (sndI it X sc ow tu t iter g h8) (by rw [g.N, g.sc]; exact ok) (by rw [eo]; exact hgt2) (fun s H D cl fp => show PG (X.blk s H scope (compEnvC scope cl D X.env) fp) t (TGW X.K fa tg tu) from tgt_of (hbk s H D cl fp) h2) (fun s H D cl fp => pts_nil)
        (fun s H D cl fp => show PI (X.blk s H scope (compEnvC scope cl D X.env) fp) t2 iter2 (TIW X.K fa tu2 (evI T it2)) from sndI it2 _ _ _ tu2 t2 iter2 (hbk s H D cl fp) h9) (fun s H D cl fp => show PG (X.blk s H scope (compEnvC scope cl D X.env) fp) t2 (TGW X.K fa tg2 tu2) from tgt_of (hbk s H D cl fp) h3) pts
        (fun s H D cl fp => show PE (X.blk s H scope (compEnvC scope cl D X.env) fp) elt (TV X.K fa (ev T e)) from (sndE e _ _ _ _ (hbk s H D cl fp) h10).1) (fun x => folded_of h6 x) (fun env x => folded_of h7 x)) fun D σ H w => ?_
      rw [eo]
      exact lc2_of (kp := kp) hgt hgt2 (asg_of w)
    · cases h
theorem ps_setSwapD (g : GoodX X C fa T sc ow) {i : Nat} {x : Str} {px pos : Pos} {v : Expr} {own tg : List Nat} {tu : Bool} {it c ke ve : CE} (hi : X.N[i]? = some x) (hl : X.env.scope.names.lookup x = some .local)
    (hs : swapsWith v (some (.Name x px)) pos.line X.env = pure true) (h : chkE C sc (.dcomp own tg tu it c ke ve) v = true) : PS X (.Assign [.Name x px] v pos) (TSW X.K fa fun ρ => sbind (ev T (.dcomp own tg tu it c ke ve) ρ) fun v => sret (.nx (ρ.set i (some v)))) := by
    unfold chkE at h
    split at h
    · rename_i kx vx t iter ifs scope pos'
      obtain ⟨h1234568, h7⟩ := and1 h
      obtain ⟨h123456, h8⟩ := and1 h1234568
      obtain ⟨h12345, h6⟩ := and1 h123456
      obtain ⟨h1234, h5⟩ := and1 h12345
      obtain ⟨h123, h4⟩ := and1 h1234
      obtain ⟨h12, h3⟩ := and1 h123
      obtain ⟨h1, h2⟩ := and1 h12
      obtain ⟨ok, eo⟩ := blk_ok h1
      have hbk := fun s H D cl fp => g.blk s H scope cl D fp ok.uniq
      have hgt : ∀ i ∈ tg, i ∈ own := fun i hi => of_decide_eq_true (List.all_eq_true.mp h3 i hi)
      have pts : ∀ (s : Shared) (H : Hp) (D : Addr) (cl : List (Str × Addr)) (fp : List Addr), PTs (X.blk s H scope (compEnvC scope cl D X.env) fp) ifs (TB X.K fa (tst (ev T c))) := fun s H D cl fp => by
        split at h7
        · split at h7
          · exact yes_pts
          · cases h7
        · exact pts_one (sndE c _ _ _ _ (hbk s H D cl fp) h7).2.1
        · cases h7
      refine PS.weak (ps_setDcT (hs := fa.h) (own := ownOf C.N own) g.hw (by have := g.hu; omega) g.calm g.nd hi hl hs (sndI it X sc ow tu t iter g h5) (by rw [g.N, g.sc]; exact ok) (fun s H D cl fp => show PG (X.blk s H scope (compEnvC scope cl D X.env) fp) t (TGW X.K fa tg tu) from tgt_of (hbk s H D cl fp) h2) pts
        (fun s H D cl fp => show PE (X.blk s H scope (compEnvC scope cl D X.env) fp) kx (TV X.K fa (ev T ke)) from (sndE ke _ _ _ _ (hbk s H D cl fp) h6).1) (fun s H D cl fp => show PE (X.blk s H scope (compEnvC scope cl D X.env) fp) vx (TV X.K fa (ev T ve)) from (sndE ve _ _ _ _ (hbk s H D cl fp) h8).1) (fun x => folded_of h4 x)) fun D σ H w => ?_
      rw [eo]
      exact dc_of hgt (asg_of w)
    · cases h
theorem evs_len {T : Tab} {ρ : EnvW} : ∀ {cs : List CE} {S : Store} {vs : List Val} {S' : Store}, evs T cs ρ S = some (vs, S') → vs.length = cs.length
  | [], S, vs, S', h => by
    obtain ⟨h1, _⟩ := sret_some h
    simp only at h1
    subst h1
    rfl
  | c :: cs, S, vs, S', h => by
    obtain ⟨x, S1, h1, h2⟩ := sbind_some h
    obtain ⟨y, S2, h3, h4⟩ := sbind_some h2
    obtain ⟨h5, _⟩ := sret_some h4
    simp only at h5
    subst h5
    simp [evs_len h3]
theorem chkEs_len {C : CTab} {sc : Scope} : ∀ {cs : List CE} {es : List Expr}, chkEs C sc cs es = true → cs.length = es.length
  | [], [], _ => rfl
  | c :: cs, e :: es, h => by
    obtain ⟨_, h2⟩ := and1 (show ((chkE C sc c e && notStar e) && chkEs C sc cs es) = true from h)
    simp [chkEs_len h2]
theorem or1 {a b : Bool} (h : (a || b) = true) : a = true ∨ b = true := Bool.or_eq_true _ _ ▸ h
theorem subs_of (g : GoodX X C fa T sc ow) : ∀ {os is : List CE} {ts : List Expr}, subsB C sc os is ts = true → PGs X ts (TGsP X.K fa fun ρ vs => putEach T ρ os is vs) ∧ (∀ ρ vs S S', putEach T ρ os is vs S = some ((), S') → vs.length = ts.length) ∧ (assignEach ts X.env).length = ts.length ∧ (assignEach ts X.env).findIdx? (·.1) = none
  | [], [], [], _ => by
    refine ⟨pgs_nilP fun ρ vs S S' h => ?_, fun ρ vs S S' h => ?_, rfl, rfl⟩
    · cases vs with
      | nil => exact ⟨rfl, (sret_some h).2⟩
      | cons _ _ => cases h
    · cases vs with
      | nil => rfl
      | cons _ _ => cases h
  | o :: os, i :: is, .Subscript x y p :: es, h => by
    obtain ⟨h123, h4⟩ := and1 (show (((chkE C sc o x && chkE C sc i y) && plainIxB y) && subsB C sc os is es) = true from h)
    obtain ⟨h12, h3⟩ := and1 h123
    obtain ⟨h1, h2⟩ := and1 h12
    obtain ⟨a1, a2, a3, a4⟩ := subs_of g h4
    refine ⟨pgs_consP (sndE o X sc ow x g h1).1 (sndE i X sc ow y g h2).1 a1 (fun v => asub_of h3 v) rfl (fun ρ vs S S' h => ?_), fun ρ vs S S' h => ?_, by simp [assignEach, a3], ?_⟩
    · cases vs with
      | nil => cases h
      | cons v vr => exact ⟨v, vr, rfl, h⟩
    · cases vs with
      | nil => cases h
      | cons v vr =>
        obtain ⟨x, S2, hx, h2⟩ := sbind_some h
        obtain ⟨y, S3, hy, h3⟩ := sbind_some h2
        obtain ⟨⟨⟩, S4, hp, h4⟩ := sbind_some h3
        have := a2 _ _ _ _ h4
        simp [this]
    · show List.findIdx? (·.1) ((false, _) :: assignEach es X.env) = none
      rw [List.findIdx?_cons]
      simp [a4]
mutual
theorem sndS (g : GoodX X C fa T sc ow) (hp : PassesOwn (model X.prog X.w) X.A X.env X.xe) : ∀ (c : CS) (st : Stmt), chkS C sc ow c st = true → PS X st (TSW X.K fa (exec T c))
  | .set i e, st, h => by
    unfold chkS at h
    split at h
    · rename_i x p v pos
      obtain ⟨h12, h3⟩ := and1 h
      obtain ⟨h1, h2⟩ := and1 h12
      have hi : X.N[i]? = some x := by rw [g.N]; exact of_decide_eq_true h1
      obtain ⟨hl, hf⟩ := set_of g h2
      have plain : ∀ e, chkE C sc e v = true → noSwap sc v (some (.Name x p)) pos.line = true → PS X (.Assign [.Name x p] v pos) (TSW X.K fa fun ρ => sbind (ev T e ρ) fun v => sret (.nx (ρ.set i (some v)))) :=
        fun e h4 h5 => ps_setW g.nd hi hl (sndE e X sc ow v g h4).1 (noSwap_of g.sc h5) hf
      split at h3
      · obtain ⟨h4, h5⟩ := and1 h3
        rcases or1 h5 with h5 | h5
        · exact plain _ h4 h5
        · obtain ⟨h6, h7⟩ := and1 h5
          exact ps_setSwap g (.inl ⟨_, _, _, _, _, _, _, rfl⟩) hi (by rw [g.sc]; exact of_decide_eq_true h7) (isSwap_of g.sc h6) h4
      · obtain ⟨h4, h5⟩ := and1 h3
        rcases or1 h5 with h5 | h5
        · exact plain _ h4 h5
        · obtain ⟨h6, h7⟩ := and1 h5
          exact ps_setSwap g (.inr ⟨_, _, _, _, _, _, _, _, _, _, rfl⟩) hi (by rw [g.sc]; exact of_decide_eq_true h7) (isSwap_of g.sc h6) h4
      · obtain ⟨h4, h5⟩ := and1 h3
        rcases or1 h5 with h5 | h5
        · exact plain _ h4 h5
        · obtain ⟨h6, h7⟩ := and1 h5
          exact ps_setSwapD g hi (by rw [g.sc]; exact of_decide_eq_true h7) (isSwap_of g.sc h6) h4
      · obtain ⟨h4, h5⟩ := and1 h3
        exact plain _ h4 h5
    · cases h
  | .tset is e, st, h => by
    unfold chkS at h
    split at h
    · rename_i ts k p v pos
      obtain ⟨h123, h4⟩ := and1 h
      obtain ⟨h12, h3⟩ := and1 h123
      obtain ⟨h1, h2⟩ := and1 h12
      exact ps_tsetW (sndE e X sc ow v g h2).1 (tgt_of g h1) (noSwap_of g.sc h3) (noStore_of g.sc h4) rfl
    · cases h
  | .par is es, st, h => by
    unfold chkS at h
    split at h
    · rename_i ts k p xs k2 p2 pos
      obtain ⟨h12, h3⟩ := and1 h
      obtain ⟨h1, h2⟩ := and1 h12
      have pa := sndEs es X sc ow _ g h1
      rcases or1 h3 with h3 | h3
      · unfold parB at h3
        split at h3
        · rename_i i j x px y py a b
          obtain ⟨h123, h5⟩ := and1 h3
          obtain ⟨h12, h3⟩ := and1 h123
          obtain ⟨h1, h2⟩ := and1 h12
          obtain ⟨g1, g2⟩ := loc_of g h1
          obtain ⟨g3, g4⟩ := loc_of g h2
          exact ps_par2W g.calm g.nd g1 g3 (of_decide_eq_true h3) g2 g4 pa.1 (isStore_of g.sc h5) rfl
        · rename_i i j l x px y py z pz a b c
          obtain ⟨hb, h8⟩ := and1 h3
          obtain ⟨hc, h6⟩ := and1 hb
          obtain ⟨hd, h5⟩ := and1 hc
          obtain ⟨he, h4⟩ := and1 hd
          obtain ⟨hf, h3⟩ := and1 he
          obtain ⟨h1, h2⟩ := and1 hf
          obtain ⟨g1, g2⟩ := loc_of g h1
          obtain ⟨g3, g4⟩ := loc_of g h2
          obtain ⟨g5, g6⟩ := loc_of g h3
          exact ps_par3W g.calm g.nd g1 g3 g5 (of_decide_eq_true h4) (of_decide_eq_true h5) (of_decide_eq_true h6) g2 g4 g6 pa.1 (isStore_of g.sc h8) rfl
        · cases h3
      · obtain ⟨h4, h5⟩ := and1 h3
        obtain ⟨_, h6⟩ := and1 (show (true && tgtsB C.N ow sc is ts) = true from h5)
        obtain ⟨a1, a2, a3, a4⟩ := tgts_of g h6
        exact ps_parTW g.calm pa.1 a1 a2 a3 a4 rfl (noStore_of g.sc h4) (of_decide_eq_true h2) (fun ρ S vs S' h => (evs_len h).trans (chkEs_len h1)) rfl
    · cases h
  | .sub o i e, st, h => by
    unfold chkS at h
    split at h
    · rename_i x y p v pos
      obtain ⟨h1234, h5⟩ := and1 h
      obtain ⟨h123, h4⟩ := and1 h1234
      obtain ⟨h12, h3⟩ := and1 h123
      obtain ⟨h1, h2⟩ := and1 h12
      exact ps_subW (sndE o X sc ow x g h1).1 (sndE i X sc ow y g h2).1 (sndE e X sc ow v g h4).1 (noSwap_of g.sc h5) rfl rfl fun v => asub_of h3 v
    · cases h
  | .parsub os is es, st, h => by
    unfold chkS at h
    split at h
    · rename_i ts k p xs k2 p2 pos
      obtain ⟨h12, h3⟩ := and1 h
      obtain ⟨h1, h2⟩ := and1 h12
      obtain ⟨a1, a2, a3, a4⟩ := subs_of g h1
      exact ps_parsubW g.calm (sndEs es X sc ow _ g h2).1 a1 a2 rfl (noStore_of g.sc h3) rfl a3 a4
    · cases h
  | .aug i e, st, h => by
    unfold chkS at h
    split at h
    · rename_i x p v pos
      obtain ⟨h12, h3⟩ := and1 h
      obtain ⟨h1, h2⟩ := and1 h12
      obtain ⟨hl, hf⟩ := set_of g h2
      exact ps_augW g.nd (by rw [g.N]; exact of_decide_eq_true h1) hl (sndE e X sc ow v g h3).1 hf
    · cases h
  | .ex e, st, h => by
    unfold chkS at h
    split at h
    · rename_i v pos
      obtain ⟨h1, h2⟩ := and1 h
      exact ps_exW (sndE e X sc ow v g h1).1 (noSwap_of g.sc h2)
    · cases h
  | .ret e, st, h => by
    unfold chkS at h
    split at h
    · exact ps_retW (sndE e X sc ow _ g h).1
    · cases h
  | .retn, st, h => by
    unfold chkS at h
    split at h
    · exact ps_retnW
    · cases h
  | .ite c a b, st, h => by
    unfold chkS at h
    split at h
    · rename_i t x y pos
      obtain ⟨h12, h3⟩ := and1 h
      obtain ⟨h1, h2⟩ := and1 h12
      exact ps_ifW (sndE c X sc ow t g h1).2.1 (sndB g hp a x h2) (sndB g hp b y h3)
    · cases h
  | .forr tg tu it body, st, h => by
    unfold chkS at h
    split at h
    · rename_i t iter bs pos
      obtain ⟨h123, h4⟩ := and1 h
      obtain ⟨h12, h3⟩ := and1 h123
      obtain ⟨h1, h2⟩ := and1 h12
      exact ps_forW hp g.calm (sndI it X sc ow tu t iter g h2) (tgt_of g h1) (sndB g hp body bs h4) fun x => folded_of h3 x
    · cases h
  | .whl c body, st, h => by
    unfold chkS at h
    split at h
    · rename_i t bs pos
      obtain ⟨h1, h2⟩ := and1 h
      exact ps_whileW hp (sndE c X sc ow t g h1).2.1 (sndB g hp body bs h2)
    · cases h
  | .brk, st, h => by
    unfold chkS at h
    split at h
    · exact ps_brkW
    · cases h
  | .cnt, st, h => by
    unfold chkS at h
    split at h
    · exact ps_cntW
    · cases h
  | .pass, st, h => by
    unfold chkS at h
    split at h
    · exact ps_passW
    · exact ps_docW
    · cases h
theorem sndB (g : GoodX X C fa T sc ow) (hp : PassesOwn (model X.prog X.w) X.A X.env X.xe) : ∀ (cs : List CS) (ss : List Stmt), chkB C sc ow cs ss = true → PSs X ss (TSW X.K fa (execs T cs))
  | [], ss, h => by
    cases ss with
    | nil => exact pss_nilW
    | cons _ _ => cases h
  | c :: cs, ss, h => by
    cases ss with
    | nil => cases h
    | cons s ss =>
      obtain ⟨h1, h2⟩ := and1 (show (chkS C sc ow c s && chkB C sc ow cs ss) = true from h)
      exact pss_consW (sndS g hp c s h1) (sndB g hp cs ss h2)
end
end
end Wf
set_option maxRecDepth 100000
set_option maxHeartbeats 8000000
/-! W22: defs by their bodies. -/
namespace Wf
open PySem PySem.Spec PyProof.Rows L2
section
variable {K : PySem.W.Frag} {fa : FaW} {F F' : FrZ} {m m' : List Addr} {S S' : Store} {H H' : Hp}
/-- references below a bound mean the same in the shorter map -/
theorem reps_cutm (hm : m <+: m') : ∀ {vs : List Val} {us : List V}, (∀ j, Val.r j ∈ vs → j < m.length) → RepVs K fa F m' H vs us → RepVs K fa F m H vs us
  | [], us, _, h => h
  | v :: vs, us, hb, ⟨u, ws, e, h1, h2⟩ => by
    refine ⟨u, ws, e, ?_, reps_cutm hm (fun j hj => hb j (List.mem_cons_of_mem _ hj)) h2⟩
    cases v with
    | d x => exact h1
    | f k => exact h1
    | scr ns => exact h1
    | r k =>
      obtain ⟨a, g1, rfl⟩ := h1
      refine ⟨a, ?_, rfl⟩
      obtain ⟨t, rfl⟩ := hm
      rw [List.getElem?_append_left (hb k List.mem_cons_self)] at g1
      exact g1
/-- the store as it was long -/
theorem cut_world (r0 : SR K fa F m S H) (st : Step F m S H F' m' S' H') (r : SR K fa F' m' S' H') : Step F m S H F' m (S'.take S.length) H' ∧ SR K fa F' m (S'.take S.length) H' := by
  have lm := st.pre.length_le
  have l1 := r.len
  have l0 := r0.len
  have get : ∀ k, k < S.length → (S'.take S.length)[k]? = S'[k]? := fun k hk => by rw [List.getElem?_take]; simp [hk]
  refine ⟨⟨st.sub, List.prefix_refl _, st.fr, fun k a xs h1 h2 => ?_, st.new, fun a h => .inl h, st.up⟩, ⟨by rw [List.length_take]; omega, fun k a c h1 h2 => ?_, r0.inj, r.live, fun a h => ?_, fun k lk xs j h1 h2 => ?_⟩⟩
  · obtain ⟨e1, e2⟩ := st.lk k a xs h1 h2
    exact ⟨e1, by rw [get k (get_len h2)]; exact e2⟩
  · have hk : k < S.length := by rw [← l0]; exact get_len h1
    rw [get k hk] at h2
    have := r.cell k a c (pre_get st.pre h1) h2
    cases c with
    | lst lk xs =>
      obtain ⟨n, vs, e, g⟩ := this
      exact ⟨n, vs, e, reps_cutm st.pre (fun j hj => by have := r.wf k lk xs j h2 hj; omega) g⟩
    | dct _ _ => exact this
    | dead => trivial
  · exact fun z => r0.mlive a h (st.up a z)
  · have hk := get_len h1
    rw [List.length_take] at hk
    rw [get k (by omega)] at h1
    exact r.wf k lk xs j h1 h2
/-- what is given back as data -/
theorem back_data (r0 : SR K fa F m S H) (st : Step F m S H F' m' S' H') (r : SR K fa F' m' S' H') {v : Val} {u : V} {d : PyData} (h : RepV K fa F' m' H' v u) (hn : newR S.length v = true) (e : dr S' v = some d) :
    ∃ F2, Step F m S H F2 m (S'.take S.length) H' ∧ SR K fa F2 m (S'.take S.length) H' ∧ Rep K F2 H' d u := by
  obtain ⟨st2, r2⟩ := cut_world r0 st r
  cases v with
  | d x =>
    cases e
    exact ⟨F', st2, r2, h⟩
  | f k => cases e
  | scr ns => cases e
  | r k =>
    have hn : S.length ≤ k := of_decide_eq_true hn
    obtain ⟨a, g1, rfl⟩ := h
    unfold dr at e
    simp only at e
    split at e
    · rename_i lk xs hS
      obtain ⟨ds, e1, rfl⟩ := Option.map_eq_some_iff.mp e
      obtain ⟨nF, us, g2, g3⟩ := r.cell k a _ g1 hS
      have nm : a ∉ m := fun z => by
        obtain ⟨j, hj⟩ := List.mem_iff_getElem?.mp z
        have e2 := r.inj j k a (pre_get st.pre hj) g1
        have := get_len hj
        have l0 := r0.len
        omega
      have hH : H a = none := by
        rcases st.mnew a (mem_of_get g1) with z | z
        · exact absurd z nm
        · exact z
      obtain ⟨a1, a2, a3⟩ := adopt_frz st2 r2 hH g2 nm (g3.data e1)
      exact ⟨_, a1, a2, a3⟩
    · cases e
theorem er_start {N : List Str} {d : Def} {ws : List Val} {vs : List V} (hN : d.nv = N.length) (hl : ws.length = d.np) (h : RepVs K fa F m H ws vs) : ER K fa F m H (startW d ws) (L2.start N vs) := by
  have hlen := h.length
  refine ⟨by unfold startW L2.start; simp; omega, fun i v e => ?_⟩
  unfold startW at e
  by_cases hi : i < ws.length
  · rw [List.getElem?_append_left (by simpa using hi), List.getElem?_map] at e
    obtain ⟨w, hw, e2⟩ := Option.map_eq_some_iff.mp e
    cases e2
    obtain ⟨u, g1, g2⟩ := h.get hw
    refine ⟨u, ?_, g2⟩
    unfold L2.start
    rw [List.getElem?_append_left (by rw [List.length_map]; omega), List.getElem?_map, g1]
    rfl
  · rw [List.getElem?_append_right (by simpa using hi)] at e
    rw [List.getElem?_replicate] at e
    split at e <;> cases e
end
/-- a def of the program: its name, its names, its params, its core -/
structure PDef where
  name : Str
  N : List Str
  P : List Str
  d : Def
def fnsOf (ds : List PDef) : List (Str × Nat) := ds.zipIdx.map fun p => (p.1.name, p.2)
def ctOf (fns : List (Str × Nat)) (ps : List Bool) (blts : List Str) (p : PDef) : CTab := ⟨p.N, fns, ps, blts⟩
/-- the names of a def's scope -/
def scW (N P : List Str) (sc : Scope) : Bool :=
  decide (sc.kind = .function) && !sc.isCoroutine && !sc.isGenerator && decide N.Nodup && decide (N.take P.length = P) && P.all (fun x => decide (sc.names.lookup x = some .local) || decide (sc.names.lookup x = some .cell)) && sc.names.all (fun y => !decide (y.2 = .free))
theorem scW_ok {N P : List Str} {sc : Scope} (h : scW N P sc = true) : FnScope N P sc := by
  unfold scW at h
  simp only [Bool.and_eq_true, Bool.not_eq_true', decide_eq_true_eq, List.all_eq_true, Bool.or_eq_true, decide_eq_false_iff_not] at h
  obtain ⟨⟨⟨⟨⟨⟨h1, h2⟩, h3⟩, h4⟩, h5⟩, h6⟩, h7⟩ := h
  exact ⟨h1, h2, h3, h4, h5, h6, h7⟩
/-- a def is well compiled -/
def defB (fns : List (Str × Nat)) (ps : List Bool) (blts : List Str) (p : PDef) (st : Stmt) : Bool :=
  scW p.N p.P (defScope st) && decide (p.d.np = p.P.length) && decide (p.d.nv = p.N.length) && chkB (ctOf fns ps blts p) (defScope st) (cellsOf (defScope st)) p.d.body (defBody st)
section
variable {P : Program} {w : World} {K : PySem.W.Frag} {mg : Str → Option Value} {base : Heap} {fa : FaW}
theorem def_ok (hw : fa.h = fun k => k.hash w) {fns : List (Str × Nat)} {ps : List Bool} {blts : List Str} {pd : PDef} {st : Stmt} {T : Tab} {T' : Tab} {j n : Nat} {f : Addr} {fd : FuncData} {x qual : Str} (hd : defB fns ps blts pd st = true) (Fu : Fun K x qual st f fd)
    (hfns : ∀ x j, fns.lookup x = some j → ∃ f, mg x = some (.ref f) ∧ fa.l[j]? = some f) (hblt : ∀ x ∈ blts, mg x = none) (hisP : ∀ k, T.isP k = ps.getD k false)
    (htab : ∀ j f, fa.l[j]? = some f → ∃ fd ps, FnOk P w K mg base CX0 n f fd ps (spOf K fa T j) ∧ PySem.W.keepIn K (.ref f) = true ∧ Binds K fd ps [])
    (hT : T'.isP j = pd.d.isP) (hp : pd.d.isP = true → ∀ vs, T'.pure j vs = runP T pd.d vs) (hs : pd.d.isP = false → ∀ vs, T'.st j vs = runS T pd.d vs) :
    FnOk P w K mg base CX0 (n + 1) f fd pd.P (spOf K fa T' j) := by
  obtain ⟨h123, h4⟩ := and1 hd
  obtain ⟨h12, h3⟩ := and1 h123
  obtain ⟨h1, h2⟩ := and1 h12
  have hnp : pd.d.np = pd.P.length := of_decide_eq_true h2
  have hnv : pd.d.nv = pd.N.length := of_decide_eq_true h3
  refine Fu.ok (scW_ok h1) (fun vs H Q E h => ?_) (fun cdv A outer s H vs Q E hr h => ?_)
  · unfold spOf at h
    rw [hT] at h
    split at h
    · rename_i hP
      obtain ⟨F, ws, d, r, hw, e, k⟩ := h
      rw [hp hP] at e
      unfold runP at e
      split at e
      · rename_i hl
        rw [← hw.length, hl, hnp]
      · cases e
    · rename_i hP
      obtain ⟨F, m, S, ws, v, S', r, hw, e, k⟩ := h
      rw [hs (by simpa using hP)] at e
      unfold runS at e
      split at e
      · rename_i hl
        rw [← hw.length, hl, hnp]
      · cases e
  · generalize hX : (cxOf CX0 P w K mg base pd.N qual (defScope st) f cdv A outer s H E).nox = X
    have g : GoodX X (ctOf fns ps blts pd) fa T (defScope st) (cellsOf (defScope st)) := by
      subst hX
      exact ⟨rfl, (scW_ok h1).nd, rfl, rfl, by have := hr.un; show (A.deeper (envOfC qual (defScope st) s.heap.objs.size f cdv)).units + 65 < cLine; omega, hw, fun _ _ => rfl, hfns, hblt, hisP, fun j f hf => let ⟨fd, ps, a, b, c⟩ := htab j f hf; ⟨n, fd, ps, a, hr, b, c⟩⟩
    have hpass : PassesOwn (model X.prog X.w) X.A X.env X.xe := by
      subst hX
      exact PassesOwn.never
    have hKX : X.K = K := by subst hX; rfl
    have body := sndB g hpass pd.d.body (defBody st) h4
    rw [hKX] at body
    refine ⟨_, body, ?_⟩
    unfold spOf at h
    rw [hT] at h
    split at h
    · rename_i hP
      obtain ⟨F, ws, d, r, hw, e, k⟩ := h
      rw [hp hP] at e
      unfold runP at e
      split at e
      · rename_i hl
        split at e
        · rename_i v S' hx
          refine ⟨F, [], startW pd.d ws, [], _, _, r, er_start hnv hl hw, hx, fun F' m' H' st r' u hu => ?_⟩
          obtain ⟨F2, a1, a2, a3⟩ := back_data r st r' hu (by cases v <;> first | rfl | exact decide_eq_true (Nat.zero_le _)) e
          exact k F2 H' u a1 a2 a3
        · rename_i ρ S' hx
          cases e
          refine ⟨F, [], startW pd.d ws, [], _, _, r, er_start hnv hl hw, hx, fun F' m' H' st r' σ1 _ => ?_⟩
          obtain ⟨a1, a2⟩ := cut_world r st r'
          exact k F' H' .non a1 a2 (rep_non _ _)
        · cases e
      · cases e
    · rename_i hP
      obtain ⟨F, m, S, ws, v, S', r, hw, e, k⟩ := h
      rw [hs (by simpa using hP)] at e
      unfold runS at e
      split at e
      · rename_i hl
        split at e
        · rename_i v1 S1 hx
          refine ⟨F, m, startW pd.d ws, S, _, _, r, er_start hnv hl hw, hx, fun F' m' H' st r' u hu => ?_⟩
          split at e
          · cases e
            exact k F' m' H' u st r' hu
          · split at e
            · rename_i hn
              split at e
              · rename_i x hd
                cases e
                obtain ⟨F2, a1, a2, a3⟩ := back_data r st r' hu hn hd
                exact k F2 m H' u a1 a2 a3
              · cases e
            · cases e
        · rename_i ρ S1 hx
          cases e
          refine ⟨F, m, startW pd.d ws, S, _, _, r, er_start hnv hl hw, hx, fun F' m' H' st r' σ1 _ => ?_⟩
          obtain ⟨a1, a2⟩ := cut_world r st r'
          exact k F' m H' .non a1 a2 (show Rep K F' H' .none .non from rep_non _ _)
        · cases e
      · cases e
end
end Wf
set_option maxRecDepth 100000
set_option maxHeartbeats 8000000
/-! W27: all defs of a program at once, and the end of a law. -/
namespace Wf
open PySem PySem.Spec PyProof.Rows L2
def BindsP (x : Str) (P : List Str) (st : Stmt) : Prop := ∀ (kV doc pm : Value) (an : Option Addr) (cdv ct : Value) (us : List Value), us.length = P.length → bindArgs (PySem.W.fnOf x x (defArgs st) (defBody st) (defScope st) .none kV doc pm an cdv ct) ⟨us, []⟩ = pure (P.zip us)
abbrev PS2 : Type := PDef × Stmt
def fnsA (ds : List PS2) : List (Str × Nat) := ds.zipIdx.map fun p => (p.1.1.name, p.2)
def psA (ds : List PS2) : List Bool := ds.map fun p => p.1.d.isP
noncomputable def tabA (ds : List PS2) (n : Nat) : Tab := mkTab (ds.map fun p => p.1.d) n
def fnD (p : PS2) : He.FnD := ⟨(p.1.name, none), p.1.name, p.1.name, defArgs p.2, defBody p.2, defScope p.2⟩
def faA (ds : List PS2) (blts : List Str) : List He.Fa := (ds.map fun p => He.Fa.glo p.1.name) ++ ((ds.map fun p => He.Fa.keep p.1.name) ++ blts.map He.Fa.free)
def fwA (K : PySem.W.Frag) (w : World) (ds : List PS2) : FaW := ⟨ds.map fun p => He.ga K p.1.name, fun k => k.hash w⟩
/-- the program's texts are what the cores say -/
structure AllB (ds : List PS2) (blts : List Str) : Prop where
  ok : ∀ p ∈ ds, defB (fnsA ds) (psA ds) blts p.1 p.2 = true ∧ BindsP p.1.name p.1.P p.2
section
variable {P : Program} {w : World} {K : PySem.W.Frag} {mg : Str → Option Value} {base h : Heap} {ds : List PS2} {blts : List Str}
theorem fact_mem {fa : List He.Fa} {fn : List He.FnD} (c : He.SaysE fa fn K) {f : He.Fa} (hf : f ∈ fa) : f.ok K = true := by
  obtain ⟨i, hi⟩ := List.mem_iff_getElem?.mp hf
  exact c.fact i hi
theorem def_mem {fa : List He.Fa} (c : He.SaysE fa (ds.map fnD) K) {p : PS2} (hp : p ∈ ds) (hk : PySem.W.keepIn K (.ref (He.ga K p.1.name)) = true) : ∃ fd, Fun K p.1.name p.1.name p.2 (He.ga K p.1.name) fd := by
  obtain ⟨i, hi⟩ := List.mem_iff_getElem?.mp (List.mem_map_of_mem (f := fnD) hp)
  obtain ⟨oc, od, osl, kV, doc, pm, an, cdv, ct, h1, h2⟩ := c.def_ i hi
  exact ⟨_, fun_mk (st := p.2) h1 h2 hk⟩
theorem lookup_mem {α β : Type} [BEq α] [LawfulBEq α] : ∀ {xs : List (α × β)} {a : α} {b : β}, xs.lookup a = some b → (a, b) ∈ xs
  | (x, y) :: r, a, b, h => by
    rw [List.lookup_cons] at h
    cases q : (a == x) with
    | true =>
      rw [q] at h
      cases h
      rw [beq_iff_eq.mp q]
      exact List.mem_cons_self
    | false =>
      rw [q] at h
      exact List.mem_cons_of_mem _ (lookup_mem h)
theorem fns_mem {x : Str} {j : Nat} (h : (fnsA ds).lookup x = some j) : ∃ p, ds[j]? = some p ∧ p.1.name = x := by
  have h := lookup_mem h
  unfold fnsA at h
  obtain ⟨q, h1, h2⟩ := List.mem_map.mp h
  cases h2
  exact ⟨q.1, List.mem_zipIdx_iff_getElem?.mp h1, rfl⟩
theorem isP_tab (n k : Nat) : (tabA ds n).isP k = (psA ds).getD k false := by
  have e : (tabA ds n).isP k = isPW (ds.map fun p => p.1.d) k := by
    unfold tabA
    cases n <;> rfl
  rw [e]
  unfold isPW psA
  rw [List.getElem?_map, List.getD_eq_getElem?_getD, List.getElem?_map]
  cases ds[k]? <;> rfl
theorem all_ok (X : K.In h) (G : h.Ns mainGlobals mg) (hb : AllB ds blts) (c : He.SaysE (faA ds blts) (ds.map fnD) K) : ∀ (n j : Nat) (p : PS2), ds[j]? = some p → ∀ fd, Fun K p.1.name p.1.name p.2 (He.ga K p.1.name) fd →
    FnOk P w K mg base CX0 n (He.ga K p.1.name) fd p.1.P (spOf K (fwA K w ds) (tabA ds n) j)
  | 0, j, p, hj, fd, Fu => by
    have no : ∀ vs H Q E, ¬ spOf K (fwA K w ds) (tabA ds 0) j vs H Q E := fun vs H Q E h => by
      unfold spOf at h
      split at h
      · obtain ⟨F, ws, d, _, _, e, _⟩ := h
        cases e
      · obtain ⟨F, m, S, ws, v, S', _, _, e, _⟩ := h
        cases e
    exact ⟨fun vs H Q E h => absurd h (no vs H Q E), fun A outer s H args us vs Q E _ _ _ _ h => absurd h (no vs H Q E)⟩
  | n + 1, j, p, hj, fd, Fu => by
    have hm := List.mem_of_getElem? hj
    have kp : ∀ q ∈ ds, PySem.W.keepIn K (.ref (He.ga K q.1.name)) = true := fun q hq =>
      fact_mem c (f := .keep q.1.name) (List.mem_append_right _ (List.mem_append_left _ (List.mem_map_of_mem (f := fun p : PS2 => He.Fa.keep p.1.name) hq)))
    have gl : ∀ q ∈ ds, mg q.1.name = some (.ref (He.ga K q.1.name)) := fun q hq =>
      He.glo_ok X G (fact_mem c (f := .glo q.1.name) (List.mem_append_left _ (List.mem_map_of_mem (f := fun p : PS2 => He.Fa.glo p.1.name) hq)))
    refine def_ok (fa := fwA K w ds) (T := tabA ds n) (T' := tabA ds (n + 1)) rfl (hb.ok p hm).1 Fu (fun x k hx => ?_) (fun x hx => ?_) (fun k => isP_tab n k) (fun k f hk => ?_) ?_ ?_ ?_
    · obtain ⟨q, h1, h2⟩ := fns_mem hx
      subst h2
      refine ⟨_, gl q (List.mem_of_getElem? h1), ?_⟩
      show (ds.map fun p => He.ga K p.1.name)[k]? = _
      rw [List.getElem?_map, h1]
      rfl
    · exact He.free_ok X G (fact_mem c (f := .free x) (List.mem_append_right _ (List.mem_append_right _ (List.mem_map_of_mem hx))))
    · have hk : (ds.map fun p => He.ga K p.1.name)[k]? = some f := hk
      rw [List.getElem?_map] at hk
      obtain ⟨q, h1, h2⟩ := Option.map_eq_some_iff.mp hk
      subst h2
      have hq := List.mem_of_getElem? h1
      obtain ⟨fd2, Fu2⟩ := def_mem c hq (kp q hq)
      exact ⟨fd2, q.1.P, all_ok X G hb c n k q h1 fd2 Fu2, kp q hq, Fu2.binds (hb.ok q hq).2⟩
    · rw [isP_tab]
      unfold psA
      rw [List.getD_eq_getElem?_getD, List.getElem?_map, hj]
      rfl
    · intro hP vs
      have e : (ds.map fun p : PS2 => p.1.d)[j]? = some p.1.d := by rw [List.getElem?_map, hj]; rfl
      show (match (ds.map fun p : PS2 => p.1.d)[j]? with
        | some d => if d.isP = true then runP (mkTab (ds.map fun p : PS2 => p.1.d) n) d vs else none
        | none => none) = _
      rw [e]
      simp only [hP, if_true]
      rfl
    · intro hP vs
      have e : (ds.map fun p : PS2 => p.1.d)[j]? = some p.1.d := by rw [List.getElem?_map, hj]; rfl
      show (match (ds.map fun p : PS2 => p.1.d)[j]? with
        | some d => if d.isP = true then sfail else runS (mkTab (ds.map fun p : PS2 => p.1.d) n) d vs
        | none => sfail) = _
      rw [e]
      simp only [hP, Bool.false_eq_true, if_false]
      rfl
/-- the law's promise -/
theorem law_start {n j : Nat} (hP : (psA ds).getD j false = true) (hl : ∀ ns : List Int, ns.length ≤ 63 → (tabA ds n).pure j [.scr ns] = some (.bool true)) (H : Hp) (a : Addr) (ns : List Int) (h63 : ns.length ≤ 63) (hS : SqL K H a (ns.map V.int)) :
    spOf K (fwA K w ds) (tabA ds n) j [.ref a] H (fun v _ => v = .bl true) fun _ _ _ => False := by
  unfold spOf
  rw [isP_tab, hP, if_pos rfl]
  refine ⟨fun b => b = a ∧ H b ≠ none, [.scr ns], .bool true, ⟨rfl, fun k a c h1 => by simp at h1, fun i j a h1 => by simp at h1, fun b hb => hb.2, fun b hb => (by simp at hb), fun k lk xs j h1 => by simp at h1⟩, ?_, hl ns h63, fun F' H' u _ _ hu => ?_⟩
  · refine ⟨.ref a, [], rfl, ⟨a, rfl, ?_⟩, rfl⟩
    rcases hS with hR | hK
    · refine .inl ⟨⟨rfl, fun z => ?_⟩, hR⟩
      rcases hR with g | ⟨o, g⟩ <;> rw [z] at g <;> cases g
    · exact .inr hK
  · unfold Rep at hu
    exact hu
/-- THE END: for walk_ofE -/
theorem law_end {n j : Nat} {p : PS2} {x : Str} {f : Addr} (hb : AllB ds blts) (hj : ds[j]? = some p) (hx : p.1.P = [x]) (hP : (psA ds).getD j false = true) (hl : ∀ ns : List Int, ns.length ≤ 63 → (tabA ds n).pure j [.scr ns] = some (.bool true))
    (X : K.In h) (G : h.Ns mainGlobals mg) (hf : mg p.1.name = some (.ref f)) (c : He.SaysE (faA ds blts) (ds.map fnD) K) :
    ∃ (K : PySem.W.Frag) (fd : FuncData) (sp : Sp), K.In h ∧ (∀ (s : Shared) (u : Value), BindsTo s fd ⟨[u], []⟩ [(x, u)]) ∧
        (∀ (H : Hp) (a : Addr) (ns : List Int), ns.length ≤ 63 → Only H → SqL K H a (ns.map V.int) → sp [.ref a] H (fun v _ => v = .bl true) fun _ _ _ => False) ∧
        ∀ base : Heap, K.In base → base.Ns mainGlobals mg → FnOk P w K mg base CX0 n f fd [x] sp := by
  have hm := List.mem_of_getElem? hj
  have kp := fact_mem c (f := .keep p.1.name) (List.mem_append_right _ (List.mem_append_left _ (List.mem_map_of_mem (f := fun p : PS2 => He.Fa.keep p.1.name) hm)))
  have gl := He.glo_ok X G (fact_mem c (f := .glo p.1.name) (List.mem_append_left _ (List.mem_map_of_mem (f := fun p : PS2 => He.Fa.glo p.1.name) hm)))
  obtain ⟨fd, Fu⟩ := def_mem c hm kp
  have e := hf.symm.trans gl
  cases e
  refine ⟨K, fd, spOf K (fwA K w ds) (tabA ds n) j, X, fun s u => ?_, fun H a ns h1 _ h2 => law_start hP hl H a ns h1 h2, fun base _ _ => ?_⟩
  · obtain ⟨oc, od, kV, doc, pm, an, cdv, ct, osl, rfl, lk, hcd⟩ := Fu.ex
    have := (hb.ok p hm).2 kV doc pm an cdv ct [u] (by rw [hx]; rfl)
    rw [hx] at this
    exact .of_eq this
  · have := all_ok (P := P) (w := w) (base := base) X G hb c n j p hj fd Fu
    rw [hx] at this
    exact this
end
end Wf
namespace Wf
open PySem PySem.Spec PyProof.Rows L2
def AllR (fns : List (Str × Nat)) (ps : List Bool) (blts : List Str) : List PS2 → Prop
  | [] => True
  | p :: r => (defB fns ps blts p.1 p.2 = true ∧ BindsP p.1.name p.1.P p.2) ∧ AllR fns ps blts r
theorem AllR.mem {fns : List (Str × Nat)} {ps : List Bool} {blts : List Str} : ∀ {ds : List PS2}, AllR fns ps blts ds → ∀ p ∈ ds, defB fns ps blts p.1 p.2 = true ∧ BindsP p.1.name p.1.P p.2
  | _ :: _, h, p, hp => by
    rcases List.mem_cons.mp hp with e | e
    · subst e; exact h.1
    · exact AllR.mem h.2 p e
theorem allB_of {ds : List PS2} {fns : List (Str × Nat)} {ps : List Bool} {blts : List Str} (h1 : fnsA ds = fns) (h2 : psA ds = ps) (h : AllR fns ps blts ds) : AllB ds blts := ⟨by rw [h1, h2]; exact h.mem⟩
end Wf
set_option maxRecDepth 100000
set_option maxHeartbeats 4000000
/-! W28: reading the interpreter: weakest preconditions. -/
namespace Wf
open PySem
def wS {α : Type} (m : SM α) (S : Store) (Q : α → Store → Prop) : Prop := ∃ a S', m S = some (a, S') ∧ Q a S'
theorem wS_bind {α β : Type} {m : SM α} {f : α → SM β} {S : Store} {Q : β → Store → Prop} : wS (sbind m f) S Q ↔ wS m S fun a S1 => wS (f a) S1 Q := by
  unfold wS sbind
  cases h : m S with
  | none => simp
  | some p =>
    obtain ⟨a, S1⟩ := p
    constructor
    · rintro ⟨b, S2, h1, h2⟩
      exact ⟨a, S1, rfl, b, S2, h1, h2⟩
    · rintro ⟨a', S1', h1, b, S2, h2, h3⟩
      cases h1
      exact ⟨b, S2, h2, h3⟩
theorem wS_ret {α : Type} {a : α} {S : Store} {Q : α → Store → Prop} : wS (sret a) S Q ↔ Q a S := by
  constructor
  · rintro ⟨b, S2, h1, h2⟩
    cases h1
    exact h2
  · exact fun h => ⟨a, S, rfl, h⟩
theorem wS_fail {α : Type} {S : Store} {Q : α → Store → Prop} : wS (sfail : SM α) S Q ↔ False := ⟨fun ⟨_, _, h, _⟩ => (by cases h), False.elim⟩
theorem wS_ask {α : Type} {g : Store → Option α} {S : Store} {Q : α → Store → Prop} : wS (sask g) S Q ↔ ∃ x, g S = some x ∧ Q x S := by
  unfold wS sask
  cases h : g S with
  | none => simp
  | some x =>
    constructor
    · rintro ⟨a, S', h1, h2⟩
      cases h1
      exact ⟨_, rfl, h2⟩
    · rintro ⟨a, h1, h2⟩
      cases h1
      exact ⟨_, _, rfl, h2⟩
theorem wS_sif {α : Type} {b : Bool} {m : SM α} {S : Store} {Q : α → Store → Prop} : wS (sif b m) S Q ↔ b = true ∧ wS m S Q := by
  cases b
  · exact ⟨fun ⟨_, _, h, _⟩ => (by cases h), fun h => (by cases h.1)⟩
  · exact ⟨fun h => ⟨rfl, h⟩, fun h => h.2⟩
theorem wS_if {α : Type} {c : Prop} [Decidable c] {m1 m2 : SM α} {S : Store} {Q : α → Store → Prop} : wS (if c then m1 else m2) S Q ↔ if c then wS m1 S Q else wS m2 S Q := by
  split <;> rfl
theorem wS_lock {α : Type} {v : Val} {m : SM α} {S : Store} {Q : α → Store → Prop} : wS (locked v m) S Q ↔ wS m (lockAt S v) fun a S1 => Q a (unlockAt S S1 v) := by
  unfold wS locked
  cases h : m (lockAt S v) with
  | none => simp
  | some p =>
    obtain ⟨a, S1⟩ := p
    constructor
    · rintro ⟨b, S', h1, h2⟩
      cases h1
      exact ⟨_, _, rfl, h2⟩
    · rintro ⟨b, S', h1, h2⟩
      cases h1
      exact ⟨_, _, rfl, h2⟩
theorem wS_mono {α : Type} {m : SM α} {S : Store} {Q Q' : α → Store → Prop} (h : wS m S Q) (k : ∀ a S', Q a S' → Q' a S') : wS m S Q' := let ⟨a, S', e, q⟩ := h; ⟨a, S', e, k a S' q⟩
theorem wS_of {α : Type} {m : SM α} {S S' : Store} {a : α} {Q : α → Store → Prop} (h : m S = some (a, S')) : wS m S Q ↔ Q a S' := ⟨fun ⟨b, S2, e, q⟩ => by rw [h] at e; cases e; exact q, fun q => ⟨a, S', h, q⟩⟩
theorem wS_eq {α : Type} {m : SM α} {S S' : Store} {a : α} (h : wS m S fun b S2 => b = a ∧ S2 = S') : m S = some (a, S') := by
  obtain ⟨b, S2, e, rfl, rfl⟩ := h
  exact e
/-- what a statement leaves -/
def nxQ (Q : Out → Store → Prop) (K : EnvW → Store → Prop) : Out → Store → Prop := fun o S => match o with
  | .nx ρ => K ρ S
  | o => Q o S
theorem wS_execs {T : Tab} {s : CS} {r : List CS} {ρ : EnvW} {S : Store} {Q : Out → Store → Prop} : wS (execs T (s :: r) ρ) S Q ↔ wS (exec T s ρ) S (nxQ Q fun ρ1 S1 => wS (execs T r ρ1) S1 Q) := by
  show wS (sbind (exec T s ρ) _) S Q ↔ _
  rw [wS_bind]
  constructor
  · intro h
    refine wS_mono h fun o S1 q => ?_
    cases o with
    | nx ρ => exact q
    | rt v => exact (wS_ret (Q := Q)).mp q
    | bk v => exact (wS_ret (Q := Q)).mp q
    | ct v => exact (wS_ret (Q := Q)).mp q
  · intro h
    refine wS_mono h fun o S1 q => ?_
    cases o with
    | nx ρ => exact q
    | rt v => exact (wS_ret (Q := Q)).mpr q
    | bk v => exact (wS_ret (Q := Q)).mpr q
    | ct v => exact (wS_ret (Q := Q)).mpr q
theorem wS_nil {T : Tab} {ρ : EnvW} {S : Store} {Q : Out → Store → Prop} : wS (execs T [] ρ) S Q ↔ Q (.nx ρ) S := wS_ret
/-- loops -/
def turnQ (Q : Out → Store → Prop) (ρ0 : EnvW) (K : EnvW → Store → Prop) : Out → Store → Prop := fun o S => match o with
  | .nx ρ => K (mask ρ0 ρ) S
  | .ct ρ => K (mask ρ0 ρ) S
  | .bk ρ => Q (.nx (mask ρ0 ρ)) S
  | .rt v => Q (.rt v) S
theorem wS_for {ρ0 : EnvW} {body : Val → EnvW → SM Out} {Q : Out → Store → Prop} (I : List Val → EnvW → Store → Prop) (step : ∀ x r ρ S, I (x :: r) ρ S → wS (body x ρ) S (turnQ Q ρ0 fun ρ1 S1 => I r ρ1 S1)) (done : ∀ ρ S, I [] ρ S → Q (.nx ρ) S) :
    ∀ {xs : List Val} {ρ : EnvW} {S : Store}, I xs ρ S → wS (forW ρ0 body xs ρ) S Q
  | [], ρ, S, h => wS_ret.mpr (done ρ S h)
  | x :: r, ρ, S, h => by
    show wS (sbind (body x ρ) _) S Q
    rw [wS_bind]
    refine wS_mono (step x r ρ S h) fun o S1 q => ?_
    cases o with
    | nx ρ1 => exact wS_for I step done q
    | ct ρ1 => exact wS_for I step done q
    | bk ρ1 => exact wS_ret.mpr q
    | rt v => exact wS_ret.mpr q
theorem whileN_up {ρ0 : EnvW} {test : EnvW → SM Bool} {body : EnvW → SM Out} : ∀ {n m : Nat} {ρ : EnvW} {S : Store} {r : Out × Store}, n ≤ m → whileN ρ0 test body n ρ S = some r → whileN ρ0 test body m ρ S = some r
  | 0, m, ρ, S, r, _, h => by cases h
  | n + 1, 0, ρ, S, r, hm, h => by omega
  | n + 1, m + 1, ρ, S, r, hm, h => by
    obtain ⟨b, S1, h1, h2⟩ := sbind_some h
    show sbind (test ρ) _ S = _
    unfold sbind
    rw [h1]
    cases b with
    | false => exact h2
    | true =>
      obtain ⟨o, S2, h3, h4⟩ := sbind_some h2
      show sbind (body ρ) _ S1 = _
      unfold sbind
      rw [h3]
      cases o with
      | nx ρ1 => exact whileN_up (by omega) h4
      | ct ρ1 => exact whileN_up (by omega) h4
      | bk ρ1 => exact h4
      | rt v => exact h4
theorem whileW_of {test : EnvW → SM Bool} {body : EnvW → SM Out} {ρ : EnvW} {S : Store} {n : Nat} {r : Out × Store} (h : whileN ρ test body n ρ S = some r) : whileW test body ρ S = some r := by
  have he : ∃ n, (whileN ρ test body n ρ S).isSome := ⟨n, by rw [h]; rfl⟩
  unfold whileW
  rw [dif_pos he]
  have hc := he.choose_spec
  cases q : whileN ρ test body he.choose ρ S with
  | none => rw [q] at hc; cases hc
  | some r2 =>
    have a := whileN_up (Nat.le_max_left n he.choose) h
    have b := whileN_up (Nat.le_max_right n he.choose) q
    rw [a] at b
    exact b.symm
theorem wS_whileN {ρ0 : EnvW} {test : EnvW → SM Bool} {body : EnvW → SM Out} {Q : Out → Store → Prop} (I : Nat → EnvW → Store → Prop)
    (step : ∀ m ρ S, I m ρ S → wS (test ρ) S fun b S1 => if b = true then wS (body ρ) S1 (turnQ Q ρ0 fun ρ1 S2 => ∃ m', m' < m ∧ I m' ρ1 S2) else Q (.nx ρ) S1) :
    ∀ (m : Nat) {ρ : EnvW} {S : Store}, I m ρ S → ∃ n, wS (whileN ρ0 test body n ρ) S Q := by
  intro m
  induction m using Nat.strongRecOn with
  | _ m ih =>
    intro ρ S h
    obtain ⟨b, S1, e1, h1⟩ := step m ρ S h
    cases b with
    | false => exact ⟨1, wS_bind.mpr ⟨false, S1, e1, wS_ret.mpr (by simpa using h1)⟩⟩
    | true =>
      simp only [if_true] at h1
      obtain ⟨o, S2, e2, h2⟩ := h1
      cases o with
      | nx ρ1 =>
        obtain ⟨m', hm, h3⟩ := h2
        obtain ⟨n, hn⟩ := ih m' hm h3
        exact ⟨n + 1, wS_bind.mpr ⟨true, S1, e1, wS_bind.mpr ⟨_, S2, e2, hn⟩⟩⟩
      | ct ρ1 =>
        obtain ⟨m', hm, h3⟩ := h2
        obtain ⟨n, hn⟩ := ih m' hm h3
        exact ⟨n + 1, wS_bind.mpr ⟨true, S1, e1, wS_bind.mpr ⟨_, S2, e2, hn⟩⟩⟩
      | bk ρ1 => exact ⟨1, wS_bind.mpr ⟨true, S1, e1, wS_bind.mpr ⟨_, S2, e2, wS_ret.mpr h2⟩⟩⟩
      | rt v => exact ⟨1, wS_bind.mpr ⟨true, S1, e1, wS_bind.mpr ⟨_, S2, e2, wS_ret.mpr h2⟩⟩⟩
theorem wS_while {test : EnvW → SM Bool} {body : EnvW → SM Out} {Q : Out → Store → Prop} (I : Nat → EnvW → Store → Prop) {m : Nat} {ρ : EnvW} {S : Store} (h : I m ρ S)
    (step : ∀ m ρ1 S, I m ρ1 S → wS (test ρ1) S fun b S1 => if b = true then wS (body ρ1) S1 (turnQ Q ρ fun ρ1 S2 => ∃ m', m' < m ∧ I m' ρ1 S2) else Q (.nx ρ1) S1) : wS (whileW test body ρ) S Q := by
  obtain ⟨n, a, S', e, q⟩ := wS_whileN I step m h
  exact ⟨a, S', whileW_of e, q⟩
/-- comprehensions -/
theorem mapF_pure {f : Val → SM (List Val)} {g : Val → List Val} {S : Store} : ∀ {xs : List Val}, (∀ x ∈ xs, f x S = some (g x, S)) → mapF f xs S = some (xs.flatMap g, S)
  | [], _ => rfl
  | x :: r, h => by
    have e := mapF_pure (f := f) (g := g) (S := S) (xs := r) fun y hy => h y (List.mem_cons_of_mem _ hy)
    show sbind (f x) _ S = _
    unfold sbind
    rw [h x List.mem_cons_self]
    show sbind (mapF f r) _ S = _
    unfold sbind
    rw [e]
    rfl
theorem wS_mapF {f : Val → SM (List Val)} {Q : List Val → Store → Prop} (I : List Val → List Val → Store → Prop) (step : ∀ x r acc S, I (x :: r) acc S → wS (f x) S fun ys S1 => I r (acc ++ ys) S1) :
    ∀ {xs acc : List Val} {S : Store}, I xs acc S → (∀ ys S', I [] (acc ++ ys) S' → Q ys S') → wS (mapF f xs) S Q
  | [], acc, S, h, k => wS_ret.mpr (k [] S (by simpa using h))
  | x :: r, acc, S, h, k => by
    show wS (sbind (f x) _) S Q
    rw [wS_bind]
    refine wS_mono (step x r acc S h) fun ys S1 h1 => ?_
    rw [wS_bind]
    refine wS_mono (wS_mapF I step h1 fun zs S2 h2 => k (ys ++ zs) S2 (by rw [List.append_assoc] at h2; exact h2)) fun zs S2 h2 => wS_ret.mpr h2
end Wf
namespace Wf
open PySem
def rtQ (x : PyData) : Out → Store → Prop := fun o S => match o with
  | .rt v => dr S v = some x
  | .nx _ => PyData.none = x
  | _ => False
theorem runP_of {T : Tab} {d : Def} {vs : List Val} {x : PyData} (hl : vs.length = d.np) (h : wS (execs T d.body (startW d vs)) [] (rtQ x)) : runP T d vs = some x := by
  obtain ⟨o, S, e, q⟩ := h
  unfold runP
  rw [if_pos hl, e]
  cases o with
  | rt v => exact q
  | nx ρ => exact congrArg some q
  | bk ρ => exact q.elim
  | ct ρ => exact q.elim
theorem datsOf_map : ∀ ds : List PyData, datsOf (ds.map Val.d) = some ds
  | [] => rfl
  | d :: ds => by
    show (datsOf (ds.map Val.d)).map (d :: ·) = _
    rw [datsOf_map ds] <;> rfl
theorem absorb_map (ds : List PyData) (S : Store) : absorb (ds.map Val.d) S = some (ds, S) := by
  induction ds with
  | nil => rfl
  | cons d ds ih =>
    show sbind (absorb1 (.d d)) _ S = _
    unfold sbind
    show sbind (absorb (ds.map Val.d)) _ S = _
    unfold sbind
    rw [ih]
    rfl
theorem mkL_data (ds : List PyData) (S : Store) (h : ds.length ≤ sizeLine) : mkL false (ds.map Val.d) S = some (.d (.list ds), S) := by
  show sbind (absorb (ds.map Val.d)) _ S = _
  unfold sbind
  rw [absorb_map]
  show sif _ _ S = _
  rw [decide_eq_true h]
  rfl
theorem mkT_data (ds : List PyData) (S : Store) (h : ds.length ≤ sizeLine) : mkT (ds.map Val.d) S = some (.d (.tuple ds), S) := by
  show sbind (absorb (ds.map Val.d)) _ S = _
  unfold sbind
  rw [absorb_map]
  show sif _ _ S = _
  rw [decide_eq_true h]
  rfl
end Wf
set_option maxRecDepth 100000
set_option maxHeartbeats 4000000
/-! W29: the interpreter's readings as rewrite rules. -/
namespace Wf
open PySem
section
variable {T : Tab} {ρ : EnvW} {S : Store} {Q : Val → Store → Prop} {a b c d e : CE}
@[simp] theorem ev_var {i : Nat} : wS (ev T (.var i) ρ) S Q ↔ ∃ x, ρ.getD i none = some x ∧ Q x S := wS_ask
@[simp] theorem ev_int {i : Int} : wS (ev T (.int i) ρ) S Q ↔ Q (.d (.int i)) S := wS_ret
@[simp] theorem ev_str {i : Str} : wS (ev T (.str i) ρ) S Q ↔ Q (.d (.str i)) S := wS_ret
@[simp] theorem ev_bl {i : Bool} : wS (ev T (.bl i) ρ) S Q ↔ Q (.d (.bool i)) S := wS_ret
@[simp] theorem ev_non : wS (ev T .non ρ) S Q ↔ Q (.d .none) S := wS_ret
@[simp] theorem ev_fn {k : Nat} : wS (ev T (.fn k) ρ) S Q ↔ Q (.f k) S := wS_ret
@[simp] theorem ev_bin {op : Operator} : wS (ev T (.bin op a b) ρ) S Q ↔ wS (ev T a ρ) S fun x S1 => wS (ev T b ρ) S1 fun y S2 => ∃ z, binop op x y S2 = some z ∧ Q z S2 := by
  show wS (sbind _ _) S Q ↔ _
  simp only [wS_bind, wS_ask]
@[simp] theorem ev_cmp {op : CmpOp} : wS (ev T (.cmp op a b) ρ) S Q ↔ wS (ev T a ρ) S fun x S1 => wS (ev T b ρ) S1 fun y S2 => ∃ z, cmpop op x y S2 = some z ∧ Q (.d (.bool z)) S2 := by
  show wS (sbind _ _) S Q ↔ _
  simp only [wS_bind, wS_ask, wS_ret]
@[simp] theorem ev_neg {i : Int} : wS (ev T (.neg (.int i)) ρ) S Q ↔ Q (.d (.int (-i))) S := by
  show wS (sbind _ _) S Q ↔ _
  simp only [wS_bind, ev_int, wS_ret]
@[simp] theorem ev_cmp2 {op op' : CmpOp} : wS (ev T (.cmp2 op op' a b c) ρ) S Q ↔ wS (ev T a ρ) S fun x S1 => wS (ev T b ρ) S1 fun y S2 => ∃ k, cmpop op x y S2 = some k ∧ if k = true then wS (ev T c ρ) S2 fun z S3 => ∃ k, cmpop op' y z S3 = some k ∧ Q (.d (.bool k)) S3 else Q (.d (.bool false)) S2 := by
  show wS (sbind _ _) S Q ↔ _
  simp only [wS_bind, wS_ask, wS_ret, wS_if]
@[simp] theorem ev_and : wS (ev T (.and a b) ρ) S Q ↔ wS (ev T a ρ) S fun x S1 => ∃ k, truth x S1 = some k ∧ if k = true then wS (ev T b ρ) S1 Q else Q x S1 := by
  show wS (sbind _ _) S Q ↔ _
  simp only [wS_bind, wS_ask, wS_ret, wS_if]
@[simp] theorem ev_or : wS (ev T (.or a b) ρ) S Q ↔ wS (ev T a ρ) S fun x S1 => ∃ k, truth x S1 = some k ∧ if k = true then Q x S1 else wS (ev T b ρ) S1 Q := by
  show wS (sbind _ _) S Q ↔ _
  simp only [wS_bind, wS_ask, wS_ret, wS_if]
@[simp] theorem ev_not : wS (ev T (.not a) ρ) S Q ↔ wS (ev T a ρ) S fun x S1 => ∃ k, truth x S1 = some k ∧ Q (.d (.bool (!k))) S1 := by
  show wS (sbind _ _) S Q ↔ _
  simp only [wS_bind, wS_ask, wS_ret]
@[simp] theorem ev_ife : wS (ev T (.ife c a b) ρ) S Q ↔ wS (ev T c ρ) S fun x S1 => ∃ k, truth x S1 = some k ∧ if k = true then wS (ev T a ρ) S1 Q else wS (ev T b ρ) S1 Q := by
  show wS (sbind _ _) S Q ↔ _
  simp only [wS_bind, wS_ask, wS_if]
@[simp] theorem evs_nil {Q : List Val → Store → Prop} : wS (evs T [] ρ) S Q ↔ Q [] S := wS_ret
@[simp] theorem evs_cons {es : List CE} {Q : List Val → Store → Prop} : wS (evs T (e :: es) ρ) S Q ↔ wS (ev T e ρ) S fun x S1 => wS (evs T es ρ) S1 fun xs S2 => Q (x :: xs) S2 := by
  show wS (sbind _ _) S Q ↔ _
  simp only [wS_bind, wS_ret]
@[simp] theorem ev_tup {es : List CE} : wS (ev T (.tup es) ρ) S Q ↔ wS (evs T es ρ) S fun vs S1 => wS (mkT vs) S1 Q := wS_bind
@[simp] theorem ev_lst {es : List CE} {kp : Bool} : wS (ev T (.lst kp es) ρ) S Q ↔ wS (evs T es ρ) S fun vs S1 => wS (mkL kp vs) S1 Q := wS_bind
@[simp] theorem ev_keep : wS (ev T (.keep a) ρ) S Q ↔ wS (ev T a ρ) S fun x S1 => wS (keepV x) S1 Q := wS_bind
@[simp] theorem ev_idx : wS (ev T (.idx a b) ρ) S Q ↔ wS (ev T a ρ) S fun x S1 => wS (ev T b ρ) S1 fun y S2 => ∃ z, idxS x y S2 = some z ∧ Q z S2 := by
  show wS (sbind _ _) S Q ↔ _
  simp only [wS_bind, wS_ask]
@[simp] theorem ev_rev : wS (ev T (.rev a) ρ) S Q ↔ wS (ev T a ρ) S fun x S1 => ∃ z, revS x S1 = some z ∧ Q z S1 := by
  show wS (sbind _ _) S Q ↔ _
  simp only [wS_bind, wS_ask]
@[simp] theorem ev_callp {k : Nat} {es : List CE} : wS (ev T (.callp k es) ρ) S Q ↔ wS (evs T es ρ) S fun vs S1 => wS (callP T k vs) S1 Q := wS_bind
@[simp] theorem ev_calls {k : Nat} {es : List CE} : wS (ev T (.calls k es) ρ) S Q ↔ wS (evs T es ρ) S fun vs S1 => wS (T.st k vs) S1 Q := wS_bind
@[simp] theorem ev_bi {k : BI} {es : List CE} : wS (ev T (.bi k es) ρ) S Q ↔ wS (evs T es ρ) S fun vs S1 => ∃ z, biop k vs S1 = some z ∧ Q z S1 := by
  show wS (sbind _ _) S Q ↔ _
  simp only [wS_bind, wS_ask]
@[simp] theorem ev_mt {k : MT} {es : List CE} : wS (ev T (.mt k a es) ρ) S Q ↔ wS (ev T a ρ) S fun x S1 => ∃ z, rdS S1 x = some z ∧ wS (evs T es ρ) S1 fun vs S2 => wS (mtop k x vs) S2 Q := by
  show wS (sbind _ _) S Q ↔ _
  simp only [wS_bind, wS_ask]
@[simp] theorem callP_w {k : Nat} {vs : List Val} : wS (callP T k vs) S Q ↔ ∃ xs, dvs S vs = some xs ∧ ∃ d, T.pure k xs = some d ∧ (!vs.any isR || tupOnly d) = true ∧ Q (.d d) S := by
  unfold wS callP
  cases h1 : dvs S vs with
  | none => simp
  | some xs =>
    cases h2 : T.pure k xs with
    | none => simp [h2]
    | some d =>
      by_cases h3 : (!vs.any isR || tupOnly d) = true
      · simp only [h2, h3, if_true]
        constructor
        · rintro ⟨a, S', e1, e2⟩
          cases e1
          exact ⟨_, rfl, _, h2, h3, e2⟩
        · rintro ⟨_, e0, _, e1, _, e2⟩
          cases e0
          rw [h2] at e1
          cases e1
          exact ⟨_, _, rfl, e2⟩
      · constructor
        · rintro ⟨a, S', e1, e2⟩
          simp only [h2] at e1
          rw [if_neg h3] at e1
          cases e1
        · rintro ⟨_, e0, _, e1, e3, e2⟩
          cases e0
          rw [h2] at e1
          cases e1
          exact absurd e3 h3
/-- a turn of a comprehension -/
def turnL (T : Tab) (own tg : List Nat) (tu : Bool) (c e : CE) (ρ : EnvW) : Val → SM (List Val) := fun x => match bindT tg tu x (wipeW ρ own) with
  | some ρ1 => sbind (ev T c ρ1) fun t => sbind (sask (truth t)) fun k => if k = true then sbind (ev T e ρ1) fun y => sret [y] else sret []
  | none => sfail
@[simp] theorem ev_comp {kp : Bool} {own tg : List Nat} {tu : Bool} {it : CE} : wS (ev T (.comp kp own tg tu it c e) ρ) S Q ↔ wS (evI T it ρ) S fun w S1 => wS (mapF (turnL T own tg tu c e ρ) w.2) (lockAt S1 w.1) fun ys S2 => wS (mkL kp ys) (unlockAt S1 S2 w.1) Q := by
  show wS (sbind _ _) S Q ↔ _
  simp only [wS_bind, wS_lock]
  rfl
@[simp] theorem turnL_w {own tg : List Nat} {tu : Bool} {x : Val} {Q : List Val → Store → Prop} : wS (turnL T own tg tu c e ρ x) S Q ↔ ∃ ρ1, bindT tg tu x (wipeW ρ own) = some ρ1 ∧ wS (ev T c ρ1) S fun t S1 => ∃ k, truth t S1 = some k ∧ if k = true then wS (ev T e ρ1) S1 fun y S2 => Q [y] S2 else Q [] S1 := by
  unfold turnL
  cases bindT tg tu x (wipeW ρ own) with
  | none => simp [wS_fail]
  | some ρ1 => simp [wS_bind, wS_ask, wS_ret, wS_if]
@[simp] theorem evI_it {Q : Val × List Val → Store → Prop} : wS (evI T (.it a) ρ) S Q ↔ wS (ev T a ρ) S fun x S1 => ∃ xs, rdS S1 x = some xs ∧ Q (x, xs) S1 := by
  show wS (sbind _ _) S Q ↔ _
  simp only [wS_bind, wS_ask, wS_ret]
@[simp] theorem evI_rng {Q : Val × List Val → Store → Prop} : wS (evI T (.rng a b) ρ) S Q ↔ wS (ev T a ρ) S fun x S1 => wS (ev T b ρ) S1 fun y S2 => ∃ i j, x = .d (.int i) ∧ y = .d (.int j) ∧ (small62 i && small62 j) = true ∧ Q (.d .none, rangeV i j) S2 := by
  show wS (sbind _ _) S Q ↔ _
  simp only [wS_bind]
  constructor
  · intro h
    refine wS_mono h fun x S1 h => wS_mono h fun y S2 h => ?_
    split at h
    · rw [wS_sif, wS_ret] at h
      exact ⟨_, _, rfl, rfl, h.1, h.2⟩
    · rw [wS_fail] at h
      exact h.elim
  · intro h
    refine wS_mono h fun x S1 h => wS_mono h fun y S2 h => ?_
    obtain ⟨i, j, rfl, rfl, h1, h2⟩ := h
    exact wS_sif.mpr ⟨h1, wS_ret.mpr h2⟩
end
section
variable {T : Tab} {ρ : EnvW} {S : Store} {Q : Out → Store → Prop} {a b c d e o : CE}
@[simp] theorem ex_set {i : Nat} : wS (exec T (.set i e) ρ) S Q ↔ wS (ev T e ρ) S fun v S1 => Q (.nx (ρ.set i (some v))) S1 := by
  show wS (sbind _ _) S Q ↔ _
  simp only [wS_bind, wS_ret]
@[simp] theorem ex_ret : wS (exec T (.ret e) ρ) S Q ↔ wS (ev T e ρ) S fun v S1 => Q (.rt v) S1 := by
  show wS (sbind _ _) S Q ↔ _
  simp only [wS_bind, wS_ret]
@[simp] theorem ex_ex : wS (exec T (.ex e) ρ) S Q ↔ wS (ev T e ρ) S fun v S1 => Q (.nx ρ) S1 := by
  show wS (sbind _ _) S Q ↔ _
  simp only [wS_bind, wS_ret]
@[simp] theorem ex_retn : wS (exec T .retn ρ) S Q ↔ Q (.rt (.d .none)) S := wS_ret
@[simp] theorem ex_brk : wS (exec T .brk ρ) S Q ↔ Q (.bk ρ) S := wS_ret
@[simp] theorem ex_cnt : wS (exec T .cnt ρ) S Q ↔ Q (.ct ρ) S := wS_ret
@[simp] theorem ex_pass : wS (exec T .pass ρ) S Q ↔ Q (.nx ρ) S := wS_ret
@[simp] theorem ex_ite {x y : List CS} : wS (exec T (.ite c x y) ρ) S Q ↔ wS (ev T c ρ) S fun t S1 => ∃ k, truth t S1 = some k ∧ if k = true then wS (execs T x ρ) S1 Q else wS (execs T y ρ) S1 Q := by
  show wS (sbind _ _) S Q ↔ _
  simp only [wS_bind, wS_ask, wS_if]
@[simp] theorem ex_sub : wS (exec T (.sub o a e) ρ) S Q ↔ wS (ev T e ρ) S fun v S1 => wS (ev T o ρ) S1 fun x S2 => wS (ev T a ρ) S2 fun y S3 => wS (putS x y v) S3 fun _ S4 => Q (.nx ρ) S4 := by
  show wS (sbind _ _) S Q ↔ _
  simp only [wS_bind, wS_ret]
noncomputable def turnB (T : Tab) (tg : List Nat) (tu : Bool) (body : List CS) (x : Val) (ρ : EnvW) : SM Out := match bindT tg tu x ρ with
  | some ρ1 => execs T body ρ1
  | none => sfail
@[simp] theorem turnB_w {tg : List Nat} {tu : Bool} {body : List CS} {x : Val} : wS (turnB T tg tu body x ρ) S Q ↔ ∃ ρ1, bindT tg tu x ρ = some ρ1 ∧ wS (execs T body ρ1) S Q := by
  unfold turnB
  cases bindT tg tu x ρ with
  | none => simp [wS_fail]
  | some ρ1 => simp
@[simp] theorem ex_for {tg : List Nat} {tu : Bool} {it : CE} {body : List CS} : wS (exec T (.forr tg tu it body) ρ) S Q ↔ wS (evI T it ρ) S fun w S1 => wS (forW ρ (turnB T tg tu body) w.2 ρ) (lockAt S1 w.1) fun o S2 => Q o (unlockAt S1 S2 w.1) := by
  show wS (sbind _ _) S Q ↔ _
  simp only [wS_bind, wS_lock]
  rfl
@[simp] theorem ex_whl {body : List CS} : wS (exec T (.whl c body) ρ) S Q ↔ wS (whileW (fun ρ => sbind (ev T c ρ) fun x => sask (truth x)) (fun ρ => execs T body ρ) ρ) S Q := Iff.rfl
@[simp] theorem ex_aug {i : Nat} : wS (exec T (.aug i e) ρ) S Q ↔ ∃ x, ρ.getD i none = some x ∧ wS (ev T e ρ) S fun y S1 => ∃ p q, x = .d (.int p) ∧ y = .d (.int q) ∧ Q (.nx (ρ.set i (some (.d (.int (p + q)))))) S1 := by
  show wS (sbind _ _) S Q ↔ _
  simp only [wS_bind, wS_ask]
  constructor
  · rintro ⟨x, hx, h⟩
    refine ⟨x, hx, wS_mono h fun y S1 h => ?_⟩
    split at h
    · exact ⟨_, _, rfl, rfl, wS_ret.mp h⟩
    · exact (wS_fail.mp h).elim
  · rintro ⟨x, hx, h⟩
    refine ⟨x, hx, wS_mono h fun y S1 h => ?_⟩
    obtain ⟨p, q, rfl, rfl, h⟩ := h
    exact wS_ret.mpr h
@[simp] theorem ex_tset {is : List Nat} : wS (exec T (.tset is e) ρ) S Q ↔ wS (ev T e ρ) S fun v S1 => ∃ ρ1, bindT is true v ρ = some ρ1 ∧ Q (.nx ρ1) S1 := by
  show wS (sbind _ _) S Q ↔ _
  simp only [wS_bind]
  constructor
  · intro h
    refine wS_mono h fun y S1 h => ?_
    split at h
    · exact ⟨_, by assumption, wS_ret.mp h⟩
    · exact (wS_fail.mp h).elim
  · intro h
    refine wS_mono h fun y S1 h => ?_
    obtain ⟨ρ1, e1, h⟩ := h
    rw [e1]
    exact wS_ret.mpr h
@[simp] theorem ex_par {is : List Nat} {es : List CE} : wS (exec T (.par is es) ρ) S Q ↔ wS (evs T es ρ) S fun v S1 => ∃ ρ1, setAll ρ is v = some ρ1 ∧ Q (.nx ρ1) S1 := by
  show wS (sbind _ _) S Q ↔ _
  simp only [wS_bind]
  constructor
  · intro h
    refine wS_mono h fun y S1 h => ?_
    split at h
    · exact ⟨_, by assumption, wS_ret.mp h⟩
    · exact (wS_fail.mp h).elim
  · intro h
    refine wS_mono h fun y S1 h => ?_
    obtain ⟨ρ1, e1, h⟩ := h
    rw [e1]
    exact wS_ret.mpr h
@[simp] theorem nxQ_nx {K : EnvW → Store → Prop} {ρ : EnvW} : nxQ Q K (.nx ρ) S = K ρ S := rfl
@[simp] theorem nxQ_rt {K : EnvW → Store → Prop} {v : Val} : nxQ Q K (.rt v) S = Q (.rt v) S := rfl
@[simp] theorem nxQ_bk {K : EnvW → Store → Prop} {ρ : EnvW} : nxQ Q K (.bk ρ) S = Q (.bk ρ) S := rfl
@[simp] theorem nxQ_ct {K : EnvW → Store → Prop} {ρ : EnvW} : nxQ Q K (.ct ρ) S = Q (.ct ρ) S := rfl
@[simp] theorem turnQ_nx {ρ0 : EnvW} {K : EnvW → Store → Prop} {ρ : EnvW} : turnQ Q ρ0 K (.nx ρ) S = K (mask ρ0 ρ) S := rfl
@[simp] theorem turnQ_ct {ρ0 : EnvW} {K : EnvW → Store → Prop} {ρ : EnvW} : turnQ Q ρ0 K (.ct ρ) S = K (mask ρ0 ρ) S := rfl
@[simp] theorem turnQ_bk {ρ0 : EnvW} {K : EnvW → Store → Prop} {ρ : EnvW} : turnQ Q ρ0 K (.bk ρ) S = Q (.nx (mask ρ0 ρ)) S := rfl
@[simp] theorem turnQ_rt {ρ0 : EnvW} {K : EnvW → Store → Prop} {v : Val} : turnQ Q ρ0 K (.rt v) S = Q (.rt v) S := rfl
@[simp] theorem rtQ_rt {x : PyData} {v : Val} : rtQ x (.rt v) S = (dr S v = some x) := rfl
@[simp] theorem rtQ_nx {x : PyData} {ρ : EnvW} : rtQ x (.nx ρ) S = (PyData.none = x) := rfl
@[simp] theorem execs_w {s : CS} {r : List CS} : wS (execs T (s :: r) ρ) S Q ↔ wS (exec T s ρ) S (nxQ Q fun ρ1 S1 => wS (execs T r ρ1) S1 Q) := wS_execs
@[simp] theorem execs_nil : wS (execs T [] ρ) S Q ↔ Q (.nx ρ) S := wS_nil
end
section
variable {T : Tab} {ρ : EnvW} {S : Store}
@[simp] theorem rdS_tup {xs : List PyData} : rdS S (.d (.tuple xs)) = some (xs.map .d) := rfl
@[simp] theorem rdS_lst {xs : List PyData} : rdS S (.d (.list xs)) = some (xs.map .d) := rfl
@[simp] theorem lock_d {x : PyData} : lockAt S (.d x) = S := rfl
@[simp] theorem unlock_d {S1 : Store} {x : PyData} : unlockAt S S1 (.d x) = S1 := rfl
@[simp] theorem lock_s {x : List Int} : lockAt S (.scr x) = S := rfl
@[simp] theorem unlock_s {S1 : Store} {x : List Int} : unlockAt S S1 (.scr x) = S1 := rfl
@[simp] theorem dr_d {x : PyData} : dr S (.d x) = some x := rfl
@[simp] theorem truth_b {b : Bool} : truth (.d (.bool b)) S = some b := rfl
@[simp] theorem truth_n : truth (.d .none) S = some false := rfl
@[simp] theorem truth_i {i : Int} : truth (.d (.int i)) S = some (i != 0) := rfl
@[simp] theorem add_ii {i j : Int} : binop .Add (.d (.int i)) (.d (.int j)) S = some (.d (.int (i + j))) := rfl
@[simp] theorem sub_ii {i j : Int} : binop .Sub (.d (.int i)) (.d (.int j)) S = some (.d (.int (i - j))) := rfl
@[simp] theorem lt_ii {i j : Int} : cmpop .Lt (.d (.int i)) (.d (.int j)) S = some (decide (i < j)) := rfl
@[simp] theorem le_ii {i j : Int} : cmpop .LtE (.d (.int i)) (.d (.int j)) S = some (decide (i ≤ j)) := rfl
@[simp] theorem gt_ii {i j : Int} : cmpop .Gt (.d (.int i)) (.d (.int j)) S = some (decide (j < i)) := rfl
@[simp] theorem ge_ii {i j : Int} : cmpop .GtE (.d (.int i)) (.d (.int j)) S = some (decide (j ≤ i)) := rfl
@[simp] theorem dvs_nil : dvs S [] = some [] := rfl
@[simp] theorem dvs_d {x : PyData} {r : List Val} : dvs S (.d x :: r) = (dvs S r).map (Val.d x :: ·) := by
  show (match dv S (.d x), dvs S r with
    | some x, some xs => some (x :: xs)
    | _, _ => none) = _
  cases dvs S r <;> rfl
@[simp] theorem isR_d {x : PyData} : isR (.d x) = false := rfl
end
end Wf
set_option maxRecDepth 100000
set_option maxHeartbeats 4000000
/-! W30: plain facts about data: equality, order, sorting of ints and of pairs; comprehensions over typed lists. -/
namespace Wf
open PySem
@[simp] theorem eqv_ii {a b : Int} : PyData.eqv (.int a) (.int b) = decide (a = b) := by rw [PyData.eqv]; by_cases h : a = b <;> simp [h]
@[simp] theorem eqv_ss {a b : Str} : PyData.eqv (.str a) (.str b) = decide (a = b) := by
  rw [PyData.eqv]
  by_cases h : a = b
  · subst h; simp
  · simp [h]
@[simp] theorem eqv_bb {a b : Bool} : PyData.eqv (.bool a) (.bool b) = (a == b) := by rw [PyData.eqv]
@[simp] theorem eqv_tt {a b : List PyData} : PyData.eqv (.tuple a) (.tuple b) = PyData.eqvAll a b := by rw [PyData.eqv]
@[simp] theorem eqv_ll {a b : List PyData} : PyData.eqv (.list a) (.list b) = PyData.eqvAll a b := by rw [PyData.eqv]
@[simp] theorem eqva_nn : PyData.eqvAll [] [] = true := by rw [PyData.eqvAll]
@[simp] theorem eqva_nc {x : PyData} {xs : List PyData} : PyData.eqvAll [] (x :: xs) = false := by rw [PyData.eqvAll]
@[simp] theorem eqva_cn {x : PyData} {xs : List PyData} : PyData.eqvAll (x :: xs) [] = false := by rw [PyData.eqvAll]
@[simp] theorem eqva_cc {x y : PyData} {xs ys : List PyData} : PyData.eqvAll (x :: xs) (y :: ys) = (PyData.eqv x y && PyData.eqvAll xs ys) := by rw [PyData.eqvAll]
@[simp] theorem eqv_is {a : Int} {b : Str} : PyData.eqv (.int a) (.str b) = false := by rw [PyData.eqv]
@[simp] theorem eqv_si {a : Str} {b : Int} : PyData.eqv (.str a) (.int b) = false := by rw [PyData.eqv]
@[simp] theorem eqv_ts {a : List PyData} {b : Str} : PyData.eqv (.tuple a) (.str b) = false := by rw [PyData.eqv]
@[simp] theorem eqv_st {a : Str} {b : List PyData} : PyData.eqv (.str a) (.tuple b) = false := by rw [PyData.eqv]
@[simp] theorem eqv_ti {a : List PyData} {b : Int} : PyData.eqv (.tuple a) (.int b) = false := by rw [PyData.eqv]
@[simp] theorem eqv_it {a : Int} {b : List PyData} : PyData.eqv (.int a) (.tuple b) = false := by rw [PyData.eqv]
mutual
/-- no bools, no dicts -/
def noB : PyData → Bool
  | .bool _ => false
  | .dict _ => false
  | .list xs => noBs xs
  | .tuple xs => noBs xs
  | _ => true
def noBs : List PyData → Bool
  | [] => true
  | x :: xs => noB x && noBs xs
end
theorem eqv_none_l {x : PyData} : PyData.eqv .none x = true ↔ x = .none := by cases x <;> simp [PyData.eqv]
mutual
theorem eqv_iff : ∀ (x y : PyData), noB x = true → noB y = true → (PyData.eqv x y = true ↔ x = y)
  | .none, y, _, _ => by cases y <;> simp [PyData.eqv]
  | .bool _, _, h, _ => by simp [noB] at h
  | .dict _, _, h, _ => by simp [noB] at h
  | .int i, y, _, h => by cases y <;> simp_all [PyData.eqv, noB]
  | .str i, y, _, h => by cases y <;> simp_all [PyData.eqv, noB]
  | .list xs, y, h1, h2 => by
    cases y with
    | list ys =>
      rw [noB] at h1 h2
      rw [eqv_ll, eqvs_iff xs ys h1 h2]
      simp
    | _ => simp_all [PyData.eqv, noB]
  | .tuple xs, y, h1, h2 => by
    cases y with
    | tuple ys =>
      rw [noB] at h1 h2
      rw [eqv_tt, eqvs_iff xs ys h1 h2]
      simp
    | _ => simp_all [PyData.eqv, noB]
theorem eqvs_iff : ∀ (xs ys : List PyData), noBs xs = true → noBs ys = true → (PyData.eqvAll xs ys = true ↔ xs = ys)
  | [], [], _, _ => by simp
  | [], _ :: _, _, _ => by simp
  | _ :: _, [], _, _ => by simp
  | x :: xs, y :: ys, h1, h2 => by
    rw [noBs, Bool.and_eq_true] at h1 h2
    rw [eqva_cc, Bool.and_eq_true, eqv_iff x y h1.1 h2.1, eqvs_iff xs ys h1.2 h2.2]
    simp
end
/-! ### lists of ints -/
abbrev iD : List Int → List PyData := List.map .int
theorem eqvAll_ints (a b : List Int) : PyData.eqvAll (a.map .int) (b.map .int) = decide (a = b) := by
  have h : ∀ l : List Int, noBs (l.map .int) = true := fun l => by
    induction l with
    | nil => rfl
    | cons x r ih => rw [List.map_cons, noBs, ih]; rfl
  have e := eqvs_iff _ _ (h a) (h b)
  have inj : a.map PyData.int = b.map PyData.int ↔ a = b := List.map_inj_right (fun x y q => by cases q; rfl)
  rw [inj] at e
  by_cases q : a = b
  · rw [decide_eq_true q]; exact e.mpr q
  · rw [decide_eq_false q]
    exact Bool.eq_false_iff.mpr fun z => q (e.mp z)
theorem alike_ii (a b : Int) : PySem.W.alike (.int a) (.int b) = true := rfl
theorem mergeSort_map {α β : Type} (f : α → β) (le1 : α → α → Bool) (le2 : β → β → Bool) (h : ∀ a b, le2 (f a) (f b) = le1 a b) (l : List α) : (l.map f).mergeSort le2 = (l.mergeSort le1).map f :=
  (List.map_mergeSort (l := l) (f := f) (r := le1) (s := le2) fun a _ b _ => (h a b).symm).symm
theorem sortD_ints (l : List Int) : sortD (l.map .int) = (sortI l).map .int := by
  unfold sortD sortI
  refine mergeSort_map _ _ _ (fun a b => ?_) l
  rw [PySem.W.dataLt_int]
  by_cases h : a ≤ b
  · have : ¬ b < a := by omega
    simp [h, this]
  · have : b < a := by omega
    simp [h, this]
theorem sortOk_ints (l : List Int) : sortOk (l.map .int) = true := by
  unfold sortOk
  simp [alike_ii, isTup, isNon, lv]
/-! ### comprehensions over typed lists -/
theorem wS_lcf {α : Type} {L : List α} {emb : α → Val} {f : Val → SM (List Val)} {S : Store} {Q : List Val → Store → Prop} (c : α → Bool) (y : α → PyData) (h : ∀ a ∈ L, wS (f (emb a)) S fun ys S1 => ys = (if c a = true then [Val.d (y a)] else []) ∧ S1 = S) :
    wS (mapF f (L.map emb)) S Q ↔ Q (((L.filter c).map y).map .d) S := by
  refine wS_of ?_
  induction L with
  | nil => rfl
  | cons a r ih =>
    have e := wS_eq (h a List.mem_cons_self)
    show sbind (f (emb a)) _ S = _
    unfold sbind
    rw [e]
    show sbind (mapF f (r.map emb)) _ S = _
    unfold sbind
    rw [ih fun b hb => h b (List.mem_cons_of_mem _ hb)]
    by_cases q : c a = true <;> simp [q, sret]
theorem wS_lcm {α : Type} {L : List α} {emb : α → Val} {f : Val → SM (List Val)} {S : Store} {Q : List Val → Store → Prop} (y : α → PyData) (h : ∀ a ∈ L, wS (f (emb a)) S fun ys S1 => ys = [Val.d (y a)] ∧ S1 = S) :
    wS (mapF f (L.map emb)) S Q ↔ Q ((L.map y).map .d) S := by
  have := wS_lcf (L := L) (emb := emb) (f := f) (S := S) (Q := Q) (fun _ => true) y (fun a ha => by simpa using h a ha)
  rw [List.filter_eq_self.mpr (fun _ _ => rfl)] at this
  exact this
/-! ### more readings -/
theorem sl {n : Nat} (h : n ≤ 1000) : n ≤ sizeLine := Nat.le_trans h (by decide)
section
variable {S : Store}
@[simp] theorem mkT_a {vs : List Val} {Q : Val → Store → Prop} : wS (mkT vs) S Q ↔ wS (absorb vs) S fun ds S1 => ds.length ≤ sizeLine ∧ Q (.d (.tuple ds)) S1 := by
  show wS (sbind _ _) S Q ↔ _
  simp only [wS_bind, wS_sif, wS_ret, decide_eq_true_iff]
@[simp] theorem mkL_f {vs : List Val} {Q : Val → Store → Prop} : wS (mkL false vs) S Q ↔ wS (absorb vs) S fun ds S1 => ds.length ≤ sizeLine ∧ Q (.d (.list ds)) S1 := by
  show wS (sbind _ _) S Q ↔ _
  simp only [wS_bind, wS_sif, wS_ret, decide_eq_true_iff]
@[simp] theorem mkL_t {vs : List Val} {Q : Val → Store → Prop} : wS (mkL true vs) S Q ↔ vs.length ≤ sizeLine ∧ Q (.r S.length) (S ++ [.lst false vs]) := by
  show wS (alloc vs) S Q ↔ _
  unfold wS alloc
  by_cases h : vs.length ≤ sizeLine
  · simp only [if_pos h]
    constructor
    · rintro ⟨a, S', e, q⟩
      cases e
      exact ⟨h, q⟩
    · exact fun q => ⟨_, _, rfl, q.2⟩
  · simp only [if_neg h]
    exact ⟨fun ⟨_, _, e, _⟩ => (by cases e), fun q => absurd q.1 h⟩
@[simp] theorem absorb_nil {Q : List PyData → Store → Prop} : wS (absorb []) S Q ↔ Q [] S := wS_ret
@[simp] theorem absorb_d {x : PyData} {vs : List Val} {Q : List PyData → Store → Prop} : wS (absorb (.d x :: vs)) S Q ↔ wS (absorb vs) S fun ds S1 => Q (x :: ds) S1 := by
  show wS (sbind _ _) S Q ↔ _
  rw [wS_bind, wS_of (a := x) (S' := S) rfl, wS_bind]
  simp only [wS_ret]
@[simp] theorem absorb_m {ds : List PyData} {Q : List PyData → Store → Prop} : wS (absorb (ds.map Val.d)) S Q ↔ Q ds S := wS_of (absorb_map ds S)
@[simp] theorem absorb_c {α : Type} {f : α → PyData} {l : List α} {Q : List PyData → Store → Prop} : wS (absorb (l.map (Val.d ∘ f))) S Q ↔ Q (l.map f) S := by
  rw [← List.map_map]
  exact absorb_m
@[simp] theorem keepV_w {ds : List PyData} {Q : Val → Store → Prop} : wS (keepV (.d (.list ds))) S Q ↔ ds.length ≤ sizeLine ∧ Q (.r S.length) (S ++ [.lst false (ds.map .d)]) := by
  show wS (alloc _) S Q ↔ _
  rw [show wS (alloc (ds.map Val.d)) S Q ↔ wS (mkL true (ds.map Val.d)) S Q from Iff.rfl, mkL_t, List.length_map]
@[simp] theorem in_t {a : PyData} {ds : List PyData} : cmpop .In (.d a) (.d (.tuple ds)) S = if lv 40 a = true ∧ ds.all (lv 39) = true then some (anyEqv a ds) else none := by
  show (match dr S (.d a), (rdS S (.d (.tuple ds))).bind datsOf with
    | some a, some ds => if lv 40 a = true ∧ ds.all (lv 39) = true then some (anyEqv a ds) else none
    | _, _ => none) = _
  simp [datsOf_map]
@[simp] theorem in_l {a : PyData} {ds : List PyData} : cmpop .In (.d a) (.d (.list ds)) S = if lv 40 a = true ∧ ds.all (lv 39) = true then some (anyEqv a ds) else none := by
  show (match dr S (.d a), (rdS S (.d (.list ds))).bind datsOf with
    | some a, some ds => if lv 40 a = true ∧ ds.all (lv 39) = true then some (anyEqv a ds) else none
    | _, _ => none) = _
  simp [datsOf_map]
@[simp] theorem eq_dd {a b : PyData} : cmpop .Eq (.d a) (.d b) S = if lv 40 a = true ∧ lv 40 b = true then some (PyData.eqv a b) else none := rfl
@[simp] theorem ne_dd {a b : PyData} : cmpop .NotEq (.d a) (.d b) S = if lv 40 a = true ∧ lv 40 b = true then some (!PyData.eqv a b) else none := rfl
@[simp] theorem is_n {a : PyData} : cmpop .Is (.d a) (.d .none) S = some (isNone (.d a)) := rfl
@[simp] theorem isn_n {a : PyData} : cmpop .IsNot (.d a) (.d .none) S = some (!isNone (.d a)) := rfl
@[simp] theorem anyEqv_nil {a : PyData} : anyEqv a [] = false := rfl
@[simp] theorem anyEqv_cons {a z : PyData} {r : List PyData} : anyEqv a (z :: r) = (PyData.eqv z a || anyEqv a r) := rfl
@[simp] theorem lv_int {n : Nat} {i : Int} : lv n (.int i) = true := by cases n <;> rfl
@[simp] theorem lv_str {n : Nat} {i : Str} : lv n (.str i) = true := by cases n <;> rfl
@[simp] theorem lv_bool {n : Nat} {i : Bool} : lv n (.bool i) = true := by cases n <;> rfl
@[simp] theorem lv_none {n : Nat} : lv n .none = true := by cases n <;> rfl
@[simp] theorem lv_tup {n : Nat} {xs : List PyData} : lv (n + 1) (.tuple xs) = xs.all (lv n) := rfl
@[simp] theorem lv_lst {n : Nat} {xs : List PyData} : lv (n + 1) (.list xs) = xs.all (lv n) := rfl
@[simp] theorem lv40 {xs : List PyData} : lv 40 (.tuple xs) = xs.all (lv 39) := rfl
@[simp] theorem lv39 {xs : List PyData} : lv 39 (.tuple xs) = xs.all (lv 38) := rfl
@[simp] theorem lv38 {xs : List PyData} : lv 38 (.tuple xs) = xs.all (lv 37) := rfl
@[simp] theorem lv37 {xs : List PyData} : lv 37 (.tuple xs) = xs.all (lv 36) := rfl
@[simp] theorem lv36 {xs : List PyData} : lv 36 (.tuple xs) = xs.all (lv 35) := rfl
@[simp] theorem lw40 {xs : List PyData} : lv 40 (.list xs) = xs.all (lv 39) := rfl
@[simp] theorem lw39 {xs : List PyData} : lv 39 (.list xs) = xs.all (lv 38) := rfl
@[simp] theorem lw38 {xs : List PyData} : lv 38 (.list xs) = xs.all (lv 37) := rfl
@[simp] theorem lw37 {xs : List PyData} : lv 37 (.list xs) = xs.all (lv 36) := rfl
@[simp] theorem dats_m {ds : List PyData} : datsOf (ds.map Val.d) = some ds := datsOf_map ds
@[simp] theorem dats_c {α : Type} {f : α → PyData} {l : List α} : datsOf (l.map (Val.d ∘ f)) = some (l.map f) := by rw [← List.map_map, datsOf_map]
@[simp] theorem bi_tuple_l {ds : List PyData} : biop .tuple [.d (.list ds)] S = some (.d (.tuple ds)) := by
  show ((rdS S (.d (.list ds))).bind datsOf).map _ = _
  simp
@[simp] theorem bi_tuple_t {ds : List PyData} : biop .tuple [.d (.tuple ds)] S = some (.d (.tuple ds)) := by
  show ((rdS S (.d (.tuple ds))).bind datsOf).map _ = _
  simp
@[simp] theorem bi_sorted_l {ds : List PyData} : biop .sorted [.d (.list ds)] S = if sortOk ds = true ∧ ds.length ≤ sizeLine then some (.d (.list (sortD ds))) else none := by
  show ((rdS S (.d (.list ds))).bind datsOf).bind _ = _
  simp
@[simp] theorem bi_len_t {ds : List PyData} : biop .len [.d (.tuple ds)] S = some (.d (.int ds.length)) := by
  show some (Val.d (.int ((ds.map Val.d).length : Nat))) = _
  rw [List.length_map]
@[simp] theorem bi_len_l {ds : List PyData} : biop .len [.d (.list ds)] S = some (.d (.int ds.length)) := by
  show some (Val.d (.int ((ds.map Val.d).length : Nat))) = _
  rw [List.length_map]
@[simp] theorem bi_abs {i : Int} : biop .abs [.d (.int i)] S = some (.d (.int (if i < 0 then -i else i))) := rfl
@[simp] theorem bi_int {i : Int} : biop .int [.d (.int i)] S = some (.d (.int i)) := rfl
@[simp] theorem bi_min {i j : Int} : biop .min [.d (.int i), .d (.int j)] S = some (.d (.int (if j < i then j else i))) := rfl
@[simp] theorem bi_max {i j : Int} : biop .max [.d (.int i), .d (.int j)] S = some (.d (.int (if j > i then j else i))) := rfl
@[simp] theorem bi_isinst {x : PyData} {t : String} : biop (.isinst t) [.d x] S = some (.d (.bool (isInst x t))) := rfl
end
@[simp] theorem sortOk_m (l : List Int) : sortOk (l.map .int) = true := sortOk_ints l
@[simp] theorem sortD_m (l : List Int) : sortD (l.map .int) = (sortI l).map .int := sortD_ints l
@[simp] theorem sortOk_c {α : Type} (l : List α) (f : α → Int) : sortOk (l.map fun a => .int (f a)) = true := by
  have := sortOk_ints (l.map f)
  rw [List.map_map] at this
  exact this
@[simp] theorem sortD_c {α : Type} (l : List α) (f : α → Int) : sortD (l.map fun a => .int (f a)) = (sortI (l.map f)).map .int := by
  have := sortD_ints (l.map f)
  rw [List.map_map] at this
  exact this
end Wf
set_option maxRecDepth 100000
set_option maxHeartbeats 4000000
/-! W31: the laws' own state: draws. -/
namespace Wf
open PySem
def rsQ (d : Def) (n : Nat) (Q : Val → Store → Prop) : Out → Store → Prop := fun o S1 => match o with
  | .rt v => if d.kp = true then Q v S1 else newR n v = true ∧ ∃ x, dr S1 v = some x ∧ Q (.d x) (S1.take n)
  | .nx _ => Q (.d .none) (S1.take n)
  | _ => False
theorem runS_of {T : Tab} {d : Def} {vs : List Val} {S : Store} {Q : Val → Store → Prop} (hl : vs.length = d.np) (h : wS (execs T d.body (startW d vs)) S (rsQ d S.length Q)) : wS (runS T d vs) S Q := by
  obtain ⟨o, S1, e, q⟩ := h
  unfold wS runS
  rw [if_pos hl, e]
  cases o with
  | rt v =>
    have q : if d.kp = true then Q v S1 else newR S.length v = true ∧ ∃ x, dr S1 v = some x ∧ Q (.d x) (S1.take S.length) := q
    by_cases hk : d.kp = true
    · rw [if_pos hk] at q
      exact ⟨v, S1, by simp [hk], q⟩
    · rw [if_neg hk] at q
      obtain ⟨q1, x, q2, q3⟩ := q
      exact ⟨.d x, _, by simp [hk, q1, q2], q3⟩
  | nx ρ => exact ⟨_, _, rfl, q⟩
  | bk ρ => exact q.elim
  | ct ρ => exact q.elim
@[simp] theorem rsQ_rt {d : Def} {n : Nat} {Q : Val → Store → Prop} {v : Val} {S : Store} : rsQ d n Q (.rt v) S = if d.kp = true then Q v S else newR n v = true ∧ ∃ x, dr S v = some x ∧ Q (.d x) (S.take n) := rfl
@[simp] theorem rsQ_nx {d : Def} {n : Nat} {Q : Val → Store → Prop} {ρ : EnvW} {S : Store} : rsQ d n Q (.nx ρ) S = Q (.d .none) (S.take n) := rfl
/-- the state: the cells' list, the seed -/
structure Sg where
  cs : List Int
  sd : Int
def Sx (σ : Sg) (R : Store) : Store := .lst false (σ.1.map fun i => .d (.int i)) :: .lst false [.r 0, .d (.int σ.2)] :: R
structure SgOk (σ : Sg) : Prop where
  len : σ.1.length ≤ 63
  nn : ∀ i ∈ σ.1, 0 ≤ i
theorem wS_sask2 {α : Type} {m : SM α} {S : Store} {Q : α → Store → Prop} : wS m S Q ↔ ∃ p, m S = some p ∧ Q p.1 p.2 := ⟨fun ⟨a, b, e, q⟩ => ⟨(a, b), e, q⟩, fun ⟨p, e, q⟩ => ⟨p.1, p.2, e, q⟩⟩
@[simp] theorem mod_ii {S : Store} {i j : Int} : binop .Mod (.d (.int i)) (.d (.int j)) S = if 0 < j then some (.d (.int (i % j))) else none := rfl
@[simp] theorem div_ii {S : Store} {i j : Int} : binop .FloorDiv (.d (.int i)) (.d (.int j)) S = if L2.CDiv i j then some (.d (.int (i / j))) else none := rfl
@[simp] theorem mul_ii {S : Store} {i j : Int} : binop .Mult (.d (.int i)) (.d (.int j)) S = if L2.CMul i j then some (.d (.int (i * j))) else none := rfl
theorem cmul_r {i j : Int} (h : -(2 ^ 64) < j ∧ j < 2 ^ 64) : L2.CMul i j := .inr h
/-- the draw's body, as its core is in each of the laws -/
def drawB : List CS := [
  .set 2 (.idx (.var 0) (.int 0)),
  .whl (.and (.cmp .Gt (.bi .len [.var 2]) (.int 0)) (.cmp .Eq (.idx (.var 2) (.int 0)) (.int 0))) [.ex (.mt .pop (.var 2) [.int 0])],
  .ite (.cmp .Gt (.bi .len [.var 2]) (.int 0)) [.set 3 (.idx (.var 2) (.int 0)), .sub (.var 2) (.int 0) (.bin .FloorDiv (.var 3) (.var 1)), .ret (.bin .Mod (.bi .int [.var 3]) (.var 1))] [],
  .set 4 (.bin .Mod (.bi .int [.bin .Add (.bin .Mult (.idx (.var 0) (.int 1)) (.int 48271)) (.int 12345)]) (.int 2147483647)),
  .sub (.var 0) (.int 1) (.var 4),
  .ret (.bin .Mod (.bi .int [.bin .FloorDiv (.var 4) (.int 64)]) (.var 1))]
def drawD : Def := ⟨2, 5, false, false, drawB⟩
theorem seq {T : Tab} {s : CS} {r : List CS} {ρ : EnvW} {S : Store} {Q : Out → Store → Prop} (P : EnvW → Store → Prop) (h1 : wS (exec T s ρ) S (nxQ Q P)) (h2 : ∀ ρ1 S1, P ρ1 S1 → wS (execs T r ρ1) S1 Q) : wS (execs T (s :: r) ρ) S Q := by
  refine wS_execs.mpr (wS_mono h1 fun o S1 q => ?_)
  cases o with
  | nx ρ => exact h2 _ _ q
  | _ => exact q
@[simp] theorem atI0 {α : Type} {x : α} {r : List α} : L2.atI (x :: r) 0 = some x := by simp [L2.atI, L2.ixN]
@[simp] theorem atI1 {α : Type} {x y : α} {r : List α} : L2.atI (x :: y :: r) 1 = some y := by
  have : L2.ixN (x :: y :: r).length 1 = some 1 := by
    unfold L2.ixN
    rw [if_pos (by decide), if_pos (by simp only [List.length_cons]; omega)]
    rfl
  unfold L2.atI
  rw [this]
  rfl
@[simp] theorem idx_t {S : Store} {xs : List PyData} {i : Int} : idxS (.d (.tuple xs)) (.d (.int i)) S = L2.atI (xs.map Val.d) i := rfl
@[simp] theorem idx_l {S : Store} {xs : List PyData} {i : Int} : idxS (.d (.list xs)) (.d (.int i)) S = L2.atI (xs.map Val.d) i := rfl
@[simp] theorem idx_r {S : Store} {k : Nat} {i : Int} : idxS (.r k) (.d (.int i)) S = (rdL S (.r k)).bind fun xs => L2.atI xs i := rfl
theorem rdL_of {S : Store} {k : Nat} {lk : Bool} {xs : List Val} (h : S[k]? = some (.lst lk xs)) : rdL S (.r k) = some xs := by
  show (match S[k]? with
    | some (.lst _ xs) => some xs
    | _ => none) = _
  rw [h]
theorem rdS_of {S : Store} {k : Nat} {lk : Bool} {xs : List Val} (h : S[k]? = some (.lst lk xs)) : rdS S (.r k) = some xs := rdL_of h
theorem len_r {S : Store} {k : Nat} {lk : Bool} {xs : List Val} (h : S[k]? = some (.lst lk xs)) : biop .len [.r k] S = some (.d (.int xs.length)) := by
  show (rdS S (.r k)).map _ = _
  rw [rdS_of h] <;> rfl
@[simp] theorem Sx0 {σ : Sg} {R : Store} : (Sx σ R)[0]? = some (.lst false (σ.1.map fun i => .d (.int i))) := rfl
@[simp] theorem Sx1 {σ : Sg} {R : Store} : (Sx σ R)[1]? = some (.lst false [.r 0, .d (.int σ.2)]) := rfl
@[simp] theorem rdL0 {σ : Sg} {R : Store} : rdL (Sx σ R) (.r 0) = some (σ.1.map fun i => .d (.int i)) := rfl
@[simp] theorem rdL1 {σ : Sg} {R : Store} : rdL (Sx σ R) (.r 1) = some [.r 0, .d (.int σ.2)] := rfl
@[simp] theorem rdS0 {σ : Sg} {R : Store} : rdS (Sx σ R) (.r 0) = some (σ.1.map fun i => .d (.int i)) := rfl
@[simp] theorem len0 {σ : Sg} {R : Store} : biop .len [.r 0] (Sx σ R) = some (.d (.int σ.1.length)) := by
  show some (Val.d (.int ((σ.1.map fun i => Val.d (.int i)).length : Nat))) = _
  rw [List.length_map]
theorem pop0 {x : Int} {r : List Int} {s : Int} {R : Store} {Q : Val → Store → Prop} (h : Q (.d (.int x)) (Sx ⟨r, s⟩ R)) : wS (mtop .pop (.r 0) [.d (.int 0)]) (Sx ⟨x :: r, s⟩ R) Q := by
  refine ⟨.d (.int x), Sx ⟨r, s⟩ R, ?_, h⟩
  show (match L2.ixN ((x :: r).map fun i => Val.d (.int i)).length 0 with
    | some j => match ((x :: r).map fun i => Val.d (.int i))[j]? with
      | some y => some (y, (Sx ⟨x :: r, s⟩ R).set 0 (.lst false (((x :: r).map fun i => Val.d (.int i)).eraseIdx j)))
      | none => none
    | none => none) = _
  have e : L2.ixN ((x :: r).map fun i => Val.d (.int i)).length 0 = some 0 := by simp [L2.ixN]
  rw [e]
  rfl
theorem put0 {x y : Int} {r : List Int} {s : Int} {R : Store} {Q : Unit → Store → Prop} (h : Q () (Sx ⟨y :: r, s⟩ R)) : wS (putS (.r 0) (.d (.int 0)) (.d (.int y))) (Sx ⟨x :: r, s⟩ R) Q := by
  refine ⟨(), Sx ⟨y :: r, s⟩ R, ?_, h⟩
  show (match L2.ixN ((x :: r).map fun i => Val.d (.int i)).length 0 with
    | some j => some ((), (Sx ⟨x :: r, s⟩ R).set 0 (.lst false (((x :: r).map fun i => Val.d (.int i)).set j (.d (.int y)))))
    | none => none) = _
  have e : L2.ixN ((x :: r).map fun i => Val.d (.int i)).length 0 = some 0 := by simp [L2.ixN]
  rw [e]
  rfl
theorem put1 {y : Int} {r : List Int} {s : Int} {R : Store} {Q : Unit → Store → Prop} (h : Q () (Sx ⟨r, y⟩ R)) : wS (putS (.r 1) (.d (.int 1)) (.d (.int y))) (Sx ⟨r, s⟩ R) Q := ⟨(), Sx ⟨r, y⟩ R, rfl, h⟩
theorem draw_ok (T : Tab) {σ : Sg} {R : Store} {many : Int} (h : SgOk σ) (h0 : 0 < many) (h1 : many < 1073741824) : wS (runS T drawD [.r 1, .d (.int many)]) (Sx σ R) fun v S' => ∃ (i : Int) (σ' : Sg), 0 ≤ i ∧ i < many ∧ SgOk σ' ∧ v = .d (.int i) ∧ S' = Sx σ' R := by
  refine runS_of rfl ?_
  have e : startW drawD [.r 1, .d (.int many)] = [some (.r 1), some (.d (.int many)), none, none, none] := rfl
  rw [e]
  have fin : ∀ (i : Int) (σ' : Sg), SgOk σ' → rsQ drawD (Sx σ R).length (fun v S' => ∃ (i : Int) (σ' : Sg), 0 ≤ i ∧ i < many ∧ SgOk σ' ∧ v = .d (.int i) ∧ S' = Sx σ' R) (.rt (.d (.int (i % many)))) (Sx σ' R) := fun i σ' ok => by
    refine ⟨rfl, _, rfl, _, σ', Int.emod_nonneg _ (by omega), Int.emod_lt_of_pos _ h0, ok, rfl, ?_⟩
    exact List.take_of_length_le (by simp [Sx])
  generalize rsQ drawD (Sx σ R).length (fun v S' => ∃ (i : Int) (σ' : Sg), 0 ≤ i ∧ i < many ∧ SgOk σ' ∧ v = .d (.int i) ∧ S' = Sx σ' R) = Q at fin ⊢
  refine seq (fun ρ S => ρ = [some (.r 1), some (.d (.int many)), some (.r 0), none, none] ∧ S = Sx σ R) (by simp) ?_
  rintro _ _ ⟨rfl, rfl⟩
  refine seq (fun ρ S => ρ = [some (.r 1), some (.d (.int many)), some (.r 0), none, none] ∧ ∃ σ', SgOk σ' ∧ σ'.1.head? ≠ some 0 ∧ S = Sx σ' R) ?_ ?_
  · refine ex_whl.mpr (wS_while (fun m ρ S => ρ = [some (.r 1), some (.d (.int many)), some (.r 0), none, none] ∧ ∃ σ', SgOk σ' ∧ m = σ'.1.length ∧ S = Sx σ' R) ⟨rfl, σ, h, rfl, rfl⟩ ?_)
    rintro m _ _ ⟨rfl, ⟨cs, sd⟩, ok, rfl, rfl⟩
    rw [wS_bind]
    cases cs with
    | nil => simp [wS_ask]; exact ⟨_, ok, by simp, rfl⟩
    | cons x r =>
      have hl : (0 : Int) < ((r.length : Nat) : Int) + 1 := by omega
      have okr : SgOk ⟨r, sd⟩ := ⟨by have := ok.len; simp at this ⊢; omega, fun i hi => ok.nn i (List.mem_cons_of_mem _ hi)⟩
      by_cases hx : x = 0
      · subst hx
        simp [wS_ask, hl]
        refine pop0 ?_
        simp [mask]
        exact ⟨r.length, by omega, _, okr, rfl, rfl⟩
      · simp [wS_ask, hl, hx]
        exact ⟨_, ok, by simpa using hx, rfl⟩
  · rintro _ _ ⟨rfl, ⟨cs, sd⟩, ok, hne, rfl⟩
    cases cs with
    | nil =>
      refine seq (fun ρ S => ρ = [some (.r 1), some (.d (.int many)), some (.r 0), none, none] ∧ S = Sx ⟨[], sd⟩ R) (by simp) ?_
      rintro _ _ ⟨rfl, rfl⟩
      refine seq (fun ρ S => ∃ s : Int, ρ = [some (.r 1), some (.d (.int many)), some (.r 0), none, some (.d (.int s))] ∧ S = Sx ⟨[], sd⟩ R) ?_ ?_
      · simp [cmul_r (j := 48271) (by decide)]
      rintro _ _ ⟨s, rfl, rfl⟩
      refine seq (fun ρ S => ρ = [some (.r 1), some (.d (.int many)), some (.r 0), none, some (.d (.int s))] ∧ S = Sx ⟨[], s⟩ R) ?_ ?_
      · simp
        exact put1 (by simp)
      rintro _ _ ⟨rfl, rfl⟩
      have c : L2.CDiv s 64 := ⟨by decide, by decide⟩
      simp [h0, c]
      exact fin _ _ ⟨ok.len, ok.nn⟩
    | cons x r =>
      have hl : (0 : Int) < ((r.length : Nat) : Int) + 1 := by omega
      have c : L2.CDiv x many := ⟨h0, h1⟩
      refine execs_w.mpr ?_
      simp [hl, c, h0]
      refine put0 ?_
      refine fin _ _ ⟨ok.len, fun i hi => ?_⟩
      rcases List.mem_cons.mp hi with e | e
      · subst e
        exact Int.ediv_nonneg (ok.nn x List.mem_cons_self) (by omega)
      · exact ok.nn i (List.mem_cons_of_mem _ e)
end Wf
set_option maxRecDepth 100000
set_option maxHeartbeats 4000000
/-! W32: the laws' helpers that draw. -/
namespace Wf
open PySem
/-- what a stateful helper promises -/
def StQ (R : Store) (P : Val → Prop) : Val → Store → Prop := fun v S' => ∃ σ' : Sg, SgOk σ' ∧ P v ∧ S' = Sx σ' R
def DrawOk (T : Tab) (j : Nat) : Prop := ∀ (σ : Sg) (R : Store) (many : Int), SgOk σ → 0 < many → many < 1073741824 → wS (T.st j [.r 1, .d (.int many)]) (Sx σ R) (StQ R fun v => ∃ i : Int, 0 ≤ i ∧ i < many ∧ v = .d (.int i))
theorem drawOk_of {T T0 : Tab} {j : Nat} (h : ∀ vs, T.st j vs = runS T0 drawD vs) : DrawOk T j := fun σ R many ok h0 h1 => by
  rw [h]
  refine wS_mono (draw_ok T0 ok h0 h1) fun v S' ⟨i, σ', a, b, c, d, e⟩ => ⟨σ', c, ⟨i, a, b, d⟩, e⟩
theorem wS_st {T : Tab} {j : Nat} {vs : List Val} {σ : Sg} {R : Store} {P : Val → Prop} {Q : Val → Store → Prop} (h : wS (T.st j vs) (Sx σ R) (StQ R P)) (k : ∀ v (σ' : Sg), SgOk σ' → P v → Q v (Sx σ' R)) : wS (T.st j vs) (Sx σ R) Q :=
  wS_mono h fun v S' ⟨σ', a, b, c⟩ => by subst c; exact k v σ' a b
/-- the end of a stateful helper -/
theorem rs_end {d : Def} {σ' : Sg} {R R2 : Store} {n : Nat} {x : PyData} {v : Val} {P : Val → Prop} (hk : d.kp = false) (hn : n = R.length + 2) (hv : newR n v = true) (hx : dr (Sx σ' (R ++ R2)) v = some x) (ok : SgOk σ') (hp : P (.d x)) : rsQ d n (StQ R P) (.rt v) (Sx σ' (R ++ R2)) := by
  show (if d.kp = true then _ else _)
  rw [hk, if_neg (by simp)]
  refine ⟨hv, x, hx, σ', ok, hp, ?_⟩
  subst hn
  simp [Sx]
theorem rs_data {d : Def} {σ' : Sg} {R : Store} {n : Nat} {x : PyData} {P : Val → Prop} (hk : d.kp = false) (hn : n = R.length + 2) (ok : SgOk σ') (hp : P (.d x)) : rsQ d n (StQ R P) (.rt (.d x)) (Sx σ' R) := by
  have := rs_end (R2 := []) (x := x) (v := .d x) (P := P) hk hn rfl rfl ok hp
  rwa [List.append_nil] at this
/-- pick -/
def pickB (jd : Nat) : List CS := [.ret (.idx (.var 1) (.calls jd [.var 0, .bi .len [.var 1]]))]
def pickD (jd : Nat) : Def := ⟨2, 2, false, false, pickB jd⟩
def PickOk (T : Tab) (j : Nat) : Prop := ∀ (σ : Sg) (R : Store) (ds : List PyData), SgOk σ → ds ≠ [] → ds.length < 1000 → wS (T.st j [.r 1, .d (.list ds)]) (Sx σ R) (StQ R fun v => ∃ d ∈ ds, v = .d d)
theorem atI_nat {α : Type} {xs : List α} {i : Int} (h0 : 0 ≤ i) (h1 : i < xs.length) : ∃ x ∈ xs, L2.atI xs i = some x := by
  have h : i.toNat < xs.length := by omega
  refine ⟨xs[i.toNat], List.getElem_mem h, ?_⟩
  unfold L2.atI L2.ixN
  rw [if_pos h0, if_pos h1]
  exact List.getElem?_eq_getElem h
theorem pickOk_of {T T0 : Tab} {j jd : Nat} (hd : DrawOk T0 jd) (h : ∀ vs, T.st j vs = runS T0 (pickD jd) vs) : PickOk T j := fun σ R ds ok h0 h1 => by
  rw [h]
  refine runS_of rfl ?_
  have hl : 0 < ds.length := List.length_pos_iff.mpr h0
  simp [pickD, pickB, startW, -rsQ_rt]
  refine wS_st (hd σ R _ ok (by omega) (by omega)) ?_
  rintro v σ' ok' ⟨i, i0, i1, rfl⟩
  obtain ⟨x, hx, e⟩ := atI_nat (xs := ds.map Val.d) i0 (by simpa using i1)
  obtain ⟨d, hd, rfl⟩ := List.mem_map.mp hx
  refine ⟨_, e, rs_data rfl (by simp [Sx]) ok' ⟨d, hd, rfl⟩⟩
/-- mixed -/
def mixedB (jd : Nat) : List CS := [
  .set 2 (.lst true []),
  .forr [3] false (.it (.var 1)) [.ex (.mt .insert (.var 2) [.calls jd [.var 0, .bin .Add (.bi .len [.var 2]) (.int 1)], .var 3])],
  .ret (.var 2)]
def mixedD (jd : Nat) : Def := ⟨2, 4, false, false, mixedB jd⟩
def MixedOk (T : Tab) (j : Nat) : Prop := ∀ (σ : Sg) (R : Store) (ds : List PyData), SgOk σ → ds.length < 1000 → wS (T.st j [.r 1, .d (.list ds)]) (Sx σ R) (StQ R fun v => ∃ ds', ds'.Perm ds ∧ v = .d (.list ds'))
theorem Sx_get {σ : Sg} {R : Store} {c : Cell} : (Sx σ (R ++ [c]))[R.length + 2]? = some c := by simp [Sx]
theorem perm_ins {α : Type} (x : α) (l : List α) (k : Nat) : (l.take k ++ [x] ++ l.drop k).Perm (l ++ [x]) := by
  have h1 : (l.take k ++ [x] ++ l.drop k).Perm (x :: (l.take k ++ l.drop k)) := by
    rw [List.append_assoc]
    exact List.perm_middle
  rw [List.take_append_drop] at h1
  exact h1.trans (List.perm_append_singleton x l).symm
theorem Sx_set {σ : Sg} {R : Store} {c c' : Cell} : (Sx σ (R ++ [c])).set (R.length + 2) c' = Sx σ (R ++ [c']) := by simp [Sx]
theorem live_of {S : Store} {k : Nat} {xs : List Val} (h : S[k]? = some (.lst false xs)) : live S (.r k) = some (k, xs) := by
  unfold live
  simp only [h]
theorem ins_w {S : Store} {k : Nat} {xs : List Val} {i : Int} {d : PyData} {Q : Val → Store → Prop} (h : S[k]? = some (.lst false xs)) (hl : xs.length < sizeLine) (h0 : 0 ≤ i) (h1 : i < 2 ^ 63) (hQ : Q (.d .none) (S.set k (.lst false (xs.take i.toNat ++ [.d d] ++ xs.drop i.toNat)))) : wS (mtop .insert (.r k) [.d (.int i), .d d]) S Q := by
  refine ⟨_, _, ?_, hQ⟩
  show (match live S (.r k) with
    | some (k, xs) => if xs.length < sizeLine ∧ 0 ≤ i ∧ i < 2 ^ 63 then some (Val.d .none, S.set k (.lst false (xs.take i.toNat ++ [Val.d d] ++ xs.drop i.toNat))) else none
    | none => none) = _
  rw [live_of h]
  exact if_pos ⟨hl, h0, h1⟩
theorem app_w {S : Store} {k : Nat} {xs : List Val} {d : PyData} {Q : Val → Store → Prop} (h : S[k]? = some (.lst false xs)) (hl : xs.length < sizeLine) (hQ : Q (.d .none) (S.set k (.lst false (xs ++ [.d d])))) : wS (mtop .append (.r k) [.d d]) S Q := by
  refine ⟨_, _, ?_, hQ⟩
  show (match live S (.r k) with
    | some (k, xs) => if xs.length < sizeLine then some (Val.d .none, S.set k (.lst false (xs ++ [Val.d d]))) else none
    | none => none) = _
  rw [live_of h]
  exact if_pos hl
theorem put_w {S : Store} {k j : Nat} {xs : List Val} {i : Int} {d : PyData} {Q : Unit → Store → Prop} (h : S[k]? = some (.lst false xs)) (hj : L2.ixN xs.length i = some j) (hQ : Q () (S.set k (.lst false (xs.set j (.d d))))) : wS (putS (.r k) (.d (.int i)) (.d d)) S Q := by
  refine ⟨_, _, ?_, hQ⟩
  show (match live S (.r k), Val.d (.int i) with
    | some (k, xs), .d (.int i) => match L2.ixN xs.length i with
      | some j => some ((), S.set k (.lst false (xs.set j (.d d))))
      | none => none
    | _, _ => none) = _
  rw [live_of h]
  simp only [hj]
theorem mixedOk_of {T T0 : Tab} {j jd : Nat} (hd : DrawOk T0 jd) (h : ∀ vs, T.st j vs = runS T0 (mixedD jd) vs) : MixedOk T j := fun σ R ds ok h1 => by
  rw [h]
  refine runS_of rfl ?_
  have e : startW (mixedD jd) [.r 1, .d (.list ds)] = [some (.r 1), some (.d (.list ds)), none, none] := rfl
  rw [e]
  have fin : ∀ (σ' : Sg) (xs : List PyData), SgOk σ' → xs.Perm ds → rsQ (mixedD jd) (Sx σ R).length (StQ R fun v => ∃ ds', ds'.Perm ds ∧ v = .d (.list ds')) (.rt (.r (R.length + 2))) (Sx σ' (R ++ [.lst false (xs.map Val.d)])) := fun σ' xs ok' hp => by
    refine rs_end (x := .list xs) rfl (by simp [Sx]) (by simp [newR, Sx]) ?_ ok' ⟨xs, hp, rfl⟩
    show (match (Sx σ' (R ++ [.lst false (xs.map Val.d)]))[R.length + 2]? with
      | some (.lst _ xs) => (datsOf xs).map PyData.list
      | _ => none) = _
    rw [Sx_get]
    simp
  generalize rsQ (mixedD jd) (Sx σ R).length (StQ R fun v => ∃ ds', ds'.Perm ds ∧ v = .d (.list ds')) = Q at fin ⊢
  refine seq (fun ρ S => ρ = [some (.r 1), some (.d (.list ds)), some (.r (R.length + 2)), none] ∧ S = Sx σ (R ++ [.lst false []])) ?_ ?_
  · simp [Sx]
  rintro _ _ ⟨rfl, rfl⟩
  refine seq (fun ρ S => ∃ (σ' : Sg) (xs : List PyData), SgOk σ' ∧ xs.Perm ds ∧ ρ = [some (.r 1), some (.d (.list ds)), some (.r (R.length + 2)), none] ∧ S = Sx σ' (R ++ [.lst false (xs.map Val.d)])) ?_ ?_
  · simp
    refine wS_for (fun rest ρ S => ∃ (rs : List PyData) (σ' : Sg) (xs : List PyData), rest = rs.map Val.d ∧ SgOk σ' ∧ (xs ++ rs).Perm ds ∧ ρ = [some (.r 1), some (.d (.list ds)), some (.r (R.length + 2)), none] ∧ S = Sx σ' (R ++ [.lst false (xs.map Val.d)])) ?_ ?_ ⟨ds, σ, [], rfl, ok, List.Perm.refl _, rfl, rfl⟩
    · rintro x r _ _ ⟨rs, σ', xs, e1, ok', hp, rfl, rfl⟩
      cases rs with
      | nil => cases e1
      | cons d rs =>
        simp only [List.map_cons, List.cons.injEq] at e1
        obtain ⟨rfl, rfl⟩ := e1
        have hlen : xs.length < 1000 := by
          have := hp.length_eq
          simp at this
          omega
        simp [bindT]
        refine ⟨⟨_, rdS_of Sx_get⟩, _, len_r Sx_get, ?_⟩
        simp
        refine wS_st (hd σ' _ _ ok' (by omega) (by omega)) ?_
        rintro v σ2 ok2 ⟨i, i0, i1, rfl⟩
        refine ins_w Sx_get (by simpa using Nat.lt_of_lt_of_le hlen (by decide : 1000 ≤ sizeLine)) i0 (by omega) ?_
        refine ⟨rs, rfl, σ2, ok2, xs.take i.toNat ++ [d] ++ xs.drop i.toNat, ?_, rfl, ?_⟩
        · refine List.Perm.trans ?_ hp
          have := (perm_ins d xs i.toNat).append_right rs
          rwa [List.append_assoc xs, List.singleton_append] at this
        · rw [Sx_set]
          simp
    · rintro _ _ ⟨rs, σ', xs, e1, ok', hp, rfl, rfl⟩
      have : rs = [] := by simpa using e1.symm
      subst this
      exact ⟨σ', ok', xs, by simpa using hp, rfl, rfl⟩
  · rintro _ _ ⟨σ', xs, ok', hp, rfl, rfl⟩
    simp
    exact fin σ' xs ok' hp
end Wf
set_option maxRecDepth 100000
set_option maxHeartbeats 4000000
/-! W33: webs as typed lists; path, star, whole, ring, drawn webs. -/
namespace Wf
open PySem
abbrev Ties : Type := List (Nat × Nat)
def tieD (p : Nat × Nat) : PyData := .tuple [.int p.1, .int p.2]
def tiesD (E : Ties) : PyData := .tuple (E.map tieD)
def rowA (n a : Nat) : Ties := (List.range (n - (a + 1))).map fun i => (a, a + 1 + i)
def wholeL (n : Nat) : Ties := (List.range n).flatMap (rowA n)
theorem mem_rowA {n a : Nat} {p : Nat × Nat} : p ∈ rowA n a ↔ p.1 = a ∧ p.1 < p.2 ∧ p.2 < n := by
  unfold rowA
  rw [List.mem_map]
  constructor
  · rintro ⟨i, hi, rfl⟩
    rw [List.mem_range] at hi
    exact ⟨rfl, by show a < a + 1 + i; omega, by show a + 1 + i < n; omega⟩
  · rintro ⟨h1, h2, h3⟩
    refine ⟨p.2 - (a + 1), List.mem_range.mpr (by omega), ?_⟩
    obtain ⟨x, y⟩ := p
    simp only at h1 h2 h3
    subst h1
    simp only [Prod.mk.injEq, true_and]
    omega
theorem mem_whole {n : Nat} {p : Nat × Nat} : p ∈ wholeL n ↔ p.1 < p.2 ∧ p.2 < n := by
  unfold wholeL
  rw [List.mem_flatMap]
  constructor
  · rintro ⟨a, ha, h⟩
    exact (mem_rowA.mp h).2
  · rintro ⟨h1, h2⟩
    exact ⟨p.1, List.mem_range.mpr (by omega), mem_rowA.mpr ⟨rfl, h1, h2⟩⟩
theorem len_rowA {n a : Nat} : (rowA n a).length = n - (a + 1) := by simp [rowA]
theorem len_flat {n : Nat} : ∀ k : Nat, ((List.range k).flatMap (rowA n)).length ≤ k * n
  | 0 => by simp
  | k + 1 => by
    rw [List.range_succ, List.flatMap_append, List.length_append]
    have := len_flat (n := n) k
    have e : ([k].flatMap (rowA n)).length ≤ n := by simp [len_rowA]
    rw [Nat.succ_mul]
    omega
theorem len_whole {n : Nat} : (wholeL n).length ≤ n * n := len_flat n
/-- a web: sorted ties -/
def Web (n : Nat) (E : Ties) : Prop := E.Sublist (wholeL n)
theorem Web.rng {n : Nat} {E : Ties} (h : Web n E) : ∀ t ∈ E, t.1 < t.2 ∧ t.2 < n := fun t ht => mem_whole.mp (h.subset ht)
theorem Web.len {n : Nat} {E : Ties} (h : Web n E) (hn : n ≤ 30) : E.length ≤ 900 := Nat.le_trans h.length_le (Nat.le_trans len_whole (Nat.mul_le_mul hn hn))
theorem rangeV0 {n : Nat} : rangeV 0 (n : Int) = (List.range n).map fun (i : Nat) => Val.d (.int (i : Int)) := by
  unfold rangeV
  rw [show ((n : Int) - 0).toNat = n by omega]
  simp
theorem rangeV_from {a n : Nat} : rangeV ((a : Int) + 1) (n : Int) = (List.range (n - (a + 1))).map fun i => Val.d (.int (((a + 1 + i : Nat)) : Int)) := by
  unfold rangeV
  rw [show ((n : Int) - ((a : Int) + 1)).toNat = n - (a + 1) by omega]
  refine List.map_congr_left fun i _ => ?_
  congr 2
theorem small_nat {n : Nat} (h : n < 1000) : small62 (n : Int) = true := by
  unfold small62
  rw [decide_eq_true_eq]
  omega
theorem wS_forL {α : Type} {emb : α → Val} {ρ0 : EnvW} {body : Val → EnvW → SM Out} {Q : Out → Store → Prop} {L : List α} (I : List α → EnvW → Store → Prop) {ρ : EnvW} {S : Store} (h0 : I [] ρ S) (step : ∀ pre a rest ρ S, L = pre ++ a :: rest → I pre ρ S → wS (body (emb a) ρ) S (turnQ Q ρ0 (I (pre ++ [a])))) (done : ∀ ρ S, I L ρ S → Q (.nx ρ) S) : wS (forW ρ0 body (L.map emb) ρ) S Q := by
  refine wS_for (fun xs ρ S => ∃ pre rest, L = pre ++ rest ∧ xs = rest.map emb ∧ I pre ρ S) ?_ ?_ ⟨[], L, rfl, rfl, h0⟩
  · rintro x r ρ S ⟨pre, rest, e, e2, hI⟩
    cases rest with
    | nil => cases e2
    | cons a rest =>
      simp only [List.map_cons, List.cons.injEq] at e2
      obtain ⟨rfl, rfl⟩ := e2
      refine wS_mono (step pre a rest ρ S e hI) fun o S1 q => ?_
      have k : ∀ ρ1, I (pre ++ [a]) ρ1 S1 → ∃ pre rest', L = pre ++ rest' ∧ rest.map emb = rest'.map emb ∧ I pre ρ1 S1 := fun ρ1 h => ⟨pre ++ [a], rest, by rw [e]; simp, rfl, h⟩
      cases o with
      | nx ρ1 => exact k _ q
      | ct ρ1 => exact k _ q
      | bk ρ1 => exact q
      | rt v => exact q
  · rintro ρ S ⟨pre, rest, e, e2, hI⟩
    have : rest = [] := by
      cases rest with
      | nil => rfl
      | cons _ _ => cases e2
    subst this
    rw [List.append_nil] at e
    subst e
    exact done ρ S hI
theorem wS_forN {ρ0 : EnvW} {body : Val → EnvW → SM Out} {Q : Out → Store → Prop} {n : Nat} (I : Nat → EnvW → Store → Prop) {ρ : EnvW} {S : Store} (h0 : I 0 ρ S) (step : ∀ (k : Nat) ρ S, k < n → I k ρ S → wS (body (.d (.int (k : Int))) ρ) S (turnQ Q ρ0 (I (k + 1)))) (done : ∀ ρ S, I n ρ S → Q (.nx ρ) S) : wS (forW ρ0 body (rangeV 0 (n : Int)) ρ) S Q := by
  rw [rangeV0]
  refine wS_forL (L := List.range n) (fun pre ρ S => I pre.length ρ S) h0 (fun pre a rest ρ S e hI => ?_) (fun ρ S h => done ρ S (by simpa using h))
  have h1 : pre.length < n := by
    have := congrArg List.length e
    simp at this
    omega
  have h2 : a = pre.length := by
    have := congrArg (fun l => l[pre.length]?) e
    simp [h1] at this
    exact this.symm
  subst h2
  simpa using step pre.length ρ S h1 hI
/-- comprehensions that draw -/
theorem wS_lcs {α : Type} {emb : α → Val} {f : Val → SM (List Val)} {R : Store} {Q : List Val → Store → Prop} (y : α → PyData) : ∀ {L : List α} {σ : Sg}, SgOk σ → (∀ a ∈ L, ∀ σ : Sg, SgOk σ → wS (f (emb a)) (Sx σ R) fun ys S1 => ∃ σ' : Sg, SgOk σ' ∧ S1 = Sx σ' R ∧ (ys = [] ∨ ys = [Val.d (y a)])) →
    (∀ (L' : List α) (σ' : Sg), SgOk σ' → L'.Sublist L → Q ((L'.map y).map Val.d) (Sx σ' R)) → wS (mapF f (L.map emb)) (Sx σ R) Q
  | [], σ, ok, h, k => wS_ret.mpr (k [] σ ok (List.Sublist.refl _))
  | a :: r, σ, ok, h, k => by
    show wS (sbind (f (emb a)) _) _ Q
    rw [wS_bind]
    refine wS_mono (h a List.mem_cons_self σ ok) ?_
    rintro ys _ ⟨σ1, ok1, rfl, e⟩
    rw [wS_bind]
    refine wS_lcs y ok1 (fun b hb => h b (List.mem_cons_of_mem _ hb)) fun L' σ2 ok2 hs => wS_ret.mpr ?_
    rcases e with rfl | rfl
    · exact k L' σ2 ok2 (hs.cons a)
    · exact k (a :: L') σ2 ok2 (hs.cons₂ a)
/-- whole -/
def wholeB : List CS := [
  .set 1 (.lst false []),
  .forr [2] false (.rng (.int 0) (.var 0)) [.set 1 (.bin .Add (.var 1) (.comp false [3] [3] false (.rng (.bin .Add (.var 2) (.int 1)) (.var 0)) (.bl true) (.tup [.var 2, .var 3])))],
  .ret (.bi .tuple [.var 1])]
def wholeD : Def := ⟨1, 4, true, false, wholeB⟩
@[simp] theorem add_ll {S : Store} {xs ys : List PyData} : binop .Add (.d (.list xs)) (.d (.list ys)) S = if (xs ++ ys).length ≤ sizeLine then some (.d (.list (xs ++ ys))) else none := by
  show listOf (xs.map Val.d ++ ys.map Val.d) = _
  unfold listOf
  rw [← List.map_append, datsOf_map]
theorem two_le : 2 ≤ sizeLine := by decide
theorem whole_ok (T : Tab) {n : Nat} (hn : n ≤ 30) : runP T wholeD [.d (.int n)] = some (tiesD (wholeL n)) := by
  refine runP_of rfl ?_
  have e : startW wholeD [.d (.int n)] = [some (.d (.int n)), none, none, none] := rfl
  rw [e]
  refine seq (fun ρ S => ρ = [some (.d (.int n)), some (.d (.list [])), none, none] ∧ S = []) (by simp) ?_
  rintro _ _ ⟨rfl, rfl⟩
  refine seq (fun ρ S => ρ = [some (.d (.int n)), some (.d (.list ((wholeL n).map tieD))), none, none] ∧ S = []) ?_ ?_
  · simp [small_nat (show n < 1000 by omega)]
    refine ⟨by decide, ?_⟩
    refine wS_forN (fun k ρ S => ρ = [some (.d (.int n)), some (.d (.list (((List.range k).flatMap (rowA n)).map tieD))), none, none] ∧ S = []) ⟨rfl, rfl⟩ ?_ ?_
    · rintro k _ _ hk ⟨rfl, rfl⟩
      have s2 : small62 ((k : Int) + 1) = true := small_nat (n := k + 1) (by omega)
      simp [bindT, small_nat (show n < 1000 by omega), wipeW, s2]
      rw [rangeV_from]
      refine (wS_lcm (fun i => tieD (k, k + 1 + i)) fun i hi => ?_).mpr ?_
      · simp [bindT, setAll, tieD, two_le, wipeW]
      · simp [mask, -List.map_map, -List.length_flatMap]
        have big : 1000 ≤ sizeLine := by decide
        have h1 := len_flat (n := n) k
        have h2 : k * n ≤ 30 * 30 := Nat.mul_le_mul (by omega) hn
        rw [List.length_flatMap] at h1
        refine ⟨by omega, by omega, ?_⟩
        rw [List.range_succ, List.flatMap_append, List.map_append]
        simp [rowA]
    · rintro _ _ ⟨rfl, rfl⟩
      exact ⟨rfl, rfl⟩
  · rintro _ _ ⟨rfl, rfl⟩
    simp [tiesD]
/-- path, star -/
def pathL (n : Nat) : Ties := (List.range (n - 1)).map fun i => (i, i + 1)
def pathB : List CS := [.ret (.bi .tuple [.comp false [1] [1] false (.rng (.int 0) (.bin .Sub (.var 0) (.int 1))) (.bl true) (.tup [.var 1, .bin .Add (.var 1) (.int 1)])])]
def pathD : Def := ⟨1, 2, true, false, pathB⟩
theorem rangeVn {n m : Nat} (h : n = m + 1) : rangeV 0 ((n : Int) - 1) = (List.range m).map fun (i : Nat) => Val.d (.int (i : Int)) := by
  rw [show (n : Int) - 1 = (m : Int) by omega, rangeV0]
theorem path_ok (T : Tab) {n : Nat} (h0 : 0 < n) (hn : n ≤ 30) : runP T pathD [.d (.int n)] = some (tiesD (pathL n)) := by
  obtain ⟨m, rfl⟩ : ∃ m, n = m + 1 := ⟨n - 1, by omega⟩
  refine runP_of rfl ?_
  have s2 : small62 (m : Int) = true := small_nat (by omega)
  have big : 1000 ≤ sizeLine := by decide
  simp [pathD, pathB, startW, s2, show small62 0 = true by decide]
  rw [rangeV0]
  refine (wS_lcm (fun i => tieD (i, i + 1)) fun i hi => ?_).mpr ?_
  · simp [bindT, setAll, tieD, two_le, wipeW]
  · simp [-List.map_map, tiesD, pathL]
    refine ⟨by omega, ?_⟩
    simp
def starL (n : Nat) : Ties := rowA n 0
def starB : List CS := [.ret (.bi .tuple [.comp false [1] [1] false (.rng (.int 1) (.var 0)) (.bl true) (.tup [.int 0, .var 1])])]
def starD : Def := ⟨1, 2, true, false, starB⟩
theorem star_ok (T : Tab) {n : Nat} (hn : n ≤ 30) : runP T starD [.d (.int n)] = some (tiesD (starL n)) := by
  refine runP_of rfl ?_
  have s2 : small62 (n : Int) = true := small_nat (by omega)
  have big : 1000 ≤ sizeLine := by decide
  simp [starD, starB, startW, s2, show small62 1 = true by decide]
  have e := rangeV_from (a := 0) (n := n)
  simp only [Int.natCast_zero, Int.zero_add] at e
  rw [e]
  refine (wS_lcm (fun i => tieD (0, 0 + 1 + i)) fun i hi => ?_).mpr ?_
  · simp [bindT, setAll, tieD, two_le, wipeW]
  · simp [-List.map_map, tiesD, starL, rowA]
    refine ⟨by omega, ?_⟩
    simp
end Wf
set_option maxRecDepth 100000
set_option maxHeartbeats 4000000
/-! W34: drawn webs. -/
namespace Wf
open PySem
/-- a drawn web -/
def webB (jd : Nat) : List CS := [
  .set 3 (.lst false []),
  .forr [4] false (.rng (.int 0) (.var 1)) [.set 3 (.bin .Add (.var 3) (.comp false [5] [5] false (.rng (.bin .Add (.var 4) (.int 1)) (.var 1)) (.cmp .Eq (.calls jd [.var 0, .var 2]) (.int 0)) (.tup [.var 4, .var 5])))],
  .ret (.bi .tuple [.var 3])]
def webD (jd : Nat) : Def := ⟨3, 6, false, false, webB jd⟩
def WebOk (T : Tab) (j : Nat) : Prop := ∀ (σ : Sg) (R : Store) (n : Nat) (many : Int), SgOk σ → n ≤ 30 → 0 < many → many < 1000 → wS (T.st j [.r 1, .d (.int n), .d (.int many)]) (Sx σ R) (StQ R fun v => ∃ E, Web n E ∧ v = .d (tiesD E))
theorem webOk_of {T T0 : Tab} {j jd : Nat} (hd : DrawOk T0 jd) (h : ∀ vs, T.st j vs = runS T0 (webD jd) vs) : WebOk T j := fun σ R n many ok hn h0 h1 => by
  rw [h]
  refine runS_of rfl ?_
  have e : startW (webD jd) [.r 1, .d (.int n), .d (.int many)] = [some (.r 1), some (.d (.int n)), some (.d (.int many)), none, none, none] := rfl
  rw [e]
  have fin : ∀ (σ' : Sg) (E : Ties), SgOk σ' → Web n E → rsQ (webD jd) (Sx σ R).length (StQ R fun v => ∃ E, Web n E ∧ v = .d (tiesD E)) (.rt (.d (tiesD E))) (Sx σ' R) := fun σ' E ok' hw => rs_data rfl (by simp [Sx]) ok' ⟨E, hw, rfl⟩
  generalize rsQ (webD jd) (Sx σ R).length (StQ R fun v => ∃ E, Web n E ∧ v = .d (tiesD E)) = Q at fin ⊢
  refine seq (fun ρ S => ρ = [some (.r 1), some (.d (.int n)), some (.d (.int many)), some (.d (.list [])), none, none] ∧ S = Sx σ R) (by simp) ?_
  rintro _ _ ⟨rfl, rfl⟩
  refine seq (fun ρ S => ∃ (σ' : Sg) (E : Ties), SgOk σ' ∧ Web n E ∧ ρ = [some (.r 1), some (.d (.int n)), some (.d (.int many)), some (.d (.list (E.map tieD))), none, none] ∧ S = Sx σ' R) ?_ ?_
  · simp [small_nat (show n < 1000 by omega)]
    refine ⟨by decide, ?_⟩
    refine wS_forN (fun k ρ S => ∃ (σ' : Sg) (E : Ties), SgOk σ' ∧ E.Sublist ((List.range k).flatMap (rowA n)) ∧ ρ = [some (.r 1), some (.d (.int n)), some (.d (.int many)), some (.d (.list (E.map tieD))), none, none] ∧ S = Sx σ' R) ⟨σ, [], ok, List.Sublist.refl _, rfl, rfl⟩ ?_ ?_
    · rintro k _ _ hk ⟨σ', E, ok', hE, rfl, rfl⟩
      have s2 : small62 ((k : Int) + 1) = true := small_nat (n := k + 1) (by omega)
      simp [bindT, small_nat (show n < 1000 by omega), wipeW, s2]
      rw [rangeV_from]
      refine wS_lcs (fun i => tieD (k, k + 1 + i)) ok' (fun i hi σ2 ok2 => ?_) fun L' σ2 ok2 hs => ?_
      · simp [bindT, setAll, wipeW]
        refine wS_st (hd σ2 R many ok2 h0 (by omega)) ?_
        rintro v σ3 ok3 ⟨z, z0, z1, rfl⟩
        by_cases hz : z = 0
        · simp [hz, tieD, two_le]
          exact ⟨_, ok3, rfl⟩
        · simp [hz]
          exact ⟨_, ok3, rfl⟩
      · simp [mask, -List.map_map, and_assoc]
        have big : 1000 ≤ sizeLine := by decide
        have h1 := Nat.le_trans hE.length_le (len_flat (n := n) k)
        have h2 : k * n ≤ 30 * 30 := Nat.mul_le_mul (by omega) hn
        have h3 := hs.length_le
        simp at h3
        refine ⟨by omega, by omega, σ2, ok2, E ++ L'.map fun i => (k, k + 1 + i), ?_, ?_, rfl⟩
        · rw [List.range_succ, List.flatMap_append]
          refine List.Sublist.append hE ?_
          simp only [List.flatMap_cons, List.flatMap_nil, List.append_nil]
          exact hs.map _
        · simp
    · rintro _ _ ⟨σ', E, ok', hE, rfl, rfl⟩
      exact ⟨σ', ok', E, hE, rfl, rfl⟩
  · rintro _ _ ⟨σ', E, ok', hw, rfl, rfl⟩
    simp
    exact fin σ' E ok' hw
def mwebB (jw jd : Nat) : List CS := [
  .ret (.bi .tuple [.comp false [2] [2] false (.it (.callp jw [.var 1])) (.cmp .Gt (.calls jd [.var 0, .int 4]) (.int 0)) (.var 2)])]
def mwebD (jw jd : Nat) : Def := ⟨2, 3, false, false, mwebB jw jd⟩
def MwebOk (T : Tab) (j : Nat) : Prop := ∀ (σ : Sg) (R : Store) (n : Nat), SgOk σ → n ≤ 30 → wS (T.st j [.r 1, .d (.int n)]) (Sx σ R) (StQ R fun v => ∃ E, Web n E ∧ v = .d (tiesD E))
theorem mwebOk_of {T T0 : Tab} {j jw jd : Nat} (hd : DrawOk T0 jd) (hw : ∀ n : Nat, n ≤ 30 → T0.pure jw [.d (.int n)] = some (tiesD (wholeL n))) (h : ∀ vs, T.st j vs = runS T0 (mwebD jw jd) vs) : MwebOk T j := fun σ R n ok hn => by
  rw [h]
  refine runS_of rfl ?_
  have e : startW (mwebD jw jd) [.r 1, .d (.int n)] = [some (.r 1), some (.d (.int n)), none] := rfl
  rw [e]
  have fin : ∀ (σ' : Sg) (E : Ties), SgOk σ' → Web n E → rsQ (mwebD jw jd) (Sx σ R).length (StQ R fun v => ∃ E, Web n E ∧ v = .d (tiesD E)) (.rt (.d (tiesD E))) (Sx σ' R) := fun σ' E ok' hw => rs_data rfl (by simp [Sx]) ok' ⟨E, hw, rfl⟩
  generalize rsQ (mwebD jw jd) (Sx σ R).length (StQ R fun v => ∃ E, Web n E ∧ v = .d (tiesD E)) = Q at fin ⊢
  simp [mwebD, mwebB, hw n hn]
  simp only [tiesD, rdS_tup, Option.some.injEq, exists_eq_left', lock_d, unlock_d, List.map_map]
  refine wS_lcs (emb := Val.d ∘ tieD) tieD ok (fun i hi σ2 ok2 => ?_) fun L' σ2 ok2 hs => ?_
  · simp [bindT, setAll, wipeW]
    refine wS_st (hd σ2 R 4 ok2 (by omega) (by omega)) ?_
    rintro v σ3 ok3 ⟨z, z0, z1, rfl⟩
    by_cases hz : 0 < z
    · simp [hz]
      exact ⟨_, ok3, rfl⟩
    · simp [hz]
      exact ⟨_, ok3, rfl⟩
  · have hs : Web n L' := hs
    have := hs.len hn
    have big : 1000 ≤ sizeLine := by decide
    simp [-List.map_map]
    exact ⟨by omega, fin _ _ ok2 hs⟩
end Wf
set_option maxRecDepth 100000
set_option maxHeartbeats 4000000
/-! W35: pairs sorted. -/
namespace Wf
open PySem
def lexLe (a b : Nat × Nat) : Bool := decide (a.1 < b.1) || (decide (a.1 = b.1) && decide (a.2 ≤ b.2))
def sortT (E : Ties) : Ties := E.mergeSort lexLe
theorem dataLt_tie (a b : Nat × Nat) : PySem.W.dataLt (tieD b) (tieD a) = !lexLe a b := by
  unfold tieD
  rw [PySem.W.dataLt_pair (alike_ii _ _) (alike_ii _ _), eqv_ii, eqv_ii, PySem.W.dataLt_int, PySem.W.dataLt_int]
  unfold lexLe
  by_cases h1 : b.1 = a.1
  · by_cases h2 : b.2 = a.2
    · simp [h1, h2]
    · have h3 : ((b.2 : Nat) : Int) ≠ a.2 := by omega
      by_cases h4 : a.2 ≤ b.2
      · simp [h1, h3, h4] <;> omega
      · simp [h1, h3, h4] <;> omega
  · have h3 : ((b.1 : Nat) : Int) ≠ a.1 := by omega
    by_cases h4 : a.1 < b.1
    · have h5 : ¬ (((b.1 : Nat) : Int) < a.1) := by omega
      simp [h3, h4, h5]
    · have h5 : (((b.1 : Nat) : Int) < a.1) := by omega
      have h6 : a.1 ≠ b.1 := fun z => h1 z.symm
      simp [h3, h4, h5, h6]
@[simp] theorem sortD_tie (E : Ties) : sortD (E.map tieD) = (sortT E).map tieD := by
  unfold sortD sortT
  refine mergeSort_map _ _ _ (fun a b => ?_) E
  rw [dataLt_tie, Bool.not_not]
theorem alike_tie (a b : Nat × Nat) : PySem.W.alike (tieD a) (tieD b) = true := by
  simp [tieD, PySem.W.alike, PySem.W.alikeAll]
@[simp] theorem sortOk_tie (E : Ties) : sortOk (E.map tieD) = true := by
  unfold sortOk
  have h1 : (E.map tieD).all isTupNE = true := by simp [tieD, isTupNE]
  have h2 : (E.map tieD).all (lv 40) = true := by simp [tieD]
  have h3 : ((E.map tieD).all fun a => (E.map tieD).all fun b => PySem.W.alike a b) = true := by simp [alike_tie]
  rw [h1, h2, h3] <;> rfl
theorem lexLe_total (a b : Nat × Nat) : (lexLe a b || lexLe b a) = true := by
  unfold lexLe
  simp only [Bool.or_eq_true, Bool.and_eq_true, decide_eq_true_eq]
  omega
theorem lexLe_trans (a b c : Nat × Nat) (h1 : lexLe a b = true) (h2 : lexLe b c = true) : lexLe a c = true := by
  unfold lexLe at *
  simp only [Bool.or_eq_true, Bool.and_eq_true, decide_eq_true_eq] at *
  omega
theorem lexLe_anti {a b : Nat × Nat} (h1 : lexLe a b = true) (h2 : lexLe b a = true) : a = b := by
  unfold lexLe at *
  simp only [Bool.or_eq_true, Bool.and_eq_true, decide_eq_true_eq] at *
  refine Prod.ext ?_ ?_ <;> omega
theorem sortT_perm (E : Ties) : (sortT E).Perm E := List.mergeSort_perm E lexLe
theorem sortT_sorted (E : Ties) : (sortT E).Pairwise fun a b => lexLe a b = true := List.pairwise_mergeSort lexLe_trans lexLe_total E
/-- two sorted lists with the same items are equal -/
theorem sorted_eq {A B : Ties} (hA : A.Pairwise fun a b => lexLe a b = true) (hB : B.Pairwise fun a b => lexLe a b = true) (h : A.Perm B) : A = B := List.Perm.eq_of_pairwise (fun a b _ _ h1 h2 => lexLe_anti h1 h2) hA hB h
theorem whole_sorted (n : Nat) : (wholeL n).Pairwise fun a b => lexLe a b = true ∧ a ≠ b := by
  unfold wholeL
  rw [List.flatMap_def, List.pairwise_flatten]
  constructor
  · intro l hl
    obtain ⟨a, _, rfl⟩ := List.mem_map.mp hl
    unfold rowA
    rw [List.pairwise_map]
    refine List.Pairwise.imp ?_ List.pairwise_lt_range
    intro i j hij
    unfold lexLe
    simp
    omega
  · rw [List.pairwise_map]
    refine List.Pairwise.imp ?_ List.pairwise_lt_range
    intro i j hij x hx y hy
    have h1 := (mem_rowA.mp hx).1
    have h2 := (mem_rowA.mp hy).1
    unfold lexLe
    simp
    refine ⟨by omega, fun z => ?_⟩
    subst z
    omega
/-- sorted, distinct, within: a web -/
theorem web_of {n : Nat} {E : Ties} (hn : E.Nodup) (hr : ∀ t ∈ E, t.1 < t.2 ∧ t.2 < n) : Web n (sortT E) := by
  have hw := whole_sorted n
  have e : sortT E = (wholeL n).filter fun t => decide (t ∈ E) := by
    refine sorted_eq (sortT_sorted E) ((hw.imp fun h => h.1).filter _) ?_
    refine (sortT_perm E).trans ?_
    refine (List.perm_ext_iff_of_nodup hn ((hw.imp fun h => h.2).filter _)).mpr fun t => ?_
    rw [List.mem_filter, mem_whole, decide_eq_true_iff]
    exact ⟨fun h => ⟨hr t h, h⟩, fun h => h.2⟩
  unfold Web
  rw [e]
  exact List.filter_sublist
end Wf
set_option maxRecDepth 100000
set_option maxHeartbeats 4000000
/-! W36: ring, renamed webs. -/
namespace Wf
open PySem
def ringL (n : Nat) : Ties := sortT (pathL n ++ [(0, n - 1)])
def ringB : List CS := [
  .ret (.bi .tuple [.bi .sorted [.bin .Add (.comp false [1] [1] false (.rng (.int 0) (.bin .Sub (.var 0) (.int 1))) (.bl true) (.tup [.var 1, .bin .Add (.var 1) (.int 1)])) (.lst false [.tup [.int 0, .bin .Sub (.var 0) (.int 1)]])]])]
def ringD : Def := ⟨1, 2, true, false, ringB⟩
theorem ring_ok (T : Tab) {n : Nat} (h0 : 0 < n) (hn : n ≤ 30) : runP T ringD [.d (.int n)] = some (tiesD (ringL n)) := by
  obtain ⟨m, rfl⟩ : ∃ m, n = m + 1 := ⟨n - 1, by omega⟩
  refine runP_of rfl ?_
  have s2 : small62 (m : Int) = true := small_nat (by omega)
  have big : 1000 ≤ sizeLine := by decide
  simp [ringD, ringB, startW, s2, show small62 0 = true by decide]
  rw [rangeV0]
  refine (wS_lcm (fun i => tieD (i, i + 1)) fun i hi => ?_).mpr ?_
  · simp [bindT, setAll, tieD, two_le, wipeW]
  · have e : (List.range m).map (fun i => tieD (i, i + 1)) ++ [PyData.tuple [.int 0, .int m]] = (pathL (m + 1) ++ [(0, m)]).map tieD := by
      simp [pathL, tieD]
    simp [-List.map_map, two_le, e, and_assoc]
    have l : (pathL (m + 1)).length = m := by simp [pathL]
    have l2 : (sortT (pathL (m + 1) ++ [(0, m)])).length = m + 1 := by rw [(sortT_perm _).length_eq]; simp [l]
    refine ⟨by omega, by omega, ?_⟩
    simp [ringL, tiesD]
    have e2 : List.map tieD (pathL (m + 1)) ++ [tieD (0, m)] = List.map tieD (pathL (m + 1) ++ [(0, m)]) := by simp
    rw [e2]
    exact ⟨by omega, sortOk_tie _, by omega, sortD_tie _⟩
/-- renamed -/
def renB (jm : Nat) : List CS := [
  .set 3 (.calls jm [.var 0, .lrg (.int 0) (.var 1)]),
  .ret (.bi .tuple [.bi .sorted [.comp false [4, 5] [4, 5] true (.it (.var 2)) (.bl true) (.tup [.bi .min [.idx (.var 3) (.var 4), .idx (.var 3) (.var 5)], .bi .max [.idx (.var 3) (.var 4), .idx (.var 3) (.var 5)]])]])]
def renD (jm : Nat) : Def := ⟨3, 6, false, false, renB jm⟩
@[simp] theorem ev_lrg {T : Tab} {ρ : EnvW} {S : Store} {a b : CE} {Q : Val → Store → Prop} : wS (ev T (.lrg a b) ρ) S Q ↔ wS (ev T a ρ) S fun x S1 => wS (ev T b ρ) S1 fun y S2 => ∃ i j, x = .d (.int i) ∧ y = .d (.int j) ∧ (small62 i && small62 j && decide ((j - i).toNat ≤ sizeLine)) = true ∧ Q (.d (.list (rangeD i j))) S2 := by
  show wS (sbind (sbind _ _) _) S Q ↔ _
  simp only [wS_bind]
  constructor
  · intro h
    refine wS_mono h fun x S1 h => wS_mono h fun y S2 h => ?_
    split at h
    · rw [wS_sif, wS_ret, wS_ret] at h
      exact ⟨_, _, rfl, rfl, h.1, h.2⟩
    · rw [wS_fail] at h
      exact h.elim
  · intro h
    refine wS_mono h fun x S1 h => wS_mono h fun y S2 h => ?_
    obtain ⟨i, j, rfl, rfl, h1, h2⟩ := h
    exact wS_sif.mpr ⟨h1, wS_ret.mpr (wS_ret.mpr h2)⟩
def natD (i : Nat) : PyData := .int (i : Int)
theorem rangeD0 (n : Nat) : rangeD 0 (n : Int) = (List.range n).map natD := by
  unfold rangeD
  rw [show ((n : Int) - 0).toNat = n by omega]
  refine List.map_congr_left fun i _ => ?_
  simp [natD]
theorem natD_inj {a b : Nat} (h : natD a = natD b) : a = b := by
  unfold natD at h
  have : (a : Int) = b := by cases h; rfl
  omega
theorem perm_nat {l : List PyData} {k : List Nat} (h : l.Perm (k.map natD)) : ∃ k' : List Nat, k'.Perm k ∧ l = k'.map natD := by
  obtain ⟨k', h1, h2⟩ : ∃ k' : List Nat, l = k'.map natD ∧ True := by
    have : ∀ x ∈ l, ∃ i : Nat, x = natD i := fun x hx => by
      obtain ⟨i, _, e⟩ := List.mem_map.mp (h.mem_iff.mp hx)
      exact ⟨i, e.symm⟩
    clear h
    induction l with
    | nil => exact ⟨[], rfl, trivial⟩
    | cons x r ih =>
      obtain ⟨k', e, _⟩ := ih fun y hy => this y (List.mem_cons_of_mem _ hy)
      obtain ⟨i, rfl⟩ := this x List.mem_cons_self
      exact ⟨i :: k', by rw [e]; rfl, trivial⟩
  subst h1
  refine ⟨k', ?_, rfl⟩
  have := h.map (fun d : PyData => match d with
    | .int i => i.toNat
    | _ => 0)
  rw [List.map_map, List.map_map] at this
  have e : ((fun d : PyData => match d with
    | .int i => i.toNat
    | _ => 0) ∘ natD) = id := by funext i; simp [natD]
  rw [e, List.map_id, List.map_id] at this
  exact this
theorem atI_get {α : Type} {xs : List α} {i : Nat} (h : i < xs.length) : L2.atI xs (i : Int) = some xs[i] := by
  unfold L2.atI L2.ixN
  rw [if_pos (by omega), if_pos (by omega)]
  simp [h]
/-- the tie of two names -/
def tieOf (a b : Nat) : Nat × Nat := (min a b, max a b)
def renL (k : List Nat) (E : Ties) : Ties := E.map fun t => tieOf (k.getD t.1 0) (k.getD t.2 0)
theorem ren_web {n : Nat} {k : List Nat} {E : Ties} (hk : k.Perm (List.range n)) (h : ∀ t ∈ E, t.1 < t.2 ∧ t.2 < n) (hn : E.Nodup) : Web n (sortT (renL k E)) := by
  have hl : k.length = n := by rw [hk.length_eq, List.length_range]
  have nd : k.Nodup := hk.nodup_iff.mpr List.nodup_range
  have inj : ∀ i j, i < n → j < n → k.getD i 0 = k.getD j 0 → i = j := fun i j hi hj e => by
    rw [List.getD_eq_getElem?_getD, List.getD_eq_getElem?_getD, List.getElem?_eq_getElem (by omega), List.getElem?_eq_getElem (by omega)] at e
    exact (List.getElem_inj nd).mp e
  have lt : ∀ i, i < n → k.getD i 0 < n := fun i hi => by
    rw [List.getD_eq_getElem?_getD, List.getElem?_eq_getElem (by omega)]
    exact List.mem_range.mp (hk.mem_iff.mp (List.getElem_mem _))
  refine web_of ?_ ?_
  · unfold renL
    refine List.pairwise_map.mpr ?_
    refine (List.Pairwise.and_mem.mp hn).imp ?_
    rintro s t ⟨hs, ht, ne⟩ e
    have h1 := h s hs
    have h2 := h t ht
    have i1 := inj s.1 t.1 (by omega) (by omega)
    have i2 := inj s.2 t.2 (by omega) (by omega)
    have i3 := inj s.1 t.2 (by omega) (by omega)
    have i4 := inj s.2 t.1 (by omega) (by omega)
    unfold tieOf at e
    simp only [Prod.mk.injEq] at e
    have key : (k.getD s.1 0 = k.getD t.1 0 ∧ k.getD s.2 0 = k.getD t.2 0) ∨ (k.getD s.1 0 = k.getD t.2 0 ∧ k.getD s.2 0 = k.getD t.1 0) := by omega
    rcases key with ⟨q1, q2⟩ | ⟨q1, q2⟩
    · exact ne (Prod.ext (i1 q1) (i2 q2))
    · have := i3 q1
      have := i4 q2
      omega
  · intro t ht
    obtain ⟨s, hs, rfl⟩ := List.mem_map.mp ht
    have h1 := h s hs
    have l1 := lt s.1 (by omega)
    have l2 := lt s.2 (by omega)
    have ne : k.getD s.1 0 ≠ k.getD s.2 0 := fun z => by
      have := inj s.1 s.2 (by omega) (by omega) z
      omega
    show min (k.getD s.1 0) (k.getD s.2 0) < max (k.getD s.1 0) (k.getD s.2 0) ∧ max (k.getD s.1 0) (k.getD s.2 0) < n
    omega
end Wf
set_option maxRecDepth 100000
set_option maxHeartbeats 4000000
/-! W37: renamed, sided, some web. -/
namespace Wf
open PySem
def RenOk (T : Tab) (j : Nat) : Prop := ∀ (σ : Sg) (R : Store) (n : Nat) (E : Ties), SgOk σ → n ≤ 30 → (∀ t ∈ E, t.1 < t.2 ∧ t.2 < n) → E.Nodup → E.length ≤ 900 → wS (T.st j [.r 1, .d (.int n), .d (tiesD E)]) (Sx σ R) (StQ R fun v => ∃ k : List Nat, k.Perm (List.range n) ∧ v = .d (tiesD (sortT (renL k E))))
theorem getD_at {k : List Nat} {i : Nat} (h : i < k.length) : L2.atI ((k.map natD).map Val.d) (i : Int) = some (.d (.int ((k.getD i 0 : Nat) : Int))) := by
  rw [atI_get (by simpa using h)]
  simp [natD, List.getD_eq_getElem?_getD, List.getElem?_eq_getElem h]
theorem min_cast (a b : Nat) : (if (b : Int) < a then (b : Int) else a) = ((min a b : Nat) : Int) := by
  split <;> omega
theorem max_cast (a b : Nat) : (if (b : Int) > a then (b : Int) else a) = ((max a b : Nat) : Int) := by
  split <;> omega
theorem renOk_of {T T0 : Tab} {j jm : Nat} (hm : MixedOk T0 jm) (h : ∀ vs, T.st j vs = runS T0 (renD jm) vs) : RenOk T j := fun σ R n E ok hn hE nd hl => by
  rw [h]
  refine runS_of rfl ?_
  have e : startW (renD jm) [.r 1, .d (.int n), .d (tiesD E)] = [some (.r 1), some (.d (.int n)), some (.d (tiesD E)), none, none, none] := rfl
  rw [e]
  have fin : ∀ (σ' : Sg) (k : List Nat), SgOk σ' → k.Perm (List.range n) → rsQ (renD jm) (Sx σ R).length (StQ R fun v => ∃ k : List Nat, k.Perm (List.range n) ∧ v = .d (tiesD (sortT (renL k E)))) (.rt (.d (tiesD (sortT (renL k E))))) (Sx σ' R) := fun σ' k ok' hk => rs_data rfl (by simp [Sx]) ok' ⟨k, hk, rfl⟩
  generalize rsQ (renD jm) (Sx σ R).length (StQ R fun v => ∃ k : List Nat, k.Perm (List.range n) ∧ v = .d (tiesD (sortT (renL k E)))) = Q at fin ⊢
  have big : 1000 ≤ sizeLine := by decide
  refine seq (fun ρ S => ∃ (σ' : Sg) (k : List Nat), SgOk σ' ∧ k.Perm (List.range n) ∧ ρ = [some (.r 1), some (.d (.int n)), some (.d (tiesD E)), some (.d (.list (k.map natD))), none, none] ∧ S = Sx σ' R) ?_ ?_
  · simp [small_nat (show n < 1000 by omega), show small62 0 = true by decide]
    refine ⟨by omega, ?_⟩
    rw [rangeD0]
    refine wS_st (hm σ R _ ok (by simp; omega)) ?_
    rintro v σ' ok' ⟨ds, hp, rfl⟩
    obtain ⟨k, hk, rfl⟩ := perm_nat hp
    exact ⟨σ', ok', k, hk, rfl, rfl⟩
  · rintro _ _ ⟨σ', k, ok', hk, rfl, rfl⟩
    have kl : k.length = n := by rw [hk.length_eq, List.length_range]
    simp [tiesD]
    refine (wS_lcm (emb := Val.d ∘ tieD) (fun t => tieD (tieOf (k.getD t.1 0) (k.getD t.2 0))) fun t ht => ?_).mpr ?_
    · have h1 := hE t ht
      have g1 := getD_at (k := k) (i := t.1) (by omega)
      have g2 := getD_at (k := k) (i := t.2) (by omega)
      simp [bindT, setAll, wipeW, tieD, -List.map_map, g1, g2, two_le]
      unfold tieOf
      constructor
      · split <;> omega
      · split <;> omega
    · have e2 : (E.map fun t => tieD (tieOf (k.getD t.1 0) (k.getD t.2 0))) = (renL k E).map tieD := by simp [renL]
      have l1 : (renL k E).length = E.length := by simp [renL]
      have l2 : (sortT (renL k E)).length = E.length := by rw [(sortT_perm _).length_eq, l1]
      rw [e2]
      have l3 : E.length ≤ sizeLine := by omega
      simp [-List.map_map, and_assoc, l1, l2, l3]
      exact fin σ' k ok' hk
/-- sided webs -/
def sidL (m k : Nat) : Ties := (List.range m).flatMap fun a => (List.range k).map fun b => (a, m + b)
def sidB (jp jd jr : Nat) : List CS := [
  .set 3 (.lst false []),
  .set 4 (.calls jp [.var 0, .lst false [.int 2, .int 3, .int 1]]),
  .forr [5] false (.rng (.int 0) (.var 1)) [.set 3 (.bin .Add (.var 3) (.comp false [6] [6] false (.rng (.int 0) (.var 2)) (.cmp .Lt (.calls jd [.var 0, .bin .Add (.var 4) (.int 1)]) (.var 4)) (.tup [.var 5, .bin .Add (.var 1) (.var 6)])))],
  .ret (.calls jr [.var 0, .bin .Add (.var 1) (.var 2), .bi .tuple [.var 3]])]
def sidD (jp jd jr : Nat) : Def := ⟨3, 7, false, false, sidB jp jd jr⟩
def WebV (n : Nat) (v : Val) : Prop := ∃ E, Web n E ∧ v = .d (tiesD E)
def SidOk (T : Tab) (j : Nat) : Prop := ∀ (σ : Sg) (R : Store) (m k : Nat), SgOk σ → m + k ≤ 30 → wS (T.st j [.r 1, .d (.int m), .d (.int k)]) (Sx σ R) (StQ R (WebV (m + k)))
theorem len_sid (k m : Nat) : ∀ c : Nat, ((List.range c).flatMap fun a => (List.range k).map fun b => (a, m + b)).length = c * k
  | 0 => by simp
  | c + 1 => by
    rw [List.range_succ, List.flatMap_append, List.length_append, len_sid k m c, Nat.succ_mul]
    simp
theorem sid_rng {m k : Nat} {t : Nat × Nat} (h : t ∈ sidL m k) : t.1 < m ∧ m ≤ t.2 ∧ t.2 < m + k := by
  unfold sidL at h
  obtain ⟨a, ha, h⟩ := List.mem_flatMap.mp h
  obtain ⟨b, hb, rfl⟩ := List.mem_map.mp h
  rw [List.mem_range] at ha hb
  exact ⟨ha, by show m ≤ m + b; omega, by show m + b < m + k; omega⟩
theorem sid_nodup (m k : Nat) : (sidL m k).Nodup := by
  unfold sidL
  rw [List.flatMap_def]
  refine List.pairwise_flatten.mpr ⟨fun l hl => ?_, ?_⟩
  · obtain ⟨a, _, rfl⟩ := List.mem_map.mp hl
    refine List.pairwise_map.mpr (List.Pairwise.imp ?_ List.pairwise_lt_range)
    intro i j hij z
    have := congrArg Prod.snd z
    simp only at this
    omega
  · refine List.pairwise_map.mpr (List.Pairwise.imp ?_ List.pairwise_lt_range)
    intro i j hij x hx y hy z
    obtain ⟨_, _, rfl⟩ := List.mem_map.mp hx
    obtain ⟨_, _, rfl⟩ := List.mem_map.mp hy
    have := congrArg Prod.fst z
    simp only at this
    omega
theorem sidOk_of {T T0 : Tab} {j jp jd jr : Nat} (hp : PickOk T0 jp) (hd : DrawOk T0 jd) (hr : RenOk T0 jr) (h : ∀ vs, T.st j vs = runS T0 (sidD jp jd jr) vs) : SidOk T j := fun σ R m k ok hmk => by
  rw [h]
  refine runS_of rfl ?_
  have e : startW (sidD jp jd jr) [.r 1, .d (.int m), .d (.int k)] = [some (.r 1), some (.d (.int m)), some (.d (.int k)), none, none, none, none] := rfl
  rw [e]
  have fin : ∀ (σ' : Sg) (E : Ties), SgOk σ' → Web (m + k) E → rsQ (sidD jp jd jr) (Sx σ R).length (StQ R (WebV (m + k))) (.rt (.d (tiesD E))) (Sx σ' R) := fun σ' E ok' hw => rs_data rfl (by simp [Sx]) ok' ⟨E, hw, rfl⟩
  generalize rsQ (sidD jp jd jr) (Sx σ R).length (StQ R (WebV (m + k))) = Q at fin ⊢
  have big : 1000 ≤ sizeLine := by decide
  refine seq (fun ρ S => ρ = [some (.r 1), some (.d (.int m)), some (.d (.int k)), some (.d (.list [])), none, none, none] ∧ S = Sx σ R) (by simp) ?_
  rintro _ _ ⟨rfl, rfl⟩
  refine seq (fun ρ S => ∃ (σ' : Sg) (s : Int), SgOk σ' ∧ 0 < s ∧ s < 10 ∧ ρ = [some (.r 1), some (.d (.int m)), some (.d (.int k)), some (.d (.list [])), some (.d (.int s)), none, none] ∧ S = Sx σ' R) ?_ ?_
  · simp [show 3 ≤ sizeLine by decide]
    refine wS_st (hp σ R [.int 2, .int 3, .int 1] ok (by simp) (by decide)) ?_
    rintro v σ' ok' ⟨d, hd, rfl⟩
    refine ⟨σ', ok', ?_⟩
    simp at hd
    rcases hd with rfl | rfl | rfl
    · exact ⟨2, by decide, by decide, rfl, rfl⟩
    · exact ⟨3, by decide, by decide, rfl, rfl⟩
    · exact ⟨1, by decide, by decide, rfl, rfl⟩
  rintro _ _ ⟨σ1, s, ok1, s0, s1, rfl, rfl⟩
  refine seq (fun ρ S => ∃ (σ' : Sg) (E : Ties), SgOk σ' ∧ E.Sublist (sidL m k) ∧ ρ = [some (.r 1), some (.d (.int m)), some (.d (.int k)), some (.d (.list (E.map tieD))), some (.d (.int s)), none, none] ∧ S = Sx σ' R) ?_ ?_
  · simp [small_nat (show m < 1000 by omega), show small62 0 = true by decide]
    refine wS_forN (fun c ρ S => ∃ (σ' : Sg) (E : Ties), SgOk σ' ∧ E.Sublist ((List.range c).flatMap fun a => (List.range k).map fun b => (a, m + b)) ∧ ρ = [some (.r 1), some (.d (.int m)), some (.d (.int k)), some (.d (.list (E.map tieD))), some (.d (.int s)), none, none] ∧ S = Sx σ' R) ⟨σ1, [], ok1, List.Sublist.refl _, rfl, rfl⟩ ?_ ?_
    · rintro c _ _ hc ⟨σ', E, ok', hE, rfl, rfl⟩
      simp [bindT, small_nat (show k < 1000 by omega), wipeW, show small62 0 = true by decide]
      rw [rangeV0]
      refine wS_lcs (fun i => tieD (c, m + i)) ok' (fun i hi σ2 ok2 => ?_) fun L' σ2 ok2 hs => ?_
      · simp [bindT, setAll, wipeW]
        refine wS_st (hd σ2 R (s + 1) ok2 (by omega) (by omega)) ?_
        rintro v σ3 ok3 ⟨z, z0, z1, rfl⟩
        by_cases hz : z < s
        · simp [hz, tieD, two_le]
          exact ⟨_, ok3, rfl⟩
        · simp [hz]
          exact ⟨_, ok3, rfl⟩
      · simp [mask, -List.map_map, and_assoc]
        have h1 := hE.length_le
        rw [len_sid] at h1
        have h2 : c * k ≤ 30 * 30 := Nat.mul_le_mul (by omega) (by omega)
        have h3 := hs.length_le
        simp at h3
        refine ⟨by omega, by omega, σ2, ok2, E ++ L'.map fun i => (c, m + i), ?_, ?_, rfl⟩
        · rw [List.range_succ, List.flatMap_append]
          refine List.Sublist.append hE ?_
          simp only [List.flatMap_cons, List.flatMap_nil, List.append_nil]
          exact hs.map _
        · simp
    · rintro _ _ ⟨σ', E, ok', hE, rfl, rfl⟩
      exact ⟨σ', ok', E, hE, rfl, rfl⟩
  · rintro _ _ ⟨σ', E, ok', hE, rfl, rfl⟩
    have l1 := hE.length_le
    have l2 : (sidL m k).length = m * k := len_sid k m m
    have l3 : m * k ≤ 30 * 30 := Nat.mul_le_mul (by omega) (by omega)
    have rg : ∀ t ∈ E, t.1 < t.2 ∧ t.2 < m + k := fun t ht => by
      have := sid_rng (hE.subset ht)
      omega
    have nd : E.Nodup := (sid_nodup m k).sublist hE
    simp
    have := hr σ' R (m + k) E ok' hmk rg nd (by omega)
    rw [Int.natCast_add] at this
    refine wS_st this ?_
    rintro v σ2 ok2 ⟨q, hq, rfl⟩
    exact fin σ2 _ ok2 (ren_web hq rg nd)
end Wf
set_option maxRecDepth 100000
set_option maxHeartbeats 4000000
/-! W38: some web. -/
namespace Wf
open PySem
theorem web_sorted {n : Nat} {E : Ties} (hs : E.Pairwise fun a b => lexLe a b = true ∧ a ≠ b) (hr : ∀ t ∈ E, t.1 < t.2 ∧ t.2 < n) : Web n E := by
  have h := web_of (hs.imp fun h => h.2) hr
  have e : sortT E = E := sorted_eq (sortT_sorted E) (hs.imp fun h => h.1) (sortT_perm E)
  rwa [e] at h
theorem web_nil (n : Nat) : Web n [] := List.nil_sublist _
theorem web_path (n : Nat) : Web n (pathL n) := by
  refine web_sorted ?_ fun t ht => ?_
  · unfold pathL
    rw [List.pairwise_map]
    refine List.Pairwise.imp ?_ List.pairwise_lt_range
    intro i j hij
    unfold lexLe
    simp
    omega
  · obtain ⟨i, hi, rfl⟩ := List.mem_map.mp ht
    rw [List.mem_range] at hi
    exact ⟨by show i < i + 1; omega, by show i + 1 < n; omega⟩
theorem web_star (n : Nat) : Web n (starL n) := by
  refine web_sorted ?_ fun t ht => (mem_rowA.mp ht).2
  unfold starL rowA
  rw [List.pairwise_map]
  refine List.Pairwise.imp ?_ List.pairwise_lt_range
  intro i j hij
  unfold lexLe
  simp
  omega
theorem web_whole (n : Nat) : Web n (wholeL n) := List.Sublist.refl _
theorem web_ring {n : Nat} (hn : 2 < n) : Web n (ringL n) := by
  refine web_of ?_ fun t ht => ?_
  · refine List.nodup_append.mpr ⟨?_, by simp, ?_⟩
    · unfold pathL
      refine List.pairwise_map.mpr (List.Pairwise.imp ?_ List.pairwise_lt_range)
      intro i j hij z
      have := congrArg Prod.fst z
      simp only at this
      omega
    · intro a ha b hb z
      subst z
      obtain ⟨i, hi, rfl⟩ := List.mem_map.mp ha
      have hb := List.mem_singleton.mp hb
      have h1 := congrArg Prod.fst hb
      have h2 := congrArg Prod.snd hb
      simp only at h1 h2
      omega
  · rcases List.mem_append.mp ht with h | h
    · exact (web_path n).rng t h
    · rw [List.mem_singleton.mp h]
      exact ⟨by show 0 < n - 1; omega, by show n - 1 < n; omega⟩
def someB (jd jpa jst jwh jri jp jw jm : Nat) : List CS := [
  .set 2 (.bin .Add (.int 1) (.calls jd [.var 0, .var 1])),
  .set 3 (.lst false [.callp jpa [.var 2], .callp jst [.var 2], .callp jwh [.var 2], .ife (.cmp .Gt (.var 2) (.int 2)) (.callp jri [.var 2]) (.tup [])]),
  .ret (.tup [.var 2, .calls jp [.var 0, .bin .Add (.lst false [.calls jw [.var 0, .var 2, .int 2], .calls jw [.var 0, .var 2, .int 3], .calls jm [.var 0, .var 2], .calls jw [.var 0, .var 2, .int 4]]) (.lst false [.calls jp [.var 0, .var 3]])]])]
def someD (jd jpa jst jwh jri jp jw jm : Nat) : Def := ⟨2, 4, false, false, someB jd jpa jst jwh jri jp jw jm⟩
def SomeOk (T : Tab) (j : Nat) : Prop := ∀ (σ : Sg) (R : Store) (most : Nat), SgOk σ → 0 < most → most ≤ 30 → wS (T.st j [.r 1, .d (.int most)]) (Sx σ R) (StQ R fun v => ∃ n E, 0 < n ∧ n ≤ most ∧ Web n E ∧ v = .d (.tuple [.int n, tiesD E]))
/-- the named webs -/
structure NamedOk (T : Tab) (jpa jst jwh jri : Nat) : Prop where
  path : ∀ n : Nat, 0 < n → n ≤ 30 → T.pure jpa [.d (.int n)] = some (tiesD (pathL n))
  star : ∀ n : Nat, n ≤ 30 → T.pure jst [.d (.int n)] = some (tiesD (starL n))
  whole : ∀ n : Nat, n ≤ 30 → T.pure jwh [.d (.int n)] = some (tiesD (wholeL n))
  ring : ∀ n : Nat, 0 < n → n ≤ 30 → T.pure jri [.d (.int n)] = some (tiesD (ringL n))
theorem someOk_of {T T0 : Tab} {j jd jpa jst jwh jri jp jw jm : Nat} (hd : DrawOk T0 jd) (hn : NamedOk T0 jpa jst jwh jri) (hp : PickOk T0 jp) (hw : WebOk T0 jw) (hm : MwebOk T0 jm) (h : ∀ vs, T.st j vs = runS T0 (someD jd jpa jst jwh jri jp jw jm) vs) : SomeOk T j := fun σ R most ok h0 h30 => by
  rw [h]
  refine runS_of rfl ?_
  have e : startW (someD jd jpa jst jwh jri jp jw jm) [.r 1, .d (.int most)] = [some (.r 1), some (.d (.int most)), none, none] := rfl
  rw [e]
  have fin : ∀ (σ' : Sg) (n : Nat) (E : Ties), SgOk σ' → 0 < n → n ≤ most → Web n E → rsQ (someD jd jpa jst jwh jri jp jw jm) (Sx σ R).length (StQ R fun v => ∃ n E, 0 < n ∧ n ≤ most ∧ Web n E ∧ v = .d (.tuple [.int n, tiesD E])) (.rt (.d (.tuple [.int n, tiesD E]))) (Sx σ' R) := fun σ' n E ok' a b hw => rs_data rfl (by simp [Sx]) ok' ⟨n, E, a, b, hw, rfl⟩
  generalize rsQ (someD jd jpa jst jwh jri jp jw jm) (Sx σ R).length (StQ R fun v => ∃ n E, 0 < n ∧ n ≤ most ∧ Web n E ∧ v = .d (.tuple [.int n, tiesD E])) = Q at fin ⊢
  have big : 1000 ≤ sizeLine := by decide
  refine seq (fun ρ S => ∃ (σ' : Sg) (n : Nat), SgOk σ' ∧ 0 < n ∧ n ≤ most ∧ ρ = [some (.r 1), some (.d (.int most)), some (.d (.int n)), none] ∧ S = Sx σ' R) ?_ ?_
  · simp
    refine wS_st (hd σ R most ok (by omega) (by omega)) ?_
    rintro v σ' ok' ⟨i, i0, i1, rfl⟩
    simp
    exact ⟨σ', ok', (1 + i).toNat, by omega, by omega, by omega, rfl⟩
  rintro _ _ ⟨σ1, n, ok1, n0, n1, rfl, rfl⟩
  refine seq (fun ρ S => ∃ Es : List Ties, Es ≠ [] ∧ Es.length < 10 ∧ (∀ E ∈ Es, Web n E) ∧ ρ = [some (.r 1), some (.d (.int most)), some (.d (.int n)), some (.d (.list (Es.map tiesD)))] ∧ S = Sx σ1 R) ?_ ?_
  · by_cases h2 : 2 < n
    · have h2' : (2 : Int) < n := by omega
      simp [hn.path n n0 (by omega), hn.star n (by omega), hn.whole n (by omega), hn.ring n n0 (by omega), h2, h2', show 4 ≤ sizeLine by decide]
      refine ⟨[pathL n, starL n, wholeL n, ringL n], by simp, by simp, ?_, rfl⟩
      simp [web_path, web_star, web_whole, web_ring h2]
    · have h2' : ¬ (2 : Int) < n := by omega
      simp [hn.path n n0 (by omega), hn.star n (by omega), hn.whole n (by omega), h2, h2', show 4 ≤ sizeLine by decide]
      refine ⟨[pathL n, starL n, wholeL n, []], by simp, by simp, ?_, rfl⟩
      simp [web_path, web_star, web_whole, web_nil]
  rintro _ _ ⟨Es, ne, le, hE, rfl, rfl⟩
  simp
  refine wS_st (hw σ1 R n 2 ok1 (by omega) (by omega) (by omega)) ?_
  rintro v σ2 ok2 ⟨E1, hE1, rfl⟩
  refine wS_st (hw σ2 R n 3 ok2 (by omega) (by omega) (by omega)) ?_
  rintro v σ3 ok3 ⟨E2, hE2, rfl⟩
  refine wS_st (hm σ3 R n ok3 (by omega)) ?_
  rintro v σ4 ok4 ⟨E3, hE3, rfl⟩
  refine wS_st (hw σ4 R n 4 ok4 (by omega) (by omega) (by omega)) ?_
  rintro v σ5 ok5 ⟨E4, hE4, rfl⟩
  simp [show 4 ≤ sizeLine by decide]
  refine wS_st (hp σ5 R (Es.map tiesD) ok5 (by simpa using ne) (by simp; omega)) ?_
  rintro v σ6 ok6 ⟨d, hd6, rfl⟩
  obtain ⟨E5, hE5, rfl⟩ := List.mem_map.mp hd6
  simp [show 5 ≤ sizeLine by decide, show 1 ≤ sizeLine by decide]
  refine wS_st (hp σ6 R ([E1, E2, E3, E4, E5].map tiesD) ok6 (by simp) (by simp)) ?_
  rintro v σ7 ok7 ⟨d, hd7, rfl⟩
  obtain ⟨E, hE7, rfl⟩ := List.mem_map.mp hd7
  simp [two_le]
  refine fin σ7 n E ok7 n0 n1 ?_
  simp at hE7
  rcases hE7 with rfl | rfl | rfl | rfl | rfl
  · exact hE1
  · exact hE2
  · exact hE3
  · exact hE4
  · exact hE _ hE5
end Wf
set_option maxRecDepth 100000
set_option maxHeartbeats 4000000
/-! W39: beside, tied, rows. -/
namespace Wf
open PySem
/-- the others of the ties at p, sorted -/
def besideL (E : Ties) (p : Nat) : List Nat := ((E.filter fun t => decide (p = t.1) || decide (p = t.2)).map fun t => t.1 + t.2 - p).mergeSort fun a b => decide (a ≤ b)
def besB : List CS := [
  .ret (.bi .tuple [.bi .sorted [.comp false [2, 3] [2, 3] true (.it (.var 0)) (.cmp .In (.var 1) (.tup [.var 2, .var 3])) (.bin .Sub (.bin .Add (.var 2) (.var 3)) (.var 1))]])]
def besD : Def := ⟨2, 4, true, false, besB⟩
def rowD (k : List Nat) : PyData := .tuple (k.map natD)
theorem sortI_nat (k : List Nat) : sortI (k.map fun (i : Nat) => (i : Int)) = (k.mergeSort fun a b => decide (a ≤ b)).map fun (i : Nat) => (i : Int) := by
  unfold sortI
  refine mergeSort_map _ _ _ (fun a b => ?_) k
  by_cases h : a ≤ b <;> simp [h]
@[simp] theorem sortOk_nat (k : List Nat) : sortOk (k.map natD) = true := by
  have := sortOk_ints (k.map fun (i : Nat) => (i : Int))
  rw [List.map_map] at this
  exact this
@[simp] theorem sortD_nat (k : List Nat) : sortD (k.map natD) = (k.mergeSort fun a b => decide (a ≤ b)).map natD := by
  have := sortD_ints (k.map fun (i : Nat) => (i : Int))
  rw [List.map_map, sortI_nat, List.map_map] at this
  exact this
theorem bes_ok (T : Tab) {E : Ties} {p : Nat} (hl : E.length ≤ 900) : runP T besD [.d (tiesD E), .d (.int p)] = some (rowD (besideL E p)) := by
  refine runP_of rfl ?_
  have big : 1000 ≤ sizeLine := by decide
  simp [besD, besB, startW, tiesD]
  refine (wS_lcf (emb := Val.d ∘ tieD) (fun t => decide (p = t.1) || decide (p = t.2)) (fun t => natD (t.1 + t.2 - p)) fun t ht => ?_).mpr ?_
  · simp [bindT, tieD, setAll, wipeW, two_le]
    by_cases h1 : p = t.1
    · have h2 : ((p : Nat) : Int) = t.1 := by omega
      simp [h1, natD]
      try omega
    · by_cases h3 : p = t.2
      · simp [h3, natD]
      · have h4 : ¬ t.1 = p := fun z => h1 z.symm
        have h5 : ¬ t.2 = p := fun z => h3 z.symm
        have h6 : ¬ ((t.1 : Nat) : Int) = p := by omega
        have h7 : ¬ ((t.2 : Nat) : Int) = p := by omega
        simp [h1, h3, h6, h7]
  · have e : (List.map (fun t => natD (t.1 + t.2 - p)) (E.filter fun t => decide (p = t.1) || decide (p = t.2))) = ((E.filter fun t => decide (p = t.1) || decide (p = t.2)).map fun t => t.1 + t.2 - p).map natD := by simp
    have l := List.length_filter_le (fun t : Nat × Nat => decide (p = t.1) || decide (p = t.2)) E
    rw [e]
    simp [-List.map_map, and_assoc]
    exact ⟨by omega, rfl⟩
end Wf
set_option maxRecDepth 100000
set_option maxHeartbeats 4000000
/-! W40: tied, rows, names. -/
namespace Wf
open PySem
def tiedB : List CS := [.ret (.cmp .In (.tup [.bi .min [.var 1, .var 2], .bi .max [.var 1, .var 2]]) (.var 0))]
def tiedD : Def := ⟨3, 3, true, false, tiedB⟩
theorem anyEqv_tie (a b : Int) (E : Ties) : anyEqv (.tuple [.int a, .int b]) (E.map tieD) = E.any fun t => decide ((t.1 : Int) = a) && decide ((t.2 : Int) = b) := by
  unfold anyEqv
  rw [List.any_map]
  congr 1
  funext t
  simp [tieD]
theorem tied_ok (T : Tab) {E : Ties} {a b : Int} : runP T tiedD [.d (tiesD E), .d (.int a), .d (.int b)] = some (.bool (E.any fun t => decide ((t.1 : Int) = min a b) && decide ((t.2 : Int) = max a b))) := by
  refine runP_of rfl ?_
  have h : (E.map tieD).all (lv 39) = true := by simp [tieD]
  simp [tiedD, tiedB, startW, tiesD, two_le, -List.all_map, h, anyEqv_tie]
  have e1 : (if b < a then b else a) = min a b := by split <;> omega
  have e2 : (if a < b then b else a) = max a b := by split <;> omega
  rw [e1, e2]
/-- rows: is_row, _law_row -/
def isRowB : List CS := [.ret (.and (.bi (.isinst "tuple") [.var 0]) (.bi .all [.comp false [1] [1] false (.it (.var 0)) (.bl true) (.bi (.isinst "int") [.var 1])]))]
def isRowD : Def := ⟨1, 2, true, false, isRowB⟩
def isI (d : PyData) : Bool := isInst d "int"
def rowP (d : PyData) : Bool := match d with
  | .tuple ds => ds.all isI
  | _ => false
theorem boolsOf_map {α : Type} (f : α → Bool) : ∀ l : List α, boolsOf (l.map fun a => .bool (f a)) = some (l.map f)
  | [] => rfl
  | a :: r => by
    show (boolsOf (r.map fun a => PyData.bool (f a))).map (f a :: ·) = _
    rw [boolsOf_map f r] <;> rfl
@[simp] theorem bi_all_m {S : Store} {α : Type} (f : α → Bool) (l : List α) : biop .all [.d (.list (l.map fun a => .bool (f a)))] S = some (.d (.bool (l.all f))) := by
  show ((rdL S (.d (.list (l.map fun a => PyData.bool (f a))))).bind datsOf).bind _ = _
  have e : (rdL S (.d (.list (l.map fun a => PyData.bool (f a))))).bind datsOf = some (l.map fun a => PyData.bool (f a)) := datsOf_map _
  rw [e]
  show (boolsOf _).map _ = _
  rw [boolsOf_map]
  show some (Val.d (.bool ((l.map f).all id))) = _
  rw [List.all_map]
  rfl
def smallT (d : PyData) : Prop := match d with
  | .tuple ds => ds.length ≤ 1000
  | _ => True
theorem isRow_ok (T : Tab) {d : PyData} (h : smallT d) : runP T isRowD [.d d] = some (.bool (rowP d)) := by
  refine runP_of rfl ?_
  have big : 1000 ≤ sizeLine := by decide
  cases d with
  | tuple ds =>
    have h : ds.length ≤ 1000 := h
    have e : isInst (.tuple ds) "tuple" = true := by rfl
    simp [isRowD, isRowB, startW, e]
    refine (wS_lcm (emb := Val.d) (fun d => .bool (isI d)) fun t ht => ?_).mpr ?_
    · simp [bindT, setAll, wipeW, isI]
    · simp [-List.map_map, rowP]
      omega
  | none => simp [isRowD, isRowB, startW, show isInst .none "tuple" = false by rfl, rowP]
  | bool b => simp [isRowD, isRowB, startW, show isInst (.bool b) "tuple" = false by rfl, rowP]
  | int b => simp [isRowD, isRowB, startW, show isInst (.int b) "tuple" = false by rfl, rowP]
  | str b => simp [isRowD, isRowB, startW, show isInst (.str b) "tuple" = false by rfl, rowP]
  | list b => simp [isRowD, isRowB, startW, show isInst (.list b) "tuple" = false by rfl, rowP]
  | dict b => simp [isRowD, isRowB, startW, show isInst (.dict b) "tuple" = false by rfl, rowP]
def lawRowB : List CS := [.ret (.and (.bi (.isinst "tuple") [.var 0]) (.cmp .Eq (.comp false [1] [1] false (.it (.var 0)) (.not (.bi (.isinst "int") [.var 1])) (.var 1)) (.lst false [])))]
def lawRowD : Def := ⟨1, 2, true, false, lawRowB⟩
theorem eqv_nil (xs : List PyData) : PyData.eqv (.list xs) (.list []) = xs.isEmpty := by cases xs <;> simp
theorem lv_up : ∀ {n : Nat} {d : PyData}, lv n d = true → lv (n + 1) d = true
  | n, .none, _ => by simp
  | n, .bool _, _ => by simp
  | n, .int _, _ => by simp
  | n, .str _, _ => by simp
  | 0, .list xs, h => by cases h
  | 0, .tuple xs, h => by cases h
  | n + 1, .list xs, h => List.all_eq_true.mpr fun x hx => lv_up (List.all_eq_true.mp (show xs.all (lv n) = true from h) x hx)
  | n + 1, .tuple xs, h => List.all_eq_true.mpr fun x hx => lv_up (List.all_eq_true.mp (show xs.all (lv n) = true from h) x hx)
  | 0, .dict _, h => by cases h
  | n + 1, .dict _, h => by cases h
theorem lawRow_ok (T : Tab) {d : PyData} (h : smallT d) (hv : lv 38 d = true) : runP T lawRowD [.d d] = some (.bool (rowP d)) := by
  refine runP_of rfl ?_
  have big : 1000 ≤ sizeLine := by decide
  cases d with
  | tuple ds =>
    have h : ds.length ≤ 1000 := h
    have e : isInst (.tuple ds) "tuple" = true := by rfl
    simp [lawRowD, lawRowB, startW, e]
    refine (wS_lcf (emb := Val.d) (fun d => !isI d) id fun t ht => ?_).mpr ?_
    · simp [bindT, setAll, wipeW, isI]
    · have l := List.length_filter_le (fun d => !isI d) ds
      have hv2 : (ds.filter fun d => !isI d).all (lv 39) = true := List.all_eq_true.mpr fun x hx => lv_up (lv_up (List.all_eq_true.mp (show ds.all (lv 37) = true from hv) x (List.mem_filter.mp hx).1))
      simp [rowP, -List.all_filter, hv2, eqv_nil]
      refine ⟨by omega, fun x hx q => List.all_eq_true.mp hv2 x (List.mem_filter.mpr ⟨hx, by simp [q]⟩), ?_⟩
      by_cases q : ds.all isI = true
      · rw [q, List.filter_eq_nil_iff.mpr fun x hx => by simp [List.all_eq_true.mp q x hx]]
        rfl
      · rw [Bool.eq_false_iff.mpr q]
        cases hf : ds.filter fun d => !isI d with
        | nil => exact absurd (List.all_eq_true.mpr fun x hx => by simpa using List.filter_eq_nil_iff.mp hf x hx) q
        | cons y r => rfl
  | none => simp [lawRowD, lawRowB, startW, show isInst .none "tuple" = false by rfl, rowP]
  | bool b => simp [lawRowD, lawRowB, startW, show isInst (.bool b) "tuple" = false by rfl, rowP]
  | int b => simp [lawRowD, lawRowB, startW, show isInst (.int b) "tuple" = false by rfl, rowP]
  | str b => simp [lawRowD, lawRowB, startW, show isInst (.str b) "tuple" = false by rfl, rowP]
  | list b => simp [lawRowD, lawRowB, startW, show isInst (.list b) "tuple" = false by rfl, rowP]
  | dict b => simp [lawRowD, lawRowB, startW, show isInst (.dict b) "tuple" = false by rfl, rowP]
end Wf
set_option maxRecDepth 100000
set_option maxHeartbeats 4000000
/-! W41: named papers. -/
namespace Wf
open PySem
def namedB (jr : Nat) : List CS := [.ret (.and (.cmp .Eq (.bi .len [.var 0]) (.int 2)) (.and (.cmp .Eq (.idx (.var 0) (.int 0)) (.var 1)) (.callp jr [.idx (.var 0) (.int 1)])))]
def namedD (jr : Nat) : Def := ⟨2, 2, true, false, namedB jr⟩
def namedP (ps : List PyData) (x : Str) : Bool := match ps with
  | [a, b] => PyData.eqv a (.str x) && rowP b
  | _ => false
def RowOk (T : Tab) (j : Nat) : Prop := ∀ d : PyData, smallT d → lv 38 d = true → T.pure j [.d d] = some (.bool (rowP d))
theorem named_ok {T : Tab} {jr : Nat} (hr : RowOk T jr) {ps : List PyData} {x : Str} (h : ∀ d ∈ ps, smallT d ∧ lv 38 d = true) : runP T (namedD jr) [.d (.tuple ps), .d (.str x)] = some (.bool (namedP ps x)) := by
  refine runP_of rfl ?_
  have no : ∀ n : Int, (n = 2 → False) → decide (n = 2) = false := fun n q => decide_eq_false q
  match ps, h with
  | [], _ => simp [namedD, namedB, startW, namedP]
  | [a], _ => simp [namedD, namedB, startW, namedP]
  | [a, b], h =>
    have ha := lv_up (lv_up (h a (by simp)).2)
    have hb := h b (by simp)
    by_cases q : PyData.eqv a (.str x) = true
    · simp [namedD, namedB, startW, namedP, ha, q, hr b hb.1 hb.2]
    · simp [namedD, namedB, startW, namedP, ha, q]
  | a :: b :: c :: r, _ =>
    have q : ¬ ((r.length : Int) + 1 + 1 + 1 = 2) := by omega
    simp [namedD, namedB, startW, namedP, q]
end Wf
set_option maxRecDepth 100000
set_option maxHeartbeats 4000000
/-! W42: the math of walks and colours. -/
namespace Wf
/-- two places are tied -/
def Adj (E : Ties) (a b : Nat) : Prop := (a, b) ∈ E ∨ (b, a) ∈ E
/-- a walk from a to b of parity c (false: even) -/
inductive Par (E : Ties) : Nat → Nat → Bool → Prop
  | nil (a : Nat) : Par E a a false
  | step {a b d : Nat} {c : Bool} : Par E a b c → Adj E b d → Par E a d (!c)
theorem Adj.symm {E : Ties} {a b : Nat} (h : Adj E a b) : Adj E b a := Or.comm.mp h
theorem Par.trans {E : Ties} {a b d : Nat} {c e : Bool} (h : Par E a b c) (k : Par E b d e) : Par E a d (c != e) := by
  induction k with
  | nil => simpa using h
  | step k adj ih => 
    have := Par.step ih adj
    rename_i x y z
    cases c <;> cases z <;> simpa using this
theorem Par.one {E : Ties} {a b : Nat} (h : Adj E a b) : Par E a b true := Par.step (Par.nil a) h
theorem Par.symm {E : Ties} {a b : Nat} {c : Bool} (h : Par E a b c) : Par E b a c := by
  induction h with
  | nil => exact Par.nil _
  | step k adj ih =>
    rename_i x y z
    have := (Par.one adj.symm).trans ih
    cases z <;> simpa using this
/-- a colouring: tied places differ -/
def Proper (E : Ties) (f : Nat → Bool) : Prop := ∀ t ∈ E, f t.1 ≠ f t.2
theorem Proper.adj {E : Ties} {f : Nat → Bool} (h : Proper E f) {a b : Nat} (k : Adj E a b) : f b = !f a := by
  rcases k with k | k
  · have := h _ k
    simp only at this
    revert this
    cases f a <;> cases f b <;> simp
  · have := h _ k
    simp only at this
    revert this
    cases f a <;> cases f b <;> simp
theorem Proper.par {E : Ties} {f : Nat → Bool} (h : Proper E f) {a b : Nat} {c : Bool} (k : Par E a b c) : f b = (f a != c) := by
  induction k with
  | nil => simp
  | step k adj ih =>
    rw [h.adj adj, ih]
    rename_i x y z
    cases f a <;> cases z <;> rfl
end Wf
set_option maxRecDepth 100000
set_option maxHeartbeats 4000000
/-! W43: the way up. -/
namespace Wf
open PySem
def optD : Option Nat → PyData
  | none => .none
  | some i => .int (i : Int)
/-- the way up from v: n steps at most -/
def wayL (ab : List (Option Nat)) : Nat → Nat → List Nat
  | 0, v => [v]
  | n + 1, v => match ab.getD v none with
    | none => [v]
    | some u => v :: wayL ab n u
def wayB : List CS := [
  .set 2 (.lst true [.var 1]),
  .whl (.cmp .IsNot (.idx (.var 0) (.idx (.var 2) (.neg (.int 1)))) (.non)) [.ex (.mt .append (.var 2) [.idx (.var 0) (.idx (.var 2) (.neg (.int 1)))])],
  .ret (.var 2)]
def wayD : Def := ⟨2, 3, true, false, wayB⟩
theorem atI_last {α : Type} {xs : List α} {x : α} : L2.atI (xs ++ [x]) (-1) = some x := by
  unfold L2.atI L2.ixN
  have h : (xs ++ [x]).length = xs.length + 1 := by simp
  rw [h, if_neg (by decide), if_pos (by omega)]
  have : ((-1 : Int) + ((xs.length + 1 : Nat) : Int)).toNat = xs.length := by omega
  show (xs ++ [x])[((-1 : Int) + ((xs.length + 1 : Nat) : Int)).toNat]? = _
  rw [this]
  simp
theorem way_ok (T : Tab) {ab : List (Option Nat)} {rk : Nat → Nat} (hr : ∀ v u, ab.getD v none = some u → rk u < rk v ∧ u < ab.length) {v : Nat} (hv : v < ab.length) (hk : rk v ≤ 900) : runP T wayD [.d (.list (ab.map optD)), .d (.int v)] = some (.list ((wayL ab (rk v) v).map natD)) := by
  refine runP_of rfl ?_
  have big : 1000 ≤ sizeLine := by decide
  have e : startW wayD [.d (.list (ab.map optD)), .d (.int v)] = [some (.d (.list (ab.map optD))), some (.d (.int v)), none] := rfl
  rw [e]
  have fin : ∀ l : List Nat, l = wayL ab (rk v) v → rtQ (.list ((wayL ab (rk v) v).map natD)) (.rt (.r 0)) [.lst false ((l.map natD).map Val.d)] := fun l h => by
    subst h
    show (datsOf _).map PyData.list = _
    rw [datsOf_map] <;> rfl
  generalize rtQ (.list ((wayL ab (rk v) v).map natD)) = Q at fin ⊢
  refine seq (fun ρ S => ρ = [some (.d (.list (ab.map optD))), some (.d (.int v)), some (.r 0)] ∧ S = [.lst false [.d (.int v)]]) (by simp [show 1 ≤ sizeLine by decide]) ?_
  rintro _ _ ⟨rfl, rfl⟩
  refine seq (fun ρ S => ρ = [some (.d (.list (ab.map optD))), some (.d (.int v)), some (.r 0)] ∧ S = [.lst false (((wayL ab (rk v) v).map natD).map Val.d)]) ?_ ?_
  · refine ex_whl.mpr (wS_while (fun m ρ S => ρ = [some (.d (.list (ab.map optD))), some (.d (.int v)), some (.r 0)] ∧ ∃ (pre : List Nat) (x : Nat), x < ab.length ∧ rk x ≤ m ∧ pre.length + m ≤ 901 ∧ pre ++ wayL ab m x = wayL ab (rk v) v ∧ S = [.lst false (((pre ++ [x]).map natD).map Val.d)]) (m := rk v) ⟨rfl, [], v, hv, Nat.le_refl _, by simp; omega, rfl, rfl⟩ ?_)
    rintro m _ _ ⟨rfl, pre, x, hx, hm, hl, hw, rfl⟩
    have l1 : ([Cell.lst false (((pre ++ [x]).map natD).map Val.d)] : Store)[0]? = some (.lst false (((pre ++ [x]).map natD).map Val.d)) := rfl
    have r1 := rdL_of l1
    have a1 : L2.atI (((pre ++ [x]).map natD).map Val.d) (-1) = some (.d (natD x)) := by
      rw [List.map_append, List.map_append]
      exact atI_last
    have a2 : L2.atI ((ab.map optD).map Val.d) (x : Int) = some (.d (optD (ab.getD x none))) := by
      rw [atI_get (by simpa using hx)]
      simp [List.getD_eq_getElem?_getD, List.getElem?_eq_getElem hx]
    rw [wS_bind]
    cases q : ab.getD x none with
    | none =>
      rw [q] at a2
      have hw2 : pre ++ [x] = wayL ab (rk v) v := by
        rw [← hw]
        cases m with
        | zero => rfl
        | succ m =>
          show pre ++ [x] = pre ++ (match ab.getD x none with
            | none => [x]
            | some u => x :: wayL ab m u)
          rw [q]
      simp [wS_ask, r1, a1, a2, natD, -List.map_map, -List.map_append, optD, isNone]
      rw [hw2]
    | some u =>
      rw [q] at a2
      have hu := hr x u q
      obtain ⟨m, rfl⟩ : ∃ k, m = k + 1 := ⟨m - 1, by omega⟩
      simp [wS_ask, r1, a1, a2, natD, -List.map_map, -List.map_append, optD, isNone]
      refine ⟨⟨_, rdS_of l1⟩, app_w (d := .int (u : Int)) l1 (by simp; omega) ?_⟩
      refine ⟨m, by omega, rfl, pre ++ [x], u, hu.2, by omega, by simp; omega, ?_, ?_⟩
      · rw [← hw, List.append_assoc]
        show pre ++ ([x] ++ wayL ab m u) = pre ++ (match ab.getD x none with
            | none => [x]
            | some u => x :: wayL ab m u)
        rw [q]
        rfl
      · simp [natD]
  · rintro _ _ ⟨rfl, rfl⟩
    simp
    have := fin _ rfl
    simpa using this
end Wf
set_option maxRecDepth 100000
set_option maxHeartbeats 4000000
/-! W44: ring_by. -/
namespace Wf
open PySem
def rbyB (jw : Nat) : List CS := [
  .par [3, 4] [.callp jw [.var 0, .var 1], .callp jw [.var 0, .var 2]],
  .set 5 (.idx (.comp false [6] [6] false (.it (.var 3)) (.cmp .In (.var 6) (.var 4)) (.var 6)) (.int 0)),
  .ret (.bi .tuple [.bin .Add (.slc (.var 3) (.non) (.bin .Add (.mt .index (.var 3) [.var 5]) (.int 1))) (.rev (.slc (.var 4) (.non) (.mt .index (.var 4) [.var 5])))])]
def rbyD (jw : Nat) : Def := ⟨3, 7, true, false, rbyB jw⟩
/-- the ring of two ways -/
def ringBy (L R : List Nat) : List Nat := match L.find? fun x => decide (x ∈ R) with
  | some m => L.take (L.idxOf m + 1) ++ (R.take (R.idxOf m)).reverse
  | none => []
theorem anyEqv_nat (x : Nat) (l : List Nat) : anyEqv (natD x) (l.map natD) = decide (x ∈ l) := by
  induction l with
  | nil => rfl
  | cons y r ih =>
    rw [List.map_cons, anyEqv_cons, ih]
    by_cases h : y = x
    · subst h; simp [natD]
    · have : ¬ ((y : Int) = x) := by omega
      have h2 : ¬ x = y := fun z => h z.symm
      simp [natD, this, h2]
section
variable {T : Tab} {ρ : EnvW} {S : Store} {Q : Val → Store → Prop} {a lo hi : CE}
theorem ev_slc : wS (ev T (.slc a lo hi) ρ) S Q ↔ wS (ev T a ρ) S fun x S1 => wS (partE lo.isNon (ev T lo) ρ) S1 fun l S2 => wS (partE hi.isNon (ev T hi) ρ) S2 fun h S3 => ∃ z, (match partOf l, partOf h with
    | some l, some h => cutS x l h S3
    | _, _ => none) = some z ∧ Q z S3 := by
  show wS (sbind _ _) S Q ↔ _
  simp only [wS_bind, wS_ask]
  try rfl
@[simp] theorem partE_t {f : EnvW → SM Val} : wS (partE true f ρ) S Q ↔ Q (.d .none) S := wS_ret
@[simp] theorem partE_f {f : EnvW → SM Val} : wS (partE false f ρ) S Q ↔ wS (f ρ) S fun x S1 => ∃ i, x = .d (.int i) ∧ Q (.d (.int i)) S1 := by
  show wS (sbind _ _) S Q ↔ _
  rw [wS_bind]
  constructor
  · intro h
    refine wS_mono h fun x S1 h => ?_
    split at h
    · exact ⟨_, rfl, wS_ret.mp h⟩
    · exact (wS_fail.mp h).elim
  · intro h
    refine wS_mono h fun x S1 h => ?_
    obtain ⟨i, rfl, h⟩ := h
    exact wS_ret.mpr h
end
theorem cutW_to {α : Type} (xs : List α) (k : Nat) : cutW xs none (some (k : Int)) = xs.take k := by
  unfold cutW
  show (xs.drop 0).take (HT.sIx xs.length xs.length (some (k : Int)) - 0) = _
  rw [HT.sIx_nat, List.drop_zero, Nat.sub_zero]
  by_cases h : k ≤ xs.length
  · rw [Nat.min_eq_left h]
  · rw [Nat.min_eq_right (by omega), List.take_of_length_le (Nat.le_refl _), List.take_of_length_le (by omega)]
theorem cutW_from {α : Type} (xs : List α) (k : Nat) : cutW xs (some (k : Int)) none = xs.drop k := by
  unfold cutW
  show (xs.drop (HT.sIx xs.length 0 (some (k : Int)))).take (xs.length - HT.sIx xs.length 0 (some (k : Int))) = _
  rw [HT.sIx_nat]
  by_cases h : k ≤ xs.length
  · rw [Nat.min_eq_left h, List.take_of_length_le (by simp)]
  · rw [Nat.min_eq_right (by omega), List.drop_of_length_le (Nat.le_refl _), List.drop_of_length_le (by omega)]
    simp
@[simp] theorem cutS_l {S : Store} {ds : List PyData} {lo hi : Option Int} : cutS (.d (.list ds)) lo hi S = if (cutW ds lo hi).length ≤ sizeLine then some (.d (.list (cutW ds lo hi))) else none := by
  show listOf (cutW (ds.map Val.d) lo hi) = _
  have e : cutW (ds.map Val.d) lo hi = (cutW ds lo hi).map Val.d := by
    unfold cutW
    rw [List.length_map, List.map_take, List.map_drop]
  unfold listOf
  rw [e, datsOf_map]
@[simp] theorem cutS_t {S : Store} {ds : List PyData} {lo hi : Option Int} : cutS (.d (.tuple ds)) lo hi S = some (.d (.tuple (cutW ds lo hi))) := rfl
@[simp] theorem rev_l {S : Store} {ds : List PyData} : revS (.d (.list ds)) S = if ds.length ≤ sizeLine then some (.d (.list ds.reverse)) else none := by
  show listOf (ds.map Val.d).reverse = _
  unfold listOf
  rw [← List.map_reverse, datsOf_map]
  simp
@[simp] theorem rev_t {S : Store} {ds : List PyData} : revS (.d (.tuple ds)) S = some (.d (.tuple ds.reverse)) := rfl
theorem findIdx_nat (x : Nat) (l : List Nat) (h : x ∈ l) : ((l.map natD).findIdx? fun z => PyData.eqv z (natD x)) = some (l.idxOf x) := by
  induction l with
  | nil => cases h
  | cons y r ih =>
    rw [List.map_cons, List.findIdx?_cons, List.idxOf_cons]
    by_cases q : y = x
    · subst q; simp [natD]
    · have q2 : ¬ ((y : Int) = x) := by omega
      have hr : x ∈ r := by
        rcases List.mem_cons.mp h with e | e
        · exact absurd e.symm q
        · exact e
      have b : (y == x) = false := beq_eq_false_iff_ne.mpr q
      rw [ih hr]
      simp [natD, q2, b]
theorem index_w {S : Store} {l : List Nat} {x : Nat} {Q : Val → Store → Prop} (h : x ∈ l) (hQ : Q (.d (.int (l.idxOf x : Nat))) S) : wS (mtop .index (.d (.list (l.map natD))) [.d (.int (x : Int))]) S Q := by
  refine wS_ask.mpr ⟨_, ?_, hQ⟩
  show (match (rdS S (.d (.list (l.map natD)))).bind datsOf, dr S (.d (natD x)) with
    | some ds, some d => if lv 40 d = true ∧ ds.all (lv 39) = true then (ds.findIdx? fun z => PyData.eqv z d).map (fun (j : Nat) => (Val.d (.int (j : Int)))) else none
    | _, _ => none) = _
  have e : (rdS S (.d (.list (l.map natD)))).bind datsOf = some (l.map natD) := datsOf_map _
  have v : (l.map natD).all (lv 39) = true := by simp [natD]
  rw [e]
  simp only [dr_d]
  rw [if_pos ⟨by simp [natD], v⟩, findIdx_nat x l h]
  rfl
end Wf
set_option maxRecDepth 100000
set_option maxHeartbeats 4000000
/-! W45: ring_by. -/
namespace Wf
open PySem
def wayD2 (l : List Nat) : PyData := .list (l.map natD)
theorem rby_ok {T : Tab} {jw : Nat} {ab : PyData} {one other m : Nat} {L R : List Nat} (h1 : T.pure jw [.d ab, .d (.int one)] = some (wayD2 L)) (h2 : T.pure jw [.d ab, .d (.int other)] = some (wayD2 R)) (hL : L.length ≤ 400) (hR : R.length ≤ 400) (hm : L.find? (fun x => decide (x ∈ R)) = some m) : runP T (rbyD jw) [.d ab, .d (.int one), .d (.int other)] = some (rowD (ringBy L R)) := by
  refine runP_of rfl ?_
  have big : 1000 ≤ sizeLine := by decide
  have e : startW (rbyD jw) [.d ab, .d (.int one), .d (.int other)] = [some (.d ab), some (.d (.int one)), some (.d (.int other)), none, none, none, none] := rfl
  rw [e]
  have fin : ∀ S, rtQ (rowD (ringBy L R)) (.rt (.d (rowD (ringBy L R)))) S := fun S => rfl
  generalize rtQ (rowD (ringBy L R)) = Q at fin ⊢
  have mL : m ∈ L := List.mem_of_find?_eq_some hm
  have mR : m ∈ R := by simpa using List.find?_some hm
  refine seq (fun ρ S => ρ = [some (.d ab), some (.d (.int one)), some (.d (.int other)), some (.d (wayD2 L)), some (.d (wayD2 R)), none, none] ∧ S = []) (by simp [h1, h2, setAll]) ?_
  rintro _ _ ⟨rfl, rfl⟩
  refine seq (fun ρ S => ρ = [some (.d ab), some (.d (.int one)), some (.d (.int other)), some (.d (wayD2 L)), some (.d (wayD2 R)), some (.d (natD m)), none] ∧ S = []) ?_ ?_
  · simp [wayD2]
    refine (wS_lcf (emb := Val.d ∘ natD) (fun x => decide (x ∈ R)) natD fun t ht => ?_).mpr ?_
    · have hv : (R.map natD).all (lv 39) = true := by simp [natD]
      simp [bindT, setAll, wipeW, -List.all_map, hv, anyEqv_nat]
      simp [natD, anyEqv_nat, -List.all_map]
      exact (Decidable.em _).symm
    · have l := List.length_filter_le (fun x => decide (x ∈ R)) L
      have hd : (L.filter fun x => decide (x ∈ R)).head? = some m := by rw [List.head?_filter]; exact hm
      cases hf : L.filter fun x => decide (x ∈ R) with
      | nil => rw [hf] at hd; cases hd
      | cons y r =>
        rw [hf] at hd l
        cases hd
        simp at l
        simp [-List.map_map]
        omega
  · rintro _ _ ⟨rfl, rfl⟩
    have e1 : ringBy L R = L.take (L.idxOf m + 1) ++ (R.take (R.idxOf m)).reverse := by
      unfold ringBy
      rw [hm]
    rw [e1] at fin
    simp [wayD2, ev_slc, CE.isNon, partOf]
    have c1 : ∀ k : Nat, (List.map natD L).take k = (L.take k).map natD := fun k => (List.map_take).symm
    have c2 : ∀ k : Nat, (List.map natD R).take k = (R.take k).map natD := fun k => (List.map_take).symm
    refine index_w mL ?_
    simp only [add_ii]
    refine ⟨_, rfl, _, rfl, _, ⟨?_, rfl⟩, ?_⟩
    · rw [show ((L.idxOf m : Nat) : Int) + 1 = ((L.idxOf m + 1 : Nat) : Int) from by omega, cutW_to, c1]
      simp
      omega
    rw [show ((L.idxOf m : Nat) : Int) + 1 = ((L.idxOf m + 1 : Nat) : Int) from by omega, cutW_to, c1]
    refine index_w mR ?_
    refine ⟨_, rfl, _, ⟨?_, rfl⟩, ?_⟩
    · rw [cutW_to, c2]
      simp
      omega
    rw [cutW_to, c2]
    simp [-List.map_take, -List.map_reverse, -List.map_append]
    have hz : ∀ S, binop .Add (.d (.list (List.map natD (List.take (L.idxOf m + 1) L)))) (.d (.list (List.map natD (List.take (R.idxOf m) R)).reverse)) S = some (.d (.list (List.map natD (List.take (L.idxOf m + 1) L) ++ (List.map natD (List.take (R.idxOf m) R)).reverse))) := fun S => by
      rw [add_ll, if_pos]
      simp
      omega
    refine ⟨_, ⟨by omega, rfl⟩, _, hz _, ?_⟩
    · refine ⟨_, bi_tuple_l, ?_⟩
      have e2 : List.map natD (List.take (L.idxOf m + 1) L) ++ (List.map natD (List.take (R.idxOf m) R)).reverse = (L.take (L.idxOf m + 1) ++ (R.take (R.idxOf m)).reverse).map natD := by simp
      rw [e2]
      exact fin _
end Wf
set_option maxRecDepth 100000
set_option maxHeartbeats 4000000
/-! W46: chains, ways, rings: plain. -/
namespace Wf
def chn {α : Type} (P : α → α → Prop) : List α → Prop
  | [] => True
  | [_] => True
  | x :: y :: r => P x y ∧ chn P (y :: r)
section
variable {α : Type} {P : α → α → Prop}
theorem chn_tail {x : α} {r : List α} (h : chn P (x :: r)) : chn P r := by
  cases r with
  | nil => trivial
  | cons y r => exact h.2
theorem chn_app {x : α} {b : List α} : ∀ {a : List α}, chn P (a ++ [x]) → chn P (x :: b) → chn P (a ++ x :: b)
  | [], _, h => h
  | [y], h1, h => ⟨h1.1, h⟩
  | y :: z :: a, h1, h => ⟨h1.1, chn_app (a := z :: a) h1.2 h⟩
theorem chn_take : ∀ {l : List α} (k : Nat), chn P l → chn P (l.take k)
  | [], k, _ => by simp [chn]
  | [x], k, _ => by
    cases k with
    | zero => trivial
    | succ k => simp [chn]
  | x :: y :: r, k, h => by
    match k with
    | 0 => trivial
    | 1 => trivial
    | k + 2 => exact ⟨h.1, by simpa using chn_take (l := y :: r) (k + 1) h.2⟩
theorem chn_rev (sym : ∀ a b, P a b → P b a) : ∀ {l : List α}, chn P l → chn P l.reverse
  | [], _ => trivial
  | [x], _ => trivial
  | x :: y :: r, h => by
    have ih := chn_rev sym (l := y :: r) h.2
    rw [List.reverse_cons] at ih
    rw [List.reverse_cons, List.reverse_cons, List.append_assoc]
    exact chn_app ih ⟨sym _ _ h.1, trivial⟩
end
section
variable {E : Ties} {ab : List (Option Nat)} {rk : Nat → Nat} {q : List Nat} {r : Nat}
/-- what a way up rests on -/
structure Ups (E : Ties) (ab : List (Option Nat)) (rk : Nat → Nat) (q : List Nat) (r : Nat) : Prop where
  some : ∀ v ∈ q, ∀ u, ab.getD v none = some u → u ∈ q ∧ rk v = rk u + 1 ∧ Adj E u v
  none : ∀ v ∈ q, ab.getD v none = none → v = r ∧ rk v = 0
theorem way_rk (h : Ups E ab rk q r) : ∀ (n : Nat) {v : Nat}, v ∈ q → rk v = n → ∀ (i x : Nat), (wayL ab n v)[i]? = some x → x ∈ q ∧ rk x + i = n
  | 0, v, hv, e, i, x, hx => by
    rw [wayL] at hx
    cases i with
    | zero => cases hx; exact ⟨hv, e⟩
    | succ i => cases hx
  | n + 1, v, hv, e, i, x, hx => by
    rw [wayL] at hx
    cases q1 : ab.getD v none with
    | none =>
      rw [q1] at hx
      cases i with
      | zero => cases hx; exact ⟨hv, e⟩
      | succ i => cases hx
    | some u =>
      rw [q1] at hx
      have hu := h.some v hv u q1
      cases i with
      | zero => cases hx; exact ⟨hv, e⟩
      | succ i =>
        have := way_rk h n hu.1 (by omega) i x (by simpa using hx)
        exact ⟨this.1, by omega⟩
theorem way_chn (h : Ups E ab rk q r) : ∀ (n : Nat) {v : Nat}, v ∈ q → rk v = n → chn (Adj E) (wayL ab n v) ∧ (wayL ab n v).head? = some v ∧ r ∈ wayL ab n v
  | 0, v, hv, e => by
    rw [wayL]
    cases q1 : ab.getD v none with
    | none => exact ⟨trivial, rfl, by rw [(h.none v hv q1).1]; exact List.mem_cons_self⟩
    | some u =>
      have := (h.some v hv u q1).2.1
      omega
  | n + 1, v, hv, e => by
    rw [wayL]
    cases q1 : ab.getD v none with
    | none =>
      have := (h.none v hv q1).2
      omega
    | some u =>
      have hu := h.some v hv u q1
      obtain ⟨i1, i2, i3⟩ := way_chn h n hu.1 (by omega)
      refine ⟨?_, rfl, List.mem_cons_of_mem _ i3⟩
      show chn (Adj E) (v :: wayL ab n u)
      cases w : wayL ab n u with
      | nil => trivial
      | cons y t =>
        rw [w] at i1 i2
        cases i2
        exact ⟨hu.2.2.symm, i1⟩
theorem way_nodup (h : Ups E ab rk q r) {n v : Nat} (hv : v ∈ q) (e : rk v = n) : (wayL ab n v).Nodup := by
  unfold List.Nodup
  rw [List.pairwise_iff_getElem]
  intro i j hi hj hij he
  have a := (way_rk h n hv e i _ (List.getElem?_eq_getElem hi)).2
  have b := (way_rk h n hv e j _ (List.getElem?_eq_getElem hj)).2
  rw [he] at a
  omega
theorem way_len (h : Ups E ab rk q r) : ∀ (n : Nat) {v : Nat}, v ∈ q → rk v = n → (wayL ab n v).length = n + 1
  | 0, v, hv, e => rfl
  | n + 1, v, hv, e => by
    rw [wayL]
    cases q1 : ab.getD v none with
    | none =>
      have := (h.none v hv q1).2
      omega
    | some u =>
      have hu := h.some v hv u q1
      show (v :: wayL ab n u).length = _
      rw [List.length_cons, way_len h n hu.1 (by omega)]
theorem way_idx (h : Ups E ab rk q r) {n v x : Nat} (hv : v ∈ q) (e : rk v = n) (hx : x ∈ wayL ab n v) : (wayL ab n v).idxOf x < (wayL ab n v).length ∧ rk x + (wayL ab n v).idxOf x = n := by
  have l := List.idxOf_lt_length_of_mem hx
  exact ⟨l, (way_rk h n hv e _ _ (by rw [List.getElem?_eq_getElem l]; simp)).2⟩
/-- a ring of places: tied around -/
def Around (E : Ties) (row : List Nat) : Prop := chn (Adj E) (row ++ row.take 1)
theorem ring_good (h : Ups E ab rk q r) {a b : Nat} (ha : a ∈ q) (hb : b ∈ q) (hne : a ≠ b) (hadj : Adj E a b) (hp : rk a % 2 = rk b % 2) :
    ∃ m, (wayL ab (rk a) a).find? (fun x => decide (x ∈ wayL ab (rk b) b)) = some m ∧
    (ringBy (wayL ab (rk a) a) (wayL ab (rk b) b)).Nodup ∧ 2 < (ringBy (wayL ab (rk a) a) (wayL ab (rk b) b)).length ∧ (ringBy (wayL ab (rk a) a) (wayL ab (rk b) b)).length % 2 = 1 ∧ Around E (ringBy (wayL ab (rk a) a) (wayL ab (rk b) b)) ∧ ∀ x ∈ ringBy (wayL ab (rk a) a) (wayL ab (rk b) b), x ∈ q := by
  obtain ⟨ca, ha1, ra⟩ := way_chn h (rk a) ha rfl
  obtain ⟨cb, hb1, rb⟩ := way_chn h (rk b) hb rfl
  have na := way_nodup h ha rfl
  have nb := way_nodup h hb rfl
  have la := way_len h (rk a) ha rfl
  have lb := way_len h (rk b) hb rfl
  have ia := fun x => way_idx h (x := x) ha rfl
  have ib := fun x => way_idx h (x := x) hb rfl
  have qa : ∀ x ∈ wayL ab (rk a) a, x ∈ q := fun x hx => by
    obtain ⟨i, hi⟩ := List.getElem?_of_mem hx
    exact (way_rk h _ ha rfl i x hi).1
  have qb : ∀ x ∈ wayL ab (rk b) b, x ∈ q := fun x hx => by
    obtain ⟨i, hi⟩ := List.getElem?_of_mem hx
    exact (way_rk h _ hb rfl i x hi).1
  generalize wayL ab (rk a) a = L at *
  generalize wayL ab (rk b) b = R at *
  cases hf : L.find? (fun x => decide (x ∈ R)) with
  | none =>
    rw [List.find?_eq_none] at hf
    exact absurd (decide_eq_true rb) (hf r ra)
  | some m =>
    have mL : m ∈ L := List.mem_of_find?_eq_some hf
    have mR : m ∈ R := by simpa using List.find?_some hf
    obtain ⟨i1, i2⟩ := ia m mL
    obtain ⟨j1, j2⟩ := ib m mR
    have e : ringBy L R = L.take (L.idxOf m + 1) ++ (R.take (R.idxOf m)).reverse := by
      unfold ringBy
      rw [hf]
    have eL : L.take (L.idxOf m + 1) = L.take (L.idxOf m) ++ [m] := by
      rw [List.take_succ, List.getElem?_eq_getElem i1]
      simp
    have eR : R.take (R.idxOf m + 1) = R.take (R.idxOf m) ++ [m] := by
      rw [List.take_succ, List.getElem?_eq_getElem j1]
      simp
    -- the first places of L are not in R
    have first : ∀ x ∈ L.take (L.idxOf m), x ∉ R := by
      intro x hx hxR
      rw [List.find?_eq_some_iff_append] at hf
      obtain ⟨_, as, bs, e1, e2⟩ := hf
      have hm : m ∉ as := fun z => by simpa [mR] using e2 m z
      have : L.idxOf m = as.length := by
        rw [e1, List.idxOf_append, if_neg hm]
        simp
      rw [this, e1, List.take_left] at hx
      simpa [hxR] using e2 x hx
    have hlen : (ringBy L R).length = L.idxOf m + 1 + R.idxOf m := by
      rw [e]
      simp
      omega
    have hodd : (ringBy L R).length % 2 = 1 := by omega
    refine ⟨m, rfl, ?_, ?_, hodd, ?_, ?_⟩
    · rw [e]
      refine List.nodup_append.mpr ⟨na.sublist (List.take_sublist _ _), ((List.reverse_perm _).nodup_iff.mpr (nb.sublist (List.take_sublist _ _))), ?_⟩
      intro x hx y hy hxy
      subst hxy
      rw [List.mem_reverse] at hy
      rw [eL] at hx
      rcases List.mem_append.mp hx with hx | hx
      · exact first x hx (List.mem_of_mem_take hy)
      · rw [List.mem_singleton] at hx
        subst hx
        have nn : (R.take (R.idxOf x + 1)).Nodup := nb.sublist (List.take_sublist _ _)
        rw [eR] at nn
        exact (List.nodup_append.mp nn).2.2 x hy x (by simp) rfl
    · -- not one alone
      have : (ringBy L R).length ≠ 1 := fun z => by
        have z1 : L.idxOf m = 0 := by omega
        have z2 : R.idxOf m = 0 := by omega
        have a1 : L[L.idxOf m]? = some m := by rw [List.getElem?_eq_getElem i1]; simp
        have b1 : R[R.idxOf m]? = some m := by rw [List.getElem?_eq_getElem j1]; simp
        rw [z1, ← List.head?_eq_getElem?, ha1] at a1
        rw [z2, ← List.head?_eq_getElem?, hb1] at b1
        cases a1
        cases b1
        exact hne rfl
      omega
    · unfold Around
      have hd : (ringBy L R).take 1 = [a] := by
        rw [e]
        cases L with
        | nil => cases mL
        | cons y t =>
          cases ha1
          simp
      rw [hd, e, eL]
      have c1 : chn (Adj E) (L.take (L.idxOf m) ++ [m]) := by
        rw [← eL]
        exact chn_take _ ca
      have c2 : chn (Adj E) (a :: R.take (R.idxOf m + 1)) := by
        cases R with
        | nil => cases mR
        | cons y t =>
          cases hb1
          have := chn_take (List.idxOf m (b :: t) + 1) cb
          rw [List.take_succ_cons] at this ⊢
          exact ⟨hadj, this⟩
      have c3 := chn_rev (fun _ _ z => Adj.symm z) c2
      rw [eR] at c3
      simp only [List.reverse_cons, List.reverse_append, List.reverse_nil, List.nil_append, List.singleton_append, List.cons_append] at c3
      have := chn_app c1 c3
      simpa using this
    · intro x hx
      rw [e] at hx
      rcases List.mem_append.mp hx with hx | hx
      · exact qa x (List.mem_of_mem_take hx)
      · exact qb x (List.mem_of_mem_take (List.mem_reverse.mp hx))
end
end Wf
set_option maxRecDepth 100000
set_option maxHeartbeats 4000000
/-! W47: roots, colours found by walking: plain. -/
namespace Wf
theorem Adj.mono {E F : Ties} (h : ∀ t ∈ E, t ∈ F) {a b : Nat} (k : Adj E a b) : Adj F a b := k.imp (h _) (h _)
theorem Par.mono {E F : Ties} (h : ∀ t ∈ E, t ∈ F) {a b : Nat} {c : Bool} (k : Par E a b c) : Par F a b c := by
  induction k with
  | nil => exact Par.nil _
  | step k adj ih => exact Par.step ih (adj.mono h)
/-- the least place of each part -/
structure Root (E : Ties) (o : Nat → Nat) : Prop where
  le : ∀ v, o v ≤ v
  con : ∀ v, ∃ c, Par E v (o v) c
  adj : ∀ t ∈ E, o t.1 = o t.2
theorem Root.adj2 {E : Ties} {o : Nat → Nat} (h : Root E o) {a b : Nat} (k : Adj E a b) : o a = o b := by
  rcases k with k | k
  · exact h.adj _ k
  · exact (h.adj _ k).symm
theorem Root.par {E : Ties} {o : Nat → Nat} (h : Root E o) {a b : Nat} {c : Bool} (k : Par E a b c) : o a = o b := by
  induction k with
  | nil => rfl
  | step k adj ih => exact ih.trans (h.adj2 adj)
theorem Root.idem {E : Ties} {o : Nat → Nat} (h : Root E o) (v : Nat) : o (o v) = o v := by
  obtain ⟨c, k⟩ := h.con v
  exact (h.par k).symm
/-- a tie joins two parts -/
def ownS (o : Nat → Nat) (t : Nat × Nat) : Nat → Nat := fun x => if o x = o t.1 ∨ o x = o t.2 then min (o t.1) (o t.2) else o x
def ownF (E : Ties) : Nat → Nat := E.foldl ownS id
theorem Root.nil : Root [] id := ⟨fun _ => Nat.le_refl _, fun v => ⟨false, Par.nil v⟩, fun _ h => by cases h⟩
theorem Root.step {E : Ties} {o : Nat → Nat} (h : Root E o) (t : Nat × Nat) : Root (E ++ [t]) (ownS o t) := by
  have mE : ∀ x ∈ E, x ∈ E ++ [t] := fun x hx => List.mem_append_left _ hx
  have adj : Adj (E ++ [t]) t.1 t.2 := .inl (by simp)
  refine ⟨fun v => ?_, fun v => ?_, fun x hx => ?_⟩
  · have := h.le v
    unfold ownS
    split <;> omega
  · obtain ⟨c, k⟩ := h.con v
    obtain ⟨c1, k1⟩ := h.con t.1
    obtain ⟨c2, k2⟩ := h.con t.2
    have k := k.mono mE
    have k1 := k1.mono mE
    have k2 := k2.mono mE
    have e : ownS o t v = o v ∨ (ownS o t v = o t.1 ∧ o v = o t.2) ∨ (ownS o t v = o t.2 ∧ o v = o t.1) := by
      unfold ownS
      split <;> omega
    rcases e with e | ⟨e1, e2⟩ | ⟨e1, e2⟩
    · rw [e]
      exact ⟨c, k⟩
    · rw [e1]
      rw [e2] at k
      exact ⟨_, ((k.trans k2.symm).trans (Par.one adj.symm)).trans k1⟩
    · rw [e1]
      rw [e2] at k
      exact ⟨_, ((k.trans k1.symm).trans (Par.one adj)).trans k2⟩
  · rcases List.mem_append.mp hx with hx | hx
    · have := h.adj x hx
      unfold ownS
      rw [this]
    · rw [List.mem_singleton] at hx
      subst hx
      unfold ownS
      simp
theorem Root.fold : ∀ (E F : Ties) (o : Nat → Nat), Root E o → Root (E ++ F) (F.foldl ownS o)
  | E, [], o, h => by simpa using h
  | E, t :: F, o, h => by
    have := Root.fold (E ++ [t]) F _ (h.step t)
    simpa using this
theorem root_own (E : Ties) : Root E (ownF E) := Root.fold [] E id Root.nil
def cl {α : Type} (s : List (Option α)) (v : Nat) : Option α := s.getD v none
theorem cl_set {α : Type} {s : List (Option α)} {y : Nat} {c : Option α} (hy : y < s.length) (v : Nat) : cl (s.set y c) v = if v = y then c else cl s v := by
  unfold cl
  rw [List.getD_eq_getElem?_getD, List.getElem?_set, List.getD_eq_getElem?_getD]
  by_cases h : v = y
  · subst h
    simp [hy]
  · have : ¬ y = v := fun z => h z.symm
    simp [h, this]
theorem cl_lt {α : Type} {s : List (Option α)} {v : Nat} {c : α} (h : cl s v = some c) : v < s.length := by
  unfold cl at h
  rw [List.getD_eq_getElem?_getD] at h
  by_cases q : v < s.length
  · exact q
  · rw [List.getElem?_eq_none (by omega)] at h
    cases h
/-- colours of whole parts -/
structure Cols (E : Ties) (n : Nat) (o : Nat → Nat) (D : Nat → Prop) (s : List (Option Bool)) : Prop where
  len : s.length = n
  par : ∀ v c, cl s v = some c → Par E (o v) v c
  fin : ∀ v, v < n → D (o v) → ∃ c, cl s v = some c
  old : ∀ v c, cl s v = some c → D (o v)
/-- colours while the part of r is walked, by the queue q -/
structure Bfs (E : Ties) (n : Nat) (o : Nat → Nat) (D : Nat → Prop) (r : Nat) (s : List (Option Bool)) (q : List Nat) : Prop where
  len : s.length = n
  par : ∀ v c, cl s v = some c → Par E (o v) v c
  fin : ∀ v, v < n → D (o v) → ∃ c, cl s v = some c
  old : ∀ v c, cl s v = some c → D (o v) ∨ v ∈ q
  nd : q.Nodup
  mem : ∀ v ∈ q, v < n ∧ o v = r ∧ ∃ c, cl s v = some c
  root : r ∈ q
  nD : ¬ D r
section
variable {E : Ties} {n : Nat} {o : Nat → Nat} {D : Nat → Prop} {r : Nat} {s : List (Option Bool)} {q : List Nat}
theorem Cols.start (h : Cols E n o D s) (hr : r < n) (ho : o r = r) (hD : ¬ D r) : Bfs E n o D r (s.set r (some false)) [r] := by
  have hl : r < s.length := by rw [h.len]; exact hr
  refine ⟨by simpa using h.len, fun v c hc => ?_, fun v hv hd => ?_, fun v c hc => ?_, by simp, fun v hv => ?_, by simp, hD⟩
  · rw [cl_set hl] at hc
    split at hc
    · rename_i e
      subst e
      cases hc
      rw [ho]
      exact Par.nil _
    · exact h.par v c hc
  · rw [cl_set hl]
    split
    · exact ⟨_, rfl⟩
    · exact h.fin v hv hd
  · rw [cl_set hl] at hc
    split at hc
    · exact .inr (by simpa using ‹v = r›)
    · exact .inl (h.old v c hc)
  · rw [List.mem_singleton] at hv
    subst hv
    exact ⟨hr, ho, false, by rw [cl_set hl, if_pos rfl]⟩
theorem Bfs.add (ro : Root E o) (h : Bfs E n o D r s q) {x y : Nat} {c : Bool} (hx : x ∈ q) (hc : cl s x = some c) (ha : Adj E x y) (hy : y < n) (hn : cl s y = none) : Bfs E n o D r (s.set y (some (!c))) (q ++ [y]) := by
  have hl : y < s.length := by rw [h.len]; exact hy
  have oy : o y = r := (ro.adj2 ha).symm.trans (h.mem x hx).2.1
  refine ⟨by simpa using h.len, fun v d hd => ?_, fun v hv hd => ?_, fun v d hd => ?_, ?_, fun v hv => ?_, List.mem_append_left _ h.root, h.nD⟩
  · rw [cl_set hl] at hd
    split at hd
    · rename_i e
      subst e
      cases hd
      have := h.par x c hc
      rw [(h.mem x hx).2.1] at this
      rw [oy]
      exact Par.step this ha
    · exact h.par v d hd
  · rw [cl_set hl]
    split
    · exact ⟨_, rfl⟩
    · exact h.fin v hv hd
  · rw [cl_set hl] at hd
    split at hd
    · exact .inr (by simp [‹v = y›])
    · exact (h.old v d hd).imp id (List.mem_append_left _)
  · refine List.nodup_append.mpr ⟨h.nd, by simp, ?_⟩
    intro a ka b hb e
    rw [List.mem_singleton] at hb
    subst e hb
    obtain ⟨d, hd⟩ := (h.mem a ka).2.2
    rw [hn] at hd
    cases hd
  · rcases List.mem_append.mp hv with hv | hv
    · obtain ⟨a, b, d, hd⟩ := h.mem v hv
      refine ⟨a, b, ?_⟩
      rw [cl_set hl]
      split
      · exact ⟨_, rfl⟩
      · exact ⟨d, hd⟩
    · rw [List.mem_singleton] at hv
      subst hv
      exact ⟨hy, oy, _, by rw [cl_set hl, if_pos rfl]⟩
theorem nodup_sub : ∀ {l L : List Nat}, l.Nodup → (∀ x ∈ l, x ∈ L) → l.length ≤ L.length
  | [], L, _, _ => Nat.zero_le _
  | x :: t, L, h, k => by
    have hx := k x List.mem_cons_self
    have nd := List.nodup_cons.mp h
    have := nodup_sub (L := L.erase x) nd.2 fun y hy => (List.mem_erase_of_ne (fun z : y = x => nd.1 (by rw [← z]; exact hy))).mpr (k y (List.mem_cons_of_mem _ hy))
    rw [List.length_erase_of_mem hx] at this
    have := List.length_pos_of_mem hx
    rw [List.length_cons]
    omega
theorem nodup_lt {l : List Nat} {n : Nat} (h : l.Nodup) (k : ∀ x ∈ l, x < n) : l.length ≤ n := by
  have := nodup_sub (L := List.range n) h fun x hx => List.mem_range.mpr (k x hx)
  simpa using this
theorem Bfs.qlen (h : Bfs E n o D r s q) : q.length ≤ n := nodup_lt h.nd fun x hx => (h.mem x hx).1
theorem Bfs.inq (ro : Root E o) (h : Bfs E n o D r s q) {v : Nat} {c : Bool} (hc : cl s v = some c) (ho : o v = r) : v ∈ q := by
  rcases h.old v c hc with k | k
  · rw [ho] at k
    exact absurd k h.nD
  · exact k
theorem Bfs.all (ro : Root E o) (h : Bfs E n o D r s q) (hc : ∀ x ∈ q, ∀ y, Adj E x y → ∃ c, cl s y = some c) {a b : Nat} {c : Bool} (k : Par E a b c) : a ∈ q → b ∈ q := by
  induction k with
  | nil => exact id
  | step k adj ih =>
    intro z
    obtain ⟨c, e⟩ := hc _ (ih z) _ adj
    exact h.inq ro e ((ro.adj2 adj).symm.trans (h.mem _ (ih z)).2.1)
theorem Bfs.done (ro : Root E o) (h : Bfs E n o D r s q) (hc : ∀ x ∈ q, ∀ y, Adj E x y → ∃ c, cl s y = some c) : Cols E n o (fun k => D k ∨ k = r) s := by
  refine ⟨h.len, h.par, fun v hv hd => ?_, fun v c e => ?_⟩
  · rcases hd with hd | hd
    · exact h.fin v hv hd
    · obtain ⟨c, k⟩ := ro.con v
      rw [hd] at k
      exact (h.mem v (h.all ro hc k.symm h.root)).2.2
  · rcases h.old v c e with k | k
    · exact .inl k
    · exact .inr (h.mem v k).2.1
theorem Cols.congr {D' : Nat → Prop} (h : Cols E n o D s) (k : ∀ v, v < n → (D (o v) ↔ D' (o v))) : Cols E n o D' s := ⟨h.len, h.par, fun v hv hd => h.fin v hv ((k v hv).mpr hd), fun v c e => (k v (by rw [← h.len]; exact cl_lt e)).mp (h.old v c e)⟩
theorem cols_nil (hD : ∀ v, ¬ D v) : Cols E n o D (List.replicate n none) := by
  have e : ∀ v, cl (List.replicate n (none : Option Bool)) v = none := fun v => by
    unfold cl
    rw [List.getD_eq_getElem?_getD, List.getElem?_replicate]
    split <;> rfl
  exact ⟨by simp, fun v c h => (by rw [e] at h; cases h), fun v _ h => absurd h (hD _), fun v c h => (by rw [e] at h; cases h)⟩
/-- the colours that stand, as a function -/
def colF (s : List (Option Bool)) (v : Nat) : Bool := (cl s v).getD false
theorem Cols.same (h : Cols E n o (fun _ => True) s) {f : Nat → Bool} (hf : Proper E f) {v : Nat} (hv : v < n) : cl s v = some (f (o v) != f v) := by
  obtain ⟨c, e⟩ := h.fin v hv trivial
  rw [e]
  have := hf.par (h.par v c e)
  rw [this]
  cases f (o v) <;> cases c <;> rfl
theorem Cols.uniq {s' : List (Option Bool)} (h : Cols E n o (fun _ => True) s) (h' : Cols E n o (fun _ => True) s') {f : Nat → Bool} (hf : Proper E f) : s = s' := by
  refine List.ext_getElem (by rw [h.len, h'.len]) fun i h1 h2 => ?_
  have hi : i < n := by rw [← h.len]; exact h1
  have a := h.same hf hi
  have b := h'.same hf hi
  unfold cl at a b
  rw [List.getD_eq_getElem?_getD, List.getElem?_eq_getElem h1] at a
  rw [List.getD_eq_getElem?_getD, List.getElem?_eq_getElem h2] at b
  exact a.trans b.symm
/-- no tie has two ends of a colour -/
def SideOk (E : Ties) (s : List (Option Bool)) : Prop := ∀ t ∈ E, cl s t.1 ≠ cl s t.2
theorem Cols.ok_of (h : Cols E n o (fun _ => True) s) (ro : Root E o) (hE : ∀ t ∈ E, t.1 < t.2 ∧ t.2 < n) {f : Nat → Bool} (hf : Proper E f) : SideOk E s := fun t ht => by
  have := hE t ht
  rw [h.same hf (v := t.1) (by omega), h.same hf (v := t.2) this.2, ro.adj t ht]
  have := hf t ht
  revert this
  cases f t.1 <;> cases f t.2 <;> cases f (o t.2) <;> simp
theorem Cols.proper (h : Cols E n o (fun _ => True) s) (hE : ∀ t ∈ E, t.1 < t.2 ∧ t.2 < n) (k : SideOk E s) : Proper E (colF s) := fun t ht => by
  have := hE t ht
  obtain ⟨c, e1⟩ := h.fin t.1 (by omega) trivial
  obtain ⟨d, e2⟩ := h.fin t.2 this.2 trivial
  have := k t ht
  rw [e1, e2] at this
  unfold colF
  rw [e1, e2]
  exact fun z => this (congrArg some z)
end
end Wf
set_option maxRecDepth 100000
set_option maxHeartbeats 4000000
/-! W48: near. -/
namespace Wf
open PySem
def nearB : List CS := [
  .set 2 (.comp true [3] [3] false (.rng (.int 0) (.var 0)) (.bl true) (.lst true [])),
  .forr [4, 5] true (.it (.var 1)) [.ex (.mt .append (.idx (.var 2) (.var 4)) [.var 5]), .ex (.mt .append (.idx (.var 2) (.var 5)) [.var 4])],
  .ret (.comp false [6] [6] false (.it (.var 2)) (.bl true) (.bi .sorted [.var 6]))]
def nearD : Def := ⟨2, 7, true, false, nearB⟩
/-- the others of x, by the ties in their order -/
def othS (g : Nat → List Nat) (t : Nat × Nat) : Nat → List Nat := fun x => if x = t.2 then (if x = t.1 then g x ++ [t.2] else g x) ++ [t.1] else if x = t.1 then g x ++ [t.2] else g x
def othF (E : Ties) : Nat → List Nat := E.foldl othS fun _ => []
def nbL (E : Ties) (x : Nat) : List Nat := (othF E x).mergeSort fun a b => decide (a ≤ b)
theorem oth_mem_g : ∀ (E : Ties) (g : Nat → List Nat) (x y : Nat), y ∈ E.foldl othS g x ↔ y ∈ g x ∨ Adj E x y
  | [], g, x, y => by simp [Adj]
  | t :: E, g, x, y => by
    rw [List.foldl_cons, oth_mem_g E]
    have e : y ∈ othS g t x ↔ y ∈ g x ∨ (t.1 = x ∧ t.2 = y) ∨ (t.1 = y ∧ t.2 = x) := by
      unfold othS
      by_cases h2 : x = t.2
      · by_cases h1 : x = t.1
        · simp only [if_pos h2, if_pos h1, List.mem_append, List.mem_singleton]
          rw [or_assoc]
          refine or_congr Iff.rfl ?_
          constructor
          · rintro (h | h)
            · exact .inl ⟨h1.symm, h.symm⟩
            · exact .inr ⟨h.symm, h2.symm⟩
          · rintro (h | h)
            · exact .inl h.2.symm
            · exact .inr h.1.symm
        · simp only [if_pos h2, if_neg h1, List.mem_append, List.mem_singleton]
          refine or_congr Iff.rfl ?_
          constructor
          · exact fun h => .inr ⟨h.symm, h2.symm⟩
          · rintro (h | h)
            · exact absurd h.1.symm h1
            · exact h.1.symm
      · by_cases h1 : x = t.1
        · simp only [if_neg h2, if_pos h1, List.mem_append, List.mem_singleton]
          refine or_congr Iff.rfl ?_
          constructor
          · exact fun h => .inl ⟨h1.symm, h.symm⟩
          · rintro (h | h)
            · exact h.2.symm
            · exact absurd h.2.symm h2
        · simp only [if_neg h2, if_neg h1]
          constructor
          · exact .inl
          · rintro (h | h | h)
            · exact h
            · exact absurd h.1.symm h1
            · exact absurd h.2.symm h2
    rw [e, or_assoc]
    refine or_congr Iff.rfl ?_
    unfold Adj
    simp only [List.mem_cons]
    have a1 : (x, y) = t ↔ t.1 = x ∧ t.2 = y := by
      constructor
      · rintro rfl
        exact ⟨rfl, rfl⟩
      · rintro ⟨rfl, rfl⟩
        rfl
    have a2 : (y, x) = t ↔ t.1 = y ∧ t.2 = x := by
      constructor
      · rintro rfl
        exact ⟨rfl, rfl⟩
      · rintro ⟨rfl, rfl⟩
        rfl
    rw [a1, a2]
    constructor
    · rintro ((h | h) | (h | h))
      · exact .inl (.inl h)
      · exact .inr (.inl h)
      · exact .inl (.inr h)
      · exact .inr (.inr h)
    · rintro ((h | h) | (h | h))
      · exact .inl (.inl h)
      · exact .inr (.inl h)
      · exact .inl (.inr h)
      · exact .inr (.inr h)
theorem mem_nb {E : Ties} {x y : Nat} : y ∈ nbL E x ↔ Adj E x y := by
  unfold nbL
  rw [(List.mergeSort_perm _ _).mem_iff]
  have := oth_mem_g E (fun _ => []) x y
  unfold othF
  rw [this]
  simp
theorem othS_len {g : Nat → List Nat} {t : Nat × Nat} {x k : Nat} (h : (g x).length ≤ 2 * k) : (othS g t x).length ≤ 2 * (k + 1) := by
  unfold othS
  split
  · split
    · simp
      omega
    · simp
      omega
  · split
    · simp
      omega
    · omega
theorem oth_len : ∀ (E : Ties) (g : Nat → List Nat) (x k : Nat), (g x).length ≤ 2 * k → (E.foldl othS g x).length ≤ 2 * (k + E.length)
  | [], g, x, k, h => h
  | t :: E, g, x, k, h => by
    rw [List.foldl_cons]
    have := oth_len E (othS g t) x (k + 1) (othS_len h)
    rw [List.length_cons]
    omega
theorem othF_len (E : Ties) (x : Nat) : (othF E x).length ≤ 2 * E.length := by
  have := oth_len E (fun _ => []) x 0 (by simp)
  unfold othF
  omega
def cellN (lk : Bool) (l : List Nat) : Cell := .lst lk ((l.map natD).map .d)
/-- the store of rows -/
def HnF (g : Nat → List Nat) (n : Nat) (c : Cell) : Store := ((List.range n).map fun x => cellN false (g x)) ++ [c]
theorem HnF_get {g : Nat → List Nat} {n x : Nat} {c : Cell} (h : x < n) : (HnF g n c)[x]? = some (cellN false (g x)) := by
  unfold HnF
  rw [List.getElem?_append_left (by simpa using h), List.getElem?_map, List.getElem?_range h]
  rfl
theorem HnF_last {g : Nat → List Nat} {n : Nat} {c : Cell} : (HnF g n c)[n]? = some c := by
  unfold HnF
  rw [List.getElem?_append_right (by simp)]
  simp
theorem HnF_set {g : Nat → List Nat} {n a : Nat} {c : Cell} {l : List Nat} (h : a < n) : (HnF g n c).set a (cellN false l) = HnF (fun x => if x = a then l else g x) n c := by
  refine List.ext_getElem? fun i => ?_
  rw [List.getElem?_set]
  by_cases hi : i < n
  · rw [HnF_get hi, HnF_get hi]
    by_cases q : i = a
    · subst q
      simp [HnF]
      omega
    · have : ¬ a = i := fun z => q z.symm
      simp [q, this]
  · have q : ¬ a = i := by omega
    rw [if_neg q]
    unfold HnF
    rw [List.getElem?_append_right (by simp; omega), List.getElem?_append_right (by simp; omega)]
    simp
theorem HnF_lock {g : Nat → List Nat} {n : Nat} {xs : List Val} : lockAt (HnF g n (.lst false xs)) (.r n) = HnF g n (.lst true xs) := by
  simp only [lockAt, HnF_last]
  unfold HnF
  rw [List.set_append_right _ _ (by simp)]
  simp
theorem cellN_app {l : List Nat} {b : Nat} : Cell.lst false ((l.map natD).map Val.d ++ [Val.d (.int (b : Int))]) = cellN false (l ++ [b]) := by
  unfold cellN
  simp [natD]
theorem sort_r {S : Store} {k : Nat} {lk : Bool} {l : List Nat} (h : S[k]? = some (cellN lk l)) (hl : l.length ≤ sizeLine) : biop .sorted [.r k] S = some (.d (.list ((l.mergeSort fun a b => decide (a ≤ b)).map natD))) := by
  show ((rdS S (.r k)).bind datsOf).bind _ = _
  rw [rdS_of h]
  show (datsOf _).bind _ = _
  rw [datsOf_map]
  show (if sortOk (l.map natD) = true ∧ (l.map natD).length ≤ sizeLine then some (Val.d (.list (sortD (l.map natD)))) else none) = _
  rw [if_pos ⟨sortOk_nat l, by simpa using hl⟩, sortD_nat]
theorem near_ok (T : Tab) {n : Nat} {E : Ties} (hn : n ≤ 30) (hE : ∀ t ∈ E, t.1 < t.2 ∧ t.2 < n) (hl : E.length ≤ 450) : runP T nearD [.d (.int n), .d (tiesD E)] = some (.list ((List.range n).map fun x => .list ((nbL E x).map natD))) := by
  refine runP_of rfl ?_
  have big : 1000 ≤ sizeLine := by decide
  have e : startW nearD [.d (.int n), .d (tiesD E)] = [some (.d (.int n)), some (.d (tiesD E)), none, none, none, none, none] := rfl
  rw [e]
  have fin : ∀ S, rtQ (.list ((List.range n).map fun x => .list ((nbL E x).map natD))) (.rt (.d (.list ((List.range n).map fun x => .list ((nbL E x).map natD))))) S := fun S => rfl
  generalize rtQ (.list ((List.range n).map fun x => .list ((nbL E x).map natD))) = Q at fin ⊢
  refine seq (fun ρ S => ρ = [some (.d (.int n)), some (.d (tiesD E)), some (.r n), none, none, none, none] ∧ S = HnF (fun _ => []) n (.lst false ((List.range n).map Val.r))) ?_ ?_
  · simp [small_nat (show n < 1000 by omega), show small62 0 = true by decide, rangeV0, lockAt, unlockAt]
    refine wS_mapF (fun rest acc S => ∃ k, k + rest.length = n ∧ S = List.replicate k (.lst false []) ∧ acc = (List.range k).map Val.r) ?_ ⟨0, by simp, rfl, rfl⟩ ?_
    · rintro x r acc _ ⟨k, hk, rfl, rfl⟩
      simp [bindT, setAll]
      refine ⟨k + 1, by simp at hk; omega, ?_, ?_⟩
      · rw [List.replicate_succ']
      · rw [List.range_succ]
        simp
    · rintro ys _ ⟨k, hk, rfl, h⟩
      simp at hk h
      subst hk h
      simp [HnF]
      refine ⟨by omega, ?_⟩
      exact List.ext_getElem (by simp) fun i h1 h2 => by simp [cellN]
  rintro _ _ ⟨rfl, rfl⟩
  refine seq (fun ρ S => ρ = [some (.d (.int n)), some (.d (tiesD E)), some (.r n), none, none, none, none] ∧ S = HnF (othF E) n (.lst false ((List.range n).map Val.r))) ?_ ?_
  · simp [tiesD]
    refine wS_forL (emb := Val.d ∘ tieD) (fun pre ρ S => ρ = [some (.d (.int n)), some (.d (.tuple (E.map tieD))), some (.r n), none, none, none, none] ∧ S = HnF (othF pre) n (.lst false ((List.range n).map Val.r))) ⟨rfl, rfl⟩ ?_ ?_
    · rintro pre t rest _ _ hpre ⟨rfl, rfl⟩
      have ht := hE t (by rw [hpre]; simp)
      have hp : pre.length ≤ 449 := by
        have := congrArg List.length hpre
        simp at this
        omega
      have l1 := othF_len pre t.1
      have l2 := othF_len pre t.2
      have i1 : L2.atI ((List.range n).map Val.r) (t.1 : Int) = some (.r t.1) := by
        rw [atI_get (by simp; omega)]
        simp
      have i2 : L2.atI ((List.range n).map Val.r) (t.2 : Int) = some (.r t.2) := by
        rw [atI_get (by simp; omega)]
        simp
      simp [bindT, tieD, setAll, rdL_of HnF_last, i1]
      refine ⟨⟨_, rdS_of (HnF_get (by omega))⟩, app_w (HnF_get (by omega)) (by simp; omega) ?_⟩
      rw [cellN_app, HnF_set (by omega)]
      simp [rdL_of HnF_last, i2]
      refine ⟨⟨_, rdS_of (HnF_get (by omega))⟩, app_w (HnF_get (by omega)) ?_ ?_⟩
      · split <;> simp <;> omega
      rw [cellN_app, HnF_set (by omega)]
      refine ⟨rfl, ?_⟩
      have e3 : othF (pre ++ [t]) = othS (othF pre) t := by
        unfold othF
        rw [List.foldl_append]
        rfl
      rw [e3]
      congr 1
      funext x
      unfold othS
      by_cases h2 : x = t.2
      · subst h2
        have hne : ¬ t.2 = t.1 := by omega
        simp [hne]
      · simp [h2]
        split
        · rename_i z
          rw [z]
        · rfl
    · rintro _ _ ⟨rfl, rfl⟩
      exact ⟨rfl, rfl⟩
  rintro _ _ ⟨rfl, rfl⟩
  simp [rdS_of HnF_last, HnF_lock]
  refine (wS_lcm (emb := Val.r) (fun x => .list ((nbL E x).map natD)) fun x hx => ?_).mpr ?_
  · have hx : x < n := List.mem_range.mp hx
    have l := othF_len E x
    simp [bindT, setAll, wipeW]
    exact sort_r (HnF_get hx) (by omega)
  · simp
    exact ⟨by omega, fin _⟩
end Wf
set_option maxRecDepth 100000
set_option maxHeartbeats 4000000
/-! W49: lots. -/
namespace Wf
open PySem
def lotsB : List CS := [
  .set 2 (.lrg (.int 0) (.var 0)),
  .forr [3, 4] true (.it (.var 1)) [.par [5, 6] [.idx (.var 2) (.var 3), .idx (.var 2) (.var 4)], .set 2 (.comp false [7] [7] false (.it (.var 2)) (.bl true) (.ife (.cmp .In (.var 7) (.lst false [.var 5, .var 6])) (.bi .min [.var 5, .var 6]) (.var 7)))],
  .ret (.comp false [8] [8] false (.it (.bi .sortedset [.var 2])) (.bl true) (.comp false [7] [7] false (.rng (.int 0) (.var 0)) (.cmp .Eq (.idx (.var 2) (.var 7)) (.var 8)) (.var 7)))]
def lotsD : Def := ⟨2, 9, true, false, lotsB⟩
theorem mem_ddI {x : Int} : ∀ {l : List Int}, x ∈ dedupI l ↔ x ∈ l
  | [] => Iff.rfl
  | y :: r => by
    rw [dedupI]
    split
    · rename_i h
      rw [mem_ddI, List.mem_cons]
      constructor
      · exact .inr
      · rintro (rfl | h2)
        · exact h
        · exact h2
    · rw [List.mem_cons, List.mem_cons, mem_ddI]
theorem nodup_ddI : ∀ {l : List Int}, (dedupI l).Nodup
  | [] => List.nodup_nil
  | y :: r => by
    rw [dedupI]
    split
    · exact nodup_ddI
    · rename_i h
      exact List.nodup_cons.mpr ⟨fun z => h (mem_ddI.mp z), nodup_ddI⟩
theorem len_dedupI : ∀ {l : List Int}, (dedupI l).length ≤ l.length
  | [] => Nat.le_refl _
  | y :: r => by
    have := len_dedupI (l := r)
    rw [dedupI]
    split
    · rw [List.length_cons]
      omega
    · rw [List.length_cons, List.length_cons]
      omega
/-- the least places of the parts -/
def rootsL (n : Nat) (o : Nat → Nat) : List Nat := (sortI (dedupI ((List.range n).map fun x => ((o x : Nat) : Int)))).map Int.toNat
theorem mem_srI {x : Int} {l : List Int} : x ∈ sortI l ↔ x ∈ l := (List.mergeSort_perm l _).mem_iff
theorem roots_cast (n : Nat) (o : Nat → Nat) : sortI (dedupI ((List.range n).map fun x => ((o x : Nat) : Int))) = (rootsL n o).map fun (i : Nat) => (i : Int) := by
  unfold rootsL
  rw [List.map_map]
  refine (List.map_id _).symm.trans (List.map_congr_left fun i hi => ?_)
  rw [mem_srI, mem_ddI, List.mem_map] at hi
  obtain ⟨x, _, rfl⟩ := hi
  rfl
theorem mem_roots {n : Nat} {o : Nat → Nat} {k : Nat} : k ∈ rootsL n o ↔ ∃ x, x < n ∧ o x = k := by
  have h : ((k : Nat) : Int) ∈ (rootsL n o).map (fun (i : Nat) => (i : Int)) ↔ k ∈ rootsL n o := by
    rw [List.mem_map]
    constructor
    · rintro ⟨a, ha, e⟩
      have : a = k := by omega
      exact this ▸ ha
    · exact fun h => ⟨k, h, rfl⟩
  rw [← h, ← roots_cast, mem_srI, mem_ddI, List.mem_map]
  constructor
  · rintro ⟨x, hx, e⟩
    exact ⟨x, List.mem_range.mp hx, by omega⟩
  · rintro ⟨x, hx, rfl⟩
    exact ⟨x, List.mem_range.mpr hx, rfl⟩
theorem nodup_roots {n : Nat} {o : Nat → Nat} : (rootsL n o).Nodup := by
  have h : ((rootsL n o).map fun (i : Nat) => (i : Int)).Nodup := by
    rw [← roots_cast]
    exact (List.mergeSort_perm _ _).nodup_iff.mpr nodup_ddI
  exact List.Pairwise.of_map _ (fun a b z e => z (by rw [e])) h
def lotL (n : Nat) (o : Nat → Nat) (k : Nat) : List Nat := (List.range n).filter fun x => decide (o x = k)
theorem lot_head {n : Nat} {E : Ties} {o : Nat → Nat} (ro : Root E o) {k : Nat} (h : k ∈ rootsL n o) : k < n ∧ o k = k ∧ ∃ r, lotL n o k = k :: r := by
  obtain ⟨x, hx, rfl⟩ := mem_roots.mp h
  have l := ro.le x
  have hk : o x < n := by omega
  refine ⟨hk, ro.idem x, ?_⟩
  unfold lotL
  have e : List.range n = List.range (o x) ++ (o x :: List.range' (o x + 1) (n - (o x + 1))) := by
    have : n = o x + (1 + (n - (o x + 1))) := by omega
    conv => lhs; rw [this, List.range_eq_range', ← List.range'_append_1 (m := o x), ← List.range_eq_range']
    simp [Nat.add_comm 1, List.range'_succ]
  rw [e, List.filter_append, List.filter_eq_nil_iff.mpr, List.nil_append, List.filter_cons, if_pos (decide_eq_true (ro.idem x))]
  · exact ⟨_, rfl⟩
  · intro y hy
    have := List.mem_range.mp hy
    have := ro.le y
    simp
    omega
def lotsV (n : Nat) (o : Nat → Nat) : PyData := .list ((rootsL n o).map fun k => .list ((lotL n o k).map natD))
theorem intsOf_nat (l : List Nat) : intsOf (l.map natD) = some (l.map fun (i : Nat) => (i : Int)) := by
  induction l with
  | nil => rfl
  | cons x r ih =>
    show (intsOf (r.map natD)).map ((x : Int) :: ·) = _
    rw [ih]
    rfl
theorem len_range_dedup {l : List Int} {n : Nat} (h : l.length ≤ n) : (dedupI l).length ≤ n := Nat.le_trans len_dedupI h
theorem sset_m {S : Store} {n : Nat} {o : Nat → Nat} (h : n ≤ 60) : biop .sortedset [.d (.list ((List.range n).map fun x => natD (o x)))] S = some (.d (.list ((rootsL n o).map natD))) := by
  have e : ((List.range n).map fun x => natD (o x)) = ((List.range n).map o).map natD := by simp
  rw [e]
  show ((((rdS S (.d (.list (((List.range n).map o).map natD)))).bind datsOf).bind intsOf).bind fun ns => if ns.length ≤ 1000 ∧ (dedupI ns).length < 64 then some (Val.d (.list ((sortI (dedupI ns)).map .int))) else none) = _
  rw [rdS_lst]
  show (((datsOf ((((List.range n).map o).map natD).map Val.d)).bind intsOf).bind _) = _
  rw [datsOf_map]
  show ((intsOf (((List.range n).map o).map natD)).bind _) = _
  rw [intsOf_nat]
  have e2 : (((List.range n).map o).map fun (i : Nat) => (i : Int)) = (List.range n).map fun x => ((o x : Nat) : Int) := by simp
  rw [e2]
  have l := len_dedupI (l := (List.range n).map fun x => ((o x : Nat) : Int))
  simp only [List.length_map, List.length_range] at l
  show (if ((List.range n).map fun x => ((o x : Nat) : Int)).length ≤ 1000 ∧ _ then _ else _) = _
  rw [if_pos ⟨by simp; omega, by omega⟩, roots_cast]
  congr 3
  simp [natD]
theorem lots_ok (T : Tab) {n : Nat} {E : Ties} (hn : n ≤ 30) (hE : ∀ t ∈ E, t.1 < t.2 ∧ t.2 < n) : runP T lotsD [.d (.int n), .d (tiesD E)] = some (lotsV n (ownF E)) := by
  refine runP_of rfl ?_
  have big : 1000 ≤ sizeLine := by decide
  have e : startW lotsD [.d (.int n), .d (tiesD E)] = [some (.d (.int n)), some (.d (tiesD E)), none, none, none, none, none, none, none] := rfl
  rw [e]
  have fin : ∀ S, rtQ (lotsV n (ownF E)) (.rt (.d (lotsV n (ownF E)))) S := fun S => rfl
  generalize rtQ (lotsV n (ownF E)) = Q at fin ⊢
  refine seq (fun ρ S => ρ = [some (.d (.int n)), some (.d (tiesD E)), some (.d (.list ((List.range n).map natD))), none, none, none, none, none, none] ∧ S = []) ?_ ?_
  · simp [small_nat (show n < 1000 by omega), show small62 0 = true by decide, rangeD0]
    omega
  rintro _ _ ⟨rfl, rfl⟩
  refine seq (fun ρ S => ρ = [some (.d (.int n)), some (.d (tiesD E)), some (.d (.list ((List.range n).map fun x => natD (ownF E x)))), none, none, none, none, none, none] ∧ S = []) ?_ ?_
  · simp [tiesD]
    refine wS_forL (emb := Val.d ∘ tieD) (fun pre ρ S => ρ = [some (.d (.int n)), some (.d (.tuple (E.map tieD))), some (.d (.list ((List.range n).map fun x => natD (ownF pre x)))), none, none, none, none, none, none] ∧ S = []) ⟨rfl, rfl⟩ ?_ ?_
    · rintro pre t rest _ _ hpre ⟨rfl, rfl⟩
      have ht := hE t (by rw [hpre]; simp)
      have i1 : L2.atI (((List.range n).map fun x => natD (ownF pre x)).map Val.d) (t.1 : Int) = some (.d (natD (ownF pre t.1))) := by
        rw [atI_get (by simp; omega)]
        simp
      have i2 : L2.atI (((List.range n).map fun x => natD (ownF pre x)).map Val.d) (t.2 : Int) = some (.d (natD (ownF pre t.2))) := by
        rw [atI_get (by simp; omega)]
        simp
      simp [bindT, tieD, setAll, i1, i2, -List.map_map]
      simp only [List.map_map]
      refine (wS_lcm (emb := Val.d ∘ fun x => natD (ownF pre x)) (fun x => natD (ownS (ownF pre) t x)) fun x hx => ?_).mpr ?_
      · simp [bindT, setAll, wipeW, natD]
        generalize ownF pre = o
        unfold ownS
        refine ⟨by decide, ?_⟩
        by_cases a1 : o x = o t.1
        · right
          refine ⟨.inl (by omega), ?_⟩
          have e4 : (if o x = o t.1 ∨ o x = o t.2 then min (o t.1) (o t.2) else o x) = min (o t.1) (o t.2) := if_pos (.inl a1)
          rw [e4]
          split <;> omega
        · by_cases a2 : o x = o t.2
          · right
            refine ⟨.inr (by omega), ?_⟩
            have e4 : (if o x = o t.1 ∨ o x = o t.2 then min (o t.1) (o t.2) else o x) = min (o t.1) (o t.2) := if_pos (.inr a2)
            rw [e4]
            split <;> omega
          · left
            refine ⟨⟨by omega, by omega⟩, ?_⟩
            rw [if_neg (fun z => z.elim a1 a2)]
      · have e3 : ownF (pre ++ [t]) = ownS (ownF pre) t := by
          unfold ownF
          rw [List.foldl_append]
          rfl
        rw [e3]
        simp [mask]
        omega
    · rintro _ _ ⟨rfl, rfl⟩
      exact ⟨rfl, rfl⟩
  rintro _ _ ⟨rfl, rfl⟩
  simp [sset_m (show n ≤ 60 by omega), -List.map_map]
  simp only [List.map_map]
  have lr : (rootsL n (ownF E)).length ≤ n := nodup_lt nodup_roots fun k hk => (lot_head (root_own E) hk).1
  refine (wS_lcm (emb := Val.d ∘ natD) (fun k => .list ((lotL n (ownF E) k).map natD)) fun k hk => ?_).mpr ?_
  · simp [bindT, setAll, wipeW, small_nat (show n < 1000 by omega), show small62 0 = true by decide, rangeV0]
    refine (wS_lcf (emb := fun (i : Nat) => Val.d (.int (i : Int))) (fun x => decide (ownF E x = k)) natD fun x hx => ?_).mpr ?_
    · have hx : x < n := List.mem_range.mp hx
      have i1 : L2.atI (((List.range n).map fun x => natD (ownF E x)).map Val.d) (x : Int) = some (.d (natD (ownF E x))) := by
        rw [atI_get (by simp; omega)]
        simp
      simp [bindT, setAll, wipeW, i1, -List.map_map]
      simp [natD]
      by_cases a1 : ownF E x = k
      · right
        exact ⟨by omega, a1⟩
      · left
        exact ⟨by omega, a1⟩
    · have l := List.length_filter_le (fun x => decide (ownF E x = k)) (List.range n)
      rw [List.length_range] at l
      simp
      exact ⟨by omega, rfl⟩
  · simp
    exact ⟨by omega, fin _⟩
end Wf
set_option maxRecDepth 100000
set_option maxHeartbeats 4000000
/-! W50: the law's sides. -/
namespace Wf
open PySem
/-! steps that keep what follows out of sight -/
theorem st_whl {T : Tab} {c : CE} {body : List CS} {ρ : EnvW} {S : Store} {Q : Out → Store → Prop} (I : Nat → EnvW → Store → Prop) {m : Nat} (h : I m ρ S)
    (step : ∀ m ρ1 S, I m ρ1 S → ∃ b : Bool, wS (ev T c ρ1) S (fun x S1 => truth x S1 = some b ∧ S1 = S) ∧ (b = true → wS (execs T body ρ1) S (turnQ Q ρ fun ρ1 S2 => ∃ m', m' < m ∧ I m' ρ1 S2)) ∧ (b = false → Q (.nx ρ1) S)) : wS (exec T (.whl c body) ρ) S Q := by
  refine ex_whl.mpr (wS_while I h fun m ρ1 S hI => ?_)
  obtain ⟨b, h1, h2, h3⟩ := step m ρ1 S hI
  rw [wS_bind]
  refine wS_mono h1 fun x S1 ⟨e1, e2⟩ => ?_
  subst e2
  refine wS_ask.mpr ⟨b, e1, ?_⟩
  cases b
  · simpa using h3 rfl
  · simpa using h2 rfl
theorem st_for {T : Tab} {tg : List Nat} {tu : Bool} {it : CE} {body : List CS} {ρ : EnvW} {S : Store} {Q : Out → Store → Prop} (x : PyData) (xs : List Val) (h : wS (evI T it ρ) S fun p S1 => p = (.d x, xs) ∧ S1 = S) (k : wS (forW ρ (turnB T tg tu body) xs ρ) S Q) : wS (exec T (.forr tg tu it body) ρ) S Q := by
  refine ex_for.mpr (wS_mono h fun p S1 ⟨e1, e2⟩ => ?_)
  subst e1 e2
  exact wS_mono k fun o S2 q => q
theorem st_ite {T : Tab} {c : CE} {x y : List CS} {ρ : EnvW} {S : Store} {Q : Out → Store → Prop} (b : Bool) (h : wS (ev T c ρ) S fun v S1 => truth v S1 = some b ∧ S1 = S) (h1 : b = true → wS (execs T x ρ) S Q) (h2 : b = false → wS (execs T y ρ) S Q) : wS (exec T (.ite c x y) ρ) S Q := by
  refine ex_ite.mpr (wS_mono h fun v S1 ⟨e1, e2⟩ => ?_)
  subst e2
  refine ⟨b, e1, ?_⟩
  cases b
  · simpa using h2 rfl
  · simpa using h1 rfl
theorem st_one {T : Tab} {s : CS} {ρ : EnvW} {S : Store} {Q : Out → Store → Prop} (h : wS (exec T s ρ) S Q) : wS (execs T [s] ρ) S Q := by
  refine wS_execs.mpr (wS_mono h fun o S1 q => ?_)
  cases o with
  | nx ρ => exact wS_nil.mpr q
  | _ => exact q
/-- coloured -/
def Cd (s : List (Option Bool)) (v : Nat) : Prop := ∃ c, cl s v = some c
def lotBody : List CS := [
  .sub (.var 2) (.idx (.var 4) (.int 0)) (.int 0),
  .par [5, 6] [.lst true [.idx (.var 4) (.int 0)], .int 0],
  .whl (.cmp .Lt (.var 6) (.bi .len [.var 5])) [
    .forr [7] false (.it (.idx (.var 3) (.idx (.var 5) (.var 6)))) [
      .ite (.cmp .Is (.idx (.var 2) (.var 7)) (.non)) [.sub (.var 2) (.var 7) (.bin .Sub (.int 1) (.idx (.var 2) (.idx (.var 5) (.var 6)))), .ex (.mt .append (.var 5) [.var 7])] []],
    .set 6 (.bin .Add (.var 6) (.int 1))]]
def twoB (jn jl : Nat) : List CS := [
  .set 2 (.keep (.bin .Mult (.lst false [.non]) (.var 0))),
  .set 3 (.callp jn [.var 0, .var 1]),
  .forr [4] false (.it (.callp jl [.var 0, .var 1])) lotBody,
  .ret (.ife (.cmp .Eq (.comp false [8, 9] [8, 9] true (.it (.var 1)) (.cmp .Eq (.idx (.var 2) (.var 8)) (.idx (.var 2) (.var 9))) (.int 1)) (.lst false [])) (.bi .tuple [.var 2]) (.non))]
def twoD (jn jl : Nat) : Def := ⟨2, 10, true, false, twoB jn jl⟩
def colD : Option Bool → PyData
  | none => .none
  | some b => .int (if b = true then 1 else 0)
def sideC (s : List (Option Bool)) : Cell := .lst false ((s.map colD).map .d)
theorem mult_none {S : Store} {n : Nat} (h : n ≤ 1000) : binop .Mult (.d (.list [.none])) (.d (.int (n : Int))) S = some (.d (.list (List.replicate n .none))) := by
  have big : 1000 ≤ sizeLine := by decide
  have h1 : -(2 ^ 63 : Int) ≤ (n : Int) ∧ (n : Int) < 2 ^ 63 ∧ [PyData.none].length * ((n : Int)).toNat ≤ sizeLine := ⟨by omega, by omega, by simp; omega⟩
  simp only [binop]
  rw [if_pos h1]
  have : ∀ n : Nat, (List.replicate n [PyData.none]).flatten = List.replicate n .none := fun n => by
    induction n with
    | zero => rfl
    | succ n ih => rw [List.replicate_succ, List.flatten_cons, ih, List.replicate_succ]; rfl
  rw [Int.toNat_natCast, this]
theorem rep_side {n : Nat} : (.lst false ((List.replicate n PyData.none).map Val.d) : Cell) = sideC (List.replicate n none) := by
  unfold sideC
  rw [List.map_replicate (f := colD)]
  rfl
theorem side_get {s : List (Option Bool)} {v : Nat} (h : v < s.length) : L2.atI ((s.map colD).map Val.d) (v : Int) = some (.d (colD (cl s v))) := by
  rw [atI_get (by simpa using h)]
  unfold cl
  rw [List.getD_eq_getElem?_getD, List.getElem?_eq_getElem h]
  simp
theorem side_set {s : List (Option Bool)} {v : Nat} {c : Option Bool} : (Cell.lst false (((s.map colD).map Val.d).set v (.d (colD c)))) = sideC (s.set v c) := by
  unfold sideC
  rw [List.map_set, List.map_set]
theorem que_get {q : List Nat} {k : Nat} (h : k < q.length) : L2.atI ((q.map natD).map Val.d) (k : Int) = some (.d (natD q[k])) := by
  rw [atI_get (by simpa using h)]
  simp
theorem ixN_nat {n k : Nat} (h : k < n) : L2.ixN n (k : Int) = some k := by
  unfold L2.ixN
  rw [if_pos (by omega), if_pos (by omega)]
  simp
theorem isNone_col {c : Option Bool} : isNone (.d (colD c)) = c.isNone := by cases c <;> rfl
/-- the store while a lot is walked -/
def LoS (s : List (Option Bool)) (R : Store) (q : List Nat) : Store := sideC s :: (R ++ [cellN false q])
theorem LoS0 {s : List (Option Bool)} {R : Store} {q : List Nat} : (LoS s R q)[0]? = some (sideC s) := rfl
theorem LoSq {s : List (Option Bool)} {R : Store} {q : List Nat} : (LoS s R q)[R.length + 1]? = some (cellN false q) := by simp [LoS]
theorem LoS_set0 {s s' : List (Option Bool)} {R : Store} {q : List Nat} : (LoS s R q).set 0 (sideC s') = LoS s' R q := rfl
theorem LoS_setq {s : List (Option Bool)} {R : Store} {q q' : List Nat} : (LoS s R q).set (R.length + 1) (cellN false q') = LoS s R q' := by simp [LoS]
def nearV (E : Ties) (n : Nat) : PyData := .list ((List.range n).map fun x => .list ((nbL E x).map natD))
theorem lot_ok {T : Tab} {E : Ties} {n : Nat} {o : Nat → Nat} {D : Nat → Prop} {s : List (Option Bool)} {r : Nat} {tl : List PyData} {R : Store} {Q : Out → Store → Prop} {d0 d1 : Val} (ro : Root E o) (hn : n ≤ 30) (hE : ∀ t ∈ E, t.1 < t.2 ∧ t.2 < n) (hs : Cols E n o D s) (hr : r < n) (ho : o r = r) (hD : ¬ D r)
    (fin : ∀ s' q (k : Int), Cols E n o (fun x => D x ∨ x = r) s' → Q (.nx [some d0, some d1, some (.r 0), some (.d (nearV E n)), some (.d (.list (natD r :: tl))), some (.r (R.length + 1)), some (.d (.int k)), none, none, none]) (LoS s' R q)) :
    wS (execs T lotBody [some d0, some d1, some (.r 0), some (.d (nearV E n)), some (.d (.list (natD r :: tl))), none, none, none, none, none]) (sideC s :: R) Q := by
  have big : 1000 ≤ sizeLine := by decide
  have adjn : ∀ {x y : Nat}, Adj E x y → y < n := fun {x y} h => by
    rcases h with h | h
    · exact (hE _ h).2
    · have := hE _ h
      simp only at this
      omega
  have nearE : nearV E n = .list ((List.range n).map fun x => .list ((nbL E x).map natD)) := rfl
  refine seq (fun ρ S => ρ = [some d0, some d1, some (.r 0), some (.d (nearV E n)), some (.d (.list (natD r :: tl))), none, none, none, none, none] ∧ S = sideC (s.set r (some false)) :: R) ?_ ?_
  · simp
    refine put_w (k := 0) rfl (ixN_nat (by simpa [hs.len] using hr)) ?_
    rw [← side_set]
    simp
    rfl
  rintro _ _ ⟨rfl, rfl⟩
  refine seq (fun ρ S => ρ = [some d0, some d1, some (.r 0), some (.d (nearV E n)), some (.d (.list (natD r :: tl))), some (.r (R.length + 1)), some (.d (.int 0)), none, none, none] ∧ S = LoS (s.set r (some false)) R [r]) ?_ ?_
  · simp [setAll, show 1 ≤ sizeLine by decide]
    rfl
  rintro _ _ ⟨rfl, rfl⟩
  have b0 := hs.start hr ho hD
  generalize s.set r (some false) = s1 at b0 ⊢
  refine st_one ?_
  refine st_whl (fun m ρ S => ∃ s q, ∃ k : Nat, ρ = [some d0, some d1, some (.r 0), some (.d (nearV E n)), some (.d (.list (natD r :: tl))), some (.r (R.length + 1)), some (.d (.int (k : Int))), none, none, none] ∧ S = LoS s R q ∧ Bfs E n o D r s q ∧ k ≤ q.length ∧ m + k = n ∧ ∀ i x, i < k → q[i]? = some x → ∀ y, Adj E x y → Cd s y) (m := n) ⟨s1, [r], 0, rfl, rfl, b0, by simp, by simp, fun i x h => by omega⟩ ?_
  rintro m _ _ ⟨s, q, k, rfl, rfl, hb, hk, hm, hc⟩
  have ql := hb.qlen
  have len1 : biop .len [.r (R.length + 1)] (LoS s R q) = some (.d (.int (q.length : Nat))) := by
    rw [len_r LoSq]
    simp
  refine ⟨decide (k < q.length), by simp [len1]; exact (Nat.lt_or_ge k q.length).symm, fun hlt => ?_, fun hge => ?_⟩
  · have hlt : k < q.length := of_decide_eq_true hlt
    have hxm : q[k] ∈ q := List.getElem_mem hlt
    obtain ⟨hx, hox, c, hcx⟩ := hb.mem _ hxm
    have i1 : ∀ s', rdL (LoS s' R q) (.r (R.length + 1)) = some ((q.map natD).map Val.d) := fun s' => rdL_of LoSq
    have i2 := que_get hlt
    have i3 : L2.atI (((List.range n).map fun x => PyData.list ((nbL E x).map natD)).map Val.d) ((q[k] : Nat) : Int) = some (.d (.list ((nbL E q[k]).map natD))) := by
      rw [atI_get (by simpa using hx)]
      simp
    refine seq (fun ρ S => ρ = [some d0, some d1, some (.r 0), some (.d (nearV E n)), some (.d (.list (natD r :: tl))), some (.r (R.length + 1)), some (.d (.int (k : Int))), none, none, none] ∧ ∃ s' w, S = LoS s' R (q ++ w) ∧ Bfs E n o D r s' (q ++ w) ∧ (∀ v, Cd s v → Cd s' v) ∧ ∀ y ∈ nbL E q[k], Cd s' y) ?_ ?_
    · refine st_for (.list ((nbL E q[k]).map natD)) ((nbL E q[k]).map (Val.d ∘ natD)) ?_ ?_
      · simp [nearE, i1, i2, natD, i3, -List.map_map]
        simp [natD]
      refine wS_forL (emb := Val.d ∘ natD) (fun pre ρ S => ρ = [some d0, some d1, some (.r 0), some (.d (nearV E n)), some (.d (.list (natD r :: tl))), some (.r (R.length + 1)), some (.d (.int (k : Int))), none, none, none] ∧ ∃ s' w, S = LoS s' R (q ++ w) ∧ Bfs E n o D r s' (q ++ w) ∧ (∀ v, Cd s v → Cd s' v) ∧ ∀ y ∈ pre, Cd s' y) ⟨rfl, s, [], by simp, by simpa using hb, fun _ h => h, fun _ h => by cases h⟩ ?_ ?_
      · rintro pre y rest _ _ hpre ⟨rfl, s', w, rfl, hb', hmono, hpr⟩
        have hay : Adj E q[k] y := mem_nb.mp (by rw [hpre]; simp)
        have hy := adjn hay
        have ys : y < s'.length := by rw [hb'.len]; exact hy
        have lenw := hb'.qlen
        have lenw2 := lenw
        rw [List.length_append] at lenw2
        refine turnB_w.mpr ⟨_, rfl, st_one ?_⟩
        have i0 : rdL (LoS s' R (q ++ w)) (.r 0) = some ((s'.map colD).map Val.d) := rdL_of LoS0
        have iq : rdL (LoS s' R (q ++ w)) (.r (R.length + 1)) = some (((q ++ w).map natD).map Val.d) := rdL_of LoSq
        have hlt2 : k < (q ++ w).length := by rw [List.length_append]; omega
        have iqk := que_get hlt2
        have eqk : (q ++ w)[k] = q[k] := List.getElem_append_left hlt
        rw [eqk] at iqk
        obtain ⟨d, hd⟩ := hmono _ ⟨c, hcx⟩
        refine st_ite (cl s' y).isNone ?_ (fun hno => ?_) fun hso => ?_
        · simp [natD, i0, side_get ys, isNone_col, -List.map_map]
          cases cl s' y <;> simp
        · have hno : cl s' y = none := by simpa using hno
          have xs : q[k] < s'.length := by rw [hb'.len]; exact hx
          have hadd := hb'.add ro (List.mem_append_left _ hxm) hd hay hy hno
          refine seq (fun ρ S => ρ = [some d0, some d1, some (.r 0), some (.d (nearV E n)), some (.d (.list (natD r :: tl))), some (.r (R.length + 1)), some (.d (.int (k : Int))), some (.d (natD y)), none, none] ∧ S = LoS (s'.set y (some (!d))) R (q ++ w)) ?_ ?_
          · rw [natD] at iqk
            simp [natD, i0, iq, iqk, -List.map_map, -List.map_append, side_get xs, hd, colD]
            refine put_w (k := 0) LoS0 (ixN_nat (by simpa using ys)) ?_
            have := side_set (s := s') (v := y) (c := some !d)
            have e0 : LoS (s'.set y (some !d)) R (q ++ w) = (LoS s' R (q ++ w)).set 0 (sideC (s'.set y (some !d))) := rfl
            rw [e0, ← this]
            cases d <;> rfl
          rintro _ _ ⟨rfl, rfl⟩
          refine st_one ?_
          simp
          refine ⟨⟨_, rdS_of LoSq⟩, app_w (d := .int (y : Int)) LoSq (by simp; omega) ?_⟩
          rw [cellN_app, LoS_setq]
          refine ⟨rfl, s'.set y (some (!d)), w ++ [y], by rw [List.append_assoc], by rw [← List.append_assoc]; exact hadd, fun v hv => ?_, fun v hv => ?_⟩
          · obtain ⟨e, he⟩ := hmono v hv
            unfold Cd
            rw [cl_set ys]
            split
            · exact ⟨_, rfl⟩
            · exact ⟨e, he⟩
          · unfold Cd
            rw [cl_set ys]
            split
            · exact ⟨_, rfl⟩
            · rename_i nv
              rcases hv with z | z
              · exact hpr v z
              · exact absurd z nv
        · have hso : ∃ e, cl s' y = some e := by
            cases q1 : cl s' y with
            | none => rw [q1] at hso; cases hso
            | some e => exact ⟨e, rfl⟩
          refine wS_nil.mpr ⟨rfl, s', w, rfl, hb', hmono, fun v hv => ?_⟩
          rcases List.mem_append.mp hv with z | z
          · exact hpr v z
          · rw [List.mem_singleton.mp z]
            exact hso
      · rintro _ _ ⟨rfl, h⟩
        exact ⟨rfl, h⟩
    rintro _ _ ⟨rfl, s', w, rfl, hb', hmono, hnb⟩
    refine st_one ?_
    simp
    refine ⟨m - 1, by omega, s', q ++ w, k + 1, rfl, rfl, hb', by rw [List.length_append]; omega, by omega, fun i x hi hx2 y hay => ?_⟩
    have hi2 : i < q.length := by omega
    rw [List.getElem?_append_left hi2] at hx2
    by_cases z : i < k
    · exact hmono y (hc i x z hx2 y hay)
    · have : i = k := by omega
      subst this
      rw [List.getElem?_eq_getElem hi2] at hx2
      cases hx2
      exact hnb y (mem_nb.mpr hay)
  · have hge : k = q.length := by
      have := of_decide_eq_false hge
      omega
    subst hge
    refine fin s q _ (hb.done ro fun x hx y hay => ?_)
    obtain ⟨i, hi⟩ := List.getElem?_of_mem hx
    have : i < q.length := by
      rcases Nat.lt_or_ge i q.length with z | z
      · exact z
      · rw [List.getElem?_eq_none z] at hi
        cases hi
    exact hc i x this hi y hay
end Wf
set_option maxRecDepth 100000
set_option maxHeartbeats 4000000
/-! W51: ways up while a part is walked: plain. -/
namespace Wf
/-- the ways up of all coloured places -/
structure UpA (n : Nat) (s : List (Option Bool)) (ab : List (Option Nat)) (rk : Nat → Nat) : Prop where
  alen : ab.length = n
  som : ∀ v u, cl ab v = some u → rk u < rk v ∧ (∃ c, cl s u = some c) ∧ ∃ c, cl s v = some c
/-- those of the part that is walked -/
structure UpQ (E : Ties) (s : List (Option Bool)) (ab : List (Option Nat)) (rk : Nat → Nat) (q : List Nat) (r : Nat) : Prop where
  ups : Ups E ab rk q r
  par : ∀ v ∈ q, cl s v = some (decide (rk v % 2 = 1))
  bd : ∀ v ∈ q, rk v < q.length
def upd (rk : Nat → Nat) (y k : Nat) : Nat → Nat := fun v => if v = y then k else rk v
section
variable {E : Ties} {n : Nat} {s : List (Option Bool)} {ab : List (Option Nat)} {rk : Nat → Nat} {q : List Nat} {r : Nat}
theorem UpA.nil {n : Nat} : UpA n (List.replicate n none) (List.replicate n none) fun _ => 0 := by
  refine ⟨by simp, fun v u h => ?_⟩
  unfold cl at h
  rw [List.getD_eq_getElem?_getD, List.getElem?_replicate] at h
  split at h <;> cases h
theorem UpA.start (h : UpA n s ab rk) (hl : s.length = n) (hr : r < n) (hc : cl s r = none) : UpA n (s.set r (some false)) ab (upd rk r 0) ∧ UpQ E (s.set r (some false)) ab (upd rk r 0) [r] r := by
  have hl : r < s.length := by omega
  have hn : cl ab r = none := by
    cases q : cl ab r with
    | none => rfl
    | some u =>
      obtain ⟨c, e⟩ := (h.som r u q).2.2
      rw [hc] at e
      cases e
  refine ⟨⟨h.alen, fun v u e => ?_⟩, ⟨fun v hv u e => ?_, fun v hv e => ?_⟩, fun v hv => ?_, fun v hv => ?_⟩
  · obtain ⟨a, ⟨c, b⟩, d, f⟩ := h.som v u e
    have nv : v ≠ r := fun z => by rw [z, hc] at f; cases f
    have nu : u ≠ r := fun z => by rw [z, hc] at b; cases b
    refine ⟨by unfold upd; rw [if_neg nv, if_neg nu]; exact a, ⟨c, ?_⟩, d, ?_⟩
    · rw [cl_set hl, if_neg nu]
      exact b
    · rw [cl_set hl, if_neg nv]
      exact f
  · rw [List.mem_singleton] at hv
    subst hv
    rw [show ab.getD v none = cl ab v from rfl, hn] at e
    cases e
  · rw [List.mem_singleton] at hv
    subst hv
    exact ⟨rfl, if_pos rfl⟩
  · rw [List.mem_singleton] at hv
    subst hv
    rw [cl_set hl, if_pos rfl]
    simp [upd]
  · rw [List.mem_singleton] at hv
    subst hv
    simp [upd]
theorem UpA.add (h : UpA n s ab rk) (hq : UpQ E s ab rk q r) (hl : s.length = n) {x y : Nat} (hx : x ∈ q) (ha : Adj E x y) (hy : y < n) (hn : cl s y = none) : UpA n (s.set y (some !decide (rk x % 2 = 1))) (ab.set y (some x)) (upd rk y (rk x + 1)) ∧ UpQ E (s.set y (some !decide (rk x % 2 = 1))) (ab.set y (some x)) (upd rk y (rk x + 1)) (q ++ [y]) r := by
  have hl : y < s.length := by omega
  have al : y < ab.length := by rw [h.alen]; exact hy
  have nq : ∀ v ∈ q, v ≠ y := fun v hv e => by
    have := hq.par v hv
    rw [e, hn] at this
    cases this
  have hxy := nq x hx
  refine ⟨⟨by simpa using h.alen, fun v u e => ?_⟩, ⟨fun v hv u e => ?_, fun v hv e => ?_⟩, fun v hv => ?_, fun v hv => ?_⟩
  · rw [cl_set al] at e
    split at e
    · rename_i z
      subst z
      cases e
      refine ⟨by unfold upd; rw [if_neg hxy, if_pos rfl]; omega, ⟨_, by rw [cl_set hl, if_neg hxy]; exact hq.par x hx⟩, _, by rw [cl_set hl, if_pos rfl]⟩
    · rename_i nv
      obtain ⟨a, ⟨c, b⟩, d, f⟩ := h.som v u e
      have nu : u ≠ y := fun z => by rw [z, hn] at b; cases b
      refine ⟨by unfold upd; rw [if_neg nv, if_neg nu]; exact a, ⟨c, ?_⟩, d, ?_⟩
      · rw [cl_set hl, if_neg nu]
        exact b
      · rw [cl_set hl, if_neg nv]
        exact f
  · rw [show (ab.set y (some x)).getD v none = cl (ab.set y (some x)) v from rfl, cl_set al] at e
    split at e
    · rename_i z
      subst z
      cases e
      exact ⟨List.mem_append_left _ hx, by unfold upd; rw [if_neg hxy, if_pos rfl], ha⟩
    · rename_i nv
      have hv : v ∈ q := by
        rcases List.mem_append.mp hv with k | k
        · exact k
        · exact absurd (List.mem_singleton.mp k) nv
      obtain ⟨a, b, c⟩ := hq.ups.some v hv u e
      exact ⟨List.mem_append_left _ a, by unfold upd; rw [if_neg nv, if_neg (nq u a)]; exact b, c⟩
  · rw [show (ab.set y (some x)).getD v none = cl (ab.set y (some x)) v from rfl, cl_set al] at e
    split at e
    · cases e
    · rename_i nv
      have hv : v ∈ q := by
        rcases List.mem_append.mp hv with k | k
        · exact k
        · exact absurd (List.mem_singleton.mp k) nv
      obtain ⟨a, b⟩ := hq.ups.none v hv e
      exact ⟨a, by unfold upd; rw [if_neg nv]; exact b⟩
  · rw [cl_set hl]
    rcases List.mem_append.mp hv with k | k
    · rw [if_neg (nq v k)]
      unfold upd
      rw [if_neg (nq v k)]
      exact hq.par v k
    · rw [List.mem_singleton] at k
      subst k
      unfold upd
      rw [if_pos rfl, if_pos rfl]
      congr 1
      by_cases z : rk x % 2 = 1
      · have : ¬ ((rk x + 1) % 2 = 1) := by omega
        simp [z, this]
      · have : (rk x + 1) % 2 = 1 := by omega
        simp [z, this]
  · rw [List.length_append, List.length_singleton]
    rcases List.mem_append.mp hv with k | k
    · have := hq.bd v k
      unfold upd
      rw [if_neg (nq v k)]
      omega
    · rw [List.mem_singleton] at k
      subst k
      have := hq.bd x hx
      unfold upd
      rw [if_pos rfl]
      omega
end
end Wf
set_option maxRecDepth 100000
set_option maxHeartbeats 4000000
/-! W52: the law's two sides. -/
namespace Wf
open PySem
theorem runP_ex {T : Tab} {d : Def} {vs : List Val} {P : PyData → Prop} (hl : vs.length = d.np) (h : wS (execs T d.body (startW d vs)) [] fun o S => ∃ x, P x ∧ rtQ x o S) : ∃ x, P x ∧ runP T d vs = some x := by
  obtain ⟨o, S, e, x, hp, q⟩ := h
  exact ⟨x, hp, runP_of hl ⟨o, S, e, q⟩⟩
def NearOk (T : Tab) (j : Nat) : Prop := ∀ (n : Nat) (E : Ties), n ≤ 30 → (∀ t ∈ E, t.1 < t.2 ∧ t.2 < n) → E.length ≤ 450 → T.pure j [.d (.int n), .d (tiesD E)] = some (nearV E n)
def LotsOk (T : Tab) (j : Nat) : Prop := ∀ (n : Nat) (E : Ties), n ≤ 30 → (∀ t ∈ E, t.1 < t.2 ∧ t.2 < n) → T.pure j [.d (.int n), .d (tiesD E)] = some (lotsV n (ownF E))
def sideB (E : Ties) (s : List (Option Bool)) : Bool := E.all fun t => !decide (cl s t.1 = cl s t.2)
def sideT (s : List (Option Bool)) : PyData := .tuple (s.map colD)
theorem colD_eqv {a b : Option Bool} (ha : ∃ c, a = some c) (hb : ∃ c, b = some c) : PyData.eqv (colD a) (colD b) = decide (a = b) := by
  obtain ⟨c, rfl⟩ := ha
  obtain ⟨d, rfl⟩ := hb
  cases c <;> cases d <;> simp [colD]
theorem colD_lv {a : Option Bool} {n : Nat} : lv n (colD a) = true := by cases a <;> simp [colD]
theorem tuple_r {S : Store} {k : Nat} {s : List (Option Bool)} (h : S[k]? = some (sideC s)) : biop .tuple [.r k] S = some (.d (sideT s)) := by
  show ((rdS S (.r k)).bind datsOf).map _ = _
  rw [rdS_of h]
  show (datsOf _).map _ = _
  rw [datsOf_map]
  rfl
theorem two_ok {T : Tab} {jn jl : Nat} (hN : NearOk T jn) (hL : LotsOk T jl) {n : Nat} {E : Ties} (hn : n ≤ 30) (hE : ∀ t ∈ E, t.1 < t.2 ∧ t.2 < n) (hl : E.length ≤ 450) :
    ∃ x, (∃ s, Cols E n (ownF E) (fun _ => True) s ∧ x = if sideB E s = true then sideT s else .none) ∧ runP T (twoD jn jl) [.d (.int n), .d (tiesD E)] = some x := by
  refine runP_ex rfl ?_
  have big : 1000 ≤ sizeLine := by decide
  have e : startW (twoD jn jl) [.d (.int n), .d (tiesD E)] = [some (.d (.int n)), some (.d (tiesD E)), none, none, none, none, none, none, none, none] := rfl
  rw [e]
  have ro := root_own E
  have fin : ∀ s S x, Cols E n (ownF E) (fun _ => True) s → x = (if sideB E s = true then sideT s else .none) → (fun o S => ∃ x, (∃ s, Cols E n (ownF E) (fun _ => True) s ∧ x = if sideB E s = true then sideT s else .none) ∧ rtQ x o S) (.rt (.d x)) S := fun s S x hc hx => ⟨x, ⟨s, hc, hx⟩, rfl⟩
  generalize (fun o S => ∃ x, (∃ s, Cols E n (ownF E) (fun _ => True) s ∧ x = if sideB E s = true then sideT s else .none) ∧ rtQ x o S) = Q at fin ⊢
  have hL := hL n E hn hE
  generalize ownF E = o at *
  refine seq (fun ρ S => ρ = [some (.d (.int n)), some (.d (tiesD E)), some (.r 0), none, none, none, none, none, none, none] ∧ S = [sideC (List.replicate n none)]) ?_ ?_
  · simp [show 1 ≤ sizeLine by decide, mult_none (show n ≤ 1000 by omega)]
    refine ⟨by omega, ?_⟩
    rw [← rep_side, List.map_replicate]
  rintro _ _ ⟨rfl, rfl⟩
  refine seq (fun ρ S => ρ = [some (.d (.int n)), some (.d (tiesD E)), some (.r 0), some (.d (nearV E n)), none, none, none, none, none, none] ∧ S = [sideC (List.replicate n none)]) ?_ ?_
  · simp [hN n E hn hE hl]
  rintro _ _ ⟨rfl, rfl⟩
  refine seq (fun ρ S => ρ = [some (.d (.int n)), some (.d (tiesD E)), some (.r 0), some (.d (nearV E n)), none, none, none, none, none, none] ∧ ∃ s R, S = sideC s :: R ∧ Cols E n o (fun _ => True) s) ?_ ?_
  · refine st_for (lotsV n o) ((rootsL n o).map fun k => Val.d (.list ((lotL n o k).map natD))) ?_ ?_
    · simp [hL, lotsV]
    refine wS_forL (emb := fun k => Val.d (.list ((lotL n o k).map natD))) (fun pre ρ S => ρ = [some (.d (.int n)), some (.d (tiesD E)), some (.r 0), some (.d (nearV E n)), none, none, none, none, none, none] ∧ ∃ s R, S = sideC s :: R ∧ Cols E n o (fun x => x ∈ pre) s) ⟨rfl, _, [], rfl, cols_nil (fun v h => by cases h)⟩ ?_ ?_
    · rintro pre k rest _ _ hpre ⟨rfl, s, R, rfl, hc⟩
      obtain ⟨hk, hok, r, hr⟩ := lot_head (n := n) ro (k := k) (by rw [hpre]; simp)
      have hnd : k ∉ pre := fun z => by
        have nd := nodup_roots (n := n) (o := o)
        rw [hpre] at nd
        exact (List.nodup_append.mp nd).2.2 k z k (by simp) rfl
      rw [hr]
      refine turnB_w.mpr ⟨_, rfl, ?_⟩
      refine lot_ok ro hn hE hc hk hok hnd ?_
      intro s' q i hc'
      refine ⟨rfl, s', R ++ [cellN false q], rfl, hc'.congr fun v hv => ?_⟩
      simp
    · rintro _ _ ⟨rfl, s, R, rfl, hc⟩
      refine ⟨rfl, s, R, rfl, hc.congr fun v hv => ?_⟩
      simp
      exact mem_roots.mpr ⟨v, hv, rfl⟩
  rintro _ _ ⟨rfl, s, R, rfl, hc⟩
  refine st_one (ex_ret.mpr ?_)
  have cdt : ∀ t ∈ E, (∃ c, cl s t.1 = some c) ∧ (∃ c, cl s t.2 = some c) ∧ t.1 < s.length ∧ t.2 < s.length := fun t ht => by
    have := hE t ht
    exact ⟨hc.fin t.1 (by omega) trivial, hc.fin t.2 (by omega) trivial, by rw [hc.len]; omega, by rw [hc.len]; omega⟩
  have i0 : rdL (sideC s :: R) (.r 0) = some ((s.map colD).map Val.d) := rdL_of rfl
  have tup := tuple_r (S := sideC s :: R) (k := 0) (s := s) rfl
  have fb := fin s (sideC s :: R) _ hc rfl
  simp [tiesD]
  refine (wS_lcf (emb := Val.d ∘ tieD) (fun t => decide (cl s t.1 = cl s t.2)) (fun _ => .int 1) fun t ht => ?_).mpr ?_
  · obtain ⟨a1, a2, a3, a4⟩ := cdt t ht
    have hv := colD_eqv a1 a2
    simp [bindT, tieD, setAll, wipeW, i0, side_get a3, side_get a4, -List.map_map, colD_lv, hv]
    exact (Decidable.em _).symm
  · have l := List.length_filter_le (fun t : Nat × Nat => decide (cl s t.1 = cl s t.2)) E
    simp [-List.map_map, and_assoc, eqv_nil]
    refine ⟨by omega, ?_⟩
    by_cases hb : sideB E s = true
    · have hf : E.filter (fun t => decide (cl s t.1 = cl s t.2)) = [] := List.filter_eq_nil_iff.mpr fun t ht => by
        have := List.all_eq_true.mp hb t ht
        simpa using this
      rw [if_pos hb] at fb
      right
      refine ⟨fun x _ _ _ _ z => by subst z; simp, by rw [hf]; simp, _, tup, fb⟩
    · have hf : ∃ t r, E.filter (fun t => decide (cl s t.1 = cl s t.2)) = t :: r := by
        cases q : E.filter (fun t => decide (cl s t.1 = cl s t.2)) with
        | nil =>
          refine absurd (List.all_eq_true.mpr fun t ht => ?_) hb
          have := List.filter_eq_nil_iff.mp q t ht
          simpa using this
        | cons t r => exact ⟨t, r, rfl⟩
      obtain ⟨t, r, hf⟩ := hf
      rw [if_neg hb] at fb
      left
      exact ⟨fun x _ _ _ _ z => by subst z; simp, by rw [hf]; simp, fb⟩
end Wf
set_option maxRecDepth 100000
set_option maxHeartbeats 4000000
/-! W53: sides_of. -/
namespace Wf
open PySem
def BesOk (T : Tab) (j : Nat) : Prop := ∀ (E : Ties) (p : Nat), E.length ≤ 900 → T.pure j [.d (tiesD E), .d (.int p)] = some (rowD (besideL E p))
def RbyOk (T : Tab) (j : Nat) : Prop := ∀ (ab : List (Option Nat)) (rk : Nat → Nat) (a b : Nat), (∀ v u, ab.getD v none = some u → rk u < rk v ∧ u < ab.length) → a < ab.length → b < ab.length → rk a ≤ 300 → rk b ≤ 300 → (∃ m, (wayL ab (rk a) a).find? (fun x => decide (x ∈ wayL ab (rk b) b)) = some m) →
  T.pure j [.d (.list (ab.map optD)), .d (.int a), .d (.int b)] = some (rowD (ringBy (wayL ab (rk a) a) (wayL ab (rk b) b)))
theorem mem_beside {E : Ties} (hE : ∀ t ∈ E, t.1 < t.2) {p y : Nat} : y ∈ besideL E p ↔ Adj E p y := by
  unfold besideL
  rw [(List.mergeSort_perm _ _).mem_iff, List.mem_map]
  constructor
  · rintro ⟨t, ht, rfl⟩
    obtain ⟨h1, h2⟩ := List.mem_filter.mp ht
    have := hE t h1
    obtain ⟨a, b⟩ := t
    simp at h2 this
    rcases h2 with rfl | rfl
    · left
      simpa using h1
    · right
      simpa using h1
  · rintro (h | h)
    · refine ⟨_, List.mem_filter.mpr ⟨h, by simp⟩, ?_⟩
      simp
    · refine ⟨_, List.mem_filter.mpr ⟨h, by simp⟩, ?_⟩
      simp
theorem bes_len {E : Ties} {p : Nat} : (besideL E p).length ≤ E.length := by
  unfold besideL
  rw [(List.mergeSort_perm _ _).length_eq, List.length_map]
  exact List.length_filter_le _ _
theorem tupOnly_row (l : List Nat) : tupOnly (rowD l) = true := by
  have : tupOnlys (l.map natD) = true := by
    induction l with
    | nil => rfl
    | cons x r ih => simpa [tupOnlys, tupOnly, natD] using ih
  simpa [rowD, tupOnly] using this
section
variable {T : Tab} {ρ : EnvW} {S : Store}
theorem ex_parsub {os is es : List CE} {Q : Out → Store → Prop} : wS (exec T (.parsub os is es) ρ) S Q ↔ wS (evs T es ρ) S fun vs S1 => wS (mkT vs) S1 fun v S2 => ∃ ds, v = .d (.tuple ds) ∧ wS (putEach T ρ os is (ds.map Val.d)) S2 fun _ S3 => Q (.nx ρ) S3 := by
  show wS (sbind (sbind _ _) _) S Q ↔ _
  simp only [wS_bind]
  constructor
  · intro h
    refine wS_mono h fun vs S1 h => wS_mono h fun v S2 h => ?_
    split at h
    · refine ⟨_, rfl, ?_⟩
      simpa only [wS_bind, wS_ret] using h
    · exact (wS_fail.mp h).elim
  · intro h
    refine wS_mono h fun vs S1 h => wS_mono h fun v S2 h => ?_
    obtain ⟨ds, rfl, h⟩ := h
    simpa only [wS_bind, wS_ret] using h
theorem putEach_c {o i : CE} {os is : List CE} {v : Val} {vs : List Val} {Q : Unit → Store → Prop} : wS (putEach T ρ (o :: os) (i :: is) (v :: vs)) S Q ↔ wS (ev T o ρ) S fun x S1 => wS (ev T i ρ) S1 fun y S2 => wS (putS x y v) S2 fun _ S3 => wS (putEach T ρ os is vs) S3 Q := by
  show wS (sbind _ _) S Q ↔ _
  simp only [wS_bind]
theorem putEach_n {Q : Unit → Store → Prop} : wS (putEach T ρ [] [] []) S Q ↔ Q () S := wS_ret
theorem absorb_r {k : Nat} {ds : List PyData} {vs : List Val} {Q : List PyData → Store → Prop} (h : S[k]? = some (.lst false (ds.map Val.d))) : wS (absorb (.r k :: vs)) S Q ↔ wS (absorb vs) (S.set k .dead) fun xs S1 => Q (.list ds :: xs) S1 := by
  show wS (sbind _ _) S Q ↔ _
  have e : absorb1 (.r k) S = some (.list ds, S.set k .dead) := by
    show (match S[k]? with
      | some (.lst false xs) => match datsOf xs with
        | some ds => some (PyData.list ds, S.set k .dead)
        | none => none
      | _ => none) = _
    rw [h]
    simp only [datsOf_map]
  rw [wS_bind, wS_of e, wS_bind]
  simp only [wS_ret]
theorem dvs_r {k : Nat} {ds : List PyData} {lk : Bool} {r : List Val} (h : S[k]? = some (.lst lk (ds.map Val.d))) : dvs S (.r k :: r) = (dvs S r).map (Val.d (.list ds) :: ·) := by
  have e : dv S (.r k) = some (.d (.list ds)) := by
    show (dr S (.r k)).map Val.d = _
    have : dr S (.r k) = some (.list ds) := by
      show (match S[k]? with
        | some (.lst _ xs) => (datsOf xs).map PyData.list
        | _ => none) = _
      rw [h]
      simp only [datsOf_map]
      rfl
    rw [this]
    rfl
  show (match dv S (.r k), dvs S r with
    | some x, some xs => some (x :: xs)
    | _, _ => none) = _
  rw [e]
  cases dvs S r <;> rfl
end
def aboveC (ab : List (Option Nat)) : Cell := .lst false ((ab.map optD).map .d)
theorem above_set {ab : List (Option Nat)} {v : Nat} {c : Option Nat} : (Cell.lst false (((ab.map optD).map Val.d).set v (.d (optD c)))) = aboveC (ab.set v c) := by
  unfold aboveC
  rw [List.map_set, List.map_set]
theorem rep_above {n : Nat} : (.lst false ((List.replicate n PyData.none).map Val.d) : Cell) = aboveC (List.replicate n none) := by
  unfold aboveC
  rw [List.map_replicate (f := optD)]
  rfl
def SiS (s : List (Option Bool)) (ab : List (Option Nat)) (R : Store) (q : List Nat) : Store := sideC s :: aboveC ab :: (R ++ [cellN false q])
section
variable {s s' : List (Option Bool)} {ab ab' : List (Option Nat)} {R : Store} {q q' : List Nat}
theorem SiS0 : (SiS s ab R q)[0]? = some (sideC s) := rfl
theorem SiS1 : (SiS s ab R q)[1]? = some (aboveC ab) := rfl
theorem SiSq : (SiS s ab R q)[R.length + 2]? = some (cellN false q) := by simp [SiS]
theorem SiS_set0 : (SiS s ab R q).set 0 (sideC s') = SiS s' ab R q := rfl
theorem SiS_set1 : (SiS s ab R q).set 1 (aboveC ab') = SiS s ab' R q := rfl
theorem SiS_setq : (SiS s ab R q).set (R.length + 2) (cellN false q') = SiS s ab R q' := by simp [SiS]
end
/-- tied places that were looked at differ -/
def Opp (E : Ties) (s : List (Option Bool)) (X : Nat → Prop) : Prop := ∀ x, X x → ∃ c, cl s x = some c ∧ ∀ y, Adj E x y → cl s y = some (!c)
theorem Opp.set {E : Ties} {s : List (Option Bool)} {X : Nat → Prop} (h : Opp E s X) {y : Nat} {c : Option Bool} (hy : y < s.length) (hn : cl s y = none) : Opp E (s.set y c) X := fun x hx => by
  obtain ⟨d, h1, h2⟩ := h x hx
  have nx : x ≠ y := fun z => by rw [z, hn] at h1; cases h1
  refine ⟨d, by rw [cl_set hy, if_neg nx]; exact h1, fun z hz => ?_⟩
  have h3 := h2 z hz
  have nz : z ≠ y := fun w => by rw [w, hn] at h3; cases h3
  rw [cl_set hy, if_neg nz]
  exact h3
def partBody (jb jr : Nat) : List CS := [
  .sub (.var 2) (.var 4) (.int 0),
  .par [5, 6] [.lst true [.var 4], .int 0],
  .whl (.cmp .Lt (.var 6) (.bi .len [.var 5])) [
    .set 7 (.idx (.var 5) (.var 6)),
    .forr [8] false (.it (.callp jb [.var 1, .var 7])) [
      .ite (.cmp .Is (.idx (.var 2) (.var 8)) (.non)) [
        .parsub [.var 2, .var 3] [.var 8, .var 8] [.bin .Sub (.int 1) (.idx (.var 2) (.var 7)), .var 7],
        .ex (.mt .append (.var 5) [.var 8])]
       [.ite (.cmp .Eq (.idx (.var 2) (.var 8)) (.idx (.var 2) (.var 7))) [.ret (.tup [.var 2, .callp jr [.var 3, .var 7, .var 8]])] []]],
    .aug 6 (.int 1)]]
def sidesB (jb jr : Nat) : List CS := [
  .par [2, 3] [.keep (.bin .Mult (.lst false [.non]) (.var 0)), .keep (.bin .Mult (.lst false [.non]) (.var 0))],
  .forr [4] false (.rng (.int 0) (.var 0)) [.ite (.cmp .Is (.idx (.var 2) (.var 4)) (.non)) (partBody jb jr) []],
  .ret (.tup [.var 2, .non])]
def sidesD (jb jr : Nat) : Def := ⟨2, 9, true, false, sidesB jb jr⟩
/-- a ring that bars -/
structure BarRing (E : Ties) (n : Nat) (row : List Nat) : Prop where
  nd : row.Nodup
  gt : 2 < row.length
  odd : row.length % 2 = 1
  ar : Around E row
  lt : ∀ x ∈ row, x < n
  no : ¬ ∃ f, Proper E f
theorem part_ok {T : Tab} {jb jr : Nat} (hB : BesOk T jb) (hR : RbyOk T jr) {E : Ties} {n : Nat} {o : Nat → Nat} {s : List (Option Bool)} {ab : List (Option Nat)} {rk : Nat → Nat} {r : Nat} {R : Store} {Q : Out → Store → Prop} {d0 : Val} (ro : Root E o) (hn : n ≤ 30) (hE : ∀ t ∈ E, t.1 < t.2 ∧ t.2 < n) (hl : E.length ≤ 450) (hs : Cols E n o (fun k => k < r) s) (ha : UpA n s ab rk) (hop : Opp E s fun x => x < n ∧ o x < r) (hr : r < n) (ho : o r = r) (hc : cl s r = none)
    (fin : ∀ s' ab' rk' q (k : Int), Cols E n o (fun k => k < r + 1) s' → UpA n s' ab' rk' → Opp E s' (fun x => x < n ∧ o x < r + 1) → Q (.nx [some d0, some (.d (tiesD E)), some (.r 0), some (.r 1), some (.d (natD r)), some (.r (R.length + 2)), some (.d (.int k)), none, none]) (SiS s' ab' R q))
    (bad : ∀ (s' : List (Option Bool)) row S, BarRing E n row → Q (.rt (.d (.tuple [.list (s'.map colD), rowD row]))) S) :
    wS (execs T (partBody jb jr) [some d0, some (.d (tiesD E)), some (.r 0), some (.r 1), some (.d (natD r)), none, none, none, none]) (sideC s :: aboveC ab :: R) Q := by
  have big : 1000 ≤ sizeLine := by decide
  have adjn : ∀ {x y : Nat}, Adj E x y → y < n := fun {x y} h => by
    rcases h with h | h
    · exact (hE _ h).2
    · have := hE _ h
      simp only at this
      omega
  refine seq (fun ρ S => ρ = [some d0, some (.d (tiesD E)), some (.r 0), some (.r 1), some (.d (natD r)), none, none, none, none] ∧ S = sideC (s.set r (some false)) :: aboveC ab :: R) ?_ ?_
  · simp
    refine put_w (k := 0) rfl (ixN_nat (by simpa [hs.len] using hr)) ?_
    rw [← side_set]
    simp
    rfl
  rintro _ _ ⟨rfl, rfl⟩
  refine seq (fun ρ S => ρ = [some d0, some (.d (tiesD E)), some (.r 0), some (.r 1), some (.d (natD r)), some (.r (R.length + 2)), some (.d (.int 0)), none, none] ∧ S = SiS (s.set r (some false)) ab R [r]) ?_ ?_
  · simp [setAll, show 1 ≤ sizeLine by decide]
    rfl
  rintro _ _ ⟨rfl, rfl⟩
  have b0 := hs.start hr ho (Nat.lt_irrefl r)
  obtain ⟨a0, u0⟩ := ha.start (E := E) hs.len hr hc
  have o0 := hop.set (y := r) (c := some false) (by rw [hs.len]; exact hr) hc
  generalize s.set r (some false) = s1 at b0 a0 u0 o0 ⊢
  generalize upd rk r 0 = rk1 at a0 u0
  refine st_one ?_
  refine st_whl (fun m ρ S => ∃ s ab rk q, ∃ k : Nat, ρ = [some d0, some (.d (tiesD E)), some (.r 0), some (.r 1), some (.d (natD r)), some (.r (R.length + 2)), some (.d (.int (k : Int))), none, none] ∧ S = SiS s ab R q ∧ Bfs E n o (fun k => k < r) r s q ∧ UpA n s ab rk ∧ UpQ E s ab rk q r ∧ k ≤ q.length ∧ m + k = n ∧ Opp E s fun x => (x < n ∧ o x < r) ∨ ∃ j, j < k ∧ q[j]? = some x) (m := n) ⟨s1, ab, rk1, [r], 0, rfl, rfl, b0, a0, u0, by simp, by simp, fun x hx => o0 x (by simpa using hx)⟩ ?_
  clear b0 a0 u0 o0 hc hop ha hs
  rintro m _ _ ⟨s, ab, rk, q, k, rfl, rfl, hb, ha, hu, hk, hm, hop⟩
  have ql := hb.qlen
  have len1 : biop .len [.r (R.length + 2)] (SiS s ab R q) = some (.d (.int (q.length : Nat))) := by
    rw [len_r SiSq]
    simp
  refine ⟨decide (k < q.length), by simp [len1]; exact (Nat.lt_or_ge k q.length).symm, fun hlt => ?_, fun hge => ?_⟩
  · have hlt : k < q.length := of_decide_eq_true hlt
    have hxm : q[k] ∈ q := List.getElem_mem hlt
    obtain ⟨hx, hox, _⟩ := hb.mem _ hxm
    have i1 : ∀ s' ab', rdL (SiS s' ab' R q) (.r (R.length + 2)) = some ((q.map natD).map Val.d) := fun s' ab' => rdL_of SiSq
    have i2 := que_get hlt
    have hqk : q[k]? = some q[k] := List.getElem?_eq_getElem hlt
    refine seq (fun ρ S => ρ = [some d0, some (.d (tiesD E)), some (.r 0), some (.r 1), some (.d (natD r)), some (.r (R.length + 2)), some (.d (.int (k : Int))), some (.d (natD q[k])), none] ∧ S = SiS s ab R q) ?_ ?_
    · simp [i1, i2, -List.map_map]
    rintro _ _ ⟨rfl, rfl⟩
    generalize q[k] = x at *
    have hcx := hu.par x hxm
    generalize hcd : decide (rk x % 2 = 1) = c at hcx
    refine seq (fun ρ S => ρ = [some d0, some (.d (tiesD E)), some (.r 0), some (.r 1), some (.d (natD r)), some (.r (R.length + 2)), some (.d (.int (k : Int))), some (.d (natD x)), none] ∧ ∃ s' ab' rk' w, S = SiS s' ab' R (q ++ w) ∧ Bfs E n o (fun k => k < r) r s' (q ++ w) ∧ UpA n s' ab' rk' ∧ UpQ E s' ab' rk' (q ++ w) r ∧ cl s' x = some c ∧ (Opp E s' fun x => (x < n ∧ o x < r) ∨ ∃ j, j < k ∧ q[j]? = some x) ∧ ∀ y ∈ besideL E x, cl s' y = some (!c)) ?_ ?_
    · refine st_for (rowD (besideL E x)) ((besideL E x).map (Val.d ∘ natD)) ?_ ?_
      · simp [hB E x (by omega), rowD, natD]
      refine wS_forL (emb := Val.d ∘ natD) (fun pre ρ S => ρ = [some d0, some (.d (tiesD E)), some (.r 0), some (.r 1), some (.d (natD r)), some (.r (R.length + 2)), some (.d (.int (k : Int))), some (.d (natD x)), none] ∧ ∃ s' ab' rk' w, S = SiS s' ab' R (q ++ w) ∧ Bfs E n o (fun k => k < r) r s' (q ++ w) ∧ UpA n s' ab' rk' ∧ UpQ E s' ab' rk' (q ++ w) r ∧ cl s' x = some c ∧ (Opp E s' fun x => (x < n ∧ o x < r) ∨ ∃ j, j < k ∧ q[j]? = some x) ∧ ∀ y ∈ pre, cl s' y = some (!c)) ⟨rfl, s, ab, rk, [], by simp, by simpa using hb, ha, by simpa using hu, hcx, hop, fun _ h => by cases h⟩ ?_ ?_
      · clear hb ha hu hcx hop hcd
        rintro pre y rest _ _ hpre ⟨rfl, s', ab', rk', w, rfl, hb, ha, hu, hcx, hop, hpr⟩
        have hay : Adj E x y := (mem_beside fun t ht => (hE t ht).1).mp (by rw [hpre]; simp)
        have hy := adjn hay
        have ys : y < s'.length := by rw [hb.len]; exact hy
        have ya : y < ab'.length := by rw [ha.alen]; exact hy
        have xs : x < s'.length := by rw [hb.len]; exact hx
        have lenw := hb.qlen
        rw [List.length_append] at lenw
        have hxm2 : x ∈ q ++ w := List.mem_append_left _ hxm
        have hcd : c = decide (rk' x % 2 = 1) := by
          have := hu.par x hxm2
          rw [hcx] at this
          exact Option.some.inj this
        refine turnB_w.mpr ⟨_, rfl, st_one ?_⟩
        have i0 : rdL (SiS s' ab' R (q ++ w)) (.r 0) = some ((s'.map colD).map Val.d) := rdL_of SiS0
        refine st_ite (cl s' y).isNone ?_ (fun hno => ?_) fun hso => ?_
        · simp [natD, i0, side_get ys, isNone_col, -List.map_map]
          cases cl s' y <;> simp
        · have hno : cl s' y = none := by simpa using hno
          have hadd := hb.add ro hxm2 hcx hay hy hno
          obtain ⟨ha2, hu2⟩ := ha.add hu hb.len hxm2 hay hy hno
          rw [← hcd] at ha2 hu2
          refine seq (fun ρ S => ρ = [some d0, some (.d (tiesD E)), some (.r 0), some (.r 1), some (.d (natD r)), some (.r (R.length + 2)), some (.d (.int (k : Int))), some (.d (natD x)), some (.d (natD y))] ∧ S = SiS (s'.set y (some (!c))) (ab'.set y (some x)) R (q ++ w)) ?_ ?_
          · refine ex_parsub.mpr ?_
            simp [natD, i0, -List.map_map, -List.map_append, side_get xs, hcx, colD, two_le, putEach_c, putEach_n]
            refine put_w (k := 0) SiS0 (ixN_nat (by simpa using ys)) ?_
            have e1 := side_set (s := s') (v := y) (c := some !c)
            have e2 : (SiS s' ab' R (q ++ w)).set 0 (Cell.lst false (((s'.map colD).map Val.d).set y (.d (.int (1 - if c = true then 1 else 0))))) = SiS (s'.set y (some (!c))) ab' R (q ++ w) := by
              rw [← SiS_set0 (s := s') (s' := s'.set y (some (!c))), ← e1]
              cases c <;> rfl
            rw [e2]
            refine put_w (k := 1) SiS1 (ixN_nat (by simpa using ya)) ?_
            rw [← SiS_set1 (ab := ab') (ab' := ab'.set y (some x)), ← above_set]
            rfl
          rintro _ _ ⟨rfl, rfl⟩
          refine st_one ?_
          simp
          refine ⟨⟨_, rdS_of SiSq⟩, app_w (d := .int (y : Int)) SiSq (by simp; omega) ?_⟩
          rw [cellN_app, SiS_setq]
          have nxy : x ≠ y := fun z => by rw [z, hno] at hcx; cases hcx
          refine ⟨rfl, s'.set y (some (!c)), ab'.set y (some x), _, w ++ [y], by rw [List.append_assoc], by rw [← List.append_assoc]; exact hadd, ha2, by rw [← List.append_assoc]; exact hu2, ?_, hop.set ys hno, fun v hv => ?_⟩
          · rw [cl_set ys, if_neg nxy]
            exact hcx
          · rw [cl_set ys]
            split
            · rfl
            · rename_i nv
              rcases hv with z | z
              · exact hpr v z
              · exact absurd z nv
        · obtain ⟨d, hd⟩ : ∃ e, cl s' y = some e := by
            cases q1 : cl s' y with
            | none => rw [q1] at hso; cases hso
            | some e => exact ⟨e, rfl⟩
          refine st_one (st_ite (decide (cl s' y = cl s' x)) ?_ (fun heq => ?_) fun hne => ?_)
          · have hv := colD_eqv ⟨d, hd⟩ ⟨c, hcx⟩
            simp [natD, i0, side_get ys, side_get xs, -List.map_map, colD_lv, hv]
            exact (Decidable.em _).symm
          · have heq : cl s' y = cl s' x := of_decide_eq_true heq
            have hym : y ∈ q ++ w := hb.inq ro hd ((ro.adj2 hay).symm.trans hox)
            have hne : x ≠ y := fun z => by
              subst z
              rcases hay with z | z
              · have := (hE _ z).1
                simp at this
              · have := (hE _ z).1
                simp at this
            have par : rk' x % 2 = rk' y % 2 := by
              have p1 := hu.par x hxm2
              have p2 := hu.par y hym
              rw [heq, p1] at p2
              have := Option.some.inj p2
              by_cases z : rk' x % 2 = 1
              · rw [decide_eq_true z] at this
                have := of_decide_eq_true this.symm
                omega
              · rw [decide_eq_false z] at this
                have := of_decide_eq_false this.symm
                omega
            obtain ⟨mm, hfind, g1, g2, g3, g4, g5⟩ := ring_good hu.ups hxm2 hym hne hay par
            have bx := hu.bd x hxm2
            have by' := hu.bd y hym
            rw [List.length_append] at bx by'
            have call := hR ab' rk' x y (fun v u z => by
              obtain ⟨z1, ⟨cc, z2⟩, _⟩ := ha.som v u z
              exact ⟨z1, by rw [ha.alen, ← hb.len]; exact cl_lt z2⟩) (by rw [ha.alen]; exact hx) ya (by omega) (by omega) ⟨mm, hfind⟩
            have br : BarRing E n (ringBy (wayL ab' (rk' x) x) (wayL ab' (rk' y) y)) := ⟨g1, g2, g3, g4, fun z hz => (hb.mem z (g5 z hz)).1, fun ⟨f, hf⟩ => by
              have f1 := hf.par (hb.par x c hcx)
              have f2 := hf.par (hb.par y d hd)
              have f3 := hf.adj hay
              rw [ro.adj2 hay] at f1
              have : c = d := by
                rw [hd, hcx] at heq
                exact (Option.some.inj heq).symm
              subst this
              rw [← f2] at f1
              rw [f1] at f3
              revert f3
              cases f y <;> simp⟩
            have dv1 := dvs_r (S := SiS s' ab' R (q ++ w)) (k := 1) (ds := ab'.map optD) (r := [.d (.int (x : Int)), .d (.int (y : Int))]) SiS1
            refine st_one (ex_ret.mpr ?_)
            simp [natD]
            refine ⟨_, dv1, _, call, .inr (tupOnly_row _), ?_⟩
            rw [absorb_r SiS0]
            simp [two_le]
            have := bad s' _ ((SiS s' ab' R (q ++ w)).set 0 Cell.dead) br
            simpa using this
          · have hne := of_decide_eq_false hne
            refine wS_nil.mpr ⟨rfl, s', ab', rk', w, rfl, hb, ha, hu, hcx, hop, fun v hv => ?_⟩
            rcases List.mem_append.mp hv with z | z
            · exact hpr v z
            · rw [List.mem_singleton.mp z, hd]
              rw [hd, hcx] at hne
              revert hne
              cases c <;> cases d <;> simp
      · rintro _ _ ⟨rfl, h⟩
        exact ⟨rfl, h⟩
    clear hb ha hu hcx hop hcd
    rintro _ _ ⟨rfl, s', ab', rk', w, rfl, hb, ha, hu, hcx, hop, hnb⟩
    refine st_one ?_
    simp
    refine ⟨m - 1, by omega, s', ab', rk', q ++ w, k + 1, rfl, rfl, hb, ha, hu, by rw [List.length_append]; omega, by omega, fun z hz => ?_⟩
    rcases hz with hz | ⟨j, hj, hz⟩
    · exact hop z (.inl hz)
    · have hj2 : j < q.length := by omega
      rw [List.getElem?_append_left hj2] at hz
      by_cases jk : j < k
      · exact hop z (.inr ⟨j, jk, hz⟩)
      · have : j = k := by omega
        subst this
        rw [hqk] at hz
        cases hz
        exact ⟨c, hcx, fun y hy => hnb y ((mem_beside fun t ht => (hE t ht).1).mpr hy)⟩
  · have hge : k = q.length := by
      have := of_decide_eq_false hge
      omega
    subst hge
    have cd : ∀ x ∈ q, ∃ j, j < q.length ∧ q[j]? = some x := fun x hx => by
      obtain ⟨i, hi⟩ := List.getElem?_of_mem hx
      refine ⟨i, ?_, hi⟩
      rcases Nat.lt_or_ge i q.length with z | z
      · exact z
      · rw [List.getElem?_eq_none z] at hi
        cases hi
    have hd := hb.done ro fun x hx y hay => by
      obtain ⟨c, _, h2⟩ := hop x (.inr (cd x hx))
      exact ⟨_, h2 y hay⟩
    refine fin s ab rk q _ (hd.congr fun v hv => by omega) ha fun x ⟨hx, hlt⟩ => ?_
    by_cases z : o x < r
    · exact hop x (.inl ⟨hx, z⟩)
    · have hox : o x = r := by omega
      obtain ⟨c, hc⟩ := hd.fin x hx (.inr hox)
      exact hop x (.inr (cd x (hb.inq ro hc hox)))
theorem sides_ok {T : Tab} {jb jr : Nat} (hB : BesOk T jb) (hR : RbyOk T jr) {n : Nat} {E : Ties} (hn : n ≤ 30) (hE : ∀ t ∈ E, t.1 < t.2 ∧ t.2 < n) (hl : E.length ≤ 450) :
    ∃ x, ((∃ s, Cols E n (ownF E) (fun _ => True) s ∧ sideB E s = true ∧ x = .tuple [.list (s.map colD), .none]) ∨ ∃ (s : List (Option Bool)) (row : List Nat), BarRing E n row ∧ x = .tuple [.list (s.map colD), rowD row]) ∧ runP T (sidesD jb jr) [.d (.int n), .d (tiesD E)] = some x := by
  refine runP_ex rfl ?_
  have big : 1000 ≤ sizeLine := by decide
  have e : startW (sidesD jb jr) [.d (.int n), .d (tiesD E)] = [some (.d (.int n)), some (.d (tiesD E)), none, none, none, none, none, none, none] := rfl
  rw [e]
  have ro := root_own E
  have fin : ∀ s S, Cols E n (ownF E) (fun _ => True) s → sideB E s = true → (fun o S => ∃ x, ((∃ s, Cols E n (ownF E) (fun _ => True) s ∧ sideB E s = true ∧ x = .tuple [.list (s.map colD), .none]) ∨ ∃ (s : List (Option Bool)) (row : List Nat), BarRing E n row ∧ x = .tuple [.list (s.map colD), rowD row]) ∧ rtQ x o S) (.rt (.d (.tuple [.list (s.map colD), .none]))) S := fun s S hc hx => ⟨_, .inl ⟨s, hc, hx, rfl⟩, rfl⟩
  have bad : ∀ (s' : List (Option Bool)) row S, BarRing E n row → (fun o S => ∃ x, ((∃ s, Cols E n (ownF E) (fun _ => True) s ∧ sideB E s = true ∧ x = .tuple [.list (s.map colD), .none]) ∨ ∃ (s : List (Option Bool)) (row : List Nat), BarRing E n row ∧ x = .tuple [.list (s.map colD), rowD row]) ∧ rtQ x o S) (.rt (.d (.tuple [.list (s'.map colD), rowD row]))) S := fun s row S hb => ⟨_, .inr ⟨s, row, hb, rfl⟩, rfl⟩
  generalize (fun o S => ∃ x, ((∃ s, Cols E n (ownF E) (fun _ => True) s ∧ sideB E s = true ∧ x = .tuple [.list (s.map colD), .none]) ∨ ∃ (s : List (Option Bool)) (row : List Nat), BarRing E n row ∧ x = .tuple [.list (s.map colD), rowD row]) ∧ rtQ x o S) = Q at fin bad ⊢
  generalize ownF E = o at *
  refine seq (fun ρ S => ρ = [some (.d (.int n)), some (.d (tiesD E)), some (.r 0), some (.r 1), none, none, none, none, none] ∧ S = [sideC (List.replicate n none), aboveC (List.replicate n none)]) ?_ ?_
  · simp [show 1 ≤ sizeLine by decide, mult_none (show n ≤ 1000 by omega), setAll]
    refine ⟨by omega, ?_⟩
    rw [← rep_side, ← rep_above, List.map_replicate]
    exact ⟨rfl, rfl⟩
  rintro _ _ ⟨rfl, rfl⟩
  refine seq (fun ρ S => ρ = [some (.d (.int n)), some (.d (tiesD E)), some (.r 0), some (.r 1), none, none, none, none, none] ∧ ∃ s ab rk R, S = sideC s :: aboveC ab :: R ∧ Cols E n o (fun k => k < n) s ∧ UpA n s ab rk ∧ Opp E s fun x => x < n ∧ o x < n) ?_ ?_
  · refine st_for .none (rangeV 0 (n : Int)) ?_ ?_
    · simp [small_nat (show n < 1000 by omega), show small62 0 = true by decide]
    refine wS_forN (fun i ρ S => ρ = [some (.d (.int n)), some (.d (tiesD E)), some (.r 0), some (.r 1), none, none, none, none, none] ∧ ∃ s ab rk R, S = sideC s :: aboveC ab :: R ∧ Cols E n o (fun k => k < i) s ∧ UpA n s ab rk ∧ Opp E s fun x => x < n ∧ o x < i) ⟨rfl, _, _, _, [], rfl, cols_nil (fun v h => by omega), UpA.nil, fun x h => by omega⟩ ?_ ?_
    · rintro i _ _ hi ⟨rfl, s, ab, rk, R, rfl, hc, ha, hop⟩
      have is : i < s.length := by rw [hc.len]; exact hi
      refine turnB_w.mpr ⟨_, rfl, st_one ?_⟩
      have i0 : rdL (sideC s :: aboveC ab :: R) (.r 0) = some ((s.map colD).map Val.d) := rdL_of rfl
      refine st_ite (cl s i).isNone ?_ (fun hno => ?_) fun hso => ?_
      · simp [i0, side_get is, isNone_col, -List.map_map]
        cases cl s i <;> simp
      · have hno : cl s i = none := by simpa using hno
        have hoi : o i = i := by
          have := ro.le i
          rcases Nat.lt_or_ge (o i) i with z | z
          · obtain ⟨c, hcc⟩ := hc.fin i hi z
            rw [hno] at hcc
            cases hcc
          · omega
        refine part_ok hB hR ro hn hE hl hc ha hop hi hoi hno ?_ ?_
        · intro s' ab' rk' q k h1 h2 h3
          exact ⟨rfl, s', ab', rk', R ++ [cellN false q], rfl, h1, h2, h3⟩
        · intro s' row S hb
          exact bad s' row S hb
      · obtain ⟨c, hcc⟩ : ∃ e, cl s i = some e := by
          cases q1 : cl s i with
          | none => rw [q1] at hso; cases hso
          | some e => exact ⟨e, rfl⟩
        have hoi := hc.old i c hcc
        have no : ∀ v, o v ≠ i := fun v z => by
          have := ro.idem v
          rw [z] at this
          omega
        refine wS_nil.mpr ⟨rfl, s, ab, rk, R, rfl, hc.congr fun v hv => ?_, ha, fun x ⟨h1, h2⟩ => hop x ⟨h1, ?_⟩⟩
        · have := no v
          omega
        · have := no x
          omega
    · rintro _ _ ⟨rfl, h⟩
      exact ⟨rfl, h⟩
  rintro _ _ ⟨rfl, s, ab, rk, R, rfl, hc, ha, hop⟩
  refine st_one (ex_ret.mpr ?_)
  simp
  rw [absorb_r rfl]
  simp [two_le]
  have hall : Cols E n o (fun _ => True) s := hc.congr fun v hv => by
    have := ro.le v
    simp
    omega
  have hb : sideB E s = true := List.all_eq_true.mpr fun t ht => by
    have h := hE t ht
    have := ro.le t.1
    obtain ⟨c, h1, h2⟩ := hop t.1 ⟨by omega, by omega⟩
    rw [h1, h2 t.2 (.inl ht)]
    cases c <;> rfl
  have := fin s ((sideC s :: aboveC ab :: R).set 0 Cell.dead) hall hb
  simpa using this
end Wf
set_option maxRecDepth 100000
set_option maxHeartbeats 4000000
/-! W54: rings read by both judges. -/
namespace Wf
open PySem
section
variable {T : Tab} {ρ : EnvW} {S : Store}
theorem ev_dcomp {own tg : List Nat} {tu : Bool} {it c ke ve : CE} {Q : Val → Store → Prop} : wS (ev T (.dcomp own tg tu it c ke ve) ρ) S Q ↔ wS (evI T it ρ) S fun w S1 => wS (mapF (turnD own tg tu ρ (ev T c) (ev T ke) (ev T ve)) w.2) (lockAt S1 w.1) fun ys S2 => wS (mkD ys) (unlockAt S1 S2 w.1) Q := by
  show wS (sbind _ _) S Q ↔ _
  simp only [wS_bind, wS_lock]
theorem turnD_w {own tg : List Nat} {tu : Bool} {fc fk fv : EnvW → SM Val} {x : Val} {Q : List Val → Store → Prop} : wS (turnD own tg tu ρ fc fk fv x) S Q ↔ ∃ ρ1, bindT tg tu x (wipeW ρ own) = some ρ1 ∧ wS (fc ρ1) S fun t S1 => ∃ b, truth t S1 = some b ∧ if b = true then wS (fk ρ1) S1 fun k S2 => wS (fv ρ1) S2 fun v S3 => wS (pairD k v) S3 Q else Q [] S1 := by
  unfold turnD
  cases bindT tg tu x (wipeW ρ own) with
  | none => simp [wS_fail]
  | some ρ1 => simp [wS_bind, wS_ask, wS_ret, wS_if]
@[simp] theorem pairD_d {k v : PyData} {Q : List Val → Store → Prop} : wS (pairD (.d k) (.d v)) S Q ↔ Q [.d (.tuple [k, v])] S := wS_ret
theorem evI_zip {a b : CE} {Q : Val × List Val → Store → Prop} : wS (evI T (.zip a b) ρ) S Q ↔ wS (ev T a ρ) S fun x S1 => wS (ev T b ρ) S1 fun y S2 => ∃ zs, zipW x y S2 = some zs ∧ (!isR x && !isR y) = true ∧ Q (.d .none, zs) S2 := by
  show wS (sbind _ _) S Q ↔ _
  simp only [wS_bind, wS_ask, wS_sif, wS_ret]
theorem mkD_w {S : Store} {ps : List Val} {kvs : List (NestedKey × PyData)} {Q : Val → Store → Prop} (h : dictOf [] ps = some kvs) (hl : kvs.length < sizeLine) (hQ : Q (.r S.length) (S ++ [Cell.dct false kvs])) : wS (mkD ps) S Q := by
  refine ⟨_, _, ?_, hQ⟩
  show (match dictOf [] ps with
    | some kvs => if kvs.length < sizeLine then some (Val.r S.length, S ++ [Cell.dct false kvs]) else none
    | none => none) = _
  rw [h]
  exact if_pos hl
end
/-- the key of a tie -/
def keyT (a b : Int) : NestedKey := .tup [.num a, .num b]
theorem keyT_eq {a b c d : Int} : keyT a b = keyT c d ↔ a = c ∧ b = d := by
  unfold keyT
  simp
theorem dput_look {kvs : List (NestedKey × PyData)} {k j : NestedKey} {d : PyData} : (dlook (dput kvs k d) j).isSome = ((dlook kvs j).isSome || decide (k = j)) := by
  unfold dput dlook
  simp only [Option.isSome_map]
  split
  · rename_i h
    have e : ∀ l : List (NestedKey × PyData), ((l.map fun p => if p.1 = k then (p.1, d) else p).find? fun p => decide (p.1 = j)).isSome = (l.find? fun p => decide (p.1 = j)).isSome := fun l => by
      induction l with
      | nil => rfl
      | cons p r ih =>
        rw [List.map_cons, List.find?_cons, List.find?_cons]
        have e0 : (if p.1 = k then (p.1, d) else p).1 = p.1 := by split <;> rfl
        rw [e0]
        by_cases y : p.1 = j
        · rw [decide_eq_true y]
          rfl
        · rw [decide_eq_false y]
          exact ih
    rw [e]
    by_cases z : k = j
    · subst z
      simp [h]
    · simp [z]
  · rw [List.find?_append]
    by_cases z : k = j
    · subst z
      simp
    · simp [z]
theorem dput_tup {kvs : List (NestedKey × PyData)} {k : NestedKey} {d : PyData} (h : kvs.all (fun p => isTupK p.1) = true) (hk : isTupK k = true) : (dput kvs k d).all (fun p => isTupK p.1) = true := by
  unfold dput
  split
  · rw [List.all_eq_true] at h ⊢
    intro p hp
    obtain ⟨q, hq, rfl⟩ := List.mem_map.mp hp
    split
    · exact h q hq
    · exact h q hq
  · rw [List.all_append, h]
    simp [hk]
theorem dput_le {kvs : List (NestedKey × PyData)} {k : NestedKey} {d : PyData} : (dput kvs k d).length ≤ kvs.length + 1 := by
  unfold dput
  split
  · simp
  · simp
theorem keyN_tie (t : Nat × Nat) : keyN (tieD t) = some (keyT t.1 t.2) := by
  simp [tieD, keyN, keyNs, keyT]
theorem keyT_ok (a b : Int) : (isTupK (keyT a b) && decide ((keyT a b).depth ≤ 8)) = true := by
  simp [keyT, isTupK, NestedKey.depth, NestedKey.depthAll]
theorem dict_ties : ∀ (E : Ties) (kvs : List (NestedKey × PyData)), kvs.all (fun p => isTupK p.1) = true → ∃ kvs', dictOf kvs (E.map fun t => Val.d (.tuple [tieD t, .bool true])) = some kvs' ∧ kvs'.all (fun p => isTupK p.1) = true ∧ kvs'.length ≤ kvs.length + E.length ∧ ∀ a b, (dlook kvs' (keyT a b)).isSome = ((dlook kvs (keyT a b)).isSome || E.any fun t => decide ((t.1 : Int) = a) && decide ((t.2 : Int) = b))
  | [], kvs, h => ⟨kvs, rfl, h, by simp, by simp⟩
  | t :: E, kvs, h => by
    have h1 := dput_tup (k := keyT t.1 t.2) (d := .bool true) h rfl
    obtain ⟨kvs', e1, e2, e3, e4⟩ := dict_ties E _ h1
    have l := dput_le (kvs := kvs) (k := keyT t.1 t.2) (d := .bool true)
    refine ⟨kvs', ?_, e2, by rw [List.length_cons]; omega, fun a b => ?_⟩
    · rw [List.map_cons, dictOf, keyN_tie]
      show (if _ then _ else _) = _
      rw [if_pos (keyT_ok _ _)]
      exact e1
    · rw [e4, dput_look, List.any_cons]
      have : decide (keyT t.1 t.2 = keyT a b) = (decide ((t.1 : Int) = a) && decide ((t.2 : Int) = b)) := by
        rw [← Bool.decide_and]
        exact decide_eq_decide.mpr keyT_eq
      rw [this, Bool.or_assoc]
theorem in_dict {S : Store} {k : Nat} {lk : Bool} {kvs : List (NestedKey × PyData)} {a b : Int} (h : S[k]? = some (.dct lk kvs)) (hk : kvs.all (fun p => isTupK p.1) = true) : cmpop .In (.d (.tuple [.int a, .int b])) (.r k) S = some (dlook kvs (keyT a b)).isSome := by
  have e1 : dctOf S (.r k) = some kvs := by
    show (match S[k]? with
      | some (.dct _ kvs) => some kvs
      | _ => none) = _
    rw [h]
  have e2 : keyFor S kvs (.d (.tuple [.int a, .int b])) = some (keyT a b) := by
    unfold keyFor
    have : (dr S (.d (.tuple [.int a, .int b]))).bind keyN = some (keyT a b) := by simp [keyN, keyNs, keyT]
    rw [this]
    show (if _ then _ else _) = _
    rw [if_pos]
    have := keyT_ok a b
    rw [Bool.and_eq_true] at this ⊢
    exact ⟨by simpa using this, hk⟩
  simp only [cmpop, e1, e2]
  rfl
/-- rows of ints -/
def rowI (l : List Int) : PyData := .tuple (l.map .int)
def tieI (E : Ties) (a b : Int) : Bool := E.any fun t => decide ((t.1 : Int) = min a b) && decide ((t.2 : Int) = max a b)
def arndI (E : Ties) (l : List Int) : Bool := (l.zip (l.drop 1 ++ l.take 1)).all fun p => tieI E p.1 p.2
def goesB : List CS := [
  .set 2 (.dcomp [3] [3] false (.it (.var 0)) (.bl true) (.var 3) (.bl true)),
  .ret (.bi .all [.comp false [4, 5] [4, 5] true (.zip (.var 1) (.bin .Add (.slc (.var 1) (.int 1) (.non)) (.slc (.var 1) (.non) (.int 1)))) (.bl true) (.cmp .In (.tup [.bi .min [.var 4, .var 5], .bi .max [.var 4, .var 5]]) (.var 2))])]
def goesD : Def := ⟨2, 6, true, false, goesB⟩
theorem goes_ok (T : Tab) {E : Ties} {l : List Int} (hE : E.length ≤ 900) (hl : l.length ≤ 900) : runP T goesD [.d (tiesD E), .d (rowI l)] = some (.bool (arndI E l)) := by
  refine runP_of rfl ?_
  have big : 1000 ≤ sizeLine := by decide
  have e : startW goesD [.d (tiesD E), .d (rowI l)] = [some (.d (tiesD E)), some (.d (rowI l)), none, none, none, none] := rfl
  rw [e]
  have fin : ∀ S, rtQ (.bool (arndI E l)) (.rt (.d (.bool (arndI E l)))) S := fun S => rfl
  generalize rtQ (.bool (arndI E l)) = Q at fin ⊢
  obtain ⟨kvs, k1, k2, k3, k4⟩ := dict_ties E [] rfl
  refine seq (fun ρ S => ρ = [some (.d (tiesD E)), some (.d (rowI l)), some (.r 0), none, none, none] ∧ S = [.dct false kvs]) ?_ ?_
  · simp [ev_dcomp, tiesD]
    refine (wS_lcm (emb := Val.d ∘ tieD) (fun t => .tuple [tieD t, .bool true]) fun t ht => ?_).mpr ?_
    · simp [turnD_w, bindT, wipeW, setAll]
    · refine mkD_w (kvs := kvs) (by rw [← k1, List.map_map]; rfl) (by simp at k3; omega) ?_
      exact ⟨rfl, rfl⟩
  rintro _ _ ⟨rfl, rfl⟩
  refine st_one (ex_ret.mpr ?_)
  have c1 : cutW (l.map PyData.int) (some 1) none = (l.drop 1).map PyData.int := by
    rw [List.map_drop]
    exact cutW_from _ 1
  have c2 : cutW (l.map PyData.int) none (some 1) = (l.take 1).map PyData.int := by
    rw [List.map_take]
    exact cutW_to _ 1
  have zip : zipW (.d (.tuple (l.map .int))) (.d (.tuple ((l.drop 1 ++ l.take 1).map .int))) [Cell.dct false kvs] = some ((l.zip (l.drop 1 ++ l.take 1)).map fun p => .d (.tuple [.int p.1, .int p.2])) := by
    show some (((l.map PyData.int).zip ((l.drop 1 ++ l.take 1).map PyData.int)).map fun p => Val.d (.tuple [p.1, p.2])) = _
    rw [List.zip_map, List.map_map]
    rfl
  have lz : (l.zip (l.drop 1 ++ l.take 1)).length ≤ l.length := by
    rw [List.length_zip]
    omega
  simp [evI_zip, ev_slc, CE.isNon, partOf, rowI, c1, c2, -List.drop_one, -List.map_drop, -List.map_take, -List.map_tail]
  have hz : binop .Add (.d (.tuple ((l.drop 1).map PyData.int))) (.d (.tuple ((l.take 1).map PyData.int))) [Cell.dct false kvs] = some (.d (.tuple ((l.drop 1 ++ l.take 1).map .int))) := by
    show (if ((l.drop 1).map PyData.int).length + ((l.take 1).map PyData.int).length ≤ sizeLine then some (Val.d (.tuple ((l.drop 1).map PyData.int ++ (l.take 1).map PyData.int))) else none) = _
    rw [if_pos (by simp; omega), List.map_append]
  refine ⟨_, hz, _, zip, rfl, ?_⟩
  refine (wS_lcm (emb := fun (p : Int × Int) => Val.d (.tuple [.int p.1, .int p.2])) (fun p => .bool (tieI E p.1 p.2)) fun p hp => ?_).mpr ?_
  · simp [bindT, setAll, wipeW, two_le]
    rw [in_dict (k := 0) rfl k2, k4]
    have e1 : (if p.2 < p.1 then p.2 else p.1) = min p.1 p.2 := by split <;> omega
    have e2 : (if p.1 < p.2 then p.2 else p.1) = max p.1 p.2 := by split <;> omega
    rw [e1, e2]
    have e3 : ((dlook [] (keyT (min p.1 p.2) (max p.1 p.2))).isSome || E.any fun t => decide ((t.1 : Int) = min p.1 p.2) && decide ((t.2 : Int) = max p.1 p.2)) = tieI E p.1 p.2 := by simp [dlook, tieI]
    rw [e3]
    cases tieI E p.1 p.2 <;> simp
  · simp [-List.map_map, -List.length_zip, -List.drop_one]
    exact ⟨by omega, fin _⟩
end Wf
set_option maxRecDepth 100000
set_option maxHeartbeats 4000000
/-! W55: odd rings, by both. -/
namespace Wf
open PySem
def nodI (l : List Int) : Bool := decide ((dedupI l).length = l.length)
def oddI (E : Ties) (l : List Int) : Bool := decide (2 < l.length) && (decide (l.length % 2 = 1) && (nodI l && arndI E l))
def oddB (jg : Nat) : List CS := [
  .ret (.and (.cmp .Gt (.bi .len [.var 1]) (.int 2)) (.and (.cmp .Eq (.bin .Mod (.bi .len [.var 1]) (.int 2)) (.int 1)) (.and (.cmp .Eq (.bi .setlen [.var 1]) (.bi .len [.var 1])) (.callp jg [.var 0, .var 1]))))]
def oddD (jg : Nat) : Def := ⟨2, 2, true, false, oddB jg⟩
def ArnOk (T : Tab) (j : Nat) : Prop := ∀ (E : Ties) (l : List Int), E.length ≤ 900 → l.length ≤ 900 → T.pure j [.d (tiesD E), .d (rowI l)] = some (.bool (arndI E l))
theorem intsOf_int (l : List Int) : intsOf (l.map .int) = some l := by
  induction l with
  | nil => rfl
  | cons x r ih =>
    show (intsOf (r.map .int)).map (x :: ·) = _
    rw [ih]
    rfl
theorem setlen_t {S : Store} {l : List Int} (h : l.length ≤ 1000) : biop .setlen [.d (rowI l)] S = some (.d (.int ((dedupI l).length : Nat))) := by
  show ((((rdS S (.d (rowI l))).bind datsOf).bind intsOf).bind fun ns => if ns.length ≤ 1000 then some (Val.d (.int ((dedupI ns).length : Nat))) else none) = _
  have e : (rdS S (.d (rowI l))).bind datsOf = some (l.map .int) := datsOf_map _
  rw [e]
  show ((intsOf (l.map .int)).bind _) = _
  rw [intsOf_int]
  show (if l.length ≤ 1000 then _ else _) = _
  rw [if_pos h]
theorem len_row {S : Store} {l : List Int} : biop .len [.d (rowI l)] S = some (.d (.int (l.length : Nat))) := by
  unfold rowI
  rw [bi_len_t, List.length_map]
theorem odd_ok {T : Tab} {jg : Nat} (hg : ArnOk T jg) {E : Ties} {l : List Int} (hE : E.length ≤ 900) (hl : l.length ≤ 900) : runP T (oddD jg) [.d (tiesD E), .d (rowI l)] = some (.bool (oddI E l)) := by
  refine runP_of rfl ?_
  have g := hg E l hE hl
  have sl := fun S => setlen_t (S := S) (l := l) (by omega)
  by_cases h1 : 2 < l.length
  · have h1' : (2 : Int) < (l.length : Int) := by omega
    by_cases h2 : l.length % 2 = 1
    · have h2' : (l.length : Int) % 2 = 1 := by omega
      by_cases h3 : (dedupI l).length = l.length
      · simp [oddD, oddB, startW, len_row, h1', h2', sl, h3, g, oddI, h1, h2, nodI]
      · have h3' : ¬ (((dedupI l).length : Nat) : Int) = l.length := by omega
        simp [oddD, oddB, startW, len_row, h1', h2', sl, h3', oddI, h1, h2, nodI, h3]
    · have h2' : ¬ (l.length : Int) % 2 = 1 := by omega
      simp [oddD, oddB, startW, len_row, h1', h2', oddI, h1, h2]
  · have h1' : ¬ (2 : Int) < (l.length : Int) := by omega
    simp [oddD, oddB, startW, len_row, h1', oddI, h1]
/-- the law's reading -/
def lawArB (jt : Nat) : List CS := [
  .ite (.or (.cmp .Lt (.bi .len [.var 1]) (.int 3)) (.cmp .NotEq (.bi .setlen [.var 1]) (.bi .len [.var 1]))) [.ret (.bl false)] [],
  .forr [2] false (.rng (.int 0) (.bi .len [.var 1])) [.ite (.not (.callp jt [.var 0, .idx (.var 1) (.bin .Sub (.var 2) (.int 1)), .idx (.var 1) (.var 2)])) [.ret (.bl false)] []],
  .ret (.bl true)]
def lawArD (jt : Nat) : Def := ⟨2, 3, true, false, lawArB jt⟩
def TieOk (T : Tab) (j : Nat) : Prop := ∀ (E : Ties) (a b : Int), T.pure j [.d (tiesD E), .d (.int a), .d (.int b)] = some (.bool (tieI E a b))
/-- the tie that stands ahead of k -/
def prevI (l : List Int) (k : Nat) : Int := if k = 0 then l.getD (l.length - 1) 0 else l.getD (k - 1) 0
theorem arnd_iff {E : Ties} {l : List Int} (h : 0 < l.length) : arndI E l = true ↔ ∀ k, k < l.length → tieI E (prevI l k) (l.getD k 0) = true := by
  have lz : (l.zip (l.drop 1 ++ l.take 1)).length = l.length := by
    rw [List.length_zip]
    simp
    omega
  have hz : ∀ i (hi : i < l.length), (l.zip (l.drop 1 ++ l.take 1))[i]'(by rw [lz]; exact hi) = (l.getD i 0, l.getD ((i + 1) % l.length) 0) := fun i hi => by
    rw [List.getElem_zip]
    refine Prod.ext ?_ ?_
    · simp [List.getD_eq_getElem?_getD, List.getElem?_eq_getElem hi]
    · simp only
      by_cases z : i + 1 < l.length
      · rw [List.getElem_append_left (by simp; omega), Nat.mod_eq_of_lt z, List.getD_eq_getElem?_getD, List.getElem?_eq_getElem z]
        simp
      · have z2 : i + 1 = l.length := by omega
        have e : (i + 1) % l.length = 0 := by rw [z2]; exact Nat.mod_self _
        rw [List.getElem_append_right (by simp; omega), e, List.getD_eq_getElem?_getD, List.getElem?_eq_getElem h]
        simp [show i - (l.length - 1) = 0 by omega]
  unfold arndI
  rw [List.all_eq_true]
  constructor
  · intro a k hk
    by_cases z : k = 0
    · subst z
      have := a _ (List.getElem_mem (by rw [lz]; exact (show l.length - 1 < l.length by omega)))
      rw [hz (l.length - 1) (by omega), show l.length - 1 + 1 = l.length by omega, Nat.mod_self] at this
      simpa [prevI] using this
    · have := a _ (List.getElem_mem (by rw [lz]; exact (show k - 1 < l.length by omega)))
      rw [hz (k - 1) (by omega), show k - 1 + 1 = k by omega, Nat.mod_eq_of_lt hk] at this
      simpa [prevI, z] using this
  · intro a p hp
    obtain ⟨i, hi, rfl⟩ := List.getElem_of_mem hp
    rw [lz] at hi
    rw [hz i hi]
    by_cases z : i + 1 < l.length
    · have := a (i + 1) z
      rw [Nat.mod_eq_of_lt z]
      simpa [prevI] using this
    · have z2 : i + 1 = l.length := by omega
      have := a 0 h
      rw [z2, Nat.mod_self]
      simp only [prevI, if_pos] at this
      rw [show l.length - 1 = i by omega] at this
      exact this
def lawArI (E : Ties) (l : List Int) : Bool := decide (2 < l.length) && (nodI l && arndI E l)
theorem lawAr_ok {T : Tab} {jt : Nat} (ht : TieOk T jt) {E : Ties} {l : List Int} (hl : l.length ≤ 900) : runP T (lawArD jt) [.d (tiesD E), .d (rowI l)] = some (.bool (lawArI E l)) := by
  refine runP_of rfl ?_
  have big : 1000 ≤ sizeLine := by decide
  have e : startW (lawArD jt) [.d (tiesD E), .d (rowI l)] = [some (.d (tiesD E)), some (.d (rowI l)), none] := rfl
  rw [e]
  have fin : ∀ S, rtQ (.bool (lawArI E l)) (.rt (.d (.bool (lawArI E l)))) S := fun S => rfl
  generalize rtQ (.bool (lawArI E l)) = Q at fin ⊢
  have sl := fun S => setlen_t (S := S) (l := l) (by omega)
  by_cases h1 : 2 < l.length
  · by_cases h3 : (dedupI l).length = l.length
    · have h1' : ¬ (l.length : Int) < 3 := by omega
      have h3' : (((dedupI l).length : Nat) : Int) = l.length := by omega
      refine seq (fun ρ S => ρ = [some (.d (tiesD E)), some (.d (rowI l)), none] ∧ S = []) ?_ ?_
      · simp [len_row, sl, h1', h3']
      rintro _ _ ⟨rfl, rfl⟩
      refine seq (fun ρ S => ρ = [some (.d (tiesD E)), some (.d (rowI l)), none] ∧ S = [] ∧ ∀ k, k < l.length → tieI E (prevI l k) (l.getD k 0) = true) ?_ ?_
      · refine st_for .none (rangeV 0 (l.length : Int)) ?_ ?_
        · simp [len_row, small_nat (show l.length < 1000 by omega), show small62 0 = true by decide]
        refine wS_forN (fun i ρ S => ρ = [some (.d (tiesD E)), some (.d (rowI l)), none] ∧ S = [] ∧ ∀ k, k < i → tieI E (prevI l k) (l.getD k 0) = true) ⟨rfl, rfl, fun k hk => by omega⟩ ?_ ?_
        · rintro i _ _ hi ⟨rfl, rfl, hp⟩
          have a1 : L2.atI ((l.map PyData.int).map Val.d) ((i : Int) - 1) = some (.d (.int (prevI l i))) := by
            unfold prevI
            by_cases z : i = 0
            · subst z
              rw [if_pos rfl]
              have hne : l ≠ [] := fun z => by rw [z] at h1; simp at h1
              have : l = l.dropLast ++ [l.getLast hne] := (List.dropLast_concat_getLast hne).symm
              have e1 : l.getD (l.length - 1) 0 = l.getLast hne := by
                rw [List.getLast_eq_getElem, List.getD_eq_getElem?_getD, List.getElem?_eq_getElem (by omega)]
                rfl
              rw [e1]
              conv => lhs; rw [this]
              rw [List.map_append, List.map_append]
              exact atI_last
            · rw [if_neg z]
              have e1 : (i : Int) - 1 = ((i - 1 : Nat) : Int) := by omega
              rw [e1, atI_get (by simp; omega)]
              simp [List.getD_eq_getElem?_getD, List.getElem?_eq_getElem (show i - 1 < l.length by omega)]
          have a2 : L2.atI ((l.map PyData.int).map Val.d) (i : Int) = some (.d (.int (l.getD i 0))) := by
            rw [atI_get (by simp; omega)]
            simp [List.getD_eq_getElem?_getD, List.getElem?_eq_getElem hi]
          have tt := ht E (prevI l i) (l.getD i 0)
          refine turnB_w.mpr ⟨_, rfl, st_one ?_⟩
          refine st_ite (!tieI E (prevI l i) (l.getD i 0)) ?_ (fun hno => ?_) fun hso => ?_
          · rw [List.getD_eq_getElem?_getD] at tt a2 ⊢
            simp [rowI, a1, a2, tt, -List.map_map]
          · refine st_one ?_
            have hf : lawArI E l = false := by
              cases q : arndI E l with
              | false => unfold lawArI; rw [q]; simp
              | true =>
                have := (arnd_iff (by omega)).mp q i hi
                rw [this] at hno
                cases hno
            rw [hf] at fin
            simpa using fin _
          · refine wS_nil.mpr ⟨rfl, rfl, fun k hk => ?_⟩
            by_cases z : k < i
            · exact hp k z
            · have : k = i := by omega
              subst this
              simpa using hso
        · rintro _ _ ⟨rfl, rfl, h⟩
          exact ⟨rfl, rfl, h⟩
      rintro _ _ ⟨rfl, rfl, hp⟩
      have ha := (arnd_iff (E := E) (l := l) (by omega)).mpr hp
      have ht : lawArI E l = true := by simp [lawArI, ha, h1, nodI, h3]
      rw [ht] at fin
      simpa using fin _
    · have h1' : ¬ (l.length : Int) < 3 := by omega
      have h3' : ¬ (((dedupI l).length : Nat) : Int) = l.length := by omega
      have hf : lawArI E l = false := by simp [lawArI, nodI, h3]
      rw [hf] at fin
      refine wS_execs.mpr ?_
      simpa [len_row, sl, h1', h3'] using fin _
  · have h1' : (l.length : Int) < 3 := by omega
    have hf : lawArI E l = false := by simp [lawArI, h1]
    rw [hf] at fin
    refine wS_execs.mpr ?_
    simpa [len_row, sl, h1'] using fin _
def lawOddB (ja : Nat) : List CS := [.ret (.and (.cmp .Eq (.bin .Mod (.bi .int [.bi .len [.var 1]]) (.int 2)) (.int 1)) (.callp ja [.var 0, .var 1]))]
def lawOddD (ja : Nat) : Def := ⟨2, 2, true, false, lawOddB ja⟩
def LawArOk (T : Tab) (j : Nat) : Prop := ∀ (E : Ties) (l : List Int), l.length ≤ 900 → T.pure j [.d (tiesD E), .d (rowI l)] = some (.bool (lawArI E l))
theorem lawOdd_ok {T : Tab} {ja : Nat} (ha : LawArOk T ja) {E : Ties} {l : List Int} (hl : l.length ≤ 900) : runP T (lawOddD ja) [.d (tiesD E), .d (rowI l)] = some (.bool (oddI E l)) := by
  refine runP_of rfl ?_
  have a := ha E l hl
  by_cases h2 : l.length % 2 = 1
  · have h2' : (l.length : Int) % 2 = 1 := by omega
    simp [lawOddD, lawOddB, startW, len_row, h2', a, oddI, lawArI, h2]
  · have h2' : ¬ (l.length : Int) % 2 = 1 := by omega
    simp [lawOddD, lawOddB, startW, len_row, h2', oddI, h2]
end Wf
set_option maxRecDepth 100000
set_option maxHeartbeats 4000000
/-! W56: papers of two sides, read by both. -/
namespace Wf
open PySem
inductive Pap where
  | i (a : Int) | s (x : Str) | t (l : List Int)
def papD : Pap → PyData
  | .i a => .int a
  | .s x => .str x
  | .t l => rowI l
def papsD (ps : List Pap) : PyData := .tuple (ps.map papD)
def verV (w : Str) (ps : List Pap) : PyData := .tuple [.str w, papsD ps]
abbrev sMakes : Str := Str.ofString "makes"
abbrev sBars : Str := Str.ofString "bars"
abbrev sRing : Str := Str.ofString "ring"
def makesI (n : Nat) (E : Ties) (l : List Int) : Bool := decide (l.length = n) && (l.all (fun x => decide (0 = x) || decide (1 = x)) && E.all fun t => !decide (l.getD t.1 0 = l.getD t.2 0))
/-- a paper of ints -/
def intsP : List Pap → Option (List Int)
  | [] => some []
  | .i a :: r => (intsP r).map (a :: ·)
  | _ :: _ => none
def barsP (E : Ties) : List Pap → Bool
  | [.s x, .t l] => decide (x = sRing) && oddI E l
  | _ => false
def readsP (n : Nat) (E : Ties) (w : Str) (ps : List Pap) : Bool := if w = sMakes then (match intsP ps with
    | some l => makesI n E l
    | none => false) else decide (w = sBars) && barsP E ps
def SmallP (ps : List Pap) : Prop := ps.length ≤ 900 ∧ ∀ l, Pap.t l ∈ ps → l.length ≤ 900
theorem intsP_some : ∀ {ps : List Pap} {l : List Int}, intsP ps = some l → ps = l.map .i
  | [], l, h => by cases h; rfl
  | .i a :: r, l, h => by
    rw [intsP] at h
    cases q : intsP r with
    | none => rw [q] at h; cases h
    | some k =>
      rw [q] at h
      cases h
      rw [intsP_some q]
      rfl
  | .s _ :: _, l, h => by cases h
  | .t _ :: _, l, h => by cases h
theorem intsP_none : ∀ {ps : List Pap}, intsP ps = none → rowP (papsD ps) = false
  | [], h => by cases h
  | .i a :: r, h => by
    rw [intsP] at h
    cases q : intsP r with
    | some k => rw [q] at h; cases h
    | none =>
      have := intsP_none q
      simpa [papsD, rowP, papD, isI, isInst, tyOf] using this
  | .s _ :: _, h => by simp [papsD, rowP, papD, isI, isInst, tyOf]
  | .t _ :: _, h => by simp [papsD, rowP, papD, isI, isInst, tyOf, rowI]
theorem intsP_map (l : List Int) : intsP (l.map .i) = some l := by
  induction l with
  | nil => rfl
  | cons x r ih =>
    rw [List.map_cons, intsP, ih]
    rfl
theorem papsD_i (l : List Int) : papsD (l.map .i) = rowI l := by
  unfold papsD rowI
  rw [List.map_map]
  rfl
theorem rowP_rowI (l : List Int) : rowP (rowI l) = true := by
  simp [rowP, rowI, isI, isInst, tyOf]
theorem papD_lv (p : Pap) : lv 38 (papD p) = true := by
  cases p with
  | i a => simp [papD]
  | s a => simp [papD]
  | t l =>
    show (l.map PyData.int).all (lv 37) = true
    simp
theorem papsD_lv (ps : List Pap) : (ps.map papD).all (lv 38) = true := List.all_eq_true.mpr fun d hd => by
  obtain ⟨p, _, rfl⟩ := List.mem_map.mp hd
  exact papD_lv p
theorem papD_small {ps : List Pap} (h : SmallP ps) {d : PyData} (hd : d ∈ ps.map papD) : smallT d ∧ lv 38 d = true := by
  obtain ⟨p, hp, rfl⟩ := List.mem_map.mp hd
  refine ⟨?_, papD_lv p⟩
  cases p with
  | i a => trivial
  | s a => trivial
  | t l =>
    have := h.2 l hp
    show (l.map PyData.int).length ≤ 1000
    simp
    omega
theorem named_bars {ps : List Pap} : (namedP (ps.map papD) sRing = true ∧ ∃ l, ps = [.s sRing, .t l]) ∨ (namedP (ps.map papD) sRing = false ∧ ∀ E, barsP E ps = false) := by
  match ps with
  | [] => exact .inr ⟨rfl, fun _ => rfl⟩
  | [a] => exact .inr ⟨rfl, fun _ => by cases a <;> rfl⟩
  | [a, b] =>
    cases a with
    | i a => exact .inr ⟨by simp [namedP, papD], fun _ => rfl⟩
    | t a => exact .inr ⟨by simp [namedP, papD, rowI], fun _ => rfl⟩
    | s x =>
      cases b with
      | i b => exact .inr ⟨by simp [namedP, papD, rowP], fun _ => rfl⟩
      | s b => exact .inr ⟨by simp [namedP, papD, rowP], fun _ => rfl⟩
      | t l =>
        by_cases h : x = sRing
        · subst h
          exact .inl ⟨by simp [namedP, papD, rowP_rowI], l, rfl⟩
        · exact .inr ⟨by simp [namedP, papD, h], fun E => by simp [barsP, h]⟩
  | a :: b :: c :: r => exact .inr ⟨rfl, fun _ => by cases a <;> cases b <;> rfl⟩
def NamOk (T : Tab) (j : Nat) : Prop := ∀ (ps : List PyData) (x : Str), (∀ d ∈ ps, smallT d ∧ lv 38 d = true) → T.pure j [.d (.tuple ps), .d (.str x)] = some (.bool (namedP ps x))
def OddOk (T : Tab) (j : Nat) : Prop := ∀ (E : Ties) (l : List Int), E.length ≤ 900 → l.length ≤ 900 → T.pure j [.d (tiesD E), .d (rowI l)] = some (.bool (oddI E l))
def verB (jr jn jo : Nat) : List CS := [
  .tset [3, 4] (.var 2),
  .ite (.cmp .Eq (.var 3) (.str (Str.ofString "makes"))) [.ite (.or (.not (.callp jr [.var 4])) (.or (.cmp .NotEq (.bi .len [.var 4]) (.var 0)) (.not (.bi .all [.comp false [5] [5] false (.it (.var 4)) (.bl true) (.cmp .In (.var 5) (.tup [.int 0, .int 1]))])))) [.ret (.bl false)] [], .ret (.bi .all [.comp false [6, 7] [6, 7] true (.it (.var 1)) (.bl true) (.cmp .NotEq (.idx (.var 4) (.var 6)) (.idx (.var 4) (.var 7)))])] [],
  .ret (.and (.cmp .Eq (.var 3) (.str (Str.ofString "bars"))) (.and (.callp jn [.var 4, .str (Str.ofString "ring")]) (.callp jo [.var 1, .idx (.var 4) (.int 1)])))]
def verD (jr jn jo : Nat) : Def := ⟨3, 8, true, false, verB jr jn jo⟩
theorem atI_int {l : List Int} {k : Nat} (h : k < l.length) : L2.atI ((l.map PyData.int).map Val.d) (k : Int) = some (.d (.int (l.getD k 0))) := by
  rw [atI_get (by simpa using h)]
  simp [List.getD_eq_getElem?_getD, List.getElem?_eq_getElem h]
theorem ver_ok {T : Tab} {jr jn jo : Nat} (hr : RowOk T jr) (hN : NamOk T jn) (hO : OddOk T jo) {n : Nat} {E : Ties} {w : Str} {ps : List Pap} (hn : n ≤ 30) (hE : ∀ t ∈ E, t.1 < t.2 ∧ t.2 < n) (hl : E.length ≤ 900) (hp : SmallP ps) :
    runP T (verD jr jn jo) [.d (.int n), .d (tiesD E), .d (verV w ps)] = some (.bool (readsP n E w ps)) := by
  refine runP_of rfl ?_
  have big : 1000 ≤ sizeLine := by decide
  have e : startW (verD jr jn jo) [.d (.int n), .d (tiesD E), .d (verV w ps)] = [some (.d (.int n)), some (.d (tiesD E)), some (.d (verV w ps)), none, none, none, none, none] := rfl
  rw [e]
  have fin : ∀ S, rtQ (.bool (readsP n E w ps)) (.rt (.d (.bool (readsP n E w ps)))) S := fun S => rfl
  generalize rtQ (.bool (readsP n E w ps)) = Q at fin ⊢
  have small : smallT (papsD ps) := by
    show (ps.map papD).length ≤ 1000
    have := hp.1
    simp
    omega
  have plv : lv 38 (papsD ps) = true := by
    show (ps.map papD).all (lv 37) = true
    refine List.all_eq_true.mpr fun d hd => ?_
    obtain ⟨p, _, rfl⟩ := List.mem_map.mp hd
    cases p with
    | i a => simp [papD]
    | s a => simp [papD]
    | t l =>
      show (l.map PyData.int).all (lv 36) = true
      simp
  have hrow := hr _ small plv
  refine seq (fun ρ S => ρ = [some (.d (.int n)), some (.d (tiesD E)), some (.d (verV w ps)), some (.d (.str w)), some (.d (papsD ps)), none, none, none] ∧ S = []) ?_ ?_
  · simp [verV, bindT, setAll]
  rintro _ _ ⟨rfl, rfl⟩
  by_cases hw : w = sMakes
  · refine wS_execs.mpr (st_ite true (by simp [hw]) (fun _ => ?_) fun h => by cases h)
    cases hi : intsP ps with
    | none =>
      rw [intsP_none hi] at hrow
      have hf : readsP n E w ps = false := by simp [readsP, hw, hi]
      rw [hf] at fin
      refine wS_execs.mpr (st_ite true (by simp [hrow]) (fun _ => ?_) fun h => by cases h)
      simpa using fin _
    | some l =>
      have hps := intsP_some hi
      have hll : l.length ≤ 900 := by
        have := hp.1
        rw [hps] at this
        simpa using this
      rw [hps, papsD_i] at hrow ⊢
      rw [rowP_rowI] at hrow
      have hf : readsP n E w ps = makesI n E l := by simp [readsP, hw, hi]
      rw [hf] at fin
      clear hf hi hps small plv
      by_cases hln : l.length = n
      · have hln' : ((l.length : Nat) : Int) = n := by omega
        have body : ∀ b, l.all (fun x => decide (0 = x) || decide (1 = x)) = b → wS (ev T (.or (.not (.callp jr [.var 4])) (.or (.cmp .NotEq (.bi .len [.var 4]) (.var 0)) (.not (.bi .all [.comp false [5] [5] false (.it (.var 4)) (.bl true) (.cmp .In (.var 5) (.tup [.int 0, .int 1]))])))) [some (.d (.int n)), some (.d (tiesD E)), some (.d (verV w ps)), some (.d (.str w)), some (.d (rowI l)), none, none, none]) [] fun x S1 => truth x S1 = some (!b) ∧ S1 = [] := by
          intro b hb
          simp [hrow, len_row, hln']
          simp [rowI]
          refine (wS_lcm (emb := Val.d ∘ PyData.int) (fun x => .bool (decide (0 = x) || decide (1 = x))) fun x hx => ?_).mpr ?_
          · simp [bindT, setAll, wipeW, two_le]
            omega
          · simp [-List.map_map, hb]
            omega
        refine wS_execs.mpr (st_ite (!l.all (fun x => decide (0 = x) || decide (1 = x))) (body _ rfl) (fun hb => ?_) fun hb => ?_)
        · have hf : makesI n E l = false := by
            have hb : l.all (fun x => decide (0 = x) || decide (1 = x)) = false := by simpa using hb
            simp only [makesI, hb]
            simp
          rw [hf] at fin
          simpa using fin _
        · have hb : l.all (fun x => decide (0 = x) || decide (1 = x)) = true := by simpa using hb
          have hf : makesI n E l = E.all fun t => !decide (l.getD t.1 0 = l.getD t.2 0) := by
            simp only [makesI, hb, hln]
            simp
          rw [hf] at fin
          refine wS_nil.mpr (st_one (ex_ret.mpr ?_))
          simp [tiesD]
          refine (wS_lcm (emb := Val.d ∘ tieD) (fun t => .bool (!decide (l.getD t.1 0 = l.getD t.2 0))) fun t ht => ?_).mpr ?_
          · have := hE t ht
            have a1 := atI_int (l := l) (k := t.1) (by omega)
            have a2 := atI_int (l := l) (k := t.2) (by omega)
            rw [List.getD_eq_getElem?_getD] at a1 a2
            simp [bindT, tieD, setAll, wipeW, rowI, a1, a2, -List.map_map]
            exact Decidable.em _
          · simp [-List.map_map, -List.getD_eq_getElem?_getD]
            exact ⟨by omega, fin _⟩
      · have hln' : ¬ ((l.length : Nat) : Int) = n := by omega
        have hf : makesI n E l = false := by simp [makesI, hln]
        rw [hf] at fin
        refine wS_execs.mpr (st_ite true (by simp [hrow, len_row, hln']) (fun _ => ?_) fun h => by cases h)
        simpa using fin _
  · refine wS_execs.mpr (st_ite false (by simp [hw]) (fun h => by cases h) fun _ => ?_)
    refine wS_nil.mpr (st_one (ex_ret.mpr ?_))
    by_cases hb : w = sBars
    · rcases named_bars (ps := ps) with ⟨h1, l, h2⟩ | ⟨h1, h2⟩
      · subst h2
        have hf : readsP n E w [.s sRing, .t l] = oddI E l := by
          unfold readsP
          rw [if_neg hw, hb]
          simp [barsP]
        rw [hf] at fin
        have nm := hN ([Pap.s sRing, .t l].map papD) sRing fun d hd => papD_small hp hd
        rw [h1] at nm
        have od := hO E l hl (hp.2 l (by simp))
        have nm2 : T.pure jn [.d (.tuple [papD (.s sRing), papD (.t l)]), .d (.str (Str.ofString "ring"))] = some (.bool true) := nm
        have od2 : T.pure jo [.d (tiesD E), .d (papD (.t l))] = some (.bool (oddI E l)) := od
        simp only [papsD]
        simp [hb, nm2, od2]
        exact fin _
      · have hf : readsP n E w ps = false := by simp [readsP, hw, h2]
        rw [hf] at fin
        have nm := hN (ps.map papD) sRing fun d hd => papD_small hp hd
        rw [h1] at nm
        simp only [papsD]
        simp [hb, nm]
        exact fin _
    · have hf : readsP n E w ps = false := by simp [readsP, hw, hb]
      rw [hf] at fin
      simp [hb]
      exact fin _
end Wf
set_option maxRecDepth 100000
set_option maxHeartbeats 4000000
/-! W57: the law's reading of papers of two sides. -/
namespace Wf
open PySem
def lrdB (jr jn jo : Nat) : List CS := [
  .tset [3, 4] (.var 2),
  .ite (.cmp .Eq (.var 3) (.str (Str.ofString "makes"))) [.ret (.and (.callp jr [.var 4]) (.and (.cmp .Eq (.bi .len [.var 4]) (.var 0)) (.and (.cmp .Eq (.comp false [5] [5] false (.it (.var 4)) (.cmp .NotIn (.var 5) (.lst false [.int 0, .int 1])) (.var 5)) (.lst false [])) (.cmp .Eq (.comp false [6, 7] [6, 7] true (.it (.var 1)) (.cmp .Eq (.idx (.var 4) (.var 6)) (.idx (.var 4) (.var 7))) (.int 1)) (.lst false [])))))] [],
  .ret (.and (.cmp .Eq (.var 3) (.str (Str.ofString "bars"))) (.and (.callp jn [.var 4, .str (Str.ofString "ring")]) (.callp jo [.var 1, .idx (.var 4) (.int 1)])))]
def lrdD (jr jn jo : Nat) : Def := ⟨3, 8, true, false, lrdB jr jn jo⟩
@[simp] theorem notin_l {S : Store} {a : PyData} {ds : List PyData} : cmpop .NotIn (.d a) (.d (.list ds)) S = if lv 40 a = true ∧ ds.all (lv 39) = true then some (!anyEqv a ds) else none := by
  show (match dr S (.d a), (rdS S (.d (.list ds))).bind datsOf with
    | some a, some ds => if lv 40 a = true ∧ ds.all (lv 39) = true then some (!anyEqv a ds) else none
    | _, _ => none) = _
  simp [datsOf_map]
theorem eqvAll_nil (xs : List PyData) : PyData.eqvAll xs [] = xs.isEmpty := by cases xs <;> simp
theorem isE_filter {α β : Type} (f : α → β) (c : α → Bool) (l : List α) : ((l.filter c).map f).isEmpty = l.all fun a => !c a := by
  induction l with
  | nil => rfl
  | cons a r ih =>
    rw [List.filter_cons, List.all_cons]
    cases h : c a
    · simpa using ih
    · simp
theorem lrd_ok {T : Tab} {jr jn jo : Nat} (hr : RowOk T jr) (hN : NamOk T jn) (hO : OddOk T jo) {n : Nat} {E : Ties} {w : Str} {ps : List Pap} (hn : n ≤ 30) (hE : ∀ t ∈ E, t.1 < t.2 ∧ t.2 < n) (hl : E.length ≤ 900) (hp : SmallP ps) :
    runP T (lrdD jr jn jo) [.d (.int n), .d (tiesD E), .d (verV w ps)] = some (.bool (readsP n E w ps)) := by
  refine runP_of rfl ?_
  have big : 1000 ≤ sizeLine := by decide
  have e : startW (lrdD jr jn jo) [.d (.int n), .d (tiesD E), .d (verV w ps)] = [some (.d (.int n)), some (.d (tiesD E)), some (.d (verV w ps)), none, none, none, none, none] := rfl
  rw [e]
  have fin : ∀ S, rtQ (.bool (readsP n E w ps)) (.rt (.d (.bool (readsP n E w ps)))) S := fun S => rfl
  generalize rtQ (.bool (readsP n E w ps)) = Q at fin ⊢
  have small : smallT (papsD ps) := by
    show (ps.map papD).length ≤ 1000
    have := hp.1
    simp
    omega
  have plv : lv 38 (papsD ps) = true := by
    show (ps.map papD).all (lv 37) = true
    refine List.all_eq_true.mpr fun d hd => ?_
    obtain ⟨p, _, rfl⟩ := List.mem_map.mp hd
    cases p with
    | i a => simp [papD]
    | s a => simp [papD]
    | t l =>
      show (l.map PyData.int).all (lv 36) = true
      simp
  have hrow := hr _ small plv
  refine seq (fun ρ S => ρ = [some (.d (.int n)), some (.d (tiesD E)), some (.d (verV w ps)), some (.d (.str w)), some (.d (papsD ps)), none, none, none] ∧ S = []) ?_ ?_
  · simp [verV, bindT, setAll]
  rintro _ _ ⟨rfl, rfl⟩
  by_cases hw : w = sMakes
  · refine wS_execs.mpr (st_ite true (by simp [hw]) (fun _ => st_one (ex_ret.mpr ?_)) fun h => by cases h)
    cases hi : intsP ps with
    | none =>
      rw [intsP_none hi] at hrow
      have hf : readsP n E w ps = false := by simp [readsP, hw, hi]
      rw [hf] at fin
      simpa [hrow] using fin _
    | some l =>
      have hps := intsP_some hi
      have hll : l.length ≤ 900 := by
        have := hp.1
        rw [hps] at this
        simpa using this
      rw [hps, papsD_i] at hrow ⊢
      rw [rowP_rowI] at hrow
      have hf : readsP n E w ps = makesI n E l := by simp [readsP, hw, hi]
      rw [hf] at fin
      clear hf hi hps small plv
      by_cases hln : l.length = n
      · have hln' : ((l.length : Nat) : Int) = n := by omega
        simp [hrow, len_row, hln']
        simp [rowI]
        refine (wS_lcf (emb := Val.d ∘ PyData.int) (fun x => !(decide (0 = x) || decide (1 = x))) PyData.int fun x hx => ?_).mpr ?_
        · simp [bindT, setAll, wipeW, two_le]
          omega
        have l1 := List.length_filter_le (fun x : Int => !(decide (0 = x) || decide (1 = x))) l
        have q1 := isE_filter PyData.int (fun x : Int => !(decide (0 = x) || decide (1 = x))) l
        have v1 : ((l.filter (fun x : Int => !(decide (0 = x) || decide (1 = x)))).map PyData.int).all (lv 39) = true := by simp
        simp only [Bool.not_not] at q1
        rw [absorb_m]
        refine ⟨by rw [List.length_map]; omega, ?_⟩
        have v1 := List.all_eq_true.mp v1
        rw [eqvAll_nil, q1]
        cases hb : l.all (fun x => decide (0 = x) || decide (1 = x)) with
        | false =>
          have hf : makesI n E l = false := by
            simp only [makesI, hb]
            simp
          rw [hf] at fin
          exact .inl ⟨⟨v1, rfl⟩, fin _⟩
        | true =>
          have hf : makesI n E l = E.all fun t => !decide (l.getD t.1 0 = l.getD t.2 0) := by
            simp only [makesI, hb, hln]
            simp
          rw [hf] at fin
          right
          refine ⟨⟨v1, rfl⟩, (E.map tieD).map Val.d, rfl, ?_⟩
          rw [List.map_map]
          refine (wS_lcf (emb := Val.d ∘ tieD) (fun t => decide (l.getD t.1 0 = l.getD t.2 0)) (fun _ => .int 1) fun t ht => ?_).mpr ?_
          · have := hE t ht
            have a1 := atI_int (l := l) (k := t.1) (by omega)
            have a2 := atI_int (l := l) (k := t.2) (by omega)
            rw [List.getD_eq_getElem?_getD] at a1 a2
            simp [bindT, tieD, setAll, wipeW, rowI, a1, a2, -List.map_map]
            exact (Decidable.em _).symm
          · have l2 := List.length_filter_le (fun t : Nat × Nat => decide (l.getD t.1 0 = l.getD t.2 0)) E
            have q2 := isE_filter (fun _ => PyData.int 1) (fun t : Nat × Nat => decide (l.getD t.1 0 = l.getD t.2 0)) E
            have v2 : ((E.filter (fun t : Nat × Nat => decide (l.getD t.1 0 = l.getD t.2 0))).map (fun _ => PyData.int 1)).all (lv 39) = true := by
              rw [List.all_eq_true]
              intro d hd
              obtain ⟨_, _, rfl⟩ := List.mem_map.mp hd
              simp
            rw [absorb_m]
            refine ⟨by rw [List.length_map]; omega, ?_⟩
            have v2 := List.all_eq_true.mp v2
            rw [eqvAll_nil, q2]
            cases hc : E.all fun t => !decide (l.getD t.1 0 = l.getD t.2 0) with
            | false =>
              rw [hc] at fin
              exact .inl ⟨⟨v2, rfl⟩, fin _⟩
            | true =>
              rw [hc] at fin
              exact .inr ⟨⟨v2, rfl⟩, fin _⟩
      · have hln' : ¬ ((l.length : Nat) : Int) = n := by omega
        have hf : makesI n E l = false := by simp [makesI, hln]
        rw [hf] at fin
        simpa [hrow, len_row, hln'] using fin _
  · refine wS_execs.mpr (st_ite false (by simp [hw]) (fun h => by cases h) fun _ => ?_)
    refine wS_nil.mpr (st_one (ex_ret.mpr ?_))
    by_cases hb : w = sBars
    · rcases named_bars (ps := ps) with ⟨h1, l, h2⟩ | ⟨h1, h2⟩
      · subst h2
        have hf : readsP n E w [.s sRing, .t l] = oddI E l := by
          unfold readsP
          rw [if_neg hw, hb]
          simp [barsP]
        rw [hf] at fin
        have nm := hN ([Pap.s sRing, .t l].map papD) sRing fun d hd => papD_small hp hd
        rw [h1] at nm
        have od := hO E l hl (hp.2 l (by simp))
        have nm2 : T.pure jn [.d (.tuple [papD (.s sRing), papD (.t l)]), .d (.str (Str.ofString "ring"))] = some (.bool true) := nm
        have od2 : T.pure jo [.d (tiesD E), .d (papD (.t l))] = some (.bool (oddI E l)) := od
        simp only [papsD]
        simp [hb, nm2, od2]
        exact fin _
      · have hf : readsP n E w ps = false := by simp [readsP, hw, h2]
        rw [hf] at fin
        have nm := hN (ps.map papD) sRing fun d hd => papD_small hp hd
        rw [h1] at nm
        simp only [papsD]
        simp [hb, nm]
        exact fin _
    · have hf : readsP n E w ps = false := by simp [readsP, hw, hb]
      rw [hf] at fin
      simp [hb]
      exact fin _
/-! ### equal answers -/
def eqB (j : Nat) : List CS := [
  .ite (.or (.bi (.isinst "list") [.var 1]) (.bi (.isinst "tuple") [.var 1])) [.ite (.or (.cmp .NotEq (.bi (.isinst "list") [.var 0]) (.bi (.isinst "list") [.var 1])) (.cmp .NotEq (.bi (.isinst "tuple") [.var 0]) (.bi (.isinst "tuple") [.var 1]))) [.ret (.bl false)] [], .ite (.cmp .NotEq (.bi .len [.var 0]) (.bi .len [.var 1])) [.ret (.bl false)] [], .ret (.cmp .Eq (.comp false [2] [2] false (.rng (.int 0) (.bi .len [.var 1])) (.not (.callp j [.idx (.var 0) (.var 2), .idx (.var 1) (.var 2)])) (.var 2)) (.lst false []))] [],
  .ite (.cmp .Is (.var 1) (.non)) [.ret (.cmp .Is (.var 0) (.non))] [],
  .ite (.bi (.isinst "str") [.var 1]) [.ret (.and (.bi (.isinst "str") [.var 0]) (.cmp .Eq (.var 0) (.var 1)))] [],
  .ite (.bi (.isinst "bool") [.var 1]) [.ret (.and (.bi (.isinst "bool") [.var 0]) (.cmp .Eq (.var 0) (.var 1)))] [],
  .ret (.and (.bi (.isinst "int") [.var 0]) (.and (.not (.bi (.isinst "bool") [.var 0])) (.cmp .Eq (.var 0) (.var 1))))]
def eqD (j : Nat) : Def := ⟨2, 3, true, false, eqB j⟩
theorem eqb_ok (T : Tab) {j : Nat} {a b : Bool} : runP T (eqD j) [.d (.bool a), .d (.bool b)] = some (.bool (a == b)) := by
  refine runP_of rfl ?_
  simp [eqD, eqB, startW, isInst, tyOf, isNone]
end Wf
set_option maxRecDepth 100000
set_option maxHeartbeats 4000000
/-! W58: bends, joined. -/
namespace Wf
open PySem
abbrev sHolds : Str := Str.ofString "holds"
def bendsB : List CS := [
  .tset [1, 2] (.var 0),
  .set 3 (.lst true [.tup [.ife (.cmp .Eq (.var 1) (.str (Str.ofString "bars"))) (.str (Str.ofString "makes")) (.str (Str.ofString "bars")), .var 2], .tup [.str (Str.ofString "holds"), .var 2], .tup [.var 1, .slc (.var 2) (.int 1) (.non)], .tup [.var 1, .bin .Add (.var 2) (.slc (.var 2) (.non) (.int 1))], .tup [.var 1, .tup []]]),
  .ite (.cmp .Gt (.bi .len [.var 2]) (.int 1)) [.ex (.mt .append (.var 3) [.tup [.var 1, .rev (.var 2)]])] [],
  .ret (.var 3)]
def bendsD : Def := ⟨1, 4, true, false, bendsB⟩
abbrev Ver : Type := Str × List Pap
def verP (v : Ver) : PyData := verV v.1 v.2
def bends1 (w : Str) (ps : List Pap) : List Ver := [(if w = sBars then sMakes else sBars, ps), (sHolds, ps), (w, ps.drop 1), (w, ps ++ ps.take 1), (w, [])]
def bendsL (w : Str) (ps : List Pap) : List Ver := bends1 w ps ++ if 1 < ps.length then [(w, ps.reverse)] else []
def BendsOk (T : Tab) (j : Nat) : Prop := ∀ (w : Str) (ps : List Pap), ps.length ≤ 400 → T.pure j [.d (verV w ps)] = some (.list ((bendsL w ps).map verP))
theorem add_tt {S : Store} {xs ys : List PyData} : binop .Add (.d (.tuple xs)) (.d (.tuple ys)) S = if xs.length + ys.length ≤ sizeLine then some (.d (.tuple (xs ++ ys))) else none := rfl
theorem bends_ok (T : Tab) {w : Str} {ps : List Pap} (hp : ps.length ≤ 400) : runP T bendsD [.d (verV w ps)] = some (.list ((bendsL w ps).map verP)) := by
  refine runP_of rfl ?_
  have big : 1000 ≤ sizeLine := by decide
  have e : startW bendsD [.d (verV w ps)] = [some (.d (verV w ps)), none, none, none] := rfl
  rw [e]
  have fin : ∀ l : List Ver, l = bendsL w ps → rtQ (.list ((bendsL w ps).map verP)) (.rt (.r 0)) [.lst false ((l.map verP).map Val.d)] := fun l h => by
    subst h
    show (datsOf _).map PyData.list = _
    rw [datsOf_map] <;> rfl
  generalize rtQ (.list ((bendsL w ps).map verP)) = Q at fin ⊢
  have c1 : cutW (ps.map papD) (some 1) none = (ps.drop 1).map papD := by
    rw [List.map_drop]
    exact cutW_from _ 1
  have c2 : cutW (ps.map papD) none (some 1) = (ps.take 1).map papD := by
    rw [List.map_take]
    exact cutW_to _ 1
  have hz : ∀ S, binop .Add (.d (.tuple (ps.map papD))) (.d (.tuple ((ps.take 1).map papD))) S = some (.d (.tuple ((ps ++ ps.take 1).map papD))) := fun S => by
    rw [add_tt, if_pos (by simp; omega), List.map_append]
  refine seq (fun ρ S => ρ = [some (.d (verV w ps)), some (.d (.str w)), some (.d (papsD ps)), none] ∧ S = []) ?_ ?_
  · simp [verV, bindT, setAll]
  rintro _ _ ⟨rfl, rfl⟩
  refine seq (fun ρ S => ρ = [some (.d (verV w ps)), some (.d (.str w)), some (.d (papsD ps)), some (.r 0)] ∧ S = [.lst false (((bends1 w ps).map verP).map Val.d)]) ?_ ?_
  · by_cases hw : w = sBars
    · simp [papsD, ev_slc, CE.isNon, partOf, c1, c2, hz, hw, two_le, -List.drop_one, -List.map_drop, -List.map_take, -List.map_tail, -List.map_append]
      refine ⟨by omega, ?_⟩
      simp [bends1, verP, verV, papsD]
    · simp [papsD, ev_slc, CE.isNon, partOf, c1, c2, hz, hw, two_le, -List.drop_one, -List.map_drop, -List.map_take, -List.map_tail, -List.map_append]
      refine ⟨by omega, ?_⟩
      simp [bends1, verP, verV, papsD, hw]
  rintro _ _ ⟨rfl, rfl⟩
  have lenp : ∀ S, biop .len [.d (papsD ps)] S = some (.d (.int (ps.length : Nat))) := fun S => by
    unfold papsD
    rw [bi_len_t, List.length_map]
  by_cases hl : 1 < ps.length
  · have hl' : (1 : Int) < (ps.length : Int) := by omega
    refine wS_execs.mpr (st_ite true (by simp [lenp, hl']) (fun _ => st_one ?_) fun h => by cases h)
    have l1 : ([Cell.lst false (((bends1 w ps).map verP).map Val.d)] : Store)[0]? = some (.lst false (((bends1 w ps).map verP).map Val.d)) := rfl
    simp [papsD, two_le]
    refine ⟨⟨_, rdS_of l1⟩, app_w l1 (by simp [bends1]; omega) ?_⟩
    simp
    have := fin (bendsL w ps) rfl
    simpa [bendsL, hl, verP, verV, papsD] using this
  · have hl' : ¬ (1 : Int) < (ps.length : Int) := by omega
    refine wS_execs.mpr (st_ite false (by simp [lenp]; omega) (fun h => by cases h) fun _ => ?_)
    refine wS_nil.mpr (st_one (ex_ret.mpr ?_))
    have := fin (bendsL w ps) rfl
    simpa [bendsL, hl] using this
/-! ### joined -/
theorem ev_callv {T : Tab} {ρ : EnvW} {S : Store} {i k : Nat} {es : List CE} {Q : Val → Store → Prop} (hk : ρ.getD i none = some (.f k)) (hp : T.isP k = true) : wS (ev T (.callv i es) ρ) S Q ↔ wS (evs T es ρ) S fun vs S1 => wS (callP T k vs) S1 Q := by
  show wS (sbind _ _) S Q ↔ _
  rw [wS_bind, hk]
  simp only [wS_sif, hp, true_and]
def EqbOk (T : Tab) (j : Nat) : Prop := ∀ a b : Bool, T.pure j [.d (.bool a), .d (.bool b)] = some (.bool (a == b))
def ReadOk (T : Tab) (j n : Nat) (E : Ties) (f : Ver → Bool) : Prop := ∀ v : Ver, SmallP v.2 → T.pure j [.d (.int n), .d (tiesD E), .d (verP v)] = some (.bool (f v))
def joinB (je jb : Nat) : List CS := [
  .set 6 (.var 2),
  .ite (.or (.not (.bi (.isinst "tuple") [.var 6])) (.or (.cmp .NotEq (.bi .len [.var 6]) (.int 2)) (.or (.not (.callv 3 [.var 0, .var 1, .var 6])) (.not (.callp je [.callv 4 [.var 0, .var 1, .var 6], .bl true]))))) [.ret (.bl false)] [],
  .forr [7] false (.it (.bin .Add (.callp jb [.var 6]) (.var 5))) [.ite (.not (.callp je [.callv 4 [.var 0, .var 1, .var 7], .callv 3 [.var 0, .var 1, .var 7]])) [.ret (.bl false)] []],
  .ret (.bl true)]
def joinD (je jb : Nat) : Def := ⟨6, 8, true, false, joinB je jb⟩
theorem join_ok {T : Tab} {je jb kr kj n : Nat} {E : Ties} {f : Ver → Bool} (he : EqbOk T je) (hb : BendsOk T jb) (hr : ReadOk T kr n E f) (hj : ReadOk T kj n E f) (pr : T.isP kr = true) (pj : T.isP kj = true) {w : Str} {ps : List Pap} {more : List Ver} (hs : SmallP ps) (hl : ps.length ≤ 400) (hm : ∀ v ∈ more, SmallP v.2) (hml : more.length ≤ 400) (ht : f (w, ps) = true) :
    runP T (joinD je jb) [.d (.int n), .d (tiesD E), .d (verV w ps), .f kr, .f kj, .d (.list (more.map verP))] = some (.bool true) := by
  refine runP_of rfl ?_
  have big : 1000 ≤ sizeLine := by decide
  have e : startW (joinD je jb) [.d (.int n), .d (tiesD E), .d (verV w ps), .f kr, .f kj, .d (.list (more.map verP))] = [some (.d (.int n)), some (.d (tiesD E)), some (.d (verV w ps)), some (.f kr), some (.f kj), some (.d (.list (more.map verP))), none, none] := rfl
  rw [e]
  have fin : ∀ S, rtQ (.bool true) (.rt (.d (.bool true))) S := fun S => rfl
  generalize rtQ (.bool true) = Q at fin ⊢
  refine seq (fun ρ S => ρ = [some (.d (.int n)), some (.d (tiesD E)), some (.d (verV w ps)), some (.f kr), some (.f kj), some (.d (.list (more.map verP))), some (.d (verV w ps)), none] ∧ S = []) ?_ ?_
  · simp
  rintro _ _ ⟨rfl, rfl⟩
  have r1 := hr (w, ps) hs
  have j1 := hj (w, ps) hs
  rw [ht] at r1 j1
  simp only [verP] at r1 j1
  have e1 := he true true
  refine seq (fun ρ S => ρ = [some (.d (.int n)), some (.d (tiesD E)), some (.d (verV w ps)), some (.f kr), some (.f kj), some (.d (.list (more.map verP))), some (.d (verV w ps)), none] ∧ S = []) ?_ ?_
  · refine st_ite false ?_ (fun h => by cases h) fun _ => wS_nil.mpr ⟨rfl, rfl⟩
    have tt : isInst (verV w ps) "tuple" = true := by rfl
    have ll : ∀ S, biop .len [.d (verV w ps)] S = some (.d (.int 2)) := fun S => by
      unfold verV
      rw [bi_len_t]
      rfl
    have c3 := fun {es : List CE} {Q : Val → Store → Prop} => ev_callv (T := T) (ρ := [some (.d (.int n)), some (.d (tiesD E)), some (.d (verV w ps)), some (.f kr), some (.f kj), some (.d (.list (more.map verP))), some (.d (verV w ps)), none]) (S := []) (i := 3) (k := kr) (es := es) (Q := Q) rfl pr
    have c4 := fun {es : List CE} {Q : Val → Store → Prop} => ev_callv (T := T) (ρ := [some (.d (.int n)), some (.d (tiesD E)), some (.d (verV w ps)), some (.f kr), some (.f kj), some (.d (.list (more.map verP))), some (.d (verV w ps)), none]) (S := []) (i := 4) (k := kj) (es := es) (Q := Q) rfl pj
    simp [tt, ll, c3, c4, r1, j1, e1]
  rintro _ _ ⟨rfl, rfl⟩
  have bb := hb w ps hl
  have sb : ∀ v ∈ bendsL w ps ++ more, SmallP v.2 := by
    intro v hv
    rcases List.mem_append.mp hv with hv | hv
    · have h1 : SmallP (ps.drop 1) := ⟨by rw [List.length_drop]; omega, fun l h => hs.2 l (List.mem_of_mem_drop h)⟩
      have h2 : SmallP (ps ++ ps.take 1) := ⟨by rw [List.length_append, List.length_take]; omega, fun l h => hs.2 l (by
        rcases List.mem_append.mp h with z | z
        · exact z
        · exact List.mem_of_mem_take z)⟩
      have h3 : SmallP [] := ⟨by simp, fun l h => by cases h⟩
      have h4 : SmallP ps.reverse := ⟨by rw [List.length_reverse]; omega, fun l h => hs.2 l (List.mem_reverse.mp h)⟩
      unfold bendsL bends1 at hv
      by_cases z : 1 < ps.length
      · rw [if_pos z] at hv
        simp at hv
        rcases hv with rfl | rfl | rfl | rfl | rfl | rfl
        · exact hs
        · exact hs
        · simpa using h1
        · exact h2
        · exact h3
        · exact h4
      · rw [if_neg z] at hv
        simp at hv
        rcases hv with rfl | rfl | rfl | rfl | rfl
        · exact hs
        · exact hs
        · simpa using h1
        · exact h2
        · exact h3
    · exact hm v hv
  have lb : (bendsL w ps).length ≤ 6 := by
    have l1 : (if 1 < ps.length then [((w, ps.reverse) : Ver)] else []).length ≤ 1 := by split <;> simp
    unfold bendsL bends1
    rw [List.length_append]
    simp only [List.length_cons, List.length_nil]
    omega
  refine seq (fun ρ S => ρ = [some (.d (.int n)), some (.d (tiesD E)), some (.d (verV w ps)), some (.f kr), some (.f kj), some (.d (.list (more.map verP))), some (.d (verV w ps)), none] ∧ S = []) ?_ ?_
  · refine st_for (.list ((bendsL w ps ++ more).map verP)) ((bendsL w ps ++ more).map (Val.d ∘ verP)) ?_ ?_
    · simp [bb]
      omega
    refine wS_forL (emb := Val.d ∘ verP) (fun pre ρ S => ρ = [some (.d (.int n)), some (.d (tiesD E)), some (.d (verV w ps)), some (.f kr), some (.f kj), some (.d (.list (more.map verP))), some (.d (verV w ps)), none] ∧ S = []) ⟨rfl, rfl⟩ ?_ fun _ _ h => h
    rintro pre v rest _ _ hpre ⟨rfl, rfl⟩
    have hv := sb v (by rw [hpre]; simp)
    have r2 := hr v hv
    have j2 := hj v hv
    have e2 := he (f v) (f v)
    refine turnB_w.mpr ⟨_, rfl, st_one ?_⟩
    refine st_ite false ?_ (fun h => by cases h) fun _ => wS_nil.mpr ⟨rfl, rfl⟩
    have c3 := fun {es : List CE} {Q : Val → Store → Prop} => ev_callv (T := T) (ρ := [some (.d (.int n)), some (.d (tiesD E)), some (.d (verV w ps)), some (.f kr), some (.f kj), some (.d (.list (more.map verP))), some (.d (verV w ps)), some ((Val.d ∘ verP) v)]) (S := []) (i := 3) (k := kr) (es := es) (Q := Q) rfl pr
    have c4 := fun {es : List CE} {Q : Val → Store → Prop} => ev_callv (T := T) (ρ := [some (.d (.int n)), some (.d (tiesD E)), some (.d (verV w ps)), some (.f kr), some (.f kj), some (.d (.list (more.map verP))), some (.d (verV w ps)), some ((Val.d ∘ verP) v)]) (S := []) (i := 4) (k := kj) (es := es) (Q := Q) rfl pj
    simp only [Function.comp] at c3 c4
    simp [c3, c4, r2, j2, e2]
  rintro _ _ ⟨rfl, rfl⟩
  simpa using fin _
end Wf
set_option maxRecDepth 100000
set_option maxHeartbeats 4000000
/-! W59: the told verdict, and that both agree. -/
namespace Wf
open PySem
def castL (l : List Nat) : List Int := l.map fun (i : Nat) => (i : Int)
theorem rowD_cast (l : List Nat) : rowD l = rowI (castL l) := by
  unfold rowD rowI castL
  rw [List.map_map]
  rfl
def sideI (s : List (Option Bool)) : List Int := s.map fun c => if c = some true then 1 else 0
structure Fit (n : Nat) (E : Ties) : Prop where
  n30 : n ≤ 30
  rng : ∀ t ∈ E, t.1 < t.2 ∧ t.2 < n
  len : E.length ≤ 450
theorem Web.fit {n : Nat} {E : Ties} (h : Web n E) (hn : n ≤ 20) : Fit n E := ⟨by omega, h.rng, Nat.le_trans h.length_le (Nat.le_trans len_whole (Nat.le_trans (Nat.mul_le_mul hn hn) (by decide)))⟩
def SidesP (n : Nat) (E : Ties) (x : PyData) : Prop := (∃ s, Cols E n (ownF E) (fun _ => True) s ∧ sideB E s = true ∧ x = .tuple [.list (s.map colD), .none]) ∨ ∃ (s : List (Option Bool)) (row : List Nat), BarRing E n row ∧ x = .tuple [.list (s.map colD), rowD row]
def TwoP (n : Nat) (E : Ties) (x : PyData) : Prop := ∃ s, Cols E n (ownF E) (fun _ => True) s ∧ x = if sideB E s = true then sideT s else .none
def VerdP (n : Nat) (E : Ties) (x : PyData) : Prop := (∃ s, Cols E n (ownF E) (fun _ => True) s ∧ sideB E s = true ∧ x = verV sMakes ((sideI s).map .i)) ∨ ∃ row : List Nat, BarRing E n row ∧ x = verV sBars [.s sRing, .t (castL row)]
def SidesOk (T : Tab) (j : Nat) : Prop := ∀ n E, Fit n E → ∃ x, SidesP n E x ∧ T.pure j [.d (.int n), .d (tiesD E)] = some x
def TwoOk (T : Tab) (j : Nat) : Prop := ∀ n E, Fit n E → ∃ x, TwoP n E x ∧ T.pure j [.d (.int n), .d (tiesD E)] = some x
def VerdOk (T : Tab) (j : Nat) : Prop := ∀ n E, Fit n E → ∃ x, VerdP n E x ∧ T.pure j [.d (.int n), .d (tiesD E)] = some x
theorem colD_all {E : Ties} {n : Nat} {o : Nat → Nat} {s : List (Option Bool)} (h : Cols E n o (fun _ => True) s) : s.map colD = (sideI s).map .int := by
  unfold sideI
  rw [List.map_map]
  refine List.ext_getElem (by simp) fun i h1 h2 => ?_
  have hi : i < n := by
    rw [← h.len]
    simpa using h1
  obtain ⟨c, hc⟩ := h.fin i hi trivial
  unfold cl at hc
  have hs : i < s.length := by simpa using h1
  rw [List.getD_eq_getElem?_getD, List.getElem?_eq_getElem hs] at hc
  simp only [Option.getD_some] at hc
  simp [hc]
  cases c <;> rfl
theorem sideT_all {E : Ties} {n : Nat} {o : Nat → Nat} {s : List (Option Bool)} (h : Cols E n o (fun _ => True) s) : sideT s = rowI (sideI s) := by
  unfold sideT rowI
  rw [colD_all h]
def verdB (js : Nat) : List CS := [
  .tset [2, 3] (.callp js [.var 0, .var 1]),
  .ret (.ife (.cmp .Is (.var 3) (.non)) (.tup [.str (Str.ofString "makes"), .bi .tuple [.var 2]]) (.tup [.str (Str.ofString "bars"), .tup [.str (Str.ofString "ring"), .var 3]]))]
def verdD (js : Nat) : Def := ⟨2, 4, true, false, verdB js⟩
theorem verd_ok {T : Tab} {js : Nat} (hs : SidesOk T js) {n : Nat} {E : Ties} (hf : Fit n E) : ∃ x, VerdP n E x ∧ runP T (verdD js) [.d (.int n), .d (tiesD E)] = some x := by
  obtain ⟨y, hy, hc⟩ := hs n E hf
  rcases hy with ⟨s, h1, h2, rfl⟩ | ⟨s, row, h1, rfl⟩
  · refine ⟨_, .inl ⟨s, h1, h2, rfl⟩, runP_of rfl ?_⟩
    have e : verV sMakes ((sideI s).map .i) = .tuple [.str sMakes, .tuple (s.map colD)] := by
      unfold verV
      rw [papsD_i, colD_all h1]
      rfl
    rw [e]
    simp [verdD, verdB, startW, hc, bindT, setAll, two_le, isNone]
  · refine ⟨_, .inr ⟨row, h1, rfl⟩, runP_of rfl ?_⟩
    have e : verV sBars [.s sRing, .t (castL row)] = .tuple [.str sBars, .tuple [.str sRing, rowD row]] := by
      rw [rowD_cast]
      rfl
    rw [e]
    simp [verdD, verdB, startW, hc, bindT, setAll, two_le, isNone, rowD]
/-! ### both agree -/
theorem sideB_ok {E : Ties} {s : List (Option Bool)} : sideB E s = true ↔ SideOk E s := by
  unfold sideB SideOk
  rw [List.all_eq_true]
  constructor
  · intro h t ht
    simpa using h t ht
  · intro h t ht
    simpa using h t ht
theorem getD_side {s : List (Option Bool)} {v : Nat} {c : Bool} (h : cl s v = some c) : (sideI s).getD v 0 = if c = true then 1 else 0 := by
  have hv := cl_lt h
  unfold cl at h
  rw [List.getD_eq_getElem?_getD, List.getElem?_eq_getElem hv] at h
  simp only [Option.getD_some] at h
  unfold sideI
  rw [List.getD_eq_getElem?_getD, List.getElem?_map, List.getElem?_eq_getElem hv, h]
  cases c <;> rfl
theorem makes_side {E : Ties} {n : Nat} {o : Nat → Nat} {s : List (Option Bool)} (hE : ∀ t ∈ E, t.1 < t.2 ∧ t.2 < n) (h : Cols E n o (fun _ => True) s) (hb : sideB E s = true) : makesI n E (sideI s) = true := by
  unfold makesI
  have h1 : (sideI s).length = n := by
    unfold sideI
    rw [List.length_map, h.len]
  have h2 : (sideI s).all (fun x => decide (0 = x) || decide (1 = x)) = true := by
    rw [List.all_eq_true]
    intro x hx
    unfold sideI at hx
    obtain ⟨c, _, rfl⟩ := List.mem_map.mp hx
    split <;> simp
  have h3 : (E.all fun t => !decide ((sideI s).getD t.1 0 = (sideI s).getD t.2 0)) = true := by
    rw [List.all_eq_true]
    intro t ht
    have := hE t ht
    obtain ⟨c, hc⟩ := h.fin t.1 (by omega) trivial
    obtain ⟨d, hd⟩ := h.fin t.2 (by omega) trivial
    have hne := sideB_ok.mp hb t ht
    rw [hc, hd] at hne
    rw [getD_side hc, getD_side hd]
    revert hne
    cases c <;> cases d <;> simp
  rw [h2, h3, decide_eq_true h1]
  rfl
theorem chn_get {α : Type} {P : α → α → Prop} : ∀ {m : List α}, chn P m → ∀ (i : Nat) (x y : α), m[i]? = some x → m[i + 1]? = some y → P x y
  | [], _, i, x, y, h1, _ => by cases h1
  | [a], _, i, x, y, _, h2 => by simp at h2
  | a :: b :: r, h, 0, x, y, h1, h2 => by
    simp at h1 h2
    subst h1 h2
    exact h.1
  | a :: b :: r, h, i + 1, x, y, h1, h2 => chn_get (m := b :: r) h.2 i x y (by simpa using h1) (by simpa using h2)
theorem tieI_adj {E : Ties} (hE : ∀ t ∈ E, t.1 < t.2) {a b : Nat} (h : Adj E a b) : tieI E (a : Int) (b : Int) = true := by
  unfold tieI
  rw [List.any_eq_true]
  rcases h with h | h
  · have := hE _ h
    simp only at this
    refine ⟨_, h, ?_⟩
    have e1 : min (a : Int) (b : Int) = a := by omega
    have e2 : max (a : Int) (b : Int) = b := by omega
    simp [e1, e2]
  · have := hE _ h
    simp only at this
    refine ⟨_, h, ?_⟩
    have e1 : min (a : Int) (b : Int) = b := by omega
    have e2 : max (a : Int) (b : Int) = a := by omega
    simp [e1, e2]
theorem castL_getD {l : List Nat} {k : Nat} (h : k < l.length) : (castL l).getD k 0 = ((l[k] : Nat) : Int) := by
  unfold castL
  rw [List.getD_eq_getElem?_getD, List.getElem?_map, List.getElem?_eq_getElem h]
  rfl
theorem dedup_nodup : ∀ {l : List Int}, l.Nodup → dedupI l = l
  | [], _ => rfl
  | x :: r, h => by
    have := List.nodup_cons.mp h
    rw [dedupI, if_neg this.1, dedup_nodup this.2]
theorem nodI_cast {l : List Nat} (h : l.Nodup) : nodI (castL l) = true := by
  have : (castL l).Nodup := by
    unfold castL List.Nodup
    rw [List.pairwise_map]
    exact h.imp fun z e => z (by omega)
  unfold nodI
  rw [dedup_nodup this]
  simp
theorem odd_bar {E : Ties} {n : Nat} {row : List Nat} (hE : ∀ t ∈ E, t.1 < t.2) (h : BarRing E n row) : oddI E (castL row) = true := by
  have hl : (castL row).length = row.length := by simp [castL]
  have ha : arndI E (castL row) = true := by
    rw [arnd_iff (by rw [hl]; have := h.gt; omega)]
    intro k hk
    rw [hl] at hk
    have har : chn (Adj E) (row ++ row.take 1) := h.ar
    have g := h.gt
    by_cases z : k = 0
    · subst z
      rw [castL_getD hk, prevI, if_pos rfl, hl, castL_getD (show row.length - 1 < row.length by omega)]
      refine tieI_adj hE (chn_get har (row.length - 1) _ _ ?_ ?_)
      · rw [List.getElem?_append_left (by omega), List.getElem?_eq_getElem]
      · rw [show row.length - 1 + 1 = row.length by omega, List.getElem?_append_right (Nat.le_refl _), Nat.sub_self, List.getElem?_take]
        simp [List.getElem?_eq_getElem hk]
    · rw [castL_getD hk, prevI, if_neg z, castL_getD (show k - 1 < row.length by omega)]
      refine tieI_adj hE (chn_get har (k - 1) _ _ ?_ ?_)
      · rw [List.getElem?_append_left (by omega), List.getElem?_eq_getElem]
      · rw [show k - 1 + 1 = k by omega, List.getElem?_append_left (by omega), List.getElem?_eq_getElem hk]
  unfold oddI
  rw [ha, nodI_cast h.nd, hl, decide_eq_true h.gt, decide_eq_true h.odd]
  rfl
theorem agree {n : Nat} {E : Ties} (hf : Fit n E) {x y : PyData} (hx : VerdP n E x) (hy : TwoP n E y) : (∃ l : List Int, l.length = n ∧ makesI n E l = true ∧ y = rowI l ∧ x = verV sMakes (l.map .i)) ∨ ∃ row : List Nat, BarRing E n row ∧ oddI E (castL row) = true ∧ y = .none ∧ x = verV sBars [.s sRing, .t (castL row)] := by
  obtain ⟨s', h1, rfl⟩ := hy
  have ro := root_own E
  rcases hx with ⟨s, h2, h3, rfl⟩ | ⟨row, h2, rfl⟩
  · have hp := h2.proper hf.rng (sideB_ok.mp h3)
    have e := h2.uniq h1 hp
    subst e
    refine .inl ⟨sideI s, ?_, makes_side hf.rng h2 h3, ?_, rfl⟩
    · unfold sideI
      rw [List.length_map, h2.len]
    · rw [if_pos h3, sideT_all h2]
  · refine .inr ⟨row, h2, odd_bar (fun t ht => (hf.rng t ht).1) h2, ?_, rfl⟩
    rw [if_neg fun z => h2.no ⟨_, h1.proper hf.rng (sideB_ok.mp z)⟩]
end Wf
set_option maxRecDepth 100000
set_option maxHeartbeats 4000000
/-! W60: the law's state. -/
namespace Wf
open PySem
def stB : List CS := [
  .set 1 (.int 7),
  .forr [2] false (.it (.var 0)) [.set 1 (.bin .Mod (.bi .int [.bin .Add (.bin .Mult (.var 1) (.int 31)) (.var 2)]) (.int 1000003))],
  .ret (.lst true [.comp true [2] [2] false (.it (.var 0)) (.bl true) (.bi .abs [.var 2]), .bin .Add (.var 1) (.int 1)])]
def stD : Def := ⟨1, 3, false, true, stB⟩
def StateOk (T : Tab) (j : Nat) : Prop := ∀ ns : List Int, ns.length ≤ 63 → wS (T.st j [.scr ns]) [] fun v S => ∃ σ, SgOk σ ∧ v = .r 1 ∧ S = Sx σ []
@[simp] theorem rdS_scr {S : Store} {ns : List Int} : rdS S (.scr ns) = some (ns.map fun i => .d (.int i)) := rfl
theorem stateOk_of {T T0 : Tab} {j : Nat} (h : ∀ vs, T.st j vs = runS T0 stD vs) : StateOk T j := fun ns hn => by
  rw [h]
  refine runS_of rfl ?_
  have big : 1000 ≤ sizeLine := by decide
  have e : startW stD [.scr ns] = [some (.scr ns), none, none] := rfl
  rw [e]
  have fin : ∀ σ, SgOk σ → rsQ stD ([] : Store).length (fun v S => ∃ σ, SgOk σ ∧ v = .r 1 ∧ S = Sx σ []) (.rt (.r 1)) (Sx σ []) := fun σ ok => ⟨σ, ok, rfl, rfl⟩
  generalize rsQ stD ([] : Store).length (fun v S => ∃ σ, SgOk σ ∧ v = .r 1 ∧ S = Sx σ []) = Q at fin ⊢
  refine seq (fun ρ S => ρ = [some (.scr ns), some (.d (.int 7)), none] ∧ S = []) (by simp) ?_
  rintro _ _ ⟨rfl, rfl⟩
  refine seq (fun ρ S => ∃ i : Int, ρ = [some (.scr ns), some (.d (.int i)), none] ∧ S = []) ?_ ?_
  · refine ex_for.mpr ?_
    simp
    refine wS_forL (emb := fun i => Val.d (.int i)) (fun pre ρ S => ∃ i : Int, ρ = [some (.scr ns), some (.d (.int i)), none] ∧ S = []) ⟨7, rfl, rfl⟩ ?_ ?_
    · rintro pre a rest _ _ hpre ⟨i, rfl, rfl⟩
      refine turnB_w.mpr ⟨_, rfl, ?_⟩
      simp [cmul_r (j := 31) (by decide)]
      exact ⟨_, rfl⟩
    · rintro _ _ ⟨i, rfl, rfl⟩
      exact ⟨⟨i, rfl⟩, rfl⟩
  rintro _ _ ⟨i, rfl, rfl⟩
  refine st_one (ex_ret.mpr ?_)
  simp
  refine (wS_lcm (emb := fun i => Val.d (.int i)) (fun i => .int (if i < 0 then -i else i)) fun t ht => ?_).mpr ?_
  · simp [bindT, setAll, wipeW]
  · simp [two_le]
    refine ⟨by omega, ?_⟩
    have := fin ⟨ns.map fun i => if i < 0 then -i else i, i + 1⟩ ⟨by simpa using hn, fun x hx => by
      simp at hx
      obtain ⟨y, _, rfl⟩ := hx
      split <;> omega⟩
    simpa [Sx, Function.comp_def] using this
end Wf
set_option maxRecDepth 100000
set_option maxHeartbeats 4000000
/-! W61: the law of two sides: one turn. -/
namespace Wf
open PySem
abbrev sRound : Str := Str.ofString "round"
theorem mult_t1 {S : Store} {x : PyData} {n : Nat} (h0 : 0 < n) (h : n ≤ 1000) : binop .Mult (.d (.tuple [x])) (.d (.int (n : Int))) S = some (.d (.tuple (List.replicate n x))) := by
  have h1 : [x] ≠ [] ∧ 1 ≤ (n : Int) ∧ (n : Int) ≤ 1000 ∧ [x].length ≤ 1000 := ⟨by simp, by omega, by omega, by simp⟩
  simp only [binop]
  rw [if_pos h1]
  have : ∀ n : Nat, (List.replicate n [x]).flatten = List.replicate n x := fun n => by
    induction n with
    | zero => rfl
    | succ n ih => rw [List.replicate_succ, List.flatten_cons, ih, List.replicate_succ]; rfl
  rw [Int.toNat_natCast, this]
theorem cut_map {α β : Type} (f : α → β) (l : List α) (lo hi : Option Int) : cutW (l.map f) lo hi = (cutW l lo hi).map f := by
  unfold cutW
  rw [List.length_map, List.map_take, List.map_drop]
theorem cut_len {α : Type} (l : List α) (lo hi : Option Int) : (cutW l lo hi).length ≤ l.length := by
  unfold cutW
  rw [List.length_take, List.length_drop]
  omega
@[simp] theorem dvs_f {S : Store} {k : Nat} {r : List Val} : dvs S (.f k :: r) = (dvs S r).map (Val.f k :: ·) := by
  show (match dv S (.f k), dvs S r with
    | some x, some xs => some (x :: xs)
    | _, _ => none) = _
  cases dvs S r <;> rfl
@[simp] theorem isR_f {k : Nat} : isR (.f k) = false := rfl
def turn2B (jso jd jsi jt jv jm jj kr kj je jo jl : Nat) : List CS := [
  .tset [3, 4] (.calls jso [.var 1, .int 8]),
  .ite (.cmp .Eq (.calls jd [.var 1, .int 2]) (.int 0)) [.set 3 (.bin .Add (.int 2) (.calls jd [.var 1, .int 6])), .set 4 (.calls jsi [.var 1, .bin .FloorDiv (.var 3) (.int 2), .bin .Sub (.var 3) (.bin .FloorDiv (.var 3) (.int 2))])] [],
  .set 5 (.callp jt [.var 3, .var 4]),
  .set 6 (.callp jv [.var 3, .var 4]),
  .ite (.or (.cmp .NotEq (.idx (.var 6) (.int 0)) (.ife (.cmp .Is (.var 5) (.non)) (.str (Str.ofString "bars")) (.str (Str.ofString "makes")))) (.and (.cmp .IsNot (.var 5) (.non)) (.cmp .NotEq (.var 6) (.tup [.str (Str.ofString "makes"), .var 5])))) [.ret (.bl false)] [],
  .set 7 (.bi .tuple [.slc (.calls jm [.var 1, .lrg (.int 0) (.var 3)]) (.non) (.calls jd [.var 1, .bin .Add (.var 3) (.int 1)])]),
  .set 8 (.lst false [.tup [.str (Str.ofString "makes"), .bi .tuple [.comp false [9] [9] false (.rng (.int 0) (.var 3)) (.bl true) (.calls jd [.var 1, .int 2])]], .tup [.str (Str.ofString "makes"), .bin .Mult (.tup [.int 2]) (.var 3)], .tup [.str (Str.ofString "bars"), .tup [.str (Str.ofString "ring"), .var 7]], .tup [.str (Str.ofString "bars"), .tup [.str (Str.ofString "round"), .var 7]], .tup [.str (Str.ofString "makes"), .bin .Mult (.tup [.int 0]) (.bin .Add (.var 3) (.int 1))], .tup [.str (Str.ofString "bars"), .tup [.str (Str.ofString "ring"), .tup [.int 0, .int 1, .neg (.int 1)]]]]),
  .ite (.cmp .IsNot (.var 5) (.non)) [.set 8 (.bin .Add (.var 8) (.lst false [.tup [.str (Str.ofString "makes"), .bi .tuple [.comp false [9] [9] false (.it (.var 5)) (.bl true) (.bin .Sub (.int 1) (.var 9))]], .tup [.str (Str.ofString "makes"), .bin .Add (.slc (.var 5) (.non) (.neg (.int 1))) (.tup [.bin .Sub (.int 1) (.idx (.var 5) (.neg (.int 1)))])]]))] [.set 10 (.idx (.idx (.var 6) (.int 1)) (.int 1)), .set 8 (.bin .Add (.var 8) (.lst false [.tup [.str (Str.ofString "bars"), .tup [.str (Str.ofString "ring"), .bin .Add (.slc (.var 10) (.int 1) (.non)) (.slc (.var 10) (.non) (.int 1))]], .tup [.str (Str.ofString "bars"), .tup [.str (Str.ofString "ring"), .slc (.var 10) (.int 1) (.non)]], .tup [.str (Str.ofString "bars"), .tup [.str (Str.ofString "ring"), .bin .Add (.var 10) (.slc (.var 10) (.non) (.int 2))]]]))],
  .ite (.not (.callp jj [.var 3, .var 4, .var 6, .fn kr, .fn kj, .var 8])) [.ret (.bl false)] [],
  .forr [11] false (.it (.lst false [.var 7, .bin .Add (.var 7) (.slc (.var 7) (.non) (.int 1)), .slc (.var 7) (.int 1) (.non), .tup []])) [.ite (.not (.callp je [.callp jo [.var 4, .var 11], .callp jl [.var 4, .var 11]])) [.ret (.bl false)] []]]
/-- one of both ends of a turn's look -/
def Both (n : Nat) (E : Ties) (x y : PyData) : Prop := (∃ l : List Int, l.length = n ∧ makesI n E l = true ∧ y = rowI l ∧ x = verV sMakes (l.map .i)) ∨ ∃ row : List Nat, BarRing E n row ∧ oddI E (castL row) = true ∧ y = .none ∧ x = verV sBars [.s sRing, .t (castL row)]
structure Two (T : Tab) (jso jd jsi jt jv jm jj kr kj je jo jl : Nat) : Prop where
  so : SomeOk T jso
  d : DrawOk T jd
  si : SidOk T jsi
  t : TwoOk T jt
  v : VerdOk T jv
  m : MixedOk T jm
  j : ∀ n E, Fit n E → ∀ (w : Str) (ps : List Pap) (more : List Ver), SmallP ps → ps.length ≤ 400 → (∀ v ∈ more, SmallP v.2) → more.length ≤ 400 → readsP n E w ps = true → T.pure jj [.d (.int n), .d (tiesD E), .d (verV w ps), .f kr, .f kj, .d (.list (more.map verP))] = some (.bool true)
  e : EqbOk T je
  o : OddOk T jo
  l : OddOk T jl
theorem small_ring {s : Str} {l : List Int} (h : l.length ≤ 900) : SmallP [.s s, .t l] := ⟨by simp, fun k hk => by
  simp at hk
  subst hk
  exact h⟩
theorem small_row {l : List Int} (h : l.length ≤ 900) : SmallP (l.map .i) := ⟨by simpa using h, fun k hk => by
  obtain ⟨a, _, e⟩ := List.mem_map.mp hk
  cases e⟩
theorem rangeV_len {n : Nat} : (rangeV 0 (n : Int)).length = n := by
  rw [rangeV0]
  simp
/-- a list of draws -/
theorem wS_draws {T : Tab} {jd : Nat} (hd : DrawOk T jd) {ρ : EnvW} {i : Nat} {many : Int} {xs : List Val} {σ : Sg} {Q : List Val → Store → Prop} (ok : SgOk σ) (h0 : 0 < many) (h1 : many < 1073741824) (hρ : (wipeW ρ [i]).getD 1 none = some (.r 1) ∧ i ≠ 1 := by exact ⟨rfl, by decide⟩)
    (k : ∀ (σ' : Sg) (l : List Int), SgOk σ' → l.length = xs.length → Q ((l.map PyData.int).map Val.d) (Sx σ' [])) :
    wS (mapF (turnL T [i] [i] false (.bl true) (.calls jd [.var 1, .int many]) ρ) xs) (Sx σ []) Q := by
  refine wS_mapF (fun rest acc S => ∃ (l : List Int) (σ : Sg), acc = (l.map PyData.int).map Val.d ∧ l.length + rest.length = xs.length ∧ SgOk σ ∧ S = Sx σ []) ?_ ⟨[], σ, rfl, by simp, ok, rfl⟩ ?_
  · rintro x r _ _ ⟨l, σ, rfl, hl, ok, rfl⟩
    have e : ((wipeW ρ [i]).set i (some x)).getD 1 none = some (.r 1) := by
      rw [List.getD_eq_getElem?_getD, List.getElem?_set_ne hρ.2, ← List.getD_eq_getElem?_getD]
      exact hρ.1
    refine turnL_w.mpr ⟨_, rfl, ?_⟩
    simp only [ev_bl, truth_b, Option.some.injEq, exists_eq_left', if_true, ev_calls, evs_cons, evs_nil, ev_var, ev_int]
    refine ⟨_, e, ?_⟩
    refine wS_st (hd σ [] many ok h0 h1) ?_
    rintro v σ' ok' ⟨j, _, _, rfl⟩
    refine ⟨l ++ [j], σ', by simp, ?_, ok', rfl⟩
    simp at hl ⊢
    omega
  · rintro ys _ ⟨l, σ', e, hl, ok', rfl⟩
    simp at e hl
    have e : ys = (l.map PyData.int).map Val.d := by simpa using e
    subst e
    exact k σ' l ok' hl
theorem turn2_ok {T : Tab} {jso jd jsi jt jv jm jj kr kj je jo jl : Nat} (H : Two T jso jd jsi jt jv jm jj kr kj je jo jl) {d0 d2 : Val} {σ : Sg} (ok : SgOk σ) {Q : Out → Store → Prop}
    (fin : ∀ (σ' : Sg) (a3 a4 a5 a6 a7 a8 a10 : Option Val), SgOk σ' → Q (.nx [some d0, some (.r 1), some d2, a3, a4, a5, a6, a7, a8, none, a10, none]) (Sx σ' [])) :
    wS (execs T (turn2B jso jd jsi jt jv jm jj kr kj je jo jl) [some d0, some (.r 1), some d2, none, none, none, none, none, none, none, none, none]) (Sx σ []) Q := by
  have big : 1000 ≤ sizeLine := by decide
  refine seq (fun ρ S => ∃ (σ : Sg) (n : Nat) (E : Ties), SgOk σ ∧ 0 < n ∧ n ≤ 8 ∧ Web n E ∧ ρ = [some d0, some (.r 1), some d2, some (.d (.int n)), some (.d (tiesD E)), none, none, none, none, none, none, none] ∧ S = Sx σ []) ?_ ?_
  · simp
    refine wS_st (H.so σ [] 8 ok (by omega) (by omega)) ?_
    rintro v σ' ok' ⟨n, E, n0, n8, hE, rfl⟩
    exact ⟨_, rfl, σ', ok', n, n0, n8, E, hE, rfl, rfl⟩
  rintro _ _ ⟨σ1, n1, E1, ok1, n10, n18, hE1, rfl, rfl⟩
  refine seq (fun ρ S => ∃ (σ : Sg) (n : Nat) (E : Ties), SgOk σ ∧ 0 < n ∧ n ≤ 8 ∧ Web n E ∧ ρ = [some d0, some (.r 1), some d2, some (.d (.int n)), some (.d (tiesD E)), none, none, none, none, none, none, none] ∧ S = Sx σ []) ?_ ?_
  · refine ex_ite.mpr ?_
    simp only [ev_cmp, ev_calls, evs_cons, evs_nil, ev_var, ev_int]
    refine ⟨.r 1, rfl, ?_⟩
    refine wS_st (H.d σ1 [] 2 ok1 (by omega) (by omega)) ?_
    rintro v σ2 ok2 ⟨i, i0, i1, rfl⟩
    by_cases hi : i = 0
    · refine ⟨true, by simp [hi], true, rfl, ?_⟩
      rw [if_pos rfl]
      refine seq (fun ρ S => ∃ (σ : Sg) (n : Nat), SgOk σ ∧ 2 ≤ n ∧ n ≤ 8 ∧ ρ = [some d0, some (.r 1), some d2, some (.d (.int n)), some (.d (tiesD E1)), none, none, none, none, none, none, none] ∧ S = Sx σ []) ?_ ?_
      · simp
        refine wS_st (H.d σ2 [] 6 ok2 (by omega) (by omega)) ?_
        rintro v σ3 ok3 ⟨i, i0, i1, rfl⟩
        exact ⟨_, rfl, σ3, ok3, (2 + i).toNat, by omega, by omega, by
          have : ((2 + i).toNat : Int) = 2 + i := by omega
          rw [this], rfl⟩
      rintro _ _ ⟨σ3, n, ok3, n2, n8, rfl, rfl⟩
      refine st_one ?_
      have c : L2.CDiv (n : Int) 2 := ⟨by decide, by decide⟩
      obtain ⟨m, e1, m1⟩ : ∃ m : Nat, (n : Int) / 2 = m ∧ m ≤ n := ⟨n / 2, by omega, by omega⟩
      obtain ⟨k, e2, k1⟩ : ∃ k : Nat, (n : Int) - m = k ∧ m + k = n := ⟨n - m, by omega, by omega⟩
      simp [c, e1, e2]
      refine wS_st (H.si σ3 [] m k ok3 (by omega)) ?_
      rintro v σ4 ok4 ⟨E, hE, rfl⟩
      rw [k1] at hE
      exact ⟨σ4, ok4, n, by omega, n8, E, hE, ⟨rfl, rfl⟩, rfl⟩
    · refine ⟨false, by simp [hi], false, rfl, ?_⟩
      rw [if_neg (by simp)]
      refine wS_nil.mpr ⟨σ2, n1, E1, ok2, n10, n18, hE1, rfl, rfl⟩
  clear ok1 n10 n18 hE1
  rintro _ _ ⟨σ1, n, E, ok1, n0, n8, hE, rfl, rfl⟩
  have fit := hE.fit (by omega)
  obtain ⟨y, hy, cy⟩ := H.t n E fit
  obtain ⟨x, hx, cx⟩ := H.v n E fit
  have both : Both n E x y := agree fit hx hy
  refine seq (fun ρ S => ρ = [some d0, some (.r 1), some d2, some (.d (.int n)), some (.d (tiesD E)), some (.d y), none, none, none, none, none, none] ∧ S = Sx σ1 []) (by simp [cy]) ?_
  rintro _ _ ⟨rfl, rfl⟩
  refine seq (fun ρ S => ρ = [some d0, some (.r 1), some d2, some (.d (.int n)), some (.d (tiesD E)), some (.d y), some (.d x), none, none, none, none, none] ∧ S = Sx σ1 []) (by simp [cx]) ?_
  rintro _ _ ⟨rfl, rfl⟩
  refine seq (fun ρ S => ρ = [some d0, some (.r 1), some d2, some (.d (.int n)), some (.d (tiesD E)), some (.d y), some (.d x), none, none, none, none, none] ∧ S = Sx σ1 []) ?_ ?_
  · refine st_ite false ?_ (fun h => by cases h) fun _ => wS_nil.mpr ⟨rfl, rfl⟩
    rcases both with ⟨l, b1, b2, rfl, rfl⟩ | ⟨row, b1, b2, rfl, rfl⟩
    · simp [verV, rowI, papsD_i, isNone, two_le, eqvAll_ints]
    · simp [verV, isNone, two_le]
  rintro _ _ ⟨rfl, rfl⟩
  refine seq (fun ρ S => ∃ (σ : Sg) (l : List Int), SgOk σ ∧ l.length ≤ 8 ∧ ρ = [some d0, some (.r 1), some d2, some (.d (.int n)), some (.d (tiesD E)), some (.d y), some (.d x), some (.d (rowI l)), none, none, none, none] ∧ S = Sx σ []) ?_ ?_
  · simp [ev_slc, CE.isNon, partOf, small_nat (show n < 1000 by omega), show small62 0 = true by decide]
    refine ⟨by omega, ?_⟩
    rw [rangeD0]
    refine wS_st (H.m σ1 [] _ ok1 (by simp; omega)) ?_
    rintro v σ2 ok2 ⟨ds, hds, rfl⟩
    obtain ⟨k, hk, rfl⟩ := perm_nat hds
    refine wS_st (H.d σ2 [] ((n : Int) + 1) ok2 (by omega) (by omega)) ?_
    rintro v σ3 ok3 ⟨i, i0, i1, rfl⟩
    have kl : k.length = n := by
      have := hk.length_eq
      simpa using this
    have cl := cut_len k none (some i)
    refine ⟨i, rfl, ?_⟩
    rw [cutS_l, cut_map, if_pos (by rw [List.length_map]; omega)]
    refine ⟨_, rfl, _, bi_tuple_l, σ3, ok3, castL (cutW k none (some i)), ?_, ?_, rfl⟩
    · simp [castL]
      omega
    · rw [← rowD_cast]
      rfl
  rintro _ _ ⟨σ2, l, ok2, hl, rfl, rfl⟩
  refine seq (fun ρ S => ∃ (σ : Sg) (vs : List Ver), SgOk σ ∧ vs.length ≤ 10 ∧ (∀ v ∈ vs, SmallP v.2) ∧ ρ = [some d0, some (.r 1), some d2, some (.d (.int n)), some (.d (tiesD E)), some (.d y), some (.d x), some (.d (rowI l)), some (.d (.list (vs.map verP))), none, none, none] ∧ S = Sx σ []) ?_ ?_
  · simp [small_nat (show n < 1000 by omega), show small62 0 = true by decide]
    refine wS_draws (many := 2) H.d ok2 (by omega) (by omega) ⟨rfl, by decide⟩ ?_
    intro σ3 ds ok3 hds
    rw [rangeV_len] at hds
    have e2 : ∀ S, binop .Mult (.d (.tuple [.int 2])) (.d (.int (n : Int))) S = some (.d (.tuple (List.replicate n (.int 2)))) := fun S => mult_t1 n0 (by omega)
    have e3 : ∀ S, binop .Mult (.d (.tuple [.int 0])) (.d (.int ((n : Int) + 1))) S = some (.d (.tuple (List.replicate (n + 1) (.int 0)))) := fun S => mult_t1 (n := n + 1) (by omega) (by omega)
    simp [e2, e3]
    refine ⟨by omega, by omega, by omega, by omega, by omega, by omega, by omega, by omega, by omega, σ3, ok3, [(sMakes, ds.map .i), (sMakes, (List.replicate n 2).map .i), (sBars, [.s sRing, .t l]), (sBars, [.s sRound, .t l]), (sMakes, (List.replicate (n + 1) 0).map .i), (sBars, [.s sRing, .t [0, 1, -1]])], by simp, ?_, ?_, rfl⟩
    · have h1 : SmallP (ds.map .i) := small_row (by omega)
      have h2 : SmallP ((List.replicate n (2 : Int)).map .i) := small_row (by simp; omega)
      have h3 : SmallP ((List.replicate (n + 1) (0 : Int)).map .i) := small_row (by simp; omega)
      have h4 : ∀ x, SmallP [.s x, .t l] := fun x => small_ring (by omega)
      have h5 : SmallP [.s sRing, .t [0, 1, -1]] := small_ring (by simp)
      intro a b hab
      simp only [List.mem_cons, Prod.mk.injEq, List.not_mem_nil, or_false] at hab
      rcases hab with ⟨_, rfl⟩ | ⟨_, rfl⟩ | ⟨_, rfl⟩ | ⟨_, rfl⟩ | ⟨_, rfl⟩ | ⟨_, rfl⟩
      · exact h1
      · exact h2
      · exact h4 _
      · exact h4 _
      · exact h3
      · exact h5
    · simp [verP, verV, papsD, papD, rowI]
      done
  clear ok2
  rintro _ _ ⟨σ2, vs, ok2, hvl, hvs, rfl, rfl⟩
  refine seq (fun ρ S => ∃ (vs : List Ver) (a10 : Option Val), vs.length ≤ 20 ∧ (∀ v ∈ vs, SmallP v.2) ∧ ρ = [some d0, some (.r 1), some d2, some (.d (.int n)), some (.d (tiesD E)), some (.d y), some (.d x), some (.d (rowI l)), some (.d (.list (vs.map verP))), none, a10, none] ∧ S = Sx σ2 []) ?_ ?_
  · rcases both with ⟨k, b1, b2, rfl, rfl⟩ | ⟨row, b1, b2, rfl, rfl⟩
    · refine st_ite true (by simp [rowI, isNone]) (fun _ => ?_) fun h => by cases h
      refine st_one ?_
      obtain ⟨k0, z, rfl⟩ : ∃ k0 z, k = k0 ++ [z] := by
        have hne : k ≠ [] := fun e => by rw [e] at b1; simp at b1; omega
        exact ⟨_, _, (List.dropLast_concat_getLast hne).symm⟩
      have al : L2.atI ((k0 ++ [z]).map (Val.d ∘ PyData.int)) (-1) = some (.d (.int z)) := by
        rw [List.map_append]
        exact atI_last
      generalize k0 ++ [z] = k at *
      simp [rowI]
      refine (wS_lcm (emb := Val.d ∘ PyData.int) (fun x => .int (1 - x)) fun x hx => ?_).mpr ?_
      · simp [bindT, setAll, wipeW]
      have cl := cut_len k none (some (-1))
      simp [ev_slc, CE.isNon, partOf, al, cut_map, add_tt]
      refine ⟨by omega, by omega, by omega, _, ⟨by omega, rfl⟩, ?_⟩
      simp
      refine ⟨by omega, _, ⟨by omega, rfl⟩, vs ++ [(sMakes, (k.map fun x => 1 - x).map .i), (sMakes, (cutW k none (some (-1)) ++ [1 - z]).map .i)], by simp; omega, ?_, ?_⟩
      · intro a b hab
        rcases List.mem_append.mp hab with q | q
        · exact hvs _ q
        · simp only [List.mem_cons, Prod.mk.injEq, List.not_mem_nil, or_false] at q
          rcases q with ⟨_, rfl⟩ | ⟨_, rfl⟩
          · exact small_row (by simp; omega)
          · exact small_row (by simp; omega)
      · simp [verP, verV, papsD, papD, Function.comp_def]
    · refine st_ite false (by simp [isNone]) (fun h => by cases h) fun _ => ?_
      refine seq (fun ρ S => ρ = [some d0, some (.r 1), some d2, some (.d (.int n)), some (.d (tiesD E)), some (.d .none), some (.d (verV sBars [.s sRing, .t (castL row)])), some (.d (rowI l)), some (.d (.list (vs.map verP))), none, some (.d (rowI (castL row))), none] ∧ S = Sx σ2 []) ?_ ?_
      · simp [verV, papsD, papD]
      rintro _ _ ⟨rfl, rfl⟩
      have rl : (castL row).length ≤ n := by
        have := nodup_lt b1.nd b1.lt
        simpa [castL] using this
      generalize castL row = r at *
      refine st_one ?_
      simp [ev_slc, CE.isNon, partOf, rowI, cut_map, add_tt]
      have c1 := cut_len r (some 1) none
      have c2 := cut_len r none (some 1)
      have c3 := cut_len r none (some 2)
      refine ⟨_, ⟨by omega, rfl⟩, ?_⟩
      simp
      refine ⟨by omega, _, ⟨by omega, rfl⟩, ?_⟩
      simp
      refine ⟨by omega, by omega, _, ⟨by omega, rfl⟩, vs ++ [(sBars, [.s sRing, .t (cutW r (some 1) none ++ cutW r none (some 1))]), (sBars, [.s sRing, .t (cutW r (some 1) none)]), (sBars, [.s sRing, .t (r ++ cutW r none (some 2))])], by simp; omega, ?_, ?_⟩
      · intro a b hab
        rcases List.mem_append.mp hab with q | q
        · exact hvs _ q
        · simp only [List.mem_cons, Prod.mk.injEq, List.not_mem_nil, or_false] at q
          rcases q with ⟨_, rfl⟩ | ⟨_, rfl⟩ | ⟨_, rfl⟩
          · exact small_ring (by simp; omega)
          · exact small_ring (by omega)
          · exact small_ring (by simp; omega)
      · simp [verP, verV, papsD, papD, rowI]
  clear hvl hvs
  rintro _ _ ⟨vs, a10, hvl, hvs, rfl, rfl⟩
  refine seq (fun ρ S => ρ = [some d0, some (.r 1), some d2, some (.d (.int n)), some (.d (tiesD E)), some (.d y), some (.d x), some (.d (rowI l)), some (.d (.list (vs.map verP))), none, a10, none] ∧ S = Sx σ2 []) ?_ ?_
  · refine st_ite false ?_ (fun h => by cases h) fun _ => wS_nil.mpr ⟨rfl, rfl⟩
    rcases both with ⟨k, b1, b2, rfl, rfl⟩ | ⟨row, b1, b2, rfl, rfl⟩
    · have := H.j n E fit sMakes (k.map .i) vs (small_row (by omega)) (by rw [List.length_map]; omega) hvs (by omega) (by simp [readsP, intsP_map, b2])
      simp [this]
    · have rl : row.length ≤ n := nodup_lt b1.nd b1.lt
      have := H.j n E fit sBars [.s sRing, .t (castL row)] vs (small_ring (by simp [castL]; omega)) (by simp) hvs (by omega) (by
        unfold readsP
        rw [if_neg (by decide)]
        simp [barsP, b2])
      simp [this]
  rintro _ _ ⟨rfl, rfl⟩
  refine st_one ?_
  refine st_for (.list ([l, l ++ l.take 1, l.drop 1, []].map rowI)) ([l, l ++ l.take 1, l.drop 1, []].map (Val.d ∘ rowI)) ?_ ?_
  · have c1 : cutW (l.map PyData.int) (some 1) none = (l.drop 1).map PyData.int := by
      rw [List.map_drop]
      exact cutW_from _ 1
    have c2 : cutW (l.map PyData.int) none (some 1) = (l.take 1).map PyData.int := by
      rw [List.map_take]
      exact cutW_to _ 1
    simp [ev_slc, CE.isNon, partOf, rowI, c1, c2, add_tt, -List.drop_one, -List.map_drop, -List.map_take, -List.map_tail]
    refine ⟨_, ⟨by omega, rfl⟩, ?_⟩
    simp [-List.drop_one, -List.map_drop, -List.map_take, -List.map_tail]
    omega
  refine wS_forL (emb := Val.d ∘ rowI) (fun pre ρ S => ρ = [some d0, some (.r 1), some d2, some (.d (.int n)), some (.d (tiesD E)), some (.d y), some (.d x), some (.d (rowI l)), some (.d (.list (vs.map verP))), none, a10, none] ∧ S = Sx σ2 []) ⟨rfl, rfl⟩ ?_ ?_
  · rintro pre k rest _ _ hpre ⟨rfl, rfl⟩
    have kl : k.length ≤ 900 := by
      have : k ∈ [l, l ++ l.take 1, l.drop 1, []] := by rw [hpre]; simp
      simp only [List.mem_cons, List.not_mem_nil, or_false] at this
      rcases this with rfl | rfl | rfl | rfl
      · omega
      · simp
        omega
      · simp
        omega
      · simp
    have o1 := H.o E k (by have := fit.len; omega) kl
    have o2 := H.l E k (by have := fit.len; omega) kl
    have e1 := H.e (oddI E k) (oddI E k)
    refine turnB_w.mpr ⟨_, rfl, st_one ?_⟩
    refine st_ite false (by simp [o1, o2, e1]) (fun h => by cases h) fun _ => wS_nil.mpr ?_
    cases a10 <;> exact ⟨rfl, rfl⟩
  · rintro _ _ ⟨rfl, rfl⟩
    exact fin σ2 _ _ _ _ _ _ _ ok2
end Wf
set_option maxRecDepth 100000
set_option maxHeartbeats 4000000
/-! W62: the law of two sides. -/
namespace Wf
open PySem
def law2B (jst jso jd jsi jt jv jm jj kr kj je jo jl jri : Nat) : List CS := [
  .set 1 (.calls jst [.var 0]),
  .forr [2] false (.rng (.int 0) (.int 6)) (turn2B jso jd jsi jt jv jm jj kr kj je jo jl),
  .set 3 (.bin .Add (.int 3) (.calls jd [.var 1, .int 8])),
  .ret (.and (.cmp .Eq (.cmp .Eq (.idx (.callp jv [.var 3, .callp jri [.var 3]]) (.int 0)) (.str (Str.ofString "bars"))) (.cmp .Eq (.bin .Mod (.bi .int [.var 3]) (.int 2)) (.int 1))) (.and (.cmp .Eq (.callp jv [.int 1, .tup []]) (.tup [.str (Str.ofString "makes"), .tup [.int 0]])) (.callp je [.callp jo [.callp jri [.int 5], .tup [.int 4, .int 3, .int 2, .int 1, .int 0]], .bl true])))]
def law2D (jst jso jd jsi jt jv jm jj kr kj je jo jl jri : Nat) : Def := ⟨1, 12, true, false, law2B jst jso jd jsi jt jv jm jj kr kj je jo jl jri⟩
/-! a ring of n places: two sides just if n is even -/
theorem mem_ring {n : Nat} {t : Nat × Nat} : t ∈ ringL n ↔ t ∈ pathL n ∨ t = (0, n - 1) := by
  unfold ringL
  rw [(sortT_perm _).mem_iff, List.mem_append, List.mem_singleton]
theorem path_step {n : Nat} {f : Nat → Bool} (h : ∀ t ∈ pathL n, f t.1 ≠ f t.2) : ∀ i, i < n → f i = (f 0 != decide (i % 2 = 1))
  | 0, _ => by simp
  | i + 1, hi => by
    have ih := path_step h i (by omega)
    have m : (i, i + 1) ∈ pathL n := by
      unfold pathL
      exact List.mem_map.mpr ⟨i, List.mem_range.mpr (by omega), rfl⟩
    have := h _ m
    simp only at this
    have e : f (i + 1) = !f i := by
      revert this
      cases f i <;> cases f (i + 1) <;> simp
    rw [e, ih]
    by_cases z : i % 2 = 1
    · have : ¬ ((i + 1) % 2 = 1) := by omega
      rw [decide_eq_true z, decide_eq_false this]
      cases f 0 <;> rfl
    · have : (i + 1) % 2 = 1 := by omega
      rw [decide_eq_false z, decide_eq_true this]
      cases f 0 <;> rfl
theorem ring_even {n : Nat} (h3 : 2 < n) {f : Nat → Bool} (h : Proper (ringL n) f) : n % 2 = 0 := by
  have s := path_step (n := n) (f := f) (fun t ht => h t (mem_ring.mpr (.inl ht))) (n - 1) (by omega)
  have l := h (0, n - 1) (mem_ring.mpr (.inr rfl))
  simp only at l
  by_cases z : (n - 1) % 2 = 1
  · omega
  · rw [decide_eq_false z] at s
    exact absurd (by simpa using s.symm) l
theorem even_ring {n : Nat} (h3 : 2 < n) (he : n % 2 = 0) : Proper (ringL n) fun i => decide (i % 2 = 1) := fun t ht => by
  rcases mem_ring.mp ht with ht | rfl
  · unfold pathL at ht
    obtain ⟨i, _, rfl⟩ := List.mem_map.mp ht
    simp only
    by_cases z : i % 2 = 1
    · have : ¬ ((i + 1) % 2 = 1) := by omega
      rw [decide_eq_true z, decide_eq_false this]
      decide
    · have : (i + 1) % 2 = 1 := by omega
      rw [decide_eq_false z, decide_eq_true this]
      decide
  · have : (n - 1) % 2 = 1 := by omega
    simp only
    rw [decide_eq_true this]
    simp
theorem ring5_odd : oddI (ringL 5) [4, 3, 2, 1, 0] = true := by
  have a : ∀ i, i < 4 → Adj (ringL 5) (i + 1) i := fun i hi => .inr (mem_ring.mpr (.inl (List.mem_map.mpr ⟨i, List.mem_range.mpr hi, rfl⟩)))
  have z : Adj (ringL 5) 0 4 := .inl (mem_ring.mpr (.inr rfl))
  exact odd_bar (n := 5) (row := [4, 3, 2, 1, 0]) (fun t ht => ((web_ring (n := 5) (by omega)).rng t ht).1) ⟨by decide, by decide, by decide, ⟨a 3 (by omega), a 2 (by omega), a 1 (by omega), a 0 (by omega), z, trivial⟩, by decide, fun ⟨f, hf⟩ => by
    have := ring_even (n := 5) (by omega) hf
    omega⟩
theorem law2_ok {T : Tab} {jst jso jd jsi jt jv jm jj kr kj je jo jl jri : Nat} (H : Two T jso jd jsi jt jv jm jj kr kj je jo jl) (hst : StateOk T jst) (hri : ∀ n : Nat, 0 < n → n ≤ 30 → T.pure jri [.d (.int n)] = some (tiesD (ringL n))) {ns : List Int} (hn : ns.length ≤ 63) :
    runP T (law2D jst jso jd jsi jt jv jm jj kr kj je jo jl jri) [.scr ns] = some (.bool true) := by
  refine runP_of rfl ?_
  have big : 1000 ≤ sizeLine := by decide
  have e : startW (law2D jst jso jd jsi jt jv jm jj kr kj je jo jl jri) [.scr ns] = [some (.scr ns), none, none, none, none, none, none, none, none, none, none, none] := rfl
  rw [e]
  have fin : ∀ S, rtQ (.bool true) (.rt (.d (.bool true))) S := fun S => rfl
  generalize rtQ (.bool true) = Q at fin ⊢
  refine seq (fun ρ S => ∃ σ, SgOk σ ∧ ρ = [some (.scr ns), some (.r 1), none, none, none, none, none, none, none, none, none, none] ∧ S = Sx σ []) ?_ ?_
  · refine ex_set.mpr ?_
    simp only [ev_calls, evs_cons, evs_nil, ev_var]
    refine ⟨.scr ns, rfl, wS_mono (hst ns hn) ?_⟩
    rintro v S ⟨σ, ok, rfl, rfl⟩
    exact ⟨σ, ok, rfl, rfl⟩
  rintro _ _ ⟨σ, ok, rfl, rfl⟩
  refine seq (fun ρ S => ∃ σ, SgOk σ ∧ ρ = [some (.scr ns), some (.r 1), none, none, none, none, none, none, none, none, none, none] ∧ S = Sx σ []) ?_ ?_
  · refine st_for .none (rangeV 0 ((6 : Nat) : Int)) ?_ ?_
    · simp [show small62 0 = true by decide, show small62 6 = true by decide]
    refine wS_forN (fun i ρ S => ∃ σ, SgOk σ ∧ ρ = [some (.scr ns), some (.r 1), none, none, none, none, none, none, none, none, none, none] ∧ S = Sx σ []) ⟨σ, ok, rfl, rfl⟩ ?_ fun _ _ h => h
    rintro i _ _ hi ⟨σ, ok, rfl, rfl⟩
    refine turnB_w.mpr ⟨_, rfl, ?_⟩
    refine turn2_ok H ok ?_
    intro σ' a3 a4 a5 a6 a7 a8 a10 ok'
    exact ⟨σ', ok', rfl, rfl⟩
  clear ok
  rintro _ _ ⟨σ, ok, rfl, rfl⟩
  refine seq (fun ρ S => ∃ (σ : Sg) (n : Nat), SgOk σ ∧ 2 < n ∧ n ≤ 10 ∧ ρ = [some (.scr ns), some (.r 1), none, some (.d (.int n)), none, none, none, none, none, none, none, none] ∧ S = Sx σ []) ?_ ?_
  · simp
    refine wS_st (H.d σ [] 8 ok (by omega) (by omega)) ?_
    rintro v σ2 ok2 ⟨i, i0, i1, rfl⟩
    refine ⟨_, rfl, σ2, ok2, (3 + i).toNat, by omega, by omega, ?_, rfl⟩
    have : ((3 + i).toNat : Int) = 3 + i := by omega
    rw [this]
  clear ok
  rintro _ _ ⟨σ, n, ok, n2, n10, rfl, rfl⟩
  have ring := hri n (by omega) (by omega)
  have ring5 := hri 5 (by omega) (by omega)
  have fit := (web_ring n2).fit (by omega)
  obtain ⟨x, hx, cx⟩ := H.v n _ fit
  have fit1 : Fit 1 [] := (web_nil 1).fit (by omega)
  obtain ⟨x1, hx1, cx1⟩ := H.v 1 [] fit1
  have ex1 : x1 = verV sMakes [.i 0] := by
    rcases hx1 with ⟨s, h1, h2, rfl⟩ | ⟨row, h1, _⟩
    · have : s = [some false] := by
        obtain ⟨c, hc⟩ := h1.fin 0 (by omega) trivial
        have pp := h1.par 0 c hc
        have c0 : c = false := by
          have hf : Proper [] fun _ => false := fun t ht => by cases ht
          have := hf.par pp
          cases c
          · rfl
          · simp at this
        subst c0
        have l := h1.len
        match s, l with
        | [a], _ =>
          have : a = some false := hc
          rw [this]
      subst this
      rfl
    · exact absurd ⟨fun _ => false, fun t ht => by cases ht⟩ h1.no
  subst ex1
  have o5 := H.o (ringL 5) [4, 3, 2, 1, 0] (by have := ((web_ring (n := 5) (by omega)).fit (by omega)).len; omega) (by decide)
  rw [ring5_odd] at o5
  have o5 : T.pure jo [.d (tiesD (ringL 5)), .d (.tuple [.int 4, .int 3, .int 2, .int 1, .int 0])] = some (.bool true) := o5
  have ring5 : T.pure jri [.d (.int 5)] = some (tiesD (ringL 5)) := ring5
  have cx1 : T.pure jv [.d (.int 1), .d (.tuple [])] = some (.tuple [.str (Str.ofString "makes"), .tuple [.int 0]]) := cx1
  have i0 : ∀ w ps S, idxS (.d (verV w ps)) (.d (.int 0)) S = some (.d (.str w)) := fun w ps S => by
    unfold verV
    simp
  have e5 := H.e true true
  refine st_one (ex_ret.mpr ?_)
  rcases hx with ⟨s, h1, h2, rfl⟩ | ⟨row, h1, rfl⟩
  · have ev := ring_even n2 (h1.proper fit.rng (sideB_ok.mp h2))
    have ev' : ¬ ((n : Int) % 2 = 1) := by omega
    have nb : ¬ sMakes = Str.ofString "bars" := by decide
    simp [ring, cx, ev', i0, nb, cx1, ring5, o5, e5, two_le]
    exact ⟨by omega, by omega, fin _⟩
  · have od : ¬ n % 2 = 0 := fun z => h1.no ⟨_, even_ring n2 z⟩
    have od' : (n : Int) % 2 = 1 := by omega
    simp [ring, cx, od', i0, cx1, ring5, o5, e5, two_le]
    exact ⟨by omega, by omega, fin _⟩
end Wf
set_option maxRecDepth 100000
set_option maxHeartbeats 8000000
namespace K36
open PySem Wf
abbrev top (i : Nat) : Stmt := PySem.Challenge.pw_webfamilies_k36_whole_two_sided_webs.main.body.getD i (.Pass ⟨0, 0, 0, 0⟩)
def fns : List (Str × Nat) := [(Str.ofString "beside", 0), (Str.ofString "is_row", 1), (Str.ofString "is_named", 2), (Str.ofString "sides_of", 3), (Str.ofString "way_up", 4), (Str.ofString "ring_by", 5), (Str.ofString "goes_around", 6), (Str.ofString "is_odd_ring", 7), (Str.ofString "verdict_two", 8), (Str.ofString "is_verdict_two", 9), (Str.ofString "_law_state", 10), (Str.ofString "_law_draw", 11), (Str.ofString "_law_pick", 12), (Str.ofString "_law_eq", 13), (Str.ofString "_law_mixed", 14), (Str.ofString "_law_path", 15), (Str.ofString "_law_ring", 16), (Str.ofString "_law_star", 17), (Str.ofString "_law_whole", 18), (Str.ofString "_law_web", 19), (Str.ofString "_law_near", 20), (Str.ofString "_law_lots", 21), (Str.ofString "_law_tied", 22), (Str.ofString "_law_some_web", 23), (Str.ofString "_law_mixed_web", 24), (Str.ofString "_law_renamed", 25), (Str.ofString "_law_around", 26), (Str.ofString "_law_bends_of", 27), (Str.ofString "_law_row", 28), (Str.ofString "_law_named", 29), (Str.ofString "_law_joined", 30), (Str.ofString "_law_odd_ring", 31), (Str.ofString "_law_two_sided", 32), (Str.ofString "_law_reads_two", 33), (Str.ofString "_law_sided", 34), (Str.ofString "law", 35)]
def ps : List Bool := [true, true, true, true, true, true, true, true, true, true, false, false, false, true, false, true, true, true, true, false, true, true, true, false, false, false, true, true, true, true, true, true, true, true, false, true]
def blts : List Str := [Str.ofString "abs", Str.ofString "all", Str.ofString "bool", Str.ofString "int", Str.ofString "isinstance", Str.ofString "len", Str.ofString "list", Str.ofString "max", Str.ofString "min", Str.ofString "range", Str.ofString "set", Str.ofString "sorted", Str.ofString "str", Str.ofString "tuple", Str.ofString "zip"]
/-- beside -/
def b0 : List CS := [
  .ret (.bi .tuple [.bi .sorted [.comp false [2, 3] [2, 3] true (.it (.var 0)) (.cmp .In (.var 1) (.tup [.var 2, .var 3])) (.bin .Sub (.bin .Add (.var 2) (.var 3)) (.var 1))]])]
def p0 : PDef := ⟨Str.ofString "beside", [Str.ofString "ties", Str.ofString "place", Str.ofString "a", Str.ofString "b"], [Str.ofString "ties", Str.ofString "place"], ⟨2, 4, true, false, b0⟩⟩
/-- is_row -/
def b1 : List CS := [
  .ret (.and (.bi (.isinst "tuple") [.var 0]) (.bi .all [.comp false [1] [1] false (.it (.var 0)) (.bl true) (.bi (.isinst "int") [.var 1])]))]
def p1 : PDef := ⟨Str.ofString "is_row", [Str.ofString "row", Str.ofString "x"], [Str.ofString "row"], ⟨1, 2, true, false, b1⟩⟩
/-- is_named -/
def b2 : List CS := [
  .ret (.and (.cmp .Eq (.bi .len [.var 0]) (.int 2)) (.and (.cmp .Eq (.idx (.var 0) (.int 0)) (.var 1)) (.callp 1 [.idx (.var 0) (.int 1)])))]
def p2 : PDef := ⟨Str.ofString "is_named", [Str.ofString "paper", Str.ofString "name"], [Str.ofString "paper", Str.ofString "name"], ⟨2, 2, true, false, b2⟩⟩
/-- sides_of -/
def b3 : List CS := [
  .par [2, 3] [.keep (.bin .Mult (.lst false [.non]) (.var 0)), .keep (.bin .Mult (.lst false [.non]) (.var 0))],
  .forr [4] false (.rng (.int 0) (.var 0)) [.ite (.cmp .Is (.idx (.var 2) (.var 4)) (.non)) [.sub (.var 2) (.var 4) (.int 0), .par [5, 6] [.lst true [.var 4], .int 0], .whl (.cmp .Lt (.var 6) (.bi .len [.var 5])) [.set 7 (.idx (.var 5) (.var 6)), .forr [8] false (.it (.callp 0 [.var 1, .var 7])) [.ite (.cmp .Is (.idx (.var 2) (.var 8)) (.non)) [.parsub [.var 2, .var 3] [.var 8, .var 8] [.bin .Sub (.int 1) (.idx (.var 2) (.var 7)), .var 7], .ex (.mt .append (.var 5) [.var 8])] [.ite (.cmp .Eq (.idx (.var 2) (.var 8)) (.idx (.var 2) (.var 7))) [.ret (.tup [.var 2, .callp 5 [.var 3, .var 7, .var 8]])] []]], .aug 6 (.int 1)]] []],
  .ret (.tup [.var 2, .non])]
def p3 : PDef := ⟨Str.ofString "sides_of", [Str.ofString "n", Str.ofString "ties", Str.ofString "side", Str.ofString "above", Str.ofString "start", Str.ofString "order", Str.ofString "at", Str.ofString "here", Str.ofString "other"], [Str.ofString "n", Str.ofString "ties"], ⟨2, 9, true, false, b3⟩⟩
/-- way_up -/
def b4 : List CS := [
  .set 2 (.lst true [.var 1]),
  .whl (.cmp .IsNot (.idx (.var 0) (.idx (.var 2) (.neg (.int 1)))) (.non)) [.ex (.mt .append (.var 2) [.idx (.var 0) (.idx (.var 2) (.neg (.int 1)))])],
  .ret (.var 2)]
def p4 : PDef := ⟨Str.ofString "way_up", [Str.ofString "above", Str.ofString "place", Str.ofString "told"], [Str.ofString "above", Str.ofString "place"], ⟨2, 3, true, false, b4⟩⟩
/-- ring_by -/
def b5 : List CS := [
  .par [3, 4] [.callp 4 [.var 0, .var 1], .callp 4 [.var 0, .var 2]],
  .set 5 (.idx (.comp false [6] [6] false (.it (.var 3)) (.cmp .In (.var 6) (.var 4)) (.var 6)) (.int 0)),
  .ret (.bi .tuple [.bin .Add (.slc (.var 3) (.non) (.bin .Add (.mt .index (.var 3) [.var 5]) (.int 1))) (.rev (.slc (.var 4) (.non) (.mt .index (.var 4) [.var 5])))])]
def p5 : PDef := ⟨Str.ofString "ring_by", [Str.ofString "above", Str.ofString "one", Str.ofString "other", Str.ofString "left", Str.ofString "right", Str.ofString "meet", Str.ofString "place"], [Str.ofString "above", Str.ofString "one", Str.ofString "other"], ⟨3, 7, true, false, b5⟩⟩
/-- goes_around -/
def b6 : List CS := [
  .set 2 (.dcomp [3] [3] false (.it (.var 0)) (.bl true) (.var 3) (.bl true)),
  .ret (.bi .all [.comp false [4, 5] [4, 5] true (.zip (.var 1) (.bin .Add (.slc (.var 1) (.int 1) (.non)) (.slc (.var 1) (.non) (.int 1)))) (.bl true) (.cmp .In (.tup [.bi .min [.var 4, .var 5], .bi .max [.var 4, .var 5]]) (.var 2))])]
def p6 : PDef := ⟨Str.ofString "goes_around", [Str.ofString "ties", Str.ofString "row", Str.ofString "found", Str.ofString "tie", Str.ofString "a", Str.ofString "b"], [Str.ofString "ties", Str.ofString "row"], ⟨2, 6, true, false, b6⟩⟩
/-- is_odd_ring -/
def b7 : List CS := [
  .ret (.and (.cmp .Gt (.bi .len [.var 1]) (.int 2)) (.and (.cmp .Eq (.bin .Mod (.bi .len [.var 1]) (.int 2)) (.int 1)) (.and (.cmp .Eq (.bi .setlen [.var 1]) (.bi .len [.var 1])) (.callp 6 [.var 0, .var 1]))))]
def p7 : PDef := ⟨Str.ofString "is_odd_ring", [Str.ofString "ties", Str.ofString "row"], [Str.ofString "ties", Str.ofString "row"], ⟨2, 2, true, false, b7⟩⟩
/-- verdict_two -/
def b8 : List CS := [
  .tset [2, 3] (.callp 3 [.var 0, .var 1]),
  .ret (.ife (.cmp .Is (.var 3) (.non)) (.tup [.str (Str.ofString "makes"), .bi .tuple [.var 2]]) (.tup [.str (Str.ofString "bars"), .tup [.str (Str.ofString "ring"), .var 3]]))]
def p8 : PDef := ⟨Str.ofString "verdict_two", [Str.ofString "n", Str.ofString "ties", Str.ofString "side", Str.ofString "ring"], [Str.ofString "n", Str.ofString "ties"], ⟨2, 4, true, false, b8⟩⟩
/-- is_verdict_two -/
def b9 : List CS := [
  .tset [3, 4] (.var 2),
  .ite (.cmp .Eq (.var 3) (.str (Str.ofString "makes"))) [.ite (.or (.not (.callp 1 [.var 4])) (.or (.cmp .NotEq (.bi .len [.var 4]) (.var 0)) (.not (.bi .all [.comp false [5] [5] false (.it (.var 4)) (.bl true) (.cmp .In (.var 5) (.tup [.int 0, .int 1]))])))) [.ret (.bl false)] [], .ret (.bi .all [.comp false [6, 7] [6, 7] true (.it (.var 1)) (.bl true) (.cmp .NotEq (.idx (.var 4) (.var 6)) (.idx (.var 4) (.var 7)))])] [],
  .ret (.and (.cmp .Eq (.var 3) (.str (Str.ofString "bars"))) (.and (.callp 2 [.var 4, .str (Str.ofString "ring")]) (.callp 7 [.var 1, .idx (.var 4) (.int 1)])))]
def p9 : PDef := ⟨Str.ofString "is_verdict_two", [Str.ofString "n", Str.ofString "ties", Str.ofString "verdict", Str.ofString "word", Str.ofString "paper", Str.ofString "side", Str.ofString "a", Str.ofString "b"], [Str.ofString "n", Str.ofString "ties", Str.ofString "verdict"], ⟨3, 8, true, false, b9⟩⟩
/-- _law_state -/
def b10 : List CS := [
  .set 1 (.int 7),
  .forr [2] false (.it (.var 0)) [.set 1 (.bin .Mod (.bi .int [.bin .Add (.bin .Mult (.var 1) (.int 31)) (.var 2)]) (.int 1000003))],
  .ret (.lst true [.comp true [2] [2] false (.it (.var 0)) (.bl true) (.bi .abs [.var 2]), .bin .Add (.var 1) (.int 1)])]
def p10 : PDef := ⟨Str.ofString "_law_state", [Str.ofString "script", Str.ofString "seed", Str.ofString "cell"], [Str.ofString "script"], ⟨1, 3, false, true, b10⟩⟩
/-- _law_draw -/
def b11 : List CS := [
  .set 2 (.idx (.var 0) (.int 0)),
  .whl (.and (.cmp .Gt (.bi .len [.var 2]) (.int 0)) (.cmp .Eq (.idx (.var 2) (.int 0)) (.int 0))) [.ex (.mt .pop (.var 2) [.int 0])],
  .ite (.cmp .Gt (.bi .len [.var 2]) (.int 0)) [.set 3 (.idx (.var 2) (.int 0)), .sub (.var 2) (.int 0) (.bin .FloorDiv (.var 3) (.var 1)), .ret (.bin .Mod (.bi .int [.var 3]) (.var 1))] [],
  .set 4 (.bin .Mod (.bi .int [.bin .Add (.bin .Mult (.idx (.var 0) (.int 1)) (.int 48271)) (.int 12345)]) (.int 2147483647)),
  .sub (.var 0) (.int 1) (.var 4),
  .ret (.bin .Mod (.bi .int [.bin .FloorDiv (.var 4) (.int 64)]) (.var 1))]
def p11 : PDef := ⟨Str.ofString "_law_draw", [Str.ofString "state", Str.ofString "many", Str.ofString "cells", Str.ofString "value", Str.ofString "mixed"], [Str.ofString "state", Str.ofString "many"], ⟨2, 5, false, false, b11⟩⟩
/-- _law_pick -/
def b12 : List CS := [
  .ret (.idx (.var 1) (.calls 11 [.var 0, .bi .len [.var 1]]))]
def p12 : PDef := ⟨Str.ofString "_law_pick", [Str.ofString "state", Str.ofString "row"], [Str.ofString "state", Str.ofString "row"], ⟨2, 2, false, false, b12⟩⟩
/-- _law_eq -/
def b13 : List CS := [
  .ite (.or (.bi (.isinst "list") [.var 1]) (.bi (.isinst "tuple") [.var 1])) [.ite (.or (.cmp .NotEq (.bi (.isinst "list") [.var 0]) (.bi (.isinst "list") [.var 1])) (.cmp .NotEq (.bi (.isinst "tuple") [.var 0]) (.bi (.isinst "tuple") [.var 1]))) [.ret (.bl false)] [], .ite (.cmp .NotEq (.bi .len [.var 0]) (.bi .len [.var 1])) [.ret (.bl false)] [], .ret (.cmp .Eq (.comp false [2] [2] false (.rng (.int 0) (.bi .len [.var 1])) (.not (.callp 13 [.idx (.var 0) (.var 2), .idx (.var 1) (.var 2)])) (.var 2)) (.lst false []))] [],
  .ite (.cmp .Is (.var 1) (.non)) [.ret (.cmp .Is (.var 0) (.non))] [],
  .ite (.bi (.isinst "str") [.var 1]) [.ret (.and (.bi (.isinst "str") [.var 0]) (.cmp .Eq (.var 0) (.var 1)))] [],
  .ite (.bi (.isinst "bool") [.var 1]) [.ret (.and (.bi (.isinst "bool") [.var 0]) (.cmp .Eq (.var 0) (.var 1)))] [],
  .ret (.and (.bi (.isinst "int") [.var 0]) (.and (.not (.bi (.isinst "bool") [.var 0])) (.cmp .Eq (.var 0) (.var 1))))]
def p13 : PDef := ⟨Str.ofString "_law_eq", [Str.ofString "told", Str.ofString "due", Str.ofString "k"], [Str.ofString "told", Str.ofString "due"], ⟨2, 3, true, false, b13⟩⟩
/-- _law_mixed -/
def b14 : List CS := [
  .set 2 (.lst true []),
  .forr [3] false (.it (.var 1)) [.ex (.mt .insert (.var 2) [.calls 11 [.var 0, .bin .Add (.bi .len [.var 2]) (.int 1)], .var 3])],
  .ret (.var 2)]
def p14 : PDef := ⟨Str.ofString "_law_mixed", [Str.ofString "state", Str.ofString "rows", Str.ofString "told", Str.ofString "row"], [Str.ofString "state", Str.ofString "rows"], ⟨2, 4, false, false, b14⟩⟩
/-- _law_path -/
def b15 : List CS := [
  .ret (.bi .tuple [.comp false [1] [1] false (.rng (.int 0) (.bin .Sub (.var 0) (.int 1))) (.bl true) (.tup [.var 1, .bin .Add (.var 1) (.int 1)])])]
def p15 : PDef := ⟨Str.ofString "_law_path", [Str.ofString "n", Str.ofString "i"], [Str.ofString "n"], ⟨1, 2, true, false, b15⟩⟩
/-- _law_ring -/
def b16 : List CS := [
  .ret (.bi .tuple [.bi .sorted [.bin .Add (.comp false [1] [1] false (.rng (.int 0) (.bin .Sub (.var 0) (.int 1))) (.bl true) (.tup [.var 1, .bin .Add (.var 1) (.int 1)])) (.lst false [.tup [.int 0, .bin .Sub (.var 0) (.int 1)]])]])]
def p16 : PDef := ⟨Str.ofString "_law_ring", [Str.ofString "n", Str.ofString "i"], [Str.ofString "n"], ⟨1, 2, true, false, b16⟩⟩
/-- _law_star -/
def b17 : List CS := [
  .ret (.bi .tuple [.comp false [1] [1] false (.rng (.int 1) (.var 0)) (.bl true) (.tup [.int 0, .var 1])])]
def p17 : PDef := ⟨Str.ofString "_law_star", [Str.ofString "n", Str.ofString "i"], [Str.ofString "n"], ⟨1, 2, true, false, b17⟩⟩
/-- _law_whole -/
def b18 : List CS := [
  .set 1 (.lst false []),
  .forr [2] false (.rng (.int 0) (.var 0)) [.set 1 (.bin .Add (.var 1) (.comp false [3] [3] false (.rng (.bin .Add (.var 2) (.int 1)) (.var 0)) (.bl true) (.tup [.var 2, .var 3])))],
  .ret (.bi .tuple [.var 1])]
def p18 : PDef := ⟨Str.ofString "_law_whole", [Str.ofString "n", Str.ofString "told", Str.ofString "a", Str.ofString "b"], [Str.ofString "n"], ⟨1, 4, true, false, b18⟩⟩
/-- _law_web -/
def b19 : List CS := [
  .set 3 (.lst false []),
  .forr [4] false (.rng (.int 0) (.var 1)) [.set 3 (.bin .Add (.var 3) (.comp false [5] [5] false (.rng (.bin .Add (.var 4) (.int 1)) (.var 1)) (.cmp .Eq (.calls 11 [.var 0, .var 2]) (.int 0)) (.tup [.var 4, .var 5])))],
  .ret (.bi .tuple [.var 3])]
def p19 : PDef := ⟨Str.ofString "_law_web", [Str.ofString "state", Str.ofString "n", Str.ofString "share", Str.ofString "told", Str.ofString "a", Str.ofString "b"], [Str.ofString "state", Str.ofString "n", Str.ofString "share"], ⟨3, 6, false, false, b19⟩⟩
/-- _law_near -/
def b20 : List CS := [
  .set 2 (.comp true [3] [3] false (.rng (.int 0) (.var 0)) (.bl true) (.lst true [])),
  .forr [4, 5] true (.it (.var 1)) [.ex (.mt .append (.idx (.var 2) (.var 4)) [.var 5]), .ex (.mt .append (.idx (.var 2) (.var 5)) [.var 4])],
  .ret (.comp false [6] [6] false (.it (.var 2)) (.bl true) (.bi .sorted [.var 6]))]
def p20 : PDef := ⟨Str.ofString "_law_near", [Str.ofString "n", Str.ofString "ties", Str.ofString "told", Str.ofString "x", Str.ofString "a", Str.ofString "b", Str.ofString "row"], [Str.ofString "n", Str.ofString "ties"], ⟨2, 7, true, false, b20⟩⟩
/-- _law_lots -/
def b21 : List CS := [
  .set 2 (.lrg (.int 0) (.var 0)),
  .forr [3, 4] true (.it (.var 1)) [.par [5, 6] [.idx (.var 2) (.var 3), .idx (.var 2) (.var 4)], .set 2 (.comp false [7] [7] false (.it (.var 2)) (.bl true) (.ife (.cmp .In (.var 7) (.lst false [.var 5, .var 6])) (.bi .min [.var 5, .var 6]) (.var 7)))],
  .ret (.comp false [8] [8] false (.it (.bi .sortedset [.var 2])) (.bl true) (.comp false [7] [7] false (.rng (.int 0) (.var 0)) (.cmp .Eq (.idx (.var 2) (.var 7)) (.var 8)) (.var 7)))]
def p21 : PDef := ⟨Str.ofString "_law_lots", [Str.ofString "n", Str.ofString "ties", Str.ofString "owner", Str.ofString "a", Str.ofString "b", Str.ofString "one", Str.ofString "other", Str.ofString "x", Str.ofString "k"], [Str.ofString "n", Str.ofString "ties"], ⟨2, 9, true, false, b21⟩⟩
/-- _law_tied -/
def b22 : List CS := [
  .ret (.cmp .In (.tup [.bi .min [.var 1, .var 2], .bi .max [.var 1, .var 2]]) (.var 0))]
def p22 : PDef := ⟨Str.ofString "_law_tied", [Str.ofString "ties", Str.ofString "a", Str.ofString "b"], [Str.ofString "ties", Str.ofString "a", Str.ofString "b"], ⟨3, 3, true, false, b22⟩⟩
/-- _law_some_web -/
def b23 : List CS := [
  .set 2 (.bin .Add (.int 1) (.calls 11 [.var 0, .var 1])),
  .set 3 (.lst false [.callp 15 [.var 2], .callp 17 [.var 2], .callp 18 [.var 2], .ife (.cmp .Gt (.var 2) (.int 2)) (.callp 16 [.var 2]) (.tup [])]),
  .ret (.tup [.var 2, .calls 12 [.var 0, .bin .Add (.lst false [.calls 19 [.var 0, .var 2, .int 2], .calls 19 [.var 0, .var 2, .int 3], .calls 24 [.var 0, .var 2], .calls 19 [.var 0, .var 2, .int 4]]) (.lst false [.calls 12 [.var 0, .var 3]])]])]
def p23 : PDef := ⟨Str.ofString "_law_some_web", [Str.ofString "state", Str.ofString "most", Str.ofString "n", Str.ofString "named"], [Str.ofString "state", Str.ofString "most"], ⟨2, 4, false, false, b23⟩⟩
/-- _law_mixed_web -/
def b24 : List CS := [
  .ret (.bi .tuple [.comp false [2] [2] false (.it (.callp 18 [.var 1])) (.cmp .Gt (.calls 11 [.var 0, .int 4]) (.int 0)) (.var 2)])]
def p24 : PDef := ⟨Str.ofString "_law_mixed_web", [Str.ofString "state", Str.ofString "n", Str.ofString "tie"], [Str.ofString "state", Str.ofString "n"], ⟨2, 3, false, false, b24⟩⟩
/-- _law_renamed -/
def b25 : List CS := [
  .set 3 (.calls 14 [.var 0, .lrg (.int 0) (.var 1)]),
  .ret (.bi .tuple [.bi .sorted [.comp false [4, 5] [4, 5] true (.it (.var 2)) (.bl true) (.tup [.bi .min [.idx (.var 3) (.var 4), .idx (.var 3) (.var 5)], .bi .max [.idx (.var 3) (.var 4), .idx (.var 3) (.var 5)]])]])]
def p25 : PDef := ⟨Str.ofString "_law_renamed", [Str.ofString "state", Str.ofString "n", Str.ofString "ties", Str.ofString "names", Str.ofString "a", Str.ofString "b"], [Str.ofString "state", Str.ofString "n", Str.ofString "ties"], ⟨3, 6, false, false, b25⟩⟩
/-- _law_around -/
def b26 : List CS := [
  .ite (.or (.cmp .Lt (.bi .len [.var 1]) (.int 3)) (.cmp .NotEq (.bi .setlen [.var 1]) (.bi .len [.var 1]))) [.ret (.bl false)] [],
  .forr [2] false (.rng (.int 0) (.bi .len [.var 1])) [.ite (.not (.callp 22 [.var 0, .idx (.var 1) (.bin .Sub (.var 2) (.int 1)), .idx (.var 1) (.var 2)])) [.ret (.bl false)] []],
  .ret (.bl true)]
def p26 : PDef := ⟨Str.ofString "_law_around", [Str.ofString "ties", Str.ofString "row", Str.ofString "k"], [Str.ofString "ties", Str.ofString "row"], ⟨2, 3, true, false, b26⟩⟩
/-- _law_bends_of -/
def b27 : List CS := [
  .tset [1, 2] (.var 0),
  .set 3 (.lst true [.tup [.ife (.cmp .Eq (.var 1) (.str (Str.ofString "bars"))) (.str (Str.ofString "makes")) (.str (Str.ofString "bars")), .var 2], .tup [.str (Str.ofString "holds"), .var 2], .tup [.var 1, .slc (.var 2) (.int 1) (.non)], .tup [.var 1, .bin .Add (.var 2) (.slc (.var 2) (.non) (.int 1))], .tup [.var 1, .tup []]]),
  .ite (.cmp .Gt (.bi .len [.var 2]) (.int 1)) [.ex (.mt .append (.var 3) [.tup [.var 1, .rev (.var 2)]])] [],
  .ret (.var 3)]
def p27 : PDef := ⟨Str.ofString "_law_bends_of", [Str.ofString "verdict", Str.ofString "word", Str.ofString "paper", Str.ofString "told"], [Str.ofString "verdict"], ⟨1, 4, true, false, b27⟩⟩
/-- _law_row -/
def b28 : List CS := [
  .ret (.and (.bi (.isinst "tuple") [.var 0]) (.cmp .Eq (.comp false [1] [1] false (.it (.var 0)) (.not (.bi (.isinst "int") [.var 1])) (.var 1)) (.lst false [])))]
def p28 : PDef := ⟨Str.ofString "_law_row", [Str.ofString "row", Str.ofString "x"], [Str.ofString "row"], ⟨1, 2, true, false, b28⟩⟩
/-- _law_named -/
def b29 : List CS := [
  .ret (.and (.cmp .Eq (.bi .len [.var 0]) (.int 2)) (.and (.cmp .Eq (.idx (.var 0) (.int 0)) (.var 1)) (.callp 28 [.idx (.var 0) (.int 1)])))]
def p29 : PDef := ⟨Str.ofString "_law_named", [Str.ofString "paper", Str.ofString "name"], [Str.ofString "paper", Str.ofString "name"], ⟨2, 2, true, false, b29⟩⟩
/-- _law_joined -/
def b30 : List CS := [
  .set 6 (.var 2),
  .ite (.or (.not (.bi (.isinst "tuple") [.var 6])) (.or (.cmp .NotEq (.bi .len [.var 6]) (.int 2)) (.or (.not (.callv 3 [.var 0, .var 1, .var 6])) (.not (.callp 13 [.callv 4 [.var 0, .var 1, .var 6], .bl true]))))) [.ret (.bl false)] [],
  .forr [7] false (.it (.bin .Add (.callp 27 [.var 6]) (.var 5))) [.ite (.not (.callp 13 [.callv 4 [.var 0, .var 1, .var 7], .callv 3 [.var 0, .var 1, .var 7]])) [.ret (.bl false)] []],
  .ret (.bl true)]
def p30 : PDef := ⟨Str.ofString "_law_joined", [Str.ofString "n", Str.ofString "ties", Str.ofString "verdict_one", Str.ofString "reads", Str.ofString "judge", Str.ofString "more", Str.ofString "told", Str.ofString "some"], [Str.ofString "n", Str.ofString "ties", Str.ofString "verdict_one", Str.ofString "reads", Str.ofString "judge", Str.ofString "more"], ⟨6, 8, true, false, b30⟩⟩
/-- _law_odd_ring -/
def b31 : List CS := [
  .ret (.and (.cmp .Eq (.bin .Mod (.bi .int [.bi .len [.var 1]]) (.int 2)) (.int 1)) (.callp 26 [.var 0, .var 1]))]
def p31 : PDef := ⟨Str.ofString "_law_odd_ring", [Str.ofString "ties", Str.ofString "row"], [Str.ofString "ties", Str.ofString "row"], ⟨2, 2, true, false, b31⟩⟩
/-- _law_two_sided -/
def b32 : List CS := [
  .set 2 (.keep (.bin .Mult (.lst false [.non]) (.var 0))),
  .set 3 (.callp 20 [.var 0, .var 1]),
  .forr [4] false (.it (.callp 21 [.var 0, .var 1])) [.sub (.var 2) (.idx (.var 4) (.int 0)) (.int 0), .par [5, 6] [.lst true [.idx (.var 4) (.int 0)], .int 0], .whl (.cmp .Lt (.var 6) (.bi .len [.var 5])) [.forr [7] false (.it (.idx (.var 3) (.idx (.var 5) (.var 6)))) [.ite (.cmp .Is (.idx (.var 2) (.var 7)) (.non)) [.sub (.var 2) (.var 7) (.bin .Sub (.int 1) (.idx (.var 2) (.idx (.var 5) (.var 6)))), .ex (.mt .append (.var 5) [.var 7])] []], .set 6 (.bin .Add (.var 6) (.int 1))]],
  .ret (.ife (.cmp .Eq (.comp false [8, 9] [8, 9] true (.it (.var 1)) (.cmp .Eq (.idx (.var 2) (.var 8)) (.idx (.var 2) (.var 9))) (.int 1)) (.lst false [])) (.bi .tuple [.var 2]) (.non))]
def p32 : PDef := ⟨Str.ofString "_law_two_sided", [Str.ofString "n", Str.ofString "ties", Str.ofString "side", Str.ofString "near", Str.ofString "lot", Str.ofString "order", Str.ofString "at", Str.ofString "y", Str.ofString "a", Str.ofString "b"], [Str.ofString "n", Str.ofString "ties"], ⟨2, 10, true, false, b32⟩⟩
/-- _law_reads_two -/
def b33 : List CS := [
  .tset [3, 4] (.var 2),
  .ite (.cmp .Eq (.var 3) (.str (Str.ofString "makes"))) [.ret (.and (.callp 28 [.var 4]) (.and (.cmp .Eq (.bi .len [.var 4]) (.var 0)) (.and (.cmp .Eq (.comp false [5] [5] false (.it (.var 4)) (.cmp .NotIn (.var 5) (.lst false [.int 0, .int 1])) (.var 5)) (.lst false [])) (.cmp .Eq (.comp false [6, 7] [6, 7] true (.it (.var 1)) (.cmp .Eq (.idx (.var 4) (.var 6)) (.idx (.var 4) (.var 7))) (.int 1)) (.lst false [])))))] [],
  .ret (.and (.cmp .Eq (.var 3) (.str (Str.ofString "bars"))) (.and (.callp 29 [.var 4, .str (Str.ofString "ring")]) (.callp 31 [.var 1, .idx (.var 4) (.int 1)])))]
def p33 : PDef := ⟨Str.ofString "_law_reads_two", [Str.ofString "n", Str.ofString "ties", Str.ofString "verdict", Str.ofString "word", Str.ofString "paper", Str.ofString "x", Str.ofString "a", Str.ofString "b"], [Str.ofString "n", Str.ofString "ties", Str.ofString "verdict"], ⟨3, 8, true, false, b33⟩⟩
/-- _law_sided -/
def b34 : List CS := [
  .set 3 (.lst false []),
  .set 4 (.calls 12 [.var 0, .lst false [.int 2, .int 3, .int 1]]),
  .forr [5] false (.rng (.int 0) (.var 1)) [.set 3 (.bin .Add (.var 3) (.comp false [6] [6] false (.rng (.int 0) (.var 2)) (.cmp .Lt (.calls 11 [.var 0, .bin .Add (.var 4) (.int 1)]) (.var 4)) (.tup [.var 5, .bin .Add (.var 1) (.var 6)])))],
  .ret (.calls 25 [.var 0, .bin .Add (.var 1) (.var 2), .bi .tuple [.var 3]])]
def p34 : PDef := ⟨Str.ofString "_law_sided", [Str.ofString "state", Str.ofString "m", Str.ofString "k", Str.ofString "ties", Str.ofString "share", Str.ofString "a", Str.ofString "b"], [Str.ofString "state", Str.ofString "m", Str.ofString "k"], ⟨3, 7, false, false, b34⟩⟩
/-- law -/
def b35 : List CS := [
  .set 1 (.calls 10 [.var 0]),
  .forr [2] false (.rng (.int 0) (.int 6)) [.tset [3, 4] (.calls 23 [.var 1, .int 8]), .ite (.cmp .Eq (.calls 11 [.var 1, .int 2]) (.int 0)) [.set 3 (.bin .Add (.int 2) (.calls 11 [.var 1, .int 6])), .set 4 (.calls 34 [.var 1, .bin .FloorDiv (.var 3) (.int 2), .bin .Sub (.var 3) (.bin .FloorDiv (.var 3) (.int 2))])] [], .set 5 (.callp 32 [.var 3, .var 4]), .set 6 (.callp 8 [.var 3, .var 4]), .ite (.or (.cmp .NotEq (.idx (.var 6) (.int 0)) (.ife (.cmp .Is (.var 5) (.non)) (.str (Str.ofString "bars")) (.str (Str.ofString "makes")))) (.and (.cmp .IsNot (.var 5) (.non)) (.cmp .NotEq (.var 6) (.tup [.str (Str.ofString "makes"), .var 5])))) [.ret (.bl false)] [], .set 7 (.bi .tuple [.slc (.calls 14 [.var 1, .lrg (.int 0) (.var 3)]) (.non) (.calls 11 [.var 1, .bin .Add (.var 3) (.int 1)])]), .set 8 (.lst false [.tup [.str (Str.ofString "makes"), .bi .tuple [.comp false [9] [9] false (.rng (.int 0) (.var 3)) (.bl true) (.calls 11 [.var 1, .int 2])]], .tup [.str (Str.ofString "makes"), .bin .Mult (.tup [.int 2]) (.var 3)], .tup [.str (Str.ofString "bars"), .tup [.str (Str.ofString "ring"), .var 7]], .tup [.str (Str.ofString "bars"), .tup [.str (Str.ofString "round"), .var 7]], .tup [.str (Str.ofString "makes"), .bin .Mult (.tup [.int 0]) (.bin .Add (.var 3) (.int 1))], .tup [.str (Str.ofString "bars"), .tup [.str (Str.ofString "ring"), .tup [.int 0, .int 1, .neg (.int 1)]]]]), .ite (.cmp .IsNot (.var 5) (.non)) [.set 8 (.bin .Add (.var 8) (.lst false [.tup [.str (Str.ofString "makes"), .bi .tuple [.comp false [9] [9] false (.it (.var 5)) (.bl true) (.bin .Sub (.int 1) (.var 9))]], .tup [.str (Str.ofString "makes"), .bin .Add (.slc (.var 5) (.non) (.neg (.int 1))) (.tup [.bin .Sub (.int 1) (.idx (.var 5) (.neg (.int 1)))])]]))] [.set 10 (.idx (.idx (.var 6) (.int 1)) (.int 1)), .set 8 (.bin .Add (.var 8) (.lst false [.tup [.str (Str.ofString "bars"), .tup [.str (Str.ofString "ring"), .bin .Add (.slc (.var 10) (.int 1) (.non)) (.slc (.var 10) (.non) (.int 1))]], .tup [.str (Str.ofString "bars"), .tup [.str (Str.ofString "ring"), .slc (.var 10) (.int 1) (.non)]], .tup [.str (Str.ofString "bars"), .tup [.str (Str.ofString "ring"), .bin .Add (.var 10) (.slc (.var 10) (.non) (.int 2))]]]))], .ite (.not (.callp 30 [.var 3, .var 4, .var 6, .fn 33, .fn 9, .var 8])) [.ret (.bl false)] [], .forr [11] false (.it (.lst false [.var 7, .bin .Add (.var 7) (.slc (.var 7) (.non) (.int 1)), .slc (.var 7) (.int 1) (.non), .tup []])) [.ite (.not (.callp 13 [.callp 7 [.var 4, .var 11], .callp 31 [.var 4, .var 11]])) [.ret (.bl false)] []]],
  .set 3 (.bin .Add (.int 3) (.calls 11 [.var 1, .int 8])),
  .ret (.and (.cmp .Eq (.cmp .Eq (.idx (.callp 8 [.var 3, .callp 16 [.var 3]]) (.int 0)) (.str (Str.ofString "bars"))) (.cmp .Eq (.bin .Mod (.bi .int [.var 3]) (.int 2)) (.int 1))) (.and (.cmp .Eq (.callp 8 [.int 1, .tup []]) (.tup [.str (Str.ofString "makes"), .tup [.int 0]])) (.callp 13 [.callp 7 [.callp 16 [.int 5], .tup [.int 4, .int 3, .int 2, .int 1, .int 0]], .bl true])))]
def p35 : PDef := ⟨Str.ofString "law", [Str.ofString "script", Str.ofString "state", Str.ofString "turn", Str.ofString "n", Str.ofString "ties", Str.ofString "sides", Str.ofString "told", Str.ofString "row", Str.ofString "more", Str.ofString "x", Str.ofString "ring", Str.ofString "some"], [Str.ofString "script"], ⟨1, 12, true, false, b35⟩⟩
theorem c0 : defB fns ps blts p0 (top 1) = true := by decide +kernel
theorem c1 : defB fns ps blts p1 (top 3) = true := by decide +kernel
theorem c2 : defB fns ps blts p2 (top 4) = true := by decide +kernel
theorem c3 : defB fns ps blts p3 (top 6) = true := by decide +kernel
theorem c4 : defB fns ps blts p4 (top 7) = true := by decide +kernel
theorem c5 : defB fns ps blts p5 (top 8) = true := by decide +kernel
theorem c6 : defB fns ps blts p6 (top 9) = true := by decide +kernel
theorem c7 : defB fns ps blts p7 (top 10) = true := by decide +kernel
theorem c8 : defB fns ps blts p8 (top 11) = true := by decide +kernel
theorem c9 : defB fns ps blts p9 (top 12) = true := by decide +kernel
theorem c10 : defB fns ps blts p10 (top 14) = true := by decide +kernel
theorem c11 : defB fns ps blts p11 (top 15) = true := by decide +kernel
theorem c12 : defB fns ps blts p12 (top 16) = true := by decide +kernel
theorem c13 : defB fns ps blts p13 (top 17) = true := by decide +kernel
theorem c14 : defB fns ps blts p14 (top 18) = true := by decide +kernel
theorem c15 : defB fns ps blts p15 (top 19) = true := by decide +kernel
theorem c16 : defB fns ps blts p16 (top 20) = true := by decide +kernel
theorem c17 : defB fns ps blts p17 (top 21) = true := by decide +kernel
theorem c18 : defB fns ps blts p18 (top 22) = true := by decide +kernel
theorem c19 : defB fns ps blts p19 (top 23) = true := by decide +kernel
theorem c20 : defB fns ps blts p20 (top 24) = true := by decide +kernel
theorem c21 : defB fns ps blts p21 (top 25) = true := by decide +kernel
theorem c22 : defB fns ps blts p22 (top 26) = true := by decide +kernel
theorem c23 : defB fns ps blts p23 (top 27) = true := by decide +kernel
theorem c24 : defB fns ps blts p24 (top 28) = true := by decide +kernel
theorem c25 : defB fns ps blts p25 (top 29) = true := by decide +kernel
theorem c26 : defB fns ps blts p26 (top 30) = true := by decide +kernel
theorem c27 : defB fns ps blts p27 (top 31) = true := by decide +kernel
theorem c28 : defB fns ps blts p28 (top 32) = true := by decide +kernel
theorem c29 : defB fns ps blts p29 (top 33) = true := by decide +kernel
theorem c30 : defB fns ps blts p30 (top 34) = true := by decide +kernel
theorem c31 : defB fns ps blts p31 (top 35) = true := by decide +kernel
theorem c32 : defB fns ps blts p32 (top 36) = true := by decide +kernel
theorem c33 : defB fns ps blts p33 (top 37) = true := by decide +kernel
theorem c34 : defB fns ps blts p34 (top 38) = true := by decide +kernel
theorem c35 : defB fns ps blts p35 (top 39) = true := by decide +kernel
theorem d0 : BindsP p0.name p0.P (top 1) := fun _ _ _ _ _ _ us hl => match us, hl with | [_, _], _ => rfl
theorem d1 : BindsP p1.name p1.P (top 3) := fun _ _ _ _ _ _ us hl => match us, hl with | [_], _ => rfl
theorem d2 : BindsP p2.name p2.P (top 4) := fun _ _ _ _ _ _ us hl => match us, hl with | [_, _], _ => rfl
theorem d3 : BindsP p3.name p3.P (top 6) := fun _ _ _ _ _ _ us hl => match us, hl with | [_, _], _ => rfl
theorem d4 : BindsP p4.name p4.P (top 7) := fun _ _ _ _ _ _ us hl => match us, hl with | [_, _], _ => rfl
theorem d5 : BindsP p5.name p5.P (top 8) := fun _ _ _ _ _ _ us hl => match us, hl with | [_, _, _], _ => rfl
theorem d6 : BindsP p6.name p6.P (top 9) := fun _ _ _ _ _ _ us hl => match us, hl with | [_, _], _ => rfl
theorem d7 : BindsP p7.name p7.P (top 10) := fun _ _ _ _ _ _ us hl => match us, hl with | [_, _], _ => rfl
theorem d8 : BindsP p8.name p8.P (top 11) := fun _ _ _ _ _ _ us hl => match us, hl with | [_, _], _ => rfl
theorem d9 : BindsP p9.name p9.P (top 12) := fun _ _ _ _ _ _ us hl => match us, hl with | [_, _, _], _ => rfl
theorem d10 : BindsP p10.name p10.P (top 14) := fun _ _ _ _ _ _ us hl => match us, hl with | [_], _ => rfl
theorem d11 : BindsP p11.name p11.P (top 15) := fun _ _ _ _ _ _ us hl => match us, hl with | [_, _], _ => rfl
theorem d12 : BindsP p12.name p12.P (top 16) := fun _ _ _ _ _ _ us hl => match us, hl with | [_, _], _ => rfl
theorem d13 : BindsP p13.name p13.P (top 17) := fun _ _ _ _ _ _ us hl => match us, hl with | [_, _], _ => rfl
theorem d14 : BindsP p14.name p14.P (top 18) := fun _ _ _ _ _ _ us hl => match us, hl with | [_, _], _ => rfl
theorem d15 : BindsP p15.name p15.P (top 19) := fun _ _ _ _ _ _ us hl => match us, hl with | [_], _ => rfl
theorem d16 : BindsP p16.name p16.P (top 20) := fun _ _ _ _ _ _ us hl => match us, hl with | [_], _ => rfl
theorem d17 : BindsP p17.name p17.P (top 21) := fun _ _ _ _ _ _ us hl => match us, hl with | [_], _ => rfl
theorem d18 : BindsP p18.name p18.P (top 22) := fun _ _ _ _ _ _ us hl => match us, hl with | [_], _ => rfl
theorem d19 : BindsP p19.name p19.P (top 23) := fun _ _ _ _ _ _ us hl => match us, hl with | [_, _, _], _ => rfl
theorem d20 : BindsP p20.name p20.P (top 24) := fun _ _ _ _ _ _ us hl => match us, hl with | [_, _], _ => rfl
theorem d21 : BindsP p21.name p21.P (top 25) := fun _ _ _ _ _ _ us hl => match us, hl with | [_, _], _ => rfl
theorem d22 : BindsP p22.name p22.P (top 26) := fun _ _ _ _ _ _ us hl => match us, hl with | [_, _, _], _ => rfl
theorem d23 : BindsP p23.name p23.P (top 27) := fun _ _ _ _ _ _ us hl => match us, hl with | [_, _], _ => rfl
theorem d24 : BindsP p24.name p24.P (top 28) := fun _ _ _ _ _ _ us hl => match us, hl with | [_, _], _ => rfl
theorem d25 : BindsP p25.name p25.P (top 29) := fun _ _ _ _ _ _ us hl => match us, hl with | [_, _, _], _ => rfl
theorem d26 : BindsP p26.name p26.P (top 30) := fun _ _ _ _ _ _ us hl => match us, hl with | [_, _], _ => rfl
theorem d27 : BindsP p27.name p27.P (top 31) := fun _ _ _ _ _ _ us hl => match us, hl with | [_], _ => rfl
theorem d28 : BindsP p28.name p28.P (top 32) := fun _ _ _ _ _ _ us hl => match us, hl with | [_], _ => rfl
theorem d29 : BindsP p29.name p29.P (top 33) := fun _ _ _ _ _ _ us hl => match us, hl with | [_, _], _ => rfl
theorem d30 : BindsP p30.name p30.P (top 34) := fun _ _ _ _ _ _ us hl => match us, hl with | [_, _, _, _, _, _], _ => rfl
theorem d31 : BindsP p31.name p31.P (top 35) := fun _ _ _ _ _ _ us hl => match us, hl with | [_, _], _ => rfl
theorem d32 : BindsP p32.name p32.P (top 36) := fun _ _ _ _ _ _ us hl => match us, hl with | [_, _], _ => rfl
theorem d33 : BindsP p33.name p33.P (top 37) := fun _ _ _ _ _ _ us hl => match us, hl with | [_, _, _], _ => rfl
theorem d34 : BindsP p34.name p34.P (top 38) := fun _ _ _ _ _ _ us hl => match us, hl with | [_, _, _], _ => rfl
theorem d35 : BindsP p35.name p35.P (top 39) := fun _ _ _ _ _ _ us hl => match us, hl with | [_], _ => rfl
def ds : List PS2 := [(p0, top 1), (p1, top 3), (p2, top 4), (p3, top 6), (p4, top 7), (p5, top 8), (p6, top 9), (p7, top 10), (p8, top 11), (p9, top 12), (p10, top 14), (p11, top 15), (p12, top 16), (p13, top 17), (p14, top 18), (p15, top 19), (p16, top 20), (p17, top 21), (p18, top 22), (p19, top 23), (p20, top 24), (p21, top 25), (p22, top 26), (p23, top 27), (p24, top 28), (p25, top 29), (p26, top 30), (p27, top 31), (p28, top 32), (p29, top 33), (p30, top 34), (p31, top 35), (p32, top 36), (p33, top 37), (p34, top 38), (p35, top 39)]
theorem all : AllB ds blts := allB_of (fns := fns) (ps := ps) rfl rfl ⟨⟨c0, d0⟩, ⟨c1, d1⟩, ⟨c2, d2⟩, ⟨c3, d3⟩, ⟨c4, d4⟩, ⟨c5, d5⟩, ⟨c6, d6⟩, ⟨c7, d7⟩, ⟨c8, d8⟩, ⟨c9, d9⟩, ⟨c10, d10⟩, ⟨c11, d11⟩, ⟨c12, d12⟩, ⟨c13, d13⟩, ⟨c14, d14⟩, ⟨c15, d15⟩, ⟨c16, d16⟩, ⟨c17, d17⟩, ⟨c18, d18⟩, ⟨c19, d19⟩, ⟨c20, d20⟩, ⟨c21, d21⟩, ⟨c22, d22⟩, ⟨c23, d23⟩, ⟨c24, d24⟩, ⟨c25, d25⟩, ⟨c26, d26⟩, ⟨c27, d27⟩, ⟨c28, d28⟩, ⟨c29, d29⟩, ⟨c30, d30⟩, ⟨c31, d31⟩, ⟨c32, d32⟩, ⟨c33, d33⟩, ⟨c34, d34⟩, ⟨c35, d35⟩, trivial⟩
noncomputable def lawT (n : Nat) (ns : List Int) : Option PyData := (tabA ds n).pure 35 [.scr ns]
end K36
set_option maxRecDepth 100000
set_option maxHeartbeats 4000000
/-! K36p: the plain law of k36. -/
namespace K36P
open PySem Wf
noncomputable abbrev T (n : Nat) : Tab := tabA K36.ds n
theorem pt (n j : Nat) (vs : List Val) (d : Def) (h : (K36.ds.map fun p => p.1.d)[j]? = some d) (hp : d.isP = true) : (T (n + 1)).pure j vs = runP (T n) d vs := by
  show (match (K36.ds.map fun p => p.1.d)[j]? with
    | some d => if d.isP = true then runP (T n) d vs else none
    | none => none) = _
  rw [h]
  exact if_pos hp
theorem draw (n : Nat) : DrawOk (T (n + 1)) 11 := drawOk_of (T0 := T n) fun _ => rfl
theorem pick (n : Nat) : PickOk (T (n + 2)) 12 := pickOk_of (T0 := T (n + 1)) (draw n) fun _ => rfl
theorem mixed (n : Nat) : MixedOk (T (n + 2)) 14 := mixedOk_of (T0 := T (n + 1)) (draw n) fun _ => rfl
theorem path (n : Nat) : ∀ k : Nat, 0 < k → k ≤ 30 → (T (n + 1)).pure 15 [.d (.int k)] = some (tiesD (pathL k)) := fun k h0 h => (pt _ 15 _ (pathD) rfl rfl).trans (path_ok (T n) (n := k) h0 h)
theorem ring (n : Nat) : ∀ k : Nat, 0 < k → k ≤ 30 → (T (n + 1)).pure 16 [.d (.int k)] = some (tiesD (ringL k)) := fun k h0 h => (pt _ 16 _ (ringD) rfl rfl).trans (ring_ok (T n) (n := k) h0 h)
theorem star (n : Nat) : ∀ k : Nat, k ≤ 30 → (T (n + 1)).pure 17 [.d (.int k)] = some (tiesD (starL k)) := fun k h => (pt _ 17 _ (starD) rfl rfl).trans (star_ok (T n) (n := k) h)
theorem whole (n : Nat) : ∀ k : Nat, k ≤ 30 → (T (n + 1)).pure 18 [.d (.int k)] = some (tiesD (wholeL k)) := fun k h => (pt _ 18 _ (wholeD) rfl rfl).trans (whole_ok (T n) (n := k) h)
theorem named (n : Nat) : NamedOk (T (n + 1)) 15 17 18 16 := ⟨path n, star n, whole n, ring n⟩
theorem web (n : Nat) : WebOk (T (n + 2)) 19 := webOk_of (T0 := T (n + 1)) (draw n) fun _ => rfl
theorem mweb (n : Nat) : MwebOk (T (n + 2)) 24 := mwebOk_of (T0 := T (n + 1)) (draw n) (whole n) fun _ => rfl
theorem someW (n : Nat) : SomeOk (T (n + 3)) 23 := someOk_of (T0 := T (n + 2)) (draw (n + 1)) (named (n + 1)) (pick n) (web n) (mweb n) fun _ => rfl
theorem ren (n : Nat) : RenOk (T (n + 3)) 25 := renOk_of (T0 := T (n + 2)) (mixed n) fun _ => rfl
theorem sid (n : Nat) : SidOk (T (n + 4)) 34 := sidOk_of (T0 := T (n + 3)) (pick (n + 1)) (draw (n + 2)) (ren n) fun _ => rfl
theorem bes (n : Nat) : BesOk (T (n + 1)) 0 := fun E p hl => (pt _ 0 _ (besD) rfl rfl).trans (bes_ok (T n) hl)
theorem wayL_len (ab : List (Option Nat)) : ∀ (k v : Nat), (wayL ab k v).length ≤ k + 1
  | 0, v => by simp [wayL]
  | k + 1, v => by
    rw [wayL]
    cases ab.getD v none with
    | none => simp
    | some u =>
      have := wayL_len ab k u
      simp
      omega
theorem rby (n : Nat) : RbyOk (T (n + 2)) 5 := fun ab rk a b hr ha hb ra rb ⟨m, hm⟩ => by
  have h1 : (T (n + 1)).pure 4 [.d (.list (ab.map optD)), .d (.int a)] = some (wayD2 (wayL ab (rk a) a)) := (pt _ 4 _ wayD rfl rfl).trans <| way_ok (T n) hr ha (by omega)
  have h2 : (T (n + 1)).pure 4 [.d (.list (ab.map optD)), .d (.int b)] = some (wayD2 (wayL ab (rk b) b)) := (pt _ 4 _ wayD rfl rfl).trans <| way_ok (T n) hr hb (by omega)
  have l1 := wayL_len ab (rk a) a
  have l2 := wayL_len ab (rk b) b
  exact (pt _ 5 _ (rbyD 4) rfl rfl).trans <| rby_ok (T := T (n + 1)) (jw := 4) h1 h2 (by omega) (by omega) hm
theorem near (n : Nat) : NearOk (T (n + 1)) 20 := fun k E hk hE hl => (pt _ 20 _ (nearD) rfl rfl).trans (near_ok (T n) (n := k) (E := E) hk hE hl)
theorem lots (n : Nat) : LotsOk (T (n + 1)) 21 := fun k E hk hE => (pt _ 21 _ (lotsD) rfl rfl).trans (lots_ok (T n) (n := k) (E := E) hk hE)
theorem two (n : Nat) : TwoOk (T (n + 2)) 32 := fun k E hf => (two_ok (T := T (n + 1)) (near n) (lots n) (n := k) (E := E) hf.n30 hf.rng hf.len).imp fun x h => ⟨h.1, (pt _ 32 _ (twoD 20 21) rfl rfl).trans h.2⟩
theorem sides (n : Nat) : SidesOk (T (n + 3)) 3 := fun k E hf => (sides_ok (T := T (n + 2)) (bes (n + 1)) (rby n) (n := k) (E := E) hf.n30 hf.rng hf.len).imp fun x h => ⟨h.1, (pt _ 3 _ (sidesD 0 5) rfl rfl).trans h.2⟩
theorem verd (n : Nat) : VerdOk (T (n + 4)) 8 := fun k E hf => (verd_ok (T := T (n + 3)) (sides n) (n := k) (E := E) hf).imp fun x h => ⟨h.1, (pt _ 8 _ (verdD 3) rfl rfl).trans h.2⟩
theorem goes (n : Nat) : ArnOk (T (n + 1)) 6 := fun E l hE hl => (pt _ 6 _ (goesD) rfl rfl).trans (goes_ok (T n) hE hl)
theorem odd (n : Nat) : OddOk (T (n + 2)) 7 := fun E l hE hl => (pt _ 7 _ (oddD 6) rfl rfl).trans (odd_ok (T := T (n + 1)) (goes n) hE hl)
theorem row1 (n : Nat) : RowOk (T (n + 1)) 1 := fun d hs hv => (pt _ 1 _ (isRowD) rfl rfl).trans (isRow_ok (T n) hs)
theorem row2 (n : Nat) : RowOk (T (n + 1)) 28 := fun d hs hv => (pt _ 28 _ (lawRowD) rfl rfl).trans (lawRow_ok (T n) hs hv)
theorem nam1 (n : Nat) : NamOk (T (n + 2)) 2 := fun ps x h => (pt _ 2 _ (namedD 1) rfl rfl).trans (named_ok (T := T (n + 1)) (row1 n) h)
theorem nam2 (n : Nat) : NamOk (T (n + 2)) 29 := fun ps x h => (pt _ 29 _ (namedD 28) rfl rfl).trans (named_ok (T := T (n + 1)) (row2 n) h)
theorem tie (n : Nat) : TieOk (T (n + 1)) 22 := fun E a b => (pt _ 22 _ (tiedD) rfl rfl).trans (tied_ok (T n))
theorem lawAr (n : Nat) : LawArOk (T (n + 2)) 26 := fun E l hl => (pt _ 26 _ (lawArD 22) rfl rfl).trans (lawAr_ok (T := T (n + 1)) (tie n) hl)
theorem lodd (n : Nat) : OddOk (T (n + 3)) 31 := fun E l hE hl => (pt _ 31 _ (lawOddD 26) rfl rfl).trans (lawOdd_ok (T := T (n + 2)) (lawAr n) hl)
theorem judge (n k : Nat) (E : Ties) (hf : Fit k E) : ReadOk (T (n + 3)) 9 k E fun v => readsP k E v.1 v.2 := fun v hv => (pt _ 9 _ (verD 1 2 7) rfl rfl).trans (ver_ok (T := T (n + 2)) (row1 (n + 1)) (nam1 n) (odd n) hf.n30 hf.rng (by have := hf.len; omega) hv)
theorem reads (n k : Nat) (E : Ties) (hf : Fit k E) : ReadOk (T (n + 4)) 33 k E fun v => readsP k E v.1 v.2 := fun v hv => (pt _ 33 _ (lrdD 28 29 31) rfl rfl).trans (lrd_ok (T := T (n + 3)) (row2 (n + 2)) (nam2 (n + 1)) (lodd n) hf.n30 hf.rng (by have := hf.len; omega) hv)
theorem eqb (n : Nat) : EqbOk (T (n + 1)) 13 := fun a b => (pt _ 13 _ (eqD 13) rfl rfl).trans (eqb_ok (T n) (j := 13))
theorem bends (n : Nat) : BendsOk (T (n + 1)) 27 := fun w ps h => (pt _ 27 _ (bendsD) rfl rfl).trans (bends_ok (T n) h)
theorem join (n : Nat) : ∀ k E, Fit k E → ∀ (w : Str) (ps : List Pap) (more : List Ver), SmallP ps → ps.length ≤ 400 → (∀ v ∈ more, SmallP v.2) → more.length ≤ 400 → readsP k E w ps = true → (T (n + 5)).pure 30 [.d (.int k), .d (tiesD E), .d (verV w ps), .f 33, .f 9, .d (.list (more.map verP))] = some (.bool true) := fun k E hf w ps more hs hl hm hml ht =>
  (pt _ 30 _ (joinD 13 27) rfl rfl).trans <| join_ok (T := T (n + 4)) (eqb (n + 3)) (bends (n + 3)) (reads n k E hf) (judge (n + 1) k E hf) rfl rfl hs hl hm hml ht
theorem state (n : Nat) : StateOk (T (n + 1)) 10 := stateOk_of (T0 := T n) fun _ => rfl
theorem H : Two (T 39) 23 11 34 32 8 14 30 33 9 13 7 31 := ⟨someW 36, draw 38, sid 35, two 37, verd 35, mixed 37, join 34, eqb 38, odd 37, lodd 36⟩
theorem plain (ns : List Int) (h : ns.length ≤ 63) : (tabA K36.ds 40).pure 35 [.scr ns] = some (.bool true) :=
  (pt _ 35 _ (law2D 10 23 11 34 32 8 14 30 33 9 13 7 31 16) rfl rfl).trans <| law2_ok (T := T 39) H (state 38) (ring 38) h
end K36P
set_option maxRecDepth 100000
set_option maxHeartbeats 0

namespace K36H
open PySem PySem.Spec PyProof.Rows L2 Wf K36
abbrev R : PySem.W.OpenRow := PySem.W.OpenLaw.row PySem.Challenge.rw_webfamilies_k36_whole_two_sided_webs
def fa : List He.Fa := faA ds blts
def fn : List He.FnD := ds.map fnD
def loose : List Str := (["beside", "is_row", "is_named", "sides_of", "way_up", "ring_by", "goes_around", "is_odd_ring", "verdict_two", "is_verdict_two", "_law_state", "_law_draw", "_law_pick", "_law_eq", "_law_mixed", "_law_path", "_law_ring", "_law_star", "_law_whole", "_law_web", "_law_near", "_law_lots", "_law_tied", "_law_some_web", "_law_mixed_web", "_law_renamed", "_law_around", "_law_bends_of", "_law_row", "_law_named"] : List PySem.Str) ++ (["_law_joined", "_law_odd_ring", "_law_two_sided", "_law_reads_two", "_law_sided"] : List PySem.Str)
abbrev hk : PySem.W.Hook := He.hookE 2 fa fn
def ob (s : PySem.W.SharedT) : He.Al := He.obsG 2 fa fn (HandSHeadRun.getT s)
theorem ob_eq (s : PySem.W.SharedT) : ob s = hk.obs s.abs := He.obsG_eq (HandSHeadRun.getT_eq s)
theorem run (w : World) : HandSHeadRun.RunEq R (PySem.W.view R.prog [39]) hk ob 2000 loose w := by
  intro os
  kernel_rfl
end K36H
open PySem PySem.W PySem.Calls PyProof.Rows
theorem K36H.holds_of (hlaw : ∀ ns : List Int, ns.length ≤ 63 → (Wf.tabA K36.ds 40).pure 35 [.scr ns] = some (.bool true)) : PySem.Challenge.rw_webfamilies_k36_whole_two_sided_webs.Holds := by
  w_on; o_law
  refine HandSHeadRun.head_any (r := OpenLaw.row PySem.Challenge.rw_webfamilies_k36_whole_two_sided_webs) (q := view (OpenLaw.row PySem.Challenge.rw_webfamilies_k36_whole_two_sided_webs).prog [39]) (H := K36H.hk) (ob := K36H.ob) (M := 2000) (loose := K36H.loose) (d := HandSHeadRun.topDef (OpenLaw.row PySem.Challenge.rw_webfamilies_k36_whole_two_sided_webs).prog 39) (kwd := []) K36H.ob_eq
    (by kernel_rfl) (fun s => by kernel_rfl) K36H.run (by kernel_rfl) (by kernel_rfl) (by kernel_rfl) (by rfl) (by first | assumption | decide +kernel) (by decide +kernel) ⟨rfl, rfl, rfl, rfl, rfl, by decide +kernel⟩ ?hw ?hc
  case hw => w_witness2
  case hc =>
    refine L2.walk_ofE (l := PySem.Challenge.rw_webfamilies_k36_whole_two_sided_webs) (n := 63) (k := 40) (x := "script") (CX := L2.CX0) rfl (by decide) (by kernel_rfl) ⟨rfl, by decide, by decide⟩ ?F (fun _ _ _ _ z => z)
    intro w mg fa h Y G hmg0
    obtain ⟨K, KX, c⟩ := Y
    have hmg : mg ("law" : PySem.Str) = some (.ref fa) := by
      have e : (HandSHeadRun.topDef (OpenLaw.row PySem.Challenge.rw_webfamilies_k36_whole_two_sided_webs).prog 39).name = ("law" : PySem.Str) := by kernel_rfl
      rw [← e]
      exact hmg0
    exact Wf.law_end (ds := K36.ds) (blts := K36.blts) (j := 35) (p := (K36.p35, K36.top 39)) (x := "script") K36.all rfl rfl rfl hlaw KX G hmg c
theorem PySem.Challenge.cw_webfamilies_k36_whole_two_sided_webs_holds : PySem.Challenge.rw_webfamilies_k36_whole_two_sided_webs.Holds :=
  K36H.holds_of K36P.plain
