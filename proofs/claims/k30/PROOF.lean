import PyProof.Rows.All
import Wide.All
import OpenK.AllK
import Wide.FinOn
import HandS.ForMost
import HandS.Wide
import HandS.WideBits
import HandS.TupAny
import HandS.TupMul
import HandS.TupLe
import HandS.Deep
import HandS.Dict
import KE.KEqDict
import KE.KEqNest
import HandS.Flow
import HandS.More
import HandS.SortInts
import HandS.DictComp
import HandS.Style
import HandS.IsInst
import HandS.Finally
import KE.KTupSum
import HandS.Small
import HandS.NoneIn
import HandS.Iter
import HandS.RevRange
import HandS.Rev
import HandS.Zip
import HandS.Conv
import HandS.Comp
import HandS.Words
import HandS.Defaults
import HandS.Ends
import HandS.EndBits
import HandS.HeadEnd
import HandS.HeadHook1
import HandS.HeadHook2
import KE.KRevIter
import PyProof.ZipIter
import HandS.ClsMeth
import KE.DataMinMax
import PyProof.DictItems
import PyProof.SumAny
import HandS.Sort
import HandS.OwnEq
import PyProof.P3Eq
import HandS.SortOrd
import KE.BitLaws
import KE.KStateDown
import HandS.WordsExc
import HandS.Head0
import HandS.Head1
import HandS.Head2
import PySem.Challenge.RW_offing_k30_validators
set_option Elab.async false
set_option linter.all false
set_option maxRecDepth 100000
set_option maxHeartbeats 0
/-! MC1: the small interpreter. -/
namespace M
/-! ### data -/
inductive Kd where
  | i (n : Int) | s (n : Nat)
  deriving DecidableEq
/-- a value that never changes -/
inductive B where
  | non | bl (b : Bool) | int (i : Int) | str (n : Nat)
  | tup (xs : List B) | lst (xs : List B) | scr (xs : List B)
  | dic (kvs : List (Kd × B)) | ins (c : Nat) (fs : List (Nat × B))
/-- a value: one that never changes, a reference to the store, a tuple with references -/
inductive D where
  | b (x : B) | ref (n : Nat) | mix (xs : List D)
/-- an object of the store -/
inductive O where
  | lst (xs : List B) | dic (kvs : List (Kd × B)) | ins (c : Nat) (fs : List (Nat × D))
  | lockl (xs : List B) | lockd (kvs : List (Kd × B))
abbrev Store := List O
abbrev Sl := List (Option D)
def SZ : Nat := 16777216
/-! ### syntax -/
inductive Op where
  | add | sub | mul | fdiv | mod | pow | shl | shr | band | bor | xor
  deriving DecidableEq
inductive Cm where
  | eq | ne | lt | le | gt | ge | is | isn | inn | nin
  deriving DecidableEq
inductive Ty where
  | int | bool | str | list | tuple | dict | cls (c : Nat)
  deriving DecidableEq
inductive Bi where
  | len | int | sum | sumv | min1 | max1 | min2 | max2 | sorted | tuple | list | dict | all | any | isin (t : Ty) | minit | sortp
  deriving DecidableEq
inductive Mt where
  | append | extend | pop | popi | popd | get1 | get2 | clear | update | index
  deriving DecidableEq
/-- what is walked -/
inductive Ik where
  | sq | dv | r1 | r2 | r3 | zip | zr | rr | rs
  deriving DecidableEq
/-- a target -/
inductive Pt where
  | n (i : Nat) | t (ts : List Pt)
inductive E where
  | v (i : Nat) | k (x : B) | nop | nev
  | bin (o : Op) (a b : E) | cat (a b : E) | neg (a : E) | inv (a : E) | not (a : E)
  | cmp (o : Cm) (a b : E) | chn (o p : Cm) (a b c : E)
  | and (a b : E) | or (a b : E) | ite (t a b : E)
  | tup (es : List E) | lst (m : Bool) (es : List E) | dnew (m : Bool) | dic (es : List E)
  | idx (a i : E) | slc (a lo hi : E) | rev (a : E)
  | att (a : E) (f : Nat)
  | call (f : Nat) (es : List E) | meth (o : E) (m : Nat) (es : List E) | make (c : Nat) (es : List E)
  | bi (b : Bi) (m : Bool) (es : List E) | mt (b : Mt) (o : E) (es : List E)
  | lc (m : Bool) (g : Pt) (k : Ik) (es : List E) (t e : E) (w : List Nat)
  | dc (m : Bool) (g : Pt) (k : Ik) (es : List E) (t ke e : E) (w : List Nat)
  | lkd (i : Nat) (e : E)
  | pick (es : List E) (i : E)
  | fz (e : E)
  | eqo (a b : E) | isc (c : Nat) (e : E) | revt (a : E)
inductive St where
  | set (i : Nat) (e : E) | unp (is : List Nat) (e : E) | aug (i : Nat) (o : Op) (e : E)
  | seti (o i e : E) | augi (o i : E) (p : Op) (e : E) | setf (o : E) (f : Nat) (e : E) | augf (o : E) (f : Nat) (p : Op) (e : E)
  | iff (t : E) (a b : List St) | whl (t : E) (b : List St) | for (g : Pt) (k : Ik) (es : List E) (b : List St)
  | ret (e : E) | retn | ex (e : E) | cont
  | blk (i : Nat) (b : List St)
/-! ### views -/
def seqB : B → Option (List B)
  | .tup xs => some xs
  | .lst xs => some xs
  | .scr xs => some xs
  | _ => none
def seqD (S : Store) : D → Option (List B)
  | .b x => seqB x
  | .ref n => match S[n]? with
    | some (.lst xs) => some xs
    | some (.lockl xs) => some xs
    | _ => none
  | .mix _ => none
/-- a list, no tuple -/
def lsqD (S : Store) : D → Option (List B)
  | .b (.tup _) => none
  | x => seqD S x
/-- 1: a list, 2: a dict -/
def kd (S : Store) : D → Nat
  | .b (.lst _) => 1
  | .b (.scr _) => 1
  | .b (.dic _) => 2
  | .ref n => match S[n]? with
    | some (.lst _) => 1
    | some (.lockl _) => 1
    | some (.dic _) => 2
    | some (.lockd _) => 2
    | _ => 0
  | _ => 0
/-- a list's items -/
def lstD (S : Store) : D → Option (List B)
  | .b (.lst xs) => some xs
  | .ref n => match S[n]? with
    | some (.lst xs) => some xs
    | _ => none
  | _ => none
def dicD (S : Store) : D → Option (List (Kd × B))
  | .b (.dic kvs) => some kvs
  | .ref n => match S[n]? with
    | some (.dic kvs) => some kvs
    | some (.lockd kvs) => some kvs
    | _ => none
  | _ => none
def viewD (S : Store) : D → Option B
  | .b x => some x
  | .ref n => match S[n]? with
    | some (.lst xs) => some (.lst xs)
    | some (.dic kvs) => some (.dic kvs)
    | _ => none
  | .mix _ => none
def allB : List D → Option (List B)
  | [] => some []
  | .b x :: r => (allB r).map (x :: ·)
  | _ :: _ => none
def mkTup (ds : List D) : D := match allB ds with
  | some xs => .b (.tup xs)
  | none => .mix ds
def keyB : B → Option Kd
  | .int i => some (.i i)
  | .str n => some (.s n)
  | _ => none
def keyD : D → Option Kd
  | .b x => keyB x
  | _ => none
def kB : Kd → B
  | .i n => .int n
  | .s n => .str n
def truth (S : Store) : D → Option Bool
  | .b .non => some false
  | .b (.bl x) => some x
  | .b (.int i) => some (i != 0)
  | .b (.tup xs) => some (!xs.isEmpty)
  | .b (.lst xs) => some (!xs.isEmpty)
  | .b (.scr xs) => some (!xs.isEmpty)
  | .b (.dic xs) => some (!xs.isEmpty)
  | .ref n => match S[n]? with
    | some (.lst xs) => some (!xs.isEmpty)
    | some (.dic xs) => some (!xs.isEmpty)
    | _ => none
  | .mix xs => some (!xs.isEmpty)
  | _ => none
/-! ### dicts -/
def dget (kvs : List (Kd × B)) (k : Kd) : Option B := (kvs.find? fun p => decide (p.1 = k)).map (·.2)
def dput (kvs : List (Kd × B)) (k : Kd) (v : B) : List (Kd × B) := if kvs.any fun p => decide (p.1 = k) then kvs.map fun p => if p.1 = k then (p.1, v) else p else kvs ++ [(k, v)]
def ddrop (kvs : List (Kd × B)) (k : Kd) : List (Kd × B) := kvs.filter fun p => decide (p.1 ≠ k)
def dmerge (kvs more : List (Kd × B)) : List (Kd × B) := more.foldl (fun a p => dput a p.1 p.2) kvs
/-! ### fields -/
def fget {α : Type} : List (Nat × α) → Nat → Option α
  | [], _ => none
  | (g, v) :: r, f => if f = g then some v else fget r f
def fput {α : Type} (f : Nat) (v : α) : List (Nat × α) → List (Nat × α)
  | [] => [(f, v)]
  | (g, w) :: r => if f = g then (f, v) :: r else (g, w) :: fput f v r
/-! ### numbers -/
def mulOk (i j : Int) : Bool := decide (-(2 ^ 64) < i ∧ i < 2 ^ 64) || decide (-(2 ^ 64) < j ∧ j < 2 ^ 64) || decide (PySem.Builtin.Int.intBits i + PySem.Builtin.Int.intBits j ≤ 134217728)
def divOk (j : Int) : Bool := decide (0 < j) && decide (j.natAbs.log2 < 9000)
def shlOk (i j : Int) : Bool := decide (0 ≤ j) && (decide (j ≤ 1000000 ∧ i.natAbs < 2 ^ 64) || decide ((PySem.Builtin.Int.intBits i : Int) + j ≤ 134217728))
def arith (o : Op) (i j : Int) : Option Int := match o with
  | .add => some (i + j)
  | .sub => some (i - j)
  | .mul => if mulOk i j then some (i * j) else none
  | .fdiv => if divOk j then some (i / j) else none
  | .mod => if 0 < j then some (i % j) else none
  | .pow => if 0 ≤ j ∧ j ≤ 1000000 ∧ i.natAbs < 2 ^ 64 then some (i ^ j.toNat) else none
  | .shl => if shlOk i j then some (i * 2 ^ j.toNat) else none
  | .shr => if 0 ≤ j then some (i / 2 ^ j.toNat) else none
  | .band => some (PySem.Builtin.bitAnd i j)
  | .bor => some (PySem.Builtin.bitOr i j)
  | .xor => some (PySem.Builtin.bitXor i j)
def szL (xs : List B) : Option D := if xs.length ≤ SZ then some (.b (.lst xs)) else none
def bin (S : Store) (o : Op) (x y : D) : Option D := match x, y with
  | .b (.int i), .b (.int j) => (arith o i j).map fun z => .b (.int z)
  | .b (.tup xs), .b (.tup ys) => (match o with
    | .add => if xs.length + ys.length ≤ SZ then some (.b (.tup (xs ++ ys))) else none
    | _ => none)
  | .b (.tup xs), .b (.int k) => (match o with
    | .mul => if 2 ≤ k ∧ k ≤ 1000 ∧ xs.length ≤ 1000 ∧ xs ≠ [] then some (.b (.tup (List.replicate k.toNat xs).flatten)) else none
    | _ => none)
  | x, y => (match o with
    | .add => (lstD S x).bind fun xs => (lstD S y).bind fun ys => szL (xs ++ ys)
    | .mul => (match y with
      | .b (.int k) => (lstD S x).bind fun xs => if -(2 ^ 63) ≤ k ∧ k < 2 ^ 63 ∧ xs.length * k.toNat ≤ SZ then some (.b (.lst (List.replicate k.toNat xs).flatten)) else none
      | _ => none)
    | _ => none)
/-! ### equality -/
mutual
def eqB : B → B → Bool
  | .non, .non => true
  | .bl a, .bl b => a == b
  | .bl a, .int j => (if a then 1 else 0) == j
  | .int i, .bl b => i == (if b then 1 else 0)
  | .int i, .int j => i == j
  | .str x, .str y => x == y
  | .tup xs, .tup ys => eqBs xs ys
  | .lst xs, .lst ys => eqBs xs ys
  | .scr xs, .lst ys => eqBs xs ys
  | .lst xs, .scr ys => eqBs xs ys
  | .scr xs, .scr ys => eqBs xs ys
  | .dic xs, .dic ys => xs.length == ys.length && eqKs xs ys
  | .ins _ fs, .ins _ gs => eqFs fs gs
  | _, _ => false
termination_by structural x => x
def eqFs : List (Nat × B) → List (Nat × B) → Bool
  | [], [] => true
  | p :: xs, q :: ys => eqFp p q.2 && eqFs xs ys
  | _, _ => false
termination_by structural x => x
def eqFp : Nat × B → B → Bool
  | (_, x), y => eqB x y
termination_by structural x => x
def eqBs : List B → List B → Bool
  | [], [] => true
  | x :: xs, y :: ys => eqB x y && eqBs xs ys
  | _, _ => false
termination_by structural x => x
def eqKs : List (Kd × B) → List (Kd × B) → Bool
  | [], _ => true
  | p :: xs, ys => eqKp p ys && eqKs xs ys
termination_by structural x => x
def eqKp : Kd × B → List (Kd × B) → Bool
  | (k, x), ys => (match dget ys k with
    | some y => eqB x y
    | none => false)
termination_by structural x => x
end
/-- data without dicts and instances, of small depth -/
def eqOk : Nat → B → Bool
  | _, .non => true
  | _, .bl _ => true
  | _, .int _ => true
  | _, .str _ => true
  | k + 1, .tup xs => xs.all (eqOk k)
  | k + 1, .lst xs => xs.all (eqOk k)
  | k + 1, .scr xs => xs.all (eqOk k)
  | _, _ => false
example : eqB (.dic [(.i 1, .int 2)]) (.dic [(.i 1, .int 2)]) = true := by rfl
/-- a dict without dicts -/
def dfree (kvs : List (Kd × B)) : Bool := kvs.all fun p => eqOk 12 p.2
def eqX : B → B → Option Bool
  | .dic xs, .dic ys => if dfree xs && dfree ys then some (xs.length == ys.length && eqKs xs ys) else none
  | _, _ => none
def eqD (S : Store) (x y : D) : Option Bool := (viewD S x).bind fun a => (viewD S y).bind fun b => if eqOk 12 a && eqOk 12 b then some (eqB a b) else eqX a b
/-- tuples that hold dicts -/
def eqTe (x y : B) : Option Bool := if eqOk 12 x && eqOk 12 y then some (eqB x y) else if eqX x y = some true then some true else none
def eqTs : List B → List B → Option (List Bool)
  | x :: xs, y :: ys => (eqTe x y).bind fun e => (eqTs xs ys).map (e :: ·)
  | _, _ => some []
def eqT : D → D → Option Bool
  | .b (.tup xs), .b (.tup ys) => (eqTs xs ys).map fun es => es.all id && xs.length == ys.length
  | _, _ => none
def isNon : D → Bool
  | .b .non => true
  | _ => false
def inD (S : Store) (x y : D) : Option Bool := match dicD S y with
  | some kvs => (keyD x).map fun k => (dget kvs k).isSome
  | none => (viewD S x).bind fun a => (seqD S y).bind fun ys => if eqOk 12 a && ys.all (eqOk 12) then some (ys.any fun z => eqB z a) else none
def int2 (f : Int → Int → Bool) : D → D → Option Bool
  | .b (.int i), .b (.int j) => some (f i j)
  | _, _ => none
def isD (x y : D) : Option Bool := match y with
  | .b .non => some (isNon x)
  | .b (.bl c) => (match x with
    | .b (.bl a) => some (a == c)
    | _ => none)
  | _ => none
def cmp (S : Store) (o : Cm) (x y : D) : Option Bool := match o with
  | .eq => (eqD S x y).or (eqT x y)
  | .ne => ((eqD S x y).or (eqT x y)).map (!·)
  | .lt => int2 (fun i j => decide (i < j)) x y
  | .le => int2 (fun i j => decide (i ≤ j)) x y
  | .gt => int2 (fun i j => decide (j < i)) x y
  | .ge => int2 (fun i j => decide (j ≤ i)) x y
  | .is => isD x y
  | .isn => (isD x y).map (!·)
  | .inn => inD S x y
  | .nin => (inD S x y).map (!·)
/-! ### items -/
def idx (S : Store) (x y : D) : Option D := match x with
  | .mix xs => (match y with
    | .b (.int i) => L2.atI xs i
    | _ => none)
  | x => (match dicD S x with
    | some kvs => (keyD y).bind fun k => (dget kvs k).map .b
    | none => (match y with
      | .b (.int i) => (seqD S x).bind fun xs => (L2.atI xs i).map .b
      | _ => none))
def cut {α : Type} (xs : List α) (lo hi : Option Int) : List α := (xs.drop (HT.sIx xs.length 0 lo)).take (HT.sIx xs.length xs.length hi - HT.sIx xs.length 0 lo)
def part : D → Option (Option Int)
  | .b .non => some none
  | .b (.int i) => some (some i)
  | _ => none
def slc (S : Store) (x l h : D) : Option D := (part l).bind fun lo => (part h).bind fun hi => match x with
  | .b (.tup xs) => some (.b (.tup (cut xs lo hi)))
  | x => (seqD S x).map fun xs => .b (.lst (cut xs lo hi))
/-! ### built-ins -/
def intsB : List B → Option (List Int)
  | [] => some []
  | .int i :: r => (intsB r).map (i :: ·)
  | _ :: _ => none
def boolsB : List B → Option (List Bool)
  | [] => some []
  | .bl i :: r => (boolsB r).map (i :: ·)
  | _ :: _ => none
def insI (x : Int) : List Int → List Int
  | [] => [x]
  | y :: r => if x ≤ y then x :: y :: r else y :: insI x r
def sortI : List Int → List Int
  | [] => []
  | x :: r => insI x (sortI r)
/-- by the first part -/
def insF {α : Type} (p : Int × α) : List (Int × α) → List (Int × α)
  | [] => [p]
  | q :: r => if p.1 ≤ q.1 then p :: q :: r else q :: insF p r
def sortF {α : Type} : List (Int × α) → List (Int × α)
  | [] => []
  | p :: r => insF p (sortF r)
/-- tuples that begin with a number -/
def hdB : B → Option Int
  | .tup (.int i :: _) => some i
  | _ => none
def hdsB : List B → Option (List (Int × B))
  | [] => some []
  | x :: r => (hdB x).bind fun i => (hdsB r).map ((i, x) :: ·)
def minI : Int → List Int → Int
  | x, [] => x
  | x, y :: r => minI (if y < x then y else x) r
def maxI : Int → List Int → Int
  | x, [] => x
  | x, y :: r => maxI (if x < y then y else x) r
def keysOf (kvs : List (Kd × B)) : List B := kvs.map fun p => kB p.1
/-- what iter(x) gives: a sequence's items, a dict's keys -/
def itD (S : Store) (x : D) : Option (List B) := match dicD S x with
  | some kvs => some (keysOf kvs)
  | none => seqD S x
def newL (S : Store) (m : Bool) (xs : List B) : Option (D × Store) := if xs.length ≤ SZ then (if m then some (.ref S.length, S ++ [.lst xs]) else some (.b (.lst xs), S)) else none
def newD (S : Store) (m : Bool) (kvs : List (Kd × B)) : Option (D × Store) := if kvs.length ≤ SZ then (if m then some (.ref S.length, S ++ [.dic kvs]) else some (.b (.dic kvs), S)) else none
def pairsB : List B → Option (List (Kd × B))
  | [] => some []
  | .tup [k, v] :: r => (keyB k).bind fun k => (pairsB r).map ((k, v) :: ·)
  | _ :: _ => none
/-- the class of an instance that has no attribute m of its own -/
def clsOf (S : Store) (m : Nat) : D → Option Nat
  | .b (.ins c fs) => if (fget fs m).isNone then some c else none
  | .ref n => match S[n]? with
    | some (.ins c fs) => if (fget fs m).isNone then some c else none
    | _ => none
  | _ => none
inductive Kn where
  | non | bl | int | str | tup | lst | dic
def kn (S : Store) : D → Option Kn
  | .mix _ => some .tup
  | .ref n => (match S[n]? with
    | some (.lst _) => some .lst
    | some (.dic _) => some .dic
    | some (.lockl _) => some .lst
    | some (.lockd _) => some .dic
    | _ => none)
  | .b .non => some .non
  | .b (.bl _) => some .bl
  | .b (.int _) => some .int
  | .b (.str _) => some .str
  | .b (.tup _) => some .tup
  | .b (.lst _) => some .lst
  | .b (.dic _) => some .dic
  | _ => none
def knTy : Kn → Ty → Option Bool
  | _, .cls _ => none
  | .bl, .int => some true
  | .bl, .bool => some true
  | .int, .int => some true
  | .str, .str => some true
  | .tup, .tuple => some true
  | .lst, .list => some true
  | .dic, .dict => some true
  | _, _ => some false
def isin (S : Store) (t : Ty) (x : D) : Option Bool := (kn S x).bind fun k => knTy k t
def pure' (S : Store) (x : Option D) : Option (D × Store) := x.map fun d => (d, S)
def bi (S : Store) (b : Bi) (m : Bool) (vs : List D) : Option (D × Store) := match b, vs with
  | .len, [x] => pure' S (match x with
    | .mix xs => some (.b (.int xs.length))
    | x => (match dicD S x with
      | some kvs => some (.b (.int kvs.length))
      | none => (seqD S x).map fun xs => .b (.int xs.length)))
  | .int, [.b (.int i)] => some (.b (.int i), S)
  | .int, [.b (.bl k)] => some (.b (.int (if k then 1 else 0)), S)
  | .sum, [x] => pure' S ((seqD S x).bind fun xs => (intsB xs).map fun ns => .b (.int ns.sum))
  | .sumv, [x] => pure' S ((dicD S x).bind fun kvs => (intsB (kvs.map (·.2))).map fun ns => .b (.int ns.sum))
  | .min1, [x] => pure' S (match dicD S x with
    | some kvs => (intsB (keysOf kvs)).bind fun ns => (match ns with
      | [] => none
      | n :: r => some (.b (.int (minI n r))))
    | none => (seqD S x).bind fun xs => (intsB xs).bind fun ns => (match ns with
      | [] => none
      | n :: r => some (.b (.int (minI n r)))))
  | .max1, [x] => pure' S ((lsqD S x).bind fun xs => (intsB xs).bind fun ns => match ns with
    | [] => none
    | n :: r => some (.b (.int (maxI n r))))
  | .min2, [.b (.int i), .b (.int j)] => some (.b (.int (if j < i then j else i)), S)
  | .max2, [.b (.int i), .b (.int j)] => some (.b (.int (if j > i then j else i)), S)
  | .sorted, [x] => (match dicD S x with
    | some kvs => if kvs.length < 64 then (intsB (keysOf kvs)).bind fun ns => newL S m ((sortI ns).map .int) else none
    | none => (lsqD S x).bind fun xs => (intsB xs).bind fun ns => newL S m ((sortI ns).map .int))
  | .sortp, [x] => (lsqD S x).bind fun xs => (hdsB xs).bind fun ps => if (ps.map (·.1)).Nodup then newL S m ((sortF ps).map (·.2)) else none
  | .tuple, [.b (.tup xs)] => some (.b (.tup xs), S)
  | .tuple, [x] => pure' S ((seqD S x).map fun xs => .b (.tup xs))
  | .list, [x] => (itD S x).bind fun xs => newL S m xs
  | .dict, [x] => (match dicD S x with
    | some kvs => newD S m kvs
    | none => (lstD S x).bind fun xs => (pairsB xs).bind fun kvs => newD S m (dmerge [] kvs))
  | .all, [x] => pure' S ((lstD S x).bind fun xs => (boolsB xs).map fun bs => .b (.bl (bs.all id)))
  | .any, [x] => pure' S ((lstD S x).bind fun xs => (boolsB xs).map fun bs => .b (.bl (bs.any id)))
  | .isin t, [x] => pure' S ((isin S t x).map fun b => .b (.bl b))
  | .minit, [x] => pure' S ((dicD S x).bind fun kvs => match kvs with
    | [(k, v)] => some (.b (.tup [kB k, v]))
    | _ => none)
  | _, _ => none
def mt (S : Store) (b : Mt) (o : D) (vs : List D) : Option (D × Store) := match b, o, vs with
  | .append, .ref n, [.b y] => (match S[n]? with
    | some (.lst xs) => if xs.length < SZ then some (.b .non, S.set n (.lst (xs ++ [y]))) else none
    | _ => none)
  | .extend, .ref n, [y] => (match S[n]? with
    | some (.lst xs) => (lstD S y).bind fun ys => if xs.length + ys.length ≤ SZ then some (.b .non, S.set n (.lst (xs ++ ys))) else none
    | _ => none)
  | .pop, .ref n, [] => (match S[n]? with
    | some (.lst xs) => (xs[xs.length - 1]?).map fun y => (.b y, S.set n (.lst xs.dropLast))
    | _ => none)
  | .popi, .ref n, [.b y] => (match S[n]? with
    | some (.lst xs) => (match y with
      | .int i => if xs.length ≤ SZ then (L2.ixN xs.length i).bind fun j => (xs[j]?).map fun y => (.b y, S.set n (.lst (xs.eraseIdx j))) else none
      | _ => none)
    | some (.dic kvs) => (keyB y).bind fun k => (dget kvs k).map fun v => (.b v, S.set n (.dic (ddrop kvs k)))
    | _ => none)
  | .popd, .ref n, [.b y, z] => (match S[n]? with
    | some (.dic kvs) => (keyB y).map fun k => (match dget kvs k with
      | some v => (.b v, S.set n (.dic (ddrop kvs k)))
      | none => (z, S))
    | _ => none)
  | .get1, x, [y] => (dicD S x).bind fun kvs => (keyD y).map fun k => (match dget kvs k with
      | some v => (.b v, S)
      | none => (.b .non, S))
  | .get2, x, [y, z] => (dicD S x).bind fun kvs => (keyD y).map fun k => (match dget kvs k with
      | some v => (.b v, S)
      | none => (z, S))
  | .clear, .ref n, [] => (match S[n]? with
    | some (.lst _) => some (.b .non, S.set n (.lst []))
    | some (.dic _) => some (.b .non, S.set n (.dic []))
    | _ => none)
  | .update, .ref n, [y] => (match S[n]? with
    | some (.dic kvs) => (dicD S y).bind fun ks => if kvs.length + ks.length ≤ SZ then some (.b .non, S.set n (.dic (dmerge kvs ks))) else none
    | _ => none)
  | _, _, _ => none
/-! ### stores -/
def isB : D → Bool
  | .b _ => true
  | _ => false
def getf (fo : Nat → Nat → Bool) (S : Store) (x : D) (f : Nat) : Option D := match x with
  | .b (.ins c fs) => if fo c f then (fget fs f).map .b else none
  | .ref n => (match S[n]? with
    | some (.ins c fs) => if fo c f then fget fs f else none
    | _ => none)
  | _ => none
def setf (fo : Nat → Nat → Bool) (base : Nat) (S : Store) (x : D) (f : Nat) (v : D) : Option Store := match x with
  | .ref n => (match S[n]? with
    | some (.ins c fs) => if fo c f && ((isB v || decide (base ≤ n)) && decide (fs.length < 1000)) then some (S.set n (.ins c (fput f v fs))) else none
    | _ => none)
  | _ => none
def insC (S : Store) : D → Option Nat
  | .ref n => (match S[n]? with
    | some (.ins c _) => some c
    | _ => none)
  | _ => none
def seti (S : Store) (x i : D) (v : D) : Option Store := match x, v with
  | .ref n, .b y => (match S[n]? with
    | some (.lst xs) => (match i with
      | .b (.int k) => (L2.ixN xs.length k).map fun j => S.set n (.lst (xs.set j y))
      | _ => none)
    | some (.dic kvs) => (keyD i).bind fun k => if kvs.length < SZ then some (S.set n (.dic (dput kvs k y))) else none
    | _ => none)
  | _, _ => none
/-- a value as one that never changes -/
def mapO {α β : Type} (f : α → Option β) : List α → Option (List β)
  | [] => some []
  | x :: r => (f x).bind fun y => (mapO f r).map (y :: ·)
def frz (S : Store) (base : Nat) : Nat → D → Option B
  | _, .b x => some x
  | 0, _ => none
  | k + 1, .ref n => if n < base then none else (match S[n]? with
    | some (.lst xs) => some (.lst xs)
    | some (.dic kvs) => some (.dic kvs)
    | some (.ins c fs) => (mapO (fun p => (frz S base k p.2).map fun x => (p.1, x)) fs).map (.ins c)
    | _ => none)
  | k + 1, .mix xs => (mapO (frz S base k) xs).map .tup
/-! ### targets -/
def putAll : List Nat → List D → Sl → Option Sl
  | [], [], σ => some σ
  | i :: is, x :: xs, σ => putAll is xs (σ.set i (some x))
  | _, _, _ => none
mutual
def asg : Pt → B → Sl → Option Sl
  | .n i, x, σ => some (σ.set i (some (.b x)))
  | .t ts, x, σ => (match x with
    | .tup xs => asgs ts xs σ
    | _ => none)
termination_by structural x => x
def asgs : List Pt → List B → Sl → Option Sl
  | [], [], σ => some σ
  | p :: ps, x :: xs, σ => (asg p x σ).bind fun σ2 => asgs ps xs σ2
  | _, _, _ => none
termination_by structural x => x
end
def asgD (is : List Nat) (x : D) (σ : Sl) : Option Sl := match x with
  | .b (.tup xs) => putAll is (xs.map .b) σ
  | .b (.lst xs) => putAll is (xs.map .b) σ
  | .mix xs => putAll is xs σ
  | _ => none
def zipB : List B → List B → List B
  | x :: xs, y :: ys => .tup [x, y] :: zipB xs ys
  | _, _ => []
def rngB (lo : Int) (n : Nat) : List B := (List.range n).map fun i => .int (lo + (i : Nat))
def rngC (lo c : Int) (n : Nat) : List B := (List.range n).map fun i => .int (lo + (i : Nat) * c)
def rOk (i : Int) : Bool := decide (-(2 ^ 62) ≤ i ∧ i < 2 ^ 62)
def tupD : D → Option (List B)
  | .b (.tup xs) => some xs
  | _ => none
/-- the items that are walked -/
def items (S : Store) (k : Ik) (vs : List D) : Option (List B) := match k, vs with
  | .sq, [.b (.dic kvs)] => some (keysOf kvs)
  | .sq, [x] => seqD S x
  | .dv, [.ref n] => (match S[n]? with
    | some (.lockd kvs) => some (keysOf kvs)
    | _ => none)
  | .r1, [.b (.int j)] => if rOk j then some (rngB 0 j.toNat) else none
  | .r2, [.b (.int i), .b (.int j)] => if rOk i && rOk j then some (rngB i (j - i).toNat) else none
  | .r3, [.b (.int i), .b (.int j), .b (.int c)] => if c ≠ 0 ∧ c.natAbs < 1073741824 ∧ PySem.Builtin.Range.small i j c = true ∧ 0 ≤ PySem.Builtin.Range.rangeSize i j c then some (rngC i c (PySem.Builtin.Range.rangeSize i j c).toNat) else none
  | .zip, [x, y] => (match tupD x, tupD y with
    | some xs, some ys => some (zipB xs ys)
    | _, _ => (lsqD S x).bind fun xs => (lsqD S y).map fun ys => zipB xs ys)
  | .zr, [x, y] => (lsqD S x).bind fun xs => (seqD S y).map fun ys => zipB xs.reverse ys
  | .rr, [.b (.int j)] => if rOk j then some (rngB 0 j.toNat).reverse else none
  | .rs, [x] => (seqD S x).map List.reverse
  | _, _ => none
def lock (S : Store) : D → Store
  | .ref n => (match S[n]? with
    | some (.lst xs) => S.set n (.lockl xs)
    | some (.dic kvs) => S.set n (.lockd kvs)
    | _ => S)
  | _ => S
/-- behind a walk: the locked object is as it was (S ahead, S' behind) -/
def unlock (S S' : Store) : D → Option Store
  | .ref n => (match S[n]? with
    | some (.lst xs) => (match S'[n]? with
      | some (.lockl ys) => some (S'.set n (.lst ys))
      | _ => none)
    | some (.dic kvs) => (match S'[n]? with
      | some (.lockd ys) => some (S'.set n (.dic ys))
      | _ => none)
    | _ => some S')
  | _ => some S'
def lockAll (S : Store) : List D → Store
  | [] => S
  | x :: r => lockAll (lock S x) r
def unlockAll (S S' : Store) : List D → Option Store
  | [] => some S'
  | x :: r => (unlock S S' x).bind fun S2 => unlockAll S S2 r
def wipe (σ : Sl) : List Nat → Sl
  | [] => σ
  | v :: vs => (wipe σ vs).set v none
/-! ### the machine -/
/-- the parts of the machine: what a call gives (one level lower; two levels lower), tables, where the function's own objects begin -/
structure Par where
  C : Nat → Nat → List D → Store → Option (D × Store)
  C2 : Nat → Nat → List D → Store → Option (D × Store)
  init : Nat → Option (Nat × Bool)
  meth : Nat → Nat → Option Nat
  fo : Nat → Nat → Bool
  base : Nat
  eqm : Nat → Option Nat
/-- fields that can be compared -/
def okF1 : B → Bool
  | .ins _ fs => fs.all fun p => eqOk 12 p.2
  | x => eqOk 12 x
def okF (fs : List (Nat × B)) : Bool := fs.all fun p => okF1 p.2
open Classical in
/-- == of two items inside a tuple: an own == is called -/
noncomputable def eqE (P : Par) (x y : B) (S : Store) : Option (Bool × Store) := if eqOk 12 x && eqOk 12 y then some (eqB x y, S) else match x, y with
  | .ins c fs, .ins d gs => if c = d ∧ okF fs = true ∧ okF gs = true then (P.eqm c).bind fun f => (P.C2 P.base f [.b x, .b y] S).bind fun r => (match r.1 with
      | .b (.bl z) => if z = eqFs fs gs ∧ r.2 = S then some (z, S) else none
      | _ => none) else none
  | _, _ => none
noncomputable def eqL (P : Par) : List B → List B → Store → Option (Bool × Store)
  | x :: xs, y :: ys, S => (eqE P x y S).bind fun r => if r.1 then eqL P xs ys r.2 else some (false, r.2)
  | [], [], S => some (true, S)
  | _, _, S => some (false, S)
/-- what an instance of class c may be compared with -/
def okY (S : Store) (c : Nat) : D → Bool
  | .b (.ins d _) => decide (d = c)
  | y => (kn S y).isSome
/-- == where an own == may be called -/
noncomputable def eqo (P : Par) (S : Store) (x y : D) : Option (Bool × Store) := match x with
  | .b (.ins c fs) => if okY S c y then (P.eqm c).bind fun f => (P.C P.base f [.b (.ins c fs), y] S).bind fun r => (match r.1 with
      | .b (.bl z) => some (z, r.2)
      | _ => none) else none
  | .b (.tup xs) => (match cmp S .eq (.b (.tup xs)) y with
    | some r => some (r, S)
    | none => (match y with
      | .b (.tup ys) => eqL P xs ys S
      | _ => none))
  | x => (cmp S .eq x y).map fun r => (r, S)
/-- isinstance of an own class -/
def isc (S : Store) (c : Nat) : D → Option Bool
  | .b (.ins d _) => if d = c then some true else none
  | x => (kn S x).map fun _ => false
def lcL (f : Sl → Store → Option (Option B × Store)) (g : Pt) : List B → Sl → Store → Option (List B × Store)
  | [], _, S => some ([], S)
  | x :: r, σ, S => (asg g x σ).bind fun σ2 => (f σ2 S).bind fun p => (lcL f g r σ p.2).map fun q => match p.1 with
    | some y => (y :: q.1, q.2)
    | none => q
def dcL (f : Sl → Store → Option (Option (Kd × B) × Store)) (g : Pt) : List B → Sl → Store → List (Kd × B) → Option (List (Kd × B) × Store)
  | [], _, S, a => some (a, S)
  | x :: r, σ, S, a => (asg g x σ).bind fun σ2 => (f σ2 S).bind fun p => dcL f g r σ p.2 (match p.1 with
    | some y => dput a y.1 y.2
    | none => a)
def asB : D × Store → Option (B × Store)
  | (.b x, S) => some (x, S)
  | _ => none
def flat2 : List D → Option (List (Kd × B))
  | [] => some []
  | .b k :: .b v :: r => (keyB k).bind fun k => (flat2 r).map ((k, v) :: ·)
  | _ => none
/-- a slot without anything at n or above -/
def low (n : Nat) : Option D → Bool
  | none => true
  | some (.b _) => true
  | some (.ref m) => decide (m < n)
  | some (.mix _) => false
def noIns : O → Bool
  | .ins _ _ => false
  | _ => true
noncomputable section
mutual
def ev (P : Par) : E → Sl → Store → Option (D × Store)
  | .v i, σ, S => (match σ[i]? with
    | some (some d) => some (d, S)
    | _ => none)
  | .k x, _, S => some (.b x, S)
  | .nop, _, S => some (.b .non, S)
  | .nev, _, _ => none
  | .bin o a b, σ, S => (ev P a σ S).bind fun x => (ev P b σ x.2).bind fun y => (bin y.2 o x.1 y.1).map fun z => (z, y.2)
  | .neg a, σ, S => (ev P a σ S).bind fun x => match x.1 with
    | .b (.int i) => some (.b (.int (-i)), x.2)
    | _ => none
  | .inv a, σ, S => (ev P a σ S).bind fun x => match x.1 with
    | .b (.int i) => some (.b (.int (PySem.Builtin.bitNot i)), x.2)
    | _ => none
  | .not a, σ, S => (ev P a σ S).bind fun x => (truth x.2 x.1).map fun c => (.b (.bl !c), x.2)
  | .cmp o a b, σ, S => (ev P a σ S).bind fun x => (ev P b σ x.2).bind fun y => (cmp y.2 o x.1 y.1).map fun z => (.b (.bl z), y.2)
  | .chn o p a b c, σ, S => (ev P a σ S).bind fun x => (ev P b σ x.2).bind fun y => (cmp y.2 o x.1 y.1).bind fun r =>
    if r then (ev P c σ y.2).bind fun z => (cmp z.2 p y.1 z.1).map fun q => (.b (.bl q), z.2) else some (.b (.bl false), y.2)
  | .and a b, σ, S => (ev P a σ S).bind fun x => (truth x.2 x.1).bind fun c => if c then ev P b σ x.2 else some x
  | .or a b, σ, S => (ev P a σ S).bind fun x => (truth x.2 x.1).bind fun c => if c then some x else ev P b σ x.2
  | .ite t a b, σ, S => (ev P t σ S).bind fun x => (truth x.2 x.1).bind fun c => if c then ev P a σ x.2 else ev P b σ x.2
  | .tup es, σ, S => (evs P es σ S).bind fun p => if p.1.length ≤ SZ then some (mkTup p.1, p.2) else none
  | .lst m es, σ, S => (evs P es σ S).bind fun p => (allB p.1).bind fun xs => newL p.2 m xs
  | .dnew m, _, S => newD S m []
  | .dic es, σ, S => (evs P es σ (S ++ [.dic []])).bind fun p => match p.2[S.length]? with
    | some (.dic []) => (flat2 p.1).bind fun kvs => if kvs.length ≤ 15 then some (.ref S.length, p.2.set S.length (.dic (dmerge [] kvs))) else none
    | _ => none
  | .idx a i, σ, S => (ev P a σ S).bind fun x => (ev P i σ x.2).bind fun y => (idx y.2 x.1 y.1).map fun z => (z, y.2)
  | .slc a l h, σ, S => (ev P a σ S).bind fun x => (ev P l σ x.2).bind fun y => (ev P h σ y.2).bind fun z => (slc z.2 x.1 y.1 z.1).map fun r => (r, z.2)
  | .rev a, σ, S => (ev P a σ S).bind fun x => (lstD x.2 x.1).map fun xs => (.b (.lst xs.reverse), x.2)
  | .att a f, σ, S => (ev P a σ S).bind fun x => (getf P.fo x.2 x.1 f).map fun z => (z, x.2)
  | .call f es, σ, S => (evs P es σ S).bind fun p => P.C P.base f p.1 p.2
  | .meth o m es, σ, S => (ev P o σ S).bind fun x => (clsOf x.2 m x.1).bind fun c => (P.meth c m).bind fun f => (evs P es σ x.2).bind fun p => P.C P.base f (x.1 :: p.1) p.2
  | .make c es, σ, S => (evs P es σ S).bind fun p => (P.init c).bind fun q =>
    if q.2 then (P.C2 p.2.length q.1 (.ref p.2.length :: p.1) (p.2 ++ [.ins c []])).bind fun r => if isNon r.1 then (frz r.2 p.2.length 8 (.ref p.2.length)).map fun x => (.b x, r.2.take p.2.length) else none
    else (P.C2 P.base q.1 (.ref p.2.length :: p.1) (p.2 ++ [.ins c []])).bind fun r => if isNon r.1 then some (.ref p.2.length, r.2) else none
  | .bi b m es, σ, S => (evs P es σ S).bind fun p => bi p.2 b m p.1
  | .mt b o es, σ, S => (ev P o σ S).bind fun x => (evs P es σ x.2).bind fun p => if kd p.2 x.1 = kd x.2 x.1 then mt p.2 b x.1 p.1 else none
  | .cat a b, σ, S => (ev P a σ S).bind fun x => (ev P b σ x.2).bind fun y => (lstD y.2 x.1).bind fun xs => (lstD y.2 y.1).bind fun ys => newL y.2 true (xs ++ ys)
  | .lc m g k es t e w, σ, S => (evs P es σ S).bind fun p => (items p.2 k p.1).bind fun xs => if xs.length ≤ SZ then
      (lcL (fun σ2 S2 => (ev P t σ2 S2).bind fun c => (truth c.2 c.1).bind fun c1 => if c1 then (ev P e σ2 c.2).bind fun y => (asB y).map fun z => (some z.1, z.2) else some (none, c.2)) g xs (wipe σ w) (lockAll p.2 p.1)).bind fun q =>
        (unlockAll p.2 q.2 p.1).bind fun S3 => newL S3 m q.1 else none
  | .dc m g k es t ke e w, σ, S => (evs P es σ S).bind fun p => (items p.2 k p.1).bind fun xs => if xs.length ≤ SZ then
      (dcL (fun σ2 S2 => (ev P t σ2 S2).bind fun c => (truth c.2 c.1).bind fun c1 => if c1 then (ev P ke σ2 c.2).bind fun x => (keyD x.1).bind fun k => (ev P e σ2 x.2).bind fun y => (asB y).map fun z => (some (k, z.1), z.2) else some (none, c.2)) g xs (wipe σ w) (lockAll p.2 p.1) []).bind fun q =>
        (unlockAll p.2 q.2 p.1).bind fun S3 => newD S3 m q.1 else none
  | .pick es i, σ, S => (evs P es σ S).bind fun p => (ev P i σ p.2).bind fun y => match y.1 with
    | .b (.int k) => if p.1.length ≤ SZ then (L2.atI p.1 k).map fun z => (z, y.2) else none
    | _ => none
  | .lkd i e, σ, S => (match σ[i]? with
    | some (some (.ref n)) => (match S[n]? with
      | some (.dic _) => (ev P e σ (lockAll S [.ref n])).bind fun r => (unlockAll S r.2 [.ref n]).map fun S3 => (r.1, S3)
      | _ => none)
    | _ => none)
  | .fz e, σ, S => (ev P e σ S).bind fun r => if (r.2.take S.length).all noIns then (frz r.2 S.length 8 r.1).map fun x => (.b x, r.2.take S.length) else none
  | .eqo a b, σ, S => (ev P a σ S).bind fun x => (ev P b σ x.2).bind fun y => (eqo P y.2 x.1 y.1).map fun r => (.b (.bl r.1), r.2)
  | .isc c a, σ, S => (ev P a σ S).bind fun x => (isc x.2 c x.1).map fun r => (.b (.bl r), x.2)
  | .revt a, σ, S => (ev P a σ S).bind fun x => match x.1 with
    | .b (.tup xs) => some (.b (.tup xs.reverse), x.2)
    | _ => none
def evs (P : Par) : List E → Sl → Store → Option (List D × Store)
  | [], _, S => some ([], S)
  | e :: r, σ, S => (ev P e σ S).bind fun x => (evs P r σ x.2).map fun y => (x.1 :: y.1, y.2)
end
inductive Fl where
  | nx | rt (d : D) | ct
abbrev Rs := Option (Fl × Sl × Store)
def whileL (t : Sl → Store → Option (Bool × Store)) (f : Sl → Store → Rs) : Nat → Sl → Store → Rs
  | 0, _, _ => none
  | n + 1, σ, S => (t σ S).bind fun c => if c.1 then (f σ c.2).bind fun r => match r with
      | (.rt d, σ2, S2) => some (.rt d, σ2, S2)
      | (_, σ2, S2) => whileL t f n σ2 S2
    else some (.nx, σ, c.2)
def forL (f : Sl → Store → Rs) (g : Pt) : List B → Sl → Store → Rs
  | [], σ, S => some (.nx, σ, S)
  | x :: r, σ, S => (asg g x σ).bind fun σ2 => (f σ2 S).bind fun q => match q with
      | (.rt d, σ3, S3) => some (.rt d, σ3, S3)
      | (_, σ3, S3) => forL f g r σ3 S3
def WF : Nat := 1000000000000
/-- the end of a def: val: the answer never changes, the def's own objects are forgotten -/
def fin (val : Bool) (base : Nat) (d : D) (S : Store) : Option (D × Store) := if val then (frz S base 8 d).map fun y => (.b y, S.take base) else some (d, S)
mutual
def exec (P : Par) : St → Sl → Store → Rs
  | .set i e, σ, S => (ev P e σ S).map fun x => (.nx, σ.set i (some x.1), x.2)
  | .unp is e, σ, S => (ev P e σ S).bind fun x => (asgD is x.1 σ).map fun σ2 => (.nx, σ2, x.2)
  | .aug i o e, σ, S => (match σ[i]? with
    | some (some (.b (.int a))) => (ev P e σ S).bind fun y => (match y.1 with
      | .b (.int c) => (arith o a c).map fun z => (.nx, σ.set i (some (.b (.int z))), y.2)
      | _ => none)
    | _ => none)
  | .seti o i e, σ, S => (ev P e σ S).bind fun v => (ev P o σ v.2).bind fun x => (ev P i σ x.2).bind fun y => (seti y.2 x.1 y.1 v.1).map fun S2 => (.nx, σ, S2)
  | .augi o i p e, σ, S => (ev P o σ S).bind fun x => (ev P i σ x.2).bind fun y => (idx y.2 x.1 y.1).bind fun old => (ev P e σ y.2).bind fun z => (match old, z.1 with
    | .b (.int a), .b (.int c) => (arith p a c).bind fun w => (seti z.2 x.1 y.1 (.b (.int w))).map fun S2 => (.nx, σ, S2)
    | _, _ => none)
  | .setf o f e, σ, S => (ev P e σ S).bind fun v => (ev P o σ v.2).bind fun x => (setf P.fo P.base x.2 x.1 f v.1).map fun S2 => (.nx, σ, S2)
  | .augf o f p e, σ, S => (ev P o σ S).bind fun x => (getf P.fo x.2 x.1 f).bind fun old => (ev P e σ x.2).bind fun z => (match old, z.1 with
    | .b (.int a), .b (.int c) => if insC z.2 x.1 = insC x.2 x.1 then (arith p a c).bind fun w => (setf P.fo P.base z.2 x.1 f (.b (.int w))).map fun S2 => (.nx, σ, S2) else none
    | _, _ => none)
  | .iff t a b, σ, S => (ev P t σ S).bind fun x => (truth x.2 x.1).bind fun c => if c then execs P a σ x.2 else execs P b σ x.2
  | .whl t b, σ, S => whileL (fun σ2 S2 => (ev P t σ2 S2).bind fun x => (truth x.2 x.1).map fun c => (c, x.2)) (fun σ2 S2 => execs P b σ2 S2) WF σ S
  | .for g k es b, σ, S => (evs P es σ S).bind fun p => (items p.2 k p.1).bind fun xs =>
      (forL (fun σ2 S2 => execs P b σ2 S2) g xs σ (lockAll p.2 p.1)).bind fun r => (unlockAll p.2 r.2.2 p.1).map fun S3 => (r.1, r.2.1, S3)
  | .ret e, σ, S => (ev P e σ S).map fun x => (.rt x.1, σ, x.2)
  | .retn, σ, S => some (.rt (.b .non), σ, S)
  | .ex e, σ, S => (ev P e σ S).map fun x => (.nx, σ, x.2)
  | .cont, σ, S => some (.ct, σ, S)
  | .blk i b, σ, S => (execs P b σ S).bind fun q => match q with
    | (.nx, σ2, S2) => if (S2.take S.length).all noIns && (σ2.set i none).all (low S.length) then (match σ2[i]? with
        | some (some d) => (frz S2 S.length 8 d).map fun y => (.nx, σ2.set i (some (.b y)), S2.take S.length)
        | _ => none) else none
    | _ => none
def execs (P : Par) : List St → Sl → Store → Rs
  | [], σ, S => some (.nx, σ, S)
  | s :: r, σ, S => (exec P s σ S).bind fun q => match q with
    | (.nx, σ2, S2) => execs P r σ2 S2
    | q => some q
end
/-- a def: parameters, slots, whether its answer never changes, body -/
structure Fd where
  np : Nat
  ns : Nat
  val : Bool
  body : List St
structure Tab where
  fn : Nat → Option Fd
  init : Nat → Option (Nat × Bool)
  meth : Nat → Nat → Option Nat
  fo : Nat → Nat → Bool
  eqm : Nat → Option Nat
def start (n : Nat) (ds : List D) : Sl := ds.map some ++ List.replicate (n - ds.length) none
/-- a call: k levels, base: where the caller's own objects begin -/
def evC (T : Tab) : Nat → Nat → Nat → List D → Store → Option (D × Store)
  | 0, _, _, _, _ => none
  | k + 1, base, f, ds, S => (T.fn f).bind fun fd => if ds.length = fd.np then
      (execs ⟨evC T k, (match k with
        | 0 => fun _ _ _ _ => none
        | j + 1 => evC T j), T.init, T.meth, T.fo, if fd.val then S.length else base, T.eqm⟩ fd.body (start fd.ns ds) S).bind fun q => match q with
        | (.nx, _, S2) => fin fd.val S.length (.b .non) S2
        | (.rt d, _, S2) => fin fd.val S.length d S2
        | (.ct, _, _) => none
    else none
end
end M
/-! MC2: how the small interpreter's data lie in the abstract heap. -/
namespace M
open PySem PySem.Spec PyProof.Rows L2
/-- names: the texts, the attributes and methods, by number -/
structure Nms where
  txts : List PySem.Str
  snd : txts.Nodup
  sok : ∀ x ∈ txts, PySem.PyData.strOk x = true
  flds : List PySem.Str
  fnd : flds.Nodup
/-- what the data lean on: names, the written part, the classes' addresses -/
structure Ct where
  N : Nms
  K : PySem.W.Frag
  cl : Nat → Option Addr
  tp : Hp
/-- .. with other things that stand aside for a while -/
def Ct.w (C : Ct) (tp : Hp) : Ct := ⟨C.N, C.K, C.cl, tp⟩
def RelK (N : Nms) : Kd → L2.Key → Prop
  | .i n, k => k = .inl n
  | .s n, k => ∃ x, N.txts[n]? = some x ∧ k = .inr x
mutual
def RelB (C : Ct) (F : Hp) : B → V → Prop
  | .non, v => v = .non
  | .bl b, v => v = .bl b
  | .int i, v => v = .int i
  | .str n, v => ∃ x, C.N.txts[n]? = some x ∧ v = .str x
  | .tup xs, v => ∃ a vs, v = .ref a ∧ SqT C.K F a vs ∧ RelBs C F xs vs
  | .lst xs, v => ∃ a vs, v = .ref a ∧ F a = some (.lst vs) ∧ RelBs C F xs vs
  | .scr xs, v => ∃ a vs, v = .ref a ∧ SqL C.K F a vs ∧ RelBs C F xs vs
  | .dic kvs, v => ∃ a o ks, v = .ref a ∧ F a = some (.frz o (.dK ks)) ∧ RelBk C F kvs ks
  | .ins c fs, v => ∃ a D dx gs, v = .ref a ∧ C.cl c = some D ∧ F a = some (.ins D dx gs) ∧ F dx = some (.own a) ∧ RelBf C F fs gs
termination_by structural x => x
def RelBs (C : Ct) (F : Hp) : List B → List V → Prop
  | [], vs => vs = []
  | x :: xs, vs => ∃ v r, vs = v :: r ∧ RelB C F x v ∧ RelBs C F xs r
termination_by structural x => x
def RelBk (C : Ct) (F : Hp) : List (Kd × B) → List (L2.Key × V) → Prop
  | [], ks => ks = []
  | p :: xs, ks => ∃ q r, ks = q :: r ∧ RelKp C F p q ∧ RelBk C F xs r
termination_by structural x => x
def RelKp (C : Ct) (F : Hp) : Kd × B → L2.Key × V → Prop
  | (k, x), q => RelK C.N k q.1 ∧ RelB C F x q.2
termination_by structural x => x
def RelBf (C : Ct) (F : Hp) : List (Nat × B) → List (PySem.Str × V) → Prop
  | [], ks => ks = []
  | p :: xs, ks => ∃ q r, ks = q :: r ∧ RelFp C F p q ∧ RelBf C F xs r
termination_by structural x => x
def RelFp (C : Ct) (F : Hp) : Nat × B → PySem.Str × V → Prop
  | (k, x), q => C.N.flds[k]? = some q.1 ∧ RelB C F x q.2
termination_by structural x => x
end
mutual
def RelD (C : Ct) (F : Hp) (ι : List Addr) : D → V → Prop
  | .b x, v => RelB C F x v
  | .ref n, v => ∃ a, ι[n]? = some a ∧ v = .ref a
  | .mix xs, v => ∃ a vs, v = .ref a ∧ SqT C.K F a vs ∧ RelDs C F ι xs vs
termination_by structural x => x
def RelDs (C : Ct) (F : Hp) (ι : List Addr) : List D → List V → Prop
  | [], vs => vs = []
  | x :: xs, vs => ∃ v r, vs = v :: r ∧ RelD C F ι x v ∧ RelDs C F ι xs r
termination_by structural x => x
end
def RelDf (C : Ct) (F : Hp) (ι : List Addr) : List (Nat × D) → List (PySem.Str × V) → Prop
  | [], ks => ks = []
  | (k, x) :: xs, ks => ∃ j v r, ks = (j, v) :: r ∧ C.N.flds[k]? = some j ∧ RelD C F ι x v ∧ RelDf C F ι xs r
def RelO (C : Ct) (F : Hp) (ι : List Addr) (H : Hp) (a : Addr) : O → Prop
  | .lst xs => ∃ vs, H a = some (.lst vs) ∧ RelBs C F xs vs
  | .dic kvs => ∃ ks, H a = some (.dK ks) ∧ RelBk C F kvs ks
  | .ins c fs => ∃ D dx gs, C.cl c = some D ∧ H a = some (.ins D dx gs) ∧ H dx = some (.own a) ∧ RelDf C F ι fs gs
  | .lockl xs => ∃ vs, H a = some (.lst vs) ∧ RelBs C F xs vs
  | .lockd kvs => ∃ o ks, H a = some (.frz o (.dK ks)) ∧ RelBk C F kvs ks ∧ C.tp a = some (.frz o (.dK ks))
def Sub (F H : Hp) : Prop := ∀ a o, F a = some o → H a = some o
theorem Sub.refl (F : Hp) : Sub F F := fun _ _ h => h
theorem Sub.trans {F G H : Hp} (a : Sub F G) (b : Sub G H) : Sub F H := fun x o h => b x o (a x o h)
/-- a dict that is walked -/
def Fz (o : HO) : Prop := ∃ od ks, o = .frz od (.dK ks)
/-- the abstract heap holds the store -/
structure RH (C : Ct) (F : Hp) (ι : List Addr) (S : Store) (H : Hp) : Prop where
  fz : Sub F H
  len : ι.length = S.length
  nd : ι.Nodup
  ob : ∀ (n : Nat) a o, ι[n]? = some a → S[n]? = some o → RelO C F ι H a o
  tm : ∀ a o, C.tp a = some o → H a = some o ∧ F a = none ∧ (a ∉ ι ∨ Fz o) ∧ ∀ b, o ≠ .own b
/-- no object of the store is one that never changes -/
def Fre (F : Hp) (ι : List Addr) : Prop := ∀ a ∈ ι, F a = none
def Le (F : Hp) (ι : List Addr) (F' : Hp) (ι' : List Addr) : Prop := Sub F F' ∧ ∃ κ, ι' = ι ++ κ
theorem Le.refl (F : Hp) (ι : List Addr) : Le F ι F ι := ⟨Sub.refl F, [], by simp⟩
theorem Le.trans {F F1 F2 : Hp} {ι ι1 ι2 : List Addr} (a : Le F ι F1 ι1) (b : Le F1 ι1 F2 ι2) : Le F ι F2 ι2 := by
  obtain ⟨a1, κ, rfl⟩ := a
  obtain ⟨b1, κ2, rfl⟩ := b
  exact ⟨a1.trans b1, κ ++ κ2, by simp⟩
theorem Le.get {F F' : Hp} {ι ι' : List Addr} (l : Le F ι F' ι') {n : Nat} {a : Addr} (h : ι[n]? = some a) : ι'[n]? = some a := by
  obtain ⟨_, κ, rfl⟩ := l
  rw [List.getElem?_append_left (List.getElem?_eq_some_iff.mp h).1]
  exact h
def RelSl (C : Ct) (F : Hp) (ι : List Addr) (sl : Sl) (σ : L2.St) : Prop := sl.length = σ.length ∧ ∀ (i : Nat) d, sl[i]? = some (some d) → ∃ v, σ[i]? = some (some v) ∧ RelD C F ι d v
/-- the state: slots, heap -/
structure RS (C : Ct) (F : Hp) (ι : List Addr) (sl : Sl) (S : Store) (σ : L2.St) (H : Hp) : Prop where
  rh : RH C F ι S H
  fr : Fre F ι
  rs : RelSl C F ι sl σ
/-! ### more is known -/
theorem sqT_mono {K : PySem.W.Frag} {F G : Hp} (h : Sub F G) {a : Addr} {xs : List V} (q : SqT K F a xs) : SqT K G a xs := by
  rcases q with (q | ⟨o, q⟩) | q
  · exact .inl (.inl (h _ _ q))
  · exact .inl (.inr ⟨o, h _ _ q⟩)
  · exact .inr q
theorem sqL_mono {K : PySem.W.Frag} {F G : Hp} (h : Sub F G) {a : Addr} {xs : List V} (q : SqL K F a xs) : SqL K G a xs := by
  rcases q with (q | ⟨o, q⟩) | q
  · exact .inl (.inl (h _ _ q))
  · exact .inl (.inr ⟨o, h _ _ q⟩)
  · exact .inr q
section
variable {C : Ct} {F G : Hp} (h : Sub F G)
include h
mutual
theorem RelB.mono : ∀ (x : B) (v : V), RelB C F x v → RelB C G x v
  | .non, _, q => q
  | .bl _, _, q => q
  | .int _, _, q => q
  | .str _, _, q => q
  | .tup xs, v, q => by
    obtain ⟨a, vs, e, h1, h2⟩ := q
    exact ⟨a, vs, e, sqT_mono h h1, RelBs.mono xs vs h2⟩
  | .lst xs, v, q => by
    obtain ⟨a, vs, e, h1, h2⟩ := q
    exact ⟨a, vs, e, h _ _ h1, RelBs.mono xs vs h2⟩
  | .scr xs, v, q => by
    obtain ⟨a, vs, e, h1, h2⟩ := q
    exact ⟨a, vs, e, sqL_mono h h1, RelBs.mono xs vs h2⟩
  | .dic kvs, v, q => by
    obtain ⟨a, o, ks, e, h1, h2⟩ := q
    exact ⟨a, o, ks, e, h _ _ h1, RelBk.mono kvs ks h2⟩
  | .ins c fs, v, q => by
    obtain ⟨a, D, dx, gs, e, h0, h1, h2, h3⟩ := q
    exact ⟨a, D, dx, gs, e, h0, h _ _ h1, h _ _ h2, RelBf.mono fs gs h3⟩
theorem RelBs.mono : ∀ (xs : List B) (vs : List V), RelBs C F xs vs → RelBs C G xs vs
  | [], _, q => q
  | x :: xs, _, q => by
    obtain ⟨v, r, e, h1, h2⟩ := q
    exact ⟨v, r, e, RelB.mono x v h1, RelBs.mono xs r h2⟩
theorem RelBk.mono : ∀ (xs : List (Kd × B)) (vs : List (L2.Key × V)), RelBk C F xs vs → RelBk C G xs vs
  | [], _, q => q
  | p :: xs, _, q => by
    obtain ⟨j, r, e, h1, h2⟩ := q
    exact ⟨j, r, e, RelKp.mono p j h1, RelBk.mono xs r h2⟩
theorem RelKp.mono : ∀ (p : Kd × B) (q : L2.Key × V), RelKp C F p q → RelKp C G p q
  | (_, x), q, h => ⟨h.1, RelB.mono x q.2 h.2⟩
theorem RelBf.mono : ∀ (xs : List (Nat × B)) (vs : List (PySem.Str × V)), RelBf C F xs vs → RelBf C G xs vs
  | [], _, q => q
  | p :: xs, _, q => by
    obtain ⟨j, r, e, h1, h2⟩ := q
    exact ⟨j, r, e, RelFp.mono p j h1, RelBf.mono xs r h2⟩
theorem RelFp.mono : ∀ (p : Nat × B) (q : PySem.Str × V), RelFp C F p q → RelFp C G p q
  | (_, x), q, h => ⟨h.1, RelB.mono x q.2 h.2⟩
end
end
section
variable {C : Ct} {F G : Hp} {ι κ : List Addr} (h : Le F ι G κ)
include h
mutual
theorem RelD.mono : ∀ (x : D) (v : V), RelD C F ι x v → RelD C G κ x v
  | .b x, v, q => RelB.mono h.1 x v q
  | .ref n, v, q => by
    obtain ⟨a, e, ev⟩ := q
    exact ⟨a, h.get e, ev⟩
  | .mix xs, v, q => by
    obtain ⟨a, vs, e, h1, h2⟩ := q
    exact ⟨a, vs, e, sqT_mono h.1 h1, RelDs.mono xs vs h2⟩
theorem RelDs.mono : ∀ (xs : List D) (vs : List V), RelDs C F ι xs vs → RelDs C G κ xs vs
  | [], _, q => q
  | x :: xs, _, q => by
    obtain ⟨v, r, e, h1, h2⟩ := q
    exact ⟨v, r, e, RelD.mono x v h1, RelDs.mono xs r h2⟩
end
theorem RelDf.mono : ∀ (xs : List (Nat × D)) (vs : List (PySem.Str × V)), RelDf C F ι xs vs → RelDf C G κ xs vs
  | [], _, q => q
  | (k, x) :: xs, _, q => by
    obtain ⟨j, v, r, e, h0, h1, h2⟩ := q
    exact ⟨j, v, r, e, h0, RelD.mono h x v h1, RelDf.mono xs r h2⟩
theorem RelSl.mono {sl : Sl} {σ : L2.St} (q : RelSl C F ι sl σ) : RelSl C G κ sl σ := ⟨q.1, fun i d e => by
  obtain ⟨v, e1, r⟩ := q.2 i d e
  exact ⟨v, e1, RelD.mono h d v r⟩⟩
end
theorem RS.to {C : Ct} {F G : Hp} {ι κ : List Addr} {sl : Sl} {S S' : Store} {σ : L2.St} {H H' : Hp} (r : RS C F ι sl S σ H) (l : Le F ι G κ) (rh : RH C G κ S' H') (fr : Fre G κ) : RS C G κ sl S' σ H' := ⟨rh, fr, r.rs.mono l⟩
/-! ### the things aside are of no account to values -/
section
variable {C : Ct} {tp F : Hp} {ι : List Addr}
mutual
theorem RelB.w : ∀ (x : B) (v : V), RelB C F x v → RelB (C.w tp) F x v
  | .non, _, q => q
  | .bl _, _, q => q
  | .int _, _, q => q
  | .str _, _, q => q
  | .tup xs, v, q => by
    obtain ⟨a, vs, e, h1, h2⟩ := q
    exact ⟨a, vs, e, h1, RelBs.w xs vs h2⟩
  | .lst xs, v, q => by
    obtain ⟨a, vs, e, h1, h2⟩ := q
    exact ⟨a, vs, e, h1, RelBs.w xs vs h2⟩
  | .scr xs, v, q => by
    obtain ⟨a, vs, e, h1, h2⟩ := q
    exact ⟨a, vs, e, h1, RelBs.w xs vs h2⟩
  | .dic kvs, v, q => by
    obtain ⟨a, o, ks, e, h1, h2⟩ := q
    exact ⟨a, o, ks, e, h1, RelBk.w kvs ks h2⟩
  | .ins c fs, v, q => by
    obtain ⟨a, D, dx, gs, e, h0, h1, h2, h3⟩ := q
    exact ⟨a, D, dx, gs, e, h0, h1, h2, RelBf.w fs gs h3⟩
theorem RelBs.w : ∀ (xs : List B) (vs : List V), RelBs C F xs vs → RelBs (C.w tp) F xs vs
  | [], _, q => q
  | x :: xs, _, q => by
    obtain ⟨v, r, e, h1, h2⟩ := q
    exact ⟨v, r, e, RelB.w x v h1, RelBs.w xs r h2⟩
theorem RelBk.w : ∀ (xs : List (Kd × B)) (vs : List (L2.Key × V)), RelBk C F xs vs → RelBk (C.w tp) F xs vs
  | [], _, q => q
  | p :: xs, _, q => by
    obtain ⟨j, r, e, h1, h2⟩ := q
    exact ⟨j, r, e, RelKp.w p j h1, RelBk.w xs r h2⟩
theorem RelKp.w : ∀ (p : Kd × B) (q : L2.Key × V), RelKp C F p q → RelKp (C.w tp) F p q
  | (_, x), q, h => ⟨h.1, RelB.w x q.2 h.2⟩
theorem RelBf.w : ∀ (xs : List (Nat × B)) (vs : List (PySem.Str × V)), RelBf C F xs vs → RelBf (C.w tp) F xs vs
  | [], _, q => q
  | p :: xs, _, q => by
    obtain ⟨j, r, e, h1, h2⟩ := q
    exact ⟨j, r, e, RelFp.w p j h1, RelBf.w xs r h2⟩
theorem RelFp.w : ∀ (p : Nat × B) (q : PySem.Str × V), RelFp C F p q → RelFp (C.w tp) F p q
  | (_, x), q, h => ⟨h.1, RelB.w x q.2 h.2⟩
end
mutual
theorem RelD.w : ∀ (x : D) (v : V), RelD C F ι x v → RelD (C.w tp) F ι x v
  | .b x, v, q => RelB.w x v q
  | .ref n, v, q => q
  | .mix xs, v, q => by
    obtain ⟨a, vs, e, h1, h2⟩ := q
    exact ⟨a, vs, e, h1, RelDs.w xs vs h2⟩
theorem RelDs.w : ∀ (xs : List D) (vs : List V), RelDs C F ι xs vs → RelDs (C.w tp) F ι xs vs
  | [], _, q => q
  | x :: xs, _, q => by
    obtain ⟨v, r, e, h1, h2⟩ := q
    exact ⟨v, r, e, RelD.w x v h1, RelDs.w xs r h2⟩
end
theorem RelDf.w : ∀ (xs : List (Nat × D)) (vs : List (PySem.Str × V)), RelDf C F ι xs vs → RelDf (C.w tp) F ι xs vs
  | [], _, q => q
  | (k, x) :: xs, _, q => by
    obtain ⟨j, v, r, e, h0, h1, h2⟩ := q
    exact ⟨j, v, r, e, h0, RelD.w x v h1, RelDf.w xs r h2⟩
theorem RelO.w {H : Hp} {a : Addr} {o : O} (hk : ∀ od ks, C.tp a = some (.frz od (.dK ks)) → tp a = some (.frz od (.dK ks))) (r : RelO C F ι H a o) : RelO (C.w tp) F ι H a o := by
  cases o with
  | lst xs => obtain ⟨vs, e, q⟩ := r; exact ⟨vs, e, RelBs.w _ _ q⟩
  | dic xs => obtain ⟨vs, e, q⟩ := r; exact ⟨vs, e, RelBk.w _ _ q⟩
  | ins c fs => obtain ⟨D, dx, gs, e1, e2, e3, q⟩ := r; exact ⟨D, dx, gs, e1, e2, e3, RelDf.w _ _ q⟩
  | lockl xs => obtain ⟨vs, e, q⟩ := r; exact ⟨vs, e, RelBs.w _ _ q⟩
  | lockd xs => obtain ⟨o, vs, e, q⟩ := r; exact ⟨o, vs, e, RelBk.w _ _ q.1, hk _ _ q.2⟩
theorem RelSl.w {sl : Sl} {σ : L2.St} (q : RelSl C F ι sl σ) : RelSl (C.w tp) F ι sl σ := ⟨q.1, fun i d e => by
  obtain ⟨v, e1, r⟩ := q.2 i d e
  exact ⟨v, e1, RelD.w d v r⟩⟩
end
/-! ### lists of values -/
section
variable {C : Ct} {F : Hp} {ι : List Addr}
theorem RelBs.length : ∀ {xs : List B} {vs : List V}, RelBs C F xs vs → xs.length = vs.length
  | [], _, h => by
    cases (show _ = [] from h)
    rfl
  | x :: xs, _, h => by
    obtain ⟨v, r, rfl, _, h2⟩ := h
    rw [List.length_cons, List.length_cons, RelBs.length h2]
theorem RelBs.get : ∀ {xs : List B} {vs : List V} {i : Nat} {x : B}, RelBs C F xs vs → xs[i]? = some x → ∃ v, vs[i]? = some v ∧ RelB C F x v
  | [], _, _, _, _, e => by simp at e
  | y :: ys, _, 0, x, h, e => by
    obtain ⟨v, r, rfl, h1, h2⟩ := h
    simp at e
    subst e
    exact ⟨v, rfl, h1⟩
  | y :: ys, _, i + 1, x, h, e => by
    obtain ⟨v, r, rfl, h1, h2⟩ := h
    exact RelBs.get (i := i) h2 (by simpa using e)
theorem RelBs.append : ∀ {xs ys : List B} {vs ws : List V}, RelBs C F xs vs → RelBs C F ys ws → RelBs C F (xs ++ ys) (vs ++ ws)
  | [], _, _, _, h, h' => by
    cases (show _ = [] from h)
    exact h'
  | x :: xs, _, _, _, h, h' => by
    obtain ⟨v, r, rfl, h1, h2⟩ := h
    exact ⟨v, _, rfl, h1, RelBs.append h2 h'⟩
theorem RelBs.take : ∀ {xs : List B} {vs : List V} (n : Nat), RelBs C F xs vs → RelBs C F (xs.take n) (vs.take n)
  | _, _, 0, _ => by
    rw [List.take_zero, List.take_zero]
    rfl
  | [], _, n + 1, h => by
    cases (show _ = [] from h)
    rfl
  | x :: xs, _, n + 1, h => by
    obtain ⟨v, r, rfl, h1, h2⟩ := h
    exact ⟨v, _, rfl, h1, RelBs.take n h2⟩
theorem RelBs.drop : ∀ {xs : List B} {vs : List V} (n : Nat), RelBs C F xs vs → RelBs C F (xs.drop n) (vs.drop n)
  | _, _, 0, h => h
  | [], _, n + 1, h => by
    cases (show _ = [] from h)
    rfl
  | x :: xs, _, n + 1, h => by
    obtain ⟨v, r, rfl, h1, h2⟩ := h
    exact RelBs.drop n h2
theorem RelBs.one {x : B} {v : V} (h : RelB C F x v) : RelBs C F [x] [v] := ⟨v, [], rfl, h, rfl⟩
theorem RelBs.reverse : ∀ {xs : List B} {vs : List V}, RelBs C F xs vs → RelBs C F xs.reverse vs.reverse
  | [], _, h => by
    cases (show _ = [] from h)
    rfl
  | x :: xs, _, h => by
    obtain ⟨v, r, rfl, h1, h2⟩ := h
    rw [List.reverse_cons, List.reverse_cons]
    exact RelBs.append (RelBs.reverse h2) (RelBs.one h1)
theorem RelBs.flat {xs : List B} {vs : List V} (h : RelBs C F xs vs) : ∀ k : Nat, RelBs C F (List.replicate k xs).flatten (List.replicate k vs).flatten
  | 0 => rfl
  | k + 1 => by
    rw [List.replicate_succ, List.replicate_succ, List.flatten_cons, List.flatten_cons]
    exact RelBs.append h (RelBs.flat h k)
theorem RelBs.set : ∀ {xs : List B} {vs : List V} {y : B} {w : V} (i : Nat), RelBs C F xs vs → RelB C F y w → RelBs C F (xs.set i y) (vs.set i w)
  | [], _, _, _, _, h, _ => by
    cases (show _ = [] from h)
    rfl
  | x :: xs, _, y, w, 0, h, hw => by
    obtain ⟨v, r, rfl, h1, h2⟩ := h
    exact ⟨w, r, rfl, hw, h2⟩
  | x :: xs, _, y, w, i + 1, h, hw => by
    obtain ⟨v, r, rfl, h1, h2⟩ := h
    exact ⟨v, _, rfl, h1, RelBs.set i h2 hw⟩
theorem RelBs.erase : ∀ {xs : List B} {vs : List V} (i : Nat), RelBs C F xs vs → RelBs C F (xs.eraseIdx i) (vs.eraseIdx i)
  | [], _, _, h => by
    cases (show _ = [] from h)
    rfl
  | x :: xs, _, 0, h => by
    obtain ⟨v, r, rfl, h1, h2⟩ := h
    exact h2
  | x :: xs, _, i + 1, h => by
    obtain ⟨v, r, rfl, h1, h2⟩ := h
    exact ⟨v, _, rfl, h1, RelBs.erase i h2⟩
theorem RelBs.dropLast {xs : List B} {vs : List V} (h : RelBs C F xs vs) : RelBs C F xs.dropLast vs.dropLast := by
  rw [List.dropLast_eq_take, List.dropLast_eq_take, h.length]
  exact h.take _
theorem RelBs.ints : ∀ {xs : List B} {ns : List Int} {vs : List V}, RelBs C F xs vs → intsB xs = some ns → vs = ns.map V.int
  | [], ns, _, h, e => by
    cases (show _ = [] from h)
    cases e
    rfl
  | x :: xs, ns, _, h, e => by
    obtain ⟨v, r, rfl, h1, h2⟩ := h
    cases x <;> try (cases e; done)
    rename_i i
    have e' : (intsB xs).map (i :: ·) = some ns := e
    cases q : intsB xs with
    | none => rw [q] at e'; cases e'
    | some ms =>
      rw [q] at e'
      cases e'
      rw [RelBs.ints h2 q]
      cases (show v = .int i from h1)
      rfl
theorem RelBs.of_ints : ∀ {ns : List Int}, RelBs C F (ns.map B.int) (ns.map V.int)
  | [] => rfl
  | n :: ns => ⟨_, _, rfl, rfl, RelBs.of_ints⟩
theorem RelBs.bools : ∀ {xs : List B} {ns : List Bool} {vs : List V}, RelBs C F xs vs → boolsB xs = some ns → vs = ns.map V.bl
  | [], ns, _, h, e => by
    cases (show _ = [] from h)
    cases e
    rfl
  | x :: xs, ns, _, h, e => by
    obtain ⟨v, r, rfl, h1, h2⟩ := h
    cases x <;> try (cases e; done)
    rename_i i
    have e' : (boolsB xs).map (i :: ·) = some ns := e
    cases q : boolsB xs with
    | none => rw [q] at e'; cases e'
    | some ms =>
      rw [q] at e'
      cases e'
      rw [RelBs.bools h2 q]
      cases (show v = .bl i from h1)
      rfl
theorem RelDs.length : ∀ {xs : List D} {vs : List V}, RelDs C F ι xs vs → xs.length = vs.length
  | [], _, h => by
    cases (show _ = [] from h)
    rfl
  | x :: xs, _, h => by
    obtain ⟨v, r, rfl, _, h2⟩ := h
    rw [List.length_cons, List.length_cons, RelDs.length h2]
theorem RelDs.get : ∀ {xs : List D} {vs : List V} {i : Nat} {x : D}, RelDs C F ι xs vs → xs[i]? = some x → ∃ v, vs[i]? = some v ∧ RelD C F ι x v
  | [], _, _, _, _, e => by simp at e
  | y :: ys, _, 0, x, h, e => by
    obtain ⟨v, r, rfl, h1, h2⟩ := h
    simp at e
    subst e
    exact ⟨v, rfl, h1⟩
  | y :: ys, _, i + 1, x, h, e => by
    obtain ⟨v, r, rfl, h1, h2⟩ := h
    exact RelDs.get (i := i) h2 (by simpa using e)
theorem RelDs.all : ∀ {ds : List D} {xs : List B} {vs : List V}, RelDs C F ι ds vs → allB ds = some xs → RelBs C F xs vs
  | [], xs, _, h, e => by
    cases (show _ = [] from h)
    cases e
    rfl
  | d :: ds, xs, _, h, e => by
    obtain ⟨v, r, rfl, h1, h2⟩ := h
    cases d <;> try (cases e; done)
    rename_i x
    have e' : (allB ds).map (x :: ·) = some xs := e
    cases q : allB ds with
    | none => rw [q] at e'; cases e'
    | some ys =>
      rw [q] at e'
      cases e'
      exact ⟨v, r, rfl, h1, RelDs.all h2 q⟩
theorem RelBs.ds : ∀ {xs : List B} {vs : List V}, RelBs C F xs vs → RelDs C F ι (xs.map D.b) vs
  | [], _, h => h
  | x :: xs, _, h => by
    obtain ⟨v, r, rfl, h1, h2⟩ := h
    exact ⟨v, r, rfl, h1, RelBs.ds h2⟩
end
/-! ### the store changes -/
section
variable {C : Ct} {F : Hp} {ι : List Addr} {S : Store} {H : Hp}
/-- what an object's reading leans on, when another object changes -/
theorem RelO.at {H' : Hp} {a : Addr} {o : O} (r : RelO C F ι H a o) (k : H a = H' a) (ho : ∀ b, H b = some (.own a) → H' b = some (.own a)) : RelO C F ι H' a o := by
  cases o with
  | lst xs => obtain ⟨vs, e, q⟩ := r; exact ⟨vs, k ▸ e, q⟩
  | dic xs => obtain ⟨vs, e, q⟩ := r; exact ⟨vs, k ▸ e, q⟩
  | ins c fs => obtain ⟨D, dx, gs, e1, e2, e3, q⟩ := r; exact ⟨D, dx, gs, e1, k ▸ e2, ho _ e3, q⟩
  | lockl xs => obtain ⟨vs, e, q⟩ := r; exact ⟨vs, k ▸ e, q⟩
  | lockd xs => obtain ⟨o, vs, e, q⟩ := r; exact ⟨o, vs, k ▸ e, q⟩
theorem RelO.mono {G : Hp} {κ : List Addr} (h : Le F ι G κ) {a : Addr} {o : O} (r : RelO C F ι H a o) : RelO C G κ H a o := by
  cases o with
  | lst xs => obtain ⟨vs, e, q⟩ := r; exact ⟨vs, e, RelBs.mono h.1 _ _ q⟩
  | dic xs => obtain ⟨vs, e, q⟩ := r; exact ⟨vs, e, RelBk.mono h.1 _ _ q⟩
  | ins c fs => obtain ⟨D, dx, gs, e1, e2, e3, q⟩ := r; exact ⟨D, dx, gs, e1, e2, e3, RelDf.mono h _ _ q⟩
  | lockl xs => obtain ⟨vs, e, q⟩ := r; exact ⟨vs, e, RelBs.mono h.1 _ _ q⟩
  | lockd xs => obtain ⟨o, vs, e, q⟩ := r; exact ⟨o, vs, e, RelBk.mono h.1 _ _ q.1, q.2⟩
/-- an object that an address of the store has is not an instance's dict -/
theorem RelO.notOwn {a b : Addr} {o : O} (r : RelO C F ι H a o) : H a ≠ some (.own b) := by
  intro z
  cases o with
  | lst xs => obtain ⟨vs, e, q⟩ := r; rw [z] at e; cases e
  | dic xs => obtain ⟨vs, e, q⟩ := r; rw [z] at e; cases e
  | ins c fs => obtain ⟨D, dx, gs, e1, e2, e3, q⟩ := r; rw [z] at e2; cases e2
  | lockl xs => obtain ⟨vs, e, q⟩ := r; rw [z] at e; cases e
  | lockd xs => obtain ⟨o, vs, e, q⟩ := r; rw [z] at e; cases e
theorem RelO.there {a : Addr} {o : O} (r : RelO C F ι H a o) : ∃ u, H a = some u := by
  cases o with
  | lst xs => obtain ⟨vs, e, q⟩ := r; exact ⟨_, e⟩
  | dic xs => obtain ⟨vs, e, q⟩ := r; exact ⟨_, e⟩
  | ins c fs => obtain ⟨D, dx, gs, e1, e2, e3, q⟩ := r; exact ⟨_, e2⟩
  | lockl xs => obtain ⟨vs, e, q⟩ := r; exact ⟨_, e⟩
  | lockd xs => obtain ⟨o, vs, e, q⟩ := r; exact ⟨_, e⟩
theorem RH.obj (r : RH C F ι S H) {n : Nat} {a : Addr} (h : ι[n]? = some a) : ∃ o, S[n]? = some o ∧ RelO C F ι H a o := by
  have hn : n < S.length := by
    rw [← r.len]
    exact (List.getElem?_eq_some_iff.mp h).1
  exact ⟨S[n], List.getElem?_eq_getElem hn, r.ob n a _ h (List.getElem?_eq_getElem hn)⟩
theorem RH.addr (r : RH C F ι S H) {n : Nat} {o : O} (h : S[n]? = some o) : ∃ a, ι[n]? = some a ∧ RelO C F ι H a o := by
  have hn : n < ι.length := by
    rw [r.len]
    exact (List.getElem?_eq_some_iff.mp h).1
  exact ⟨ι[n], List.getElem?_eq_getElem hn, r.ob n _ o (List.getElem?_eq_getElem hn) h⟩
theorem nodup_get {ι : List Addr} (nd : ι.Nodup) {n m : Nat} {a : Addr} (h : ι[n]? = some a) (h' : ι[m]? = some a) : n = m := by
  obtain ⟨h1, e1⟩ := List.getElem?_eq_some_iff.mp h
  obtain ⟨h2, e2⟩ := List.getElem?_eq_some_iff.mp h'
  exact (List.getElem_inj nd).mp (e1.trans e2.symm)
theorem fz_l {H : Hp} {a : Addr} {ws : List V} (h : H a = some (.lst ws)) : ∀ z, H a = some z → ¬ Fz z := fun z e ⟨od, ks, q⟩ => by
  subst q
  rw [h] at e
  cases e
theorem fz_d {H : Hp} {a : Addr} {ws : List (L2.Key × V)} (h : H a = some (.dK ws)) : ∀ z, H a = some z → ¬ Fz z := fun z e ⟨od, ks, q⟩ => by
  subst q
  rw [h] at e
  cases e
theorem fz_i {H : Hp} {a D dx : Addr} {gs : List (PySem.Str × V)} (h : H a = some (.ins D dx gs)) : ∀ z, H a = some z → ¬ Fz z := fun z e ⟨od, ks, q⟩ => by
  subst q
  rw [h] at e
  cases e
/-- an object of the store is changed -/
theorem RH.set (r : RH C F ι S H) {n : Nat} {a : Addr} {o : O} {u : HO} (hn : ι[n]? = some a) (hF : F a = none) (hz : ∀ z, H a = some z → ¬ Fz z) (new : RelO C F ι (upd H a u) a o) : RH C F ι (S.set n o) (upd H a u) := by
  obtain ⟨o0, hS, r0⟩ := r.obj hn
  refine ⟨fun b x e => ?_, by rw [List.length_set]; exact r.len, r.nd, fun m b x hb hx => ?_, fun b x e => ?_⟩
  · have hb : b ≠ a := fun z => by
      rw [z, hF] at e
      cases e
    rw [upd_ne hb]
    exact r.fz b x e
  · by_cases hm : m = n
    · subst hm
      rw [hn] at hb
      cases hb
      rw [List.getElem?_set_self (List.getElem?_eq_some_iff.mp hS).1] at hx
      cases hx
      exact new
    · rw [List.getElem?_set_ne (Ne.symm hm)] at hx
      have hba : b ≠ a := fun z => hm (nodup_get r.nd hb (z ▸ hn))
      refine (r.ob m b x hb hx).at (by rw [upd_ne hba]) fun c hc => ?_
      rw [upd_ne fun z => r0.notOwn (z ▸ hc)]
      exact hc
  · obtain ⟨h1, h2, h3, h4⟩ := r.tm b x e
    exact ⟨by rw [upd_ne (fun z : b = a => h3.elim (fun h3 => h3 (by rw [z]; exact List.mem_of_getElem? hn)) (hz x (by rw [← z]; exact h1)))]; exact h1, h2, h3, h4⟩
/-- a new object that never changes -/
theorem RH.newF (r : RH C F ι S H) (fr : Fre F ι) {p : Addr} {u : HO} (hp : H p = none) : RH C (upd F p u) ι S (upd H p u) ∧ Fre (upd F p u) ι ∧ Le F ι (upd F p u) ι := by
  have hF : Sub F (upd F p u) := fun b x e => by
    rw [upd_ne fun z => ?_]
    · exact e
    · subst z
      rw [r.fz _ _ e] at hp
      cases hp
  have l : Le F ι (upd F p u) ι := ⟨hF, [], by simp⟩
  refine ⟨⟨fun b x e => ?_, r.len, r.nd, fun n a o ha ho => ?_, fun b x e => ?_⟩, fun a ha => ?_, l⟩
  · by_cases hb : b = p
    · subst hb
      rw [upd_same] at e ⊢
      exact e
    · rw [upd_ne hb] at e ⊢
      exact r.fz b x e
  · have q := r.ob n a o ha ho
    obtain ⟨w, hw⟩ := q.there
    refine (q.mono l).at (by rw [upd_ne (ne_of_none hw hp)]) fun c hc => by rw [upd_ne (ne_of_none hc hp)]; exact hc
  · obtain ⟨h1, h2, h3, h4⟩ := r.tm b x e
    exact ⟨by rw [upd_ne (ne_of_none h1 hp)]; exact h1, by rw [upd_ne (ne_of_none h1 hp)]; exact h2, h3, h4⟩
  · obtain ⟨n, hn, e⟩ := List.getElem_of_mem ha
    have ha' : ι[n]? = some a := by rw [← e]; exact List.getElem?_eq_getElem hn
    obtain ⟨o, ho, q⟩ := r.obj ha'
    obtain ⟨w, hw⟩ := q.there
    rw [upd_ne (ne_of_none hw hp)]
    exact fr a ha
/-- a new object of the store -/
theorem RH.newS (r : RH C F ι S H) (fr : Fre F ι) {p : Addr} {u : HO} {o : O} (hp : H p = none) (new : RelO C F (ι ++ [p]) (upd H p u) p o) : RH C F (ι ++ [p]) (S ++ [o]) (upd H p u) ∧ Fre F (ι ++ [p]) ∧ Le F ι F (ι ++ [p]) := by
  have hpι : p ∉ ι := fun hm => by
    obtain ⟨n, hn, e⟩ := List.getElem_of_mem hm
    obtain ⟨o, ho, q⟩ := r.obj (n := n) (a := p) (by rw [← e]; exact List.getElem?_eq_getElem hn)
    obtain ⟨w, hw⟩ := q.there
    rw [hp] at hw
    cases hw
  have hpF : F p = none := by
    cases e : F p with
    | none => rfl
    | some w =>
      rw [r.fz _ _ e] at hp
      cases hp
  have l : Le F ι F (ι ++ [p]) := ⟨Sub.refl F, [p], rfl⟩
  refine ⟨⟨fun b x e => ?_, ?_, ?_, fun n a x ha hx => ?_, fun b x e => ?_⟩, fun a ha => ?_, l⟩
  · rw [upd_ne (ne_of_none (r.fz b x e) hp)]
    exact r.fz b x e
  · rw [List.length_append, List.length_append, r.len]
    rfl
  · rw [List.nodup_append]
    refine ⟨r.nd, by simp, fun a ha b hb => ?_⟩
    rw [List.mem_singleton] at hb
    subst hb
    exact fun e => hpι (e ▸ ha)
  · by_cases hn : n < ι.length
    · rw [List.getElem?_append_left hn] at ha
      rw [List.getElem?_append_left (r.len ▸ hn)] at hx
      have q := r.ob n a x ha hx
      obtain ⟨w, hw⟩ := q.there
      exact (q.mono l).at (by rw [upd_ne (ne_of_none hw hp)]) fun c hc => by rw [upd_ne (ne_of_none hc hp)]; exact hc
    · rw [List.getElem?_append_right (by omega)] at ha
      rw [List.getElem?_append_right (by rw [← r.len]; omega)] at hx
      have e0 : n - ι.length = 0 := by
        have := (List.getElem?_eq_some_iff.mp ha).1
        simp at this
        omega
      rw [e0] at ha
      rw [← r.len, e0] at hx
      cases ha
      cases hx
      exact new
  · obtain ⟨h1, h2, h3, h4⟩ := r.tm b x e
    refine ⟨by rw [upd_ne (ne_of_none h1 hp)]; exact h1, h2, h3.imp (fun h3 z => ?_) id, h4⟩
    rcases List.mem_append.mp z with z | z
    · exact h3 z
    · rw [List.mem_singleton] at z
      exact ne_of_none h1 hp z
  · rcases List.mem_append.mp ha with h | h
    · exact fr a h
    · rw [List.mem_singleton] at h
      subst h
      exact hpF
/-! ### things that stand aside -/
theorem RH.tmNew (r : RH C F ι S H) {p : Addr} {u : HO} (hp : H p = none) (hu : ∀ b, u ≠ .own b) : RH (C.w (upd C.tp p u)) F ι S (upd H p u) := by
  have hpι : p ∉ ι := fun hm => by
    obtain ⟨n, hn, e⟩ := List.getElem_of_mem hm
    obtain ⟨o, ho, q⟩ := r.obj (n := n) (a := p) (by rw [← e]; exact List.getElem?_eq_getElem hn)
    obtain ⟨w, hw⟩ := q.there
    rw [hp] at hw
    cases hw
  have hpF : F p = none := by
    cases e : F p with
    | none => rfl
    | some w =>
      rw [r.fz _ _ e] at hp
      cases hp
  refine ⟨fun b x e => ?_, r.len, r.nd, fun n a o ha ho => RelO.w (fun od ks e => by
      obtain ⟨w, hw⟩ := (r.ob n a o ha ho).there
      exact (upd_ne (ne_of_none hw hp)).trans e) ?_, fun b x e => ?_⟩
  · rw [upd_ne (ne_of_none (r.fz b x e) hp)]
    exact r.fz b x e
  · have q := r.ob n a o ha ho
    obtain ⟨w, hw⟩ := q.there
    exact q.at (by rw [upd_ne (ne_of_none hw hp)]) fun c hc => by rw [upd_ne (ne_of_none hc hp)]; exact hc
  · by_cases hb : b = p
    · subst hb
      have e' : upd C.tp b u b = some x := e
      rw [upd_same] at e' ⊢
      cases e'
      exact ⟨rfl, hpF, .inl hpι, hu⟩
    · have e' : upd C.tp p u b = some x := e
      rw [upd_ne hb] at e' ⊢
      exact r.tm b x e'
theorem RH.tmSet {tp : Hp} {p : Addr} {u u' : HO} (r : RH (C.w (upd tp p u)) F ι S H) (hf : ¬ Fz u) (hu : ∀ b, u' ≠ .own b) : RH (C.w (upd tp p u')) F ι S (upd H p u') := by
  obtain ⟨h1, h2, h3, h4⟩ := r.tm p u (show upd tp p u p = some u from upd_same)
  refine ⟨fun b x e => ?_, r.len, r.nd, fun n a o ha ho => ?_, fun b x e => ?_⟩
  · rw [upd_ne fun z => by rw [z, h2] at e; cases e]
    exact r.fz b x e
  · have hap : a ≠ p := fun z => (h3.resolve_right hf) (z ▸ List.mem_of_getElem? ha)
    exact RelO.w (C := C.w (upd tp p u)) (tp := upd tp p u') (fun od ks e => (upd_ne hap).trans ((upd_ne hap).symm.trans e)) ((r.ob n a o ha ho).at (by rw [upd_ne hap]) fun c hc => by
      rw [upd_ne fun z => by rw [z, h1] at hc; cases hc; exact h4 _ rfl]
      exact hc)
  · by_cases hb : b = p
    · subst hb
      have e' : upd tp b u' b = some x := e
      rw [upd_same] at e' ⊢
      cases e'
      exact ⟨rfl, h2, .inl (h3.resolve_right hf), hu⟩
    · have e' : upd tp p u' b = some x := e
      rw [upd_ne hb] at e' ⊢
      exact r.tm b x (show upd tp p u b = some x by rw [upd_ne hb]; exact e')
/-- it becomes one that never changes -/
theorem RH.tmF {p : Addr} {u : HO} (r : RH (C.w (upd C.tp p u)) F ι S H) (hf : ¬ Fz u) (fr : Fre F ι) (hn : C.tp p = none) : RH C (upd F p u) ι S H ∧ Fre (upd F p u) ι ∧ Le F ι (upd F p u) ι := by
  obtain ⟨h1, h2, h3, h4⟩ := r.tm p u (show upd C.tp p u p = some u from upd_same)
  have hF : Sub F (upd F p u) := fun b x e => by
    rw [upd_ne fun z => by rw [z, h2] at e; cases e]
    exact e
  have l : Le F ι (upd F p u) ι := ⟨hF, [], by simp⟩
  refine ⟨⟨fun b x e => ?_, r.len, r.nd, fun n a o ha ho => (RelO.w (C := C.w (upd C.tp p u)) (tp := C.tp) (fun od ks e => (upd_ne (fun z : a = p => (h3.resolve_right hf) (z ▸ List.mem_of_getElem? ha))).symm.trans e) (r.ob n a o ha ho)).mono l, fun b x e => ?_⟩, fun a ha => ?_, l⟩
  · by_cases hb : b = p
    · subst hb
      rw [upd_same] at e
      cases e
      exact h1
    · rw [upd_ne hb] at e
      exact r.fz b x e
  · have hb : b ≠ p := fun z => by rw [z, hn] at e; cases e
    obtain ⟨g1, g2, g3, g4⟩ := r.tm b x (show upd C.tp p u b = some x by rw [upd_ne hb]; exact e)
    exact ⟨g1, by rw [upd_ne hb]; exact g2, g3, g4⟩
  · rw [upd_ne (fun z : a = p => (h3.resolve_right hf) (by rw [← z]; exact ha))]
    exact fr a ha
/-- it becomes an object of the store -/
theorem RH.tmS {p : Addr} {u : HO} {o : O} (r : RH (C.w (upd C.tp p u)) F ι S H) (hf : ¬ Fz u) (fr : Fre F ι) (hn : C.tp p = none) (new : RelO C F (ι ++ [p]) H p o) : RH C F (ι ++ [p]) (S ++ [o]) H ∧ Fre F (ι ++ [p]) ∧ Le F ι F (ι ++ [p]) := by
  obtain ⟨h1, h2, h3, h4⟩ := r.tm p u (show upd C.tp p u p = some u from upd_same)
  have l : Le F ι F (ι ++ [p]) := ⟨Sub.refl F, [p], rfl⟩
  refine ⟨⟨r.fz, ?_, ?_, fun n a x ha hx => ?_, fun b x e => ?_⟩, fun a ha => ?_, l⟩
  · rw [List.length_append, List.length_append, r.len]
    rfl
  · rw [List.nodup_append]
    refine ⟨r.nd, by simp, fun a ha b hb => ?_⟩
    rw [List.mem_singleton] at hb
    subst hb
    exact fun e => (h3.resolve_right hf) (e ▸ ha)
  · by_cases hl : n < ι.length
    · rw [List.getElem?_append_left hl] at ha
      rw [List.getElem?_append_left (r.len ▸ hl)] at hx
      exact (RelO.w (C := C.w (upd C.tp p u)) (tp := C.tp) (fun od ks e => (upd_ne (fun z : a = p => (h3.resolve_right hf) (z ▸ List.mem_of_getElem? ha))).symm.trans e) (r.ob n a x ha hx)).mono l
    · have hl' := r.len
      rw [List.getElem?_append_right (by omega)] at ha
      rw [List.getElem?_append_right (by omega)] at hx
      have e0 : n - ι.length = 0 := by
        have := (List.getElem?_eq_some_iff.mp ha).1
        simp at this
        omega
      rw [e0] at ha
      rw [← r.len, e0] at hx
      cases ha
      cases hx
      exact new
  · have hb : b ≠ p := fun z => by rw [z, hn] at e; cases e
    obtain ⟨g1, g2, g3, g4⟩ := r.tm b x (show upd C.tp p u b = some x by rw [upd_ne hb]; exact e)
    refine ⟨g1, g2, g3.imp (fun g3 z => ?_) id, g4⟩
    rcases List.mem_append.mp z with z | z
    · exact g3 z
    · rw [List.mem_singleton] at z
      exact hb z
  · rcases List.mem_append.mp ha with h | h
    · exact fr a h
    · rw [List.mem_singleton] at h
      subst h
      exact h2
theorem Fre.at {n : Nat} {a : Addr} (fr : Fre F ι) (h : ι[n]? = some a) : F a = none := fr a (List.mem_of_getElem? h)
end
end M
/-! MC3: operations on values. -/
namespace M
open PySem PySem.Spec PyProof.Rows L2
/-- what is shown of an answer -/
def Post (C : Ct) (F : Hp) (ι : List Addr) (S : Store) (d : D) (Q : VK) : Prop := ∀ F' ι' v H', Le F ι F' ι' → RH C F' ι' S H' → Fre F' ι' → RelD C F' ι' d v → Q v H'
theorem Post.here {C : Ct} {F : Hp} {ι : List Addr} {S : Store} {d : D} {Q : VK} {v : V} {H : Hp} (p : Post C F ι S d Q) (rh : RH C F ι S H) (fr : Fre F ι) (r : RelD C F ι d v) : Q v H := p F ι v H (Le.refl _ _) rh fr r
theorem Post.new {C : Ct} {F : Hp} {ι : List Addr} {S : Store} {d : D} {Q : VK} {H : Hp} (p : Post C F ι S d Q) (rh : RH C F ι S H) (fr : Fre F ι) {a : Addr} {u : HO} (hp : H a = none) (r : RelD C (upd F a u) ι d (.ref a)) : Q (.ref a) (upd H a u) := by
  obtain ⟨h1, h2, h3⟩ := rh.newF fr (u := u) hp
  exact p _ _ _ _ h3 h1 h2 r
theorem Post.newS {C : Ct} {F : Hp} {ι : List Addr} {S : Store} {d : D} {Q : VK} {H : Hp} {o : O} (p : Post C F ι (S ++ [o]) (.ref S.length) Q) (rh : RH C F ι S H) (fr : Fre F ι) {a : Addr} {u : HO} (hp : H a = none) (r : RelO C F (ι ++ [a]) (upd H a u) a o) : Q (.ref a) (upd H a u) := by
  obtain ⟨h1, h2, h3⟩ := rh.newS fr (u := u) hp r
  refine p _ _ _ _ h3 h1 h2 ⟨a, ?_, rfl⟩
  rw [List.getElem?_append_right (by rw [rh.len] <;> exact Nat.le_refl _), ← rh.len, Nat.sub_self]
  rfl
theorem Post.mono {C : Ct} {F F' : Hp} {ι ι' : List Addr} {S : Store} {d : D} {Q : VK} (p : Post C F ι S d Q) (l : Le F ι F' ι') : Post C F' ι' S d Q := fun F2 ι2 v H l2 rh fr r => p F2 ι2 v H (l.trans l2) rh fr r
/-! ### views -/
section
variable {C : Ct} {F : Hp} {ι : List Addr} {S : Store} {H : Hp} {d : D} {v : V}
theorem seqB_rel {x : B} {xs : List B} (r : RelB C F x v) (e : seqB x = some xs) : ∃ a vs, v = .ref a ∧ (SqL C.K F a vs ∨ SqT C.K F a vs) ∧ RelBs C F xs vs := by
  cases x <;> try (cases e; done)
  · cases e
    obtain ⟨a, vs, h1, h2, h3⟩ := r
    exact ⟨a, vs, h1, .inr h2, h3⟩
  · cases e
    obtain ⟨a, vs, h1, h2, h3⟩ := r
    exact ⟨a, vs, h1, .inl (.inl (.inl h2)), h3⟩
  · cases e
    obtain ⟨a, vs, h1, h2, h3⟩ := r
    exact ⟨a, vs, h1, .inl h2, h3⟩
theorem seqD_rel (rh : RH C F ι S H) {xs : List B} (r : RelD C F ι d v) (e : seqD S d = some xs) : ∃ a vs, v = .ref a ∧ (SqL C.K H a vs ∨ SqT C.K H a vs) ∧ RelBs C F xs vs := by
  cases d with
  | b x =>
    obtain ⟨a, vs, h1, h2, h3⟩ := seqB_rel (show RelB C F x v from r) e
    exact ⟨a, vs, h1, h2.elim (fun z => .inl (sqL_mono rh.fz z)) (fun z => .inr (sqT_mono rh.fz z)), h3⟩
  | mix xs => cases e
  | ref n =>
    obtain ⟨a, ha, rfl⟩ := r
    obtain ⟨o, ho, q⟩ := rh.obj ha
    unfold seqD at e
    dsimp only at e
    rw [ho] at e
    cases o <;> try (cases e; done)
    · cases e
      obtain ⟨vs, h1, h2⟩ := q
      exact ⟨a, vs, rfl, .inl (.inl (.inl h1)), h2⟩
    · cases e
      obtain ⟨vs, h1, h2⟩ := q
      exact ⟨a, vs, rfl, .inl (.inl (.inl h1)), h2⟩
theorem lstD_rel (rh : RH C F ι S H) {xs : List B} (r : RelD C F ι d v) (e : lstD S d = some xs) : ∃ a vs, v = .ref a ∧ H a = some (.lst vs) ∧ RelBs C F xs vs := by
  cases d with
  | b x =>
    cases x <;> try (cases e; done)
    cases e
    obtain ⟨a, vs, h1, h2, h3⟩ := (show RelB C F _ v from r)
    exact ⟨a, vs, h1, rh.fz _ _ h2, h3⟩
  | mix xs => cases e
  | ref n =>
    obtain ⟨a, ha, rfl⟩ := r
    obtain ⟨o, ho, q⟩ := rh.obj ha
    unfold lstD at e
    dsimp only at e
    rw [ho] at e
    cases o <;> try (cases e; done)
    cases e
    obtain ⟨vs, h1, h2⟩ := q
    exact ⟨a, vs, rfl, h1, h2⟩
theorem dicD_rel (rh : RH C F ι S H) {xs : List (Kd × B)} (r : RelD C F ι d v) (e : dicD S d = some xs) : ∃ a ks, v = .ref a ∧ Rd H a (.dK ks) ∧ RelBk C F xs ks := by
  cases d with
  | b x =>
    cases x <;> try (cases e; done)
    cases e
    obtain ⟨a, o, vs, h1, h2, h3⟩ := (show RelB C F _ v from r)
    exact ⟨a, vs, h1, .inr ⟨o, rh.fz _ _ h2⟩, h3⟩
  | mix xs => cases e
  | ref n =>
    obtain ⟨a, ha, rfl⟩ := r
    obtain ⟨o, ho, q⟩ := rh.obj ha
    unfold dicD at e
    dsimp only at e
    rw [ho] at e
    cases o <;> try (cases e; done)
    · cases e
      obtain ⟨vs, h1, h2⟩ := q
      exact ⟨a, vs, rfl, .inl h1, h2⟩
    · cases e
      obtain ⟨o, vs, h1, h2, _⟩ := q
      exact ⟨a, vs, rfl, .inr ⟨o, h1⟩, h2⟩
theorem RelD.int {i : Int} (r : RelD C F ι (.b (.int i)) v) : v = .int i := r
theorem RelD.bl {i : Bool} (r : RelD C F ι (.b (.bl i)) v) : v = .bl i := r
end
/-! ### two ints -/
section
variable {X : Cx}
theorem mulOk_ok {i j : Int} (h : mulOk i j = true) : IntMulOk i j := by
  unfold mulOk at h
  simp only [Bool.or_eq_true, decide_eq_true_eq] at h
  rcases h with (h | h) | h
  · exact CMul.ok (.inl h)
  · exact CMul.ok (.inr h)
  · exact CMulX.ok (by unfold CMulX; omega)
theorem op_mulM : OpR X (binaryOp .Mult) (rI (fun i j => mulOk i j = true) fun i j => .int (i * j)) := opI fun _ _ _ _ _ _ _ hc q => mul_int q (mulOk_ok hc)
theorem op_shlM : OpR X (binaryOp .LShift) (rI (fun i j => shlOk i j = true) fun i j => .int (i * 2 ^ j.toNat)) := opI fun i j _ _ _ _ _ hc q => by
  unfold shlOk at hc
  simp only [Bool.and_eq_true, Bool.or_eq_true, decide_eq_true_eq] at hc
  rcases hc with ⟨h0, h | h⟩
  · exact lshift_int_small h0 h.1 h.2 q
  · exact lshift_int h0 (by omega) q
theorem op_divM : OpR X (binaryOp .FloorDiv) (rI (fun _ j => divOk j = true) fun i j => .int (i / j)) := by
  intro pins s σ H x y v u Q I rx ry h
  obtain ⟨i, j, e1, e2, hc, q⟩ := h
  unfold divOk at hc
  simp only [Bool.and_eq_true, decide_eq_true_eq] at hc
  exact op_fdivW pins s σ H x y v u Q I rx ry ⟨i, j, e1, e2, hc, q⟩
/-- the machine's operators -/
def pop : Op → Operator
  | .add => .Add
  | .sub => .Sub
  | .mul => .Mult
  | .fdiv => .FloorDiv
  | .mod => .Mod
  | .pow => .Pow
  | .shl => .LShift
  | .shr => .RShift
  | .band => .BitAnd
  | .bor => .BitOr
  | .xor => .BitXor
def rAr (o : Op) : R2 := fun x y H Q => ∃ i j z, x = .int i ∧ y = .int j ∧ arith o i j = some z ∧ Q (.int z) H
theorem op_ar (o : Op) : OpR X (binaryOp (pop o)) (rAr o) := by
  intro pins s σ H x y v u Q I rx ry h
  obtain ⟨i, j, z, e1, e2, e, q⟩ := h
  cases o with
  | add => cases e; exact op_add pins s σ H x y v u Q I rx ry ⟨i, j, e1, e2, q⟩
  | sub => cases e; exact op_sub pins s σ H x y v u Q I rx ry ⟨i, j, e1, e2, q⟩
  | band => cases e; exact op_and pins s σ H x y v u Q I rx ry ⟨i, j, e1, e2, q⟩
  | bor => cases e; exact op_or pins s σ H x y v u Q I rx ry ⟨i, j, e1, e2, q⟩
  | xor => cases e; exact op_xor pins s σ H x y v u Q I rx ry ⟨i, j, e1, e2, q⟩
  | mul =>
    unfold arith at e
    dsimp only at e
    split at e
    · rename_i hc
      cases e
      exact op_mulM pins s σ H x y v u Q I rx ry ⟨i, j, e1, e2, hc, q⟩
    · cases e
  | fdiv =>
    unfold arith at e
    dsimp only at e
    split at e
    · rename_i hc
      cases e
      exact op_divM pins s σ H x y v u Q I rx ry ⟨i, j, e1, e2, hc, q⟩
    · cases e
  | mod =>
    unfold arith at e
    dsimp only at e
    split at e
    · rename_i hc
      cases e
      exact op_mod pins s σ H x y v u Q I rx ry ⟨i, j, e1, e2, hc, q⟩
    · cases e
  | pow =>
    unfold arith at e
    dsimp only at e
    split at e
    · rename_i hc
      cases e
      exact op_pow pins s σ H x y v u Q I rx ry ⟨i, j, e1, e2, hc, q⟩
    · cases e
  | shl =>
    unfold arith at e
    dsimp only at e
    split at e
    · rename_i hc
      cases e
      exact op_shlM pins s σ H x y v u Q I rx ry ⟨i, j, e1, e2, hc, q⟩
    · cases e
  | shr =>
    unfold arith at e
    dsimp only at e
    split at e
    · rename_i hc
      cases e
      exact op_shr pins s σ H x y v u Q I rx ry ⟨i, j, e1, e2, hc, q⟩
    · cases e
/-- op= on ints: +, - -/
def ipo : Op → Bool
  | .add => true
  | .sub => true
  | _ => false
theorem iop_ar (o : Op) (ho : ipo o = true) : OpR X (inplaceOp (pop o)) (rAr o) := by
  intro pins s σ H x y v u Q I rx ry h
  obtain ⟨i, j, z, e1, e2, e, q⟩ := h
  cases o with
  | add => cases e; exact iop_add pins s σ H x y v u Q I rx ry ⟨i, j, e1, e2, q⟩
  | sub => cases e; exact iop_sub pins s σ H x y v u Q I rx ry ⟨i, j, e1, e2, q⟩
  | _ => cases ho
end
/-! ### two values -/
section
variable {X : Cx} {C : Ct}
def rB (C : Ct) (o : Op) : R2 := fun x y H Q => ∃ F ι S dx dy z, RH C F ι S H ∧ Fre F ι ∧ RelD C F ι dx x ∧ RelD C F ι dy y ∧ bin S o dx dy = some z ∧ Post C F ι S z Q
theorem SZ_le {n : Nat} (h : n ≤ SZ) : n ≤ sizeLine := by
  rw [sizeLine_eq]
  exact h
theorem bin_lists {S : Store} {x y z : D} (e : ((lstD S x).bind fun xs => (lstD S y).bind fun ys => szL (xs ++ ys)) = some z) : ∃ xs ys, lstD S x = some xs ∧ lstD S y = some ys ∧ xs.length + ys.length ≤ SZ ∧ z = .b (.lst (xs ++ ys)) := by
  obtain ⟨xs, e1, e⟩ := Option.bind_eq_some_iff.mp e
  obtain ⟨ys, e2, e⟩ := Option.bind_eq_some_iff.mp e
  unfold szL at e
  split at e
  · rename_i h
    rw [List.length_append] at h
    cases e
    exact ⟨xs, ys, e1, e2, h, rfl⟩
  · cases e
theorem op_bin (hK : C.K = X.K) (o : Op) : OpR X (binaryOp (pop o)) (rB C o) := by
  intro pins s σ H x y v u Q I rx ry h
  obtain ⟨F, ι, S, dx, dy, z, rh, fr, hx, hy, e, post⟩ := h
  unfold bin at e
  split at e
  · rename_i i j
    obtain ⟨k, e1, e2⟩ := Option.map_eq_some_iff.mp e
    subst e2
    exact op_ar o pins s σ H x y v u Q I rx ry ⟨i, j, k, hx, hy, e1, post.here rh fr rfl⟩
  · rename_i xs ys
    cases o <;> try (cases e; done)
    dsimp only at e
    split at e
    · rename_i hz
      cases e
      obtain ⟨a, vs, rfl, h1, h2⟩ := (show RelB C F (.tup xs) x from hx)
      obtain ⟨b, ws, rfl, h3, h4⟩ := (show RelB C F (.tup ys) y from hy)
      refine op_catA pins s σ H _ _ v u Q I rx ry ⟨a, b, vs, ws, rfl, rfl, hK ▸ sqT_mono rh.fz h1, hK ▸ sqT_mono rh.fz h3, SZ_le (by rw [← h2.length, ← h4.length]; exact hz), fun e0 => ?_, fun _ e0 => ?_, fun _ _ p hp => ?_⟩
      · have e1 : xs = [] := List.eq_nil_of_length_eq_zero (by rw [h2.length, e0] <;> rfl)
        subst e1
        exact post.here rh fr (show RelB C F (.tup ([] ++ ys)) _ from ⟨b, ws, rfl, h3, h4⟩)
      · have e1 : ys = [] := List.eq_nil_of_length_eq_zero (by rw [h4.length, e0] <;> rfl)
        subst e1
        refine post.here rh fr (show RelB C F (.tup (xs ++ [])) _ from ⟨a, vs, rfl, h1, ?_⟩)
        rw [List.append_nil]
        exact h2
      · refine post.new rh fr hp (show RelB C _ (.tup (xs ++ ys)) _ from ⟨p, vs ++ ws, rfl, .inl (.inl upd_same), ?_⟩)
        have l := (rh.newF fr (u := .tup (vs ++ ws)) hp).2.2
        exact RelBs.append (RelBs.mono l.1 _ _ h2) (RelBs.mono l.1 _ _ h4)
    · cases e
  · rename_i xs k
    cases o <;> try (cases e; done)
    dsimp only at e
    split at e
    · rename_i hz
      cases e
      obtain ⟨a, vs, rfl, h1, h2⟩ := (show RelB C F (.tup xs) x from hx)
      refine op_repT pins s σ H _ _ v u Q I rx ry ⟨a, k, vs, rfl, hy, hK ▸ sqT_mono rh.fz h1, fun e0 => hz.2.2.2 (List.eq_nil_of_length_eq_zero (by rw [h2.length, e0] <;> rfl)), hz.1, hz.2.1, by rw [← h2.length]; exact hz.2.2.1, fun p hp => ?_⟩
      refine post.new rh fr hp (show RelB C _ (.tup _) _ from ⟨p, _, rfl, .inl (.inl upd_same), ?_⟩)
      have l := (rh.newF fr (u := .tup (List.replicate k.toNat vs).flatten) hp).2.2
      exact RelBs.mono l.1 _ _ (h2.flat _)
    · cases e
  · cases o <;> try (cases e; done)
    · obtain ⟨xs, ys, e1, e2, hz, rfl⟩ := bin_lists e
      obtain ⟨a, vs, rfl, h1, h2⟩ := lstD_rel rh hx e1
      obtain ⟨b, ws, rfl, h3, h4⟩ := lstD_rel rh hy e2
      refine op_cat pins s σ H _ _ v u Q I rx ry ⟨a, b, vs, ws, rfl, rfl, h1, h3, SZ_le (by rw [← h2.length, ← h4.length]; exact hz), fun p hp => ?_⟩
      refine post.new rh fr hp (show RelB C _ (.lst (xs ++ ys)) _ from ⟨p, vs ++ ws, rfl, upd_same, ?_⟩)
      have l := (rh.newF fr (u := .lst (vs ++ ws)) hp).2.2
      exact RelBs.append (RelBs.mono l.1 _ _ h2) (RelBs.mono l.1 _ _ h4)
    · dsimp only at e
      split at e
      · rename_i k _ _ _
        obtain ⟨xs, e1, e⟩ := Option.bind_eq_some_iff.mp e
        split at e
        · rename_i hz
          cases e
          obtain ⟨a, vs, rfl, h1, h2⟩ := lstD_rel rh hx e1
          refine op_rep pins s σ H _ _ v u Q I rx ry ⟨a, k, vs, rfl, hy, h1, hz.1, hz.2.1, SZ_le (by rw [← h2.length]; exact hz.2.2), fun p hp => ?_⟩
          refine post.new rh fr hp (show RelB C _ (.lst _) _ from ⟨p, _, rfl, upd_same, ?_⟩)
          have l := (rh.newF fr (u := .lst (List.replicate k.toNat vs).flatten) hp).2.2
          exact RelBs.mono l.1 _ _ (h2.flat _)
        · cases e
      · cases e
end
end M
/-! MC4: comparisons, truth. -/
namespace M
open PySem PySem.Spec PyProof.Rows L2
/-! ### data of the library -/
mutual
def toPy (N : Nms) : B → PyData
  | .non => .none
  | .bl b => .bool b
  | .int i => .int i
  | .str n => .str (N.txts.getD n ⟨#[]⟩)
  | .tup xs => .tuple (toPys N xs)
  | .lst xs => .list (toPys N xs)
  | .scr xs => .list (toPys N xs)
  | .dic _ => .none
  | .ins _ _ => .none
def toPys (N : Nms) : List B → List PyData
  | [] => []
  | x :: xs => toPy N x :: toPys N xs
end
theorem toPys_eq (N : Nms) : ∀ xs : List B, toPys N xs = xs.map (toPy N)
  | [] => rfl
  | x :: xs => by
    rw [toPys, toPys_eq N xs]
    rfl
section
variable {C : Ct} {F H : Hp} (hs : Sub F H)
include hs
mutual
theorem toDp : ∀ (k : Nat) (x : B) (v : V), eqOk k x = true → RelB C F x v → Dp C.K H v (toPy C.N x)
  | _, .non, _, _, r => by
    cases (show _ = V.non from r)
    exact .non
  | _, .bl b, _, _, r => by
    cases (show _ = V.bl b from r)
    exact .bl b
  | _, .int i, _, _, r => by
    cases (show _ = V.int i from r)
    exact .int i
  | _, .str n, _, _, r => by
    obtain ⟨x, e, rfl⟩ := r
    show Dp C.K H (.str x) (.str (C.N.txts.getD n ⟨#[]⟩))
    rw [List.getD_eq_getElem?_getD, e]
    exact .str x
  | 0, .tup _, _, e, _ => by cases e
  | 0, .lst _, _, e, _ => by cases e
  | 0, .scr _, _, e, _ => by cases e
  | k + 1, .tup xs, _, e, r => by
    obtain ⟨a, vs, rfl, h1, h2⟩ := r
    exact .tup (sqT_mono hs h1) (toDpAll k xs vs e h2)
  | k + 1, .lst xs, _, e, r => by
    obtain ⟨a, vs, rfl, h1, h2⟩ := r
    exact .lst (.inl (.inl (hs _ _ h1))) (toDpAll k xs vs e h2)
  | k + 1, .scr xs, _, e, r => by
    obtain ⟨a, vs, rfl, h1, h2⟩ := r
    exact .lst (sqL_mono hs h1) (toDpAll k xs vs e h2)
  | 0, .dic _, _, e, _ => by cases e
  | k + 1, .dic _, _, e, _ => by cases e
  | 0, .ins _ _, _, e, _ => by cases e
  | k + 1, .ins _ _, _, e, _ => by cases e
theorem toDpAll : ∀ (k : Nat) (xs : List B) (vs : List V), xs.all (eqOk k) = true → RelBs C F xs vs → DpAll C.K H vs (toPys C.N xs)
  | _, [], _, _, r => by
    cases (show _ = [] from r)
    exact .nil
  | k, x :: xs, _, e, r => by
    obtain ⟨v, q, rfl, h1, h2⟩ := r
    have e' : (eqOk k x && xs.all (eqOk k)) = true := e
    rw [Bool.and_eq_true] at e'
    exact .cons (toDp k x v e'.1 h1) (toDpAll k xs q e'.2 h2)
end
end
section
variable {N : Nms}
mutual
theorem lay_py : ∀ (k : Nat) (x : B), eqOk k x = true → (toPy N x).canLay0 = true ∧ (toPy N x).depth ≤ k
  | _, .non, _ => ⟨rfl, Nat.zero_le _⟩
  | _, .bl b, _ => ⟨rfl, Nat.zero_le _⟩
  | _, .int i, _ => ⟨rfl, Nat.zero_le _⟩
  | _, .str n, _ => by
    refine ⟨?_, Nat.zero_le _⟩
    show PyData.strOk (N.txts.getD n ⟨#[]⟩) = true
    rw [List.getD_eq_getElem?_getD]
    cases e : N.txts[n]? with
    | none => simp [PyData.strOk]
    | some x => exact N.sok x (List.mem_of_getElem? e)
  | 0, .tup _, e => by cases e
  | 0, .lst _, e => by cases e
  | 0, .scr _, e => by cases e
  | k + 1, .tup xs, e => by
    obtain ⟨h1, h2⟩ := lay_pys k xs e
    refine ⟨h1, ?_⟩
    show PyData.depthAll _ + 1 ≤ k + 1
    omega
  | k + 1, .lst xs, e => by
    obtain ⟨h1, h2⟩ := lay_pys k xs e
    refine ⟨h1, ?_⟩
    show PyData.depthAll _ + 1 ≤ k + 1
    omega
  | k + 1, .scr xs, e => by
    obtain ⟨h1, h2⟩ := lay_pys k xs e
    refine ⟨h1, ?_⟩
    show PyData.depthAll _ + 1 ≤ k + 1
    omega
  | 0, .dic _, e => by cases e
  | k + 1, .dic _, e => by cases e
  | 0, .ins _ _, e => by cases e
  | k + 1, .ins _ _, e => by cases e
theorem lay_pys : ∀ (k : Nat) (xs : List B), xs.all (eqOk k) = true → PyData.canLayAll0 (toPys N xs) = true ∧ PyData.depthAll (toPys N xs) ≤ k
  | _, [], _ => ⟨rfl, Nat.zero_le _⟩
  | k, x :: xs, e => by
    have e' : (eqOk k x && xs.all (eqOk k)) = true := e
    rw [Bool.and_eq_true] at e'
    obtain ⟨h1, h2⟩ := lay_py k x e'.1
    obtain ⟨h3, h4⟩ := lay_pys k xs e'.2
    refine ⟨?_, ?_⟩
    · show ((toPy N x).canLay0 && PyData.canLayAll0 (toPys N xs)) = true
      rw [h1, h3]
      rfl
    · show max (toPy N x).depth (PyData.depthAll (toPys N xs)) ≤ k
      omega
end
theorem shaped_py {x : B} (e : eqOk 12 x = true) : SeqAt.shaped (toPy N x) = true := by
  obtain ⟨h1, h2⟩ := lay_py (N := N) 12 x e
  unfold SeqAt.shaped
  rw [h1]
  simp only [Bool.true_and, decide_eq_true_eq]
  omega
theorem getD_inj {n m : Nat} (hn : n < N.txts.length) (hm : m < N.txts.length) : (N.txts.getD n ⟨#[]⟩ == N.txts.getD m ⟨#[]⟩) = (n == m) := by
  rw [Bool.eq_iff_iff, beq_iff_eq, beq_iff_eq]
  constructor
  · intro h
    rw [List.getD_eq_getElem?_getD, List.getD_eq_getElem?_getD, List.getElem?_eq_getElem hn, List.getElem?_eq_getElem hm] at h
    exact (List.getElem_inj N.snd).mp h
  · intro h
    rw [h]
end
section
variable {C : Ct} {F G : Hp}
mutual
theorem eq_py : ∀ (k : Nat) (x y : B) (v w : V), eqOk k x = true → eqOk k y = true → RelB C F x v → RelB C G y w → eqB x y = PyData.eqv (toPy C.N x) (toPy C.N y)
  | k, .non, y, v, w, e1, e2, r1, r2 => by cases y <;> first | rfl | (cases k <;> cases e2)
  | k, .bl _, y, v, w, e1, e2, r1, r2 => by cases y <;> first | rfl | (cases k <;> cases e2)
  | k, .int _, y, v, w, e1, e2, r1, r2 => by cases y <;> first | rfl | (cases k <;> cases e2)
  | k, .str n, y, v, w, e1, e2, r1, r2 => by
    cases y <;> first | rfl | (cases k <;> cases e2; done) | skip
    rename_i m
    obtain ⟨x, h1, _⟩ := r1
    obtain ⟨z, h2, _⟩ := r2
    exact (getD_inj (List.getElem?_eq_some_iff.mp h1).1 (List.getElem?_eq_some_iff.mp h2).1).symm
  | 0, .tup _, _, _, _, e, _, _, _ => by cases e
  | 0, .lst _, _, _, _, e, _, _, _ => by cases e
  | 0, .scr _, _, _, _, e, _, _, _ => by cases e
  | k + 1, .tup xs, y, v, w, e1, e2, r1, r2 => by
    cases y <;> first | rfl | (cases e2; done) | skip
    obtain ⟨a, vs, _, _, h1⟩ := r1
    obtain ⟨b, ws, _, _, h2⟩ := r2
    exact eq_pys k xs _ vs ws e1 e2 h1 h2
  | k + 1, .lst xs, y, v, w, e1, e2, r1, r2 => by
    cases y <;> first | rfl | (cases e2; done) | skip
    · obtain ⟨a, vs, _, _, h1⟩ := r1
      obtain ⟨b, ws, _, _, h2⟩ := r2
      exact eq_pys k xs _ vs ws e1 e2 h1 h2
    · obtain ⟨a, vs, _, _, h1⟩ := r1
      obtain ⟨b, ws, _, _, h2⟩ := r2
      exact eq_pys k xs _ vs ws e1 e2 h1 h2
  | k + 1, .scr xs, y, v, w, e1, e2, r1, r2 => by
    cases y <;> first | rfl | (cases e2; done) | skip
    · obtain ⟨a, vs, _, _, h1⟩ := r1
      obtain ⟨b, ws, _, _, h2⟩ := r2
      exact eq_pys k xs _ vs ws e1 e2 h1 h2
    · obtain ⟨a, vs, _, _, h1⟩ := r1
      obtain ⟨b, ws, _, _, h2⟩ := r2
      exact eq_pys k xs _ vs ws e1 e2 h1 h2
  | 0, .dic _, _, _, _, e, _, _, _ => by cases e
  | k + 1, .dic _, _, _, _, e, _, _, _ => by cases e
  | 0, .ins _ _, _, _, _, e, _, _, _ => by cases e
  | k + 1, .ins _ _, _, _, _, e, _, _, _ => by cases e
theorem eq_pys : ∀ (k : Nat) (xs ys : List B) (vs ws : List V), xs.all (eqOk k) = true → ys.all (eqOk k) = true → RelBs C F xs vs → RelBs C G ys ws → eqBs xs ys = PyData.eqvAll (toPys C.N xs) (toPys C.N ys)
  | _, [], [], _, _, _, _, _, _ => rfl
  | _, [], _ :: _, _, _, _, _, _, _ => rfl
  | _, _ :: _, [], _, _, _, _, _, _ => rfl
  | k, x :: xs, y :: ys, _, _, e1, e2, r1, r2 => by
    obtain ⟨v, q, rfl, h1, h2⟩ := r1
    obtain ⟨w, q', rfl, h3, h4⟩ := r2
    have e1' : (eqOk k x && xs.all (eqOk k)) = true := e1
    have e2' : (eqOk k y && ys.all (eqOk k)) = true := e2
    rw [Bool.and_eq_true] at e1' e2'
    show (eqB x y && eqBs xs ys) = (PyData.eqv (toPy C.N x) (toPy C.N y) && PyData.eqvAll (toPys C.N xs) (toPys C.N ys))
    rw [eq_py k x y v w e1'.1 e2'.1 h1 h3, eq_pys k xs ys q q' e1'.2 e2'.2 h2 h4]
end
end
/-! ### dicts -/
section
variable {C : Ct} {F : Hp}
theorem RelK.inj {N : Nms} {k k' : Kd} {j : L2.Key} (r : RelK N k j) (r' : RelK N k' j) : k = k' := by
  cases k with
  | i n =>
    cases (show j = Sum.inl n from r)
    cases k' with
    | i m => cases (show (Sum.inl n : L2.Key) = Sum.inl m from r'); rfl
    | s m => obtain ⟨x, _, e⟩ := r'; cases e
  | s n =>
    obtain ⟨x, e, rfl⟩ := r
    cases k' with
    | i m => cases (show (Sum.inr x : L2.Key) = Sum.inl m from r')
    | s m =>
      obtain ⟨y, e', q⟩ := r'
      cases q
      have h1 := (List.getElem?_eq_some_iff.mp e)
      have h2 := (List.getElem?_eq_some_iff.mp e')
      have : n = m := (List.getElem_inj N.snd).mp (h1.2.trans h2.2.symm)
      rw [this]
theorem RelK.fn {N : Nms} {k : Kd} {j j' : L2.Key} (r : RelK N k j) (r' : RelK N k j') : j = j' := by
  cases k with
  | i n => exact (show j = _ from r).trans (show j' = _ from r').symm
  | s n =>
    obtain ⟨x, e, rfl⟩ := r
    obtain ⟨y, e', rfl⟩ := r'
    rw [e] at e'
    cases e'
    rfl
theorem RelK.dec {N : Nms} {k k' : Kd} {j j' : L2.Key} (r : RelK N k j) (r' : RelK N k' j') : decide (k = k') = decide (j = j') := by
  by_cases h : k = k'
  · subst h
    rw [decide_eq_true rfl, decide_eq_true (r.fn r')]
  · rw [decide_eq_false h, decide_eq_false fun e => h ?_]
    subst e
    exact r.inj r'
theorem keyB_rel {x : B} {k : Kd} {v : V} (e : keyB x = some k) (r : RelB C F x v) : ∃ j, RelK C.N k j ∧ v = kV j := by
  cases x <;> try (cases e; done)
  · cases e
    exact ⟨.inl _, rfl, r⟩
  · cases e
    obtain ⟨x, h, rfl⟩ := r
    exact ⟨.inr x, ⟨x, h, rfl⟩, rfl⟩
theorem kB_rel {k : Kd} {j : L2.Key} (r : RelK C.N k j) : RelB C F (kB k) (kV j) := by
  cases k with
  | i n =>
    cases (show j = Sum.inl n from r)
    rfl
  | s n =>
    obtain ⟨x, h, rfl⟩ := r
    exact ⟨x, h, rfl⟩
theorem relKp {p : Kd × B} {q : L2.Key × V} : RelKp C F p q ↔ RelK C.N p.1 q.1 ∧ RelB C F p.2 q.2 := by
  cases p
  exact Iff.rfl
def RelOb (C : Ct) (F : Hp) : Option B → Option V → Prop
  | some x, some v => RelB C F x v
  | none, none => True
  | _, _ => False
theorem dget_rel : ∀ {kvs : List (Kd × B)} {ks : List (L2.Key × V)} {k : Kd} {j : L2.Key}, RelBk C F kvs ks → RelK C.N k j → RelOb C F (dget kvs k) (valV ks j)
  | [], _, k, j, r, rk => by
    cases (show _ = [] from r)
    exact trivial
  | p :: kvs, _, k, j, r, rk => by
    obtain ⟨q, rest, rfl, hp, h3⟩ := r
    obtain ⟨h1, h2⟩ := relKp.mp hp
    have d := h1.dec rk
    by_cases h : p.1 = k
    · rw [decide_eq_true h] at d
      have hj : q.1 = j := of_decide_eq_true d.symm
      have e1 : dget (p :: kvs) k = some p.2 := by simp [dget, List.find?_cons, h]
      rw [e1, valV_pos hj]
      exact h2
    · rw [decide_eq_false h] at d
      have hj : ¬ q.1 = j := of_decide_eq_false d.symm
      have e1 : dget (p :: kvs) k = dget kvs k := by simp [dget, List.find?_cons, h]
      rw [e1, valV_neg hj]
      exact dget_rel h3 rk
theorem RelBk.length : ∀ {kvs : List (Kd × B)} {ks : List (L2.Key × V)}, RelBk C F kvs ks → kvs.length = ks.length
  | [], _, r => by
    cases (show _ = [] from r)
    rfl
  | p :: kvs, _, r => by
    obtain ⟨q, rest, rfl, _, h3⟩ := r
    rw [List.length_cons, List.length_cons, RelBk.length h3]
theorem any_rel : ∀ {kvs : List (Kd × B)} {ks : List (L2.Key × V)} {k : Kd} {j : L2.Key}, RelBk C F kvs ks → RelK C.N k j → (kvs.any fun p => decide (p.1 = k)) = ks.any fun p => decide (p.1 = j)
  | [], _, k, j, r, rk => by
    cases (show _ = [] from r)
    rfl
  | p :: kvs, _, k, j, r, rk => by
    obtain ⟨q, rest, rfl, hp, h3⟩ := r
    obtain ⟨h1, h2⟩ := relKp.mp hp
    rw [List.any_cons, List.any_cons, any_rel h3 rk, h1.dec rk]
theorem repl_rel : ∀ {kvs : List (Kd × B)} {ks : List (L2.Key × V)} {k : Kd} {j : L2.Key} {y : B} {v : V}, RelBk C F kvs ks → RelK C.N k j → RelB C F y v →
    RelBk C F (kvs.map fun p => if p.1 = k then (p.1, y) else p) (ks.map fun p => if p.1 = j then (p.1, v) else p)
  | [], _, k, j, y, v, r, rk, ry => by
    cases (show _ = [] from r)
    rfl
  | p :: kvs, _, k, j, y, v, r, rk, ry => by
    obtain ⟨q, rest, rfl, hp, h3⟩ := r
    obtain ⟨h1, h2⟩ := relKp.mp hp
    have d := h1.dec rk
    refine ⟨_, _, rfl, ?_, repl_rel h3 rk ry⟩
    by_cases h : p.1 = k
    · rw [decide_eq_true h] at d
      have hj : q.1 = j := of_decide_eq_true d.symm
      dsimp only
      rw [if_pos h, if_pos hj]
      exact relKp.mpr ⟨h1, ry⟩
    · rw [decide_eq_false h] at d
      have hj : ¬ q.1 = j := of_decide_eq_false d.symm
      dsimp only
      rw [if_neg h, if_neg hj]
      exact relKp.mpr ⟨h1, h2⟩
theorem RelBk.append : ∀ {xs ys : List (Kd × B)} {vs ws : List (L2.Key × V)}, RelBk C F xs vs → RelBk C F ys ws → RelBk C F (xs ++ ys) (vs ++ ws)
  | [], _, _, _, h, h' => by
    cases (show _ = [] from h)
    exact h'
  | x :: xs, _, _, _, h, h' => by
    obtain ⟨v, r, rfl, h1, h2⟩ := h
    exact ⟨v, _, rfl, h1, RelBk.append h2 h'⟩
theorem dput_rel {kvs : List (Kd × B)} {ks : List (L2.Key × V)} {k : Kd} {j : L2.Key} {y : B} {v : V} (r : RelBk C F kvs ks) (rk : RelK C.N k j) (ry : RelB C F y v) : RelBk C F (dput kvs k y) (putK ks j v) := by
  unfold dput putK
  rw [any_rel r rk]
  split
  · exact repl_rel r rk ry
  · exact r.append ⟨(j, v), [], rfl, relKp.mpr ⟨rk, ry⟩, rfl⟩
theorem ddrop_rel : ∀ {kvs : List (Kd × B)} {ks : List (L2.Key × V)} {k : Kd} {j : L2.Key}, RelBk C F kvs ks → RelK C.N k j → RelBk C F (ddrop kvs k) (dropK ks j)
  | [], _, k, j, r, rk => by
    cases (show _ = [] from r)
    rfl
  | p :: kvs, _, k, j, r, rk => by
    obtain ⟨q, rest, rfl, hp, h3⟩ := r
    obtain ⟨h1, h2⟩ := relKp.mp hp
    have d := h1.dec rk
    have ih := ddrop_rel h3 rk
    unfold ddrop dropK at ih ⊢
    rw [List.filter_cons, List.filter_cons]
    by_cases h : p.1 = k
    · rw [decide_eq_true h] at d
      have hj : q.1 = j := of_decide_eq_true d.symm
      rw [if_neg (by simp [h]), if_neg (by simp [hj])]
      exact ih
    · rw [decide_eq_false h] at d
      have hj : ¬ q.1 = j := of_decide_eq_false d.symm
      rw [if_pos (by simp [h]), if_pos (by simp [hj])]
      exact ⟨_, _, rfl, relKp.mpr ⟨h1, h2⟩, ih⟩
theorem dmerge_rel : ∀ {more kvs : List (Kd × B)} {ms ks : List (L2.Key × V)}, RelBk C F more ms → RelBk C F kvs ks → RelBk C F (dmerge kvs more) (mergeK ks ms)
  | [], _, _, _, r, r' => by
    cases (show _ = [] from r)
    exact r'
  | p :: more, _, _, _, r, r' => by
    obtain ⟨q, rest, rfl, hp, h3⟩ := r
    obtain ⟨h1, h2⟩ := relKp.mp hp
    show RelBk C F (dmerge (dput _ p.1 p.2) more) (mergeK (putK _ q.1 q.2) rest)
    exact dmerge_rel h3 (dput_rel r' h1 h2)
theorem keys_rel : ∀ {kvs : List (Kd × B)} {ks : List (L2.Key × V)}, RelBk C F kvs ks → RelBs C F (keysOf kvs) (ks.map fun p => kV p.1)
  | [], _, r => by
    cases (show _ = [] from r)
    rfl
  | p :: kvs, _, r => by
    obtain ⟨q, rest, rfl, hp, h3⟩ := r
    obtain ⟨h1, h2⟩ := relKp.mp hp
    exact ⟨_, _, rfl, kB_rel h1, keys_rel h3⟩
theorem vals_rel : ∀ {kvs : List (Kd × B)} {ks : List (L2.Key × V)}, RelBk C F kvs ks → RelBs C F (kvs.map (·.2)) (ks.map (·.2))
  | [], _, r => by
    cases (show _ = [] from r)
    rfl
  | p :: kvs, _, r => by
    obtain ⟨q, rest, rfl, hp, h3⟩ := r
    obtain ⟨h1, h2⟩ := relKp.mp hp
    exact ⟨_, _, rfl, h2, vals_rel h3⟩
end
/-! ### == of views -/
section
variable {X : Cx} {C : Ct} {F : Hp} {ι : List Addr} {S : Store} {H : Hp} {d : D} {v : V}
theorem view_dp (rh : RH C F ι S H) (fr : Fre F ι) {x : B} (r : RelD C F ι d v) (e : viewD S d = some x) (ok : eqOk 12 x = true) : Dp C.K H v (toPy C.N x) ∧ ∃ G w, RelB C G x w := by
  cases d with
  | b y =>
    cases e
    exact ⟨toDp rh.fz 12 x v ok r, F, v, r⟩
  | mix xs => cases e
  | ref n =>
    obtain ⟨a, ha, rfl⟩ := r
    obtain ⟨o, ho, q⟩ := rh.obj ha
    unfold viewD at e
    dsimp only at e
    rw [ho] at e
    cases o <;> try (cases e; done)
    · cases e
      obtain ⟨vs, h1, h2⟩ := q
      refine ⟨.lst (.inl (.inl h1)) (toDpAll rh.fz 11 _ _ ok h2), upd F a (.lst vs), .ref a, a, vs, rfl, upd_same, RelBs.mono (fun b o e => ?_) _ _ h2⟩
      rw [upd_ne (ne_of_none e (fr.at ha))]
      exact e
    · cases e
      cases ok
/-- the machine's comparisons -/
def pcm : Cm → CmpOp
  | .eq => .Eq
  | .ne => .NotEq
  | .lt => .Lt
  | .le => .LtE
  | .gt => .Gt
  | .ge => .GtE
  | .is => .Is
  | .isn => .IsNot
  | .inn => .In
  | .nin => .NotIn
def rC (C : Ct) (o : Cm) : R2 := fun x y H Q => ∃ F ι S dx dy z, RH C F ι S H ∧ Fre F ι ∧ RelD C F ι dx x ∧ RelD C F ι dy y ∧ cmp S o dx dy = some z ∧ Q (.bl z) H
theorem RelBk.len : ∀ {xs : List (Kd × B)} {ks : List (L2.Key × V)}, RelBk C F xs ks → xs.length = ks.length
  | [], _, r => by
    cases (show _ = [] from r)
    rfl
  | p :: xs, _, r => by
    obtain ⟨q, rest, rfl, _, h3⟩ := r
    rw [List.length_cons, List.length_cons, RelBk.len h3]
theorem eqD_dp (rh : RH C F ι S H) (fr : Fre F ι) {dx dy : D} {x y : V} {z : Bool} (rx : RelD C F ι dx x) (ry : RelD C F ι dy y) (e : eqD S dx dy = some z) :
    (∃ a b, Dp C.K H x a ∧ Dp C.K H y b ∧ SeqAt.shaped a = true ∧ SeqAt.shaped b = true ∧ z = PyData.eqv a b) ∨
    ∃ (a b : Addr) (xs ys : List (Kd × B)) (ks ls : List (L2.Key × V)), x = .ref a ∧ y = .ref b ∧ Rd H a (.dK ks) ∧ Rd H b (.dK ls) ∧ RelBk C F xs ks ∧ RelBk C F ys ls ∧ dfree xs = true ∧ dfree ys = true ∧ z = (xs.length == ys.length && eqKs xs ys) := by
  unfold eqD at e
  obtain ⟨a, e1, e⟩ := Option.bind_eq_some_iff.mp e
  obtain ⟨b, e2, e⟩ := Option.bind_eq_some_iff.mp e
  split at e
  · rename_i h
    rw [Bool.and_eq_true] at h
    cases e
    obtain ⟨h1, G, w, h2⟩ := view_dp rh fr rx e1 h.1
    obtain ⟨h3, G', w', h4⟩ := view_dp rh fr ry e2 h.2
    exact .inl ⟨_, _, h1, h3, shaped_py h.1, shaped_py h.2, eq_py 12 a b w w' h.1 h.2 h2 h4⟩
  · unfold eqX at e
    split at e
    · rename_i xs ys _ _
      split at e
      · rename_i h
        rw [Bool.and_eq_true] at h
        cases e
        have vd : ∀ {d : D} {kvs : List (Kd × B)}, viewD S d = some (.dic kvs) → dicD S d = some kvs := fun {d kvs} v => by
          cases d with
          | b x => cases v; rfl
          | mix x => cases v
          | ref n =>
            unfold viewD at v
            unfold dicD
            dsimp only at v ⊢
            cases hS : S[n]? with
            | none => rw [hS] at v; cases v
            | some o =>
              rw [hS] at v
              cases o <;> cases v
              rfl
        obtain ⟨a, ks, rfl, h1, h2⟩ := dicD_rel rh rx (vd e1)
        obtain ⟨b, ls, rfl, h3, h4⟩ := dicD_rel rh ry (vd e2)
        exact .inr ⟨a, b, xs, ys, ks, ls, rfl, rfl, h1, h3, h2, h4, h.1, h.2, rfl⟩
      · cases e
    · cases e
theorem keq_hits {X : Cx} {pins : List (Addr × Obj)} {σ : L2.St} {s : Shared} {A : Around} (hK : C.K = X.K) (I : Inv X pins σ H s) (hs : Sub F H) (hu : A.in1.units + 64 < cLine) {ys : List (Kd × B)} {ls : List (L2.Key × V)} {vb : List (L2.Key × Value)} (rb : KV ls vb) (r2 : RelBk C F ys ls) (ok2 : dfree ys = true) :
    ∀ {xs : List (Kd × B)} {ks : List (L2.Key × V)} {va : List (L2.Key × Value)}, RelBk C F xs ks → dfree xs = true → KV ks va → PySem.W.KeqHits A.in1 s vb va (eqKs xs ys)
  | [], ks, va, r, _, ra => by
    cases (show ks = [] from r)
    unfold KV at ra
    cases ra
    exact .nil
  | p :: xs, ks, va, r, ok, ra => by
    obtain ⟨q, rest, rfl, hp, h3⟩ := r
    obtain ⟨hk, hv⟩ := relKp.mp hp
    unfold KV at ra
    cases ra with
    | cons hq hr =>
    rename_i kv va'
    obtain ⟨k', u⟩ := kv
    obtain ⟨hk1, hv1⟩ := hq
    have hk1' : q.1 = k' := hk1
    have ok' : (eqOk 12 p.2 && dfree xs) = true := ok
    rw [Bool.and_eq_true] at ok'
    have ih := keq_hits hK I hs hu rb r2 ok2 h3 ok'.2 hr
    have g := dget_rel r2 hk
    have gv := rb.val q.1
    show PySem.W.KeqHits A.in1 s vb ((k', u) :: va') (eqKp p ys && eqKs xs ys)
    have ekp : eqKp p ys = (match dget ys p.1 with
      | some y => eqB p.2 y
      | none => false) := by cases p; rfl
    rw [ekp]
    cases hd : dget ys p.1 with
    | none =>
      rw [hd] at g
      cases hw : valV ls q.1 with
      | none =>
        rw [hw] at gv
        cases hz : valueAt vb q.1 with
        | none =>
          rw [hk1'] at hz
          exact .miss hz
        | some z => rw [hz] at gv; exact gv.elim
      | some w => rw [hw] at g; exact g.elim
    | some y =>
      rw [hd] at g
      cases hw : valV ls q.1 with
      | none => rw [hw] at g; exact g.elim
      | some w =>
        rw [hw] at g gv
        obtain ⟨z, hz, rz⟩ := gv.some_of
        rw [hk1'] at hz
        have oky : eqOk 12 y = true := by
          unfold dget at hd
          obtain ⟨pr, hf, he⟩ := Option.map_eq_some_iff.mp hd
          rw [← he]
          exact List.all_eq_true.mp ok2 pr (List.mem_of_find?_eq_some hf)
        have d1 := hK ▸ toDp hs 12 p.2 q.2 ok'.1 hv
        have d2 := hK ▸ toDp hs 12 y w oky g
        obtain ⟨as, rd1⟩ := Dp.reads I _ _ _ d1 hv1
        obtain ⟨bs, rd2⟩ := Dp.reads I _ _ _ d2 rz
        refine .hit hz ?_ ih
        show SeqAt.EqAt A.in1 s u z (eqB p.2 y)
        rw [eq_py 12 p.2 y q.2 w ok'.1 oky hv g]
        exact PySem.W.keq_at rd1 rd2 (shaped_py ok'.1) (shaped_py oky) hu
theorem eqTe_in {X : Cx} {pins : List (Addr × Obj)} {σ : L2.St} {s : Shared} {A : Around} (hK : C.K = X.K) (I : Inv X pins σ H s) (hs : Sub F H) (hu : A.units + 66 < cLine) {x y : B} {v w : V} {u z : Value} {e : Bool} (r1 : RelB C F x v) (r2 : RelB C F y w) (q1 : L2.RelV v u) (q2 : L2.RelV w z) (h : eqTe x y = some e) : SeqAt.EqIn X.prog X.w A.in1 s u z e := by
  unfold eqTe at h
  split at h
  · rename_i ok
    rw [Bool.and_eq_true] at ok
    cases h
    have d1 := hK ▸ toDp hs 12 x v ok.1 r1
    have d2 := hK ▸ toDp hs 12 y w ok.2 r2
    obtain ⟨as, rd1⟩ := Dp.reads I _ _ _ d1 q1
    obtain ⟨bs, rd2⟩ := Dp.reads I _ _ _ d2 q2
    rw [eq_py 12 x y v w ok.1 ok.2 r1 r2]
    exact (PySem.W.keq_at rd1 rd2 (shaped_py ok.1) (shaped_py ok.2) (by show A.units + 1 + 64 < cLine; omega)).inModel _ _
  · split at h
    · rename_i hx
      cases h
      unfold eqX at hx
      split at hx
      · rename_i xs ys _
        split at hx
        · rename_i ok
          rw [Bool.and_eq_true] at ok
          have hx := Option.some.inj hx
          obtain ⟨a, o1, ks, rfl, f1, k1⟩ := r1
          obtain ⟨b, o2, ls, rfl, f2, k2⟩ := r2
          cases (show u = Value.ref a from q1)
          cases (show z = Value.ref b from q2)
          by_cases hab : a = b
          · subst hab
            exact (SeqAt.EqAt.same _).inModel _ _
          · refine SeqAt.EqIn.of_refs hab fun E Q hq => ?_
            obtain ⟨_, sa, va, ka, da⟩ := dk_rd I.hok (.inr ⟨o1, hs _ _ f1⟩)
            obtain ⟨_, sb, vb, kb, db⟩ := dk_rd I.hok (.inr ⟨o2, hs _ _ f2⟩)
            have la : xs.length = va.length := (RelBk.len k1).trans (Paired.length ka)
            have lb : ys.length = vb.length := (RelBk.len k2).trans (Paired.length kb)
            rw [la, lb] at hx
            refine PySem.W.keq_eq (knd := mixKind X.prog X.w) (A := A.in1) sa sb da db (by show A.units + 1 < cLine; omega) (fun _ => keq_hits hK I hs (A := A.in1) (by show A.units + 1 + 1 + 64 < cLine; omega) kb k2 ok.2 k1 ok.1 ka) ?_
            rw [hx]
            exact hq
        · cases hx
      · cases hx
    · cases h
theorem eqTs_get : ∀ {xs ys : List B} {es : List Bool}, eqTs xs ys = some es → es.length = min xs.length ys.length ∧ ∀ (j : Nat) x y, xs[j]? = some x → ys[j]? = some y → ∃ e, es[j]? = some e ∧ eqTe x y = some e
  | [], ys, es, h => by
    cases h
    exact ⟨by simp, fun j x y h => by simp at h⟩
  | _ :: _, [], es, h => by
    cases h
    exact ⟨by simp, fun j x y _ h => by simp at h⟩
  | x :: xs, y :: ys, es, h => by
    unfold eqTs at h
    obtain ⟨e, h1, h⟩ := Option.bind_eq_some_iff.mp h
    obtain ⟨es', h2, rfl⟩ := Option.map_eq_some_iff.mp h
    obtain ⟨l, g⟩ := eqTs_get h2
    refine ⟨by simp [l], fun j x' y' hx hy => ?_⟩
    cases j with
    | zero =>
      cases hx
      cases hy
      exact ⟨e, rfl, h1⟩
    | succ j => exact g j x' y' (by simpa using hx) (by simpa using hy)
theorem int2_rel {f : Int → Int → Bool} {dx dy : D} {x y : V} {z : Bool} (rx : RelD C F ι dx x) (ry : RelD C F ι dy y) (e : int2 f dx dy = some z) : ∃ i j, x = .int i ∧ y = .int j ∧ z = f i j := by
  unfold int2 at e
  split at e
  · cases e
    exact ⟨_, _, rx, ry, rfl⟩
  · cases e
theorem isD_rel {dx dy : D} {x y : V} {z : Bool} (rx : RelD C F ι dx x) (ry : RelD C F ι dy y) (e : isD dx dy = some z) : (y = .non ∧ z = decide (x = .non)) ∨ ∃ a b, x = .bl a ∧ y = .bl b ∧ z = decide (a = b) := by
  unfold isD at e
  split at e
  · cases e
    refine .inl ⟨ry, ?_⟩
    unfold isNon
    split
    · rw [show x = .non from rx]
      simp
    · rename_i h
      symm
      refine decide_eq_false fun z => ?_
      subst z
      cases dx with
      | ref n => obtain ⟨a, _, q⟩ := rx; cases q
      | mix xs => obtain ⟨a, _, q, _⟩ := rx; cases q
      | b w =>
        cases w with
        | non => exact h rfl
        | bl b => cases (show V.non = V.bl b from rx)
        | int b => cases (show V.non = V.int b from rx)
        | str n => obtain ⟨a, _, q⟩ := rx; cases q
        | tup n => obtain ⟨a, _, q, _⟩ := rx; cases q
        | lst n => obtain ⟨a, _, q, _⟩ := rx; cases q
        | scr n => obtain ⟨a, _, q, _⟩ := rx; cases q
        | dic n => obtain ⟨a, _, _, q, _⟩ := rx; cases q
        | ins n m => obtain ⟨a, _, _, _, q, _⟩ := rx; cases q
  · split at e
    · rename_i c _ a
      cases e
      refine .inr ⟨a, c, rx, ry, ?_⟩
      cases a <;> cases c <;> rfl
    · cases e
  · cases e
theorem any_py {a : B} {w : V} {G : Hp} (ha : eqOk 12 a = true) (hr : RelB C G a w) : ∀ (ys : List B) (vs : List V), ys.all (eqOk 12) = true → RelBs C F ys vs → (ys.any fun z => eqB z a) = (toPys C.N ys).any fun z => PyData.eqv z (toPy C.N a)
  | [], _, _, _ => rfl
  | y :: ys, _, e, r => by
    obtain ⟨v, q, rfl, h5, h6⟩ := r
    have e' : (eqOk 12 y && ys.all (eqOk 12)) = true := e
    rw [Bool.and_eq_true] at e'
    show ((y :: ys).any fun z => eqB z a) = (toPy C.N y :: toPys C.N ys).any fun z => PyData.eqv z (toPy C.N a)
    rw [List.any_cons, List.any_cons, any_py ha hr ys q e'.2 h6, eq_py 12 y a v w e'.1 ha h5 hr]
theorem inD_rel (rh : RH C F ι S H) (fr : Fre F ι) {dx dy : D} {x y : V} {z : Bool} (rx : RelD C F ι dx x) (ry : RelD C F ι dy y) (e : inD S dx dy = some z) :
    (∃ a o, y = .ref a ∧ DGet H a x o ∧ z = o.isSome) ∨ ∃ d ds, Dp C.K H x d ∧ (Dp C.K H y (.list ds) ∨ Dp C.K H y (.tuple ds)) ∧ SeqAt.shaped d = true ∧ PyData.canLayAll0 ds = true ∧ z = ds.any fun w => PyData.eqv w d := by
  unfold inD at e
  split at e
  · rename_i kvs hd
    obtain ⟨k, e1, e2⟩ := Option.map_eq_some_iff.mp e
    obtain ⟨a, ks, rfl, h1, h2⟩ := dicD_rel rh ry hd
    cases dx with
    | b w =>
      obtain ⟨j, rk, rfl⟩ := keyB_rel (C := C) (F := F) e1 rx
      have q := dget_rel h2 rk
      refine .inl ⟨a, valV ks j, rfl, .inl ⟨ks, j, h1, rfl, rfl⟩, ?_⟩
      rw [← e2]
      cases h3 : dget kvs k <;> cases h4 : valV ks j <;> rw [h3, h4] at q <;> first | rfl | exact q.elim
    | ref n => cases e1
    | mix n => cases e1
  · obtain ⟨a, e1, e⟩ := Option.bind_eq_some_iff.mp e
    obtain ⟨ys, e2, e⟩ := Option.bind_eq_some_iff.mp e
    split at e
    · rename_i h
      rw [Bool.and_eq_true] at h
      cases e
      obtain ⟨h1, G, w, h2⟩ := view_dp rh fr rx e1 h.1
      obtain ⟨b, vs, rfl, h3, h4⟩ := seqD_rel rh ry e2
      refine .inr ⟨_, toPys C.N ys, h1, ?_, shaped_py h.1, (lay_pys 12 ys h.2).1, ?_⟩
      · have q := toDpAll rh.fz 12 ys vs h.2 h4
        exact h3.elim (fun z => .inl (.lst z q)) (fun z => .inr (.tup z q))
      · exact any_py h.1 h2 ys vs h.2 h4
    · cases e
/-! tuples that differ, with dicts in them -/
section
open AutoSeq1 (wpAny_loadPart')
open MeetsSeq MeetsSeq2 MeetsSeq3 SeqRoads2
open PySem.SeqAt (EqIn)
theorem tuple_neIn {prog : Program} {w : World} (l b : Addr) (xs ys : Array Value) (n n2 : Nat) (dd dd2 : Option Addr) (sl sl2 : Array (Option Value)) (e : Nat → Bool) :
    MeetsIn prog w (Builtin.«tuple.__ne__» ⟨[.ref l, .ref b], []⟩)
      (fun A R s => s.heap.get? l = some { cls := .type "tuple", dict := dd, data := .seq xs n, slots := sl } ∧ s.heap.get? b = some { cls := .type "tuple", dict := dd2, data := .seq ys n2, slots := sl2 } ∧
        (∀ j (h1 : j < xs.size) (h2 : j < ys.size), EqIn prog w A.in1 s xs[j] ys[j] (e j)) ∧
        R (.ok (.ret (.bool (!((List.range (min xs.size ys.size)).all e && xs.size == ys.size))))) s) :=
  .of_wp fun A R s h => by
    obtain ⟨hp, g, d, tk, os⟩ := s
    obtain ⟨hl, hb, he, h⟩ := h
    have sub := AutoSeq1.sub_tuple_tuple
    have hZ : (xs.toList.zip ys.toList).length = min xs.size ys.size := by simp
    wp_walk using wpAny_loadPart' hl, wpAny_loadPart' hb, wpAny_forIn_list _ (fun rest b s' => b.1 = none ∧ s' = ⟨hp, g, d, tk, os⟩ ∧ ∃ i, rest = (xs.toList.zip ys.toList).drop i ∧
      R (.ok (.ret (.bool (!(((List.range (min xs.size ys.size)).drop i).all e && xs.size == ys.size))))) ⟨hp, g, d, tk, os⟩) _
    case turn =>
      rintro ⟨y, x⟩ rest b s' ⟨hb', rfl, i, hz, hR⟩
      have hlt : i < (xs.toList.zip ys.toList).length := by
        rcases Nat.lt_or_ge i (xs.toList.zip ys.toList).length with h' | h'
        · exact h'
        · rw [List.drop_of_length_le h'] at hz
          cases hz
      have hm : i < min xs.size ys.size := hZ ▸ hlt
      have h1 : i < xs.size := Nat.lt_of_lt_of_le hm (Nat.min_le_left _ _)
      have h2 : i < ys.size := Nat.lt_of_lt_of_le hm (Nat.min_le_right _ _)
      rw [List.drop_eq_getElem_cons hlt] at hz
      injection hz with hyx hrest
      have hy : y = xs[i] := by
        have := congrArg Prod.fst hyx
        simpa using this
      have hx : x = ys[i] := by
        have := congrArg Prod.snd hyx
        simpa using this
      subst hy hx
      have hd : (List.range (min xs.size ys.size)).drop i = i :: (List.range (min xs.size ys.size)).drop (i + 1) := by simp [List.drop_eq_getElem_cons, hm]
      rw [hd, List.all_cons] at hR
      refine wpAny_bind (he i h1 h2 _ _ ?_)
      cases hy : e i with
      | true =>
        rw [hy] at hR
        wp_walk
        exact ⟨rfl, rfl, i + 1, hrest, by simpa using hR⟩
      | false =>
        rw [hy] at hR
        wp_walk
        exact ⟨_, rfl, by simpa using hR⟩
    case fin =>
      rintro ⟨b1, b2⟩ s' ⟨hb', rfl, i, hz, hR⟩
      simp only at hb'
      subst hb'
      have hge : min xs.size ys.size ≤ i := by
        rcases Nat.lt_or_ge i (xs.toList.zip ys.toList).length with h' | h'
        · rw [List.drop_eq_getElem_cons h'] at hz
          cases hz
        · exact hZ ▸ h'
      rw [List.drop_of_length_le (by simpa using hge)] at hR
      wp_walk
      exact ⟨_, rfl, by simpa [Builtin.Tuple.tupleCompareSizes, bne] using hR⟩
    case h =>
      exact ⟨rfl, rfl, 0, rfl, by simpa using h⟩
theorem rcIn_netuples {prog : Program} {w : World} {A : Around} {s : Shared} {E : Value → Shared → Prop} {l b : Addr} {xs ys : Array Value} {e : Nat → Bool} {Q : Value → Shared → Prop} (hl : s.heap.IsTuple l xs) (hb : s.heap.IsTuple b ys) (hu : A.units < cLine)
    (he : ∀ j (h1 : j < xs.size) (h2 : j < ys.size), EqIn prog w A.in1 s xs[j] ys[j] (e j)) (h : Q (.bool (!((List.range (min xs.size ys.size)).all e && xs.size == ys.size))) s) :
    wpAny (model prog w) A (richCompare .NotEq (.ref l) (.ref b)) Q E s := by
  obtain ⟨⟨cls, dd, data, sl⟩, ho, hc, n, hd⟩ := id hl
  obtain ⟨⟨cls2, dd2, data2, sl2⟩, ho2, hc2, n2, hd2⟩ := id hb
  simp only at hc hd hc2 hd2
  subst hc hd hc2 hd2
  exact wpAny_richCompare_same_room (T := "tuple") (op := .NotEq) ⟨_, ho, rfl⟩ ⟨_, ho2, rfl⟩ F.slot_tuple_ne (call_meetsIn F.slot_tuple_ne ⟨_, ho, rfl⟩ F.entry_tuple_ne (F.args_tuple_ne_2 _ _) (tuple_neIn l b xs ys n n2 dd dd2 sl sl2 e)
    ⟨ho, ho2, he, show Value.bool (!((List.range (min xs.size ys.size)).all e && xs.size == ys.size)) ≠ Value.notImplemented ∧ Q (.bool (!((List.range (min xs.size ys.size)).all e && xs.size == ys.size))) s from ⟨(fun x => nomatch x), h⟩⟩) hu
end
theorem op_cmpM (hK : C.K = X.K) (hu : X.A.units + 66 < cLine) (o : Cm) : OpR X (compareOp (pcm o)) (rC C o) := by
  intro pins s σ H x y v u Q I rx ry h
  obtain ⟨F, ι, S, dx, dy, z, rh, fr, hx, hy, e, q⟩ := h
  cases o with
  | eq =>
    have e0 : (eqD S dx dy).or (eqT dx dy) = some z := e
    cases hd : eqD S dx dy with
    | none =>
      rw [hd] at e0
      have e0 : eqT dx dy = some z := e0
      unfold eqT at e0
      split at e0
      · rename_i xs ys _
        obtain ⟨es, he, rfl⟩ := Option.map_eq_some_iff.mp e0
        obtain ⟨a, vs, rfl, h1, h2⟩ := hx
        obtain ⟨b, ws, rfl, h3, h4⟩ := hy
        cases (show v = Value.ref a from rx)
        cases (show u = Value.ref b from ry)
        obtain ⟨i1, r1, p1, _⟩ := I.tuple (hK ▸ sqT_mono rh.fz h1)
        obtain ⟨i2, r2, p2, _⟩ := I.tuple (hK ▸ sqT_mono rh.fz h3)
        obtain ⟨hl, hg⟩ := eqTs_get he
        have n1 : xs.length = i1.length := h2.length.trans r1.length
        have n2 : ys.length = i2.length := h4.length.trans r2.length
        refine SeqAt.rcIn_tuples (e := fun j => es.getD j true) p1 p2 (by omega) (fun j j1 j2 => ?_) ?_
        · have j1' : j < xs.length := by rw [n1]; simpa using j1
          have j2' : j < ys.length := by rw [n2]; simpa using j2
          obtain ⟨e', g1, g2⟩ := hg j _ _ (List.getElem?_eq_getElem j1') (List.getElem?_eq_getElem j2')
          obtain ⟨v', hv', rv'⟩ := h2.get (List.getElem?_eq_getElem j1')
          obtain ⟨w', hw', rw'⟩ := h4.get (List.getElem?_eq_getElem j2')
          obtain ⟨u1, hu1, ru1⟩ := r1.get hv'
          obtain ⟨u2, hu2, ru2⟩ := r2.get hw'
          have := eqTe_in (A := X.A) hK I rh.fz (by omega) rv' rw' ru1 ru2 g2
          have e1 : i1.toArray[j] = u1 := by
            have := (List.getElem?_eq_some_iff.mp hu1).2
            simpa using this
          have e2 : i2.toArray[j] = u2 := by
            have := (List.getElem?_eq_some_iff.mp hu2).2
            simpa using this
          rw [e1, e2, List.getD_eq_getElem?_getD, g1]
          exact this
        · have e3 : ((List.range (min i1.toArray.size i2.toArray.size)).all fun j => es.getD j true) = es.all id := by
            have : min i1.toArray.size i2.toArray.size = es.length := by rw [hl, n1, n2]; simp
            rw [this]
            have e4 : es = (List.range es.length).map fun j => es.getD j true := by
              refine List.ext_getElem? fun j => ?_
              rw [List.getElem?_map]
              by_cases hj : j < es.length
              · rw [List.getElem?_range hj, List.getElem?_eq_getElem hj]
                simp [hj]
              · rw [List.getElem?_eq_none (by omega), List.getElem?_eq_none (by rw [List.length_range]; omega)]
                rfl
            conv => rhs; rw [e4, List.all_map]
            rfl
          have e5 : (i1.toArray.size == i2.toArray.size) = (xs.length == ys.length) := by rw [n1, n2]; simp
          rw [e3, e5]
          exact ⟨.bl _, H, I, rfl, q⟩
      · cases e0
    | some z' =>
    rw [hd] at e0
    cases e0
    have e := hd
    rcases eqD_dp rh fr hx hy e with ⟨a, b, h1, h2, h3, h4, rfl⟩ | ⟨a, b, xs, ys, ks, ls, rfl, rfl, h1, h2, h3, h4, h5, h6, rfl⟩
    · exact op_eqD (by omega) pins s σ H x y v u Q I rx ry ⟨a, b, hK ▸ h1, hK ▸ h2, h3, h4, q⟩
    · cases (show v = Value.ref a from rx)
      cases (show u = Value.ref b from ry)
      obtain ⟨_, sa, va, ka, da⟩ := dk_rd I.hok h1
      obtain ⟨_, sb, vb, kb, db⟩ := dk_rd I.hok h2
      have la : xs.length = va.length := (RelBk.len h3).trans (Paired.length ka)
      have lb : ys.length = vb.length := (RelBk.len h4).trans (Paired.length kb)
      rw [la, lb] at q
      exact PySem.W.keq_eq (knd := mixKind X.prog X.w) sa sb da db (by omega) (fun _ => keq_hits hK I rh.fz (by show X.A.units + 1 + 64 < cLine; omega) kb h4 h6 h3 h5 ka) ⟨.bl _, H, I, rfl, q⟩
  | ne =>
    obtain ⟨z', e0, rfl⟩ := Option.map_eq_some_iff.mp e
    cases hd : eqD S dx dy with
    | none =>
      rw [hd] at e0
      have e0 : eqT dx dy = some z' := e0
      unfold eqT at e0
      split at e0
      · rename_i xs ys _
        obtain ⟨es, he, rfl⟩ := Option.map_eq_some_iff.mp e0
        obtain ⟨a, vs, rfl, h1, h2⟩ := hx
        obtain ⟨b, ws, rfl, h3, h4⟩ := hy
        cases (show v = Value.ref a from rx)
        cases (show u = Value.ref b from ry)
        obtain ⟨i1, r1, p1, _⟩ := I.tuple (hK ▸ sqT_mono rh.fz h1)
        obtain ⟨i2, r2, p2, _⟩ := I.tuple (hK ▸ sqT_mono rh.fz h3)
        obtain ⟨hl, hg⟩ := eqTs_get he
        have n1 : xs.length = i1.length := h2.length.trans r1.length
        have n2 : ys.length = i2.length := h4.length.trans r2.length
        refine rcIn_netuples (e := fun j => es.getD j true) p1 p2 (by omega) (fun j j1 j2 => ?_) ?_
        · have j1' : j < xs.length := by rw [n1]; simpa using j1
          have j2' : j < ys.length := by rw [n2]; simpa using j2
          obtain ⟨e', g1, g2⟩ := hg j _ _ (List.getElem?_eq_getElem j1') (List.getElem?_eq_getElem j2')
          obtain ⟨v', hv', rv'⟩ := h2.get (List.getElem?_eq_getElem j1')
          obtain ⟨w', hw', rw'⟩ := h4.get (List.getElem?_eq_getElem j2')
          obtain ⟨u1, hu1, ru1⟩ := r1.get hv'
          obtain ⟨u2, hu2, ru2⟩ := r2.get hw'
          have := eqTe_in (A := X.A) hK I rh.fz (by omega) rv' rw' ru1 ru2 g2
          have e1 : i1.toArray[j] = u1 := by
            have := (List.getElem?_eq_some_iff.mp hu1).2
            simpa using this
          have e2 : i2.toArray[j] = u2 := by
            have := (List.getElem?_eq_some_iff.mp hu2).2
            simpa using this
          rw [e1, e2, List.getD_eq_getElem?_getD, g1]
          exact this
        · have e3 : ((List.range (min i1.toArray.size i2.toArray.size)).all fun j => es.getD j true) = es.all id := by
            have : min i1.toArray.size i2.toArray.size = es.length := by rw [hl, n1, n2]; simp
            rw [this]
            have e4 : es = (List.range es.length).map fun j => es.getD j true := by
              refine List.ext_getElem? fun j => ?_
              rw [List.getElem?_map]
              by_cases hj : j < es.length
              · rw [List.getElem?_range hj, List.getElem?_eq_getElem hj]
                simp [hj]
              · rw [List.getElem?_eq_none (by omega), List.getElem?_eq_none (by rw [List.length_range]; omega)]
                rfl
            conv => rhs; rw [e4, List.all_map]
            rfl
          have e5 : (i1.toArray.size == i2.toArray.size) = (xs.length == ys.length) := by rw [n1, n2]; simp
          rw [e3, e5]
          exact ⟨.bl _, H, I, rfl, q⟩
      · cases e0
    | some z2 =>
    rw [hd] at e0
    cases e0
    have e1 := hd
    rcases eqD_dp rh fr hx hy e1 with ⟨a, b, h1, h2, h3, h4, rfl⟩ | ⟨a, b, xs, ys, ks, ls, rfl, rfl, h1, h2, h3, h4, h5, h6, rfl⟩
    · exact op_neD (by omega) pins s σ H x y v u Q I rx ry ⟨a, b, hK ▸ h1, hK ▸ h2, h3, h4, q⟩
    · cases (show v = Value.ref a from rx)
      cases (show u = Value.ref b from ry)
      obtain ⟨_, sa, va, ka, da⟩ := dk_rd I.hok h1
      obtain ⟨_, sb, vb, kb, db⟩ := dk_rd I.hok h2
      have la : xs.length = va.length := (RelBk.len h3).trans (Paired.length ka)
      have lb : ys.length = vb.length := (RelBk.len h4).trans (Paired.length kb)
      rw [la, lb] at q
      exact PySem.W.keq_ne (knd := mixKind X.prog X.w) sa sb da db (by omega) (fun _ => keq_hits hK I rh.fz (by show X.A.units + 1 + 64 < cLine; omega) kb h4 h6 h3 h5 ka) ⟨.bl _, H, I, rfl, q⟩
  | lt =>
    obtain ⟨i, j, rfl, rfl, rfl⟩ := int2_rel hx hy e
    exact op_lt pins s σ H _ _ v u Q I rx ry ⟨i, j, rfl, rfl, q⟩
  | le =>
    obtain ⟨i, j, rfl, rfl, rfl⟩ := int2_rel hx hy e
    exact op_le pins s σ H _ _ v u Q I rx ry ⟨i, j, rfl, rfl, q⟩
  | gt =>
    obtain ⟨i, j, rfl, rfl, rfl⟩ := int2_rel hx hy e
    exact op_gt pins s σ H _ _ v u Q I rx ry ⟨i, j, rfl, rfl, q⟩
  | ge =>
    obtain ⟨i, j, rfl, rfl, rfl⟩ := int2_rel hx hy e
    exact op_ge pins s σ H _ _ v u Q I rx ry ⟨i, j, rfl, rfl, q⟩
  | is =>
    rcases isD_rel hx hy e with ⟨rfl, rfl⟩ | ⟨a, b, rfl, rfl, rfl⟩
    · exact op_isN pins s σ H x _ v u Q I rx ry ⟨rfl, q⟩
    · exact op_is_bl pins s σ H _ _ v u Q I rx ry ⟨a, b, rfl, rfl, q⟩
  | isn =>
    obtain ⟨z', e1, rfl⟩ := Option.map_eq_some_iff.mp e
    rcases isD_rel hx hy e1 with ⟨rfl, rfl⟩ | ⟨a, b, rfl, rfl, rfl⟩
    · exact op_notN pins s σ H x _ v u Q I rx ry ⟨rfl, q⟩
    · exact op_isnot_bl pins s σ H _ _ v u Q I rx ry ⟨a, b, rfl, rfl, q⟩
  | inn =>
    rcases inD_rel rh fr hx hy e with ⟨a, o, rfl, h1, rfl⟩ | ⟨d, ds, h1, h2, h3, h4, rfl⟩
    · cases (show u = Value.ref a from ry)
      exact d_in (by omega) I h1 rx fun s' I' => ⟨.bl _, H, I', rfl, q⟩
    · obtain ⟨as, r1⟩ := Dp.reads I d x v (hK ▸ h1) rx
      rcases h2 with h2 | h2
      · obtain ⟨bs, r2⟩ := Dp.reads I (.list ds) y u (hK ▸ h2) ry
        exact SeqAt.in_list_reads r2 r1 h4 (SeqAt.canLay_of_shaped h3) (room_in_shaped h3 (Nat.lt_of_succ_lt hu)) ⟨.bl _, H, I, rfl, q⟩
      · obtain ⟨bs, r2⟩ := Dp.reads I (.tuple ds) y u (hK ▸ h2) ry
        exact SeqAt.in_tuple_reads r2 r1 h4 (SeqAt.canLay_of_shaped h3) (room_in_shaped h3 (Nat.lt_of_succ_lt hu)) ⟨.bl _, H, I, rfl, q⟩
  | nin =>
    obtain ⟨z', e1, rfl⟩ := Option.map_eq_some_iff.mp e
    rcases inD_rel rh fr hx hy e1 with ⟨a, o, rfl, h1, rfl⟩ | ⟨d, ds, h1, h2, h3, h4, rfl⟩
    · cases (show u = Value.ref a from ry)
      exact d_notIn (by omega) I h1 rx fun s' I' => ⟨.bl _, H, I', rfl, q⟩
    · obtain ⟨as, r1⟩ := Dp.reads I d x v (hK ▸ h1) rx
      rcases h2 with h2 | h2
      · obtain ⟨bs, r2⟩ := Dp.reads I (.list ds) y u (hK ▸ h2) ry
        exact SeqAt.notIn_list_reads r2 r1 h4 (SeqAt.canLay_of_shaped h3) (room_in_shaped h3 (Nat.lt_of_succ_lt hu)) ⟨.bl _, H, I, rfl, q⟩
      · obtain ⟨bs, r2⟩ := Dp.reads I (.tuple ds) y u (hK ▸ h2) ry
        exact SeqAt.notIn_tuple_reads r2 r1 h4 (SeqAt.canLay_of_shaped h3) (room_in_shaped h3 (Nat.lt_of_succ_lt hu)) ⟨.bl _, H, I, rfl, q⟩
/-! ### truth -/
def rT (C : Ct) : V → Hp → (Bool → Hp → Prop) → Prop := fun x H Q => ∃ F ι S d z, RH C F ι S H ∧ RelD C F ι d x ∧ truth S d = some z ∧ Q z H
theorem RelBs.emp {xs : List B} {vs : List V} (r : RelBs C F xs vs) : xs.isEmpty = vs.isEmpty := by
  have := r.length
  cases xs <;> cases vs <;> first | rfl | (simp at this)
theorem RelDs.emp {xs : List D} {vs : List V} (r : RelDs C F ι xs vs) : xs.isEmpty = vs.isEmpty := by
  have := r.length
  cases xs <;> cases vs <;> first | rfl | (simp at this)
theorem RelBk.emp {xs : List (Kd × B)} {vs : List (L2.Key × V)} (r : RelBk C F xs vs) : xs.isEmpty = vs.isEmpty := by
  have := r.length
  cases xs <;> cases vs <;> first | rfl | (simp at this)
theorem tru_M (hK : C.K = X.K) : TruR X (rT C) := by
  intro pins s σ H x v Q I rx h
  obtain ⟨F, ι, S, d, z, rh, r, e, q⟩ := h
  cases d with
  | b w =>
    cases w <;> try (cases e; done)
    · cases e
      exact tru_ok pins s σ H x v Q I rx ⟨false, by cases (show x = .non from r); exact rfl, q⟩
    · rename_i b
      cases e
      exact tru_ok pins s σ H x v Q I rx ⟨_, by cases (show x = .bl _ from r); exact rfl, q⟩
    · rename_i i
      cases e
      exact tru_ok pins s σ H x v Q I rx ⟨_, by cases (show x = .int _ from r); exact rfl, q⟩
    · cases e
      obtain ⟨a, vs, rfl, h1, h2⟩ := (show RelB C F _ x from r)
      exact tru_ok pins s σ H _ v Q I rx ⟨_, .inr (.inl ⟨vs, hK ▸ sqT_mono rh.fz h1, by rw [h2.emp]⟩), q⟩
    · cases e
      obtain ⟨a, vs, rfl, h1, h2⟩ := (show RelB C F _ x from r)
      exact tru_ok pins s σ H _ v Q I rx ⟨_, .inl ⟨vs, .inl (.inl (rh.fz _ _ h1)), by rw [h2.emp]⟩, q⟩
    · cases e
      obtain ⟨a, vs, rfl, h1, h2⟩ := (show RelB C F _ x from r)
      exact tru_ok pins s σ H _ v Q I rx ⟨_, .inl ⟨vs, hK ▸ sqL_mono rh.fz h1, by rw [h2.emp]⟩, q⟩
    · cases e
      obtain ⟨a, o, ks, rfl, h1, h2⟩ := (show RelB C F _ x from r)
      cases (show v = Value.ref a from rx)
      exact d_truth I (.inr ⟨o, rh.fz _ _ h1⟩) fun s' I' => ⟨H, I', by rw [← h2.emp]; exact q⟩
  | mix xs =>
    cases e
    obtain ⟨a, vs, rfl, h1, h2⟩ := r
    exact tru_ok pins s σ H _ v Q I rx ⟨_, .inr (.inl ⟨vs, hK ▸ sqT_mono rh.fz h1, by rw [h2.emp]⟩), q⟩
  | ref n =>
    obtain ⟨a, ha, rfl⟩ := r
    obtain ⟨o, ho, r⟩ := rh.obj ha
    unfold truth at e
    dsimp only at e
    rw [ho] at e
    cases o <;> try (cases e; done)
    · cases e
      obtain ⟨vs, h1, h2⟩ := r
      exact tru_ok pins s σ H _ v Q I rx ⟨_, .inl ⟨vs, .inl (.inl h1), by rw [h2.emp]⟩, q⟩
    · cases e
      obtain ⟨vs, h1, h2⟩ := r
      cases (show v = Value.ref a from rx)
      exact d_truth I (.inl h1) fun s' I' => ⟨H, I', by rw [← h2.emp]; exact q⟩
end
end M
/-! MC5: rules of expressions. -/
namespace M
open PySem PySem.Spec PyProof.Rows L2
/-! ### readings by the small interpreter -/
def rdE (C : Ct) (P : Par) (e : E) : TE := fun σ H Q => ∃ F ι S sl d S', RS C F ι sl S σ H ∧ ev P e sl S = some (d, S') ∧ Post C F ι S' d Q
def rdT (C : Ct) (P : Par) (e : E) : TT := fun σ H Q => ∃ F ι S sl d S' c, RS C F ι sl S σ H ∧ ev P e sl S = some (d, S') ∧ truth S' d = some c ∧ ∀ F' ι' H', Le F ι F' ι' → RH C F' ι' S' H' → Fre F' ι' → Q c H'
def rdA (C : Ct) (P : Par) (es : List E) : TA := fun σ H Q => ∃ F ι S sl ds S', RS C F ι sl S σ H ∧ evs P es sl S = some (ds, S') ∧ ∀ F' ι' vs H', Le F ι F' ι' → RH C F' ι' S' H' → Fre F' ι' → RelDs C F' ι' ds vs → Q vs H'
theorem _root_.L2.PE.imp {X : Cx} {e : Expr} {t t' : TE} (h : PE X e t) (k : ∀ σ H Q, t' σ H Q → t σ H Q) : PE X e t' := ⟨fun pins s σ H Q I q => h.run pins s σ H Q I (k σ H Q q)⟩
theorem _root_.L2.PT.imp {X : Cx} {e : Expr} {t t' : TT} (h : PT X e t) (k : ∀ σ H Q, t' σ H Q → t σ H Q) : PT X e t' := ⟨fun pins s σ H Q I q => h.run pins s σ H Q I (k σ H Q q)⟩
theorem _root_.L2.PW.imp {X : Cx} {e : Expr} {t t' : TT} (h : PW X e t) (k : ∀ σ H Q, t' σ H Q → t σ H Q) : PW X e t' := ⟨fun wh pins s σ H Q I q => h.run wh pins s σ H Q I (k σ H Q q)⟩
theorem _root_.L2.PA.imp {X : Cx} {e : List Expr} {t t' : TA} (h : PA X e t) (k : ∀ σ H Q, t' σ H Q → t σ H Q) : PA X e t' := ⟨fun pos pins s σ H Q I q => h.run pos pins s σ H Q I (k σ H Q q)⟩
theorem _root_.L2.PE.or {X : Cx} {e : Expr} {t t' : TE} (h : PE X e t) (h' : PE X e t') : PE X e (fun σ H Q => t σ H Q ∨ t' σ H Q) := ⟨fun pins s σ H Q I q => q.elim (h.run pins s σ H Q I) (h'.run pins s σ H Q I)⟩
/-- dicts are laid down for good -/
inductive Gh : Hp → (Hp → Prop) → Prop where
  | here {H Q} : Q H → Gh H Q
  | lock {H Q} (d : Addr) (u : HO) : H d = some u → Mut (some u) → (∀ od, Gh (upd H d (.frz od u)) Q) → Gh H Q
theorem Gh.run {X : Cx} {pins : List (Addr × Obj)} {σ : L2.St} {s : Shared} : ∀ {H : Hp} {Q : Hp → Prop}, Gh H Q → Inv X pins σ H s → ∃ H', Inv X pins σ H' s ∧ Q H' := by
  intro H Q g
  induction g with
  | here q => exact fun I => ⟨_, I, q⟩
  | lock d u h mu _ ih =>
    intro I
    obtain ⟨od, I2⟩ := I.lock h mu
    exact ih od I2
theorem pe_gh {X : Cx} {e : Expr} {t : TE} (h : PE X e t) : PE X e (fun σ H Q => t σ H fun v H' => Gh H' (Q v)) := ⟨fun pins s σ H Q I q => by
  refine thn (h.run pins s σ H _ I q) fun u s1 ⟨x, H1, I1, r1, g⟩ => ?_
  obtain ⟨H2, I2, q2⟩ := g.run I1
  exact ⟨x, H2, I2, r1, q2⟩⟩
section
variable {X : Cx} {C : Ct} {P : Par} {F : Hp} {ι : List Addr} {S : Store} {sl : Sl} {σ : L2.St} {H : Hp}
theorem RS.one {a : E} {x : D} {S1 : Store} {Q : VK} (rs : RS C F ι sl S σ H) (e : ev P a sl S = some (x, S1)) (k : ∀ F' ι' v H', Le F ι F' ι' → RS C F' ι' sl S1 σ H' → RelD C F' ι' x v → Q v H') : rdE C P a σ H Q :=
  ⟨F, ι, S, sl, x, S1, rs, e, fun F' ι' v H' l rh fr r => k F' ι' v H' l (rs.to l rh fr) r⟩
theorem RS.oneT {a : E} {x : D} {S1 : Store} {c : Bool} {Q : Bool → Hp → Prop} (rs : RS C F ι sl S σ H) (e : ev P a sl S = some (x, S1)) (t : truth S1 x = some c) (k : ∀ F' ι' H', Le F ι F' ι' → RS C F' ι' sl S1 σ H' → Q c H') : rdT C P a σ H Q :=
  ⟨F, ι, S, sl, x, S1, c, rs, e, t, fun F' ι' H' l rh fr => k F' ι' H' l (rs.to l rh fr)⟩
theorem RS.args {a : List E} {x : List D} {S1 : Store} {Q : List V → Hp → Prop} (rs : RS C F ι sl S σ H) (e : evs P a sl S = some (x, S1)) (k : ∀ F' ι' v H', Le F ι F' ι' → RS C F' ι' sl S1 σ H' → RelDs C F' ι' x v → Q v H') : rdA C P a σ H Q :=
  ⟨F, ι, S, sl, x, S1, rs, e, fun F' ι' v H' l rh fr r => k F' ι' v H' l (rs.to l rh fr) r⟩
end
abbrev ME (X : Cx) (C : Ct) (P : Par) (e : Expr) (m : E) : Prop := PE X e (rdE C P m)
abbrev MT (X : Cx) (C : Ct) (P : Par) (e : Expr) (m : E) : Prop := PT X e (rdT C P m)
abbrev MA (X : Cx) (C : Ct) (P : Par) (e : List Expr) (m : List E) : Prop := PA X e (rdA C P m)
section
variable {X : Cx} {C : Ct} {P : Par} {pos : Pos} {a b c : Expr} {ma mb mc : E}
/-! ### names, constants -/
theorem me_v (i : Nat) {x : PySem.Str} (hN : X.N[i]? = some x := by rfl) (hv : Vis X.env.scope x := by first | exact Or.inl rfl | exact Or.inr (Or.inl rfl) | exact Or.inr (Or.inr rfl)) (hd : (x == ("__debug__" : PySem.Str)) = false := by decide)
    (hcd : (x == ("__classdict__" : PySem.Str)) = false := by decide) : ME X C P (.Name x pos) (.v i) := by
  refine (pe_var (i := i) hN hv hd hcd).imp fun σ H Q h => ?_
  obtain ⟨F, ι, S, sl, d, S', rs, e, post⟩ := h
  unfold ev at e
  split at e
  · rename_i d' h
    cases e
    obtain ⟨v, h1, h2⟩ := rs.rs.2 i _ h
    exact ⟨v, h1, post.here rs.rh rs.fr h2⟩
  · cases e
theorem me_k {x : B} {v : V} (h : PE X a (tC v)) (r : ∀ F, RelB C F x v) : ME X C P a (.k x) := by
  refine h.imp fun σ H Q q => ?_
  obtain ⟨F, ι, S, sl, d, S', rs, e, post⟩ := q
  cases e
  exact post.here rs.rh rs.fr (r F)
theorem me_int {i : Int} {j} : ME X C P (.Constant (.int i) j pos) (.k (.int i)) := me_k pe_int fun _ => rfl
theorem me_bl {i : Bool} {j} : ME X C P (.Constant (.bool i) j pos) (.k (.bl i)) := me_k pe_bl fun _ => rfl
theorem me_non {j} : ME X C P (.Constant .none j pos) (.k .non) := me_k pe_non fun _ => rfl
theorem me_str (n : Nat) {x : PySem.Str} {j} (h : C.N.txts[n]? = some x := by rfl) : ME X C P (.Constant (.str x) j pos) (.k (.str n)) := me_k pe_str fun _ => ⟨x, h, rfl⟩
theorem me_gint {x : PySem.Str} {i : Int} {t : Tok} (hg : Gl X x) (hm : X.mg x = some (.int i t)) (hd : (x == ("__debug__" : PySem.Str)) = false := by decide) : ME X C P (.Name x pos) (.k (.int i)) := me_k (v := .int i) (pe_glob hg hm ⟨t, rfl⟩ hd) fun _ => rfl
theorem me_gstr (n : Nat) {x y : PySem.Str} {t : Tok} (hg : Gl X x) (hm : X.mg x = some (.str y t)) (h : C.N.txts[n]? = some y := by rfl) (hd : (x == ("__debug__" : PySem.Str)) = false := by decide) : ME X C P (.Name x pos) (.k (.str n)) := me_k (v := .str y) (pe_glob hg hm ⟨t, rfl⟩ hd) fun _ => ⟨y, h, rfl⟩
theorem me_gtup {x : PySem.Str} {q : Addr} {xs : List B} {vs : List V} (hK : C.K = X.K) (hg : Gl X x) (hm : X.mg x = some (.ref q)) (ht : ∀ F : Hp, SqT X.K F q vs) (hr : ∀ F, RelBs C F xs vs) (hd : (x == ("__debug__" : PySem.Str)) = false := by decide) : ME X C P (.Name x pos) (.k (.tup xs)) :=
  me_k (v := .ref q) (pe_glob hg hm rfl hd) fun F => ⟨q, vs, rfl, hK ▸ ht F, hr F⟩
/-! ### operators -/
theorem me_bin (hK : C.K = X.K) (o : Op) (ha : ME X C P a ma) (hb : ME X C P b mb) : ME X C P (.BinOp a (pop o) b pos) (.bin o ma mb) := by
  refine (pe_op (op_bin hK o) ha hb).imp fun σ H Q h => ?_
  obtain ⟨F, ι, S, sl, d, S', rs, e, post⟩ := h
  unfold ev at e
  obtain ⟨⟨x, S1⟩, e1, e⟩ := Option.bind_eq_some_iff.mp e
  obtain ⟨⟨y, S2⟩, e2, e⟩ := Option.bind_eq_some_iff.mp e
  obtain ⟨z, e3, e⟩ := Option.map_eq_some_iff.mp e
  cases e
  refine rs.one e1 fun F1 ι1 v H1 l1 r1 q1 => r1.one e2 fun F2 ι2 w H2 l2 r2 q2 => ?_
  exact ⟨F2, ι2, S2, x, y, _, r2.rh, r2.fr, q1.mono l2, q2, e3, post.mono (l1.trans l2)⟩
theorem me_neg (ha : ME X C P a ma) : ME X C P (.UnaryOp .USub a pos) (.neg ma) := by
  refine (pe_un un_neg ha).imp fun σ H Q h => ?_
  obtain ⟨F, ι, S, sl, d, S', rs, e, post⟩ := h
  unfold ev at e
  obtain ⟨⟨x, S1⟩, e1, e⟩ := Option.bind_eq_some_iff.mp e
  dsimp only at e
  split at e
  · cases e
    refine rs.one e1 fun F1 ι1 v H1 l1 r1 q1 => ?_
    exact ⟨_, q1, (post.mono l1).here r1.rh r1.fr rfl⟩
  · cases e
theorem me_inv (ha : ME X C P a ma) : ME X C P (.UnaryOp .Invert a pos) (.inv ma) := by
  refine (pe_un un_inv ha).imp fun σ H Q h => ?_
  obtain ⟨F, ι, S, sl, d, S', rs, e, post⟩ := h
  unfold ev at e
  obtain ⟨⟨x, S1⟩, e1, e⟩ := Option.bind_eq_some_iff.mp e
  dsimp only at e
  split at e
  · cases e
    refine rs.one e1 fun F1 ι1 v H1 l1 r1 q1 => ?_
    exact ⟨_, q1, (post.mono l1).here r1.rh r1.fr rfl⟩
  · cases e
theorem me_cmp (hK : C.K = X.K) (hu : X.A.units + 66 < cLine) (o : Cm) (ha : ME X C P a ma) (hb : ME X C P b mb) (hm : behindInMarks (pcm o) b = false := by rfl) : ME X C P (.Compare a [pcm o] [b] pos) (.cmp o ma mb) := by
  refine (pe_cmpR (op_cmpM hK hu o) ha hb hm).imp fun σ H Q h => ?_
  obtain ⟨F, ι, S, sl, d, S', rs, e, post⟩ := h
  unfold ev at e
  obtain ⟨⟨x, S1⟩, e1, e⟩ := Option.bind_eq_some_iff.mp e
  obtain ⟨⟨y, S2⟩, e2, e⟩ := Option.bind_eq_some_iff.mp e
  obtain ⟨z, e3, e⟩ := Option.map_eq_some_iff.mp e
  cases e
  refine rs.one e1 fun F1 ι1 v H1 l1 r1 q1 => r1.one e2 fun F2 ι2 w H2 l2 r2 q2 => ?_
  exact ⟨F2, ι2, S2, x, y, _, r2.rh, r2.fr, q1.mono l2, q2, e3, (post.mono (l1.trans l2)).here r2.rh r2.fr rfl⟩
theorem mt_cmp (hK : C.K = X.K) (hu : X.A.units + 66 < cLine) (o : Cm) (ha : ME X C P a ma) (hb : ME X C P b mb) (hm : behindInMarks (pcm o) b = false := by rfl) : MT X C P (.Compare a [pcm o] [b] pos) (.cmp o ma mb) := by
  refine (pt_cmpR (op_cmpM hK hu o) ha hb hm).imp fun σ H Q h => ?_
  obtain ⟨F, ι, S, sl, d, S', k, rs, e, t, post⟩ := h
  unfold ev at e
  obtain ⟨⟨x, S1⟩, e1, e⟩ := Option.bind_eq_some_iff.mp e
  obtain ⟨⟨y, S2⟩, e2, e⟩ := Option.bind_eq_some_iff.mp e
  obtain ⟨z, e3, e⟩ := Option.map_eq_some_iff.mp e
  cases e
  cases t
  refine rs.one e1 fun F1 ι1 v H1 l1 r1 q1 => r1.one e2 fun F2 ι2 w H2 l2 r2 q2 => ?_
  exact ⟨F2, ι2, S2, x, y, _, r2.rh, r2.fr, q1.mono l2, q2, e3, _, rfl, post F2 ι2 H2 (l1.trans l2) r2.rh r2.fr⟩
theorem chn_rd {o p : Cm} {σ : L2.St} {H : Hp} {Q : V → Hp → Prop} {F ι S sl S'} {z : Bool} (rs : RS C F ι sl S σ H) (e : ev P (.chn o p ma mb mc) sl S = some (.b (.bl z), S')) (post : ∀ F' ι' H', Le F ι F' ι' → RH C F' ι' S' H' → Fre F' ι' → Q (.bl z) H') :
    tChain (rC C o) (rC C p) (rdE C P ma) (rdE C P mb) (rdE C P mc) σ H Q := by
  unfold ev at e
  obtain ⟨⟨x, S1⟩, e1, e⟩ := Option.bind_eq_some_iff.mp e
  obtain ⟨⟨y, S2⟩, e2, e⟩ := Option.bind_eq_some_iff.mp e
  obtain ⟨r, e3, e⟩ := Option.bind_eq_some_iff.mp e
  refine rs.one e1 fun F1 ι1 v H1 l1 r1 q1 => r1.one e2 fun F2 ι2 w H2 l2 r2 q2 => ?_
  refine ⟨F2, ι2, S2, x, y, r, r2.rh, r2.fr, q1.mono l2, q2, e3, r, rfl, ?_⟩
  cases r with
  | true =>
    rw [if_pos rfl] at e ⊢
    obtain ⟨⟨u, S3⟩, e4, e⟩ := Option.bind_eq_some_iff.mp e
    obtain ⟨k, e5, e⟩ := Option.map_eq_some_iff.mp e
    cases e
    refine r2.one e4 fun F3 ι3 u' H3 l3 r3 q3 => ?_
    exact ⟨F3, ι3, S3, y, u, _, r3.rh, r3.fr, q2.mono l3, q3, e5, post F3 ι3 H3 ((l1.trans l2).trans l3) r3.rh r3.fr⟩
  | false =>
    rw [if_neg Bool.false_ne_true] at e ⊢
    cases e
    exact post F2 ι2 H2 (l1.trans l2) r2.rh r2.fr
theorem chn_bl {o p : Cm} {sl : Sl} {S S' : Store} {d : D} (e : ev P (.chn o p ma mb mc) sl S = some (d, S')) : ∃ z, d = .b (.bl z) := by
  unfold ev at e
  obtain ⟨⟨x, S1⟩, e1, e⟩ := Option.bind_eq_some_iff.mp e
  obtain ⟨⟨y, S2⟩, e2, e⟩ := Option.bind_eq_some_iff.mp e
  obtain ⟨r, e3, e⟩ := Option.bind_eq_some_iff.mp e
  split at e
  · obtain ⟨⟨u, S3⟩, e4, e⟩ := Option.bind_eq_some_iff.mp e
    obtain ⟨k, e5, e⟩ := Option.map_eq_some_iff.mp e
    cases e
    exact ⟨_, rfl⟩
  · cases e
    exact ⟨_, rfl⟩
theorem me_chn (hK : C.K = X.K) (hu : X.A.units + 66 < cLine) (o p : Cm) (ha : ME X C P a ma) (hb : ME X C P b mb) (hc : ME X C P c mc) (hm : lastMarks [pcm o, pcm p] [b, c] = false := by with_unfolding_all rfl) :
    ME X C P (.Compare a [pcm o, pcm p] [b, c] pos) (.chn o p ma mb mc) := by
  refine (pe_chain (op_cmpM hK hu o) (op_cmpM hK hu p) ha hb hc hm).imp fun σ H Q h => ?_
  obtain ⟨F, ι, S, sl, d, S', rs, e, post⟩ := h
  obtain ⟨z, rfl⟩ := chn_bl e
  exact chn_rd rs e fun F' ι' H' l rh fr => post F' ι' _ H' l rh fr rfl
theorem mt_chn (hK : C.K = X.K) (hu : X.A.units + 66 < cLine) (o p : Cm) (ha : ME X C P a ma) (hb : ME X C P b mb) (hc : ME X C P c mc) (hm : lastMarks [pcm o, pcm p] [b, c] = false := by with_unfolding_all rfl) :
    MT X C P (.Compare a [pcm o, pcm p] [b, c] pos) (.chn o p ma mb mc) := by
  refine (pt_chain (op_cmpM hK hu o) (op_cmpM hK hu p) ha hb hc hm).imp fun σ H Q h => ?_
  obtain ⟨F, ι, S, sl, d, S', k, rs, e, t, post⟩ := h
  obtain ⟨z, rfl⟩ := chn_bl e
  cases t
  exact chn_rd rs e fun F' ι' H' l rh fr => ⟨_, rfl, post F' ι' H' l rh fr⟩
end
end M
/-! MC6: more rules of expressions. -/
namespace M
open PySem PySem.Spec PyProof.Rows L2
section
variable {X : Cx} {a b c : Expr} {rest : List Expr} {ta tb : TE} {rt : V → Hp → (Bool → Hp → Prop) → Prop} {pos : Pos}
theorem pe_orG (tr : TruR X rt) (ha : PE X a ta) (hb : PE X (.BoolOp .Or (b :: rest) pos) tb) :
    PE X (.BoolOp .Or (a :: b :: rest) pos) (fun σ H Q => ta σ H fun x H1 => ∃ k, rt x H1 (fun c H2 => c = k ∧ H2 = H1) ∧ if k = true then Q x H1 else tb σ H1 Q) := by
  refine ⟨fun pins s σ H Q I h => ?_⟩
  refine BoolOp_or (thn (ha.run pins s σ H _ I h) fun v s1 ⟨x, H1, I1, r1, q1⟩ => ?_)
  obtain ⟨k, e, q1⟩ := q1
  refine thn (tr pins s1 σ H1 x v (fun c H2 => c = k ∧ H2 = H1) I1 r1 e) fun c s2 hc => ?_
  obtain ⟨H2, I2, e1, e2⟩ := hc
  rw [e2] at I2
  rw [← e1] at q1
  cases c with
  | true => exact ⟨x, H1, I2, r1, q1⟩
  | false => exact hb.run pins s2 σ H1 Q I2 q1
theorem pe_andG (tr : TruR X rt) (ha : PE X a ta) (hb : PE X (.BoolOp .And (b :: rest) pos) tb) :
    PE X (.BoolOp .And (a :: b :: rest) pos) (fun σ H Q => ta σ H fun x H1 => ∃ k, rt x H1 (fun c H2 => c = k ∧ H2 = H1) ∧ if k = true then tb σ H1 Q else Q x H1) := by
  refine ⟨fun pins s σ H Q I h => ?_⟩
  refine BoolOp_and (thn (ha.run pins s σ H _ I h) fun v s1 ⟨x, H1, I1, r1, q1⟩ => ?_)
  obtain ⟨k, e, q1⟩ := q1
  refine thn (tr pins s1 σ H1 x v (fun c H2 => c = k ∧ H2 = H1) I1 r1 e) fun c s2 hc => ?_
  obtain ⟨H2, I2, e1, e2⟩ := hc
  rw [e2] at I2
  rw [← e1] at q1
  cases c with
  | true => exact hb.run pins s2 σ H1 Q I2 q1
  | false => exact ⟨x, H1, I2, r1, q1⟩
theorem pe_notG (tr : TruR X rt) (ha : PE X a ta) : PE X (.UnaryOp .Not a pos) (fun σ H Q => ta σ H fun x H1 => rt x H1 fun c H2 => Q (.bl (!c)) H2) := by
  refine ⟨fun pins s σ H Q I h => ?_⟩
  refine UnaryOp_ (thn (ha.run pins s σ H _ I h) fun v s1 ⟨x, H1, I1, r1, q1⟩ => ?_)
  exact not_of (thn (tr pins s1 σ H1 x v (fun c H2 => Q (.bl (!c)) H2) I1 r1 q1) fun c s2 ⟨H2, I2, q2⟩ => ⟨.bl (!c), H2, I2, rfl, q2⟩)
theorem pt_tru (tr : TruR X rt) (ha : PE X a ta) (he : ∀ whole, isTrue a X.env whole = (do let v ← whole; standAt a.pos; holding [v] (truthy v))) : PT X a (fun σ H Q => ta σ H fun x H' => rt x H' Q) := by
  refine ⟨fun pins s σ H Q I h => ?_⟩
  exact isTrue_plain (thn (ha.run pins s σ H _ I h) fun v s1 ⟨x, H1, I1, r1, q1⟩ => tr pins s1 σ H1 x v Q I1 r1 q1) (he _)
end
section
variable {X : Cx} {C : Ct} {P : Par} {pos : Pos} {a b c : Expr} {ma mb mc : E} {rest : List Expr}
/-! ### truth -/
theorem rT_one {F ι S sl σ H} {d : D} {c : Bool} {x : V} (r : RS C F ι sl S σ H) (q : RelD C F ι d x) (t : truth S d = some c) : rT C x H (fun k H2 => k = c ∧ H2 = H) := ⟨F, ι, S, d, c, r.rh, q, t, rfl, rfl⟩
/-- any expression that is no comparison, and | or | not, conditional expression -/
theorem mt_v (hK : C.K = X.K) (ha : ME X C P a ma) (he : ∀ whole, isTrue a X.env whole = (do let v ← whole; standAt a.pos; holding [v] (truthy v)) := by intro _; rfl) : MT X C P a ma := by
  refine (pt_tru (tru_M (C := C) hK) ha he).imp fun σ H Q h => ?_
  obtain ⟨F, ι, S, sl, d, S', k, rs, e, t, post⟩ := h
  exact rs.one e fun F1 ι1 v H1 l1 r1 q1 => ⟨F1, ι1, S', d, k, r1.rh, q1, t, post F1 ι1 H1 l1 r1.rh r1.fr⟩
theorem mt_not (ha : MT X C P a ma) : MT X C P (.UnaryOp .Not a pos) (.not ma) := by
  refine (pt_not ha).imp fun σ H Q h => ?_
  obtain ⟨F, ι, S, sl, d, S', k, rs, e, t, post⟩ := h
  unfold ev at e
  obtain ⟨⟨x, S1⟩, e1, e⟩ := Option.bind_eq_some_iff.mp e
  obtain ⟨c, e2, e⟩ := Option.map_eq_some_iff.mp e
  cases e
  cases t
  exact rs.oneT e1 e2 fun F1 ι1 H1 l1 r1 => post F1 ι1 H1 l1 r1.rh r1.fr
theorem me_not (hK : C.K = X.K) (ha : ME X C P a ma) : ME X C P (.UnaryOp .Not a pos) (.not ma) := by
  refine (pe_notG (tru_M (C := C) hK) ha).imp fun σ H Q h => ?_
  obtain ⟨F, ι, S, sl, d, S', rs, e, post⟩ := h
  unfold ev at e
  obtain ⟨⟨x, S1⟩, e1, e⟩ := Option.bind_eq_some_iff.mp e
  obtain ⟨c, e2, e⟩ := Option.map_eq_some_iff.mp e
  cases e
  exact rs.one e1 fun F1 ι1 v H1 l1 r1 q1 => ⟨F1, ι1, S1, x, c, r1.rh, q1, e2, (post.mono l1).here r1.rh r1.fr rfl⟩
/-- and, or: the last part -/
def MW (X : Cx) (C : Ct) (P : Par) (op : BoolOp) (es : List Expr) (pos : Pos) (m : E) : Prop := PW X (.BoolOp op es pos) (rdT C P m) ∧ PE X (.BoolOp op es pos) (rdE C P m)
theorem mw_and1 (ha : MT X C P a ma) (h : ME X C P a ma) : MW X C P .And [a] pos ma := ⟨pw_and1 ha, pe_one h⟩
theorem mw_or1 (ha : MT X C P a ma) (h : ME X C P a ma) : MW X C P .Or [a] pos ma := ⟨pw_or1 ha, pe_one h⟩
theorem mw_and (hK : C.K = X.K) (ha : MT X C P a ma) (he : ME X C P a ma) (hb : MW X C P .And (b :: rest) pos mb) : MW X C P .And (a :: b :: rest) pos (.and ma mb) := by
  refine ⟨(pw_and ha hb.1).imp fun σ H Q h => ?_, (pe_andG (tru_M (C := C) hK) he hb.2).imp fun σ H Q h => ?_⟩
  · obtain ⟨F, ι, S, sl, d, S', k, rs, e, t, post⟩ := h
    unfold ev at e
    obtain ⟨⟨x, S1⟩, e1, e⟩ := Option.bind_eq_some_iff.mp e
    obtain ⟨c, e2, e⟩ := Option.bind_eq_some_iff.mp e
    refine rs.oneT e1 e2 fun F1 ι1 H1 l1 r1 => ?_
    cases c with
    | true =>
      rw [if_pos rfl] at e ⊢
      exact r1.oneT e t fun F2 ι2 H2 l2 r2 => post F2 ι2 H2 (l1.trans l2) r2.rh r2.fr
    | false =>
      rw [if_neg Bool.false_ne_true] at e ⊢
      cases e
      cases e2.symm.trans t
      exact post F1 ι1 H1 l1 r1.rh r1.fr
  · obtain ⟨F, ι, S, sl, d, S', rs, e, post⟩ := h
    unfold ev at e
    obtain ⟨⟨x, S1⟩, e1, e⟩ := Option.bind_eq_some_iff.mp e
    obtain ⟨c, e2, e⟩ := Option.bind_eq_some_iff.mp e
    refine rs.one e1 fun F1 ι1 v H1 l1 r1 q1 => ⟨c, rT_one r1 q1 e2, ?_⟩
    cases c with
    | true =>
      rw [if_pos rfl] at e ⊢
      exact r1.one e fun F2 ι2 w H2 l2 r2 q2 => (post.mono (l1.trans l2)).here r2.rh r2.fr q2
    | false =>
      rw [if_neg Bool.false_ne_true] at e ⊢
      cases e
      exact (post.mono l1).here r1.rh r1.fr q1
theorem mw_or (hK : C.K = X.K) (ha : MT X C P a ma) (he : ME X C P a ma) (hb : MW X C P .Or (b :: rest) pos mb) : MW X C P .Or (a :: b :: rest) pos (.or ma mb) := by
  refine ⟨(pw_or ha hb.1).imp fun σ H Q h => ?_, (pe_orG (tru_M (C := C) hK) he hb.2).imp fun σ H Q h => ?_⟩
  · obtain ⟨F, ι, S, sl, d, S', k, rs, e, t, post⟩ := h
    unfold ev at e
    obtain ⟨⟨x, S1⟩, e1, e⟩ := Option.bind_eq_some_iff.mp e
    obtain ⟨c, e2, e⟩ := Option.bind_eq_some_iff.mp e
    refine rs.oneT e1 e2 fun F1 ι1 H1 l1 r1 => ?_
    cases c with
    | false =>
      rw [if_neg Bool.false_ne_true] at e ⊢
      exact r1.oneT e t fun F2 ι2 H2 l2 r2 => post F2 ι2 H2 (l1.trans l2) r2.rh r2.fr
    | true =>
      rw [if_pos rfl] at e ⊢
      cases e
      cases e2.symm.trans t
      exact post F1 ι1 H1 l1 r1.rh r1.fr
  · obtain ⟨F, ι, S, sl, d, S', rs, e, post⟩ := h
    unfold ev at e
    obtain ⟨⟨x, S1⟩, e1, e⟩ := Option.bind_eq_some_iff.mp e
    obtain ⟨c, e2, e⟩ := Option.bind_eq_some_iff.mp e
    refine rs.one e1 fun F1 ι1 v H1 l1 r1 q1 => ⟨c, rT_one r1 q1 e2, ?_⟩
    cases c with
    | false =>
      rw [if_neg Bool.false_ne_true] at e ⊢
      exact r1.one e fun F2 ι2 w H2 l2 r2 q2 => (post.mono (l1.trans l2)).here r2.rh r2.fr q2
    | true =>
      rw [if_pos rfl] at e ⊢
      cases e
      exact (post.mono l1).here r1.rh r1.fr q1
theorem MW.t {op : BoolOp} {es : List Expr} {m : E} (h : MW X C P op es pos m) : MT X C P (.BoolOp op es pos) m := h.1.pt
theorem MW.e {op : BoolOp} {es : List Expr} {m : E} (h : MW X C P op es pos m) : ME X C P (.BoolOp op es pos) m := h.2
theorem me_ite {mt : E} (ht : MT X C P c mt) (ha : ME X C P a ma) (hb : ME X C P b mb) : ME X C P (.IfExp c a b pos) (.ite mt ma mb) := by
  refine (pe_ifExp ht ha hb).imp fun σ H Q h => ?_
  obtain ⟨F, ι, S, sl, d, S', rs, e, post⟩ := h
  unfold ev at e
  obtain ⟨⟨x, S1⟩, e1, e⟩ := Option.bind_eq_some_iff.mp e
  obtain ⟨k, e2, e⟩ := Option.bind_eq_some_iff.mp e
  refine rs.oneT e1 e2 fun F1 ι1 H1 l1 r1 => ?_
  cases k with
  | true =>
    rw [if_pos rfl] at e ⊢
    exact r1.one e fun F2 ι2 w H2 l2 r2 q2 => (post.mono (l1.trans l2)).here r2.rh r2.fr q2
  | false =>
    rw [if_neg Bool.false_ne_true] at e ⊢
    exact r1.one e fun F2 ι2 w H2 l2 r2 q2 => (post.mono (l1.trans l2)).here r2.rh r2.fr q2
/-! ### arguments, displays -/
variable {es : List Expr} {ms : List E}
theorem ma_nil : MA X C P [] [] := by
  refine (pa_nil (X := X)).imp fun σ H Q h => ?_
  obtain ⟨F, ι, S, sl, d, S', rs, e, post⟩ := h
  cases e
  exact post F ι [] H (Le.refl _ _) rs.rh rs.fr rfl
theorem ma_cons (ha : ME X C P a ma) (hr : MA X C P es ms) (hs : starEach (a :: es) X.env = (false, eval a X.env) :: starEach es X.env := by rfl) : MA X C P (a :: es) (ma :: ms) := by
  refine (pa_cons ha hr hs).imp fun σ H Q h => ?_
  obtain ⟨F, ι, S, sl, d, S', rs, e, post⟩ := h
  unfold evs at e
  obtain ⟨⟨x, S1⟩, e1, e⟩ := Option.bind_eq_some_iff.mp e
  obtain ⟨⟨y, S2⟩, e2, e⟩ := Option.map_eq_some_iff.mp e
  cases e
  exact rs.one e1 fun F1 ι1 v H1 l1 r1 q1 => r1.args e2 fun F2 ι2 w H2 l2 r2 q2 => post F2 ι2 _ H2 (l1.trans l2) r2.rh r2.fr ⟨v, w, rfl, q1.mono l2, q2⟩
theorem mkTup_rel {F G : Hp} {ι : List Addr} {ds : List D} {vs : List V} {p : Addr} (l : Le F ι G ι) (hp : G p = some (.tup vs)) (r : RelDs C F ι ds vs) : RelD C G ι (mkTup ds) (.ref p) := by
  unfold mkTup
  split
  · rename_i xs h
    exact ⟨p, vs, rfl, .inl (.inl hp), RelBs.mono l.1 _ _ (r.all h)⟩
  · exact ⟨p, vs, rfl, .inl (.inl hp), r.mono l⟩
theorem me_tup {k} (h : MA X C P es ms) : ME X C P (.Tuple es k pos) (.tup ms) := by
  refine (pe_tup h).imp fun σ H Q h => ?_
  obtain ⟨F, ι, S, sl, d, S', rs, e, post⟩ := h
  unfold ev at e
  obtain ⟨⟨x, S1⟩, e1, e⟩ := Option.bind_eq_some_iff.mp e
  split at e
  · rename_i hz
    cases e
    refine rs.args e1 fun F1 ι1 vs H1 l1 r1 q1 => ⟨SZ_le (by rw [← q1.length]; exact hz), fun p hp => ?_⟩
    exact (post.mono l1).new r1.rh r1.fr hp (mkTup_rel (r1.rh.newF r1.fr (u := .tup vs) hp).2.2 upd_same q1)
  · cases e
theorem newL_post {F ι S H} {m : Bool} {xs : List B} {vs : List V} {d : D} {S' : Store} {Q : VK} {p : Addr} (e : newL S m xs = some (d, S')) (rh : RH C F ι S H) (fr : Fre F ι) (post : Post C F ι S' d Q) (r : RelBs C F xs vs) (hp : H p = none) : Q (.ref p) (upd H p (.lst vs)) := by
  unfold newL at e
  split at e
  · split at e
    · cases e
      exact post.newS (d := .b .non) rh fr hp ⟨vs, upd_same, r⟩
    · cases e
      exact post.new rh fr hp ⟨p, vs, rfl, upd_same, RelBs.mono (rh.newF fr (u := .lst vs) hp).2.2.1 _ _ r⟩
  · cases e
theorem newL_len {S : Store} {m : Bool} {xs : List B} {d : D} {S' : Store} (e : newL S m xs = some (d, S')) : xs.length ≤ SZ := by
  unfold newL at e
  split at e
  · assumption
  · cases e
theorem me_lst (m : Bool) (h : MA X C P es ms) : ME X C P (.List es pos) (.lst m ms) := by
  refine (pe_lst h).imp fun σ H Q h => ?_
  obtain ⟨F, ι, S, sl, d, S', rs, e, post⟩ := h
  unfold ev at e
  obtain ⟨⟨x, S1⟩, e1, e⟩ := Option.bind_eq_some_iff.mp e
  obtain ⟨xs, e2, e⟩ := Option.bind_eq_some_iff.mp e
  refine rs.args e1 fun F1 ι1 vs H1 l1 r1 q1 => ?_
  have q := q1.all e2
  exact ⟨SZ_le (by rw [← q.length]; exact newL_len e), fun p hp => newL_post e r1.rh r1.fr (post.mono l1) q hp⟩
/-- a new dict: laid down for good, or of the store -/
theorem newD_post {F ι S H} {m : Bool} {xs : List (Kd × B)} {vs : List (L2.Key × V)} {d : D} {S' : Store} {Q : VK} {p : Addr} (e : newD S m xs = some (d, S')) (rh : RH C F ι S H) (fr : Fre F ι) (post : Post C F ι S' d Q) (r : RelBk C F xs vs) (hp : H p = none) :
    Gh (upd H p (.dK vs)) (Q (.ref p)) := by
  unfold newD at e
  split at e
  · split at e
    · cases e
      exact .here (post.newS (d := .b .non) rh fr hp ⟨vs, upd_same, r⟩)
    · cases e
      refine .lock p (.dK vs) upd_same trivial fun od => .here ?_
      rw [upd_upd]
      exact post.new rh fr hp ⟨p, od, vs, rfl, upd_same, RelBk.mono (rh.newF fr (u := .frz od (.dK vs)) hp).2.2.1 _ _ r⟩
  · cases e
theorem me_dnew (m : Bool) : ME X C P (.Dict [] [] pos) (.dnew m) := by
  refine (pe_gh pe_dnewK).imp fun σ H Q h => ?_
  obtain ⟨F, ι, S, sl, d, S', rs, e, post⟩ := h
  intro p hp
  exact newD_post (e : newD S m [] = some (d, S')) rs.rh rs.fr post rfl hp
/-- the pairs of a display -/
structure MPs (X : Cx) (C : Ct) (P : Par) (pos : Pos) (ks : List (Option Expr)) (vs : List Expr) (ms : List E) (trs : List (TE × TE)) : Prop where
  ps : PPs X pos ks vs trs
  rd : ∀ (σ : L2.St) (H : Hp) (Q : List (V × V) → Hp → Prop) F ι S sl ds S', RS C F ι sl S σ H → evs P ms sl S = some (ds, S') →
    (∀ F' ι' vs H', Le F ι F' ι' → RH C F' ι' S' H' → Fre F' ι' → ∀ us : List (V × V), RelDs C F' ι' ds vs → vs = us.flatMap (fun u => [u.1, u.2]) → Q us H') → tPairs trs σ H Q
theorem mps_nil : MPs X C P pos [] [] [] [] := ⟨pps_nil, fun σ H Q F ι S sl ds S' rs e k => by
  cases e
  exact k F ι [] H (Le.refl _ _) rs.rh rs.fr [] rfl rfl⟩
theorem mps_cons {kk v : Expr} {ks : List (Option Expr)} {vs : List Expr} {mk mv : E} {trs : List (TE × TE)} (hk : ME X C P kk mk) (hv : ME X C P v mv) (hr : MPs X C P pos ks vs ms trs) : MPs X C P pos (some kk :: ks) (v :: vs) (mk :: mv :: ms) ((rdE C P mk, rdE C P mv) :: trs) := by
  refine ⟨pps_cons hk hv hr.ps, fun σ H Q F ι S sl ds S' rs e k => ?_⟩
  unfold evs at e
  obtain ⟨⟨x, S1⟩, e1, e⟩ := Option.bind_eq_some_iff.mp e
  obtain ⟨⟨y, S2⟩, e2, e⟩ := Option.map_eq_some_iff.mp e
  cases e
  unfold evs at e2
  obtain ⟨⟨z, S3⟩, e3, e2⟩ := Option.bind_eq_some_iff.mp e2
  obtain ⟨⟨w, S4⟩, e4, e2⟩ := Option.map_eq_some_iff.mp e2
  cases e2
  refine rs.one e1 fun F1 ι1 v1 H1 l1 r1 q1 => r1.one e3 fun F2 ι2 v2 H2 l2 r2 q2 => hr.rd σ H2 _ F2 ι2 _ sl _ _ r2 e4 fun F3 ι3 vs3 H3 l3 rh3 fr3 us q3 h3 => ?_
  exact k F3 ι3 (v1 :: v2 :: vs3) H3 ((l1.trans l2).trans l3) rh3 fr3 ((v1, v2) :: us) ⟨v1, _, rfl, (q1.mono l2).mono l3, v2, _, rfl, q2.mono l3, q3⟩ (by rw [h3] <;> rfl)
theorem flat2_rel {F : Hp} {ι : List Addr} : ∀ {ds : List D} {kvs : List (Kd × B)} {us : List (V × V)}, flat2 ds = some kvs → RelDs C F ι ds (us.flatMap fun u => [u.1, u.2]) → ∃ ks : List (L2.Key × V), us = ks.map (fun kv => (kV kv.1, kv.2)) ∧ RelBk C F kvs ks
  | [], _, us, e, r => by
    cases e
    cases us with
    | nil => exact ⟨[], rfl, rfl⟩
    | cons u us => cases (show _ :: _ = [] from r)
  | [.b _], _, _, e, _ => by cases e
  | [.ref _], _, _, e, _ => by cases e
  | [.mix _], _, _, e, _ => by cases e
  | .b k :: .b v :: r, kvs, us, e, q => by
    cases us with
    | nil =>
      obtain ⟨_, _, e0, _⟩ := q
      cases e0
    | cons u us =>
      obtain ⟨w1, r1, e1, q1, w2, r2, e2, q2, q3⟩ := q
      cases e1
      cases e2
      have e' : ((keyB k).bind fun k => (flat2 r).map ((k, v) :: ·)) = some kvs := e
      obtain ⟨kk, h1, e'⟩ := Option.bind_eq_some_iff.mp e'
      obtain ⟨rest, h2, e'⟩ := Option.map_eq_some_iff.mp e'
      cases e'
      obtain ⟨j, rk, ej⟩ := keyB_rel h1 q1
      obtain ⟨ks, h3, h4⟩ := flat2_rel h2 q3
      refine ⟨(j, u.2) :: ks, ?_, (j, u.2), ks, rfl, ⟨rk, q2⟩, h4⟩
      rw [h3, List.map_cons, ← ej]
  | .ref _ :: _ :: _, _, _, e, _ => by cases e
  | .mix _ :: _ :: _, _, _, e, _ => by cases e
  | .b _ :: .ref _ :: _, _, _, e, _ => by cases e
  | .b _ :: .mix _ :: _, _, _, e, _ => by cases e
theorem me_dic {ks : List (Option Expr)} {vs : List Expr} {trs : List (TE × TE)} (h : MPs X C P pos ks vs ms trs) (hall : ks.all (·.isSome) = true := by rfl) (hl : ks.length = vs.length := by rfl) (h0 : ks ≠ [] := by (intro z; cases z)) (h15 : ks.length ≤ 15 := by decide) : ME X C P (.Dict ks vs pos) (.dic ms) := by
  refine (pe_disp h.ps hall hl h0 h15).imp fun σ H Q q => ?_
  obtain ⟨F, ι, S, sl, d, S', rs, e, post⟩ := q
  intro p hp
  unfold ev at e
  obtain ⟨⟨ds, S2⟩, e1, e⟩ := Option.bind_eq_some_iff.mp e
  obtain ⟨n1, n2, n3⟩ := rs.rh.newS rs.fr (o := .dic []) (u := .dK []) hp ⟨[], upd_same, rfl⟩
  have rs1 : RS C F (ι ++ [p]) sl (S ++ [.dic []]) σ (upd H p (.dK [])) := rs.to n3 n1 n2
  refine h.rd σ _ _ F (ι ++ [p]) _ sl ds S2 rs1 e1 fun F2 ι2 vs2 H2 l2 rh2 fr2 us q2 hus => ?_
  subst hus
  dsimp only at e
  split at e
  · rename_i hS
    obtain ⟨kvs, e2, e⟩ := Option.bind_eq_some_iff.mp e
    split at e
    · rename_i hz
      cases e
      obtain ⟨ks2, h3, h4⟩ := flat2_rel e2 q2
      have hι : ι2[S.length]? = some p := l2.get (by rw [List.getElem?_append_right (by rw [rs.rh.len] <;> exact Nat.le_refl _), ← rs.rh.len, Nat.sub_self] <;> rfl)
      obtain ⟨vv, h5, h6⟩ := rh2.ob _ _ _ hι hS
      cases (show vv = [] from h6)
      refine ⟨h5, ks2, h3, by rw [← h4.length]; exact hz, ?_⟩
      have rr := rh2.set (o := .dic (dmerge [] kvs)) (u := .dK (mergeK [] ks2)) hι (fr2.at hι) (fz_d h5) ⟨_, upd_same, dmerge_rel h4 (show RelBk C F2 [] [] from rfl)⟩
      exact post F2 ι2 (.ref p) _ (n3.trans l2) rr fr2 ⟨p, hι, rfl⟩
    · cases e
  · cases e
/-! ### items -/
theorem atI_rel {F : Hp} {xs : List B} {vs : List V} {i : Int} {x : B} (r : RelBs C F xs vs) (e : L2.atI xs i = some x) : ∃ v, L2.atI vs i = some v ∧ RelB C F x v := by
  unfold L2.atI at e ⊢
  obtain ⟨j, e1, e2⟩ := Option.bind_eq_some_iff.mp e
  obtain ⟨v, h1, h2⟩ := r.get e2
  rw [← r.length, e1]
  exact ⟨v, h1, h2⟩
theorem atI_relD {F : Hp} {ι : List Addr} {xs : List D} {vs : List V} {i : Int} {x : D} (r : RelDs C F ι xs vs) (e : L2.atI xs i = some x) : ∃ v, L2.atI vs i = some v ∧ RelD C F ι x v := by
  unfold L2.atI at e ⊢
  obtain ⟨j, e1, e2⟩ := Option.bind_eq_some_iff.mp e
  obtain ⟨v, h1, h2⟩ := r.get e2
  rw [← r.length, e1]
  exact ⟨v, h1, h2⟩
/-- what idx says of two values -/
theorem idx_rel {F ι S H} {x y z : D} {v w : V} (hK : C.K = X.K) (rh : RH C F ι S H) (rx : RelD C F ι x v) (ry : RelD C F ι y w) (e : idx S x y = some z) :
    (∃ u, RelD C F ι z u ∧ ∀ Q : VK, Q u H → rIx X.K v w H Q) ∨ ∃ a u, v = .ref a ∧ DGet H a w (some u) ∧ RelD C F ι z u := by
  unfold idx at e
  split at e
  · split at e
    · rename_i xs _ i
      obtain ⟨a, vs, rfl, h1, h2⟩ := rx
      obtain ⟨u, h3, h4⟩ := atI_relD h2 e
      exact .inl ⟨u, h4, fun Q q => .inr (.inl ⟨a, vs, i, u, rfl, ry, hK ▸ sqT_mono rh.fz h1, h3, q⟩)⟩
    · cases e
  · split at e
    · rename_i kvs hd
      obtain ⟨k, e1, e⟩ := Option.bind_eq_some_iff.mp e
      obtain ⟨x', e2, e⟩ := Option.map_eq_some_iff.mp e
      cases e
      obtain ⟨a, ks, rfl, h1, h2⟩ := dicD_rel rh rx hd
      cases y with
      | b yy =>
        obtain ⟨j, rk, rfl⟩ := keyB_rel (C := C) (F := F) e1 ry
        have q := dget_rel h2 rk
        rw [e2] at q
        cases h4 : valV ks j with
        | none => rw [h4] at q; exact q.elim
        | some u =>
          rw [h4] at q
          exact .inr ⟨a, u, rfl, .inl ⟨ks, j, h1, rfl, h4.symm⟩, q⟩
      | ref n => cases e1
      | mix n => cases e1
    · split at e
      · rename_i i
        obtain ⟨xs, e1, e⟩ := Option.bind_eq_some_iff.mp e
        obtain ⟨x', e2, e⟩ := Option.map_eq_some_iff.mp e
        cases e
        obtain ⟨a, vs, rfl, h1, h2⟩ := seqD_rel rh rx e1
        obtain ⟨u, h3, h4⟩ := atI_rel h2 e2
        refine .inl ⟨u, h4, fun Q q => ?_⟩
        rcases h1 with h1 | h1
        · exact .inl ⟨a, vs, i, u, rfl, ry, hK ▸ h1, h3, q⟩
        · exact .inr (.inl ⟨a, vs, i, u, rfl, ry, hK ▸ h1, h3, q⟩)
      · cases e
def rIxD : R2 := fun x y H Q => ∃ a v, x = .ref a ∧ DGet H a y (some v) ∧ Q v H
theorem ix_dic (hu : X.A.units + 1 < cLine) : IxR X rIxD := by
  intro value slice pins s σ H x y v u Q I rx ry h hs
  obtain ⟨a, w, rfl, g, q⟩ := h
  obtain rfl : v = Value.ref a := rx
  exact tail_any (dict_typeIs I g) PySem.F.slot_dict_getitem.lookup (d_getItem hu I g ry fun w' s3 I3 rw' => ⟨w, H, I3, rw', q⟩) hs
theorem me_idx (hK : C.K = X.K) (hu : X.A.units + 66 < cLine) (ha : ME X C P a ma) (hb : ME X C P b mb) (hs : PlainIx b := by intro _ _; rfl) : ME X C P (.Subscript a b pos) (.idx ma mb) := by
  refine (pe_ix (ix_seq.or (ix_dic (by omega))) ha hb hs).imp fun σ H Q h => ?_
  obtain ⟨F, ι, S, sl, d, S', rs, e, post⟩ := h
  unfold ev at e
  obtain ⟨⟨x, S1⟩, e1, e⟩ := Option.bind_eq_some_iff.mp e
  obtain ⟨⟨y, S2⟩, e2, e⟩ := Option.bind_eq_some_iff.mp e
  obtain ⟨z, e3, e⟩ := Option.map_eq_some_iff.mp e
  cases e
  refine rs.one e1 fun F1 ι1 v H1 l1 r1 q1 => r1.one e2 fun F2 ι2 w H2 l2 r2 q2 => ?_
  have p2 := post.mono (l1.trans l2)
  rcases idx_rel hK r2.rh (q1.mono l2) q2 e3 with ⟨u, h1, h2⟩ | ⟨a', u, h1, h2, h3⟩
  · exact .inl (h2 Q (p2.here r2.rh r2.fr h1))
  · exact .inr ⟨a', u, h1, h2, p2.here r2.rh r2.fr h3⟩
end
end M
/-! MC7: slices, attributes, built-ins, methods of built-ins. -/
namespace M
open PySem PySem.Spec PyProof.Rows L2
/-- the world: classes, fields -/
structure Wd (X : Cx) (C : Ct) (fo : Nat → Nat → Bool) : Prop where
  hK : C.K = X.K
  hu : X.A.units + 66 < cLine
  calm : X.calm = true
  cls : ∀ c D, C.cl c = some D → Cls X.K D
  noat : ∀ c D f x, C.cl c = some D → fo c f = true → C.N.flds[f]? = some x → NoAttr X.K D x
section
variable {X : Cx} {C : Ct} {P : Par} {pos : Pos} {a b c e : Expr} {ma mb mc : E} {rest es : List Expr} {ms : List E}
/-! ### slices -/
def rdO (C : Ct) (P : Par) (e : E) : TO := fun σ H Q => ∃ F ι S sl d S' i, RS C F ι sl S σ H ∧ ev P e sl S = some (d, S') ∧ part d = some i ∧ ∀ F' ι' H', Le F ι F' ι' → RH C F' ι' S' H' → Fre F' ι' → Q i H'
abbrev MO (X : Cx) (C : Ct) (P : Par) (e : Option Expr) (m : E) : Prop := PO X e (rdO C P m)
theorem mo_none : MO X C P none .nop := by
  refine ⟨fun pins s σ H Q I h => po_none.run pins s σ H Q I ?_⟩
  obtain ⟨F, ι, S, sl, d, S', i, rs, e, p, k⟩ := h
  cases e
  cases p
  exact k F ι H (Le.refl _ _) rs.rh rs.fr
theorem mo_some (ha : ME X C P a ma) : MO X C P (some a) ma := by
  refine ⟨fun pins s σ H Q I h => ?_⟩
  obtain ⟨F, ι, S, sl, d, S', i, rs, e, p, k⟩ := h
  rw [evalPart_some]
  refine thn (ha.run pins s σ H (fun v H' => (v = .non ∧ i = none ∨ ∃ j, v = .int j ∧ i = some j) ∧ Q i H') I ?_) fun u s1 ⟨x, H1, I1, r1, q1, q⟩ => ?_
  · refine rs.one e fun F1 ι1 v H1 l1 r1 q1 => ⟨?_, k F1 ι1 H1 l1 r1.rh r1.fr⟩
    unfold part at p
    split at p
    · cases p
      exact .inl ⟨q1, rfl⟩
    · cases p
      exact .inr ⟨_, q1, rfl⟩
    · cases p
  · rcases q1 with ⟨rfl, rfl⟩ | ⟨j, rfl, rfl⟩
    · cases (show u = Value.none from r1)
      exact ⟨none, H1, I1, .none, q⟩
    · obtain ⟨t, rfl⟩ := r1
      exact ⟨some j, H1, I1, .int j t, q⟩
theorem cut_rel {F : Hp} {xs : List B} {vs : List V} (lo hi : Option Int) (r : RelBs C F xs vs) : RelBs C F (cut xs lo hi) (cutV vs lo hi) := by
  unfold cut cutV
  rw [r.length]
  exact (r.drop _).take _
theorem lsq_rel {F ι S H} {d : D} {v : V} (rh : RH C F ι S H) {xs : List B} (r : RelD C F ι d v) (e : lsqD S d = some xs) : ∃ a vs, v = .ref a ∧ SqL C.K H a vs ∧ RelBs C F xs vs := by
  cases d with
  | b x =>
    cases x <;> try (cases e; done)
    · cases e
      obtain ⟨a, vs, h1, h2, h3⟩ := r
      exact ⟨a, vs, h1, .inl (.inl (rh.fz _ _ h2)), h3⟩
    · cases e
      obtain ⟨a, vs, h1, h2, h3⟩ := r
      exact ⟨a, vs, h1, sqL_mono rh.fz h2, h3⟩
  | mix xs => cases e
  | ref n =>
    obtain ⟨a, ha, rfl⟩ := r
    obtain ⟨o, ho, q⟩ := rh.obj ha
    unfold lsqD seqD at e
    dsimp only at e
    rw [ho] at e
    cases o <;> try (cases e; done)
    · cases e
      obtain ⟨vs, h1, h2⟩ := q
      exact ⟨a, vs, rfl, .inl (.inl h1), h2⟩
    · cases e
      obtain ⟨vs, h1, h2⟩ := q
      exact ⟨a, vs, rfl, .inl (.inl h1), h2⟩
theorem slc_rel {F ι S H} {x : D} {l h : D} {z : D} {v : V} {lo hi : Option Int} (hK : C.K = X.K) (rh : RH C F ι S H) (fr : Fre F ι) (rx : RelD C F ι x v) (el : part l = some lo) (eh : part h = some hi) (e : slc S x l h = some z) {Q : VK} (post : Post C F ι S z Q) :
    rSlL X.K v lo hi H Q ∨ rSlA X.K v lo hi H Q := by
  unfold slc at e
  rw [el, eh] at e
  dsimp only [Option.bind_some] at e
  split at e
  · rename_i xs
    cases e
    obtain ⟨a, vs, rfl, h1, h2⟩ := rx
    refine .inr ⟨a, vs, rfl, hK ▸ sqT_mono rh.fz h1, fun ⟨w1, w2⟩ => post.here rh fr ⟨a, vs, rfl, h1, ?_⟩, fun _ p hp => post.new rh fr hp ⟨p, _, rfl, .inl (.inl upd_same), RelBs.mono (rh.newF fr (u := .tup (cutV vs lo hi)) hp).2.2.1 _ _ (cut_rel lo hi h2)⟩⟩
    have : cut xs lo hi = xs := by
      unfold cut
      rw [h2.length, w1, w2, List.drop_zero, Nat.sub_zero, ← h2.length, List.take_length]
    rw [this]
    exact h2
  · rename_i hx
    obtain ⟨xs, e1, e⟩ := Option.map_eq_some_iff.mp e
    cases e
    have e1' : lsqD S x = some xs := by
      unfold lsqD
      split
      · exact (hx _ rfl).elim
      · exact e1
    obtain ⟨a, vs, rfl, h1, h2⟩ := lsq_rel rh rx e1'
    exact .inl ⟨a, vs, rfl, hK ▸ h1, fun p hp => post.new rh fr hp ⟨p, _, rfl, upd_same, RelBs.mono (rh.newF fr (u := .lst (cutV vs lo hi)) hp).2.2.1 _ _ (cut_rel lo hi h2)⟩⟩
theorem me_slc {lo hi : Option Expr} {ml mh : E} {p2 : Pos} (hK : C.K = X.K) (ha : ME X C P a ma) (hl : MO X C P lo ml) (hh : MO X C P hi mh) : ME X C P (.Subscript a (.Slice lo hi none p2) pos) (.slc ma ml mh) := by
  refine (pe_slice (sl_list.or sl_tupA) ha hl hh).imp fun σ H Q h => ?_
  obtain ⟨F, ι, S, sl, d, S', rs, e, post⟩ := h
  unfold ev at e
  obtain ⟨⟨x, S1⟩, e1, e⟩ := Option.bind_eq_some_iff.mp e
  obtain ⟨⟨y, S2⟩, e2, e⟩ := Option.bind_eq_some_iff.mp e
  obtain ⟨⟨z, S3⟩, e3, e⟩ := Option.bind_eq_some_iff.mp e
  obtain ⟨w, e4, e⟩ := Option.map_eq_some_iff.mp e
  cases e
  have hy : ∃ lo, part y = some lo := by
    cases q : part y with
    | some i => exact ⟨i, rfl⟩
    | none =>
      unfold slc at e4
      rw [q] at e4
      cases e4
  have hz : ∃ lo, part z = some lo := by
    cases q : part z with
    | some i => exact ⟨i, rfl⟩
    | none =>
      unfold slc at e4
      rw [q] at e4
      cases hy' : part y <;> rw [hy'] at e4 <;> cases e4
  obtain ⟨lo', hy⟩ := hy
  obtain ⟨hi', hz⟩ := hz
  refine rs.one e1 fun F1 ι1 v H1 l1 r1 q1 => ⟨F1, ι1, S1, sl, y, S2, lo', r1, e2, hy, fun F2 ι2 H2 l2 rh2 fr2 => ⟨F2, ι2, S2, sl, z, S3, hi', r1.to l2 rh2 fr2, e3, hz, fun F3 ι3 H3 l3 rh3 fr3 => ?_⟩⟩
  exact slc_rel hK rh3 fr3 ((q1.mono l2).mono l3) hy hz e4 (post.mono ((l1.trans l2).trans l3))
theorem me_rev {k : Nat} {p1 p2 p3 : Pos} (hK : C.K = X.K) (ha : ME X C P a ma) : ME X C P (.Subscript a (.Slice none none (some (.UnaryOp .USub (.Constant (.int 1) k p1) p2)) p3) pos) (.rev ma) := by
  refine (pe_revL ha).imp fun σ H Q h => ?_
  obtain ⟨F, ι, S, sl, d, S', rs, e, post⟩ := h
  unfold ev at e
  obtain ⟨⟨x, S1⟩, e1, e⟩ := Option.bind_eq_some_iff.mp e
  obtain ⟨xs, e2, e⟩ := Option.map_eq_some_iff.mp e
  cases e
  refine rs.one e1 fun F1 ι1 v H1 l1 r1 q1 => ?_
  obtain ⟨a, vs, rfl, h1, h2⟩ := lstD_rel r1.rh q1 e2
  exact ⟨a, vs, rfl, .inl (.inl h1), fun p hp => (post.mono l1).new r1.rh r1.fr hp ⟨p, _, rfl, upd_same, RelBs.mono (r1.rh.newF r1.fr (u := .lst vs.reverse) hp).2.2.1 _ _ h2.reverse⟩⟩
theorem me_cat (ha : ME X C P a ma) (hb : ME X C P b mb) : ME X C P (.BinOp a .Add b pos) (.cat ma mb) := by
  refine (pe_op op_cat ha hb).imp fun σ H Q h => ?_
  obtain ⟨F, ι, S, sl, d, S', rs, e, post⟩ := h
  unfold ev at e
  obtain ⟨⟨x, S1⟩, e1, e⟩ := Option.bind_eq_some_iff.mp e
  obtain ⟨⟨y, S2⟩, e2, e⟩ := Option.bind_eq_some_iff.mp e
  obtain ⟨xs, e3, e⟩ := Option.bind_eq_some_iff.mp e
  obtain ⟨ys, e4, e⟩ := Option.bind_eq_some_iff.mp e
  refine rs.one e1 fun F1 ι1 v H1 l1 r1 q1 => r1.one e2 fun F2 ι2 w H2 l2 r2 q2 => ?_
  obtain ⟨p, vs, rfl, h1, h2⟩ := lstD_rel r2.rh (q1.mono l2) e3
  obtain ⟨q, ws, rfl, h3, h4⟩ := lstD_rel r2.rh q2 e4
  have hl := newL_len e
  refine ⟨p, q, vs, ws, rfl, rfl, h1, h3, SZ_le (by rw [← h2.length, ← h4.length, ← List.length_append]; exact hl), fun p hp => newL_post e r2.rh r2.fr (post.mono (l1.trans l2)) (h2.append h4) hp⟩
/-! ### attributes -/
theorem flds_inj {f g : Nat} {x : PySem.Str} (h : C.N.flds[f]? = some x) (h' : C.N.flds[g]? = some x) : f = g := by
  obtain ⟨h1, e1⟩ := List.getElem?_eq_some_iff.mp h
  obtain ⟨h2, e2⟩ := List.getElem?_eq_some_iff.mp h'
  exact (List.getElem_inj C.N.fnd).mp (e1.trans e2.symm)
theorem look_cons {α : Type} {j x : PySem.Str} {v : α} {r : List (PySem.Str × α)} : List.lookup x ((j, v) :: r) = if x = j then some v else r.lookup x := by
  rw [List.lookup_cons]
  by_cases h : x = j
  · subst h
    simp
  · have : (x == j) = false := by simp [h]
    rw [this, if_neg h]
theorem fget_relf {F : Hp} {f : Nat} {x : PySem.Str} (hf : C.N.flds[f]? = some x) : ∀ {fs : List (Nat × B)} {gs : List (PySem.Str × V)} {y : B}, RelBf C F fs gs → fget fs f = some y → ∃ v, gs.lookup x = some v ∧ RelB C F y v
  | [], _, _, _, e => by cases e
  | (g, w) :: r, _, y, q, e => by
    obtain ⟨⟨j, v⟩, rr, rfl, ⟨hj, h2⟩, h3⟩ := q
    unfold fget at e
    rw [look_cons]
    split at e
    · rename_i hg
      cases e
      subst hg
      cases hf.symm.trans hj
      exact ⟨v, if_pos rfl, h2⟩
    · rename_i hg
      rw [if_neg (fun z : x = j => hg (flds_inj hf (by rw [z]; exact hj)))]
      exact fget_relf hf h3 e
theorem fget_relD {F : Hp} {ι : List Addr} {f : Nat} {x : PySem.Str} (hf : C.N.flds[f]? = some x) : ∀ {fs : List (Nat × D)} {gs : List (PySem.Str × V)} {y : D}, RelDf C F ι fs gs → fget fs f = some y → ∃ v, gs.lookup x = some v ∧ RelD C F ι y v
  | [], _, _, _, e => by cases e
  | (g, w) :: r, _, y, q, e => by
    obtain ⟨j, v, rr, rfl, hj, h2, h3⟩ := q
    unfold fget at e
    rw [look_cons]
    split at e
    · rename_i hg
      cases e
      subst hg
      cases hf.symm.trans hj
      exact ⟨v, if_pos rfl, h2⟩
    · rename_i hg
      rw [if_neg (fun z : x = j => hg (flds_inj hf (by rw [z]; exact hj)))]
      exact fget_relD hf h3 e
theorem getf_rel {fo : Nat → Nat → Bool} (W : Wd X C fo) {F ι S H} {x z : D} {v : V} {f : Nat} {nm : PySem.Str} (hf : C.N.flds[f]? = some nm) (rh : RH C F ι S H) (rx : RelD C F ι x v) (e : getf fo S x f = some z) :
    ∃ a D dx fs u, v = .ref a ∧ H a = some (.ins D dx fs) ∧ Cls X.K D ∧ NoAttr X.K D nm ∧ fs.lookup nm = some u ∧ RelD C F ι z u := by
  unfold getf at e
  split at e
  · rename_i c fs
    split at e
    · rename_i ho
      obtain ⟨y, e1, e⟩ := Option.map_eq_some_iff.mp e
      cases e
      obtain ⟨a, D, dx, gs, rfl, hc, h1, h2, h3⟩ := rx
      obtain ⟨u, h4, h5⟩ := fget_relf hf h3 e1
      exact ⟨a, D, dx, gs, u, rfl, rh.fz _ _ h1, W.cls c D hc, W.noat c D f nm hc ho hf, h4, h5⟩
    · cases e
  · rename_i n
    obtain ⟨a, ha, rfl⟩ := rx
    obtain ⟨o, ho, q⟩ := rh.obj ha
    rw [ho] at e
    cases o <;> try (cases e; done)
    rename_i c fs
    dsimp only at e
    split at e
    · rename_i hO
      obtain ⟨D, dx, gs, hc, h1, h2, h3⟩ := q
      obtain ⟨u, h4, h5⟩ := fget_relD hf h3 e
      exact ⟨a, D, dx, gs, u, rfl, h1, W.cls c D hc, W.noat c D f nm hc hO hf, h4, h5⟩
    · cases e
  · cases e
theorem me_att (W : Wd X C P.fo) (f : Nat) {nm : PySem.Str} (ha : ME X C P a ma) (hf : C.N.flds[f]? = some nm := by rfl) (hb : attributeBase a nm X.env (eval a X.env) = eval a X.env := by rfl) : ME X C P (.Attribute a nm pos) (.att ma f) := by
  refine (pe_fld ha hb).imp fun σ H Q h => ?_
  obtain ⟨F, ι, S, sl, d, S', rs, e, post⟩ := h
  unfold ev at e
  obtain ⟨⟨x, S1⟩, e1, e⟩ := Option.bind_eq_some_iff.mp e
  obtain ⟨z, e2, e⟩ := Option.map_eq_some_iff.mp e
  cases e
  refine rs.one e1 fun F1 ι1 v H1 l1 r1 q1 => ?_
  obtain ⟨a, D, dx, fs, u, h1, h2, h3, h4, h5, h6⟩ := getf_rel W hf r1.rh q1 e2
  exact ⟨a, D, dx, fs, u, h1, h2, h3, h4, h5, (post.mono l1).here r1.rh r1.fr h6⟩
end
end M
/-! MC8: built-in functions, methods of built-ins. -/
namespace M
open PySem PySem.Spec PyProof.Rows L2
/-- what a built-in's call says -/
def BiR (C : Ct) (b : Bi) (m : Bool) (r : List V → Hp → VK → Prop) : Prop :=
  ∀ F ι S H ds vs d S' Q, RH C F ι S H → Fre F ι → RelDs C F ι ds vs → bi S b m ds = some (d, S') → Post C F ι S' d Q → r vs H fun v H' => Gh H' (Q v)
theorem pure_of {S S' : Store} {x : Option D} {d : D} (e : pure' S x = some (d, S')) : x = some d ∧ S' = S := by
  unfold pure' at e
  obtain ⟨y, h, e⟩ := Option.map_eq_some_iff.mp e
  cases e
  exact ⟨h, rfl⟩
theorem RelDs.one {C : Ct} {F : Hp} {ι : List Addr} {x : D} {vs : List V} (r : RelDs C F ι [x] vs) : ∃ v, vs = [v] ∧ RelD C F ι x v := by
  obtain ⟨v, r, rfl, h, h2⟩ := r
  cases h2
  exact ⟨v, rfl, h⟩
theorem RelDs.two {C : Ct} {F : Hp} {ι : List Addr} {x y : D} {vs : List V} (r : RelDs C F ι [x, y] vs) : ∃ v w, vs = [v, w] ∧ RelD C F ι x v ∧ RelD C F ι y w := by
  obtain ⟨v, r, rfl, h, h2⟩ := r
  obtain ⟨w, rfl, q⟩ := h2.one
  exact ⟨v, w, rfl, h, q⟩
/-! ### the sorted list is one alone -/
theorem insI_perm (x : Int) : ∀ l, (insI x l).Perm (x :: l)
  | [] => List.Perm.refl _
  | y :: r => by
    unfold insI
    split
    · exact List.Perm.refl _
    · exact ((insI_perm x r).cons y).trans (List.Perm.swap x y r)
theorem sortI_perm : ∀ l, (sortI l).Perm l
  | [] => List.Perm.refl _
  | x :: r => (insI_perm x _).trans ((sortI_perm r).cons x)
theorem insI_sorted (x : Int) : ∀ l, l.Pairwise (· ≤ ·) → (insI x l).Pairwise (· ≤ ·)
  | [], _ => by simp [insI]
  | y :: r, h => by
    unfold insI
    obtain ⟨h1, h2⟩ := List.pairwise_cons.mp h
    split
    · rename_i hx
      exact List.pairwise_cons.mpr ⟨fun z hz => by
        rcases List.mem_cons.mp hz with e | e
        · rw [e]; exact hx
        · exact Int.le_trans hx (h1 z e), h⟩
    · rename_i hx
      refine List.pairwise_cons.mpr ⟨fun z hz => ?_, insI_sorted x r h2⟩
      rcases List.mem_cons.mp ((insI_perm x r).mem_iff.mp hz) with e | e
      · rw [e]; omega
      · exact h1 z e
theorem sortI_sorted : ∀ l, (sortI l).Pairwise (· ≤ ·)
  | [] => List.Pairwise.nil
  | x :: r => insI_sorted x _ (sortI_sorted r)
theorem sortI_eq {l ns : List Int} (p : ns.Perm l) (s : ns.Pairwise (· ≤ ·)) : ns = sortI l :=
  List.Perm.eq_of_pairwise (le := (· ≤ ·)) (fun a b _ _ h1 h2 => Int.le_antisymm h1 h2) s (sortI_sorted l) (p.trans (sortI_perm l).symm)
theorem minI_spec : ∀ (r : List Int) (x : Int), minI x r ∈ x :: r ∧ ∀ y ∈ x :: r, minI x r ≤ y
  | [], x => ⟨by simp [minI], fun y hy => by simp at hy; simp [minI, hy]⟩
  | z :: r, x => by
    unfold minI
    obtain ⟨h1, h2⟩ := minI_spec r (if z < x then z else x)
    refine ⟨?_, fun y hy => ?_⟩
    · rcases List.mem_cons.mp h1 with e | e
      · rw [e]
        split <;> simp
      · exact List.mem_cons_of_mem _ (List.mem_cons_of_mem _ e)
    · have k := h2 _ List.mem_cons_self
      rcases List.mem_cons.mp hy with e | e
      · rw [e]
        split at k <;> rename_i hh
        · rw [if_pos hh]; omega
        · rw [if_neg hh]; exact k
      · rcases List.mem_cons.mp e with e | e
        · rw [e]
          split at k <;> rename_i hh
          · rw [if_pos hh]; exact k
          · rw [if_neg hh]; omega
        · exact h2 y (List.mem_cons_of_mem _ e)
theorem maxI_spec : ∀ (r : List Int) (x : Int), maxI x r ∈ x :: r ∧ ∀ y ∈ x :: r, y ≤ maxI x r
  | [], x => ⟨by simp [maxI], fun y hy => by simp at hy; simp [maxI, hy]⟩
  | z :: r, x => by
    unfold maxI
    obtain ⟨h1, h2⟩ := maxI_spec r (if x < z then z else x)
    refine ⟨?_, fun y hy => ?_⟩
    · rcases List.mem_cons.mp h1 with e | e
      · rw [e]
        split <;> simp
      · exact List.mem_cons_of_mem _ (List.mem_cons_of_mem _ e)
    · have k := h2 _ List.mem_cons_self
      rcases List.mem_cons.mp hy with e | e
      · rw [e]
        split at k <;> rename_i hh
        · rw [if_pos hh]; omega
        · rw [if_neg hh]; exact k
      · rcases List.mem_cons.mp e with e | e
        · rw [e]
          split at k <;> rename_i hh
          · rw [if_pos hh]; exact k
          · rw [if_neg hh]; omega
        · exact h2 y (List.mem_cons_of_mem _ e)
section
variable {X : Cx} {C : Ct} {P : Par} {pos p : Pos} {a b c e : Expr} {ma mb mc : E} {rest es : List Expr} {ms : List E} {x : PySem.Str} {m : Bool}
theorem me_cb {id : String} (B : Bi) {r : List V → Hp → VK → Prop} (br : BiR C B m r) (hc : CallR X (.builtin id) r) (hg : Gl X x) (hm : X.mg x = none) (hv : bootBuiltins x = some (.builtin id)) (ha : MA X C P (e :: es) ms) (hn : x ≠ "__name__" := by decide) (hdb : (x == ("__debug__" : PySem.Str)) = false := by decide)
    (he : starEach (e :: es) X.env = (false, eval e X.env) :: starEach es X.env := by rfl) (hpl : (backTo pos (starEach es X.env)).any (·.1) = false := by rfl) : ME X C P (.Call (.Name x p) (e :: es) [] pos) (.bi B m ms) := by
  refine (pe_gh (pe_callB hc hg hm hv ha hn hdb he hpl)).imp fun σ H Q h => ?_
  obtain ⟨F, ι, S, sl, d, S', rs, e, post⟩ := h
  unfold ev at e
  obtain ⟨⟨ds, S1⟩, e1, e⟩ := Option.bind_eq_some_iff.mp e
  exact rs.args e1 fun F1 ι1 vs H1 l1 r1 q1 => br F1 ι1 S1 H1 ds vs d S' Q r1.rh r1.fr q1 e (post.mono l1)
theorem me_ct {T : String} (B : Bi) {r : List V → Hp → VK → Prop} (br : BiR C B m r) (hc : CallR X (.type T) r) (hg : Gl X x) (hm : X.mg x = none) (hv : bootBuiltins x = some (.type T)) (ha : MA X C P (e :: es) ms) (hn : x ≠ "__name__" := by decide) (hdb : (x == ("__debug__" : PySem.Str)) = false := by decide)
    (he : starEach (e :: es) X.env = (false, eval e X.env) :: starEach es X.env := by rfl) (hpl : (backTo pos (starEach es X.env)).any (·.1) = false := by rfl) : ME X C P (.Call (.Name x p) (e :: es) [] pos) (.bi B m ms) := by
  refine (pe_gh (pe_callTy hc hg hm hv ha hn hdb he hpl)).imp fun σ H Q h => ?_
  obtain ⟨F, ι, S, sl, d, S', rs, e, post⟩ := h
  unfold ev at e
  obtain ⟨⟨ds, S1⟩, e1, e⟩ := Option.bind_eq_some_iff.mp e
  exact rs.args e1 fun F1 ι1 vs H1 l1 r1 q1 => br F1 ι1 S1 H1 ds vs d S' Q r1.rh r1.fr q1 e (post.mono l1)
/-! ### the built-ins -/
def rLenD : List V → Hp → VK → Prop := fun xs H Q => ∃ a kvs, xs = [V.ref a] ∧ Rd H a (.dK kvs) ∧ Q (.int kvs.length) H
theorem call_lenR : CallR X (.builtin "len") rLenD := by
  intro pins s σ H xs us Q I r h
  obtain ⟨a, kvs, rfl, ha, q⟩ := h
  rw [Vals.ref1 r]
  exact d_len I ha fun t s' I' => ⟨.int kvs.length, H, I', ⟨t, rfl⟩, q⟩
def rLenA (K : PySem.W.Frag) : List V → Hp → VK → Prop := fun xs H Q => (∃ p ys, xs = [.ref p] ∧ (SqL K H p ys ∨ SqT K H p ys) ∧ Q (.int ys.length) H) ∨ rLenD xs H Q
theorem cr_len : CallR X (.builtin "len") (rLenA X.K) := call_len_seq.or call_lenR
theorem br_len (hK : C.K = X.K) : BiR C .len m (rLenA X.K) := by
  intro F ι S H ds vs d S' Q rh fr rds e post
  unfold bi at e
  split at e <;> rename_i he <;> try (cases he; done)
  obtain ⟨v, rfl, rx⟩ := rds.one
  obtain ⟨e, rfl⟩ := pure_of e
  split at e
  · cases e
    obtain ⟨a, vs, rfl, h1, h2⟩ := rx
    refine .inl ⟨a, vs, rfl, .inr (hK ▸ sqT_mono rh.fz h1), .here (post.here rh fr ?_)⟩
    show V.int _ = _
    rw [h2.length]
  · split at e
    · rename_i hd
      cases e
      obtain ⟨a, ks, rfl, h1, h2⟩ := dicD_rel rh rx hd
      refine .inr ⟨a, ks, rfl, h1, .here (post.here rh fr ?_)⟩
      show V.int _ = _
      rw [h2.length]
    · obtain ⟨xs, e1, e⟩ := Option.map_eq_some_iff.mp e
      cases e
      obtain ⟨a, vs, rfl, h1, h2⟩ := seqD_rel rh rx e1
      refine .inl ⟨a, vs, rfl, hK ▸ h1, .here (post.here rh fr ?_)⟩
      show V.int _ = _
      rw [h2.length]
  · cases e
theorem br_int : BiR C .int m (fun xs H Q => (∃ i, xs = [.int i] ∧ Q (.int i) H) ∨ ∃ k, xs = [.bl k] ∧ Q (.int (if k then 1 else 0)) H) := by
  intro F ι S H ds vs d S' Q rh fr rds e post
  unfold bi at e
  split at e <;> rename_i he <;> try (cases he; done)
  · cases e
    obtain ⟨v, rfl, rx⟩ := rds.one
    cases (show v = _ from rx)
    exact .inl ⟨_, rfl, .here (post.here rh fr rfl)⟩
  · cases e
    obtain ⟨v, rfl, rx⟩ := rds.one
    cases (show v = _ from rx)
    exact .inr ⟨_, rfl, .here (post.here rh fr rfl)⟩
  · cases e
/-- sum(t) of a tuple of numbers -/
def rSumT (K : PySem.W.Frag) : List V → Hp → VK → Prop := fun vs H Q => ∃ (a : Addr) (ns : List Int), vs = [V.ref a] ∧ SqT K H a (ns.map V.int) ∧ Q (.int ns.sum) H
theorem cr_sumT (hc : X.calm = true) : CallR X (.builtin "sum") (rSumT X.K) := by
  intro pins s σ H vs us Q I r h
  obtain ⟨a, ns, rfl, hs, q⟩ := h
  rw [Vals.ref1 r]
  obtain ⟨its, rv, ht, _⟩ := I.tuple hs
  have hi := Vals.ints rv
  obtain ⟨xs, hx⟩ := hi.allInts.items
  have hn : numsOf its.toArray.toList = ns := by rw [show its.toArray.toList = its from rfl, hi.numsOf]
  rw [hx] at ht hn
  rw [nums_intItems] at hn
  refine PySem.W.ktm_sumG (I.ok.hd hc) ht fun h' tk t' hk => ?_
  rw [preSum_eq, List.take_of_length_le (by simp), hn]
  exact ⟨.int _, H, I.kept hk, ⟨_, rfl⟩, q⟩
def rSumA (K : PySem.W.Frag) : List V → Hp → VK → Prop := fun vs H Q => rSum K vs H Q ∨ rSumT K vs H Q
theorem cr_sumA (hc : X.calm = true) : CallR X (.builtin "sum") (rSumA X.K) := (cr_sum hc).or (cr_sumT hc)
theorem br_sum (hK : C.K = X.K) : BiR C .sum m (rSumA X.K) := by
  intro F ι S H ds vs d S' Q rh fr rds e post
  unfold bi at e
  split at e <;> rename_i he <;> try (cases he; done)
  · obtain ⟨v, rfl, rx⟩ := rds.one
    obtain ⟨e, rfl⟩ := pure_of e
    obtain ⟨xs, e1, e⟩ := Option.bind_eq_some_iff.mp e
    obtain ⟨ns, e2, e⟩ := Option.map_eq_some_iff.mp e
    cases e
    obtain ⟨a, vs, rfl, h1, h2⟩ := seqD_rel rh rx e1
    cases h2.ints e2
    rcases h1 with h1 | h1
    · exact .inl ⟨a, ns, rfl, hK ▸ h1, .here (post.here rh fr rfl)⟩
    · exact .inr ⟨a, ns, rfl, hK ▸ h1, .here (post.here rh fr rfl)⟩
  · cases e
/-- min(d), a dict with int keys -/
def rMinK : List V → Hp → VK → Prop := fun vs H Q => ∃ (a : Addr) (kvs : List (L2.Key × V)) (ns : List Int), vs = [V.ref a] ∧ Rd H a (.dK kvs) ∧ kvs.map (·.1) = ns.map Sum.inl ∧ 0 < ns.length ∧ ∀ m, m ∈ ns → (∀ y, y ∈ ns → m ≤ y) → Q (.int m) H
theorem cr_minK (hc : X.calm = true) : CallR X (.builtin "min") rMinK := by
  intro pins s σ H xs us Q I r h
  obtain ⟨a, kvs, ns, rfl, ha, hk, hne, q⟩ := h
  rw [Vals.ref1 r]
  obtain ⟨_, hsys, vs, rel, dof⟩ := dk_rd I.hok ha
  obtain ⟨ep, dat⟩ := dof.dictAt
  have hlv : vs.length = ns.length := by
    have e1 := congrArg List.length hk
    rw [List.length_map, List.length_map] at e1
    rw [← e1]
    exact (KV.length rel).symm
  have hkey : ∀ {kvs : List (L2.Key × V)} {vs : List (L2.Key × Value)}, KV kvs vs → kvs.map (·.1) = vs.map (·.1) := fun r => by
    unfold KV at r
    induction r with
    | nil => rfl
    | cons h t ih => rw [List.map_cons, List.map_cons, ih, h.1]
  have hkv := (hkey rel).symm.trans hk
  have hval : ∀ (i : Nat) (v : Value), (∃ k x, vs[i]? = some (k, x) ∧ (mixKind X.prog X.w).is k v = true) → ∃ t, v = Value.int (ns.getD i 0) t := fun i v ⟨k, x, hi, hv⟩ => by
    have e1 : (vs.map (·.1))[i]? = some k := by rw [List.getElem?_map, hi]; rfl
    rw [hkv, List.getElem?_map] at e1
    obtain ⟨j, hj, e2⟩ := Option.map_eq_some_iff.mp e1
    subst e2
    obtain ⟨t, e3⟩ := relV_key (show keyIs (Sum.inl j) v = true from hv)
    refine ⟨t, ?_⟩
    rw [e3, List.getD_eq_getElem?_getD, hj] <;> rfl
  have hlt : a < s.heap.objs.size := by
    obtain ⟨ob, es, ho, _⟩ := id dat
    exact Heap.lt_size ho
  refine call_min_walk (wpAny_pyIter_dict hsys dat ?_)
  refine ⟨_, _, _, _, _, _, _, rfl, Walks.dictKeys (knd := mixKind X.prog X.w) (A := X.A.in1) (I.ok.hd hc) s.heap.objs.size a (Nat.ne_of_lt hlt) vs ep,
    ⟨⟨_, Heap.get?_push_size _ rfl, rfl, rfl⟩, dat.keep fun b u e => Heap.get?_push_of_some _ e⟩, fun b hb => ?_, by rw [hlv]; exact hne, CmpOf.ints_lt (fun i => ns.getD i 0) hval, fun v h' tk hP hk => ?_⟩
  · show b < (s.heap.push _).objs.size
    rw [Heap.size_push]
    rcases List.mem_cons.mp hb with e | hb
    · rw [e]
      exact Nat.lt_succ_self _
    · have e : b = a := List.mem_singleton.mp hb
      rw [e]
      exact Nat.lt_succ_of_lt hlt
  · obtain ⟨t, rfl⟩ := hval _ v hP
    obtain ⟨b1, b2⟩ := argBest_lt (fun i => ns.getD i 0) (vs.length - 1)
    refine ⟨.int _, H, I.kept (t' := tk) fun b u e => hk b u (fun hmem => ?_) (Heap.get?_push_of_some _ e), ⟨t, rfl⟩, q _ ?_ fun y hy => ?_⟩
    · have e1 : b = s.heap.objs.size := List.mem_singleton.mp hmem
      have e2 := Heap.lt_size e
      rw [e1] at e2
      exact absurd e2 (Nat.lt_irrefl _)
    · exact PySem.getD_mem (by omega)
    · obtain ⟨j, hj, rfl⟩ := PySem.mem_getD hy
      exact b2 j (by omega)
/-- min(t) of a tuple of numbers -/
def rMinT (K : PySem.W.Frag) : List V → Hp → VK → Prop := fun vs H Q => ∃ (a : Addr) (is : List Int), vs = [V.ref a] ∧ SqT K H a (is.map V.int) ∧ 0 < is.length ∧ ∀ m, m ∈ is → (∀ j ∈ is, m ≤ j) → Q (.int m) H
theorem cr_minT (hc : X.calm = true) : CallR X (.builtin "min") (rMinT X.K) := by
  intro pins s σ H vs us Q I r h
  obtain ⟨a, is, rfl, hs, hne, q⟩ := h
  rw [Vals.ref1 r]
  obtain ⟨its, rv, ht, _⟩ := I.tuple hs
  have hlt : a < s.heap.objs.size := by
    obtain ⟨_, e, _⟩ := id ht
    exact Heap.lt_size e
  have hlen : its.length = is.length := by
    have := rv.length
    rw [List.length_map] at this
    exact this.symm
  have hval : ∀ (i : Nat) (v : Value), its.toArray[i]? = some v → ∃ t, v = Value.int (is.getD i 0) t := fun i v hv => by
    have hv' : its[i]? = some v := by simpa using hv
    have hi : i < is.length := by
      have := (List.getElem?_eq_some_iff.mp hv').1
      omega
    obtain ⟨u, hu, ru⟩ := rv.get (i := i) (x := V.int (is.getD i 0)) (by rw [List.getElem?_map, List.getD_eq_getElem?_getD, List.getElem?_eq_getElem hi] <;> rfl)
    rw [hv'] at hu
    cases hu
    exact ru
  refine call_min_walk (wpAny_pyIter_tuple ht ?_)
  refine ⟨_, _, _, _, _, _, _, rfl, Walks.tuple (A := X.A.in1) (I.ok.hd hc) s.heap.objs.size a (Nat.ne_of_lt hlt) its.toArray,
    ⟨⟨_, Heap.get?_push_size _ rfl, rfl, rfl⟩, ht.push _⟩, fun b hb => ?_, by rw [List.size_toArray]; omega, CmpOf.ints_lt (fun i => is.getD i 0) hval, fun v h' tk hP hk => ?_⟩
  · show b < (s.heap.push _).objs.size
    rw [Heap.size_push]
    rcases List.mem_cons.mp hb with e | hb
    · rw [e]
      exact Nat.lt_succ_self _
    · rw [List.mem_singleton.mp hb]
      exact Nat.lt_succ_of_lt hlt
  · obtain ⟨t, rfl⟩ := hval _ v hP
    obtain ⟨b1, b2⟩ := argBest_lt (fun i => is.getD i 0) (its.toArray.size - 1)
    rw [List.size_toArray, hlen] at b1 b2
    refine ⟨.int _, H, I.kept (t' := tk) fun b u e => hk b u (fun hmem => ?_) (Heap.get?_push_of_some _ e), ⟨t, rfl⟩, q _ ?_ fun j hj => ?_⟩
    · have e1 : b = s.heap.objs.size := List.mem_singleton.mp hmem
      have e2 := Heap.lt_size e
      rw [e1] at e2
      exact absurd e2 (Nat.lt_irrefl _)
    · rw [List.size_toArray, hlen]
      have hb : argBest (fun i j => decide (is.getD i 0 < is.getD j 0)) (is.length - 1) < is.length := by omega
      rw [List.getD_eq_getElem?_getD, List.getElem?_eq_getElem hb]
      exact List.getElem_mem hb
    · obtain ⟨i, hi, e⟩ := List.mem_iff_getElem.mp hj
      have e2 : is.getD i 0 = j := by rw [List.getD_eq_getElem?_getD, List.getElem?_eq_getElem hi, ← e] <;> rfl
      rw [← e2, List.size_toArray, hlen]
      exact b2 i (by omega)
def rMinA (K : PySem.W.Frag) : List V → Hp → VK → Prop := fun vs H Q => (rMin K vs H Q ∨ rMinK vs H Q) ∨ rMinT K vs H Q
theorem cr_minA (hc : X.calm = true) : CallR X (.builtin "min") (rMinA X.K) := ((cr_min hc).or (cr_minK hc)).or (cr_minT hc)
theorem br_max (hK : C.K = X.K) : BiR C .max1 m (rMax X.K) := by
  intro F ι S H ds vs d S' Q rh fr rds e post
  unfold bi at e
  split at e <;> rename_i he <;> try (cases he; done)
  · obtain ⟨v, rfl, rx⟩ := rds.one
    obtain ⟨e, rfl⟩ := pure_of e
    obtain ⟨xs, e1, e⟩ := Option.bind_eq_some_iff.mp e
    obtain ⟨ns, e2, e⟩ := Option.bind_eq_some_iff.mp e
    obtain ⟨a, vs, rfl, h1, h2⟩ := lsq_rel rh rx e1
    cases h2.ints e2
    split at e
    · cases e
    · rename_i n r
      cases e
      refine ⟨a, n :: r, rfl, hK ▸ h1, by simp, fun k hk hm => .here (post.here rh fr ?_)⟩
      obtain ⟨g1, g2⟩ := maxI_spec r n
      show V.int _ = _
      rw [show k = maxI n r from Int.le_antisymm (g2 _ hk) (hm _ g1)]
  · cases e
theorem br_min2 : BiR C .min2 m (fun xs H Q => ∃ i j, xs = [.int i, .int j] ∧ Q (.int (if j < i then j else i)) H) := by
  intro F ι S H ds vs d S' Q rh fr rds e post
  unfold bi at e
  split at e <;> rename_i he <;> try (cases he; done)
  · cases e
    obtain ⟨v, w, rfl, rx, ry⟩ := rds.two
    cases (show v = _ from rx)
    cases (show w = _ from ry)
    exact ⟨_, _, rfl, .here (post.here rh fr rfl)⟩
  · cases e
theorem br_max2 : BiR C .max2 m (fun xs H Q => ∃ i j, xs = [.int i, .int j] ∧ Q (.int (if j > i then j else i)) H) := by
  intro F ι S H ds vs d S' Q rh fr rds e post
  unfold bi at e
  split at e <;> rename_i he <;> try (cases he; done)
  · cases e
    obtain ⟨v, w, rfl, rx, ry⟩ := rds.two
    cases (show v = _ from rx)
    cases (show w = _ from ry)
    exact ⟨_, _, rfl, .here (post.here rh fr rfl)⟩
  · cases e
theorem newL_gh {F ι S H} {m : Bool} {xs : List B} {vs : List V} {d : D} {S' : Store} {Q : VK} (e : newL S m xs = some (d, S')) (rh : RH C F ι S H) (fr : Fre F ι) (post : Post C F ι S' d Q) (r : RelBs C F xs vs) : ∀ p, H p = none → Gh (upd H p (.lst vs)) (Q (.ref p)) :=
  fun p hp => .here (newL_post e rh fr post r hp)
def rSortedA (K : PySem.W.Frag) : List V → Hp → VK → Prop := fun xs H Q => rSortedI K xs H Q ∨ (∃ (a : Addr) (kvs : List (L2.Key × V)) (ks : List Int), xs = [V.ref a] ∧ Rd H a (.dK kvs) ∧ kvs.map (·.1) = ks.map Sum.inl ∧ ks.length < 64 ∧
    ∀ (ys : List Int) (p : Addr), ys.Perm ks → ys.Pairwise (· ≤ ·) → H p = none → Q (.ref p) (upd H p (.lst (ys.map V.int))))
theorem cr_sortedA (hc : X.calm = true) : CallR X (.builtin "sorted") (rSortedA X.K) := cr_sortedI.or (call_sortedDI hc)
theorem int_keys {F : Hp} : ∀ {kvs : List (Kd × B)} {ks : List (L2.Key × V)} {ns : List Int}, RelBk C F kvs ks → intsB (keysOf kvs) = some ns → ks.map (·.1) = ns.map Sum.inl
  | [], _, ns, r, e => by
    cases (show _ = [] from r)
    cases e
    rfl
  | (k, x) :: xs, _, ns, r, e => by
    obtain ⟨q, r, rfl, h1, h2⟩ := r
    obtain ⟨h1, _⟩ := relKp.mp h1
    cases k with
    | s n => cases e
    | i n =>
      have e' : (intsB (keysOf xs)).map (n :: ·) = some ns := e
      obtain ⟨ns', e1, e'⟩ := Option.map_eq_some_iff.mp e'
      cases e'
      rw [List.map_cons, List.map_cons, int_keys h2 e1]
      rw [show q.1 = .inl n from h1]
theorem br_min (hK : C.K = X.K) : BiR C .min1 m (rMinA X.K) := by
  intro F ι S H ds vs d S' Q rh fr rds e post
  unfold bi at e
  split at e <;> rename_i he <;> try (cases he; done)
  · obtain ⟨v, rfl, rx⟩ := rds.one
    obtain ⟨e, rfl⟩ := pure_of e
    split at e
    · rename_i kvs hd
      obtain ⟨ns, e2, e⟩ := Option.bind_eq_some_iff.mp e
      obtain ⟨a, ks, rfl, h1, h2⟩ := dicD_rel rh rx hd
      split at e
      · cases e
      · rename_i n r
        cases e
        refine .inl (.inr ⟨a, ks, n :: r, rfl, h1, int_keys h2 e2, by simp, fun k hk hm => .here (post.here rh fr ?_)⟩)
        obtain ⟨g1, g2⟩ := minI_spec r n
        show V.int _ = _
        rw [show k = minI n r from Int.le_antisymm (hm _ g1) (g2 _ hk)]
    · obtain ⟨xs, e1, e⟩ := Option.bind_eq_some_iff.mp e
      obtain ⟨ns, e2, e⟩ := Option.bind_eq_some_iff.mp e
      obtain ⟨a, vs, rfl, h1, h2⟩ := seqD_rel rh rx e1
      cases h2.ints e2
      split at e
      · cases e
      · rename_i n r
        cases e
        have last : ∀ k, k ∈ n :: r → (∀ y, y ∈ n :: r → k ≤ y) → Gh H (Q (V.int k)) := fun k hk hm => .here (post.here rh fr (by
          obtain ⟨g1, g2⟩ := minI_spec r n
          show V.int _ = _
          rw [show k = minI n r from Int.le_antisymm (hm _ g1) (g2 _ hk)]))
        rcases h1 with h1 | h1
        · exact .inl (.inl ⟨a, n :: r, rfl, hK ▸ h1, by simp, last⟩)
        · exact .inr ⟨a, n :: r, rfl, hK ▸ h1, by simp, last⟩
  · cases e
theorem br_sorted (hK : C.K = X.K) : BiR C .sorted m (rSortedA X.K) := by
  intro F ι S H ds vs d S' Q rh fr rds e post
  unfold bi at e
  split at e <;> rename_i he <;> try (cases he; done)
  · obtain ⟨v, rfl, rx⟩ := rds.one
    split at e
    · rename_i kvs hd
      split at e
      · rename_i h64
        obtain ⟨ns, e1, e⟩ := Option.bind_eq_some_iff.mp e
        obtain ⟨a, ks, rfl, h1, h2⟩ := dicD_rel rh rx hd
        have hk := int_keys h2 e1
        have hl : ns.length < 64 := by
          have := congrArg List.length hk
          rw [List.length_map, List.length_map, ← h2.length] at this
          omega
        refine .inr ⟨a, ks, ns, rfl, h1, hk, hl, fun ys p hp hs hn => ?_⟩
        rw [sortI_eq hp hs]
        exact newL_gh e rh fr post RelBs.of_ints p hn
      · cases e
    · obtain ⟨xs, e1, e⟩ := Option.bind_eq_some_iff.mp e
      obtain ⟨ns, e2, e⟩ := Option.bind_eq_some_iff.mp e
      obtain ⟨a, vs, rfl, h1, h2⟩ := lsq_rel rh rx e1
      cases h2.ints e2
      refine .inl ⟨a, ns, rfl, hK ▸ h1, fun ys p hp hs hn => ?_⟩
      rw [sortI_eq hp hs]
      exact newL_gh e rh fr post RelBs.of_ints p hn
  · cases e
theorem br_tuple (hK : C.K = X.K) : BiR C .tuple m (fun xs H Q => ∃ p ys, xs = [.ref p] ∧ ((SqL X.K H p ys ∧ ∀ l, H l = none → Q (.ref l) (upd H l (.tup ys))) ∨ (SqT X.K H p ys ∧ Q (.ref p) H))) := by
  intro F ι S H ds vs d S' Q rh fr rds e post
  unfold bi at e
  split at e <;> rename_i he <;> try (cases he; done)
  · cases e
    obtain ⟨v, rfl, rx⟩ := rds.one
    have rx' := rx
    obtain ⟨a, vs, rfl, h1, h2⟩ := rx
    exact ⟨a, vs, rfl, .inr ⟨hK ▸ sqT_mono rh.fz h1, .here (post.here rh fr rx')⟩⟩
  · rename_i x hx
    obtain ⟨v, rfl, rx⟩ := rds.one
    obtain ⟨e, rfl⟩ := pure_of e
    obtain ⟨xs, e1, e⟩ := Option.map_eq_some_iff.mp e
    cases e
    have e1' : lsqD S' x = some xs := by
      unfold lsqD
      split
      · exact (hx _ rfl).elim
      · exact e1
    obtain ⟨a, vs, rfl, h1, h2⟩ := lsq_rel rh rx e1'
    exact ⟨a, vs, rfl, .inl ⟨hK ▸ h1, fun p hp => .here (post.new rh fr hp ⟨p, _, rfl, .inl (.inl upd_same), RelBs.mono (rh.newF fr (u := .tup vs) hp).2.2.1 _ _ h2⟩)⟩⟩
  · cases e
def rListA (K : PySem.W.Frag) : List V → Hp → VK → Prop := fun xs H Q => (∃ p ys, xs = [.ref p] ∧ (SqL K H p ys ∨ SqT K H p ys) ∧ ∀ l, H l = none → Q (.ref l) (upd H l (.lst ys))) ∨
  (∃ (a : Addr) (kvs : List (L2.Key × V)), xs = [.ref a] ∧ Rd H a (.dK kvs) ∧ ∀ p, H p = none → Q (.ref p) (upd H p (.lst (kvs.map fun kv => kV kv.1))))
theorem cr_listA (hc : X.calm = true) : CallR X (.type "list") (rListA X.K) := call_list_of.or (call_listD hc)
theorem br_list (hK : C.K = X.K) : BiR C .list m (rListA X.K) := by
  intro F ι S H ds vs d S' Q rh fr rds e post
  unfold bi at e
  split at e <;> rename_i he <;> try (cases he; done)
  · obtain ⟨v, rfl, rx⟩ := rds.one
    obtain ⟨xs, e1, e⟩ := Option.bind_eq_some_iff.mp e
    unfold itD at e1
    split at e1
    · rename_i hd
      cases e1
      obtain ⟨a, ks, rfl, h1, h2⟩ := dicD_rel rh rx hd
      exact .inr ⟨a, ks, rfl, h1, newL_gh e rh fr post (keys_rel h2)⟩
    · obtain ⟨a, vs, rfl, h1, h2⟩ := seqD_rel rh rx e1
      exact .inl ⟨a, vs, rfl, hK ▸ h1, newL_gh e rh fr post h2⟩
  · cases e
def rDictA (K : PySem.W.Frag) : List V → Hp → VK → Prop := fun xs H Q => (∃ (a : Addr) (kvs : List (L2.Key × V)), xs = [.ref a] ∧ Rd H a (.dK kvs) ∧ ∀ p, H p = none → Q (.ref p) (upd H p (.dK kvs))) ∨
  (∃ (a : Addr) (ps : List Addr) (kvs : List (L2.Key × V)), xs = [.ref a] ∧ SqL K H a (ps.map V.ref) ∧ Paired (fun p kv => SqT K H p [kV kv.1, kv.2]) ps kvs ∧
    ∀ p, H p = none → Q (.ref p) (upd H p (.dK (mergeK [] kvs))))
theorem cr_dictA (hc : X.calm = true) : CallR X (.type "dict") (rDictA X.K) := call_dictD.or (call_dictP hc)
theorem pairs_rel {F : Hp} {H : Hp} (hs : Sub F H) : ∀ {xs : List B} {kvs : List (Kd × B)} {vs : List V}, RelBs C F xs vs → pairsB xs = some kvs → ∃ (ps : List Addr) (ks : List (L2.Key × V)), vs = ps.map V.ref ∧ Paired (fun p kv => SqT C.K H p [kV kv.1, kv.2]) ps ks ∧ RelBk C F kvs ks
  | [], kvs, _, r, e => by
    cases (show _ = [] from r)
    cases e
    exact ⟨[], [], rfl, .nil, rfl⟩
  | x :: xs, kvs, _, r, e => by
    obtain ⟨v, rr, rfl, h1, h2⟩ := r
    unfold pairsB at e
    split at e <;> rename_i he
    · cases he
    · cases he
      obtain ⟨k, e1, e⟩ := Option.bind_eq_some_iff.mp e
      obtain ⟨kvs', e2, e⟩ := Option.map_eq_some_iff.mp e
      cases e
      obtain ⟨ps, ks, q1, q2, q3⟩ := pairs_rel hs h2 e2
      obtain ⟨a, vs2, rfl, h3, v1, r1, rfl, h4, v2, r2, rfl, h5, h6⟩ := h1
      cases (show r2 = [] from h6)
      obtain ⟨j, rk, rfl⟩ := keyB_rel e1 h4
      exact ⟨a :: ps, (j, v2) :: ks, by rw [q1] <;> rfl, .cons (sqT_mono hs h3) q2, _, _, rfl, relKp.mpr ⟨rk, h5⟩, q3⟩
    · cases e
theorem br_dict (hK : C.K = X.K) : BiR C .dict m (rDictA X.K) := by
  intro F ι S H ds vs d S' Q rh fr rds e post
  unfold bi at e
  split at e <;> rename_i he <;> try (cases he; done)
  · obtain ⟨v, rfl, rx⟩ := rds.one
    split at e
    · rename_i hd
      obtain ⟨a, ks, rfl, h1, h2⟩ := dicD_rel rh rx hd
      exact .inl ⟨a, ks, rfl, h1, fun p hp => newD_post e rh fr post h2 hp⟩
    · obtain ⟨xs, e1, e⟩ := Option.bind_eq_some_iff.mp e
      obtain ⟨kvs, e2, e⟩ := Option.bind_eq_some_iff.mp e
      obtain ⟨a, vs, rfl, h1, h2⟩ := lstD_rel rh rx e1
      obtain ⟨ps, ks, rfl, q2, q3⟩ := pairs_rel rh.fz h2 e2
      exact .inr ⟨a, ps, ks, rfl, .inl (.inl h1), hK ▸ q2, fun p hp => newD_post e rh fr post (dmerge_rel q3 (show RelBk C F [] [] from rfl)) hp⟩
  · cases e
theorem br_all (hK : C.K = X.K) : BiR C .all m (rAll X.K) := by
  intro F ι S H ds vs d S' Q rh fr rds e post
  unfold bi at e
  split at e <;> rename_i he <;> try (cases he; done)
  · obtain ⟨v, rfl, rx⟩ := rds.one
    obtain ⟨e, rfl⟩ := pure_of e
    obtain ⟨xs, e1, e⟩ := Option.bind_eq_some_iff.mp e
    obtain ⟨ns, e2, e⟩ := Option.map_eq_some_iff.mp e
    cases e
    obtain ⟨a, vs, rfl, h1, h2⟩ := lstD_rel rh rx e1
    cases h2.bools e2
    exact ⟨a, ns, rfl, .inl (.inl h1), .here (post.here rh fr rfl)⟩
  · cases e
theorem br_any (hK : C.K = X.K) : BiR C .any m (rAny X.K) := by
  intro F ι S H ds vs d S' Q rh fr rds e post
  unfold bi at e
  split at e <;> rename_i he <;> try (cases he; done)
  · obtain ⟨v, rfl, rx⟩ := rds.one
    obtain ⟨e, rfl⟩ := pure_of e
    obtain ⟨xs, e1, e⟩ := Option.bind_eq_some_iff.mp e
    obtain ⟨ns, e2, e⟩ := Option.map_eq_some_iff.mp e
    cases e
    obtain ⟨a, vs, rfl, h1, h2⟩ := lstD_rel rh rx e1
    cases h2.bools e2
    exact ⟨a, ns, rfl, .inl (.inl h1), .here (post.here rh fr rfl)⟩
  · cases e
/-! ### isinstance -/
def knN : Kn → String
  | .non => "NoneType"
  | .bl => "bool"
  | .int => "int"
  | .str => "str"
  | .tup => "tuple"
  | .lst => "list"
  | .dic => "dict"
def tyN : Ty → String
  | .int => "int"
  | .bool => "bool"
  | .str => "str"
  | .list => "list"
  | .tuple => "tuple"
  | .dict => "dict"
  | .cls _ => "object"
theorem kn_kit (k : Kn) (t : Ty) (b : Bool) (e : knTy k t = some b) : kitB (knN k) (tyN t) = some b := by
  cases t with
  | cls c => cases k <;> cases e
  | _ => cases k <;> cases e <;> decide +kernel
theorem sqT_ty {K : PySem.W.Frag} {H : Hp} {a : Addr} {vs : List V} (h : SqT K H a vs) : TyX K H (.ref a) (.type "tuple") := by
  rcases h with (h | ⟨o, h⟩) | h
  · exact .base (.tup h)
  · exact .fTuple h
  · obtain ⟨o, _, _, h1, h2, _⟩ := h
    exact .kTuple h1 h2
theorem kn_ty (hK : C.K = X.K) {F ι S H} {d : D} {v : V} {k : Kn} (rh : RH C F ι S H) (rx : RelD C F ι d v) (e : kn S d = some k) : TyX X.K H v (.type (knN k)) := by
  cases d with
  | mix xs =>
    cases e
    obtain ⟨a, vs, rfl, h1, h2⟩ := rx
    exact sqT_ty (hK ▸ sqT_mono rh.fz h1)
  | ref n =>
    obtain ⟨a, ha, rfl⟩ := rx
    obtain ⟨o, ho, q⟩ := rh.obj ha
    unfold kn at e
    dsimp only at e
    rw [ho] at e
    cases o with
    | lst xs => cases e; obtain ⟨vs, h1, _⟩ := q; exact .base (.lst h1)
    | dic xs => cases e; obtain ⟨vs, h1, _⟩ := q; exact .base (.dK h1)
    | ins c fs => cases e
    | lockl xs => cases e; obtain ⟨vs, h1, _⟩ := q; exact .base (.lst h1)
    | lockd xs => cases e; obtain ⟨o, vs, h1, _⟩ := q; exact .fDict h1
  | b x =>
    cases x with
    | non => cases e; cases (show v = _ from rx); exact .base .non
    | bl y => cases e; cases (show v = _ from rx); exact .base (.bl _)
    | int y => cases e; cases (show v = _ from rx); exact .base (.int _)
    | str n => cases e; obtain ⟨y, _, rfl⟩ := rx; exact .base (.str _)
    | tup xs => cases e; obtain ⟨a, vs, rfl, h1, h2⟩ := rx; exact sqT_ty (hK ▸ sqT_mono rh.fz h1)
    | lst xs => cases e; obtain ⟨a, vs, rfl, h1, h2⟩ := rx; exact .base (.lst (rh.fz _ _ h1))
    | scr xs => cases e
    | dic xs => cases e; obtain ⟨a, o, vs, rfl, h1, h2⟩ := rx; exact .fDict (rh.fz _ _ h1)
    | ins c fs => cases e
theorem me_isi (hK : C.K = X.K) (t : Ty) {y : PySem.Str} {p2 : Pos} (hg : Gl X "isinstance") (hm : X.mg "isinstance" = none) (hv : bootBuiltins "isinstance" = some (.builtin "isinstance")) (ha : ME X C P a ma)
    (hg2 : Gl X y) (hm2 : X.mg y = none) (hv2 : bootBuiltins y = some (.type (tyN t))) (hn2 : y ≠ "__name__" := by decide) (hdb2 : (y == ("__debug__" : PySem.Str)) = false := by decide)
    (he : starEach [a, .Name y p2] X.env = (false, eval a X.env) :: starEach [.Name y p2] X.env := by rfl) (he2 : starEach [.Name y p2] X.env = (false, eval (.Name y p2) X.env) :: starEach [] X.env := by rfl) (hpl : (backTo pos (starEach [.Name y p2] X.env)).any (·.1) = false := by rfl) : ME X C P (.Call (.Name "isinstance" p) [a, .Name y p2] [] pos) (.bi (.isin t) m [ma]) := by
  refine (pe_callB call_isi hg hm hv (pa_cons ha (pa_cons (pe_bltn (v := .ty (tyN t)) hg2 hm2 hv2 rfl hn2 hdb2) pa_nil he2) he) (by decide) (by decide) he hpl).imp fun σ H Q h => ?_
  obtain ⟨F, ι, S, sl, d, S', rs, e, post⟩ := h
  unfold ev evs evs at e
  obtain ⟨⟨ds, S1⟩, e1, e⟩ := Option.bind_eq_some_iff.mp e
  obtain ⟨⟨x, S2⟩, e2, e1⟩ := Option.bind_eq_some_iff.mp e1
  cases e1
  obtain ⟨e, rfl⟩ := pure_of (show pure' S2 ((isin S2 t x).map fun b => .b (.bl b)) = some (d, S') from e)
  obtain ⟨b, e3, e⟩ := Option.map_eq_some_iff.mp e
  cases e
  obtain ⟨k, e4, e5⟩ := Option.bind_eq_some_iff.mp e3
  refine rs.one e2 fun F1 ι1 v H1 l1 r1 q1 => ?_
  exact ⟨v, .ty (tyN t), .type (knN k), .type (tyN t), b, rfl, .ty _, kn_ty hK r1.rh q1 e4, kit_ty (kn_kit k t b e5), (post.mono l1).here r1.rh r1.fr rfl⟩
end
end M
/-! MC9: methods of built-ins. -/
namespace M
open PySem PySem.Spec PyProof.Rows L2
theorem kd_list {C : Ct} {F : Hp} {ι : List Addr} {S : Store} {H : Hp} {K : PySem.W.Frag} (hK : C.K = K) {d : D} {v : V} (rh : RH C F ι S H) (r : RelD C F ι d v) (e : kd S d = 1) : tyV K "list" v H := by
  unfold kd at e
  split at e
  · obtain ⟨a, vs, rfl, h1, _⟩ := r
    exact .inl ⟨rfl, vs, .inl (.inl (rh.fz _ _ h1))⟩
  · obtain ⟨a, vs, rfl, h1, _⟩ := r
    exact .inl ⟨rfl, vs, hK ▸ sqL_mono rh.fz h1⟩
  · cases e
  · obtain ⟨a, ha, rfl⟩ := r
    obtain ⟨o, ho, q⟩ := rh.obj ha
    rw [ho] at e
    cases o with
    | lst xs => obtain ⟨vs, h1, _⟩ := q; exact .inl ⟨rfl, vs, .inl (.inl h1)⟩
    | dic xs => cases e
    | ins c fs => cases e
    | lockl xs => obtain ⟨vs, h1, _⟩ := q; exact .inl ⟨rfl, vs, .inl (.inl h1)⟩
    | lockd xs => cases e
  · cases e
theorem kd_dict {C : Ct} {F : Hp} {ι : List Addr} {S : Store} {H : Hp} {d : D} {v : V} (rh : RH C F ι S H) (r : RelD C F ι d v) (e : kd S d = 2) : ∃ a, v = .ref a ∧ IsD H a := by
  unfold kd at e
  split at e
  · cases e
  · cases e
  · obtain ⟨a, o, vs, rfl, h1, _⟩ := r
    exact ⟨a, rfl, .inl ⟨vs, .inr ⟨o, rh.fz _ _ h1⟩⟩⟩
  · obtain ⟨a, ha, rfl⟩ := r
    obtain ⟨o, ho, q⟩ := rh.obj ha
    rw [ho] at e
    cases o with
    | lst xs => cases e
    | dic xs => obtain ⟨vs, h1, _⟩ := q; exact ⟨a, rfl, .inl ⟨vs, .inl h1⟩⟩
    | ins c fs => cases e
    | lockl xs => cases e
    | lockd xs => obtain ⟨o, vs, h1, _⟩ := q; exact ⟨a, rfl, .inl ⟨vs, .inr ⟨o, h1⟩⟩⟩
  · cases e
theorem dicD_kd {S : Store} {d : D} {kvs : List (Kd × B)} (e : dicD S d = some kvs) : kd S d = 2 := by
  unfold dicD at e
  split at e
  · rfl
  · rename_i n
    unfold kd
    dsimp only
    split at e
    · rename_i h
      rw [h]
    · rename_i h
      rw [h]
    · cases e
  · cases e
def MtRel (C : Ct) (b : Mt) (r : V → List V → Hp → VK → Prop) : Prop :=
  ∀ F ι S H x v ds vs d S' Q, RH C F ι S H → Fre F ι → RelD C F ι x v → RelDs C F ι ds vs → mt S b x ds = some (d, S') → Post C F ι S' d Q → r v vs H Q
theorem kd_ref {S : Store} {n : Nat} {xs : List B} (h : S[n]? = some (.lst xs)) : kd S (.ref n) = 1 := by
  unfold kd
  dsimp only
  rw [h]
theorem kd_refd {S : Store} {n : Nat} {xs : List (Kd × B)} (h : S[n]? = some (.dic xs)) : kd S (.ref n) = 2 := by
  unfold kd
  dsimp only
  rw [h]
/-- a list of the store changes, the answer is None -/
theorem set_post {C F ι S H} {n : Nat} {a : Addr} {xs ys : List B} {vs : List V} {Q : VK} {d : D} {w : V} {ws0 : List V} (rh : RH C F ι S H) (fr : Fre F ι) (ha : ι[n]? = some a) (r : RelBs C F ys vs) (rd : RelD C F ι d w) (post : Post C F ι (S.set n (.lst ys)) d Q) (h0 : H a = some (.lst ws0) := by assumption) : Q w (upd H a (.lst vs)) :=
  post.here (rh.set ha (fr.at ha) (fz_l h0) ⟨vs, upd_same, r⟩) fr rd
theorem setd_post {C F ι S H} {n : Nat} {a : Addr} {ys : List (Kd × B)} {vs : List (L2.Key × V)} {Q : VK} {d : D} {w : V} (rh : RH C F ι S H) (fr : Fre F ι) (ha : ι[n]? = some a) (r : RelBk C F ys vs) (rd : RelD C F ι d w) (post : Post C F ι (S.set n (.dic ys)) d Q) {ws0 : List (L2.Key × V)} (h0 : H a = some (.dK ws0) := by assumption) : Q w (upd H a (.dK vs)) :=
  post.here (rh.set ha (fr.at ha) (fz_d h0) ⟨vs, upd_same, r⟩) fr rd
section
variable {C : Ct}
theorem lst_of {F ι S H} {n : Nat} {a : Addr} {xs : List B} (rh : RH C F ι S H) (ha : ι[n]? = some a) (h : S[n]? = some (.lst xs)) : ∃ vs, H a = some (.lst vs) ∧ RelBs C F xs vs := by
  obtain ⟨o, ho, q⟩ := rh.obj ha
  rw [h] at ho
  cases ho
  exact q
theorem dic_of {F ι S H} {n : Nat} {a : Addr} {xs : List (Kd × B)} (rh : RH C F ι S H) (ha : ι[n]? = some a) (h : S[n]? = some (.dic xs)) : ∃ vs, H a = some (.dK vs) ∧ RelBk C F xs vs := by
  obtain ⟨o, ho, q⟩ := rh.obj ha
  rw [h] at ho
  cases ho
  exact q
/-- the method is one of lists -/
def MtK (b : Mt) : Prop := ∀ S x ds r, mt S b x ds = some r → kd S x = 1
theorem mk_append : MtK .append := by
  intro S x ds r e
  unfold mt at e
  split at e <;> rename_i he <;> try (cases he; done)
  · split at e
    · rename_i h
      exact kd_ref h
    · cases e
  · cases e
theorem mk_extend : MtK .extend := by
  intro S x ds r e
  unfold mt at e
  split at e <;> rename_i he <;> try (cases he; done)
  · split at e
    · rename_i h
      exact kd_ref h
    · cases e
  · cases e
theorem mk_pop : MtK .pop := by
  intro S x ds r e
  unfold mt at e
  split at e <;> rename_i he <;> try (cases he; done)
  · split at e
    · rename_i h
      exact kd_ref h
    · cases e
  · cases e
theorem mr_append : MtRel C .append rAppend := by
  intro F ι S H x v ds vs d S' Q rh fr rx rds e post
  unfold mt at e
  split at e <;> rename_i he <;> try (cases he; done)
  · split at e
    · rename_i xs h
      split at e
      · rename_i hz
        cases e
        obtain ⟨a, ha, rfl⟩ := rx
        obtain ⟨w, rfl, rw'⟩ := rds.one
        obtain ⟨ws, h1, h2⟩ := lst_of rh ha h
        refine ⟨a, ws, w, rfl, rfl, h1, ?_, set_post (xs := xs) rh fr ha (h2.append (RelBs.one rw')) (d := .b .non) rfl post⟩
        rw [← h2.length]
        exact Nat.lt_of_lt_of_le hz (SZ_le (Nat.le_refl _))
      · cases e
    · cases e
  · cases e
theorem mr_extend : MtRel C .extend rExtend := by
  intro F ι S H x v ds vs d S' Q rh fr rx rds e post
  unfold mt at e
  split at e <;> rename_i he <;> try (cases he; done)
  · split at e
    · rename_i xs h
      obtain ⟨ys, e1, e⟩ := Option.bind_eq_some_iff.mp e
      split at e
      · rename_i hz
        cases e
        obtain ⟨a, ha, rfl⟩ := rx
        obtain ⟨w, rfl, rw'⟩ := rds.one
        obtain ⟨ws, h1, h2⟩ := lst_of rh ha h
        obtain ⟨b, us, rfl, h3, h4⟩ := lstD_rel rh rw' e1
        refine ⟨a, b, ws, us, rfl, rfl, h1, h3, SZ_le (by rw [← h2.length, ← h4.length]; exact hz), set_post (xs := xs) rh fr ha (h2.append h4) (d := .b .non) rfl post⟩
      · cases e
    · cases e
  · cases e
theorem mr_pop : MtRel C .pop rPop := by
  intro F ι S H x v ds vs d S' Q rh fr rx rds e post
  unfold mt at e
  split at e <;> rename_i he <;> try (cases he; done)
  · split at e
    · rename_i xs h
      obtain ⟨y, e1, e⟩ := Option.map_eq_some_iff.mp e
      cases e
      obtain ⟨a, ha, rfl⟩ := rx
      cases (show vs = [] from rds)
      obtain ⟨ws, h1, h2⟩ := lst_of rh ha h
      obtain ⟨u, h3, h4⟩ := h2.get e1
      exact ⟨a, ws, u, rfl, rfl, h1, by rw [← h2.length]; exact h3, set_post (xs := xs) rh fr ha h2.dropLast (d := .b y) h4 post⟩
    · cases e
  · cases e
end
section
variable {X : Cx} {C : Ct} {P : Par} {cpos apos p : Pos} {o e f : Expr} {mo me' mf : E} {es : List Expr} {ms : List E} {name : PySem.Str} {id : String} {r : V → List V → Hp → VK → Prop}
theorem me_mtL (hK : C.K = X.K) (B : Mt) (mr : MtRel C B r) (mk : MtK B) (slot : Slot "list" name id) (hty : typeOf (.builtin id) = pure (.type "method_descriptor")) (hm : MtR X id r) (ho : ME X C P o mo) (ha : MA X C P (e :: es) ms)
    (hbase : attributeBase o name X.env (eval o X.env) = eval o X.env := by rfl)
    (hfew : ((backTo cpos (starEach (e :: es) X.env)).all (fun x => !x.1) && (backToKw cpos (keywordEach [] X.env)).all (fun x => x.1.isSome)
      && decide ((e :: es).length + ([] : List Keyword).length + (if ([] : List Keyword).isEmpty then 0 else 1) < 30)) = true := by rfl)
    (hline : (apos.endLine == cpos.line) = true := by rfl) (hs : starEach (e :: es) X.env = (false, eval e X.env) :: starEach es X.env := by rfl) (hplain : (backTo cpos (starEach es X.env)).any (·.1) = false := by rfl) :
    ME X C P (.Call (.Attribute o name apos) (e :: es) [] cpos) (.mt B mo ms) := by
  refine (pe_bm PySem.F.plainAttrs_list slot hty hm ho ha hbase hfew hline hs hplain).imp fun σ H Q h => ?_
  obtain ⟨F, ι, S, sl, d, S', rs, e, post⟩ := h
  unfold ev at e
  obtain ⟨⟨x, S1⟩, e1, e⟩ := Option.bind_eq_some_iff.mp e
  obtain ⟨⟨ds, S2⟩, e2, e⟩ := Option.bind_eq_some_iff.mp e
  dsimp only at e
  split at e
  · rename_i hk
    refine rs.one e1 fun F1 ι1 v H1 l1 r1 q1 => ⟨?_, r1.args e2 fun F2 ι2 vs H2 l2 r2 q2 => mr F2 ι2 S2 H2 x v ds vs d S' Q r2.rh r2.fr (q1.mono l2) q2 e (post.mono (l1.trans l2))⟩
    refine kd_list hK r1.rh q1 ?_
    rw [← hk]
    exact mk _ _ _ _ e
  · cases e
theorem me_append (hK : C.K = X.K) (ho : ME X C P o mo) (he : ME X C P e me')
    (hbase : attributeBase o "append" X.env (eval o X.env) = eval o X.env := by rfl)
    (hfew : ((backTo cpos (starEach [e] X.env)).all (fun x => !x.1) && (backToKw cpos (keywordEach [] X.env)).all (fun x => x.1.isSome)
      && decide ([e].length + ([] : List Keyword).length + (if ([] : List Keyword).isEmpty then 0 else 1) < 30)) = true := by rfl)
    (hline : (apos.endLine == cpos.line) = true := by rfl) (hs : starEach [e] X.env = (false, eval e X.env) :: starEach [] X.env := by rfl) : ME X C P (.Call (.Attribute o "append" apos) [e] [] cpos) (.mt .append mo [me']) :=
  me_mtL hK .append mr_append mk_append PySem.F.slot_list_append PySem.F.type_list_append mt_append ho (ma_cons he ma_nil hs) hbase hfew hline hs rfl
theorem me_extend (hK : C.K = X.K) (ho : ME X C P o mo) (he : ME X C P e me')
    (hbase : attributeBase o "extend" X.env (eval o X.env) = eval o X.env := by rfl)
    (hfew : ((backTo cpos (starEach [e] X.env)).all (fun x => !x.1) && (backToKw cpos (keywordEach [] X.env)).all (fun x => x.1.isSome)
      && decide ([e].length + ([] : List Keyword).length + (if ([] : List Keyword).isEmpty then 0 else 1) < 30)) = true := by rfl)
    (hline : (apos.endLine == cpos.line) = true := by rfl) (hs : starEach [e] X.env = (false, eval e X.env) :: starEach [] X.env := by rfl) : ME X C P (.Call (.Attribute o "extend" apos) [e] [] cpos) (.mt .extend mo [me']) :=
  me_mtL hK .extend mr_extend mk_extend PySem.F.slot_list_extend PySem.F.type_list_extend mt_extend ho (ma_cons he ma_nil hs) hbase hfew hline hs rfl
theorem me_pop (hK : C.K = X.K) (ho : ME X C P o mo) (hbase : attributeBase o "pop" X.env (eval o X.env) = eval o X.env := by rfl) (hline : (apos.endLine == cpos.line) = true := by rfl) : ME X C P (.Call (.Attribute o "pop" apos) [] [] cpos) (.mt .pop mo []) := by
  refine (pe_bm0 PySem.F.plainAttrs_list PySem.F.slot_list_pop PySem.F.type_list_pop mt_pop ho hbase hline).imp fun σ H Q h => ?_
  obtain ⟨F, ι, S, sl, d, S', rs, e, post⟩ := h
  unfold ev evs at e
  obtain ⟨⟨x, S1⟩, e1, e⟩ := Option.bind_eq_some_iff.mp e
  dsimp only [Option.bind_some] at e
  split at e
  · refine rs.one e1 fun F1 ι1 v H1 l1 r1 q1 => ⟨kd_list hK r1.rh q1 (mk_pop _ _ _ _ e), mr_pop F1 ι1 S1 H1 x v [] [] d S' Q r1.rh r1.fr q1 rfl e (post.mono l1)⟩
  · cases e
theorem clear_inv {S S' : Store} {x d : D} (e : mt S .clear x [] = some (d, S')) : ∃ n, x = .ref n ∧ d = .b .non ∧ ((∃ xs, S[n]? = some (.lst xs) ∧ S' = S.set n (.lst [])) ∨ ∃ xs, S[n]? = some (.dic xs) ∧ S' = S.set n (.dic [])) := by
  unfold mt at e
  split at e <;> try contradiction
  rename_i n _ _
  split at e
  · rename_i xs h
    cases e
    exact ⟨n, rfl, rfl, .inl ⟨xs, h, rfl⟩⟩
  · rename_i xs h
    cases e
    exact ⟨n, rfl, rfl, .inr ⟨xs, h, rfl⟩⟩
  · cases e
theorem me_clear (hK : C.K = X.K) (ho : ME X C P o mo) (hbase : attributeBase o "clear" X.env (eval o X.env) = eval o X.env := by rfl) (hline : (apos.endLine == cpos.line) = true := by rfl) : ME X C P (.Call (.Attribute o "clear" apos) [] [] cpos) (.mt .clear mo []) := by
  refine ((pe_bm0 PySem.F.plainAttrs_list PySem.F.slot_list_clear PySem.F.type_list_clear mt_clear ho hbase hline).or (pe_dclear ho hbase hline)).imp fun σ H Q h => ?_
  obtain ⟨F, ι, S, sl, d, S', rs, e, post⟩ := h
  unfold ev evs at e
  obtain ⟨⟨x, S1⟩, e1, e⟩ := Option.bind_eq_some_iff.mp e
  dsimp only [Option.bind_some] at e
  split at e
  · obtain ⟨n, rfl, rfl, ⟨xs, h, rfl⟩ | ⟨xs, h, rfl⟩⟩ := clear_inv e
    · refine .inl (rs.one e1 fun F1 ι1 v H1 l1 r1 q1 => ⟨kd_list hK r1.rh q1 (kd_ref h), ?_⟩)
      obtain ⟨a, ha, rfl⟩ := q1
      obtain ⟨ws, h1, h2⟩ := lst_of r1.rh ha h
      exact ⟨a, ws, rfl, rfl, h1, set_post (xs := xs) (ys := []) (d := .b .non) r1.rh r1.fr ha rfl rfl (post.mono l1)⟩
    · refine .inr (rs.one e1 fun F1 ι1 v H1 l1 r1 q1 => ?_)
      obtain ⟨a, ha, rfl⟩ := q1
      obtain ⟨ws, h1, h2⟩ := dic_of r1.rh ha h
      exact ⟨.inr (.inr (.inl ⟨rfl, .inl ⟨ws, h1⟩⟩)), a, ws, rfl, rfl, h1, setd_post (ys := []) (d := .b .non) r1.rh r1.fr ha rfl rfl (post.mono l1)⟩
  · cases e
/-! ### dicts -/
theorem dget_of {F ι S H} {x y : D} {v w : V} {kvs : List (Kd × B)} {k : Kd} (rh : RH C F ι S H) (rx : RelD C F ι x v) (ry : RelD C F ι y w) (e1 : dicD S x = some kvs) (e2 : keyD y = some k) :
    ∃ a ks j, v = .ref a ∧ Rd H a (.dK ks) ∧ w = kV j ∧ RelK C.N k j ∧ RelBk C F kvs ks := by
  obtain ⟨a, ks, rfl, h1, h2⟩ := dicD_rel rh rx e1
  cases y with
  | b yy =>
    obtain ⟨j, rk, rfl⟩ := keyB_rel (C := C) (F := F) e2 ry
    exact ⟨a, ks, j, rfl, h1, rfl, rk, h2⟩
  | ref n => cases e2
  | mix n => cases e2
theorem me_get1 (hu : X.A.units + 66 < cLine) (ho : ME X C P o mo) (he : ME X C P e me') (m : M1 X o "get" apos e cpos) : ME X C P (.Call (.Attribute o "get" apos) [e] [] cpos) (.mt .get1 mo [me']) := by
  refine (pe_dget1 (by omega) ho he m).imp fun σ H Q h => ?_
  obtain ⟨F, ι, S, sl, d, S', rs, e, post⟩ := h
  unfold ev evs evs at e
  obtain ⟨⟨x, S1⟩, e1, e⟩ := Option.bind_eq_some_iff.mp e
  obtain ⟨⟨ds, S2⟩, e2, e⟩ := Option.bind_eq_some_iff.mp e
  obtain ⟨⟨y, S3⟩, e3, e2⟩ := Option.bind_eq_some_iff.mp e2
  cases e2
  dsimp only at e
  split at e
  · rename_i hk
    have e' : ((dicD S3 x).bind fun kvs => (keyD y).map fun k => (match dget kvs k with
      | some v => (.b v, S3)
      | none => (.b .non, S3))) = some (d, S') := e
    obtain ⟨kvs, h1, e'⟩ := Option.bind_eq_some_iff.mp e'
    obtain ⟨k, h2, e'⟩ := Option.map_eq_some_iff.mp e'
    refine rs.one e1 fun F1 ι1 v H1 l1 r1 q1 => ?_
    obtain ⟨a, rfl, hd⟩ := kd_dict r1.rh q1 (by rw [← hk]; exact dicD_kd h1)
    refine ⟨a, rfl, hd, r1.one e3 fun F2 ι2 w H2 l2 r2 q2 => ?_⟩
    obtain ⟨a', ks, j, h3, h4, h5, h6, h7⟩ := dget_of r2.rh (q1.mono l2) q2 h1 h2
    cases h3
    have g := dget_rel h7 h6
    refine ⟨valV ks j, .inl ⟨ks, j, h4, h5, rfl⟩, ?_⟩
    cases hg : dget kvs k with
    | some b =>
      rw [hg] at g e'
      cases hv : valV ks j with
      | none => rw [hv] at g; exact g.elim
      | some u =>
        rw [hv] at g
        cases e'
        exact (post.mono (l1.trans l2)).here r2.rh r2.fr (d := .b b) g
    | none =>
      rw [hg] at g e'
      cases hv : valV ks j with
      | some u => rw [hv] at g; exact g.elim
      | none =>
        cases e'
        exact (post.mono (l1.trans l2)).here r2.rh r2.fr (d := .b .non) rfl
  · cases e
theorem me_get2 (hu : X.A.units + 66 < cLine) (ho : ME X C P o mo) (he : ME X C P e me') (hf : ME X C P f mf) (m : M2 X o "get" apos e f cpos) : ME X C P (.Call (.Attribute o "get" apos) [e, f] [] cpos) (.mt .get2 mo [me', mf]) := by
  refine (pe_dget2 (by omega) ho he hf m).imp fun σ H Q h => ?_
  obtain ⟨F, ι, S, sl, d, S', rs, e, post⟩ := h
  unfold ev evs evs evs at e
  obtain ⟨⟨x, S1⟩, e1, e⟩ := Option.bind_eq_some_iff.mp e
  obtain ⟨⟨ds, S2⟩, e2, e⟩ := Option.bind_eq_some_iff.mp e
  obtain ⟨⟨y, S3⟩, e3, e2⟩ := Option.bind_eq_some_iff.mp e2
  obtain ⟨⟨u, S4⟩, e4, e2⟩ := Option.map_eq_some_iff.mp e2
  obtain ⟨⟨z, S5⟩, e5, e4⟩ := Option.bind_eq_some_iff.mp e4
  cases e4
  cases e2
  dsimp only at e
  split at e
  · rename_i hk
    have e' : ((dicD S5 x).bind fun kvs => (keyD y).map fun k => (match dget kvs k with
      | some v => (.b v, S5)
      | none => (z, S5))) = some (d, S') := e
    obtain ⟨kvs, h1, e'⟩ := Option.bind_eq_some_iff.mp e'
    obtain ⟨k, h2, e'⟩ := Option.map_eq_some_iff.mp e'
    refine rs.one e1 fun F1 ι1 v H1 l1 r1 q1 => ?_
    obtain ⟨a, rfl, hd⟩ := kd_dict r1.rh q1 (by rw [← hk]; exact dicD_kd h1)
    refine ⟨a, rfl, hd, r1.one e3 fun F2 ι2 w H2 l2 r2 q2 => r2.one e5 fun F3 ι3 w3 H3 l3 r3 q3 => ?_⟩
    obtain ⟨a', ks, j, h3, h4, h5, h6, h7⟩ := dget_of r3.rh ((q1.mono l2).mono l3) (q2.mono l3) h1 h2
    cases h3
    have g := dget_rel h7 h6
    refine ⟨valV ks j, .inl ⟨ks, j, h4, h5, rfl⟩, ?_⟩
    cases hg : dget kvs k with
    | some b =>
      rw [hg] at g e'
      cases hv : valV ks j with
      | none => rw [hv] at g; exact g.elim
      | some u =>
        rw [hv] at g
        cases e'
        exact (post.mono ((l1.trans l2).trans l3)).here r3.rh r3.fr (d := .b b) g
    | none =>
      rw [hg] at g e'
      cases hv : valV ks j with
      | some u => rw [hv] at g; exact g.elim
      | none =>
        cases e'
        exact (post.mono ((l1.trans l2).trans l3)).here r3.rh r3.fr q3
  · cases e
theorem popi_inv {S S' : Store} {x y d : D} (e : mt S .popi x [y] = some (d, S')) : ∃ n b, x = .ref n ∧ y = .b b ∧ ((∃ xs i j z, S[n]? = some (.lst xs) ∧ b = .int i ∧ xs.length ≤ SZ ∧ ixN xs.length i = some j ∧ xs[j]? = some z ∧ d = .b z ∧ S' = S.set n (.lst (xs.eraseIdx j))) ∨
    ∃ kvs k z, S[n]? = some (.dic kvs) ∧ keyB b = some k ∧ dget kvs k = some z ∧ d = .b z ∧ S' = S.set n (.dic (ddrop kvs k))) := by
  unfold mt at e
  split at e <;> try contradiction
  rename_i n y _ hy
  cases hy
  split at e
  · rename_i xs h
    split at e
    · rename_i i
      split at e
      · rename_i hz
        obtain ⟨j, h1, e⟩ := Option.bind_eq_some_iff.mp e
        obtain ⟨y', h2, e⟩ := Option.map_eq_some_iff.mp e
        cases e
        exact ⟨n, _, rfl, rfl, .inl ⟨xs, i, j, y', h, rfl, hz, h1, h2, rfl, rfl⟩⟩
      · cases e
    · cases e
  · rename_i kvs h
    obtain ⟨k, h1, e⟩ := Option.bind_eq_some_iff.mp e
    obtain ⟨y', h2, e⟩ := Option.map_eq_some_iff.mp e
    cases e
    exact ⟨n, _, rfl, rfl, .inr ⟨kvs, k, y', h, h1, h2, rfl, rfl⟩⟩
  · cases e
theorem dget_at {F : Hp} {kvs : List (Kd × B)} {ks : List (L2.Key × V)} {k : Kd} {j : L2.Key} {b : B} (r : RelBk C F kvs ks) (rk : RelK C.N k j) (e : dget kvs k = some b) : ∃ v, valV ks j = some v ∧ RelB C F b v := by
  have g := dget_rel r rk
  rw [e] at g
  cases hv : valV ks j with
  | none => rw [hv] at g; exact g.elim
  | some u => rw [hv] at g; exact ⟨u, rfl, g⟩
theorem dget_no {F : Hp} {kvs : List (Kd × B)} {ks : List (L2.Key × V)} {k : Kd} {j : L2.Key} (r : RelBk C F kvs ks) (rk : RelK C.N k j) (e : dget kvs k = none) : valV ks j = none := by
  have g := dget_rel r rk
  rw [e] at g
  cases hv : valV ks j with
  | none => rfl
  | some u => rw [hv] at g; exact g.elim
theorem me_popi (hK : C.K = X.K) (ho : ME X C P o mo) (he : ME X C P e me') (m : M1 X o "pop" apos e cpos)
    (hs : starEach [e] X.env = (false, eval e X.env) :: starEach [] X.env := by rfl) : ME X C P (.Call (.Attribute o "pop" apos) [e] [] cpos) (.mt .popi mo [me']) := by
  refine ((pe_bm PySem.F.plainAttrs_list PySem.F.slot_list_pop PySem.F.type_list_pop mt_popAt ho (ma_cons he ma_nil hs) m.base m.few m.line hs rfl).or (pe_dpop1 ho he m)).imp fun σ H Q h => ?_
  obtain ⟨F, ι, S, sl, d, S', rs, e, post⟩ := h
  unfold ev at e
  obtain ⟨⟨x, S1⟩, e1, e⟩ := Option.bind_eq_some_iff.mp e
  obtain ⟨⟨ds, S2⟩, e2, e⟩ := Option.bind_eq_some_iff.mp e
  have e2' := e2
  unfold evs evs at e2'
  obtain ⟨⟨y, S3⟩, e3, e2'⟩ := Option.bind_eq_some_iff.mp e2'
  cases e2'
  dsimp only at e
  split at e
  · rename_i hk
    obtain ⟨n, b, rfl, rfl, ⟨xs, i, j, z, h, rfl, hz, h1, h2, rfl, rfl⟩ | ⟨kvs, k, z, h, h1, h2, rfl, rfl⟩⟩ := popi_inv e
    · refine .inl (rs.one e1 fun F1 ι1 v H1 l1 r1 q1 => ⟨kd_list hK r1.rh q1 (by rw [← hk]; exact kd_ref h), r1.args e2 fun F2 ι2 vs H2 l2 r2 q2 => ?_⟩)
      obtain ⟨a, ha, rfl⟩ := q1.mono l2
      obtain ⟨w, rfl, rw'⟩ := q2.one
      cases (show w = _ from rw')
      obtain ⟨ws, h3, h4⟩ := lst_of r2.rh ha h
      obtain ⟨u, h5, h6⟩ := h4.get h2
      obtain ⟨k1, k2, k3, k4⟩ := ixN_seq h1
      have hS : SZ = 16777216 := rfl
      exact ⟨a, ws, i, j, u, rfl, rfl, h3, by omega, by omega, by rw [← h4.length]; exact k1, h5, set_post (xs := xs) (d := .b z) r2.rh r2.fr ha (h4.erase j) h6 (post.mono (l1.trans l2))⟩
    · refine .inr (rs.one e1 fun F1 ι1 v H1 l1 r1 q1 => ?_)
      obtain ⟨a, rfl, hd⟩ := kd_dict r1.rh q1 (by rw [← hk]; exact kd_refd h)
      refine ⟨a, rfl, hd, r1.one e3 fun F2 ι2 w H2 l2 r2 q2 => ?_⟩
      obtain ⟨a', ha, ea⟩ := q1.mono l2
      cases ea
      obtain ⟨ws, h3, h4⟩ := dic_of r2.rh ha h
      obtain ⟨jj, rk, rfl⟩ := keyB_rel (C := C) (F := F2) h1 q2
      obtain ⟨u, h5, h6⟩ := dget_at h4 rk h2
      exact ⟨ws, jj, u, h3, rfl, h5, setd_post (d := .b z) r2.rh r2.fr ha (ddrop_rel h4 rk) h6 (post.mono (l1.trans l2))⟩
  · cases e
theorem popd_inv {S S' : Store} {x y w d : D} (e : mt S .popd x [y, w] = some (d, S')) : ∃ n b kvs k, x = .ref n ∧ y = .b b ∧ S[n]? = some (.dic kvs) ∧ keyB b = some k ∧ ((∃ z, dget kvs k = some z ∧ d = .b z ∧ S' = S.set n (.dic (ddrop kvs k))) ∨ (dget kvs k = none ∧ d = w ∧ S' = S)) := by
  unfold mt at e
  split at e <;> try contradiction
  rename_i n y z _ hy
  cases hy
  split at e
  · rename_i kvs h
    obtain ⟨k, h1, e⟩ := Option.map_eq_some_iff.mp e
    refine ⟨n, _, kvs, k, rfl, rfl, h, h1, ?_⟩
    split at e
    · rename_i v h2
      cases e
      exact .inl ⟨v, h2, rfl, rfl⟩
    · rename_i h2
      cases e
      exact .inr ⟨h2, rfl, rfl⟩
  · cases e
theorem me_popd (ho : ME X C P o mo) (he : ME X C P e me') (hf : ME X C P f mf) (m : M2 X o "pop" apos e f cpos) : ME X C P (.Call (.Attribute o "pop" apos) [e, f] [] cpos) (.mt .popd mo [me', mf]) := by
  refine (pe_dpop2 ho he hf m).imp fun σ H Q h => ?_
  obtain ⟨F, ι, S, sl, d, S', rs, e, post⟩ := h
  unfold ev evs evs evs at e
  obtain ⟨⟨x, S1⟩, e1, e⟩ := Option.bind_eq_some_iff.mp e
  obtain ⟨⟨ds, S2⟩, e2, e⟩ := Option.bind_eq_some_iff.mp e
  obtain ⟨⟨y, S3⟩, e3, e2⟩ := Option.bind_eq_some_iff.mp e2
  obtain ⟨⟨u, S4⟩, e4, e2⟩ := Option.map_eq_some_iff.mp e2
  obtain ⟨⟨z, S5⟩, e5, e4⟩ := Option.bind_eq_some_iff.mp e4
  cases e4
  cases e2
  dsimp only at e
  split at e
  · rename_i hk
    obtain ⟨n, b, kvs, k, rfl, rfl, h, h1, h2⟩ := popd_inv e
    refine rs.one e1 fun F1 ι1 v H1 l1 r1 q1 => ?_
    obtain ⟨a, rfl, hd⟩ := kd_dict r1.rh q1 (by rw [← hk]; exact kd_refd h)
    refine ⟨a, rfl, hd, r1.one e3 fun F2 ι2 w H2 l2 r2 q2 => r2.one e5 fun F3 ι3 w3 H3 l3 r3 q3 => ?_⟩
    obtain ⟨a', ha, ea⟩ := (q1.mono l2).mono l3
    cases ea
    obtain ⟨ws, h3, h4⟩ := dic_of r3.rh ha h
    obtain ⟨jj, rk, rfl⟩ := keyB_rel (C := C) (F := F3) h1 (RelB.mono l3.1 _ _ q2)
    refine ⟨ws, jj, h3, rfl, fun v hv => ?_, fun hv => ?_⟩
    · rcases h2 with ⟨z, h2, rfl, rfl⟩ | ⟨h2, rfl, rfl⟩
      · obtain ⟨u, h5, h6⟩ := dget_at h4 rk h2
        cases hv.symm.trans h5
        exact setd_post (d := .b z) r3.rh r3.fr ha (ddrop_rel h4 rk) h6 (post.mono ((l1.trans l2).trans l3))
      · rw [dget_no h4 rk h2] at hv
        cases hv
    · rcases h2 with ⟨z, h2, rfl, rfl⟩ | ⟨h2, rfl, rfl⟩
      · obtain ⟨u, h5, h6⟩ := dget_at h4 rk h2
        rw [h5] at hv
        cases hv
      · exact (post.mono ((l1.trans l2).trans l3)).here r3.rh r3.fr q3
  · cases e
end
end M
/-! MC10: what every step keeps: locked objects, no new references in old instances. -/
namespace M
structure Stp (b : Nat) (S S' : Store) : Prop where
  len : S.length ≤ S'.length
  lkl : ∀ (n : Nat) xs, S[n]? = some (O.lockl xs) → S'[n]? = some (O.lockl xs)
  lkd : ∀ (n : Nat) xs, S[n]? = some (O.lockd xs) → S'[n]? = some (O.lockd xs)
  cls : ∀ n, n < b → ∀ c fs, S'[n]? = some (O.ins c fs) → ∃ fs0, S[n]? = some (O.ins c fs0) ∧ ∀ p ∈ fs, p ∈ fs0 ∨ isB p.2 = true
section
variable {b : Nat} {S S' S2 : Store}
theorem Stp.refl : Stp b S S := ⟨Nat.le_refl _, fun _ _ h => h, fun _ _ h => h, fun n _ c fs h => ⟨fs, h, fun p hp => .inl hp⟩⟩
theorem Stp.trans (h : Stp b S S') (h' : Stp b S' S2) : Stp b S S2 := by
  refine ⟨Nat.le_trans h.len h'.len, fun n xs e => h'.lkl n xs (h.lkl n xs e), fun n xs e => h'.lkd n xs (h.lkd n xs e), fun n hn c fs e => ?_⟩
  obtain ⟨f1, e1, q1⟩ := h'.cls n hn c fs e
  obtain ⟨f0, e0, q0⟩ := h.cls n hn c f1 e1
  exact ⟨f0, e0, fun p hp => (q1 p hp).elim (q0 p) .inr⟩
theorem Stp.push (hb : b ≤ S.length) (o : O) : Stp b S (S ++ [o]) := by
  refine ⟨by simp, fun n xs e => ?_, fun n xs e => ?_, fun n hn c fs e => ?_⟩
  · rw [List.getElem?_append_left (List.getElem?_eq_some_iff.mp e).1]; exact e
  · rw [List.getElem?_append_left (List.getElem?_eq_some_iff.mp e).1]; exact e
  · rw [List.getElem?_append_left (by omega)] at e
    exact ⟨fs, e, fun p hp => .inl hp⟩
theorem Stp.set {n : Nat} {o o0 : O} (h0 : S[n]? = some o0) (h1 : ∀ xs, o0 ≠ .lockl xs) (h2 : ∀ xs, o0 ≠ .lockd xs) (h3 : n < b → ∀ c fs, o = .ins c fs → ∃ fs0, o0 = .ins c fs0 ∧ ∀ p ∈ fs, p ∈ fs0 ∨ isB p.2 = true) : Stp b S (S.set n o) := by
  refine ⟨by simp, fun m xs e => ?_, fun m xs e => ?_, fun m hm c fs e => ?_⟩
  · by_cases hn : n = m
    · subst hn
      rw [h0] at e
      cases e
      exact (h1 xs rfl).elim
    · rw [List.getElem?_set_ne hn]; exact e
  · by_cases hn : n = m
    · subst hn
      rw [h0] at e
      cases e
      exact (h2 xs rfl).elim
    · rw [List.getElem?_set_ne hn]; exact e
  · by_cases hn : n = m
    · subst hn
      rw [List.getElem?_set_self (List.getElem?_eq_some_iff.mp h0).1] at e
      cases e
      obtain ⟨f0, e1, q⟩ := h3 hm c fs rfl
      exact ⟨f0, e1 ▸ h0, q⟩
    · rw [List.getElem?_set_ne hn] at e
      exact ⟨fs, e, fun p hp => .inl hp⟩
theorem Stp.setl {n : Nat} {xs ys : List B} (h : S[n]? = some (.lst xs)) : Stp b S (S.set n (.lst ys)) := Stp.set h (fun _ z => nomatch z) (fun _ z => nomatch z) (fun _ _ _ z => nomatch z)
theorem Stp.setd {n : Nat} {xs ys : List (Kd × B)} (h : S[n]? = some (.dic xs)) : Stp b S (S.set n (.dic ys)) := Stp.set h (fun _ z => nomatch z) (fun _ z => nomatch z) (fun _ _ _ z => nomatch z)
theorem Stp.take (h : Stp b S S') : Stp b S (S'.take S.length) := by
  have hl := h.len
  refine ⟨by rw [List.length_take]; omega, fun n xs e => ?_, fun n xs e => ?_, fun n hn c fs e => ?_⟩
  · have := (List.getElem?_eq_some_iff.mp e).1
    rw [List.getElem?_take_of_lt this]; exact h.lkl n xs e
  · have := (List.getElem?_eq_some_iff.mp e).1
    rw [List.getElem?_take_of_lt this]; exact h.lkd n xs e
  · have := (List.getElem?_eq_some_iff.mp e).1
    rw [List.length_take] at this
    rw [List.getElem?_take_of_lt (by omega)] at e
    exact h.cls n hn c fs e
theorem Stp.newL {m : Bool} {xs : List B} {r : D × Store} (hb : b ≤ S.length) (e : newL S m xs = some r) : Stp b S r.2 := by
  unfold M.newL at e
  split at e
  · split at e <;> cases e
    · exact .push hb _
    · exact .refl
  · cases e
theorem Stp.newD {m : Bool} {xs : List (Kd × B)} {r : D × Store} (hb : b ≤ S.length) (e : newD S m xs = some r) : Stp b S r.2 := by
  unfold M.newD at e
  split at e
  · split at e <;> cases e
    · exact .push hb _
    · exact .refl
  · cases e
theorem Stp.pure {x : Option D} {r : D × Store} (e : pure' S x = some r) : Stp b S r.2 := by
  obtain ⟨d, h, e⟩ := Option.map_eq_some_iff.mp e
  cases e
  exact .refl
theorem Stp.bi {B : Bi} {m : Bool} {vs : List D} {r : D × Store} (hb : b ≤ S.length) (e : bi S B m vs = some r) : Stp b S r.2 := by
  unfold M.bi at e
  split at e
  all_goals try exact .pure e
  all_goals try (cases e; exact .refl)
  · split at e
    · split at e
      · obtain ⟨ns, e1, e⟩ := Option.bind_eq_some_iff.mp e
        exact .newL hb e
      · cases e
    · obtain ⟨ns, e1, e⟩ := Option.bind_eq_some_iff.mp e
      obtain ⟨ns, e1, e⟩ := Option.bind_eq_some_iff.mp e
      exact .newL hb e
  · obtain ⟨ns, e1, e⟩ := Option.bind_eq_some_iff.mp e
    obtain ⟨ns, e1, e⟩ := Option.bind_eq_some_iff.mp e
    split at e
    · exact .newL hb e
    · cases e
  · obtain ⟨ns, e1, e⟩ := Option.bind_eq_some_iff.mp e
    exact .newL hb e
  · split at e
    · exact .newD hb e
    · obtain ⟨ns, e1, e⟩ := Option.bind_eq_some_iff.mp e
      obtain ⟨ns, e1, e⟩ := Option.bind_eq_some_iff.mp e
      exact .newD hb e
  · cases e
theorem Stp.mt {B : Mt} {x : D} {vs : List D} {r : D × Store} (e : mt S B x vs = some r) : Stp b S r.2 := by
  unfold M.mt at e
  split at e
  · split at e
    · split at e
      · cases e; exact .setl ‹_›
      · cases e
    · cases e
  · split at e
    · obtain ⟨ys, e1, e⟩ := Option.bind_eq_some_iff.mp e
      split at e
      · cases e; exact .setl ‹_›
      · cases e
    · cases e
  · split at e
    · obtain ⟨y, e1, e⟩ := Option.map_eq_some_iff.mp e
      cases e
      exact .setl ‹_›
    · cases e
  · split at e
    · split at e
      · split at e
        · obtain ⟨y, e1, e⟩ := Option.bind_eq_some_iff.mp e
          obtain ⟨y, e1, e⟩ := Option.map_eq_some_iff.mp e
          cases e
          exact .setl ‹_›
        · cases e
      · cases e
    · obtain ⟨y, e1, e⟩ := Option.bind_eq_some_iff.mp e
      obtain ⟨y, e1, e⟩ := Option.map_eq_some_iff.mp e
      cases e
      exact .setd ‹_›
    · cases e
  · split at e
    · obtain ⟨y, e1, e⟩ := Option.map_eq_some_iff.mp e
      split at e
      · cases e; exact .setd ‹_›
      · cases e; exact .refl
    · cases e
  · obtain ⟨y, e1, e⟩ := Option.bind_eq_some_iff.mp e
    obtain ⟨y, e1, e⟩ := Option.map_eq_some_iff.mp e
    split at e <;> (cases e; exact .refl)
  · obtain ⟨y, e1, e⟩ := Option.bind_eq_some_iff.mp e
    obtain ⟨y, e1, e⟩ := Option.map_eq_some_iff.mp e
    split at e <;> (cases e; exact .refl)
  · split at e
    · cases e; exact .setl ‹_›
    · cases e; exact .setd ‹_›
    · cases e
  · split at e
    · obtain ⟨y, e1, e⟩ := Option.bind_eq_some_iff.mp e
      split at e
      · cases e; exact .setd ‹_›
      · cases e
    · cases e
  · cases e
theorem fput_mem {f : Nat} {v : D} : ∀ {fs : List (Nat × D)} {p : Nat × D}, p ∈ fput f v fs → p ∈ fs ∨ p.2 = v
  | [], p, h => by
    unfold fput at h
    rw [List.mem_singleton] at h
    exact .inr (by rw [h])
  | (g, w) :: r, p, h => by
    unfold fput at h
    split at h
    · rcases List.mem_cons.mp h with h | h
      · exact .inr (by rw [h])
      · exact .inl (List.mem_cons_of_mem _ h)
    · rcases List.mem_cons.mp h with h | h
      · exact .inl (h ▸ List.mem_cons_self)
      · exact (fput_mem h).imp (List.mem_cons_of_mem _) id
theorem Stp.setf {fo : Nat → Nat → Bool} {base : Nat} {x : D} {f : Nat} {v : D} (hb : b ≤ base) (e : setf fo base S x f v = some S') : Stp b S S' := by
  unfold M.setf at e
  split at e
  · rename_i n
    split at e
    · rename_i c fs h
      split at e
      · rename_i hc
        cases e
        refine Stp.set h (fun _ z => nomatch z) (fun _ z => nomatch z) fun hn c' fs' ez => ?_
        cases ez
        refine ⟨fs, rfl, fun p hp => (fput_mem hp).imp id fun hv => ?_⟩
        rw [hv]
        simp at hc
        rcases hc.2.1 with h1 | h1
        · exact h1
        · omega
      · cases e
    · cases e
  · cases e
theorem Stp.seti {x i v : D} (e : seti S x i v = some S') : Stp b S S' := by
  unfold M.seti at e
  split at e
  · split at e
    · split at e
      · obtain ⟨y, e1, e⟩ := Option.map_eq_some_iff.mp e
        cases e
        exact .setl ‹_›
      · cases e
    · obtain ⟨y, e1, e⟩ := Option.bind_eq_some_iff.mp e
      split at e
      · cases e
        exact .setd ‹_›
      · cases e
    · cases e
  · cases e
/-! ### locks -/
theorem lock_at {x : D} (n : Nat) : (lock S x)[n]? = S[n]? ∨ (∃ xs, S[n]? = some (.lst xs) ∧ (lock S x)[n]? = some (.lockl xs)) ∨ ∃ xs, S[n]? = some (.dic xs) ∧ (lock S x)[n]? = some (.lockd xs) := by
  unfold lock
  split
  · rename_i m
    split
    · rename_i xs h
      by_cases hm : m = n
      · subst hm
        exact .inr (.inl ⟨xs, h, List.getElem?_set_self (List.getElem?_eq_some_iff.mp h).1⟩)
      · exact .inl (List.getElem?_set_ne hm)
    · rename_i xs h
      by_cases hm : m = n
      · subst hm
        exact .inr (.inr ⟨xs, h, List.getElem?_set_self (List.getElem?_eq_some_iff.mp h).1⟩)
      · exact .inl (List.getElem?_set_ne hm)
    · exact .inl rfl
  · exact .inl rfl
theorem lock_len (x : D) : (lock S x).length = S.length := by
  unfold lock
  split
  · split <;> simp
  · rfl
theorem lockAll_len : ∀ (ds : List D) (S : Store), (lockAll S ds).length = S.length
  | [], _ => rfl
  | x :: r, S => by
    unfold lockAll
    rw [lockAll_len r, lock_len]
theorem lockAll_at : ∀ (ds : List D) (S : Store) (n : Nat), (lockAll S ds)[n]? = S[n]? ∨ (∃ xs, S[n]? = some (.lst xs) ∧ (lockAll S ds)[n]? = some (.lockl xs)) ∨ ∃ xs, S[n]? = some (.dic xs) ∧ (lockAll S ds)[n]? = some (.lockd xs)
  | [], _, _ => .inl rfl
  | x :: r, S, n => by
    unfold lockAll
    rcases lockAll_at r (lock S x) n with h | ⟨xs, h, h2⟩ | ⟨xs, h, h2⟩
    · rw [h]; exact lock_at n
    · rcases lock_at (S := S) (x := x) n with g | ⟨ys, g, g2⟩ | ⟨ys, g, g2⟩
      · rw [g] at h; exact .inr (.inl ⟨xs, h, h2⟩)
      · rw [g2] at h; cases h
      · rw [g2] at h; cases h
    · rcases lock_at (S := S) (x := x) n with g | ⟨ys, g, g2⟩ | ⟨ys, g, g2⟩
      · rw [g] at h; exact .inr (.inr ⟨xs, h, h2⟩)
      · rw [g2] at h; cases h
      · rw [g2] at h; cases h
theorem unlock_stp {x : D} (hs : Stp b S S') (e : unlock S S' x = some S2) : Stp b S S2 := by
  unfold unlock at e
  split at e
  · rename_i m
    split at e
    · rename_i xs h
      split at e
      · rename_i ys h2
        cases e
        refine ⟨by rw [List.length_set]; exact hs.len, fun n zs g => ?_, fun n zs g => ?_, fun n hn c fs g => ?_⟩
        · have : m ≠ n := fun z => by subst z; rw [h] at g; cases g
          rw [List.getElem?_set_ne this]; exact hs.lkl n zs g
        · have : m ≠ n := fun z => by subst z; rw [h] at g; cases g
          rw [List.getElem?_set_ne this]; exact hs.lkd n zs g
        · by_cases hm : m = n
          · subst hm
            rw [List.getElem?_set_self (List.getElem?_eq_some_iff.mp h2).1] at g
            cases g
          · rw [List.getElem?_set_ne hm] at g
            exact hs.cls n hn c fs g
      · cases e
    · rename_i xs h
      split at e
      · rename_i ys h2
        cases e
        refine ⟨by rw [List.length_set]; exact hs.len, fun n zs g => ?_, fun n zs g => ?_, fun n hn c fs g => ?_⟩
        · have : m ≠ n := fun z => by subst z; rw [h] at g; cases g
          rw [List.getElem?_set_ne this]; exact hs.lkl n zs g
        · have : m ≠ n := fun z => by subst z; rw [h] at g; cases g
          rw [List.getElem?_set_ne this]; exact hs.lkd n zs g
        · by_cases hm : m = n
          · subst hm
            rw [List.getElem?_set_self (List.getElem?_eq_some_iff.mp h2).1] at g
            cases g
          · rw [List.getElem?_set_ne hm] at g
            exact hs.cls n hn c fs g
      · cases e
    · cases e
      exact hs
  · cases e
    exact hs
theorem unlockAll_stp : ∀ {ds : List D} {S' : Store}, Stp b S S' → unlockAll S S' ds = some S2 → Stp b S S2
  | [], _, hs, e => by
    cases e
    exact hs
  | x :: r, _, hs, e => by
    obtain ⟨S3, e1, e2⟩ := Option.bind_eq_some_iff.mp e
    exact unlockAll_stp (unlock_stp hs e1) e2
/-- what a walk keeps, from what its body keeps of the locked store -/
theorem Stp.walk {ds : List D} {S3 : Store} (h : Stp b (lockAll S ds) S') (e : unlockAll S S' ds = some S3) : Stp b S S3 := by
  refine unlockAll_stp ⟨by rw [← lockAll_len ds S]; exact h.len, fun n xs g => h.lkl n xs ?_, fun n xs g => h.lkd n xs ?_, fun n hn c fs g => ?_⟩ e
  · rcases lockAll_at ds S n with q | ⟨ys, q, _⟩ | ⟨ys, q, _⟩
    · rw [q]; exact g
    · rw [q] at g; cases g
    · rw [q] at g; cases g
  · rcases lockAll_at ds S n with q | ⟨ys, q, _⟩ | ⟨ys, q, _⟩
    · rw [q]; exact g
    · rw [q] at g; cases g
    · rw [q] at g; cases g
  · obtain ⟨f0, e0, q0⟩ := h.cls n hn c fs g
    rcases lockAll_at ds S n with q | ⟨ys, _, q⟩ | ⟨ys, _, q⟩
    · exact ⟨f0, q ▸ e0, q0⟩
    · rw [q] at e0; cases e0
    · rw [q] at e0; cases e0
end
/-! ### the machine -/
/-- what a call's function keeps -/
def CStp (C : Nat → Nat → List D → Store → Option (D × Store)) : Prop := ∀ base f ds S r, C base f ds S = some r → ∀ b, b ≤ base → b ≤ S.length → Stp b S r.2
theorem lcL_stp {b : Nat} {f : Sl → Store → Option (Option B × Store)} (hf : ∀ σ S r, f σ S = some r → b ≤ S.length → Stp b S r.2) (g : Pt) : ∀ (xs : List B) (σ : Sl) (S : Store) (r : List B × Store), lcL f g xs σ S = some r → b ≤ S.length → Stp b S r.2
  | [], _, _, _, e, _ => by
    cases e
    exact .refl
  | x :: xs, σ, S, r, e, hb => by
    obtain ⟨σ2, e1, e⟩ := Option.bind_eq_some_iff.mp e
    obtain ⟨p, e2, e⟩ := Option.bind_eq_some_iff.mp e
    obtain ⟨q, e3, e⟩ := Option.map_eq_some_iff.mp e
    have h1 := hf _ _ _ e2 hb
    have h2 := lcL_stp hf g xs σ _ q e3 (Nat.le_trans hb h1.len)
    have : r.2 = q.2 := by
      cases e
      split <;> rfl
    rw [this]
    exact h1.trans h2
theorem dcL_stp {b : Nat} {f : Sl → Store → Option (Option (Kd × B) × Store)} (hf : ∀ σ S r, f σ S = some r → b ≤ S.length → Stp b S r.2) (g : Pt) : ∀ (xs : List B) (σ : Sl) (S : Store) (a) (r : List (Kd × B) × Store), dcL f g xs σ S a = some r → b ≤ S.length → Stp b S r.2
  | [], _, _, _, _, e, _ => by
    cases e
    exact .refl
  | x :: xs, σ, S, a, r, e, hb => by
    obtain ⟨σ2, e1, e⟩ := Option.bind_eq_some_iff.mp e
    obtain ⟨p, e2, e⟩ := Option.bind_eq_some_iff.mp e
    have h1 := hf _ _ _ e2 hb
    exact h1.trans (dcL_stp hf g xs σ _ _ r e (Nat.le_trans hb h1.len))
section
variable {P : Par} (hC : CStp P.C) (hC2 : CStp P.C2)
include hC hC2
omit hC in
theorem eqE_stp {x y : B} {S : Store} {r : Bool × Store} (e : eqE P x y S = some r) (b : Nat) (h : b ≤ P.base) (hb : b ≤ S.length) : Stp b S r.2 := by
  unfold eqE at e
  split at e
  · cases e; exact .refl
  · split at e
    · split at e
      · obtain ⟨f, _, e⟩ := Option.bind_eq_some_iff.mp e
        obtain ⟨q, e2, e⟩ := Option.bind_eq_some_iff.mp e
        split at e
        · split at e
          · cases e; exact .refl
          · cases e
        · cases e
      · cases e
    · cases e
omit hC in
theorem eqL_stp : ∀ (xs ys : List B) (S : Store) (r : Bool × Store), eqL P xs ys S = some r → ∀ b, b ≤ P.base → b ≤ S.length → Stp b S r.2
  | [], [], S, r, e, b, h, hb => by cases e; exact .refl
  | [], _ :: _, S, r, e, b, h, hb => by cases e; exact .refl
  | _ :: _, [], S, r, e, b, h, hb => by cases e; exact .refl
  | x :: xs, y :: ys, S, r, e, b, h, hb => by
    unfold eqL at e
    obtain ⟨q, e1, e⟩ := Option.bind_eq_some_iff.mp e
    have h1 := eqE_stp hC2 e1 b h hb
    split at e
    · exact h1.trans (eqL_stp xs ys _ r e b h (Nat.le_trans hb h1.len))
    · cases e; exact h1
theorem eqo_stp {x y : D} {S : Store} {r : Bool × Store} (e : eqo P S x y = some r) (b : Nat) (h : b ≤ P.base) (hb : b ≤ S.length) : Stp b S r.2 := by
  unfold eqo at e
  split at e
  · split at e
    · obtain ⟨f, _, e⟩ := Option.bind_eq_some_iff.mp e
      obtain ⟨q, e2, e⟩ := Option.bind_eq_some_iff.mp e
      have h1 := hC _ _ _ _ _ e2 b h hb
      split at e
      · cases e; exact h1
      · cases e
    · cases e
  · split at e
    · cases e; exact .refl
    · split at e
      · exact eqL_stp hC2 _ _ _ _ e b h hb
      · cases e
  · obtain ⟨q, _, e⟩ := Option.map_eq_some_iff.mp e
    cases e
    exact .refl
mutual
theorem ev_stp : ∀ (m : E) (σ : Sl) (S : Store) (r : D × Store), ev P m σ S = some r → ∀ b, b ≤ P.base → b ≤ S.length → Stp b S r.2
  | .v i, σ, S, r, e, b, h, hb => by
    unfold ev at e
    split at e <;> cases e
    exact .refl
  | .k x, σ, S, r, e, b, h, hb => by cases e; exact .refl
  | .nop, σ, S, r, e, b, h, hb => by cases e; exact .refl
  | .nev, σ, S, r, e, b, h, hb => by cases e
  | .bin o a c, σ, S, r, e, b, h, hb => by
    unfold ev at e
    obtain ⟨x, e1, e⟩ := Option.bind_eq_some_iff.mp e
    obtain ⟨y, e2, e⟩ := Option.bind_eq_some_iff.mp e
    obtain ⟨z, e3, e⟩ := Option.map_eq_some_iff.mp e
    cases e
    have h1 := ev_stp a σ S x e1 b h hb
    exact h1.trans (ev_stp c σ _ y e2 b h (Nat.le_trans hb h1.len))
  | .cat a c, σ, S, r, e, b, h, hb => by
    unfold ev at e
    obtain ⟨x, e1, e⟩ := Option.bind_eq_some_iff.mp e
    obtain ⟨y, e2, e⟩ := Option.bind_eq_some_iff.mp e
    obtain ⟨z, e3, e⟩ := Option.bind_eq_some_iff.mp e
    obtain ⟨w, e4, e⟩ := Option.bind_eq_some_iff.mp e
    have h1 := ev_stp a σ S x e1 b h hb
    have h2 := ev_stp c σ _ y e2 b h (Nat.le_trans hb h1.len)
    exact h1.trans (h2.trans (.newL (Nat.le_trans hb (h1.trans h2).len) e))
  | .neg a, σ, S, r, e, b, h, hb => by
    unfold ev at e
    obtain ⟨x, e1, e⟩ := Option.bind_eq_some_iff.mp e
    split at e <;> cases e
    exact ev_stp a σ S x e1 b h hb
  | .inv a, σ, S, r, e, b, h, hb => by
    unfold ev at e
    obtain ⟨x, e1, e⟩ := Option.bind_eq_some_iff.mp e
    split at e <;> cases e
    exact ev_stp a σ S x e1 b h hb
  | .not a, σ, S, r, e, b, h, hb => by
    unfold ev at e
    obtain ⟨x, e1, e⟩ := Option.bind_eq_some_iff.mp e
    obtain ⟨c, e2, e⟩ := Option.map_eq_some_iff.mp e
    cases e
    exact ev_stp a σ S x e1 b h hb
  | .cmp o a c, σ, S, r, e, b, h, hb => by
    unfold ev at e
    obtain ⟨x, e1, e⟩ := Option.bind_eq_some_iff.mp e
    obtain ⟨y, e2, e⟩ := Option.bind_eq_some_iff.mp e
    obtain ⟨z, e3, e⟩ := Option.map_eq_some_iff.mp e
    cases e
    have h1 := ev_stp a σ S x e1 b h hb
    exact h1.trans (ev_stp c σ _ y e2 b h (Nat.le_trans hb h1.len))
  | .chn o p a c d, σ, S, r, e, b, h, hb => by
    unfold ev at e
    obtain ⟨x, e1, e⟩ := Option.bind_eq_some_iff.mp e
    obtain ⟨y, e2, e⟩ := Option.bind_eq_some_iff.mp e
    obtain ⟨z, e3, e⟩ := Option.bind_eq_some_iff.mp e
    have h1 := ev_stp a σ S x e1 b h hb
    have h2 := ev_stp c σ _ y e2 b h (Nat.le_trans hb h1.len)
    split at e
    · obtain ⟨w, e4, e⟩ := Option.bind_eq_some_iff.mp e
      obtain ⟨q, e5, e⟩ := Option.map_eq_some_iff.mp e
      cases e
      exact h1.trans (h2.trans (ev_stp d σ _ w e4 b h (Nat.le_trans hb (h1.trans h2).len)))
    · cases e
      exact h1.trans h2
  | .and a c, σ, S, r, e, b, h, hb => by
    unfold ev at e
    obtain ⟨x, e1, e⟩ := Option.bind_eq_some_iff.mp e
    obtain ⟨z, e3, e⟩ := Option.bind_eq_some_iff.mp e
    have h1 := ev_stp a σ S x e1 b h hb
    split at e
    · exact h1.trans (ev_stp c σ _ r e b h (Nat.le_trans hb h1.len))
    · cases e
      exact h1
  | .or a c, σ, S, r, e, b, h, hb => by
    unfold ev at e
    obtain ⟨x, e1, e⟩ := Option.bind_eq_some_iff.mp e
    obtain ⟨z, e3, e⟩ := Option.bind_eq_some_iff.mp e
    have h1 := ev_stp a σ S x e1 b h hb
    split at e
    · cases e
      exact h1
    · exact h1.trans (ev_stp c σ _ r e b h (Nat.le_trans hb h1.len))
  | .ite t a c, σ, S, r, e, b, h, hb => by
    unfold ev at e
    obtain ⟨x, e1, e⟩ := Option.bind_eq_some_iff.mp e
    obtain ⟨z, e3, e⟩ := Option.bind_eq_some_iff.mp e
    have h1 := ev_stp t σ S x e1 b h hb
    split at e
    · exact h1.trans (ev_stp a σ _ r e b h (Nat.le_trans hb h1.len))
    · exact h1.trans (ev_stp c σ _ r e b h (Nat.le_trans hb h1.len))
  | .tup es, σ, S, r, e, b, h, hb => by
    unfold ev at e
    obtain ⟨x, e1, e⟩ := Option.bind_eq_some_iff.mp e
    split at e <;> cases e
    exact evs_stp es σ S x e1 b h hb
  | .lst m es, σ, S, r, e, b, h, hb => by
    unfold ev at e
    obtain ⟨x, e1, e⟩ := Option.bind_eq_some_iff.mp e
    obtain ⟨z, e3, e⟩ := Option.bind_eq_some_iff.mp e
    have h1 := evs_stp es σ S x e1 b h hb
    exact h1.trans (.newL (Nat.le_trans hb h1.len) e)
  | .dnew m, σ, S, r, e, b, h, hb => .newD hb e
  | .dic es, σ, S, r, e, b, h, hb => by
    unfold ev at e
    obtain ⟨x, e1, e⟩ := Option.bind_eq_some_iff.mp e
    have h0 : Stp b S (S ++ [.dic []]) := .push hb _
    have h1 := evs_stp es σ _ x e1 b h (Nat.le_trans hb h0.len)
    split at e
    · rename_i hS
      obtain ⟨z, e3, e⟩ := Option.bind_eq_some_iff.mp e
      split at e <;> cases e
      exact h0.trans (h1.trans (.setd hS))
    · cases e
  | .idx a i, σ, S, r, e, b, h, hb => by
    unfold ev at e
    obtain ⟨x, e1, e⟩ := Option.bind_eq_some_iff.mp e
    obtain ⟨y, e2, e⟩ := Option.bind_eq_some_iff.mp e
    obtain ⟨z, e3, e⟩ := Option.map_eq_some_iff.mp e
    cases e
    have h1 := ev_stp a σ S x e1 b h hb
    exact h1.trans (ev_stp i σ _ y e2 b h (Nat.le_trans hb h1.len))
  | .slc a l u, σ, S, r, e, b, h, hb => by
    unfold ev at e
    obtain ⟨x, e1, e⟩ := Option.bind_eq_some_iff.mp e
    obtain ⟨y, e2, e⟩ := Option.bind_eq_some_iff.mp e
    obtain ⟨z, e3, e⟩ := Option.bind_eq_some_iff.mp e
    obtain ⟨w, e4, e⟩ := Option.map_eq_some_iff.mp e
    cases e
    have h1 := ev_stp a σ S x e1 b h hb
    have h2 := h1.trans (ev_stp l σ _ y e2 b h (Nat.le_trans hb h1.len))
    exact h2.trans (ev_stp u σ _ z e3 b h (Nat.le_trans hb h2.len))
  | .rev a, σ, S, r, e, b, h, hb => by
    unfold ev at e
    obtain ⟨x, e1, e⟩ := Option.bind_eq_some_iff.mp e
    obtain ⟨c, e2, e⟩ := Option.map_eq_some_iff.mp e
    cases e
    exact ev_stp a σ S x e1 b h hb
  | .att a f, σ, S, r, e, b, h, hb => by
    unfold ev at e
    obtain ⟨x, e1, e⟩ := Option.bind_eq_some_iff.mp e
    obtain ⟨c, e2, e⟩ := Option.map_eq_some_iff.mp e
    cases e
    exact ev_stp a σ S x e1 b h hb
  | .call f es, σ, S, r, e, b, h, hb => by
    unfold ev at e
    obtain ⟨x, e1, e⟩ := Option.bind_eq_some_iff.mp e
    have h1 := evs_stp es σ S x e1 b h hb
    exact h1.trans (hC _ _ _ _ _ e b h (Nat.le_trans hb h1.len))
  | .meth o m es, σ, S, r, e, b, h, hb => by
    unfold ev at e
    obtain ⟨x, e1, e⟩ := Option.bind_eq_some_iff.mp e
    obtain ⟨c, e3, e⟩ := Option.bind_eq_some_iff.mp e
    obtain ⟨f, e4, e⟩ := Option.bind_eq_some_iff.mp e
    obtain ⟨y, e2, e⟩ := Option.bind_eq_some_iff.mp e
    have h1 := ev_stp o σ S x e1 b h hb
    have h2 := h1.trans (evs_stp es σ _ y e2 b h (Nat.le_trans hb h1.len))
    exact h2.trans (hC _ _ _ _ _ e b h (Nat.le_trans hb h2.len))
  | .make c es, σ, S, r, e, b, h, hb => by
    unfold ev at e
    obtain ⟨x, e1, e⟩ := Option.bind_eq_some_iff.mp e
    obtain ⟨q, e2, e⟩ := Option.bind_eq_some_iff.mp e
    have h1 := evs_stp es σ S x e1 b h hb
    have hl := Nat.le_trans hb h1.len
    have h2 : Stp b x.2 (x.2 ++ [.ins c []]) := .push hl _
    split at e
    · obtain ⟨y, e3, e⟩ := Option.bind_eq_some_iff.mp e
      split at e
      · obtain ⟨z, e4, e⟩ := Option.map_eq_some_iff.mp e
        cases e
        exact h1.trans (h2.trans (hC2 _ _ _ _ _ e3 b hl (Nat.le_trans hl h2.len))).take
      · cases e
    · obtain ⟨y, e3, e⟩ := Option.bind_eq_some_iff.mp e
      split at e <;> cases e
      exact h1.trans (h2.trans (hC2 _ _ _ _ _ e3 b h (Nat.le_trans hl h2.len)))
  | .bi B m es, σ, S, r, e, b, h, hb => by
    unfold ev at e
    obtain ⟨x, e1, e⟩ := Option.bind_eq_some_iff.mp e
    have h1 := evs_stp es σ S x e1 b h hb
    exact h1.trans (.bi (Nat.le_trans hb h1.len) e)
  | .mt B o es, σ, S, r, e, b, h, hb => by
    unfold ev at e
    obtain ⟨x, e1, e⟩ := Option.bind_eq_some_iff.mp e
    obtain ⟨y, e2, e⟩ := Option.bind_eq_some_iff.mp e
    have h1 := ev_stp o σ S x e1 b h hb
    have h2 := h1.trans (evs_stp es σ _ y e2 b h (Nat.le_trans hb h1.len))
    split at e
    · exact h2.trans (.mt e)
    · cases e
  | .lc m g k es t a w, σ, S, r, e, b, h, hb => by
    unfold ev at e
    obtain ⟨x, e1, e⟩ := Option.bind_eq_some_iff.mp e
    obtain ⟨xs, e2, e⟩ := Option.bind_eq_some_iff.mp e
    have h1 := evs_stp es σ S x e1 b h hb
    have hl := Nat.le_trans hb h1.len
    split at e
    · obtain ⟨q, e3, e⟩ := Option.bind_eq_some_iff.mp e
      obtain ⟨S3, e4, e⟩ := Option.bind_eq_some_iff.mp e
      have h2 := lcL_stp (b := b) (fun σ2 S2 r2 e hb2 => by
        obtain ⟨c, e1, e⟩ := Option.bind_eq_some_iff.mp e
        obtain ⟨c1, e2, e⟩ := Option.bind_eq_some_iff.mp e
        have g1 := ev_stp t σ2 S2 c e1 b h hb2
        split at e
        · obtain ⟨y, e3, e⟩ := Option.bind_eq_some_iff.mp e
          obtain ⟨z, e4, e⟩ := Option.map_eq_some_iff.mp e
          cases e
          have g2 := g1.trans (ev_stp a σ2 _ y e3 b h (Nat.le_trans hb2 g1.len))
          obtain ⟨d, S4⟩ := y
          cases d <;> try (cases e4; done)
          cases e4
          exact g2
        · cases e
          exact g1) g xs _ _ q e3 (by rw [lockAll_len]; exact hl)
      have h3 := h1.trans (Stp.walk h2 e4)
      exact h3.trans (.newL (Nat.le_trans hb h3.len) e)
    · cases e
  | .dc m g k es t ke a w, σ, S, r, e, b, h, hb => by
    unfold ev at e
    obtain ⟨x, e1, e⟩ := Option.bind_eq_some_iff.mp e
    obtain ⟨xs, e2, e⟩ := Option.bind_eq_some_iff.mp e
    have h1 := evs_stp es σ S x e1 b h hb
    have hl := Nat.le_trans hb h1.len
    split at e
    · obtain ⟨q, e3, e⟩ := Option.bind_eq_some_iff.mp e
      obtain ⟨S3, e4, e⟩ := Option.bind_eq_some_iff.mp e
      have h2 := dcL_stp (b := b) (fun σ2 S2 r2 e hb2 => by
        obtain ⟨c, e1, e⟩ := Option.bind_eq_some_iff.mp e
        obtain ⟨c1, e2, e⟩ := Option.bind_eq_some_iff.mp e
        have g1 := ev_stp t σ2 S2 c e1 b h hb2
        split at e
        · obtain ⟨u, e5, e⟩ := Option.bind_eq_some_iff.mp e
          obtain ⟨kk, e6, e⟩ := Option.bind_eq_some_iff.mp e
          obtain ⟨y, e3, e⟩ := Option.bind_eq_some_iff.mp e
          obtain ⟨z, e4, e⟩ := Option.map_eq_some_iff.mp e
          cases e
          have g2 := g1.trans (ev_stp ke σ2 _ u e5 b h (Nat.le_trans hb2 g1.len))
          have g3 := g2.trans (ev_stp a σ2 _ y e3 b h (Nat.le_trans hb2 g2.len))
          obtain ⟨d, S4⟩ := y
          cases d <;> try (cases e4; done)
          cases e4
          exact g3
        · cases e
          exact g1) g xs _ _ _ q e3 (by rw [lockAll_len]; exact hl)
      have h3 := h1.trans (Stp.walk h2 e4)
      exact h3.trans (.newD (Nat.le_trans hb h3.len) e)
    · cases e
  | .pick es i, σ, S, r, e, b, h, hb => by
    unfold ev at e
    obtain ⟨x, e1, e⟩ := Option.bind_eq_some_iff.mp e
    obtain ⟨y, e2, e⟩ := Option.bind_eq_some_iff.mp e
    have h1 := evs_stp es σ S x e1 b h hb
    have h2 := h1.trans (ev_stp i σ _ y e2 b h (Nat.le_trans hb h1.len))
    split at e
    · split at e
      · obtain ⟨z, e3, e⟩ := Option.map_eq_some_iff.mp e
        cases e
        exact h2
      · cases e
    · cases e
  | .lkd i a, σ, S, r, e, b, h, hb => by
    unfold ev at e
    split at e
    · split at e
      · obtain ⟨q, e1, e⟩ := Option.bind_eq_some_iff.mp e
        obtain ⟨S3, e2, e⟩ := Option.map_eq_some_iff.mp e
        cases e
        exact Stp.walk (ev_stp a σ _ q e1 b h (by rw [lockAll_len]; exact hb)) e2
      · cases e
    · cases e
  | .fz a, σ, S, r, e, b, h, hb => by
    unfold ev at e
    obtain ⟨q, e1, e⟩ := Option.bind_eq_some_iff.mp e
    split at e
    · obtain ⟨z, e2, e⟩ := Option.map_eq_some_iff.mp e
      cases e
      exact (ev_stp a σ S q e1 b h hb).take
    · cases e
  | .eqo x y, σ, S, r, e, b, h, hb => by
    unfold ev at e
    obtain ⟨p, e1, e⟩ := Option.bind_eq_some_iff.mp e
    obtain ⟨q, e2, e⟩ := Option.bind_eq_some_iff.mp e
    obtain ⟨z, e3, e⟩ := Option.map_eq_some_iff.mp e
    cases e
    have h1 := ev_stp x σ S p e1 b h hb
    have h2 := h1.trans (ev_stp y σ _ q e2 b h (Nat.le_trans hb h1.len))
    exact h2.trans (eqo_stp hC hC2 e3 b h (Nat.le_trans hb h2.len))
  | .isc c x, σ, S, r, e, b, h, hb => by
    unfold ev at e
    obtain ⟨p, e1, e⟩ := Option.bind_eq_some_iff.mp e
    obtain ⟨z, e3, e⟩ := Option.map_eq_some_iff.mp e
    cases e
    exact ev_stp x σ S p e1 b h hb
  | .revt x, σ, S, r, e, b, h, hb => by
    unfold ev at e
    obtain ⟨p, e1, e⟩ := Option.bind_eq_some_iff.mp e
    split at e
    · cases e
      exact ev_stp x σ S p e1 b h hb
    · cases e
termination_by structural x => x
theorem evs_stp : ∀ (m : List E) (σ : Sl) (S : Store) (r : List D × Store), evs P m σ S = some r → ∀ b, b ≤ P.base → b ≤ S.length → Stp b S r.2
  | [], σ, S, r, e, b, h, hb => by cases e; exact .refl
  | m :: ms, σ, S, r, e, b, h, hb => by
    unfold evs at e
    obtain ⟨x, e1, e⟩ := Option.bind_eq_some_iff.mp e
    obtain ⟨y, e2, e⟩ := Option.map_eq_some_iff.mp e
    cases e
    have h1 := ev_stp m σ S x e1 b h hb
    exact h1.trans (evs_stp ms σ _ y e2 b h (Nat.le_trans hb h1.len))
termination_by structural x => x
end
/-! ### statements -/
omit hC hC2 in
theorem whileL_stp {b : Nat} {t : Sl → Store → Option (Bool × Store)} {f : Sl → Store → Rs} (ht : ∀ σ S r, t σ S = some r → b ≤ S.length → Stp b S r.2) (hf : ∀ σ S r, f σ S = some r → b ≤ S.length → Stp b S r.2.2) :
    ∀ (n : Nat) (σ : Sl) (S : Store) r, whileL t f n σ S = some r → b ≤ S.length → Stp b S r.2.2
  | 0, _, _, _, e, _ => by cases e
  | n + 1, σ, S, r, e, hb => by
    obtain ⟨c, e1, e⟩ := Option.bind_eq_some_iff.mp e
    have h1 := ht _ _ _ e1 hb
    split at e
    · obtain ⟨q, e2, e⟩ := Option.bind_eq_some_iff.mp e
      have h2 := h1.trans (hf _ _ _ e2 (Nat.le_trans hb h1.len))
      split at e
      · cases e
        exact h2
      · exact h2.trans (whileL_stp ht hf n _ _ r e (Nat.le_trans hb h2.len))
    · cases e
      exact h1
omit hC hC2 in
theorem forL_stp {b : Nat} {f : Sl → Store → Rs} (hf : ∀ σ S r, f σ S = some r → b ≤ S.length → Stp b S r.2.2) (g : Pt) : ∀ (xs : List B) (σ : Sl) (S : Store) r, forL f g xs σ S = some r → b ≤ S.length → Stp b S r.2.2
  | [], _, _, _, e, _ => by
    cases e
    exact .refl
  | x :: xs, σ, S, r, e, hb => by
    obtain ⟨σ2, e1, e⟩ := Option.bind_eq_some_iff.mp e
    obtain ⟨q, e2, e⟩ := Option.bind_eq_some_iff.mp e
    have h1 := hf _ _ _ e2 hb
    split at e
    · cases e
      exact h1
    · exact h1.trans (forL_stp hf g xs _ _ r e (Nat.le_trans hb h1.len))
mutual
theorem exec_stp : ∀ (m : St) (σ : Sl) (S : Store) r, exec P m σ S = some r → ∀ b, b ≤ P.base → b ≤ S.length → Stp b S r.2.2
  | .set i a, σ, S, r, e, b, h, hb => by
    unfold exec at e
    obtain ⟨x, e1, e⟩ := Option.map_eq_some_iff.mp e
    cases e
    exact ev_stp hC hC2 a σ S x e1 b h hb
  | .unp is a, σ, S, r, e, b, h, hb => by
    unfold exec at e
    obtain ⟨x, e1, e⟩ := Option.bind_eq_some_iff.mp e
    obtain ⟨y, e2, e⟩ := Option.map_eq_some_iff.mp e
    cases e
    exact ev_stp hC hC2 a σ S x e1 b h hb
  | .aug i o a, σ, S, r, e, b, h, hb => by
    unfold exec at e
    split at e
    · obtain ⟨x, e1, e⟩ := Option.bind_eq_some_iff.mp e
      split at e
      · obtain ⟨y, e2, e⟩ := Option.map_eq_some_iff.mp e
        cases e
        exact ev_stp hC hC2 a σ S x e1 b h hb
      · cases e
    · cases e
  | .seti o i a, σ, S, r, e, b, h, hb => by
    unfold exec at e
    obtain ⟨x, e1, e⟩ := Option.bind_eq_some_iff.mp e
    obtain ⟨y, e2, e⟩ := Option.bind_eq_some_iff.mp e
    obtain ⟨z, e3, e⟩ := Option.bind_eq_some_iff.mp e
    obtain ⟨w, e4, e⟩ := Option.map_eq_some_iff.mp e
    cases e
    have h1 := ev_stp hC hC2 a σ S x e1 b h hb
    have h2 := h1.trans (ev_stp hC hC2 o σ _ y e2 b h (Nat.le_trans hb h1.len))
    have h3 := h2.trans (ev_stp hC hC2 i σ _ z e3 b h (Nat.le_trans hb h2.len))
    exact h3.trans (.seti e4)
  | .augi o i p a, σ, S, r, e, b, h, hb => by
    unfold exec at e
    obtain ⟨x, e1, e⟩ := Option.bind_eq_some_iff.mp e
    obtain ⟨y, e2, e⟩ := Option.bind_eq_some_iff.mp e
    obtain ⟨z, e3, e⟩ := Option.bind_eq_some_iff.mp e
    obtain ⟨w, e4, e⟩ := Option.bind_eq_some_iff.mp e
    have h1 := ev_stp hC hC2 o σ S x e1 b h hb
    have h2 := h1.trans (ev_stp hC hC2 i σ _ y e2 b h (Nat.le_trans hb h1.len))
    have h3 := h2.trans (ev_stp hC hC2 a σ _ w e4 b h (Nat.le_trans hb h2.len))
    split at e
    · obtain ⟨q, e5, e⟩ := Option.bind_eq_some_iff.mp e
      obtain ⟨q2, e6, e⟩ := Option.map_eq_some_iff.mp e
      cases e
      exact h3.trans (.seti e6)
    · cases e
  | .setf o f a, σ, S, r, e, b, h, hb => by
    unfold exec at e
    obtain ⟨x, e1, e⟩ := Option.bind_eq_some_iff.mp e
    obtain ⟨y, e2, e⟩ := Option.bind_eq_some_iff.mp e
    obtain ⟨z, e3, e⟩ := Option.map_eq_some_iff.mp e
    cases e
    have h1 := ev_stp hC hC2 a σ S x e1 b h hb
    have h2 := h1.trans (ev_stp hC hC2 o σ _ y e2 b h (Nat.le_trans hb h1.len))
    exact h2.trans (.setf h e3)
  | .augf o f p a, σ, S, r, e, b, h, hb => by
    unfold exec at e
    obtain ⟨x, e1, e⟩ := Option.bind_eq_some_iff.mp e
    obtain ⟨y, e2, e⟩ := Option.bind_eq_some_iff.mp e
    obtain ⟨z, e3, e⟩ := Option.bind_eq_some_iff.mp e
    have h1 := ev_stp hC hC2 o σ S x e1 b h hb
    have h2 := h1.trans (ev_stp hC hC2 a σ _ z e3 b h (Nat.le_trans hb h1.len))
    split at e
    · split at e
      · obtain ⟨q, e5, e⟩ := Option.bind_eq_some_iff.mp e
        obtain ⟨q2, e6, e⟩ := Option.map_eq_some_iff.mp e
        cases e
        exact h2.trans (.setf h e6)
      · cases e
    · cases e
  | .iff t a c, σ, S, r, e, b, h, hb => by
    unfold exec at e
    obtain ⟨x, e1, e⟩ := Option.bind_eq_some_iff.mp e
    obtain ⟨y, e2, e⟩ := Option.bind_eq_some_iff.mp e
    have h1 := ev_stp hC hC2 t σ S x e1 b h hb
    split at e
    · exact h1.trans (execs_stp a σ _ r e b h (Nat.le_trans hb h1.len))
    · exact h1.trans (execs_stp c σ _ r e b h (Nat.le_trans hb h1.len))
  | .whl t a, σ, S, r, e, b, h, hb => by
    unfold exec at e
    refine whileL_stp (fun σ2 S2 r2 e hb2 => ?_) (fun σ2 S2 r2 e hb2 => execs_stp a σ2 S2 r2 e b h hb2) WF σ S r e hb
    obtain ⟨x, e1, e⟩ := Option.bind_eq_some_iff.mp e
    obtain ⟨y, e2, e⟩ := Option.map_eq_some_iff.mp e
    cases e
    exact ev_stp hC hC2 t σ2 S2 x e1 b h hb2
  | .for g k es a, σ, S, r, e, b, h, hb => by
    unfold exec at e
    obtain ⟨x, e1, e⟩ := Option.bind_eq_some_iff.mp e
    obtain ⟨y, e2, e⟩ := Option.bind_eq_some_iff.mp e
    obtain ⟨z, e3, e⟩ := Option.bind_eq_some_iff.mp e
    obtain ⟨w, e4, e⟩ := Option.map_eq_some_iff.mp e
    cases e
    have h1 := evs_stp hC hC2 es σ S x e1 b h hb
    have h2 := forL_stp (b := b) (fun σ2 S2 r2 e hb2 => execs_stp a σ2 S2 r2 e b h hb2) g _ _ _ z e3 (by rw [lockAll_len]; exact Nat.le_trans hb h1.len)
    exact h1.trans (Stp.walk h2 e4)
  | .ret a, σ, S, r, e, b, h, hb => by
    unfold exec at e
    obtain ⟨x, e1, e⟩ := Option.map_eq_some_iff.mp e
    cases e
    exact ev_stp hC hC2 a σ S x e1 b h hb
  | .retn, σ, S, r, e, b, h, hb => by cases e; exact .refl
  | .ex a, σ, S, r, e, b, h, hb => by
    unfold exec at e
    obtain ⟨x, e1, e⟩ := Option.map_eq_some_iff.mp e
    cases e
    exact ev_stp hC hC2 a σ S x e1 b h hb
  | .cont, σ, S, r, e, b, h, hb => by cases e; exact .refl
  | .blk i c, σ, S, r, e, b, h, hb => by
    unfold exec at e
    obtain ⟨⟨f, σ2, S2⟩, e1, e⟩ := Option.bind_eq_some_iff.mp e
    have hs := execs_stp c σ S _ e1 b h hb
    cases f <;> try (cases e; done)
    dsimp only at e
    split at e
    · split at e
      · obtain ⟨y, e2, e⟩ := Option.map_eq_some_iff.mp e
        cases e
        exact hs.take
      · cases e
    · cases e
termination_by structural x => x
theorem execs_stp : ∀ (m : List St) (σ : Sl) (S : Store) r, execs P m σ S = some r → ∀ b, b ≤ P.base → b ≤ S.length → Stp b S r.2.2
  | [], σ, S, r, e, b, h, hb => by cases e; exact .refl
  | m :: ms, σ, S, r, e, b, h, hb => by
    unfold execs at e
    obtain ⟨x, e1, e⟩ := Option.bind_eq_some_iff.mp e
    have h1 := exec_stp m σ S x e1 b h hb
    split at e
    · exact h1.trans (execs_stp ms _ _ r e b h (Nat.le_trans hb h1.len))
    · cases e
      exact h1
termination_by structural x => x
end
end
theorem fin_stp {val : Bool} {b base : Nat} {d : D} {S S' : Store} {r : D × Store} (hs : Stp b S S') (e : fin val S.length d S' = some r) : Stp b S r.2 := by
  unfold fin at e
  split at e
  · obtain ⟨y, e1, e⟩ := Option.map_eq_some_iff.mp e
    cases e
    exact hs.take
  · cases e
    exact hs
theorem evC_stp (T : Tab) : ∀ k, CStp (evC T k)
  | 0 => fun _ _ _ _ _ e => by cases e
  | 1 => fun base f ds S r e b h hb => by
    unfold evC at e
    obtain ⟨fd, e1, e⟩ := Option.bind_eq_some_iff.mp e
    split at e
    · obtain ⟨q, e2, e⟩ := Option.bind_eq_some_iff.mp e
      have hs := execs_stp (P := ⟨evC T 0, fun _ _ _ _ => none, T.init, T.meth, T.fo, if fd.val then S.length else base, T.eqm⟩) (evC_stp T 0) (fun _ _ _ _ _ e => by cases e) fd.body _ S q e2 b (by dsimp only; split <;> omega) hb
      split at e
      · exact fin_stp (base := base) hs e
      · exact fin_stp (base := base) hs e
      · cases e
    · cases e
  | k + 2 => fun base f ds S r e b h hb => by
    unfold evC at e
    obtain ⟨fd, e1, e⟩ := Option.bind_eq_some_iff.mp e
    split at e
    · obtain ⟨q, e2, e⟩ := Option.bind_eq_some_iff.mp e
      have hs := execs_stp (P := ⟨evC T (k + 1), evC T k, T.init, T.meth, T.fo, if fd.val then S.length else base, T.eqm⟩) (evC_stp T (k + 1)) (evC_stp T k) fd.body _ S q e2 b (by dsimp only; split <;> omega) hb
      split at e
      · exact fin_stp (base := base) hs e
      · exact fin_stp (base := base) hs e
      · cases e
    · cases e
end M
/-! MC11: rules of statements. -/
namespace M
open PySem PySem.Spec PyProof.Rows L2
def SPost (C : Ct) (F : Hp) (ι : List Addr) (r : Fl × Sl × Store) (D : Ends) : Prop := match r with
  | (.nx, sl, S) => ∀ F' ι' σ' H', Le F ι F' ι' → RS C F' ι' sl S σ' H' → D.nx σ' H'
  | (.ct, sl, S) => ∀ F' ι' σ' H', Le F ι F' ι' → RS C F' ι' sl S σ' H' → D.ct σ' H'
  | (.rt d, _, S) => Post C F ι S d D.rt
theorem SPost.mono {C : Ct} {F F' : Hp} {ι ι' : List Addr} {r : Fl × Sl × Store} {D : Ends} (p : SPost C F ι r D) (l : Le F ι F' ι') : SPost C F' ι' r D := by
  obtain ⟨f, sl, S⟩ := r
  cases f with
  | nx => exact fun F2 ι2 σ2 H2 l2 rs => p F2 ι2 σ2 H2 (l.trans l2) rs
  | ct => exact fun F2 ι2 σ2 H2 l2 rs => p F2 ι2 σ2 H2 (l.trans l2) rs
  | rt d => exact Post.mono p l
def sdS (C : Ct) (P : Par) (m : St) : TS := fun D σ H => ∃ F ι S sl r, RS C F ι sl S σ H ∧ exec P m sl S = some r ∧ SPost C F ι r D
def sdSs (C : Ct) (P : Par) (m : List St) : TS := fun D σ H => ∃ F ι S sl r, RS C F ι sl S σ H ∧ execs P m sl S = some r ∧ SPost C F ι r D
theorem _root_.L2.PS.imp {X : Cx} {e : Stmt} {t t' : TS} (h : PS X e t) (k : ∀ D σ H, t' D σ H → t D σ H) : PS X e t' := ⟨fun pins s σ H D I q => h.run pins s σ H D I (k D σ H q)⟩
theorem _root_.L2.PSs.imp {X : Cx} {e : List Stmt} {t t' : TS} (h : PSs X e t) (k : ∀ D σ H, t' D σ H → t D σ H) : PSs X e t' := ⟨fun pins s σ H D I q => h.run pins s σ H D I (k D σ H q)⟩
theorem _root_.L2.PS.or {X : Cx} {e : Stmt} {t t' : TS} (h : PS X e t) (h' : PS X e t') : PS X e (fun D σ H => t D σ H ∨ t' D σ H) := ⟨fun pins s σ H D I q => q.elim (h.run pins s σ H D I) (h'.run pins s σ H D I)⟩
abbrev MS (X : Cx) (C : Ct) (P : Par) (e : Stmt) (m : St) : Prop := PS X e (sdS C P m)
abbrev MSs (X : Cx) (C : Ct) (P : Par) (e : List Stmt) (m : List St) : Prop := PSs X e (sdSs C P m)
section
variable {X : Cx} {C : Ct} {P : Par} {F : Hp} {ι : List Addr} {S : Store} {sl : Sl} {σ : L2.St} {H : Hp} {Dn : Ends}
theorem RS.st {m : St} {r : Fl × Sl × Store} (rs : RS C F ι sl S σ H) (e : exec P m sl S = some r) (k : SPost C F ι r Dn) : sdS C P m Dn σ H := ⟨F, ι, S, sl, r, rs, e, k⟩
theorem RS.sts {m : List St} {r : Fl × Sl × Store} (rs : RS C F ι sl S σ H) (e : execs P m sl S = some r) (k : SPost C F ι r Dn) : sdSs C P m Dn σ H := ⟨F, ι, S, sl, r, rs, e, k⟩
theorem RelSl.set {i : Nat} {d : D} {v : V} (r : RelSl C F ι sl σ) (q : RelD C F ι d v) : RelSl C F ι (sl.set i (some d)) (σ.set i (some v)) := by
  refine ⟨by rw [List.length_set, List.length_set]; exact r.1, fun j e h => ?_⟩
  by_cases hj : i = j
  · subst hj
    have hl : i < sl.length := by
      have := (List.getElem?_eq_some_iff.mp h).1
      rwa [List.length_set] at this
    rw [List.getElem?_set_self hl] at h
    cases h
    exact ⟨v, List.getElem?_set_self (by rw [← r.1]; exact hl), q⟩
  · rw [List.getElem?_set_ne hj] at h
    rw [List.getElem?_set_ne hj]
    exact r.2 j e h
theorem RS.slot {i : Nat} {d : D} {v : V} (r : RS C F ι sl S σ H) (q : RelD C F ι d v) : RS C F ι (sl.set i (some d)) S (σ.set i (some v)) H := ⟨r.rh, r.fr, r.rs.set q⟩
end
section
variable {X : Cx} {C : Ct} {P : Par} {pos pos' tpos : Pos} {st : Stmt} {sts : List Stmt} {m : St} {ms na nb : List St} {e o i : Expr} {me' mo mi : E} {x : PySem.Str}
theorem mss_nil : MSs X C P [] [] := (pss_nil (X := X)).imp fun D σ H h => by
  obtain ⟨F, ι, S, sl, r, rs, e, post⟩ := h
  cases e
  exact post F ι σ H (Le.refl _ _) rs
theorem mss_cons (h1 : MS X C P st m) (h2 : MSs X C P sts ms) : MSs X C P (st :: sts) (m :: ms) := (pss_cons h1 h2).imp fun D σ H h => by
  obtain ⟨F, ι, S, sl, r, rs, e, post⟩ := h
  unfold execs at e
  obtain ⟨⟨f, sl2, S2⟩, e1, e⟩ := Option.bind_eq_some_iff.mp e
  refine rs.st e1 ?_
  cases f with
  | nx => exact fun F' ι' σ' H' l rs' => rs'.sts e (post.mono l)
  | ct => cases e; exact post
  | rt d => cases e; exact post
/-! ### plain ones -/
theorem ms_set {k : Nat} (hN : X.N.Nodup) (hi : X.N[k]? = some x) (hx : Loc X.env.scope x) (he : ME X C P e me') (hs : swapsWith e (some (.Name x pos')) pos.line X.env = pure false := by rfl) (hf : X.fn x = true ∨ X.env.scope.names.lookup x = some .local := by first | exact .inl rfl | exact .inr rfl | assumption) :
    MS X C P (.Assign [.Name x pos'] e pos) (.set k me') := (ps_set hN hi hx he hs hf).imp fun D σ H h => by
  obtain ⟨F, ι, S, sl, r, rs, e, post⟩ := h
  unfold exec at e
  obtain ⟨⟨d, S1⟩, e1, e⟩ := Option.map_eq_some_iff.mp e
  cases e
  exact rs.one e1 fun F1 ι1 v H1 l1 r1 q1 => post F1 ι1 _ H1 l1 (r1.slot q1)
def gNames : List Nat → TGs
  | [] => gNil
  | k :: ks => gCons (gName k) (gNames ks)
theorem putAll_rel {F : Hp} {ι : List Addr} {S : Store} {H : Hp} : ∀ {is : List Nat} {ds : List D} {vs : List V} {sl sl2 : Sl} {σ : L2.St} {Q : L2.St → Hp → Prop}, putAll is ds sl = some sl2 → RelDs C F ι ds vs → RS C F ι sl S σ H → (∀ σ2, RS C F ι sl2 S σ2 H → Q σ2 H) → gNames is vs σ H Q
  | [], [], vs, _, _, σ, _, e, r, rs, k => by
    cases (show vs = [] from r)
    cases e
    exact ⟨rfl, k σ rs⟩
  | j :: js, d :: ds, vs, sl, sl2, σ, Q, e, r, rs, k => by
    obtain ⟨v, r2, rfl, h1, h2⟩ := r
    exact ⟨v, r2, rfl, putAll_rel (is := js) (ds := ds) e h2 (rs.slot h1) k⟩
  | [], _ :: _, _, _, _, _, _, e, _, _, _ => by cases e
  | _ :: _, [], _, _, _, _, _, e, _, _, _ => by cases e
theorem pgs_nil' : PGs X [] (gNames []) := pgs_nil
theorem pgs_cons' {k : Nat} {ks : List Nat} {es : List Expr} (hN : X.N.Nodup) (hi : X.N[k]? = some x) (hx : Loc X.env.scope x) (h2 : PGs X es (gNames ks))
    (hs : (assignEach (.Name x pos :: es) X.env).map (·.2) = assign (.Name x pos) X.env :: (assignEach es X.env).map (·.2) := by rfl) (hf : X.fn x = true ∨ X.env.scope.names.lookup x = some .local := by first | exact .inl rfl | exact .inr rfl | assumption) : PGs X (.Name x pos :: es) (gNames (k :: ks)) := pgs_cons (pg_name hN hi hx hf) h2 hs
theorem putAll_len : ∀ {is : List Nat} {ds : List D} {sl sl2 : Sl}, putAll is ds sl = some sl2 → ds.length = is.length
  | [], [], _, _, _ => rfl
  | _ :: js, _ :: ds, _, _, e => by rw [List.length_cons, List.length_cons, putAll_len (is := js) (ds := ds) e]
  | [], _ :: _, _, _, e => by cases e
  | _ :: _, [], _, _, e => by cases e
/-- names take the items of a tuple or of a list -/
def gTL (K : PySem.W.Frag) (n : Nat) (t : TGs) : TG := fun v σ H Q => gTup K n t v σ H Q ∨ gUnl K n t v σ H Q
theorem pg_tl {tpos : Pos} {es : List Expr} {k : Nat} {t : TGs} {n : Nat} (hc : X.calm = true) (hg : PGs X es t) (hn : (assignEach es X.env).length = n) (hst : (assignEach es X.env).findIdx? (·.1) = none) : PG X (.Tuple es k tpos) (gTL X.K n t) :=
  ⟨fun p s σ H v u Q I r w => w.elim (fun w => (pg_tup hc hg hn hst).run p s σ H v u Q I r w) fun w => (pg_unl hc hg hn hst).run p s σ H v u Q I r w⟩
/-- the relation of a tuple's items and a target's reading -/
theorem asgD_rel {K : PySem.W.Frag} (hK : C.K = K) {F : Hp} {ι : List Addr} {S : Store} {H : Hp} {is : List Nat} {d : D} {v : V} {sl sl2 : Sl} {σ : L2.St} {Q : L2.St → Hp → Prop} (e : asgD is d sl = some sl2) (r : RelD C F ι d v) (rs : RS C F ι sl S σ H) (k : ∀ σ2, RS C F ι sl2 S σ2 H → Q σ2 H) : gTL K is.length (gNames is) v σ H Q := by
  unfold asgD at e
  split at e
  · obtain ⟨a, vs, rfl, h1, h2⟩ := r
    refine .inl ⟨a, vs, rfl, hK ▸ sqT_mono rs.rh.fz h1, ?_, putAll_rel e h2.ds rs k⟩
    rw [← h2.length]
    have := putAll_len e
    rwa [List.length_map] at this
  · obtain ⟨a, vs, rfl, h1, h2⟩ := r
    refine .inr ⟨a, vs, rfl, .inl (.inl (rs.rh.fz _ _ h1)), ?_, putAll_rel e h2.ds rs k⟩
    rw [← h2.length]
    have := putAll_len e
    rwa [List.length_map] at this
  · obtain ⟨a, vs, rfl, h1, h2⟩ := r
    exact .inl ⟨a, vs, rfl, hK ▸ sqT_mono rs.rh.fz h1, by rw [← h2.length]; exact putAll_len e, putAll_rel e h2 rs k⟩
  · cases e
theorem ms_unp {es : List Expr} {kk : Nat} {is : List Nat} (hK : C.K = X.K) (hc : X.calm = true) (he : ME X C P e me') (hg : PGs X es (gNames is)) (hn : (assignEach es X.env).length = is.length := by rfl) (hst : (assignEach es X.env).findIdx? (·.1) = none := by rfl)
    (hs : swapsWithSole [.Tuple es kk tpos] e pos.line X.env = pure false := by rfl) (hw : swappedStores [.Tuple es kk tpos] e X.env = pure none := by rfl)
    (h1 : (assignEach [.Tuple es kk tpos] X.env).map (·.2) = [assign (.Tuple es kk tpos) X.env] := by rfl) : MS X C P (.Assign [.Tuple es kk tpos] e pos) (.unp is me') := (ps_asg he (pg_tl hc hg hn hst) hs hw h1).imp fun D σ H h => by
  obtain ⟨F, ι, S, sl, r, rs, e, post⟩ := h
  unfold exec at e
  obtain ⟨⟨d, S1⟩, e1, e⟩ := Option.bind_eq_some_iff.mp e
  obtain ⟨sl2, e2, e⟩ := Option.map_eq_some_iff.mp e
  cases e
  exact rs.one e1 fun F1 ι1 v H1 l1 r1 q1 => asgD_rel hK e2 q1 r1 fun σ2 rs2 => post F1 ι1 σ2 H1 l1 rs2
theorem ms_aug {k : Nat} (o : Op) (ho : ipo o = true) (hN : X.N.Nodup) (hi : X.N[k]? = some x) (hx : Loc X.env.scope x) (he : ME X C P e me') (hf : X.fn x = true ∨ X.env.scope.names.lookup x = some .local := by first | exact .inl rfl | exact .inr rfl | assumption) :
    MS X C P (.AugAssign (.Name x pos') (pop o) e pos) (.aug k o me') := (ps_aug hN hi hx he (iop_ar o ho) hf).imp fun D σ H h => by
  obtain ⟨F, ι, S, sl, r, rs, e, post⟩ := h
  unfold exec at e
  split at e
  · rename_i a h
    obtain ⟨⟨y, S1⟩, e1, e⟩ := Option.bind_eq_some_iff.mp e
    dsimp only at e
    split at e
    · obtain ⟨z, e2, e⟩ := Option.map_eq_some_iff.mp e
      cases e
      obtain ⟨v, hv, rv⟩ := rs.rs.2 k _ h
      cases (show v = _ from rv)
      refine ⟨_, hv, rs.one e1 fun F1 ι1 w H1 l1 r1 q1 => ?_⟩
      exact ⟨_, _, z, rfl, q1, e2, post F1 ι1 _ H1 l1 (r1.slot (d := .b (.int z)) rfl)⟩
    · cases e
  · cases e
/-! ### o[i] = v -/
theorem seti_rel {F ι S S' H} {x i : D} {y : D} {v w u : V} (rh : RH C F ι S H) (fr : Fre F ι) (rx : RelD C F ι x v) (ri : RelD C F ι i w) (ry : RelD C F ι y u) (e : seti S x i y = some S') {Q : Hp → Prop} (k : ∀ H', RH C F ι S' H' → Q H') : rSetL v w u H Q ∨ rSetD v w u H Q := by
  unfold seti at e
  split at e
  · rename_i n yy
    obtain ⟨a, ha, rfl⟩ := rx
    split at e
    · rename_i xs h
      split at e
      · rename_i kk
        obtain ⟨j, e1, e⟩ := Option.map_eq_some_iff.mp e
        cases e
        obtain ⟨ws, h1, h2⟩ := lst_of rh ha h
        exact .inl ⟨a, ws, kk, j, rfl, ri, h1, by rw [← h2.length]; exact e1, k _ (rh.set ha (fr.at ha) (fz_l h1) ⟨_, upd_same, h2.set j ry⟩)⟩
      · cases e
    · rename_i kvs h
      obtain ⟨kk, e1, e⟩ := Option.bind_eq_some_iff.mp e
      split at e
      · rename_i hz
        cases e
        obtain ⟨ws, h1, h2⟩ := dic_of rh ha h
        cases i with
        | b ii =>
          obtain ⟨j, rk, rfl⟩ := keyB_rel (C := C) (F := F) e1 ri
          refine .inr ⟨a, _, rfl, .inl ⟨ws, j, h1, rfl, ?_, rfl⟩, k _ (rh.set ha (fr.at ha) (fz_d h1) ⟨_, upd_same, dput_rel h2 rk ry⟩)⟩
          rw [← h2.length]
          exact Nat.lt_of_lt_of_le hz (SZ_le (Nat.le_refl _))
        | ref n => cases e1
        | mix n => cases e1
      · cases e
    · cases e
  · cases e
theorem set_both (hu : X.A.units + 66 < cLine) : PSet X (fun o i v H Q => rSetL o i v H Q ∨ rSetD o i v H Q) := by
  intro pins s σ H o i v ov iv u Q I ro ri rv h
  rcases h with h | h
  · exact set_list pins s σ H o i v ov iv u Q I ro ri rv h
  · exact set_dict (by omega) pins s σ H o i v ov iv u Q I ro ri rv h
theorem ms_seti (hu : X.A.units + 66 < cLine) (he : ME X C P e me') (ho : ME X C P o mo) (hi : ME X C P i mi)
    (ha : ∀ v, assign (.Subscript o i tpos) X.env v = (do
      let ov ← holding [v] (eval o X.env)
      let iv ← holding [v, ov] (eval i X.env)
      standAt tpos
      holding [v, ov, iv] (setItem ov iv v)
      release [v, ov, iv] []) := by intro _; rfl)
    (hs : swapsWithSole [.Subscript o i tpos] e pos.line X.env = pure false := by rfl) (hw : swappedStores [.Subscript o i tpos] e X.env = pure none := by rfl)
    (h1 : (assignEach [.Subscript o i tpos] X.env).map (·.2) = [assign (.Subscript o i tpos) X.env] := by rfl) : MS X C P (.Assign [.Subscript o i tpos] e pos) (.seti mo mi me') := (ps_asg he (pg_sub ho hi (set_both hu) ha) hs hw h1).imp fun D σ H h => by
  obtain ⟨F, ι, S, sl, r, rs, e, post⟩ := h
  unfold exec at e
  obtain ⟨⟨v, S1⟩, e1, e⟩ := Option.bind_eq_some_iff.mp e
  obtain ⟨⟨x, S2⟩, e2, e⟩ := Option.bind_eq_some_iff.mp e
  obtain ⟨⟨y, S3⟩, e3, e⟩ := Option.bind_eq_some_iff.mp e
  obtain ⟨S4, e4, e⟩ := Option.map_eq_some_iff.mp e
  cases e
  refine rs.one e1 fun F1 ι1 w1 H1 l1 r1 q1 => r1.one e2 fun F2 ι2 w2 H2 l2 r2 q2 => r2.one e3 fun F3 ι3 w3 H3 l3 r3 q3 => ?_
  exact seti_rel r3.rh r3.fr (q2.mono l3) q3 ((q1.mono l2).mono l3) e4 fun H' rh' => post F3 ι3 σ H' ((l1.trans l2).trans l3) ⟨rh', r3.fr, r3.rs⟩
def rGetL (K : PySem.W.Frag) : V → V → Hp → VK → Prop := fun x y H Q => ∃ p xs i v, x = .ref p ∧ y = .int i ∧ SqL K H p xs ∧ L2.atI xs i = some v ∧ Q v H
theorem get_both (hu : X.A.units + 66 < cLine) : PGet X (fun x y H Q => rIxL X.K x y H Q ∨ rIxD x y H Q) := by
  intro pins s σ H x y v u Q I rx ry h
  rcases h with h | h
  · obtain ⟨p, xs, i, z, rfl, rfl, hq, he, q⟩ := h
    cases rx
    obtain ⟨t, rfl⟩ := ry
    obtain ⟨its, r, pl, hz⟩ := I.list hq
    obtain ⟨j, h1, h2, h3, h4, h5⟩ := atI_get he
    obtain ⟨w, ew, rw'⟩ := r.get h2
    have hl := r.length
    have hn := line63
    have fin : EP X pins σ Q w s := ⟨z, H, I, rw', q⟩
    by_cases h0 : 0 ≤ i
    · have hj : i.toNat = j := by
        rw [seqIndex_of h0 h5] at h1
        exact Option.some.inj h1
      exact wpAny_getItem_list pl.isList h0 (by omega) (by rw [hj]; simpa using ew) fin
    · have hj : (i + (its.toArray.size : Int)).toNat = j := by
        rw [seqIndex_neg (by omega) h4] at h1
        rw [List.size_toArray, ← hl]
        exact Option.some.inj h1
      exact wpAny_getItem_list_neg pl.isList (by omega) (by rw [List.size_toArray] <;> omega) (by omega) (by rw [hj]; simpa using ew) fin
  · obtain ⟨a, w, rfl, g, q⟩ := h
    obtain rfl : v = Value.ref a := rx
    exact d_getItem (by omega) I g ry fun w' s3 I3 rw' => ⟨w, H, I3, rw', q⟩
theorem idx_relL {F ι S H} {x y z : D} {v w : V} (hK : C.K = X.K) (rh : RH C F ι S H) (rx : RelD C F ι x v) (ry : RelD C F ι y w) (hx : ∃ n, x = .ref n) (e : idx S x y = some z) {Q : VK} (k : ∀ u, RelD C F ι z u → Q u H) : rIxL X.K v w H Q ∨ rIxD v w H Q := by
  obtain ⟨n, rfl⟩ := hx
  obtain ⟨a, ha, rfl⟩ := rx
  unfold idx at e
  dsimp only at e
  split at e
  · rename_i kvs hd
    obtain ⟨kk, e1, e⟩ := Option.bind_eq_some_iff.mp e
    obtain ⟨x', e2, e⟩ := Option.map_eq_some_iff.mp e
    cases e
    obtain ⟨a', ks, ea, h1, h2⟩ := dicD_rel rh (show RelD C F ι (.ref n) (.ref a) from ⟨a, ha, rfl⟩) hd
    cases ea
    cases y with
    | b yy =>
      obtain ⟨j, rk, rfl⟩ := keyB_rel (C := C) (F := F) e1 ry
      obtain ⟨u, h4, h5⟩ := dget_at h2 rk e2
      exact .inr ⟨a, u, rfl, .inl ⟨ks, j, h1, rfl, h4.symm⟩, k u h5⟩
    | ref n => cases e1
    | mix n => cases e1
  · split at e
    · rename_i i
      obtain ⟨xs, e1, e⟩ := Option.bind_eq_some_iff.mp e
      obtain ⟨x', e2, e⟩ := Option.map_eq_some_iff.mp e
      cases e
      obtain ⟨a', vs, ea, h1, h2⟩ := lsq_rel rh (show RelD C F ι (.ref n) (.ref a) from ⟨a, ha, rfl⟩) (show lsqD S (.ref n) = some xs from e1)
      cases ea
      obtain ⟨u, h3, h4⟩ := atI_rel h2 e2
      exact .inl ⟨a, vs, i, u, rfl, ry, hK ▸ h1, h3, k u h4⟩
    · cases e
theorem seti_ref {S S' : Store} {x i y : D} (e : seti S x i y = some S') : ∃ n, x = .ref n := by
  unfold seti at e
  split at e
  · exact ⟨_, rfl⟩
  · cases e
theorem ms_augi (op : Op) (hop : ipo op = true) (hK : C.K = X.K) (hu : X.A.units + 66 < cLine) (he : ME X C P e me') (ho : ME X C P o mo) (hi : ME X C P i mi)
    (ha : ∀ ov iv new, augStore i ov iv new = (do holding [new, ov, iv] (setItem ov iv new); release [new, ov, iv] []; pure .next) := by intros; rfl) : MS X C P (.AugAssign (.Subscript o i tpos) (pop op) e pos) (.augi mo mi op me') := (ps_augS ho hi (get_both hu) he (iop_ar op hop) (set_both hu) ha).imp fun D σ H h => by
  obtain ⟨F, ι, S, sl, r, rs, e, post⟩ := h
  unfold exec at e
  obtain ⟨⟨x, S1⟩, e1, e⟩ := Option.bind_eq_some_iff.mp e
  obtain ⟨⟨y, S2⟩, e2, e⟩ := Option.bind_eq_some_iff.mp e
  obtain ⟨old, e3, e⟩ := Option.bind_eq_some_iff.mp e
  obtain ⟨⟨z, S3⟩, e4, e⟩ := Option.bind_eq_some_iff.mp e
  dsimp only at e
  split at e
  · rename_i a c hz
    obtain ⟨w, e5, e⟩ := Option.bind_eq_some_iff.mp e
    obtain ⟨S4, e6, e⟩ := Option.map_eq_some_iff.mp e
    cases e
    refine rs.one e1 fun F1 ι1 w1 H1 l1 r1 q1 => r1.one e2 fun F2 ι2 w2 H2 l2 r2 q2 => ?_
    refine idx_relL hK r2.rh (q1.mono l2) q2 (seti_ref e6) e3 fun u qu => ?_
    refine r2.one e4 fun F3 ι3 w3 H3 l3 r3 q3 => ?_
    exact ⟨a, c, w, qu, q3, e5, seti_rel r3.rh r3.fr ((q1.mono l2).mono l3) (q2.mono l3) (y := .b (.int w)) rfl e6 fun H' rh' => post F3 ι3 σ H' ((l1.trans l2).trans l3) ⟨rh', r3.fr, r3.rs⟩⟩
  · cases e
/-! ### fields -/
theorem fput_rel {F : Hp} {ι : List Addr} {f : Nat} {nm : PySem.Str} {y : D} {v : V} (hf : C.N.flds[f]? = some nm) (ry : RelD C F ι y v) : ∀ {fs : List (Nat × D)} {gs : List (PySem.Str × V)}, RelDf C F ι fs gs → RelDf C F ι (fput f y fs) (putF nm v gs)
  | [], _, r => by
    cases (show _ = [] from r)
    exact ⟨nm, v, [], rfl, hf, ry, rfl⟩
  | (g, w) :: r, _, q => by
    obtain ⟨j, u, rr, rfl, hj, h2, h3⟩ := q
    unfold fput putF
    by_cases h : f = g
    · subst h
      cases hf.symm.trans hj
      rw [if_pos rfl, if_pos rfl]
      exact ⟨nm, v, rr, rfl, hf, ry, h3⟩
    · rw [if_neg h, if_neg (fun z : j = nm => h (flds_inj hf (by rw [← z]; exact hj)))]
      exact ⟨j, u, _, rfl, hj, h2, fput_rel hf ry h3⟩
theorem RelDf.length {F : Hp} {ι : List Addr} : ∀ {fs : List (Nat × D)} {gs : List (PySem.Str × V)}, RelDf C F ι fs gs → fs.length = gs.length
  | [], _, r => by
    cases (show _ = [] from r)
    rfl
  | (g, w) :: r, _, q => by
    obtain ⟨j, u, rr, rfl, hj, h2, h3⟩ := q
    rw [List.length_cons, List.length_cons, RelDf.length h3]
theorem setf_rel {fo : Nat → Nat → Bool} (W : Wd X C fo) {base : Nat} {F ι S S' H} {x y : D} {v u : V} {f : Nat} {nm : PySem.Str} (hf : C.N.flds[f]? = some nm) (rh : RH C F ι S H) (fr : Fre F ι) (rx : RelD C F ι x v) (ry : RelD C F ι y u) (e : setf fo base S x f y = some S') :
    ∃ a D dx fs, v = .ref a ∧ H a = some (.ins D dx fs) ∧ Cls X.K D ∧ NoAttr X.K D nm ∧ fs.length < 1000 ∧ RH C F ι S' (upd H a (.ins D dx (putF nm u fs))) := by
  unfold setf at e
  split at e
  · rename_i n
    split at e
    · rename_i c fs h
      split at e
      · rename_i hc
        cases e
        simp at hc
        obtain ⟨a, ha, rfl⟩ := rx
        obtain ⟨o, ho, q⟩ := rh.obj ha
        rw [h] at ho
        cases ho
        obtain ⟨D, dx, gs, h0, h1, h2, h3⟩ := q
        have hda : dx ≠ a := fun z => by rw [z, h1] at h2; cases h2
        refine ⟨a, D, dx, gs, rfl, h1, W.cls c D h0, W.noat c D f nm h0 hc.1 hf, by rw [← h3.length]; exact hc.2.2, rh.set ha (fr.at ha) (fz_i h1) ⟨D, dx, _, h0, upd_same, by rw [upd_ne hda]; exact h2, fput_rel hf ry h3⟩⟩
      · cases e
    · cases e
  · cases e
theorem ms_setf (W : Wd X C P.fo) (f : Nat) {nm : PySem.Str} (he : ME X C P e me') (ho : ME X C P o mo) (hf : C.N.flds[f]? = some nm := by rfl) (hs : swapsWith e (some (.Attribute o nm pos')) pos.line X.env = pure false := by rfl) : MS X C P (.Assign [.Attribute o nm pos'] e pos) (.setf mo f me') := (ps_fld ho he hs).imp fun D σ H h => by
  obtain ⟨F, ι, S, sl, r, rs, e, post⟩ := h
  unfold exec at e
  obtain ⟨⟨v, S1⟩, e1, e⟩ := Option.bind_eq_some_iff.mp e
  obtain ⟨⟨x, S2⟩, e2, e⟩ := Option.bind_eq_some_iff.mp e
  obtain ⟨S4, e4, e⟩ := Option.map_eq_some_iff.mp e
  cases e
  refine rs.one e1 fun F1 ι1 w1 H1 l1 r1 q1 => r1.one e2 fun F2 ι2 w2 H2 l2 r2 q2 => ?_
  obtain ⟨a, D', dx, fs, h1, h2, h3, h4, h5, h6⟩ := setf_rel W hf r2.rh r2.fr q2 (q1.mono l2) e4
  exact ⟨a, D', dx, fs, h1, h2, h3, h4, h5, post F2 ι2 σ _ (l1.trans l2) ⟨h6, r2.fr, r2.rs⟩⟩
theorem ins_cls {F ι S H} {n : Nat} {a D dx : Addr} {fs : List (PySem.Str × V)} {c : Nat} (rh : RH C F ι S H) (ha : ι[n]? = some a) (h : H a = some (.ins D dx fs)) (hc : insC S (.ref n) = some c) : C.cl c = some D := by
  obtain ⟨o, ho, q⟩ := rh.obj ha
  unfold insC at hc
  dsimp only at hc
  rw [ho] at hc
  cases o <;> try (cases hc; done)
  cases hc
  obtain ⟨D', dx', gs, h0, h1, h2, h3⟩ := q
  rw [h] at h1
  cases h1
  exact h0
theorem setf_insC {fo : Nat → Nat → Bool} {base : Nat} {S S' : Store} {x y : D} {f : Nat} (e : setf fo base S x f y = some S') : ∃ n c, x = .ref n ∧ insC S (.ref n) = some c := by
  unfold setf at e
  split at e
  · rename_i n
    split at e
    · rename_i c fs' hn
      refine ⟨n, c, rfl, ?_⟩
      unfold insC
      dsimp only
      rw [hn]
    · cases e
  · cases e
theorem ms_augf (W : Wd X C P.fo) (op : Op) (hop : ipo op = true) (f : Nat) {nm : PySem.Str} (he : ME X C P e me') (ho : ME X C P o mo) (hf : C.N.flds[f]? = some nm := by rfl) : MS X C P (.AugAssign (.Attribute o nm tpos) (pop op) e pos) (.augf mo f op me') := (ps_fldaug ho he (fun pins s σ H x y u v Q I rx ry q => iop_ar op hop pins s σ H x y u v Q I rx ry q)).imp fun D σ H h => by
  obtain ⟨F, ι, S, sl, r, rs, e, post⟩ := h
  unfold exec at e
  obtain ⟨⟨x, S1⟩, e1, e⟩ := Option.bind_eq_some_iff.mp e
  obtain ⟨old, e3, e⟩ := Option.bind_eq_some_iff.mp e
  obtain ⟨⟨z, S3⟩, e4, e⟩ := Option.bind_eq_some_iff.mp e
  dsimp only at e
  split at e
  · rename_i a c hz
    split at e
    · rename_i hic
      obtain ⟨w, e5, e⟩ := Option.bind_eq_some_iff.mp e
      obtain ⟨S4, e6, e⟩ := Option.map_eq_some_iff.mp e
      cases e
      refine rs.one e1 fun F1 ι1 w1 H1 l1 r1 q1 => ?_
      obtain ⟨a1, D', dx, fs, u, h1, h2, h3, h4, h5, h6⟩ := getf_rel W hf r1.rh q1 e3
      refine ⟨a1, D', dx, fs, u, h1, h2, h3, h4, h5, r1.one e4 fun F3 ι3 w3 H3 l3 r3 q3 => ⟨a, c, w, h6, q3, e5, ?_⟩⟩
      obtain ⟨a2, D2, dx2, fs2, g1, g2, g3, g4, g5, g6⟩ := setf_rel W hf r3.rh r3.fr (q1.mono l3) (y := .b (.int w)) (u := .int w) rfl e6
      rw [h1] at g1
      cases g1
      obtain ⟨n, cc, rfl, hc⟩ := setf_insC e6
      obtain ⟨a3, k1, k2⟩ := q1
      rw [h1] at k2
      cases k2
      have c3 := ins_cls r3.rh (l3.get k1) g2 hc
      have c1 := ins_cls r1.rh k1 h2 (hic ▸ hc)
      cases c3.symm.trans c1
      exact ⟨dx2, fs2, g2, g5, post F3 ι3 σ _ (l1.trans l3) ⟨g6, r3.fr, r3.rs⟩⟩
    · cases e
  · cases e
/-! ### flow -/
theorem ms_iff {c : Expr} {mc : E} {a b : List Stmt} (hc : MT X C P c mc) (ha : MSs X C P a na) (hb : MSs X C P b nb) : MS X C P (.If c a b pos) (.iff mc na nb) := (ps_if hc ha hb).imp fun D σ H h => by
  obtain ⟨F, ι, S, sl, r, rs, e, post⟩ := h
  unfold exec at e
  obtain ⟨⟨x, S1⟩, e1, e⟩ := Option.bind_eq_some_iff.mp e
  obtain ⟨k, e2, e⟩ := Option.bind_eq_some_iff.mp e
  refine rs.oneT e1 e2 fun F1 ι1 H1 l1 r1 => ?_
  cases k with
  | true =>
    rw [if_pos rfl] at e ⊢
    exact r1.sts e (post.mono l1)
  | false =>
    rw [if_neg Bool.false_ne_true] at e ⊢
    exact r1.sts e (post.mono l1)
theorem ms_ret (he : ME X C P e me') : MS X C P (.Return (some e) pos) (.ret me') := (ps_ret he).imp fun D σ H h => by
  obtain ⟨F, ι, S, sl, r, rs, e, post⟩ := h
  unfold exec at e
  obtain ⟨⟨x, S1⟩, e1, e⟩ := Option.map_eq_some_iff.mp e
  cases e
  exact ⟨F, ι, S, sl, x, S1, rs, e1, post⟩
theorem ms_retn : MS X C P (.Return none pos) .retn := (ps_retN (X := X) (pos := pos)).imp fun D σ H h => by
  obtain ⟨F, ι, S, sl, r, rs, e, post⟩ := h
  cases e
  exact post F ι .non H (Le.refl _ _) rs.rh rs.fr rfl
theorem ms_ex (he : ME X C P e me') (hs : swapsWith e none pos.line X.env = pure false := by rfl) : MS X C P (.Expr e pos) (.ex me') := (ps_expr he hs).imp fun D σ H h => by
  obtain ⟨F, ι, S, sl, r, rs, e, post⟩ := h
  unfold exec at e
  obtain ⟨⟨x, S1⟩, e1, e⟩ := Option.map_eq_some_iff.mp e
  cases e
  exact rs.one e1 fun F1 ι1 v H1 l1 r1 q1 => post F1 ι1 σ H1 l1 r1
theorem ms_doc {j} : MS X C P (.Expr (.Constant (.str x) j pos) pos') (.ex .nop) := (ps_doc (X := X) (x := x) (j := j) (pos := pos) (pos' := pos')).imp fun D σ H h => by
  obtain ⟨F, ι, S, sl, r, rs, e, post⟩ := h
  cases e
  exact post F ι σ H (Le.refl _ _) rs
theorem ms_pass : MS X C P (.Pass pos) (.ex .nop) := (ps_pass (X := X) (pos := pos)).imp fun D σ H h => by
  obtain ⟨F, ι, S, sl, r, rs, e, post⟩ := h
  cases e
  exact post F ι σ H (Le.refl _ _) rs
theorem ms_cont : MS X C P (.Continue pos) .cont := (ps_continue (X := X) (pos := pos)).imp fun D σ H h => by
  obtain ⟨F, ι, S, sl, r, rs, e, post⟩ := h
  cases e
  exact post F ι σ H (Le.refl _ _) rs
theorem ms_whl {c : Expr} {mc : E} {a : List Stmt} (hp : PassesOwn (model X.prog X.w) X.A X.env X.xe) (hc : MT X C P c mc) (ha : MSs X C P a na) : MS X C P (.While c a [] pos) (.whl mc na) := (ps_while hp hc ha).imp fun D σ H h => by
  obtain ⟨F, ι, S, sl, r, rs, e, post⟩ := h
  unfold exec at e
  refine ⟨fun n σ H => ∃ F' ι' S' sl', Le F ι F' ι' ∧ RS C F' ι' sl' S' σ H ∧ whileL (fun σ2 S2 => (ev P mc σ2 S2).bind fun x => (truth x.2 x.1).map fun c => (c, x.2)) (fun σ2 S2 => execs P na σ2 S2) n sl' S' = some r, ⟨WF, F, ι, S, sl, Le.refl _ _, rs, e⟩, ?_⟩
  rintro n σ1 H1 ⟨F1, ι1, S1, sl1, l1, r1, e1⟩
  cases n with
  | zero => cases e1
  | succ n =>
    obtain ⟨⟨c, S2⟩, e2, e1⟩ := Option.bind_eq_some_iff.mp e1
    obtain ⟨⟨x, S3⟩, e3, e2⟩ := Option.bind_eq_some_iff.mp e2
    obtain ⟨c', e4, e2⟩ := Option.map_eq_some_iff.mp e2
    cases e2
    refine r1.oneT e3 e4 fun F2 ι2 H2 l2 r2 => ?_
    dsimp only at e1
    cases c with
    | true =>
      rw [if_pos rfl] at e1 ⊢
      obtain ⟨⟨f, sl3, S4⟩, e5, e1⟩ := Option.bind_eq_some_iff.mp e1
      refine ⟨fun σ' H' => ∃ F' ι' S' sl', Le F ι F' ι' ∧ RS C F' ι' sl' S' σ' H' ∧ whileL (fun σ2 S2 => (ev P mc σ2 S2).bind fun x => (truth x.2 x.1).map fun c => (c, x.2)) (fun σ2 S2 => execs P na σ2 S2) n sl' S' = some r, fun σ' H' h => ⟨n, Nat.lt_succ_self _, h⟩, r2.sts e5 ?_⟩
      cases f with
      | nx => exact fun F' ι' σ' H' l rs' => ⟨F', ι', S4, sl3, (l1.trans l2).trans l, rs', e1⟩
      | ct => exact fun F' ι' σ' H' l rs' => ⟨F', ι', S4, sl3, (l1.trans l2).trans l, rs', e1⟩
      | rt d =>
        cases e1
        exact Post.mono post (l1.trans l2)
    | false =>
      rw [if_neg Bool.false_ne_true] at e1 ⊢
      cases e1
      exact post F2 ι2 σ1 H2 (l1.trans l2) r2
end
end M
/-! MC12: walks. -/
namespace M
open PySem PySem.Spec PyProof.Rows L2
/-- locked objects stay -/
def LK (S S' : Store) : Prop := (∀ (n : Nat) xs, S[n]? = some (O.lockl xs) → S'[n]? = some (O.lockl xs)) ∧ ∀ (n : Nat) xs, S[n]? = some (O.lockd xs) → S'[n]? = some (O.lockd xs)
theorem LK.refl {S : Store} : LK S S := ⟨fun _ _ h => h, fun _ _ h => h⟩
theorem LK.trans {S S1 S2 : Store} (h : LK S S1) (h' : LK S1 S2) : LK S S2 := ⟨fun n xs e => h'.1 n xs (h.1 n xs e), fun n xs e => h'.2 n xs (h.2 n xs e)⟩
theorem Stp.lk {b : Nat} {S S' : Store} (h : Stp b S S') : LK S S' := ⟨h.lkl, h.lkd⟩
/-- an iterator that yields these items, as long as what is locked stays -/
def ItOk (C : Ct) (F : Hp) (ι : List Addr) (S0 : Store) (J : It) (xs : List B) : Prop := ∀ tp F' ι' S' H', Sub C.tp tp → Le F ι F' ι' → RH (C.w tp) F' ι' S' H' → Fre F' ι' → LK S0 S' →
  (∀ i x, xs[i]? = some x → J.go i H' ∧ ∀ v H2, J.yld i H' v H2 → ∃ F2, Le F' ι' F2 ι' ∧ RH (C.w tp) F2 ι' S' H2 ∧ Fre F2 ι' ∧ RelB C F2 x v) ∧ J.stop xs.length H'
/-- no dict is walked -/
def NoDic (S : Store) (ds : List D) : Prop := ∀ n, .ref n ∈ ds → ∀ kvs, S[n]? ≠ some (.dic kvs)
def rdI (C : Ct) (P : Par) (k : Ik) (es : List E) : TI := fun σ H R => ∃ F ι S sl ds S1 xs, RS C F ι sl S σ H ∧ evs P es sl S = some (ds, S1) ∧ items S1 k ds = some xs ∧ NoDic S1 ds ∧
  ∀ F1 ι1 H1 J, Le F ι F1 ι1 → RH C F1 ι1 (lockAll S1 ds) H1 → Fre F1 ι1 → ItOk C F1 ι1 (lockAll S1 ds) J xs → R J H1
abbrev MI (X : Cx) (C : Ct) (P : Par) (tg iter : Expr) (k : Ik) (es : List E) : Prop := PI X tg iter (rdI C P k es)
theorem _root_.L2.PI.imp {X : Cx} {tg e : Expr} {t t' : TI} (h : PI X tg e t) (k : ∀ σ H R, t' σ H R → t σ H R) : PI X tg e t' := ⟨fun pins s σ H R I q => h.run pins s σ H R I (k σ H R q)⟩
theorem _root_.L2.PI.or {X : Cx} {tg e : Expr} {t t' : TI} (h : PI X tg e t) (h' : PI X tg e t') : PI X tg e (fun σ H R => t σ H R ∨ t' σ H R) := ⟨fun pins s σ H R I q => q.elim (h.run pins s σ H R I) (h'.run pins s σ H R I)⟩
section
variable {C : Ct} {F : Hp} {ι : List Addr} {S S' : Store} {H : Hp}
theorem RH.same (r : RH C F ι S H) (hl : S'.length = S.length) (h : ∀ (n : Nat) a o, ι[n]? = some a → S'[n]? = some o → ∃ o0, S[n]? = some o0 ∧ (RelO C F ι H a o0 → RelO C F ι H a o)) : RH C F ι S' H :=
  ⟨r.fz, by rw [hl]; exact r.len, r.nd, fun n a o ha ho => by
    obtain ⟨o0, h0, k⟩ := h n a o ha ho
    exact k (r.ob n a o0 ha h0), r.tm⟩
theorem lock_nd {x : D} (h : ∀ n, x = .ref n → ∀ kvs, S[n]? ≠ some (.dic kvs)) (n : Nat) : (lock S x)[n]? = S[n]? ∨ ∃ xs, S[n]? = some (.lst xs) ∧ (lock S x)[n]? = some (.lockl xs) := by
  unfold lock
  split
  · rename_i m
    split
    · rename_i xs hm
      by_cases e : m = n
      · subst e
        exact .inr ⟨xs, hm, List.getElem?_set_self (List.getElem?_eq_some_iff.mp hm).1⟩
      · exact .inl (List.getElem?_set_ne e)
    · rename_i xs hm
      exact (h m rfl xs hm).elim
    · exact .inl rfl
  · exact .inl rfl
theorem RH.lock {x : D} (r : RH C F ι S H) (h : ∀ n, x = .ref n → ∀ kvs, S[n]? ≠ some (.dic kvs)) : RH C F ι (lock S x) H := by
  refine r.same (lock_len x) fun n a o ha ho => ?_
  rcases lock_nd h n with q | ⟨xs, q, q2⟩
  · rw [q] at ho; exact ⟨o, ho, id⟩
  · rw [q2] at ho
    cases ho
    exact ⟨_, q, id⟩
theorem NoDic.tail {x : D} {ds : List D} (h : NoDic S (x :: ds)) : NoDic (M.lock S x) ds := fun n hn kvs e => by
  rcases lock_nd (x := x) (fun m em => h m (em ▸ List.mem_cons_self)) n with q | ⟨xs, q, q2⟩
  · rw [q] at e
    exact h n (List.mem_cons_of_mem _ hn) kvs e
  · rw [q2] at e; cases e
theorem RH.lockAll : ∀ {ds : List D} {S : Store}, RH C F ι S H → NoDic S ds → RH C F ι (lockAll S ds) H
  | [], _, r, _ => r
  | x :: ds, S, r, h => by
    unfold M.lockAll
    exact RH.lockAll (r.lock fun n e => h n (e ▸ List.mem_cons_self)) h.tail
theorem RH.unlock {x : D} {S1 S2 : Store} (r : RH C F ι S1 H) (h : ∀ n, x = .ref n → ∀ kvs, S[n]? ≠ some (.dic kvs)) (e : unlock S S1 x = some S2) : RH C F ι S2 H := by
  unfold M.unlock at e
  split at e
  · rename_i m
    split at e
    · split at e
      · rename_i ys h2
        cases e
        refine r.same (by rw [List.length_set]) fun n a o ha ho => ?_
        by_cases hm : m = n
        · subst hm
          rw [List.getElem?_set_self (List.getElem?_eq_some_iff.mp h2).1] at ho
          cases ho
          exact ⟨_, h2, id⟩
        · rw [List.getElem?_set_ne hm] at ho
          exact ⟨o, ho, id⟩
      · cases e
    · rename_i xs hm
      exact (h m rfl xs hm).elim
    · cases e
      exact r
  · cases e
    exact r
theorem RH.unlockAll : ∀ {ds : List D} {S1 S2 : Store}, RH C F ι S1 H → NoDic S ds → unlockAll S S1 ds = some S2 → RH C F ι S2 H
  | [], _, _, r, _, e => by
    cases e
    exact r
  | x :: ds, S1, S2, r, h, e => by
    obtain ⟨S3, e1, e2⟩ := Option.bind_eq_some_iff.mp e
    exact RH.unlockAll (r.unlock (fun n z => h n (z ▸ List.mem_cons_self)) e1) (fun n hn => h n (List.mem_cons_of_mem _ hn)) e2
end
/-! ### targets -/
mutual
def gPt (K : PySem.W.Frag) : Pt → TG
  | .n i => gName i
  | .t ts => gTup K ts.length (gPts K ts)
termination_by structural x => x
def gPts (K : PySem.W.Frag) : List Pt → TGs
  | [] => gNil
  | p :: ps => gCons (gPt K p) (gPts K ps)
termination_by structural x => x
end
mutual
/-- the slots of a target -/
def slots : Pt → List Nat
  | .n i => [i]
  | .t ts => slotss ts
termination_by structural x => x
def slotss : List Pt → List Nat
  | [] => []
  | p :: ps => slots p ++ slotss ps
termination_by structural x => x
end
/-- only these slots turned -/
def Only (ks : List Nat) (σ σ2 : L2.St) : Prop := σ2.length = σ.length ∧ ∀ j, j ∉ ks → σ2[j]? = σ[j]?
theorem Only.refl {ks : List Nat} {σ : L2.St} : Only ks σ σ := ⟨rfl, fun _ _ => rfl⟩
theorem Only.trans {ks js : List Nat} {σ σ1 σ2 : L2.St} (h : Only ks σ σ1) (h' : Only js σ1 σ2) : Only (ks ++ js) σ σ2 := ⟨h'.1.trans h.1, fun j hj => by
  rw [h'.2 j fun z => hj (List.mem_append_right _ z), h.2 j fun z => hj (List.mem_append_left _ z)]⟩
section
variable {C : Ct} {K : PySem.W.Frag} (hK : C.K = K) {F : Hp} {ι : List Addr} {S : Store} {H : Hp}
theorem asgs_len : ∀ {ts : List Pt} {xs : List B} {sl sl2 : Sl}, asgs ts xs sl = some sl2 → xs.length = ts.length
  | [], [], _, _, _ => rfl
  | p :: ps, x :: xs, _, _, e => by
    unfold asgs at e
    obtain ⟨s1, e1, e2⟩ := Option.bind_eq_some_iff.mp e
    rw [List.length_cons, List.length_cons, asgs_len e2]
  | [], _ :: _, _, _, e => by cases e
  | _ :: _, [], _, _, e => by cases e
include hK
mutual
theorem asg_relO : ∀ (g : Pt) {x : B} {v : V} {sl sl2 : Sl} {σ : L2.St} {Q : L2.St → Hp → Prop}, asg g x sl = some sl2 → RelB C F x v → RS C F ι sl S σ H → (∀ σ2, Only (slots g) σ σ2 → RS C F ι sl2 S σ2 H → Q σ2 H) → gPt K g v σ H Q
  | .n i, x, v, sl, sl2, σ, Q, e, r, rs, k => by
    cases e
    refine k _ ⟨List.length_set, fun j hj => List.getElem?_set_ne fun z => hj ?_⟩ (rs.slot r)
    rw [← z]
    exact List.mem_singleton.mpr rfl
  | .t ts, x, v, sl, sl2, σ, Q, e, r, rs, k => by
    unfold asg at e
    split at e
    · obtain ⟨a, vs, rfl, h1, h2⟩ := r
      exact ⟨a, vs, rfl, hK ▸ sqT_mono rs.rh.fz h1, by rw [← h2.length]; exact asgs_len e, asgs_relO ts e h2 rs k⟩
    · cases e
termination_by structural x => x
theorem asgs_relO : ∀ (ts : List Pt) {xs : List B} {vs : List V} {sl sl2 : Sl} {σ : L2.St} {Q : L2.St → Hp → Prop}, asgs ts xs sl = some sl2 → RelBs C F xs vs → RS C F ι sl S σ H → (∀ σ2, Only (slotss ts) σ σ2 → RS C F ι sl2 S σ2 H → Q σ2 H) → gPts K ts vs σ H Q
  | [], [], vs, _, _, σ, _, e, r, rs, k => by
    cases (show vs = [] from r)
    cases e
    exact ⟨rfl, k σ .refl rs⟩
  | p :: ps, x :: xs, vs, sl, sl2, σ, Q, e, r, rs, k => by
    obtain ⟨v, r2, rfl, h1, h2⟩ := r
    unfold asgs at e
    obtain ⟨s1, e1, e2⟩ := Option.bind_eq_some_iff.mp e
    exact ⟨v, r2, rfl, asg_relO p e1 h1 rs fun σ2 o2 rs2 => asgs_relO ps e2 h2 rs2 fun σ3 o3 rs3 => k σ3 (o2.trans o3) rs3⟩
  | [], _ :: _, _, _, _, _, _, e, _, _, _ => by cases e
  | _ :: _, [], _, _, _, _, _, e, _, _, _ => by cases e
termination_by structural x => x
end
theorem asg_rel (g : Pt) {x : B} {v : V} {sl sl2 : Sl} {σ : L2.St} {Q : L2.St → Hp → Prop} (e : asg g x sl = some sl2) (r : RelB C F x v) (rs : RS C F ι sl S σ H) (k : ∀ σ2, RS C F ι sl2 S σ2 H → Q σ2 H) : gPt K g v σ H Q := asg_relO hK g e r rs fun σ2 _ h => k σ2 h
end
section
variable {X : Cx} {pos tpos : Pos} {x : PySem.Str} {e : Expr} {es : List Expr}
theorem mg_n {k : Nat} (hN : X.N.Nodup) (hi : X.N[k]? = some x) (hx : Loc X.env.scope x) (hf : X.fn x = true ∨ X.env.scope.names.lookup x = some .local := by first | exact .inl rfl | exact .inr rfl | assumption) : PG X (.Name x pos) (gPt X.K (.n k)) := pg_name hN hi hx hf
theorem mg_t {kk : Nat} {ts : List Pt} (hc : X.calm = true) (h : PGs X es (gPts X.K ts)) (hn : (assignEach es X.env).length = ts.length := by rfl) (hst : (assignEach es X.env).findIdx? (·.1) = none := by rfl) : PG X (.Tuple es kk tpos) (gPt X.K (.t ts)) := pg_tup hc h hn hst
theorem mgs_nil : PGs X [] (gPts X.K []) := pgs_nil
theorem mgs_cons {p : Pt} {ps : List Pt} (h1 : PG X e (gPt X.K p)) (h2 : PGs X es (gPts X.K ps)) (hs : (assignEach (e :: es) X.env).map (·.2) = assign e X.env :: (assignEach es X.env).map (·.2) := by rfl) : PGs X (e :: es) (gPts X.K (p :: ps)) := pgs_cons h1 h2 hs
end
/-! ### the walk of a statement -/
section
variable {X : Cx} {C : Ct} {P : Par} {pos : Pos} {tg iter : Expr} {body : List Stmt} {nb : List St} {k : Ik} {g : Pt} {es : List E}
theorem ms_for (hS : CStp P.C ∧ CStp P.C2) (hK : C.K = X.K) (hp : PassesOwn (model X.prog X.w) X.A X.env X.xe) (hc : X.calm = true) (hi : MI X C P tg iter k es) (hg : PG X tg (gPt X.K g)) (hb : MSs X C P body nb) (hnd : ∀ S ds xs, items S k ds = some xs → NoDic S ds)
    (hs : ∀ x, foldedSetIterable iter X.env x = pure x := by intro _; rfl) : MS X C P (.For tg iter body [] pos) (.for g k es nb) := (ps_for hp hc hi hg hb hs).imp fun D σ H h => by
  obtain ⟨F, ι, S, sl, r, rs, e, post⟩ := h
  unfold exec at e
  obtain ⟨⟨ds, S1⟩, e1, e⟩ := Option.bind_eq_some_iff.mp e
  obtain ⟨xs, e2, e⟩ := Option.bind_eq_some_iff.mp e
  obtain ⟨r3, e3, e⟩ := Option.bind_eq_some_iff.mp e
  obtain ⟨S4, e4, e⟩ := Option.map_eq_some_iff.mp e
  have nd := hnd _ _ _ e2
  refine ⟨F, ι, S, sl, ds, S1, xs, rs, e1, e2, nd, fun F1 ι1 H1 J l1 rh1 fr1 it => ?_⟩
  let body := fun σ2 S2 => execs P nb σ2 S2
  refine ⟨fun i m σ H => m = xs.length - i ∧ i ≤ xs.length ∧ ∃ F' ι' S' sl', Le F1 ι1 F' ι' ∧ RS C F' ι' sl' S' σ H ∧ LK (lockAll S1 ds) S' ∧ forL (fun σ2 S2 => execs P nb σ2 S2) g (xs.drop i) sl' S' = some r3, ⟨xs.length, by simp, Nat.zero_le _, F1, ι1, _, sl, Le.refl _ _, ⟨rh1, fr1, rs.rs.mono l1⟩, LK.refl, by rw [List.drop_zero]; exact e3⟩, ?_⟩
  rintro i m σ2 H2 ⟨hm, hi', F2, ι2, S2, sl2, l2, rs2, lk2, e5⟩
  obtain ⟨go, stop⟩ := it C.tp F2 ι2 S2 H2 (Sub.refl _) l2 rs2.rh rs2.fr lk2
  by_cases hlt : i < xs.length
  · obtain ⟨x, hx⟩ : ∃ x, xs[i]? = some x := ⟨_, List.getElem?_eq_getElem hlt⟩
    rw [List.drop_eq_getElem_cons hlt] at e5
    rw [List.getElem?_eq_getElem hlt] at hx
    cases hx
    unfold forL at e5
    obtain ⟨sl3, e6, e5⟩ := Option.bind_eq_some_iff.mp e5
    obtain ⟨⟨f, sl4, S5⟩, e7, e5⟩ := Option.bind_eq_some_iff.mp e5
    obtain ⟨go1, yld⟩ := go i _ (List.getElem?_eq_getElem hlt)
    refine .inr ⟨go1, fun σ' H' => ∃ F' ι' S' sl', Le F1 ι1 F' ι' ∧ RS C F' ι' sl' S' σ' H' ∧ LK (lockAll S1 ds) S' ∧ forL (fun σ2 S2 => execs P nb σ2 S2) g (xs.drop (i + 1)) sl' S' = some r3, fun σ' H' q => ⟨xs.length - (i + 1), by omega, rfl, hlt, q⟩, fun v H3 hy => ?_⟩
    obtain ⟨F3, l3, rh3, fr3, rv⟩ := yld v H3 hy
    refine asg_rel hK g e6 rv ⟨rh3, fr3, rs2.rs.mono l3⟩ fun σ4 rs4 => rs4.sts e7 ?_
    have lk : LK (lockAll S1 ds) S5 := lk2.trans (execs_stp hS.1 hS.2 nb sl3 S2 _ e7 0 (Nat.zero_le _) (Nat.zero_le _)).lk
    cases f with
    | nx => exact fun F' ι' σ' H' l rs' => ⟨F', ι', S5, sl4, (l2.trans l3).trans l, rs', lk, e5⟩
    | ct => exact fun F' ι' σ' H' l rs' => ⟨F', ι', S5, sl4, (l2.trans l3).trans l, rs', lk, e5⟩
    | rt d =>
      cases e5
      cases e
      exact fun F' ι' v H' l rh' fr' rv' => post F' ι' v H' (l1.trans ((l2.trans l3).trans l)) (rh'.unlockAll nd e4) fr' rv'
  · have hi2 : i = xs.length := by omega
    subst hi2
    rw [List.drop_length] at e5
    cases e5
    cases e
    refine .inl ⟨stop, ?_⟩
    exact post F2 ι2 σ2 H2 (l1.trans l2) ⟨rs2.rh.unlockAll nd e4, rs2.fr, rs2.rs⟩

/-! ### the iterators -/
theorem ItOk.mono {F F1 : Hp} {ι ι1 : List Addr} {S0 : Store} {J : It} {xs : List B} (h : ItOk C F ι S0 J xs) (l : Le F ι F1 ι1) : ItOk C F1 ι1 S0 J xs := fun tp F' ι' S' H' sb l' rh fr lk => h tp F' ι' S' H' sb (l.trans l') rh fr lk
theorem same_go {tp : Hp} {F' : Hp} {ι' : List Addr} {S' : Store} {H' : Hp} {x : B} {v : V} (rh : RH (C.w tp) F' ι' S' H') (fr : Fre F' ι') (r : RelB C F' x v) : ∃ F2, Le F' ι' F2 ι' ∧ RH (C.w tp) F2 ι' S' H' ∧ Fre F2 ι' ∧ RelB C F2 x v := ⟨F', Le.refl _ _, rh, fr, r⟩
/-- over ints -/
theorem it_rng (F ι S0) (i : Int) (n : Nat) : ItOk C F ι S0 (Itr i n) (rngB i n) := by
  refine fun tp F' ι' S' H' sb l rh fr lk => ⟨fun j x hx => ?_, ?_⟩
  · unfold rngB at hx
    rw [List.getElem?_map] at hx
    obtain ⟨j', h1, h2⟩ := Option.map_eq_some_iff.mp hx
    have hj := (List.getElem?_eq_some_iff.mp h1).1
    rw [List.length_range] at hj
    rw [List.getElem?_range hj] at h1
    cases h1
    refine ⟨hj, fun v H2 ⟨e1, e2⟩ => ?_⟩
    rw [e1]
    exact same_go rh fr (by rw [← h2, e2] <;> rfl)
  · show n ≤ (rngB i n).length
    unfold rngB
    rw [List.length_map, List.length_range]
    exact Nat.le_refl _
theorem it_rngC (F ι S0) (i c : Int) (n : Nat) : ItOk C F ι S0 (Itc i c n) (rngC i c n) := by
  refine fun tp F' ι' S' H' sb l rh fr lk => ⟨fun j x hx => ?_, ?_⟩
  · unfold rngC at hx
    rw [List.getElem?_map] at hx
    obtain ⟨j', h1, h2⟩ := Option.map_eq_some_iff.mp hx
    have hj := (List.getElem?_eq_some_iff.mp h1).1
    rw [List.length_range] at hj
    rw [List.getElem?_range hj] at h1
    cases h1
    refine ⟨hj, fun v H2 ⟨e1, e2⟩ => ?_⟩
    rw [e1]
    exact same_go rh fr (by rw [← h2, e2] <;> rfl)
  · show n ≤ (rngC i c n).length
    unfold rngC
    rw [List.length_map, List.length_range]
    exact Nat.le_refl _
/-- a list's items: it stands locked, or never changes -/
theorem lsq_keep {F ι H} {S1 : Store} {ds : List D} {d : D} {v : V} {xs : List B} (rh : RH C F ι S1 H) (rx : RelD C F ι d v) (hd : d ∈ ds) (e : lsqD S1 d = some xs) :
    ∃ a, v = .ref a ∧ ∀ tp F' ι' S' H', Le F ι F' ι' → RH (C.w tp) F' ι' S' H' → LK (lockAll S1 ds) S' → ∃ vs, SqL C.K H' a vs ∧ RelBs C F' xs vs := by
  cases d with
  | b x =>
    obtain ⟨a, vs, rfl, h1, h2⟩ := lsq_rel rh rx e
    refine ⟨a, rfl, fun tp F' ι' S' H' l rh' _ => ?_⟩
    have rx' : RelD (C.w tp) F' ι' (.b x) (.ref a) := RelD.w _ _ (RelD.mono l _ _ rx)
    obtain ⟨a', vs', ea, h1', h2'⟩ := lsq_rel rh' rx' (show lsqD S' (.b x) = some xs by cases x <;> first | exact e | cases e)
    cases ea
    exact ⟨vs', h1', RelBs.w (C := C.w tp) (tp := C.tp) _ _ h2'⟩
  | mix ys => cases e
  | ref n =>
    obtain ⟨a, ha, rfl⟩ := rx
    refine ⟨a, rfl, fun tp F' ι' S' H' l rh' lk => ?_⟩
    have hl : (lockAll S1 ds)[n]? = some (.lockl xs) := by
      rcases lockAll_at ds S1 n with q | ⟨ys, q, q2⟩ | ⟨ys, q, q2⟩
      · unfold lsqD seqD at e
        dsimp only at e
        split at e
        · rename_i ys hn
          cases e
          exfalso
          have : ∀ (ds : List D) (S : Store), S[n]? = some (.lst xs) → .ref n ∈ ds → (lockAll S ds)[n]? = some (.lockl xs) := by
            intro ds
            induction ds with
            | nil => intro S _ h; cases h
            | cons d ds ih =>
              intro S hS h
              unfold lockAll
              by_cases hd : d = .ref n
              · subst hd
                have h1 : (lock S (.ref n))[n]? = some (.lockl xs) := by
                  unfold lock
                  dsimp only
                  rw [hS]
                  exact List.getElem?_set_self (List.getElem?_eq_some_iff.mp hS).1
                rcases lockAll_at ds (lock S (.ref n)) n with q | ⟨ys, q, _⟩ | ⟨ys, q, _⟩
                · rw [q]; exact h1
                · rw [h1] at q; cases q
                · rw [h1] at q; cases q
              · rcases List.mem_cons.mp h with h | h
                · exact (hd h.symm).elim
                · refine ih _ ?_ h
                  rcases lock_at (S := S) (x := d) n with q | ⟨ys, q, q2⟩ | ⟨ys, q, q2⟩
                  · rw [q]; exact hS
                  · unfold lock at q2
                    split at q2
                    · rename_i m
                      have hm : m ≠ n := fun z => hd (by rw [z])
                      split at q2
                      · rw [List.getElem?_set_ne hm, hS] at q2; cases q2
                      · rw [List.getElem?_set_ne hm, hS] at q2; cases q2
                      · rw [hS] at q2; cases q2
                    · rw [hS] at q2; cases q2
                  · rw [hS] at q; cases q
          have := this ds S1 hn hd
          rw [q, hn] at this
          cases this
        · rename_i ys hn
          cases e
          rw [q]; exact hn
        · cases e
      · unfold lsqD seqD at e
        dsimp only at e
        rw [q] at e
        cases e
        exact q2
      · unfold lsqD seqD at e
        dsimp only at e
        rw [q] at e
        cases e
    obtain ⟨o, ho, q⟩ := rh'.obj (l.get ha)
    rw [lk.1 n xs hl] at ho
    cases ho
    obtain ⟨vs, h1, h2⟩ := q
    exact ⟨vs, .inl (.inl h1), RelBs.w (C := C.w tp) (tp := C.tp) _ _ h2⟩
theorem it_list {F ι} {S0 : Store} {a : Addr} {xs : List B} (h : ∀ tp F' ι' S' H', Le F ι F' ι' → RH (C.w tp) F' ι' S' H' → LK S0 S' → ∃ vs, SqL C.K H' a vs ∧ RelBs C F' xs vs) : ItOk C F ι S0 (Itl C.K a) xs := by
  refine fun tp F' ι' S' H' sb l rh fr lk => ?_
  obtain ⟨vs, h1, h2⟩ := h tp F' ι' S' H' l rh lk
  refine ⟨fun i x hx => ?_, vs, h1, by rw [h2.length] <;> exact Nat.le_refl _⟩
  obtain ⟨v, hv, rv⟩ := h2.get hx
  refine ⟨⟨vs, v, h1, hv⟩, fun w H2 ⟨e1, e2⟩ => ?_⟩
  rw [e1]
  have := e2 vs h1
  rw [hv] at this
  cases this
  exact same_go rh fr rv
theorem it_tup {F ι} {S0 : Store} {a : Addr} {xs : List B} {vs : List V} (h1 : SqT C.K F a vs) (h2 : RelBs C F xs vs) : ItOk C F ι S0 (Itt C.K a) xs := by
  refine fun tp F' ι' S' H' sb l rh fr lk => ?_
  have h1' := sqT_mono (l.1.trans rh.fz) h1
  refine ⟨fun i x hx => ?_, vs, h1', by rw [h2.length] <;> exact Nat.le_refl _⟩
  obtain ⟨v, hv, rv⟩ := h2.get hx
  refine ⟨⟨vs, v, h1', hv⟩, fun w H2 ⟨e1, e2⟩ => ?_⟩
  rw [e1]
  have := e2 vs h1'
  rw [hv] at this
  cases this
  exact same_go rh fr (RelB.mono l.1 _ _ rv)
theorem it_keys {F ι} {S0 : Store} {a : Addr} {o : Obj} {kvs : List (Kd × B)} {ks : List (L2.Key × V)} (h1 : F a = some (.frz o (.dK ks))) (h2 : RelBk C F kvs ks) : ItOk C F ι S0 (Itk a o ks) (keysOf kvs) := by
  refine fun tp F' ι' S' H' sb l rh fr lk => ?_
  have h1' := rh.fz _ _ (l.1 _ _ h1)
  have kr := keys_rel h2
  have hlen : (keysOf kvs).length = ks.length := by rw [kr.length, List.length_map]
  refine ⟨fun i x hx => ?_, h1', by rw [hlen] <;> exact Nat.le_refl _⟩
  obtain ⟨v, hv, rv⟩ := kr.get hx
  have hi := (List.getElem?_eq_some_iff.mp hx).1
  refine ⟨⟨h1', by omega⟩, fun w H2 ⟨e1, k, u, e2, e3⟩ => ?_⟩
  rw [e1]
  rw [List.getElem?_map, e2] at hv
  cases hv
  rw [e3]
  exact same_go rh fr (RelB.mono l.1 _ _ rv)
theorem it_dv {F ι} {S0 : Store} {a : Addr} {o : Obj} {kvs : List (Kd × B)} {ks : List (L2.Key × V)} (h1 : C.tp a = some (.frz o (.dK ks))) (h2 : RelBk C F kvs ks) : ItOk C F ι S0 (Itk a o ks) (keysOf kvs) := by
  refine fun tp F' ι' S' H' sb l rh fr lk => ?_
  have h1' := (rh.tm a _ (sb _ _ h1)).1
  have kr := keys_rel h2
  have hlen : (keysOf kvs).length = ks.length := by rw [kr.length, List.length_map]
  refine ⟨fun i x hx => ?_, h1', by rw [hlen] <;> exact Nat.le_refl _⟩
  obtain ⟨v, hv, rv⟩ := kr.get hx
  have hi := (List.getElem?_eq_some_iff.mp hx).1
  refine ⟨⟨h1', by omega⟩, fun w H2 ⟨e1, k, u, e2, e3⟩ => ?_⟩
  rw [e1]
  rw [List.getElem?_map, e2] at hv
  cases hv
  rw [e3]
  exact same_go rh fr (RelB.mono l.1 _ _ rv)
theorem nd_ints (k : Ik) (hk : k = .r1 ∨ k = .r2 ∨ k = .r3 ∨ k = .rr) (S ds xs) (e : items S k ds = some xs) : NoDic S ds := by
  intro n hn
  rcases hk with rfl | rfl | rfl | rfl <;> unfold items at e <;> split at e <;> first | contradiction | (simp at hn)
section
variable {a b : Expr} {ma mb : E} {p : Pos}
theorem mi_r1 (hg : Gl X "range") (hm : X.mg "range" = none) (ha : ME X C P a ma) (hs : starEach [a] X.env = [(false, eval a X.env)] := by rfl) : MI X C P tg (.Call (.Name "range" p) [a] [] pos) .r1 [ma] := (pi_range1 hg hm (ma_cons ha ma_nil hs) hs).imp fun σ H R h => by
  obtain ⟨F, ι, S, sl, ds, S1, xs, rs, e1, e2, nd, k⟩ := h
  refine rs.args e1 fun F1 ι1 vs H1 l1 r1 q1 => ?_
  unfold items at e2
  split at e2 <;> try contradiction
  split at e2
  · rename_i j _ hj
    cases e2
    obtain ⟨v, rfl, rv⟩ := q1.one
    cases (show v = _ from rv)
    obtain ⟨h1, h2⟩ := of_decide_eq_true hj
    exact ⟨j, rfl, h1, h2, k F1 ι1 H1 _ l1 (r1.rh.lockAll nd) r1.fr (it_rng _ _ _ _ _)⟩
  · cases e2
theorem mi_r2 (hg : Gl X "range") (hm : X.mg "range" = none) (ha : ME X C P a ma) (hb : ME X C P b mb) (hs : starEach [a, b] X.env = [(false, eval a X.env), (false, eval b X.env)] := by rfl) (hs2 : starEach [b] X.env = [(false, eval b X.env)] := by rfl) : MI X C P tg (.Call (.Name "range" p) [a, b] [] pos) .r2 [ma, mb] := (pi_range2 hg hm (ma_cons ha (ma_cons hb ma_nil hs2) (by rw [hs, hs2])) hs hs2).imp fun σ H R h => by
  obtain ⟨F, ι, S, sl, ds, S1, xs, rs, e1, e2, nd, k⟩ := h
  refine rs.args e1 fun F1 ι1 vs H1 l1 r1 q1 => ?_
  unfold items at e2
  split at e2 <;> try contradiction
  split at e2
  · rename_i i j _ hj
    cases e2
    obtain ⟨v, w, rfl, rv, rw'⟩ := q1.two
    cases (show v = _ from rv)
    cases (show w = _ from rw')
    obtain ⟨hi, hj⟩ := Bool.and_eq_true_iff.mp hj
    obtain ⟨h1, h2⟩ := of_decide_eq_true hi
    obtain ⟨h3, h4⟩ := of_decide_eq_true hj
    exact ⟨i, j, rfl, ⟨h1, h2, h3, h4⟩, k F1 ι1 H1 _ l1 (r1.rh.lockAll nd) r1.fr (it_rng _ _ _ _ _)⟩
  · cases e2
theorem mi_rr {p2 pos2 : Pos} (hg0 : Gl X "reversed") (hm0 : X.mg "reversed" = none) (hg : Gl X "range") (hm : X.mg "range" = none) (ha : ME X C P a ma) (hs : starEach [a] X.env = (false, eval a X.env) :: starEach [] X.env := by rfl)
    (hs2 : starEach [.Call (.Name "range" p) [a] [] pos] X.env = (false, eval (.Call (.Name "range" p) [a] [] pos) X.env) :: starEach [] X.env := by rfl) : MI X C P tg (.Call (.Name "reversed" p2) [.Call (.Name "range" p) [a] [] pos] [] pos2) .rr [ma] := (pi_revR hg0 hm0 (prg_1 hg hm ha hs) hs2).imp fun σ H R h => by
  obtain ⟨F, ι, S, sl, ds, S1, xs, rs, e1, e2, nd, k⟩ := h
  unfold evs evs at e1
  obtain ⟨⟨d, S2⟩, e3, e1⟩ := Option.bind_eq_some_iff.mp e1
  cases e1
  refine rs.one e3 fun F1 ι1 v H1 l1 r1 q1 => ?_
  unfold items at e2
  split at e2 <;> try contradiction
  rename_i hds
  cases hds
  split at e2
  · rename_i j _ hj
    cases e2
    cases (show v = _ from q1)
    obtain ⟨h1, h2⟩ := of_decide_eq_true hj
    refine ⟨j, rfl, by omega, by omega, h1, h2, k F1 ι1 H1 _ l1 (r1.rh.lockAll nd) r1.fr ?_⟩
    have : (rngB 0 j.toNat).reverse = rngC (0 + (((j - 0).toNat : Nat) : Int) - 1) (-1) (j - 0).toNat := by
      rw [Int.sub_zero]
      generalize j.toNat = n
      unfold rngB rngC
      refine List.ext_getElem? fun i => ?_
      by_cases hi : i < n
      · rw [List.getElem?_reverse (by rw [List.length_map, List.length_range]; exact hi)]
        rw [List.getElem?_map, List.getElem?_map, List.length_map, List.length_range, List.getElem?_range (by omega), List.getElem?_range hi]
        show some (B.int _) = some (B.int _)
        congr 2
        omega
      · rw [List.getElem?_eq_none (by rw [List.length_reverse, List.length_map, List.length_range]; omega), List.getElem?_eq_none (by rw [List.length_map, List.length_range]; omega)]
    rw [this]
    exact it_rngC _ _ _ _ _ _
  · cases e2
theorem mi_sq (hK : C.K = X.K) (ha : ME X C P iter ma) : MI X C P tg iter .sq [ma] := (((pi_list ha).or (pi_tup ha)).or (pi_keys ha)).imp fun σ H R h => by
  obtain ⟨F, ι, S, sl, ds, S1, xs, rs, e1, e2, nd, k⟩ := h
  have e1' := e1
  unfold evs evs at e1
  obtain ⟨⟨d, S2⟩, e3, e1⟩ := Option.bind_eq_some_iff.mp e1
  cases e1
  unfold items at e2
  split at e2 <;> try contradiction
  · rename_i kvs hds
    cases hds
    cases e2
    refine .inr (rs.one e3 fun F1 ι1 v H1 l1 r1 q1 => ?_)
    obtain ⟨a, o, ks, rfl, h1, h2⟩ := q1
    exact ⟨a, o, rfl, .inl ⟨ks, r1.rh.fz _ _ h1, k F1 ι1 H1 _ l1 (r1.rh.lockAll nd) r1.fr (it_keys h1 h2)⟩⟩
  · rename_i x _ _ hds
    cases hds
    refine .inl ?_
    by_cases ht : ∃ ys, d = .b (.tup ys)
    · obtain ⟨ys, rfl⟩ := ht
      cases e2
      refine .inr (rs.one e3 fun F1 ι1 v H1 l1 r1 q1 => ?_)
      obtain ⟨a, vs, rfl, h1, h2⟩ := q1
      exact ⟨a, rfl, ⟨vs, hK ▸ sqT_mono r1.rh.fz h1⟩, k F1 ι1 H1 _ l1 (r1.rh.lockAll nd) r1.fr (hK ▸ it_tup h1 h2)⟩
    · refine .inl (rs.one e3 fun F1 ι1 v H1 l1 r1 q1 => ?_)
      have e2' : lsqD S2 d = some xs := by
        unfold lsqD
        split
        · exact (ht ⟨_, rfl⟩).elim
        · exact e2
      obtain ⟨a, rfl, kp⟩ := lsq_keep (ds := [d]) r1.rh q1 (List.mem_singleton.mpr rfl) e2'
      obtain ⟨a', vs, ea, h1, h2⟩ := lsq_rel r1.rh q1 e2'
      cases ea
      exact ⟨a, rfl, ⟨vs, hK ▸ h1⟩, k F1 ι1 H1 _ l1 (r1.rh.lockAll nd) r1.fr (hK ▸ it_list kp)⟩
theorem mi_dv (ha : ME X C P iter ma) : MI X C P tg iter .dv [ma] := (pi_keys ha).imp fun σ H R h => by
  obtain ⟨F, ι, S, sl, ds, S1, xs, rs, e1, e2, nd, k⟩ := h
  unfold evs evs at e1
  obtain ⟨⟨d, S2⟩, e3, e1⟩ := Option.bind_eq_some_iff.mp e1
  cases e1
  unfold items at e2
  split at e2 <;> try contradiction
  rename_i n _ hds
  split at e2 <;> try contradiction
  rename_i kvs hS
  cases hds
  cases e2
  refine rs.one e3 fun F1 ι1 v H1 l1 r1 q1 => ?_
  obtain ⟨a, ha2, rfl⟩ := q1
  obtain ⟨o, ks, h1, h2, h3⟩ := r1.rh.ob n a _ ha2 hS
  exact ⟨a, o, rfl, .inl ⟨ks, h1, k F1 ι1 H1 _ l1 (r1.rh.lockAll nd) r1.fr (it_dv h3 h2)⟩⟩
theorem nd_dv (S ds xs) (e : items S .dv ds = some xs) : NoDic S ds := by
  intro n hn kvs hk
  unfold items at e
  split at e <;> try contradiction
  rename_i m _
  simp at hn
  subst hn
  rw [hk] at e
  cases e
theorem nd_sq (S ds xs) (e : items S .sq ds = some xs) : NoDic S ds := by
  intro n hn kvs hk
  unfold items at e
  split at e <;> try contradiction
  · simp at hn
    subst hn
    unfold seqD at e
    dsimp only at e
    rw [hk] at e
    cases e
end
end
end M
/-! MC13: comprehensions. -/
namespace M
open PySem PySem.Spec PyProof.Rows L2
theorem wipeS_length (σ : Sl) : ∀ vs : List Nat, (M.wipe σ vs).length = σ.length
  | [] => rfl
  | v :: vs => by unfold M.wipe; rw [List.length_set, wipeS_length σ vs]
theorem wipe_out (σ : L2.St) : ∀ (vs : List Nat) (j : Nat), j ∉ vs → (L2.wipe σ vs)[j]? = σ[j]?
  | [], _, _ => rfl
  | v :: vs, j, h => by
    unfold L2.wipe
    rw [List.getElem?_set_ne fun z => h (by rw [z]; exact List.mem_cons_self), wipe_out σ vs j fun z => h (List.mem_cons_of_mem _ z)]
theorem wipe_in (σ : L2.St) : ∀ (vs : List Nat) (j : Nat), j ∈ vs → j < σ.length → (L2.wipe σ vs)[j]? = some none
  | v :: vs, j, h, hl => by
    unfold L2.wipe
    by_cases hv : v = j
    · subst hv
      exact List.getElem?_set_self (by rw [wipe_length]; exact hl)
    · rw [List.getElem?_set_ne hv]
      rcases List.mem_cons.mp h with h | h
      · exact (hv h.symm).elim
      · exact wipe_in σ vs j h hl
theorem wipe_ext {σ σ2 : L2.St} {vs : List Nat} (hl : σ2.length = σ.length) (h : ∀ j, j ∉ vs → σ2[j]? = σ[j]?) : L2.wipe σ2 vs = L2.wipe σ vs := by
  refine List.ext_getElem? fun j => ?_
  by_cases hj : j ∈ vs
  · by_cases hh : j < σ.length
    · rw [wipe_in σ vs j hj hh, wipe_in σ2 vs j hj (hl ▸ hh)]
    · rw [List.getElem?_eq_none (by rw [wipe_length]; omega), List.getElem?_eq_none (by rw [wipe_length]; omega)]
  · rw [wipe_out σ vs j hj, wipe_out σ2 vs j hj, h j hj]
theorem wipe_only {σ σ2 : L2.St} {vs ks : List Nat} (h : Only ks (L2.wipe σ vs) σ2) (hk : ∀ k ∈ ks, k ∈ vs) : L2.wipe σ2 vs = L2.wipe σ vs := by
  refine wipe_ext (by rw [h.1, wipe_length]) fun j hj => ?_
  rw [h.2 j fun z => hj (hk j z), wipe_out σ vs j hj]
theorem RelSl.wipe {C : Ct} {F : Hp} {ι : List Addr} {sl : Sl} {σ : L2.St} (r : RelSl C F ι sl σ) : ∀ vs, RelSl C F ι (M.wipe sl vs) (L2.wipe σ vs)
  | [] => r
  | v :: vs => by
    have q := RelSl.wipe r vs
    refine ⟨by unfold M.wipe L2.wipe; rw [List.length_set, List.length_set]; exact q.1, fun j d h => ?_⟩
    unfold M.wipe at h
    unfold L2.wipe
    by_cases hv : v = j
    · subst hv
      have hl := (List.getElem?_eq_some_iff.mp h).1
      rw [List.length_set] at hl
      rw [List.getElem?_set_self hl] at h
      cases h
    · rw [List.getElem?_set_ne hv] at h
      rw [List.getElem?_set_ne hv]
      exact q.2 j d h
section
variable {X : Cx} {C : Ct} {P : Par} {F : Hp} {ι : List Addr} {S : Store} {sl : Sl} {σ : L2.St} {H : Hp}
theorem RS.w {tp : Hp} (rh : RH (C.w tp) F ι S H) (fr : Fre F ι) (r : RelSl C F ι sl σ) : RS (C.w tp) F ι sl S σ H := ⟨rh, fr, r.w⟩
theorem RelB.v {tp : Hp} {x : B} {v : V} (r : RelB (C.w tp) F x v) : RelB C F x v := RelB.w (C := C.w tp) (tp := C.tp) _ _ r
theorem RelBs.v {tp : Hp} {x : List B} {v : List V} (r : RelBs (C.w tp) F x v) : RelBs C F x v := RelBs.w (C := C.w tp) (tp := C.tp) _ _ r
end
/-- a step of the comprehension -/
noncomputable def lcF (P : Par) (t e : E) : Sl → Store → Option (Option B × Store) := fun σ2 S2 => (ev P t σ2 S2).bind fun c => (truth c.2 c.1).bind fun c1 => if c1 then (ev P e σ2 c.2).bind fun y => (asB y).map fun z => (some z.1, z.2) else some (none, c.2)
theorem lcF_stp {P : Par} (hS : CStp P.C ∧ CStp P.C2) {t e : E} {σ : Sl} {S : Store} {r : Option B × Store} (h : lcF P t e σ S = some r) : LK S r.2 := by
  unfold lcF at h
  obtain ⟨c, e1, h⟩ := Option.bind_eq_some_iff.mp h
  obtain ⟨c1, e2, h⟩ := Option.bind_eq_some_iff.mp h
  have g1 := ev_stp hS.1 hS.2 t σ S c e1 0 (Nat.zero_le _) (Nat.zero_le _)
  split at h
  · obtain ⟨y, e3, h⟩ := Option.bind_eq_some_iff.mp h
    obtain ⟨z, e4, h⟩ := Option.map_eq_some_iff.mp h
    cases h
    have g2 := g1.trans (ev_stp hS.1 hS.2 e σ _ y e3 0 (Nat.zero_le _) (Nat.zero_le _))
    obtain ⟨d, S4⟩ := y
    cases d <;> try (cases e4; done)
    cases e4
    exact g2.lk
  · cases h
    exact g1.lk

section
variable {X : Cx} {C : Ct} {P : Par} {pos spos : Pos} {elt tg iter : Expr} {ifs : List Expr} {scope : Scope} {own : List (PySem.Str × Nat)} {k : Ik} {g : Pt} {es : List E} {mt me' : E} {w : List Nat}
theorem lc_rd (hS : CStp P.C ∧ CStp P.C2) (hK : C.K = X.K) (m : Bool) (hnd : ∀ S ds xs, items S k ds = some xs → NoDic S ds) (hw : ∀ j ∈ slots g, j ∈ w) {σ : L2.St} {H : Hp} {Q : VK} (hT : ∀ p u, H p = some u → True)
    (h : rdE C P (.lc m g k es mt me' w) σ H Q) {wi : TI} (hwi : ∀ σ H R, rdI C P k es σ H R → wi σ H R) {tt : TT} (htt : ∀ tp σ H Q, rdT (C.w tp) P mt σ H Q → tt σ H Q) {te : TE} (hte : ∀ tp σ H Q, rdE (C.w tp) P me' σ H Q → te σ H Q) :
    tLc wi (gPt X.K g) tt te w σ H Q := by
  obtain ⟨F, ι, S, sl, d, S', rs, e, post⟩ := h
  unfold ev at e
  obtain ⟨⟨ds, S1⟩, e1, e⟩ := Option.bind_eq_some_iff.mp e
  obtain ⟨xs, e2, e⟩ := Option.bind_eq_some_iff.mp e
  dsimp only at e
  split at e
  · rename_i hz
    obtain ⟨⟨ys, S2⟩, e3, e⟩ := Option.bind_eq_some_iff.mp e
    obtain ⟨S3, e4, e⟩ := Option.bind_eq_some_iff.mp e
    have nd := hnd _ _ _ e2
    refine hwi _ _ _ ⟨F, ι, S, sl, ds, S1, xs, rs, e1, e2, nd, fun F1 ι1 H1 J l1 rh1 fr1 it D hD => ?_⟩
    have hDt : C.tp D = none := by
      cases q : C.tp D with
      | none => rfl
      | some u =>
        rw [(rh1.tm D u q).1] at hD
        cases hD
    have hnown : ∀ vs : List V, ∀ b, HO.lst vs ≠ .own b := fun _ _ z => nomatch z
    have hnfz : ∀ vs : List V, ¬ Fz (HO.lst vs) := fun _ ⟨_, _, z⟩ => nomatch z
    refine ⟨fun i n H => n = xs.length - i ∧ i ≤ xs.length ∧ ∃ F' ι' S' acc vacc rest, Le F1 ι1 F' ι' ∧ RH (C.w (upd C.tp D (.lst vacc))) F' ι' S' H ∧ Fre F' ι' ∧ RelBs C F' acc vacc ∧ acc.length ≤ i ∧ LK (lockAll S1 ds) S' ∧
      lcL (lcF P mt me') g (xs.drop i) (M.wipe sl w) S' = some (rest, S2) ∧ ys = acc ++ rest, ⟨xs.length, by simp, Nat.zero_le _, F1, ι1, _, [], [], ys, Le.refl _ _, rh1.tmNew hD (hnown _), fr1, rfl, Nat.le_refl _, LK.refl, by rw [List.drop_zero]; exact e3, rfl⟩, ?_⟩
    rintro i n H2 ⟨hm, hi', F2, ι2, S4, acc, vacc, rest, l2, rh2, fr2, ra, hal, lk2, e5, ey⟩
    have rsw := rs.rs.wipe w
    have hsl2 := rsw.mono (l1.trans l2)
    obtain ⟨go, stop⟩ := it _ F2 ι2 S4 H2 (fun b o e => (upd_ne (fun z => by rw [z, hDt] at e; cases e)).trans e) l2 rh2 fr2 lk2
    by_cases hlt : i < xs.length
    · rw [List.drop_eq_getElem_cons hlt] at e5
      unfold lcL at e5
      obtain ⟨sl3, e6, e5⟩ := Option.bind_eq_some_iff.mp e5
      obtain ⟨⟨oy, S5⟩, e7, e5⟩ := Option.bind_eq_some_iff.mp e5
      obtain ⟨⟨rest2, S6⟩, e8, e5⟩ := Option.map_eq_some_iff.mp e5
      obtain ⟨go1, yld⟩ := go i _ (List.getElem?_eq_getElem hlt)
      have lk5 := lk2.trans (lcF_stp hS e7)
      let Nx : Hp → Prop := fun H => ∃ F' ι' S' acc vacc rest, Le F1 ι1 F' ι' ∧ RH (C.w (upd C.tp D (.lst vacc))) F' ι' S' H ∧ Fre F' ι' ∧ RelBs C F' acc vacc ∧ acc.length ≤ i + 1 ∧ LK (lockAll S1 ds) S' ∧
        lcL (lcF P mt me') g (xs.drop (i + 1)) (M.wipe sl w) S' = some (rest, S2) ∧ ys = acc ++ rest
      refine .inr ⟨go1, Nx, fun H' q => ⟨xs.length - (i + 1), by omega, rfl, hlt, q⟩, fun v H3 hy => ?_⟩
      obtain ⟨F3, l3, rh3, fr3, rv⟩ := yld v H3 hy
      have rs3 : RS (C.w (upd C.tp D (.lst vacc))) F3 ι2 (M.wipe sl w) S4 (L2.wipe σ w) H3 := ⟨rh3, fr3, (hsl2.mono l3).w⟩
      refine asg_relO (C := C.w (upd C.tp D (.lst vacc))) hK g e6 (RelB.w _ _ rv) rs3 fun σ4 o4 rs4 => ⟨wipe_only o4 hw, ?_⟩
      unfold lcF at e7
      obtain ⟨⟨c, S7⟩, e9, e7⟩ := Option.bind_eq_some_iff.mp e7
      obtain ⟨c1, e10, e7⟩ := Option.bind_eq_some_iff.mp e7
      refine htt _ _ _ _ (rs4.oneT e9 e10 fun F5 ι5 H5 l5 r5 => ?_)
      cases c1 with
      | true =>
        rw [if_pos rfl] at e7 ⊢
        obtain ⟨⟨y, S8⟩, e11, e7⟩ := Option.bind_eq_some_iff.mp e7
        obtain ⟨z, e12, e7⟩ := Option.map_eq_some_iff.mp e7
        cases e7
        refine hte _ _ _ _ (r5.one e11 fun F6 ι6 u H6 l6 r6 q6 => ?_)
        cases y with
        | b yy =>
          cases e12
          cases e5
          obtain ⟨h1, h2, h3, h4⟩ := r6.rh.tm D (.lst vacc) (show upd C.tp D (.lst vacc) D = some _ from upd_same)
          have l26 : Le F2 ι2 F6 ι6 := l3.trans (l5.trans l6)
          have ra6 := RelBs.mono l26.1 _ _ ra
          refine ⟨vacc, h1, ?_, F6, ι6, _, acc ++ [yy], vacc ++ [u], rest2, l2.trans l26, r6.rh.tmSet (hnfz _) (hnown _), r6.fr, ra6.append (RelBs.one (RelB.v q6)), by rw [List.length_append, List.length_singleton]; omega, lk5, e8, by rw [ey, List.append_assoc] <;> rfl⟩
          rw [← ra6.length]
          exact Nat.lt_of_lt_of_le (by omega) (SZ_le hz)
        | ref n => cases e12
        | mix n => cases e12
      | false =>
        rw [if_neg Bool.false_ne_true] at e7 ⊢
        cases e7
        cases e5
        have l25 : Le F2 ι2 F5 ι5 := l3.trans l5
        exact ⟨F5, ι5, _, acc, vacc, _, l2.trans l25, r5.rh, r5.fr, RelBs.mono l25.1 _ _ ra, by omega, lk5, e8, ey⟩
    · have hi2 : i = xs.length := by omega
      subst hi2
      rw [List.drop_length] at e5
      cases e5
      rw [List.append_nil] at ey
      subst ey
      refine .inl ⟨stop, ?_⟩
      have p2 := post.mono (l1.trans l2)
      have rh3 : RH (C.w (upd C.tp D (.lst vacc))) F2 ι2 S3 H2 := rh2.unlockAll nd e4
      obtain ⟨h1, h2, h3, h4⟩ := rh3.tm D (.lst vacc) (show upd C.tp D (.lst vacc) D = some _ from upd_same)
      unfold newL at e
      split at e
      · split at e
        · cases e
          obtain ⟨n1, n2, n3⟩ := rh3.tmS (o := .lst ys) (hnfz _) fr2 hDt ⟨vacc, h1, ra⟩
          exact p2 _ _ _ _ n3 n1 n2 ⟨D, by rw [List.getElem?_append_right (by rw [rh3.len] <;> exact Nat.le_refl _), ← rh3.len, Nat.sub_self] <;> rfl, rfl⟩
        · cases e
          obtain ⟨n1, n2, n3⟩ := rh3.tmF (hnfz _) fr2 hDt
          exact p2 _ _ _ _ n3 n1 n2 ⟨D, vacc, rfl, upd_same, RelBs.mono n3.1 _ _ ra⟩
      · cases e
  · cases e
theorem mts_nil : PTs X [] (rdT C P (.k (.bl true))) := ⟨fun pins s σ H Q I h => pts_nil.run pins s σ H Q I (by
  obtain ⟨F, ι, S, sl, d, S', c, rs, e, t, post⟩ := h
  cases e
  cases t
  exact post F ι H (Le.refl _ _) rs.rh rs.fr)⟩
theorem mts_one {c : Expr} {mc : E} (h : MT X C P c mc) : PTs X [c] (rdT C P mc) := pts_one h
/-- [elt for target in iter if ..] -/
theorem me_lc (m : Bool) (hS : CStp P.C ∧ CStp P.C2) (hK : C.K = X.K) (hc : X.calm = true) (hN : X.N.Nodup) (hnd : ∀ S ds xs, items S k ds = some xs → NoDic S ds) (hi : MI X C P tg iter k es) (ok : BlkOk X.N X.env.scope scope own) (hww : own.map (·.2) = w)
    (hg : ∀ (s : Shared) (H : Hp) (Cc : Addr) (cl : List (PySem.Str × Addr)) (fp : List Addr), PG (X.blk s H scope (compEnvC scope cl Cc X.env) fp) tg (gPt X.K g))
    (ht : ∀ (tp : Hp) (s : Shared) (H : Hp) (Cc : Addr) (cl : List (PySem.Str × Addr)) (fp : List Addr), PTs (X.blk s H scope (compEnvC scope cl Cc X.env) fp) ifs (rdT (C.w tp) P mt))
    (he : ∀ (tp : Hp) (s : Shared) (H : Hp) (Cc : Addr) (cl : List (PySem.Str × Addr)) (fp : List Addr), ME (X.blk s H scope (compEnvC scope cl Cc X.env) fp) (C.w tp) P elt me')
    (hw : ∀ j ∈ slots g, j ∈ w := by decide) (hs : ∀ x, foldedSetIterable iter X.env x = pure x := by intro _; rfl) : ME X C P (.ListComp elt [⟨tg, iter, ifs, 0⟩] scope pos) (.lc m g k es mt me' w) := by
  refine (pe_lc (tt := fun σ H Q => ∃ tp, rdT (C.w tp) P mt σ H Q) (te := fun σ H Q => ∃ tp, rdE (C.w tp) P me' σ H Q) hc hN hi ok hg (fun s H Cc cl fp => ⟨fun pins s2 σ H Q I ⟨tp, h⟩ => (ht tp s _ Cc cl fp).run pins s2 σ H Q I h⟩) (fun s H Cc cl fp => ⟨fun pins s2 σ H Q I ⟨tp, h⟩ => (he tp s _ Cc cl fp).run pins s2 σ H Q I h⟩) hs).imp fun σ H Q h => ?_
  rw [hww]
  exact lc_rd hS hK m hnd hw (fun _ _ _ => trivial) h (fun _ _ _ h => h) (fun tp _ _ _ h => ⟨tp, h⟩) (fun tp _ _ _ h => ⟨tp, h⟩)
/-- name = [..] on one line -/
theorem ms_setlc {y : PySem.Str} {py : Pos} {i : Nat} (m : Bool) (hS : CStp P.C ∧ CStp P.C2) (hK : C.K = X.K) (hc : X.calm = true) (hN : X.N.Nodup) (hy : X.N[i]? = some y) (hyl : X.env.scope.names.lookup y = some .local)
    (hnd : ∀ S ds xs, items S k ds = some xs → NoDic S ds) (hi : MI X C P tg iter k es) (ok : BlkOk X.N X.env.scope scope own) (hww : own.map (·.2) = w)
    (hg : ∀ (s : Shared) (H : Hp) (Cc : Addr) (cl : List (PySem.Str × Addr)) (fp : List Addr), PG (X.blk s H scope (compEnvC scope cl Cc X.env) fp) tg (gPt X.K g))
    (ht : ∀ (tp : Hp) (s : Shared) (H : Hp) (Cc : Addr) (cl : List (PySem.Str × Addr)) (fp : List Addr), PTs (X.blk s H scope (compEnvC scope cl Cc X.env) fp) ifs (rdT (C.w tp) P mt))
    (he : ∀ (tp : Hp) (s : Shared) (H : Hp) (Cc : Addr) (cl : List (PySem.Str × Addr)) (fp : List Addr), ME (X.blk s H scope (compEnvC scope cl Cc X.env) fp) (C.w tp) P elt me')
    (hsw : swapsWith (.ListComp elt [⟨tg, iter, ifs, 0⟩] scope pos) (some (.Name y py)) spos.line X.env = pure true := by rfl)
    (hw : ∀ j ∈ slots g, j ∈ w := by decide) (hs : ∀ x, foldedSetIterable iter X.env x = pure x := by intro _; rfl) : MS X C P (.Assign [.Name y py] (.ListComp elt [⟨tg, iter, ifs, 0⟩] scope pos) spos) (.set i (.lc m g k es mt me' w)) := by
  refine (ps_setLc (tt := fun σ H Q => ∃ tp, rdT (C.w tp) P mt σ H Q) (te := fun σ H Q => ∃ tp, rdE (C.w tp) P me' σ H Q) hc hN hy hyl hsw hi ok hg (fun s H Cc cl fp => ⟨fun pins s2 σ H Q I ⟨tp, h⟩ => (ht tp s _ Cc cl fp).run pins s2 σ H Q I h⟩) (fun s H Cc cl fp => ⟨fun pins s2 σ H Q I ⟨tp, h⟩ => (he tp s _ Cc cl fp).run pins s2 σ H Q I h⟩) hs).imp fun D σ H h => ?_
  obtain ⟨F, ι, S, sl, r, rs, e, post⟩ := h
  unfold exec at e
  obtain ⟨⟨d, S1⟩, e1, e⟩ := Option.map_eq_some_iff.mp e
  cases e
  rw [hww]
  exact lc_rd hS hK m hnd hw (fun _ _ _ => trivial) (rs.one e1 fun F1 ι1 v H1 l1 r1 q1 => post F1 ι1 _ H1 l1 (r1.slot q1)) (fun _ _ _ h => h) (fun tp _ _ _ h => ⟨tp, h⟩) (fun tp _ _ _ h => ⟨tp, h⟩)
end
end M
/-! MC14: an answer that never changes is laid down for good. -/
namespace M
open PySem PySem.Spec PyProof.Rows L2
/-- references below n alone -/
def blD (n : Nat) : D → Prop
  | .b _ => True
  | .ref m => m < n
  | .mix xs => ∀ x ∈ xs, blD n x
theorem blD_b {n : Nat} {d : D} (h : isB d = true) : blD n d := by
  cases d with
  | b x => unfold blD; trivial
  | ref m => cases h
  | mix xs => cases h
section
variable {C : Ct} {F : Hp} {ι κ : List Addr}
mutual
theorem RelD.blD : ∀ (x : D) (v : V), RelD C F ι x v → M.blD ι.length x
  | .b x, v, _ => by unfold M.blD; trivial
  | .ref n, v, q => by
    obtain ⟨a, e, _⟩ := q
    unfold M.blD
    exact (List.getElem?_eq_some_iff.mp e).1
  | .mix xs, v, q => by
    obtain ⟨a, vs, e, h1, h2⟩ := q
    unfold M.blD
    exact RelDs.blD xs vs h2
termination_by structural x => x
theorem RelDs.blD : ∀ (xs : List D) (vs : List V), RelDs C F ι xs vs → ∀ x ∈ xs, M.blD ι.length x
  | [], _, _ => fun _ h => by cases h
  | x :: xs, _, q => by
    obtain ⟨v, r, e, h1, h2⟩ := q
    intro y hy
    rcases List.mem_cons.mp hy with h | h
    · rw [h]; exact RelD.blD x v h1
    · exact RelDs.blD xs r h2 y h
termination_by structural x => x
end
mutual
theorem RelD.cut : ∀ (x : D) (v : V), RelD C F (ι ++ κ) x v → M.blD ι.length x → RelD C F ι x v
  | .b x, v, q, _ => q
  | .ref n, v, q, h => by
    obtain ⟨a, e, ev⟩ := q
    unfold M.blD at h
    rw [List.getElem?_append_left h] at e
    exact ⟨a, e, ev⟩
  | .mix xs, v, q, h => by
    obtain ⟨a, vs, e, h1, h2⟩ := q
    unfold M.blD at h
    exact ⟨a, vs, e, h1, RelDs.cut xs vs h2 h⟩
termination_by structural x => x
theorem RelDs.cut : ∀ (xs : List D) (vs : List V), RelDs C F (ι ++ κ) xs vs → (∀ x ∈ xs, M.blD ι.length x) → RelDs C F ι xs vs
  | [], _, q, _ => q
  | x :: xs, _, q, h => by
    obtain ⟨v, r, e, h1, h2⟩ := q
    exact ⟨v, r, e, RelD.cut x v h1 (h x List.mem_cons_self), RelDs.cut xs r h2 fun y hy => h y (List.mem_cons_of_mem _ hy)⟩
termination_by structural x => x
end
theorem RelDf.blD : ∀ {fs : List (Nat × D)} {gs : List (PySem.Str × V)}, RelDf C F ι fs gs → ∀ p ∈ fs, M.blD ι.length p.2
  | [], _, _ => fun _ h => by cases h
  | (k, x) :: xs, _, q => by
    obtain ⟨j, v, r, e, h0, h1, h2⟩ := q
    intro y hy
    rcases List.mem_cons.mp hy with h | h
    · rw [h]; exact RelD.blD x v h1
    · exact RelDf.blD h2 y h
theorem RelDf.cut : ∀ {fs : List (Nat × D)} {gs : List (PySem.Str × V)}, RelDf C F (ι ++ κ) fs gs → (∀ p ∈ fs, M.blD ι.length p.2) → RelDf C F ι fs gs
  | [], _, q, _ => q
  | (k, x) :: xs, _, q, h => by
    obtain ⟨j, v, r, e, h0, h1, h2⟩ := q
    exact ⟨j, v, r, e, h0, RelD.cut x v h1 (h _ List.mem_cons_self), RelDf.cut h2 fun y hy => h y (List.mem_cons_of_mem _ hy)⟩
end
/-- what stays of the heap while dicts are laid down -/
def Hx (H H' : Hp) : Prop := ∀ a o, H a = some o → (∀ ks, o ≠ .dK ks) → H' a = some o
theorem Hx.refl {H : Hp} : Hx H H := fun _ _ h _ => h
theorem Hx.trans {H H1 H2 : Hp} (h : Hx H H1) (h' : Hx H1 H2) : Hx H H2 := fun a o e n => h' a o (h a o e n) n
structure Wk (C : Ct) (F : Hp) (ι : List Addr) (base : Nat) (S : Store) (H : Hp) : Prop where
  fz : Sub F H
  len : ι.length = S.length
  nd : ι.Nodup
  lo : ∀ (n : Nat) a o, n < base → ι[n]? = some a → S[n]? = some o → RelO C F ι H a o ∧ F a = none
  hi : ∀ (n : Nat) a o, base ≤ n → ι[n]? = some a → S[n]? = some o → (RelO C F ι H a o ∧ ∀ ks, F a ≠ some (.dK ks)) ∨ ∃ kvs od ks, o = .dic kvs ∧ F a = some (.frz od (.dK ks)) ∧ RelBk C F kvs ks
  tm : ∀ a o, C.tp a = some o → H a = some o ∧ F a = none ∧ (a ∉ ι ∨ Fz o) ∧ ∀ b, o ≠ .own b
theorem RH.wk {C : Ct} {F : Hp} {ι : List Addr} {S : Store} {H : Hp} (r : RH C F ι S H) (fr : Fre F ι) (base : Nat) : Wk C F ι base S H :=
  ⟨r.fz, r.len, r.nd, fun n a o _ ha ho => ⟨r.ob n a o ha ho, fr.at ha⟩, fun n a o _ ha ho => .inl ⟨r.ob n a o ha ho, fun ks z => by rw [fr.at ha] at z; cases z⟩, r.tm⟩
section
variable {C : Ct} {F : Hp} {ι : List Addr} {base : Nat} {S : Store} {H : Hp}
/-- more is known to stand for good: at addresses of objects of one's own, or at an instance's dict -/
theorem Wk.more (r : Wk C F ι base S H) {F' : Hp} (l : Sub F F') (h : Sub F' H) (hn : ∀ b o, F' b = some o → F b = some o ∨ ((∃ n, base ≤ n ∧ ι[n]? = some b) ∨ ∃ c, o = .own c) ∧ (∀ ks, o ≠ .dK ks) ∧ ¬ Fz o) : Wk C F' ι base S H := by
  have le : Le F ι F' ι := ⟨l, [], by simp⟩
  refine ⟨h, r.len, r.nd, fun n a o hb ha ho => ?_, fun n a o hb ha ho => ?_, fun a o e => ?_⟩
  · obtain ⟨q, q2⟩ := r.lo n a o hb ha ho
    refine ⟨q.mono le, ?_⟩
    cases e : F' a with
    | none => rfl
    | some u =>
      rcases hn a u e with z | ⟨⟨m, hm, hm2⟩ | ⟨c, hc⟩, _⟩
      · rw [q2] at z; cases z
      · have := nodup_get r.nd ha hm2
        omega
      · subst hc
        exact (q.notOwn (h a _ e)).elim
  · rcases r.hi n a o hb ha ho with ⟨q, q2⟩ | ⟨kvs, od, ks, q1, q2, q3⟩
    · refine .inl ⟨q.mono le, fun ks z => ?_⟩
      rcases hn a _ z with z | ⟨_, z, _⟩
      · exact q2 ks z
      · exact z ks rfl
    · exact .inr ⟨kvs, od, ks, q1, l _ _ q2, RelBk.mono l _ _ q3⟩
  · obtain ⟨h1, h2, h3, h4⟩ := r.tm a o e
    refine ⟨h1, ?_, h3, h4⟩
    cases e : F' a with
    | none => rfl
    | some u =>
      rcases hn a u e with z | ⟨⟨m, hm, hm2⟩ | ⟨c, hc⟩, _, hnz⟩
      · rw [h2] at z; cases z
      · have h5 := h a u e
        rw [h1] at h5
        cases h5
        exact ((h3.resolve_right hnz) (List.mem_of_getElem? hm2)).elim
      · subst hc
        have := h a _ e
        rw [h1] at this
        cases this
        exact (h4 c rfl).elim
/-- a dict of one's own is laid down -/
theorem Wk.lockd (r : Wk C F ι base S H) {n : Nat} {a : Addr} {kvs : List (Kd × B)} {ks : List (L2.Key × V)} {od : Obj} (hb : base ≤ n) (ha : ι[n]? = some a) (hS : S[n]? = some (.dic kvs)) (hH : H a = some (.dK ks)) (hr : RelBk C F kvs ks) (hF : F a = none) :
    Wk C (upd F a (.frz od (.dK ks))) ι base S (upd H a (.frz od (.dK ks))) := by
  have l : Sub F (upd F a (.frz od (.dK ks))) := fun b o e => by
    rw [upd_ne fun z => by rw [z, hF] at e; cases e]
    exact e
  have le : Le F ι (upd F a (.frz od (.dK ks))) ι := ⟨l, [], by simp⟩
  have hown : ∀ b c, H b = some (.own c) → upd H a (.frz od (.dK ks)) b = some (.own c) := fun b c e => by
    rw [upd_ne fun z => by rw [z, hH] at e; cases e]
    exact e
  refine ⟨fun b o e => ?_, r.len, r.nd, fun m b o hm hb' ho => ?_, fun m b o hm hb' ho => ?_, fun b o e => ?_⟩
  · by_cases h : b = a
    · subst h
      rw [upd_same] at e ⊢
      exact e
    · rw [upd_ne h] at e ⊢
      exact r.fz b o e
  · have hne : b ≠ a := fun z => by
      subst z
      have := nodup_get r.nd ha hb'
      omega
    obtain ⟨q, q2⟩ := r.lo m b o hm hb' ho
    exact ⟨(q.mono le).at (by rw [upd_ne hne]) fun c hc => hown c _ hc, by rw [upd_ne hne]; exact q2⟩
  · by_cases h : m = n
    · subst h
      rw [ha] at hb'
      cases hb'
      rw [hS] at ho
      cases ho
      exact .inr ⟨kvs, od, ks, rfl, upd_same, RelBk.mono l _ _ hr⟩
    · have hne : b ≠ a := fun z => by
        subst z
        exact h (nodup_get r.nd hb' ha)
      rcases r.hi m b o hm hb' ho with ⟨q, q2⟩ | ⟨kvs', od', ks', q1, q2, q3⟩
      · exact .inl ⟨(q.mono le).at (by rw [upd_ne hne]) fun c hc => hown c _ hc, fun ks => by rw [upd_ne hne]; exact q2 ks⟩
      · exact .inr ⟨kvs', od', ks', q1, by rw [upd_ne hne]; exact q2, RelBk.mono l _ _ q3⟩
  · obtain ⟨h1, h2, h3, h4⟩ := r.tm b o e
    have hne : b ≠ a := fun z => (h3.resolve_right (fz_d hH o (by rw [← z]; exact h1))) (by rw [z]; exact List.mem_of_getElem? ha)
    exact ⟨by rw [upd_ne hne]; exact h1, by rw [upd_ne hne]; exact h2, h3, h4⟩
end
section
variable {C : Ct} {ι : List Addr} {base : Nat} {S : Store} {Q : Hp → Prop}
/-- what the walk through a value says -/
def FrzP (C : Ct) (ι : List Addr) (base : Nat) (S : Store) (Q : Hp → Prop) (k : Nat) : Prop := ∀ (d : D) (y : B) (v : V) (F H : Hp), Wk C F ι base S H → RelD C F ι d v → frz S base k d = some y →
  (∀ F' H', Sub F F' → Hx H H' → Wk C F' ι base S H' → RelB C F' y v → Gh H' Q) → Gh H Q
theorem frz_list {k : Nat} (ih : FrzP C ι base S Q k) : ∀ (ds : List D) (ys : List B) (vs : List V) (F H : Hp), Wk C F ι base S H → RelDs C F ι ds vs → mapO (frz S base k) ds = some ys →
    (∀ F' H', Sub F F' → Hx H H' → Wk C F' ι base S H' → RelBs C F' ys vs → Gh H' Q) → Gh H Q
  | [], ys, vs, F, H, w, r, e, K => by
    cases e
    exact K F H (Sub.refl F) .refl w r
  | d :: ds, ys, vs, F, H, w, r, e, K => by
    unfold mapO at e
    obtain ⟨y, e1, e⟩ := Option.bind_eq_some_iff.mp e
    obtain ⟨zs, e2, e⟩ := Option.map_eq_some_iff.mp e
    cases e
    obtain ⟨v, vr, rfl, h1, h2⟩ := r
    refine ih d y v F H w h1 e1 fun F1 H1 l1 x1 w1 r1 => ?_
    refine frz_list ih ds zs vr F1 H1 w1 (RelDs.mono ⟨l1, [], by simp⟩ _ _ h2) e2 fun F2 H2 l2 x2 w2 r2 => ?_
    exact K F2 H2 (l1.trans l2) (x1.trans x2) w2 ⟨v, vr, rfl, RelB.mono l2 _ _ r1, r2⟩
theorem frz_flds {k : Nat} (ih : FrzP C ι base S Q k) : ∀ (ds : List (Nat × D)) (ys : List (Nat × B)) (vs : List (PySem.Str × V)) (F H : Hp), Wk C F ι base S H → RelDf C F ι ds vs → mapO (fun p => (frz S base k p.2).map fun x => (p.1, x)) ds = some ys →
    (∀ F' H', Sub F F' → Hx H H' → Wk C F' ι base S H' → RelBf C F' ys vs → Gh H' Q) → Gh H Q
  | [], ys, vs, F, H, w, r, e, K => by
    cases e
    exact K F H (Sub.refl F) .refl w r
  | (j, d) :: ds, ys, vs, F, H, w, r, e, K => by
    unfold mapO at e
    obtain ⟨y, e1, e⟩ := Option.bind_eq_some_iff.mp e
    obtain ⟨zs, e2, e⟩ := Option.map_eq_some_iff.mp e
    obtain ⟨y1, e3, e4⟩ := Option.map_eq_some_iff.mp e1
    cases e
    cases e4
    obtain ⟨nm, v, vr, rfl, h0, h1, h2⟩ := r
    refine ih d y1 v F H w h1 e3 fun F1 H1 l1 x1 w1 r1 => ?_
    refine frz_flds ih ds zs vr F1 H1 w1 (RelDf.mono ⟨l1, [], by simp⟩ _ _ h2) e2 fun F2 H2 l2 x2 w2 r2 => ?_
    exact K F2 H2 (l1.trans l2) (x1.trans x2) w2 ⟨(nm, v), vr, rfl, ⟨h0, RelB.mono l2 _ _ r1⟩, r2⟩
theorem frz_go : ∀ k, FrzP C ι base S Q k
  | 0 => fun d y v F H w r e K => by
    cases d with
    | b x =>
      cases e
      exact K F H (Sub.refl F) .refl w r
    | ref n => cases e
    | mix xs => cases e
  | k + 1 => fun d y v F H w r e K => by
    cases d with
    | b x =>
      cases e
      exact K F H (Sub.refl F) .refl w r
    | mix xs =>
      obtain ⟨ys, e1, e⟩ := Option.map_eq_some_iff.mp e
      cases e
      obtain ⟨a, vs, rfl, h1, h2⟩ := r
      exact frz_list (frz_go k) xs ys vs F H w h2 e1 fun F' H' l x w' r' => K F' H' l x w' ⟨a, vs, rfl, sqT_mono l h1, r'⟩
    | ref n =>
      unfold frz at e
      split at e
      · cases e
      · rename_i hn
        obtain ⟨a, ha, rfl⟩ := r
        split at e
        · rename_i xs hS
          cases e
          rcases w.hi n a _ (by omega) ha hS with ⟨⟨vs, h1, h2⟩, h3⟩ | ⟨kvs, od, ks, q, _⟩
          · have l : Sub F (upd F a (.lst vs)) := fun b o e => by
              by_cases hb : b = a
              · subst hb
                have := w.fz _ _ e
                rw [h1] at this
                cases this
                exact upd_same
              · rw [upd_ne hb]; exact e
            refine K (upd F a (.lst vs)) H l .refl (w.more l (fun b o e => ?_) fun b o e => ?_) ⟨a, vs, rfl, upd_same, RelBs.mono l _ _ h2⟩
            · by_cases hb : b = a
              · subst hb
                rw [upd_same] at e
                cases e
                exact h1
              · rw [upd_ne hb] at e
                exact w.fz b o e
            · by_cases hb : b = a
              · subst hb
                rw [upd_same] at e
                cases e
                exact .inr ⟨.inl ⟨n, by omega, ha⟩, (fun _ z => nomatch z), fun ⟨_, _, z⟩ => nomatch z⟩
              · rw [upd_ne hb] at e
                exact .inl e
          · cases q
        · rename_i kvs hS
          cases e
          rcases w.hi n a _ (by omega) ha hS with ⟨⟨ks, h1, h2⟩, h3⟩ | ⟨kvs', od, ks, q, q2, q3⟩
          · have hF : F a = none := by
              cases e : F a with
              | none => rfl
              | some u =>
                have := w.fz _ _ e
                rw [h1] at this
                cases this
                exact (h3 ks e).elim
            refine .lock a (.dK ks) h1 trivial fun od => ?_
            have l : Sub F (upd F a (.frz od (.dK ks))) := fun b o e => by
              rw [upd_ne fun z => by rw [z, hF] at e; cases e]
              exact e
            refine K (upd F a (.frz od (.dK ks))) _ l (fun b o e no => ?_) (w.lockd (by omega) ha hS h1 h2 hF) ⟨a, od, ks, rfl, upd_same, RelBk.mono l _ _ h2⟩
            rw [upd_ne fun z => by rw [z, h1] at e; cases e; exact no ks rfl]
            exact e
          · cases q
            exact K F H (Sub.refl F) .refl w ⟨a, od, ks, rfl, q2, q3⟩
        · rename_i c fs hS
          obtain ⟨ys, e1, e⟩ := Option.map_eq_some_iff.mp e
          cases e
          rcases w.hi n a _ (by omega) ha hS with ⟨⟨Da, dx, gs, h0, h1, h2, h3⟩, _⟩ | ⟨kvs', od, ks, q, q2, q3⟩
          · refine frz_flds (frz_go k) fs ys gs F H w h3 e1 fun F1 H1 l1 x1 w1 r1 => ?_
            have g1 := x1 _ _ h1 (fun _ z => nomatch z)
            have g2 := x1 _ _ h2 (fun _ z => nomatch z)
            have hda : dx ≠ a := fun z => by rw [z, g1] at g2; cases g2
            have l : Sub F1 (upd (upd F1 dx (.own a)) a (.ins Da dx gs)) := fun b o e => by
              by_cases hb : b = a
              · subst hb
                have := w1.fz _ _ e
                rw [g1] at this
                cases this
                exact upd_same
              · rw [upd_ne hb]
                by_cases hb2 : b = dx
                · subst hb2
                  have := w1.fz _ _ e
                  rw [g2] at this
                  cases this
                  exact upd_same
                · rw [upd_ne hb2]; exact e
            refine K _ H1 (l1.trans l) x1 (w1.more l (fun b o e => ?_) fun b o e => ?_) ⟨a, Da, dx, gs, rfl, h0, upd_same, by rw [upd_ne hda]; exact upd_same, RelBf.mono l _ _ r1⟩
            · by_cases hb : b = a
              · subst hb
                rw [upd_same] at e
                cases e
                exact g1
              · rw [upd_ne hb] at e
                by_cases hb2 : b = dx
                · subst hb2
                  rw [upd_same] at e
                  cases e
                  exact g2
                · rw [upd_ne hb2] at e
                  exact w1.fz b o e
            · by_cases hb : b = a
              · subst hb
                rw [upd_same] at e
                cases e
                exact .inr ⟨.inl ⟨n, by omega, ha⟩, (fun _ z => nomatch z), fun ⟨_, _, z⟩ => nomatch z⟩
              · rw [upd_ne hb] at e
                by_cases hb2 : b = dx
                · subst hb2
                  rw [upd_same] at e
                  cases e
                  exact .inr ⟨.inr ⟨a, rfl⟩, (fun _ z => nomatch z), fun ⟨_, _, z⟩ => nomatch z⟩
                · rw [upd_ne hb2] at e
                  exact .inl e
          · cases q
        · cases e
end
/-- the end of a def whose answer never changes -/
theorem frz_end {C : Ct} {F F2 : Hp} {ι ι2 : List Addr} {S S2 : Store} {H H2 : Hp} {d : D} {y : B} {v : V} {Q : Hp → Prop} (rh0 : RH C F ι S H) (l : Le F ι F2 ι2) (rh : RH C F2 ι2 S2 H2) (fr : Fre F2 ι2) (st : Stp S.length S S2) (r : RelD C F2 ι2 d v) (e : frz S2 S.length 8 d = some y)
    (K : ∀ F' H', Le F ι F' ι → RH C F' ι (S2.take S.length) H' → Fre F' ι → RelB C F' y v → Q H') : Gh H2 Q := by
  refine frz_go 8 d y v F2 H2 (rh.wk fr S.length) r e fun F' H' l2 _ w r' => .here ?_
  obtain ⟨l1, κ, rfl⟩ := l
  have hl := rh0.len
  have hs := st.len
  refine K F' H' ⟨l1.trans l2, [], by simp⟩ ⟨w.fz, by rw [List.length_take, hl]; omega, (List.nodup_append.mp rh.nd).1, fun n a o ha ho => ?_, fun a o e => ?_⟩ (fun a ha => ?_) r'
  · have hn : n < S.length := by
      rw [← hl]
      exact (List.getElem?_eq_some_iff.mp ha).1
    rw [List.getElem?_take_of_lt hn] at ho
    have ha2 : (ι ++ κ)[n]? = some a := by
      rw [List.getElem?_append_left (by omega)]
      exact ha
    obtain ⟨q, _⟩ := w.lo n a o hn ha2 ho
    cases o with
    | lst xs => exact q
    | dic xs => exact q
    | lockl xs => exact q
    | lockd xs => exact q
    | ins c fs =>
      obtain ⟨Da, dx, gs, h0, h1, h2, h3⟩ := q
      refine ⟨Da, dx, gs, h0, h1, h2, h3.cut fun p hp => ?_⟩
      obtain ⟨fs0, e0, q0⟩ := st.cls n hn c fs ho
      rcases q0 p hp with hp | hp
      · obtain ⟨_, _, _, _, _, _, z⟩ := rh0.ob n a _ ha e0
        exact z.blD p hp
      · exact blD_b hp
  · obtain ⟨h1, h2, h3, h4⟩ := w.tm a o e
    exact ⟨h1, h2, h3.imp (fun h3 z => h3 (List.mem_append_left _ z)) id, h4⟩
  · obtain ⟨n, hn, e⟩ := List.getElem_of_mem ha
    have ha' : ι[n]? = some a := by rw [← e]; exact List.getElem?_eq_getElem hn
    have ha2 : (ι ++ κ)[n]? = some a := by
      rw [List.getElem?_append_left hn]
      exact ha'
    have hS : n < S2.length := by omega
    exact (w.lo n a _ (by omega) ha2 (List.getElem?_eq_getElem hS)).2
end M
/-! MC15: calls, defs. -/
namespace M
open PySem PySem.Spec PyProof.Rows L2
/-- what a def of the text does: what the small interpreter says -/
def spE (T : Tab) (C : Ct) (k f : Nat) : Sp := fun vs H Q _ => ∃ tp F ι S base ds d S', RH (C.w tp) F ι S H ∧ Fre F ι ∧ RelDs (C.w tp) F ι ds vs ∧ evC T k base f ds S = some (d, S') ∧
  ∀ F' ι' v H', Le F ι F' ι' → RH (C.w tp) F' ι' S' H' → Fre F' ι' → RelD (C.w tp) F' ι' d v → Q v H'
/-- the machine's parts in a body at level k -/
noncomputable def par (T : Tab) (k b : Nat) : Par := ⟨evC T k, (match k with
  | 0 => fun _ _ _ _ => none
  | j + 1 => evC T j), T.init, T.meth, T.fo, b, T.eqm⟩
theorem par_stp (T : Tab) (k b : Nat) : CStp (par T k b).C ∧ CStp (par T k b).C2 := by
  refine ⟨evC_stp T k, ?_⟩
  cases k with
  | zero => exact fun _ _ _ _ _ e => by cases e
  | succ j => exact evC_stp T j
/-- the def with number f stands at the global x -/
def Gf (P : Program) (w : World) (K : PySem.W.Frag) (mg : PySem.Str → Option Value) (base : Heap) (T : Tab) (C : Ct) (k f : Nat) (x : PySem.Str) : Prop :=
  ∃ (fa : Addr) (fd : FuncData) (ps : List PySem.Str), FnOk P w K mg base CX0 k fa fd ps (spE T C k f) ∧ mg x = some (.ref fa) ∧ PySem.W.keepIn K (.ref fa) = true ∧ Binds K fd ps []
/-- .. is the method m of class c -/
def Gm (P : Program) (w : World) (K : PySem.W.Frag) (mg : PySem.Str → Option Value) (base : Heap) (T : Tab) (C : Ct) (k f c : Nat) (m : PySem.Str) : Prop :=
  ∃ (fa D : Addr) (fd : FuncData) (ps : List PySem.Str), FnOk P w K mg base CX0 k fa fd ps (spE T C k f) ∧ C.cl c = some D ∧ Cls K D ∧ Meth K D m fa ∧ Binds K fd ps []
/-- .. is what the class c, at the global x, is made by -/
def Gc (P : Program) (w : World) (K : PySem.W.Frag) (mg : PySem.Str → Option Value) (base : Heap) (T : Tab) (C : Ct) (k f c : Nat) (x : PySem.Str) : Prop :=
  ∃ (fa D : Addr) (fd : FuncData) (ps : List PySem.Str), FnOk P w K mg base CX0 k fa fd ps (spE T C k f) ∧ C.cl c = some D ∧ Mk K D fa ∧ mg x = some (.ref D) ∧ Binds K fd ps []
section
variable {X : Cx} {C : Ct} {T : Tab} {k b f : Nat} {pos p apos : Pos} {e o : Expr} {es : List Expr} {ms : List E} {mo : E} {x : PySem.Str}
theorem sp_call {F : Hp} {ι : List Addr} {S S' : Store} {H : Hp} {ds : List D} {vs : List V} {d : D} {Q : VK} {j base : Nat} (rh : RH C F ι S H) (fr : Fre F ι) (r : RelDs C F ι ds vs) (e : evC T j base f ds S = some (d, S')) (post : Post C F ι S' d Q) : spE T C j f (vs ++ []) H Q E0 := by
  rw [List.append_nil]
  exact ⟨C.tp, F, ι, S, base, ds, d, S', rh, fr, r, e, post⟩
theorem me_call (G : Gf X.prog X.w X.K X.mg X.base T C k f x) (hr : Room k X.A) (hg : Gl X x) (ha : MA X C (par T k b) (e :: es) ms) (hdb : (x == ("__debug__" : PySem.Str)) = false := by decide) (he : starEach (e :: es) X.env = (false, eval e X.env) :: starEach es X.env := by rfl) (hpl : (backTo pos (starEach es X.env)).any (·.1) = false := by rfl) :
    ME X C (par T k b) (.Call (.Name x p) (e :: es) [] pos) (.call f ms) := by
  obtain ⟨fa, fd, ps, hF, hm, hk, hb⟩ := G
  refine (pe_call hF hr hg hm hk hb .nil pass0 ha hdb he hpl).imp fun σ H Q h => ?_
  obtain ⟨F, ι, S, sl, d, S', rs, e, post⟩ := h
  unfold ev at e
  obtain ⟨⟨ds, S1⟩, e1, e⟩ := Option.bind_eq_some_iff.mp e
  exact rs.args e1 fun F1 ι1 vs H1 l1 r1 q1 => sp_call r1.rh r1.fr q1 e (post.mono l1)
theorem me_call0 (G : Gf X.prog X.w X.K X.mg X.base T C k f x) (hr : Room k X.A) (hg : Gl X x) (hdb : (x == ("__debug__" : PySem.Str)) = false := by decide) :
    ME X C (par T k b) (.Call (.Name x p) [] [] pos) (.call f []) := by
  obtain ⟨fa, fd, ps, hF, hm, hk, hb⟩ := G
  refine (pe_call0 hF hr hg hm hk hb .nil pass0 hdb).imp fun σ H Q h => ?_
  obtain ⟨F, ι, S, sl, d, S', rs, e, post⟩ := h
  unfold ev at e
  obtain ⟨⟨ds, S1⟩, e1, e⟩ := Option.bind_eq_some_iff.mp e
  cases e1
  exact sp_call (ds := []) (vs := []) rs.rh rs.fr rfl e post
/-! ### methods -/
theorem _root_.L2.PE.ex {X : Cx} {e : Expr} {α : Type} {t : α → TE} (h : ∀ a, PE X e (t a)) : PE X e (fun σ H Q => ∃ a, t a σ H Q) := ⟨fun pins s σ H Q I ⟨a, q⟩ => (h a).run pins s σ H Q I q⟩
theorem _root_.L2.PE.exP {X : Cx} {e : Expr} {A : Prop} {t : TE} (h : A → PE X e t) : PE X e (fun σ H Q => A ∧ t σ H Q) := ⟨fun pins s σ H Q I ⟨a, q⟩ => (h a).run pins s σ H Q I q⟩
theorem noB {F : Hp} {m : Nat} {nm : PySem.Str} (hm : C.N.flds[m]? = some nm) : ∀ {fs : List (Nat × B)} {gs : List (PySem.Str × V)}, RelBf C F fs gs → fget fs m = none → gs.lookup nm = none
  | [], _, q, _ => by
    cases (show _ = [] from q)
    rfl
  | (g, w) :: r, _, q, e => by
    obtain ⟨⟨j, v⟩, rr, rfl, ⟨hj, h2⟩, h3⟩ := q
    unfold fget at e
    rw [look_cons]
    split at e
    · cases e
    · rename_i hg
      rw [if_neg (fun z : nm = j => hg (flds_inj hm (by rw [z]; exact hj)))]
      exact noB hm h3 e
theorem noD {F : Hp} {ι : List Addr} {m : Nat} {nm : PySem.Str} (hm : C.N.flds[m]? = some nm) : ∀ {fs : List (Nat × D)} {gs : List (PySem.Str × V)}, RelDf C F ι fs gs → fget fs m = none → gs.lookup nm = none
  | [], _, q, _ => by
    cases (show _ = [] from q)
    rfl
  | (g, w) :: r, _, q, e => by
    obtain ⟨j, v, rr, rfl, hj, h2, h3⟩ := q
    unfold fget at e
    rw [look_cons]
    split at e
    · cases e
    · rename_i hg
      rw [if_neg (fun z : nm = j => hg (flds_inj hm (by rw [z]; exact hj)))]
      exact noD hm h3 e
theorem clsOf_rel {F ι S H} {m : Nat} {nm : PySem.Str} (hm : C.N.flds[m]? = some nm) {x : D} {v : V} {c : Nat} (rh : RH C F ι S H) (rx : RelD C F ι x v) (e : clsOf S m x = some c) : ∃ a D dx fs, v = .ref a ∧ C.cl c = some D ∧ H a = some (.ins D dx fs) ∧ fs.lookup nm = none := by
  unfold clsOf at e
  split at e
  · split at e
    · rename_i h
      cases e
      obtain ⟨a, D, dx, gs, rfl, hc, h1, h2, h3⟩ := rx
      exact ⟨a, D, dx, gs, rfl, hc, rh.fz _ _ h1, noB hm h3 (Option.isNone_iff_eq_none.mp h)⟩
    · cases e
  · rename_i n
    obtain ⟨a, ha, rfl⟩ := rx
    obtain ⟨o, ho, q⟩ := rh.obj ha
    rw [ho] at e
    cases o <;> try (cases e; done)
    dsimp only at e
    split at e
    · rename_i h
      cases e
      obtain ⟨D, dx, gs, hc, h1, h2, h3⟩ := q
      exact ⟨a, D, dx, gs, rfl, hc, h1, noD hm h3 (Option.isNone_iff_eq_none.mp h)⟩
    · cases e
  · cases e
theorem me_meth {pl : Sem Bool} (m : Nat) {nm : PySem.Str} (G : ∀ c f, T.meth c m = some f → Gm X.prog X.w X.K X.mg X.base T C k f c nm) (hr : Room k X.A) (ho : ME X C (par T k b) o mo) (ha : MA X C (par T k b) (e :: es) ms) (hf : C.N.flds[m]? = some nm := by rfl)
    (hst : starEach (e :: es) X.env = (false, eval e X.env) :: starEach es X.env := by rfl) (hpl : (backTo pos (starEach es X.env)).any (·.1) = false := by rfl)
    (ht : eval (.Call (.Attribute o nm apos) (e :: es) [] pos) X.env = (do
      let ov ← eval o X.env
      standAt apos.atName
      let (f, first) ← holding [ov] (getMethod ov nm pl)
      callWith pos f first (backTo pos (starEach (e :: es) X.env)) (backToKw pos (keywordEach [] X.env))) := by rfl) : ME X C (par T k b) (.Call (.Attribute o nm apos) (e :: es) [] pos) (.meth mo m ms) := by
  refine (PE.ex fun c => PE.ex fun f => PE.ex fun D => PE.exP (A := T.meth c m = some f ∧ C.cl c = some D) fun ⟨h, hD⟩ => (?_ : PE X _ (tMeth D nm (spE T C k f) [] E0 (rdE C (par T k b) mo) (rdA C (par T k b) ms)))).imp fun σ H Q h => ?_
  · obtain ⟨fa, D', fd, ps, hF, hc, hcl, hme, hb⟩ := G c f h
    cases hD.symm.trans hc
    exact pe_meth ho hcl hme hF hr hb .nil pass0 ha hst hpl ht
  · obtain ⟨F, ι, S, sl, d, S', rs, e, post⟩ := h
    unfold ev at e
    obtain ⟨⟨y, S1⟩, e1, e⟩ := Option.bind_eq_some_iff.mp e
    obtain ⟨c, e2, e⟩ := Option.bind_eq_some_iff.mp e
    obtain ⟨f, e3, e⟩ := Option.bind_eq_some_iff.mp e
    obtain ⟨⟨ds, S2⟩, e4, e⟩ := Option.bind_eq_some_iff.mp e
    obtain ⟨fa, D', fd, ps, hF, hc, hcl, hme, hb⟩ := G c f e3
    refine ⟨c, f, D', ⟨e3, hc⟩, rs.one e1 fun F1 ι1 v H1 l1 r1 q1 => ?_⟩
    obtain ⟨a, D2, dx, fs, rfl, h1, h2, h3⟩ := clsOf_rel hf r1.rh q1 e2
    cases hc.symm.trans h1
    refine ⟨a, dx, fs, rfl, h2, h3, r1.args e4 fun F2 ι2 vs H2 l2 r2 q2 => ?_⟩
    exact sp_call (ds := y :: ds) (vs := .ref a :: vs) r2.rh r2.fr ⟨_, _, rfl, q1.mono l2, q2⟩ e (post.mono (l1.trans l2))
theorem me_meth0 {pl : Sem Bool} (m : Nat) {nm : PySem.Str} (G : ∀ c f, T.meth c m = some f → Gm X.prog X.w X.K X.mg X.base T C k f c nm) (hr : Room k X.A) (ho : ME X C (par T k b) o mo) (hf : C.N.flds[m]? = some nm := by rfl)
    (ht : eval (.Call (.Attribute o nm apos) [] [] pos) X.env = (do
      let ov ← eval o X.env
      standAt apos.atName
      let (f, first) ← holding [ov] (getMethod ov nm pl)
      callWith pos f first (backTo pos (starEach [] X.env)) (backToKw pos (keywordEach [] X.env))) := by rfl) : ME X C (par T k b) (.Call (.Attribute o nm apos) [] [] pos) (.meth mo m []) := by
  refine (PE.ex fun c => PE.ex fun f => PE.ex fun D => PE.exP (A := T.meth c m = some f ∧ C.cl c = some D) fun ⟨h, hD⟩ => (?_ : PE X _ (tMeth D nm (spE T C k f) [] E0 (rdE C (par T k b) mo) tNil))).imp fun σ H Q h => ?_
  · obtain ⟨fa, D', fd, ps, hF, hc, hcl, hme, hb⟩ := G c f h
    cases hD.symm.trans hc
    exact pe_meth0 ho hcl hme hF hr hb .nil pass0 ht
  · obtain ⟨F, ι, S, sl, d, S', rs, e, post⟩ := h
    unfold ev evs at e
    obtain ⟨⟨y, S1⟩, e1, e⟩ := Option.bind_eq_some_iff.mp e
    obtain ⟨c, e2, e⟩ := Option.bind_eq_some_iff.mp e
    obtain ⟨f, e3, e⟩ := Option.bind_eq_some_iff.mp e
    obtain ⟨fa, D', fd, ps, hF, hc, hcl, hme, hb⟩ := G c f e3
    refine ⟨c, f, D', ⟨e3, hc⟩, rs.one e1 fun F1 ι1 v H1 l1 r1 q1 => ?_⟩
    obtain ⟨a, D2, dx, fs, rfl, h1, h2, h3⟩ := clsOf_rel hf r1.rh q1 e2
    cases hc.symm.trans h1
    exact ⟨a, dx, fs, rfl, h2, h3, sp_call (ds := [y]) (vs := [.ref a]) r1.rh r1.fr ⟨_, _, rfl, q1, rfl⟩ e (post.mono l1)⟩
/-! ### a class is made -/
theorem RH.newI {F : Hp} {ι : List Addr} {S : Store} {H : Hp} (r : RH C F ι S H) (fr : Fre F ι) {a dx D : Addr} {c : Nat} (ha : H a = none) (hd : H dx = none) (hne : dx ≠ a) (hc : C.cl c = some D) :
    RH C F (ι ++ [a]) (S ++ [.ins c []]) (upd (upd H dx (.own a)) a (.ins D dx [])) ∧ Fre F (ι ++ [a]) ∧ Le F ι F (ι ++ [a]) := by
  have r1 : RH C F ι S (upd H dx (.own a)) := by
    refine ⟨fun b o e => ?_, r.len, r.nd, fun n b o hb ho => ?_, fun b o e => ?_⟩
    · rw [upd_ne (ne_of_none (r.fz b o e) hd)]
      exact r.fz b o e
    · have q := r.ob n b o hb ho
      obtain ⟨w, hw⟩ := q.there
      exact q.at (by rw [upd_ne (ne_of_none hw hd)]) fun c hc => by rw [upd_ne (ne_of_none hc hd)]; exact hc
    · obtain ⟨h1, h2, h3, h4⟩ := r.tm b o e
      exact ⟨by rw [upd_ne (ne_of_none h1 hd)]; exact h1, h2, h3, h4⟩
  exact r1.newS fr (o := .ins c []) (u := .ins D dx []) (by rw [upd_ne hne.symm]; exact ha) ⟨D, dx, [], hc, upd_same, by rw [upd_ne hne]; exact upd_same, rfl⟩
theorem isNon_rel {F : Hp} {ι : List Addr} {d : D} {v : V} (h : isNon d = true) (r : RelD C F ι d v) : v = .non := by
  unfold isNon at h
  split at h
  · exact r
  · cases h
theorem make_end {F : Hp} {ι : List Addr} {S S' : Store} {H : Hp} {ds : List D} {vs : List V} {d : D} {Q : VK} {c j bb : Nat} {q : Nat × Bool} {D0 : Addr} (hc : C.cl c = some D0) (rh : RH C F ι S H) (fr : Fre F ι) (r : RelDs C F ι ds vs)
    (e : (if q.2 then (evC T j S.length q.1 (.ref S.length :: ds) (S ++ [.ins c []])).bind fun r => if isNon r.1 then (frz r.2 S.length 8 (.ref S.length)).map fun x => (.b x, r.2.take S.length) else none
      else (evC T j bb q.1 (.ref S.length :: ds) (S ++ [.ins c []])).bind fun r => if isNon r.1 then some (.ref S.length, r.2) else none) = some (d, S')) (post : Post C F ι S' d Q) :
    ∀ x dx, H x = none → H dx = none → dx ≠ x → spE T C j q.1 (.ref x :: (vs ++ [])) (upd (upd H dx (.own x)) x (.ins D0 dx [])) (fun v H2 => v = .non ∧ Gh H2 (Q (.ref x))) E0 := by
  intro x dx hx hdx hne
  obtain ⟨n1, n2, n3⟩ := rh.newI fr hx hdx hne hc
  have hι : (ι ++ [x])[S.length]? = some x := by rw [List.getElem?_append_right (by rw [rh.len] <;> exact Nat.le_refl _), ← rh.len, Nat.sub_self] <;> rfl
  have hargs : RelDs C F (ι ++ [x]) (.ref S.length :: ds) (.ref x :: vs) := ⟨.ref x, vs, rfl, ⟨x, hι, rfl⟩, r.mono n3⟩
  rw [List.append_nil]
  split at e
  · obtain ⟨⟨d2, S2⟩, e1, e⟩ := Option.bind_eq_some_iff.mp e
    dsimp only at e
    split at e
    · rename_i hn
      obtain ⟨y, e2, e⟩ := Option.map_eq_some_iff.mp e
      cases e
      refine ⟨C.tp, F, ι ++ [x], _, _, _, d2, S2, n1, n2, hargs, e1, fun F2 ι2 v H2 l2 rh2 fr2 rv => ⟨isNon_rel (C := C.w C.tp) hn rv, ?_⟩⟩
      have st : Stp S.length S S2 := (Stp.push (Nat.le_refl _) _).trans (evC_stp T j _ _ _ _ _ e1 S.length (Nat.le_refl _) (by rw [List.length_append]; omega))
      exact frz_end (C := C) rh (n3.trans l2) rh2 fr2 st (d := .ref S.length) (v := .ref x) ⟨x, l2.get hι, rfl⟩ e2 fun F' H' l' rh' fr' r' => post F' ι _ H' l' rh' fr' r'
    · cases e
  · obtain ⟨⟨d2, S2⟩, e1, e⟩ := Option.bind_eq_some_iff.mp e
    dsimp only at e
    split at e
    · rename_i hn
      cases e
      refine ⟨C.tp, F, ι ++ [x], _, _, _, d2, S', n1, n2, hargs, e1, fun F2 ι2 v H2 l2 rh2 fr2 rv => ⟨isNon_rel (C := C.w C.tp) hn rv, .here ?_⟩⟩
      exact post F2 ι2 _ H2 (n3.trans l2) rh2 fr2 ⟨x, l2.get hι, rfl⟩
    · cases e
theorem me_make {c : Nat} {fr0 : Bool} (G : ∀ j, k = j + 1 → Gc X.prog X.w X.K X.mg X.base T C j f c x) (hi : T.init c = some (f, fr0)) (hr : Room k X.A) (hg : Gl X x) (ha : MA X C (par T k b) (e :: es) ms) (hdb : (x == ("__debug__" : PySem.Str)) = false := by decide)
    (he : starEach (e :: es) X.env = (false, eval e X.env) :: starEach es X.env := by rfl) (hpl : (backTo pos (starEach es X.env)).any (·.1) = false := by rfl) : ME X C (par T k b) (.Call (.Name x p) (e :: es) [] pos) (.make c ms) := by
  cases k with
  | zero =>
    refine ⟨fun pins s σ H Q I h => ?_⟩
    obtain ⟨F, ι, S, sl, d, S', rs, e, post⟩ := h
    unfold ev at e
    obtain ⟨⟨ds, S1⟩, e1, e⟩ := Option.bind_eq_some_iff.mp e
    obtain ⟨q, e2, e⟩ := Option.bind_eq_some_iff.mp e
    exfalso
    split at e
    · obtain ⟨_, e3, _⟩ := Option.bind_eq_some_iff.mp e
      cases e3
    · obtain ⟨_, e3, _⟩ := Option.bind_eq_some_iff.mp e
      cases e3
  | succ j =>
    obtain ⟨fa, D, fd, ps, hF, hc, hM, hm, hb⟩ := G j rfl
    refine (pe_gh (pe_make hM hF hr hg hm hb .nil pass0 ha hdb he hpl)).imp fun σ H Q h => ?_
    obtain ⟨F, ι, S, sl, d, S', rs, e, post⟩ := h
    unfold ev at e
    obtain ⟨⟨ds, S1⟩, e1, e⟩ := Option.bind_eq_some_iff.mp e
    obtain ⟨q, e2, e⟩ := Option.bind_eq_some_iff.mp e
    have hq : q = (f, fr0) := Option.some.inj (e2.symm.trans hi)
    subst hq
    exact rs.args e1 fun F1 ι1 vs H1 l1 r1 q1 => make_end (q := (f, fr0)) hc r1.rh r1.fr q1 e (post.mono l1)
theorem me_make0 {c : Nat} {fr0 : Bool} (G : ∀ j, k = j + 1 → Gc X.prog X.w X.K X.mg X.base T C j f c x) (hi : T.init c = some (f, fr0)) (hr : Room k X.A) (hg : Gl X x) (hdb : (x == ("__debug__" : PySem.Str)) = false := by decide) : ME X C (par T k b) (.Call (.Name x p) [] [] pos) (.make c []) := by
  cases k with
  | zero =>
    refine ⟨fun pins s σ H Q I h => ?_⟩
    obtain ⟨F, ι, S, sl, d, S', rs, e, post⟩ := h
    unfold ev at e
    obtain ⟨⟨ds, S1⟩, e1, e⟩ := Option.bind_eq_some_iff.mp e
    obtain ⟨q, e2, e⟩ := Option.bind_eq_some_iff.mp e
    exfalso
    split at e
    · obtain ⟨_, e3, _⟩ := Option.bind_eq_some_iff.mp e
      cases e3
    · obtain ⟨_, e3, _⟩ := Option.bind_eq_some_iff.mp e
      cases e3
  | succ j =>
    obtain ⟨fa, D, fd, ps, hF, hc, hM, hm, hb⟩ := G j rfl
    refine (pe_gh (pe_make0 hM hF hr hg hm hb .nil pass0 hdb)).imp fun σ H Q h => ?_
    obtain ⟨F, ι, S, sl, d, S', rs, e, post⟩ := h
    unfold ev evs at e
    obtain ⟨⟨ds, S1⟩, e1, e⟩ := Option.bind_eq_some_iff.mp e
    obtain ⟨q, e2, e⟩ := Option.bind_eq_some_iff.mp e
    have hq : q = (f, fr0) := Option.some.inj (e2.symm.trans hi)
    subst hq
    cases e1
    exact make_end (q := (f, fr0)) (ds := []) (vs := []) hc rs.rh rs.fr rfl e post
end
/-! ### defs -/
theorem pss_gh {X : Cx} {sts : List Stmt} {t : TS} (h : PSs X sts t) : PSs X sts (fun D σ H => t { D with nx := fun σ' H' => Gh H' (D.nx σ'), rt := fun v H' => Gh H' (D.rt v) } σ H) := ⟨fun pins s σ H D I q => by
  refine thn (h.run pins s σ H _ I q) fun f s1 sp => ?_
  cases f with
  | next =>
    obtain ⟨σ', H1, I1, g⟩ := sp
    obtain ⟨H2, I2, q2⟩ := g.run I1
    exact ⟨σ', H2, I2, q2⟩
  | brk => exact sp
  | cont => exact sp
  | ret u =>
    obtain ⟨v, σ', H1, I1, r1, g⟩ := sp
    obtain ⟨H2, I2, q2⟩ := g.run I1
    exact ⟨v, σ', H2, I2, r1, q2⟩⟩
theorem start_rel {C : Ct} {F : Hp} {ι : List Addr} {N : List PySem.Str} {ns : Nat} (hn : ns = N.length) : ∀ {ds : List D} {vs : List V}, RelDs C F ι ds vs → ds.length ≤ N.length → RelSl C F ι (M.start ns ds) (L2.start N vs) := by
  intro ds vs r hl
  have hlen := r.length
  unfold M.start L2.start
  refine ⟨by simp; omega, fun i d h => ?_⟩
  by_cases hi : i < ds.length
  · rw [List.getElem?_append_left (by rw [List.length_map]; exact hi), List.getElem?_map] at h
    obtain ⟨d', h1, h2⟩ := Option.map_eq_some_iff.mp h
    cases h2
    obtain ⟨v, h3, h4⟩ := r.get h1
    exact ⟨v, by rw [List.getElem?_append_left (by rw [List.length_map]; omega), List.getElem?_map, h3] <;> rfl, h4⟩
  · rw [List.getElem?_append_right (by rw [List.length_map]; omega), List.getElem?_replicate] at h
    split at h <;> cases h
theorem fin_gh {C : Ct} {F F2 : Hp} {ι ι2 : List Addr} {S S2 S' : Store} {H H2 : Hp} {d d' : D} {v : V} {Q : VK} {val : Bool} (rh0 : RH C F ι S H) (l : Le F ι F2 ι2) (rh : RH C F2 ι2 S2 H2) (fr : Fre F2 ι2) (st : val = true → Stp S.length S S2) (r : RelD C F2 ι2 d v) (e : fin val S.length d S2 = some (d', S')) (post : Post C F ι S' d' Q) : Gh H2 (Q v) := by
  unfold fin at e
  split at e
  · rename_i hv
    obtain ⟨y, e1, e⟩ := Option.map_eq_some_iff.mp e
    cases e
    exact frz_end rh0 l rh fr (st hv) r e1 fun F' H' l' rh' fr' r' => post F' ι v H' l' rh' fr' r'
  · cases e
    exact .here (post F2 ι2 v H2 l rh fr r)
/-- a def with number f keeps the small interpreter's promise at level k + 1, if its body follows at level k -/
theorem fn_ok {P : Program} {w : World} {K : PySem.W.Frag} {mg : PySem.Str → Option Value} {base : Heap} {T : Tab} {C : Ct} {k f : Nat} {x qual : PySem.Str} {params : Arguments} {body : List Stmt} {scope : Scope} {fa : Addr} {fdt : FuncData} {N ps : List PySem.Str} {fd : Fd}
    (F : FunD K x qual params body scope [] [] fa fdt) (Sc : FnScope N ps scope) (hT : T.fn f = some fd) (hnp : fd.np = ps.length) (hns : fd.ns = N.length) (hle : ps.length ≤ N.length)
    (hbody : ∀ (tp : Hp) (b : Nat) (cdv : Value) (A : Around) (outer : List Env) (s : Shared) (H : Hp) (E : XK), Room k (A.deeper (envOfC qual scope s.heap.objs.size fa cdv)) →
      MSs (cxOf CX0 P w K mg base N qual scope fa cdv A outer s H E).nox (C.w tp) (par T k b) body fd.body) : FnOk P w K mg base CX0 (k + 1) fa fdt ps (spE T C (k + 1) f) := by
  refine F.ok Sc (fun vs H Q E h => ?_) (fun cdv A outer s H vs Q E hr h => ?_)
  · obtain ⟨tp, Ff, ι, S, base, ds, d, S', rh, fr, r, e, post⟩ := h
    unfold evC at e
    obtain ⟨fd', e1, e⟩ := Option.bind_eq_some_iff.mp e
    cases hT.symm.trans e1
    split at e
    · rename_i hl
      rw [← r.length, hl, hnp]
    · cases e
  · obtain ⟨tp, Ff, ι, S, bs, ds, d, S', rh, fr, r, e, post⟩ := h
    unfold evC at e
    obtain ⟨fd', e1, e⟩ := Option.bind_eq_some_iff.mp e
    cases hT.symm.trans e1
    split at e
    · rename_i hl
      obtain ⟨⟨fl, sl2, S2⟩, e2, e⟩ := Option.bind_eq_some_iff.mp e
      have rD : RelDs (C.w tp) Ff ι ds vs := r
      have rs : RS (C.w tp) Ff ι (M.start fd.ns ds) S (L2.start N vs) H := ⟨rh, fr, start_rel hns rD (by rw [hl, hnp]; exact hle)⟩
      have post' : Post (C.w tp) Ff ι S' d Q := fun F' ι' v H' l rh' fr' r' => post F' ι' v H' l rh' fr' r'
      have st : fd.val = true → Stp S.length S S2 := fun hv => execs_stp (P := par T k (if fd.val then S.length else bs)) (par_stp T k _).1 (par_stp T k _).2 fd.body _ S _ e2 S.length (by
        show S.length ≤ (if fd.val then S.length else bs)
        rw [if_pos hv] <;> exact Nat.le_refl _) (Nat.le_refl _)
      refine ⟨_, PSs.nox (pss_gh (hbody tp (if fd.val then S.length else bs) cdv A outer s H E hr)), rs.sts e2 ?_⟩
      cases fl with
      | nx => exact fun F' ι' σ' H' l rs' => fin_gh (d := .b .non) rh l rs'.rh rs'.fr st rfl e post'
      | ct => cases e
      | rt d2 => exact fun F' ι' v H' l rh' fr' r' => fin_gh rh l rh' fr' st r' e post'
    · cases e
/-- level 0: nothing is asked -/
theorem fn_zero {P : Program} {w : World} {K : PySem.W.Frag} {mg : PySem.Str → Option Value} {base : Heap} {T : Tab} {C : Ct} {f : Nat} {fa : Addr} {fdt : FuncData} {ps : List PySem.Str} : FnOk P w K mg base CX0 0 fa fdt ps (spE T C 0 f) := by
  refine ⟨fun vs H Q E h => ?_, fun A outer s H args us vs Q E hr he hb hv h => ?_⟩
  · obtain ⟨tp, Ff, ι, S, bs, ds, d, S', rh, fr, r, e, post⟩ := h
    cases e
  · obtain ⟨tp, Ff, ι, S, bs, ds, d, S', rh, fr, r, e, post⟩ := h
    cases e
end M
/-! MC16: rules in short; the law's end. -/
namespace M
open PySem PySem.Spec PyProof.Rows L2
/-- names of built-ins that the module leaves alone -/
structure Fr (mg : PySem.Str → Option Value) : Prop where
  range : mg "range" = none
  len : mg "len" = none
  sum : mg "sum" = none
  int : mg "int" = none
  sorted : mg "sorted" = none
  tuple : mg "tuple" = none
  list : mg "list" = none
  dict : mg "dict" = none
  min : mg "min" = none
  max : mg "max" = none
  all : mg "all" = none
  any : mg "any" = none
  isinstance : mg "isinstance" = none
  reversed : mg "reversed" = none
  zip : mg "zip" = none
  bool : mg "bool" = none
section
variable {X : Cx} {C : Ct} {P : Par} {pos p : Pos} {a b e : Expr} {ma mb me' : E} {x : PySem.Str} {m : Bool}
theorem me_gint' {i : Int} (hm : ∃ t, X.mg x = some (.int i t)) (hg : Gl X x := by rfl) (hd : (x == ("__debug__" : PySem.Str)) = false := by decide) : ME X C P (.Name x pos) (.k (.int i)) := by
  obtain ⟨t, h⟩ := hm
  exact me_gint hg h hd
theorem me_gstr' (n : Nat) {y : PySem.Str} (hm : ∃ t, X.mg x = some (.str y t)) (h : C.N.txts[n]? = some y := by rfl) (hg : Gl X x := by rfl) (hd : (x == ("__debug__" : PySem.Str)) = false := by decide) : ME X C P (.Name x pos) (.k (.str n)) := by
  obtain ⟨t, h'⟩ := hm
  exact me_gstr n hg h' h hd
section
variable (hK : C.K = X.K) (fr : Fr X.mg) (hc : X.calm = true)
theorem me_len (hK : C.K = X.K) (fr : Fr X.mg) (ha : ME X C P a ma) (hg : Gl X "len" := by rfl) (hs : starEach [a] X.env = (false, eval a X.env) :: starEach [] X.env := by rfl) : ME X C P (.Call (.Name "len" p) [a] [] pos) (.bi .len false [ma]) :=
  me_cb .len (br_len hK) cr_len hg fr.len boot_len (ma_cons ha ma_nil hs) (by decide) (by decide) hs rfl
theorem me_toint (fr : Fr X.mg) (ha : ME X C P a ma) (hg : Gl X "int" := by rfl) (hs : starEach [a] X.env = (false, eval a X.env) :: starEach [] X.env := by rfl) : ME X C P (.Call (.Name "int" p) [a] [] pos) (.bi .int false [ma]) :=
  me_ct .int br_int call_int1 hg fr.int boot_int (ma_cons ha ma_nil hs) (by decide) (by decide) hs rfl
theorem me_sum (hK : C.K = X.K) (fr : Fr X.mg) (hc : X.calm = true) (ha : ME X C P a ma) (hg : Gl X "sum" := by rfl) (hs : starEach [a] X.env = (false, eval a X.env) :: starEach [] X.env := by rfl) : ME X C P (.Call (.Name "sum" p) [a] [] pos) (.bi .sum false [ma]) :=
  me_cb .sum (br_sum hK) (cr_sumA hc) hg fr.sum boot_sum (ma_cons ha ma_nil hs) (by decide) (by decide) hs rfl
theorem me_min1 (hK : C.K = X.K) (fr : Fr X.mg) (hc : X.calm = true) (ha : ME X C P a ma) (hg : Gl X "min" := by rfl) (hs : starEach [a] X.env = (false, eval a X.env) :: starEach [] X.env := by rfl) : ME X C P (.Call (.Name "min" p) [a] [] pos) (.bi .min1 false [ma]) :=
  me_cb .min1 (br_min hK) (cr_minA hc) hg fr.min boot_min (ma_cons ha ma_nil hs) (by decide) (by decide) hs rfl
theorem me_max1 (hK : C.K = X.K) (fr : Fr X.mg) (hc : X.calm = true) (ha : ME X C P a ma) (hg : Gl X "max" := by rfl) (hs : starEach [a] X.env = (false, eval a X.env) :: starEach [] X.env := by rfl) : ME X C P (.Call (.Name "max" p) [a] [] pos) (.bi .max1 false [ma]) :=
  me_cb .max1 (br_max hK) (cr_max hc) hg fr.max boot_max (ma_cons ha ma_nil hs) (by decide) (by decide) hs rfl
theorem me_min2 (fr : Fr X.mg) (hc : X.calm = true) (ha : ME X C P a ma) (hb : ME X C P b mb) (hg : Gl X "min" := by rfl) (hs : starEach [a, b] X.env = (false, eval a X.env) :: starEach [b] X.env := by rfl) (hs2 : starEach [b] X.env = (false, eval b X.env) :: starEach [] X.env := by rfl) (hpl : (backTo pos (starEach [b] X.env)).any (·.1) = false := by rfl) : ME X C P (.Call (.Name "min" p) [a, b] [] pos) (.bi .min2 false [ma, mb]) :=
  me_cb .min2 br_min2 (call_min2 hc) hg fr.min boot_min (ma_cons ha (ma_cons hb ma_nil hs2) hs) (by decide) (by decide) hs hpl
theorem me_max2 (fr : Fr X.mg) (hc : X.calm = true) (ha : ME X C P a ma) (hb : ME X C P b mb) (hg : Gl X "max" := by rfl) (hs : starEach [a, b] X.env = (false, eval a X.env) :: starEach [b] X.env := by rfl) (hs2 : starEach [b] X.env = (false, eval b X.env) :: starEach [] X.env := by rfl) (hpl : (backTo pos (starEach [b] X.env)).any (·.1) = false := by rfl) : ME X C P (.Call (.Name "max" p) [a, b] [] pos) (.bi .max2 false [ma, mb]) :=
  me_cb .max2 br_max2 (call_max2 hc) hg fr.max boot_max (ma_cons ha (ma_cons hb ma_nil hs2) hs) (by decide) (by decide) hs hpl
theorem me_sorted (m : Bool) (hK : C.K = X.K) (fr : Fr X.mg) (hc : X.calm = true) (ha : ME X C P a ma) (hg : Gl X "sorted" := by rfl) (hs : starEach [a] X.env = (false, eval a X.env) :: starEach [] X.env := by rfl) : ME X C P (.Call (.Name "sorted" p) [a] [] pos) (.bi .sorted m [ma]) :=
  me_cb .sorted (br_sorted hK) (cr_sortedA hc) hg fr.sorted boot_sorted (ma_cons ha ma_nil hs) (by decide) (by decide) hs rfl
theorem me_tuple (hK : C.K = X.K) (fr : Fr X.mg) (ha : ME X C P a ma) (hg : Gl X "tuple" := by rfl) (hs : starEach [a] X.env = (false, eval a X.env) :: starEach [] X.env := by rfl) : ME X C P (.Call (.Name "tuple" p) [a] [] pos) (.bi .tuple false [ma]) :=
  me_ct .tuple (br_tuple hK) call_tuple_of hg fr.tuple boot_tuple (ma_cons ha ma_nil hs) (by decide) (by decide) hs rfl
theorem me_list (m : Bool) (hK : C.K = X.K) (fr : Fr X.mg) (hc : X.calm = true) (ha : ME X C P a ma) (hg : Gl X "list" := by rfl) (hs : starEach [a] X.env = (false, eval a X.env) :: starEach [] X.env := by rfl) : ME X C P (.Call (.Name "list" p) [a] [] pos) (.bi .list m [ma]) :=
  me_ct .list (br_list hK) (cr_listA hc) hg fr.list boot_list (ma_cons ha ma_nil hs) (by decide) (by decide) hs rfl
theorem me_dict (m : Bool) (hK : C.K = X.K) (fr : Fr X.mg) (hc : X.calm = true) (ha : ME X C P a ma) (hg : Gl X "dict" := by rfl) (hs : starEach [a] X.env = (false, eval a X.env) :: starEach [] X.env := by rfl) : ME X C P (.Call (.Name "dict" p) [a] [] pos) (.bi .dict m [ma]) :=
  me_ct .dict (br_dict hK) (cr_dictA hc) hg fr.dict boot_dict (ma_cons ha ma_nil hs) (by decide) (by decide) hs rfl
theorem me_all (hK : C.K = X.K) (fr : Fr X.mg) (hc : X.calm = true) (ha : ME X C P a ma) (hg : Gl X "all" := by rfl) (hs : starEach [a] X.env = (false, eval a X.env) :: starEach [] X.env := by rfl) : ME X C P (.Call (.Name "all" p) [a] [] pos) (.bi .all false [ma]) :=
  me_cb .all (br_all hK) (cr_all hc) hg fr.all boot_all (ma_cons ha ma_nil hs) (by decide) (by decide) hs rfl
theorem me_any (hK : C.K = X.K) (fr : Fr X.mg) (hc : X.calm = true) (ha : ME X C P a ma) (hg : Gl X "any" := by rfl) (hs : starEach [a] X.env = (false, eval a X.env) :: starEach [] X.env := by rfl) : ME X C P (.Call (.Name "any" p) [a] [] pos) (.bi .any false [ma]) :=
  me_cb .any (br_any hK) (cr_any hc) hg fr.any boot_any (ma_cons ha ma_nil hs) (by decide) (by decide) hs rfl
end
end
/-- what is never reached -/
theorem me_nev {X : Cx} {C : Ct} {P : Par} {e : Expr} : ME X C P e .nev := ⟨fun pins s σ H Q I h => by
  obtain ⟨F, ι, S, sl, d, S', rs, e, post⟩ := h
  cases e⟩
theorem ms_nev {X : Cx} {C : Ct} {P : Par} {st : Stmt} : MS X C P st (.ex .nev) := ⟨fun pins s σ H D I h => by
  obtain ⟨F, ι, S, sl, r, rs, e, post⟩ := h
  cases e⟩
/-- the world of a def's body -/
structure Wo (K : PySem.W.Frag) (C : Ct) (fo : Nat → Nat → Bool) : Prop where
  hK : C.K = K
  cls : ∀ c D, C.cl c = some D → Cls K D
  noat : ∀ c D f x, C.cl c = some D → fo c f = true → C.N.flds[f]? = some x → NoAttr K D x
theorem Wo.wd {X : Cx} {C : Ct} {fo : Nat → Nat → Bool} (w : Wo X.K C fo) {k : Nat} (hr : Room k X.A) (hc : X.calm = true) : Wd X C fo := ⟨w.hK, by have := hr.un; omega, hc, w.cls, w.noat⟩
theorem hu_room {X : Cx} {k : Nat} (hr : Room k X.A) : X.A.units + 66 < cLine := by have := hr.un; omega
/-! ### the law's end -/
theorem sp_law {T : Tab} {C : Ct} {k f : Nat} {a : Addr} {ns : List Int} {H : Hp} (hO : L2.Only H) (hS : SqL C.K H a (ns.map V.int)) {d : D} {S' : Store} (e : evC T k 0 f [.b (.scr (ns.map B.int))] [] = some (d, S')) (hd : d = .b (.bl true)) : spE T C k f [.ref a] H (fun v _ => v = .bl true) fun _ _ _ => False := by
  refine ⟨fun _ => none, H, [], [], 0, [.b (.scr (ns.map B.int))], d, S', ⟨fun _ _ h => h, rfl, List.nodup_nil, fun n a o h => by simp at h, fun _ _ h => by cases h⟩, fun a h => (nomatch h), ⟨.ref a, [], rfl, ⟨a, _, rfl, hS, RelBs.of_ints⟩, rfl⟩, e, fun F' ι' v H' _ _ _ r => ?_⟩
  rw [hd] at r
  exact r
theorem walk_law {l : PySem.W.OpenLaw} {n k : Nat} {q : Program} {loose : List PySem.Str} {XP : (PySem.Str → Option Value) → Heap → Prop} {YP : World → Heap → Prop} {d : DefRec} {x : PySem.Str} {T : Tab} {Cf : PySem.W.Frag → Ct} {f : Nat}
    (hn : l.most = some n) (hn2 : n ≤ sizeLine) (hdf : d.params.defaults = []) (hr : Room k callerA) (hCf : ∀ K, (Cf K).K = K)
    (F : ∀ (w : World) (mg : PySem.Str → Option Value) (fa : Addr) (h : Heap), YP w h → h.Ns mainGlobals mg → mg d.name = some (.ref fa) →
      ∃ (K : PySem.W.Frag) (fd : FuncData), K.In h ∧ (∀ (s : Shared) (u : Value), BindsTo s fd ⟨[u], []⟩ [(x, u)]) ∧
        ∀ base : Heap, K.In base → base.Ns mainGlobals mg → FnOk l.prog w K mg base CX0 k fa fd [x] (spE T (Cf K) k f))
    (law : ∀ ns : List Int, ns.length ≤ n → (∀ i ∈ ns, PySem.Builtin.Int.intBits i ≤ 1048576) → ∃ S', evC T k 0 f [.b (.scr (ns.map B.int))] [] = some (.b (.bl true), S')) :
    PySem.W.WalkO q loose XP YP l.row.toRowW d [] (fun f vs => PySem.call f vs) := by
  refine Att.attach_callB hn hdf fun w s₀ s₁ mg mb fa o pm cd doc a vs ns G Y ho hd hcd hmg hobj hints hlen hbits hg => ?_
  obtain ⟨K, fd, KX, hb, hF⟩ := F w mg fa _ Y G.T.g hmg
  obtain ⟨S', e⟩ := law ns hlen hbits
  exact law_call KX G.T.g G.T.b G.T.builtins G.T.nolimit hg hobj hints (Nat.le_trans hlen hn2) hr hF hb (fun H hO hS => sp_law hO ((hCf K).symm ▸ hS) e rfl) fun _ _ _ z => z
end M
namespace M
theorem Wo.w {K : PySem.W.Frag} {C : Ct} {fo : Nat → Nat → Bool} (h : Wo K C fo) (tp : L2.Hp) : Wo K (C.w tp) fo := ⟨h.hK, h.cls, h.noat⟩
end M
/-! MCZ: zip of a reversed list and a list or a tuple. -/
namespace M
open PySem PySem.Spec PyProof.Rows L2
open PySem.Sem (wp)
/-- what is walked inside a zip: a list, a tuple, a list of n items from its end -/
inductive Sd
  | l
  | t
  | r (n : Nat)
namespace Sd
def sq (K : PySem.W.Frag) : Sd → Hp → Addr → List V → Prop
  | .t, H, a, xs => SqT K H a xs
  | _, H, a, xs => SqL K H a xs
def ix {α : Type} : Sd → List α → Nat → Option α
  | .r n, xs, i => if i < n then xs[n - 1 - i]? else none
  | _, xs, i => xs[i]?
def en {α : Type} : Sd → List α → Nat → Prop
  | .r n, _, i => n ≤ i
  | _, xs, i => xs.length ≤ i
/-- the iterator's state ahead of turn i -/
def st : Sd → Addr → Addr → Nat → Heap → Prop
  | .l, it, a, i, h => h.IsListIter it a i
  | .t, it, a, i, h => h.IsTupleIter it a i
  | .r n, it, a, i, h => i ≤ n ∧ h.IsRevIter it a ((n : Int) - 1 - (i : Nat))
def src : Sd → Heap → Addr → List Value → Prop
  | .t, h, a, xs => h.IsTuple a xs.toArray
  | _, h, a, xs => h.IsList a xs.toArray
theorem st_keep {k : Sd} {it a : Addr} {i : Nat} {h h' : Heap} (s : k.st it a i h) (e : ∀ o, h.get? it = some o → h'.get? it = some o) : k.st it a i h' := by
  cases k with
  | l => exact s.at e
  | t => exact s.at e
  | r n => exact ⟨s.1, s.2.at e⟩
theorem src_keep {k : Sd} {a : Addr} {xs : List Value} {h h' : Heap} (s : k.src h a xs) (e : ∀ o, h.get? a = some o → h'.get? a = some o) : k.src h' a xs := by
  cases k with
  | l => obtain ⟨o, q, r⟩ := s; exact ⟨o, e _ q, r⟩
  | t => obtain ⟨o, q, r⟩ := s; exact ⟨o, e _ q, r⟩
  | r n => obtain ⟨o, q, r⟩ := s; exact ⟨o, e _ q, r⟩
theorem st_obj {k : Sd} {it a : Addr} {i : Nat} {h : Heap} (s : k.st it a i h) : ∃ o, h.get? it = some o ∧ ∀ v, o.data ≠ .cell v := by
  cases k with
  | l => obtain ⟨o, e, _, d⟩ := s; exact ⟨o, e, fun v q => by rw [d] at q; cases q⟩
  | t => obtain ⟨o, e, _, d⟩ := s; exact ⟨o, e, fun v q => by rw [d] at q; cases q⟩
  | r n => obtain ⟨_, o, e, _, d⟩ := s; exact ⟨o, e, fun v q => by rw [d] at q; cases q⟩
end Sd
section
variable {prog : Program} {w : World} {A : Around} {E : Value → Shared → Prop} {s : Shared}
theorem rvn_item {it l : Addr} {i : Nat} {items : Array Value} {x : Value} {Q : Value → Shared → Prop} (hit : s.heap.IsRevIter it l (i : Int)) (hl : s.heap.IsList l items) (hx : items[i]? = some x)
    (hQ : ∀ h', h'.IsRevIter it l ((i : Int) - 1) → Heap.SameBut it s.heap h' → Q x { s with heap := h' }) : wpAny (model prog w) A (Builtin.SmallTypes.nextOf (.ref it)) Q E s := by
  obtain ⟨oI, hI, kI, dI⟩ := id hit
  obtain ⟨oL, hL, _, nL, dL⟩ := hl
  unfold Builtin.SmallTypes.nextOf
  refine wpAny_bind (wpAny_callSpecial?_slot (name := Str.ofString "__next__") hit.typeIs F.slot_lri_next
    (wpAny_call_entry F.slot_lri_next hit.typeIs F.entry_lri_next ?_ (F.args_lri_next_1 _)))
  unfold Builtin.«list_reverseiterator.__next__»
  refine wpAny_bind (wpAny_of_eq (a := (Value.ref it, [])) rfl ?_)
  try dsimp only
  refine wpAny_bind (wpAny_field hI dI (x := rawInt (i : Int)) rfl ?_)
  show wpAny _ _ (if (i : Int) < 0 then _ else _) _ _ s
  rw [if_neg (by omega)]
  show wpAny _ _ (field (.ref it) 0 >>= _) _ _ s
  refine wpAny_bind (wpAny_field hI dI (x := .ref l) rfl ?_)
  show wpAny _ _ (seqItems? (.ref l) >>= _) _ _ s
  refine wpAny_bind (wpAny_seqItems hL dL ?_)
  simp only [Int.toNat_natCast, hx]
  refine wpAny_bind (wpAny_setField hI dI (by simp) ?_)
  refine wpAny_pure ⟨x, rfl, wpAny_pure (hQ _ ?_ (Heap.SameBut.update ..))⟩
  exact ⟨_, Heap.get?_update_self _ hI (Obj.isFreed_of_fields (Obj.data_mapFields dI _)), (Obj.cls_mapFields ..).trans kI, by
    rw [Obj.data_mapFields dI]; simp⟩
theorem rvn_end {it l : Addr} {Q : Value → Shared → Prop} (hh : A.handled = none) (hit : s.heap.IsRevIter it l (-1))
    (hE : ∀ h' e, Heap.ExtBut it s.heap h' → (∃ o, h'.get? e = some o ∧ o.cls = .type "StopIteration") → E (.ref e) { s with heap := h' }) : wpAny (model prog w) A (Builtin.SmallTypes.nextOf (.ref it)) Q E s := by
  obtain ⟨oI, hI, kI, dI⟩ := id hit
  unfold Builtin.SmallTypes.nextOf
  refine wpAny_bind (wpAny_callSpecial?_slot (name := Str.ofString "__next__") hit.typeIs F.slot_lri_next
    (wpAny_call_entry F.slot_lri_next hit.typeIs F.entry_lri_next ?_ (F.args_lri_next_1 _)))
  unfold Builtin.«list_reverseiterator.__next__»
  refine wpAny_bind (wpAny_of_eq (a := (Value.ref it, [])) rfl ?_)
  try dsimp only
  refine wpAny_bind (wpAny_field hI dI (x := rawInt (-1)) rfl ?_)
  show wpAny _ _ (if (-1 : Int) < 0 then _ else _) _ _ s
  rw [if_pos (by decide)]
  refine wpAny_bind (wpAny_rule ?_)
  first
  | show wpAny _ _ (newExc (.type "StopIteration") [] >>= _) _ _ _
  | (refine wpAny_bind ?_; show wpAny _ _ (newExc (.type "StopIteration") [] >>= _) _ _ _)
  refine wpAny_bind ?_
  simp only [newExc, newTuple]
  refine wpAny_bind (wpAny_newObj_type ?_ (by size_fits))
  refine wpAny_bind (m := firstArgMember _ _) (wpAny_of_eq (a := Value.none) (by first | rfl | (simp only [firstArgMember]; rfl)) ?_)
  refine wpAny_newObj_type ?_ (by size_fits)
  simp only [raiseNew]
  refine wpAny_bind (wpAny_handled ?_)
  first | rw [show A.in1.handled = none from hh] | rw [hh]
  refine wpAny_bind (wpAny_pure (wpAny_throw ?_))
  exact hE _ _ (((Heap.ExtBut.refl _ _).push _).push _) ⟨_, Heap.get?_push_size _ rfl, rfl⟩
theorem Sd.item {k : Sd} {it a : Addr} {i : Nat} {xs : List Value} {x : Value} {Q : Value → Shared → Prop} (st : k.st it a i s.heap) (sr : k.src s.heap a xs) (hx : k.ix xs i = some x)
    (hQ : ∀ h', k.st it a (i + 1) h' → Heap.SameBut it s.heap h' → Q x { s with heap := h' }) : wpAny (model prog w) A (Builtin.SmallTypes.nextOf (.ref it)) Q E s := by
  cases k with
  | l => exact wpAny_nextOf_list_item st sr (by simpa [Sd.ix] using hx) hQ
  | t => exact RZ.nextOf_tuple_item st sr (by simpa [Sd.ix] using hx) hQ
  | r n =>
    obtain ⟨hi, st⟩ := st
    have hx : (if i < n then xs[n - 1 - i]? else none) = some x := hx
    split at hx
    · rename_i hin
      have e1 : (n : Int) - 1 - ((i : Nat) : Int) = ((n - 1 - i : Nat) : Int) := by omega
      rw [e1] at st
      refine rvn_item st sr (by simpa using hx) fun h' st' sb => hQ h' ⟨hin, ?_⟩ sb
      have e2 : ((n - 1 - i : Nat) : Int) - 1 = (n : Int) - 1 - ((i + 1 : Nat) : Int) := by omega
      rw [e2] at st'
      exact st'
    · cases hx
theorem Sd.done {k : Sd} {it a : Addr} {i : Nat} {xs : List Value} {Q : Value → Shared → Prop} (hh : A.handled = none) (st : k.st it a i s.heap) (sr : k.src s.heap a xs) (hx : k.en xs i)
    (hE : ∀ h' e, Heap.ExtBut it s.heap h' → (∃ o, h'.get? e = some o ∧ o.cls = .type "StopIteration") → E (.ref e) { s with heap := h' }) : wpAny (model prog w) A (Builtin.SmallTypes.nextOf (.ref it)) Q E s := by
  cases k with
  | l => exact wpAny_nextOf_list_end hh st sr (by simpa [Sd.en] using hx) hE
  | t => exact RZ.nextOf_tuple_end hh st sr (by simpa [Sd.en] using hx) hE
  | r n =>
    obtain ⟨hi, st⟩ := st
    have hx : n ≤ i := hx
    have e1 : (n : Int) - 1 - ((i : Nat) : Int) = -1 := by omega
    rw [e1] at st
    exact rvn_end hh st hE
theorem zpg_item {k1 k2 : Sd} {z TI TO i1 i2 l1 l2 : Addr} {i : Nat} {xs ys : List Value} {x y a b : Value} {Q : Value → Shared → Prop} (D : ZipApart z TI TO i1 i2 l1 l2)
    (oZ : IsZip s.heap z TI TO .none) (oI : IsPair s.heap TI (.ref i1) (.ref i2)) (oO : IsPair s.heap TO a b)
    (t1 : k1.st i1 l1 i s.heap) (t2 : k2.st i2 l2 i s.heap) (r1 : k1.src s.heap l1 xs) (r2 : k2.src s.heap l2 ys) (hx : k1.ix xs i = some x) (hy : k2.ix ys i = some y)
    (hQ : ∀ h', IsZip h' z TI TO (rawInt s.heap.objs.size) → IsPair h' TO x y → k1.st i1 l1 (i + 1) h' → k2.st i2 l2 (i + 1) h' → IsPair h' s.heap.objs.size x y → h'.objs.size = s.heap.objs.size + 1 →
      (∀ c o, c ≠ z → c ≠ TO → c ≠ i1 → c ≠ i2 → s.heap.get? c = some o → h'.get? c = some o) → Q (.ref s.heap.objs.size) { s with heap := h' }) :
    wpAny (model prog w) A (Builtin.«zip.__next__» ⟨[.ref z], []⟩) (fun fin s' => ∃ v, fin = .done (.ret v) ∧ Q v s') E s := by
  show wpAny _ _ (field (.ref z) 2 >>= _) _ _ _
  refine wpAny_bind (wpAny_field oZ rfl (x := .bool false) rfl ?_)
  show wpAny _ _ (field (.ref z) 3 >>= _) _ _ _
  refine wpAny_bind (wpAny_field oZ rfl (x := .ref TI) rfl ?_)
  refine wpAny_bind (wpAny_seqItems oI rfl ?_)
  show wpAny _ _ (Builtin.SmallTypes.ownedTupleIsFree (.ref z) >>= _) _ _ _
  refine wpAny_bind ?_
  unfold Builtin.SmallTypes.ownedTupleIsFree
  refine wpAny_bind (wpAny_field oZ rfl (x := .none) rfl (wpAny_pure ?_))
  simp only [if_true]
  refine wpAny_bind (wpAny_rule ?_)
  refine wpAny_bind (wpAny_field oZ rfl (x := .ref TO) rfl ?_)
  refine wpAny_bind (wpAny_setField_rec oZ (by simp) fun h₁ oZ1 s1 => ?_)
  replace oZ1 : IsZip h₁ z TI TO .ellipsis := oZ1
  refine wpAny_bind ?_
  simp only [List.zipIdx_cons, List.zipIdx_nil, List.forIn_cons, List.forIn_nil]

  refine wpAny_bind (wpAny_bind (wpAny_onRaise ?_))
  show wpAny _ _ (Builtin.SmallTypes.nextOf (.ref i1) >>= _) _ _ _
  refine wpAny_bind (Sd.item (k := k1) (Sd.st_keep t1 fun o e => s1.extBut _ _ D.i1z e) (Sd.src_keep r1 fun o e => s1.extBut _ _ D.l1z e) hx fun h₂ t12 s2 => wpAny_pure ?_)
  have oO2 : IsPair h₂ TO a b := s2.extBut _ _ D.TOi1 (s1.extBut _ _ D.TOz oO)
  refine wpAny_bind (wpAny_seqItems oO2 rfl ?_)
  refine wpAny_bind (wpAny_updateSeq_pair oO2 fun h₃ oO3 s3 => ?_)
  replace oO3 : IsPair h₃ TO x b := oO3
  refine wpAny_bind (wpAny_letGo (wpAny_pure ?_))

  refine wpAny_bind (wpAny_bind (wpAny_onRaise ?_))
  show wpAny _ _ (Builtin.SmallTypes.nextOf (.ref i2) >>= _) _ _ _
  refine wpAny_bind (Sd.item (k := k2) (Sd.st_keep t2 fun o e => s3.extBut _ _ D.TOi2.symm (s2.extBut _ _ D.i12.symm (s1.extBut _ _ D.i2z e)))
    (Sd.src_keep r2 fun o e => s3.extBut _ _ D.l2TO (s2.extBut _ _ D.l2i1 (s1.extBut _ _ D.l2z e))) hy fun h₄ t24 s4 => wpAny_pure ?_)
  have oO4 : IsPair h₄ TO x b := s4.extBut _ _ D.TOi2 oO3
  refine wpAny_bind (wpAny_seqItems oO4 rfl ?_)
  refine wpAny_bind (wpAny_updateSeq_pair oO4 fun h₅ oO5 s5 => ?_)
  replace oO5 : IsPair h₅ TO x y := oO5
  refine wpAny_bind (wpAny_letGo (wpAny_pure (wpAny_pure ?_)))

  refine wpAny_bind (wpAny_seqItems oO5 rfl ?_)
  refine wpAny_bind (wpAny_newTuple ?_)
  have zz : h₅.objs.size = s.heap.objs.size := by rw [s5.1, s4.1, s3.1, s2.1, s1.1]
  have oZ5 : IsZip h₅ z TI TO .ellipsis := s5.extBut _ _ D.TOz.symm (s4.extBut _ _ D.i2z.symm (s3.extBut _ _ D.TOz.symm (s2.extBut _ _ D.i1z.symm oZ1)))
  have keep5 : ∀ c o, c ≠ z → c ≠ TO → c ≠ i1 → c ≠ i2 → s.heap.get? c = some o → h₅.get? c = some o := fun c o c1 c2 c3 c4 e =>
    s5.extBut _ _ c2 (s4.extBut _ _ c4 (s3.extBut _ _ c2 (s2.extBut _ _ c3 (s1.extBut _ _ c1 e))))
  have t15 : k1.st i1 l1 (i + 1) h₅ := Sd.st_keep t12 fun o e => s5.extBut _ _ D.TOi1.symm (s4.extBut _ _ D.i12 (s3.extBut _ _ D.TOi1.symm e))
  have t25 : k2.st i2 l2 (i + 1) h₅ := Sd.st_keep t24 fun o e => s5.extBut _ _ D.TOi2.symm e
  have zlt : z < h₅.objs.size := Heap.lt_size oZ5
  show wpAny _ _ (Builtin.SmallTypes.ownedTupleHandOut (.ref z) (.ref h₅.objs.size) >>= _) _ _ _
  refine wpAny_bind ?_
  unfold Builtin.SmallTypes.ownedTupleHandOut
  have oZ6 : IsZip (h₅.push { cls := .type "tuple", data := .seq #[x, y] }) z TI TO .ellipsis := Heap.get?_push_of_some _ oZ5
  refine wpAny_bind (wpAny_setField_rec oZ6 (by simp) fun h₇ oZ7 s7 => ?_)
  replace oZ7 : IsZip h₇ z TI TO (rawInt h₅.objs.size) := oZ7
  refine wpAny_setField_rec oZ7 (by simp) fun h₈ oZ8 s8 => ?_
  replace oZ8 : IsZip h₈ z TI TO (rawInt h₅.objs.size) := oZ8
  have up : ∀ c o, c ≠ z → h₅.get? c = some o → h₈.get? c = some o := fun c o c1 e => s8.extBut _ _ c1 (s7.extBut _ _ c1 (Heap.get?_push_of_some _ e))
  have new8 : IsPair h₈ h₅.objs.size x y := s8.extBut _ _ (Nat.ne_of_gt zlt) (s7.extBut _ _ (Nat.ne_of_gt zlt) (Heap.get?_push_size _ rfl))
  have zz8 : h₈.objs.size = h₅.objs.size + 1 := by rw [s8.1, s7.1, Heap.size_push]
  rw [zz] at oZ8 new8 zz8
  refine wpAny_pure ⟨_, rfl, ?_⟩
  show Q (.ref h₅.objs.size) _
  rw [zz]
  exact hQ h₈ oZ8 (up _ _ D.TOz oO5) (Sd.st_keep t15 fun o e => up _ o D.i1z e) (Sd.st_keep t25 fun o e => up _ o D.i2z e) new8 zz8 fun c o c1 c2 c3 c4 e => up c o c1 (keep5 c o c1 c2 c3 c4 e)
theorem zpg_end {k1 k2 : Sd} {z TI TO i1 i2 l1 l2 : Addr} {i : Nat} {xs ys : List Value} {a b : Value} {Q : Fin → Shared → Prop} (hh : A.handled = none) (D : ZipApart z TI TO i1 i2 l1 l2)
    (oZ : IsZip s.heap z TI TO .none) (oI : IsPair s.heap TI (.ref i1) (.ref i2)) (oO : IsPair s.heap TO a b)
    (t1 : k1.st i1 l1 i s.heap) (t2 : k2.st i2 l2 i s.heap) (r1 : k1.src s.heap l1 xs) (r2 : k2.src s.heap l2 ys) (hend : k1.en xs i ∨ ((∃ x, k1.ix xs i = some x) ∧ k2.en ys i))
    (hE : ∀ h' e, (∀ c o, c ≠ z → c ≠ TO → c ≠ i1 → c ≠ i2 → s.heap.get? c = some o → h'.get? c = some o) → (∃ o, h'.get? e = some o ∧ o.cls = .type "StopIteration") → E (.ref e) { s with heap := h' }) :
    wpAny (model prog w) A (Builtin.«zip.__next__» ⟨[.ref z], []⟩) Q E s := by
  show wpAny _ _ (field (.ref z) 2 >>= _) _ _ _
  refine wpAny_bind (wpAny_field oZ rfl (x := .bool false) rfl ?_)
  show wpAny _ _ (field (.ref z) 3 >>= _) _ _ _
  refine wpAny_bind (wpAny_field oZ rfl (x := .ref TI) rfl ?_)
  refine wpAny_bind (wpAny_seqItems oI rfl ?_)
  show wpAny _ _ (Builtin.SmallTypes.ownedTupleIsFree (.ref z) >>= _) _ _ _
  refine wpAny_bind ?_
  unfold Builtin.SmallTypes.ownedTupleIsFree
  refine wpAny_bind (wpAny_field oZ rfl (x := .none) rfl (wpAny_pure ?_))
  simp only [if_true]
  refine wpAny_bind (wpAny_rule ?_)
  refine wpAny_bind (wpAny_field oZ rfl (x := .ref TO) rfl ?_)
  refine wpAny_bind (wpAny_setField_rec oZ (by simp) fun h₁ oZ1 s1 => ?_)
  replace oZ1 : IsZip h₁ z TI TO .ellipsis := oZ1
  refine wpAny_bind ?_
  simp only [List.zipIdx_cons, List.zipIdx_nil, List.forIn_cons, List.forIn_nil]
  refine wpAny_bind (wpAny_bind (wpAny_onRaise ?_))
  show wpAny _ _ (Builtin.SmallTypes.nextOf (.ref i1) >>= _) _ _ _
  have t1' := Sd.st_keep t1 fun o e => s1.extBut _ _ D.i1z e
  have r1' := Sd.src_keep r1 fun o e => s1.extBut _ _ D.l1z e
  rcases hend with hend | ⟨⟨x, hx⟩, hend⟩
  · refine wpAny_bind (Sd.done (k := k1) hh t1' r1' hend fun h₂ e s2 he => ?_)
    obtain ⟨oe, hoe, ke⟩ := he
    have oZ2 : IsZip h₂ z TI TO .ellipsis := s2 _ _ D.i1z.symm oZ1
    have hez : e ≠ z := fun x => by subst x; rw [oZ2] at hoe; cases hoe; simp at ke
    refine wpAny_setField_rec oZ2 (by simp) fun h₃ _ s3 => hE h₃ e (fun c o c1 _ c3 _ x => s3.extBut _ _ c1 (s2 _ _ c3 (s1.extBut _ _ c1 x))) ⟨oe, s3.extBut _ _ hez hoe, ke⟩
  · refine wpAny_bind (Sd.item (k := k1) t1' r1' hx fun h₂ t12 s2 => wpAny_pure ?_)
    have oO2 : IsPair h₂ TO a b := s2.extBut _ _ D.TOi1 (s1.extBut _ _ D.TOz oO)
    refine wpAny_bind (wpAny_seqItems oO2 rfl ?_)
    refine wpAny_bind (wpAny_updateSeq_pair oO2 fun h₃ oO3 s3 => ?_)
    refine wpAny_bind (wpAny_letGo (wpAny_pure ?_))
    refine wpAny_bind (wpAny_bind (wpAny_onRaise ?_))
    show wpAny _ _ (Builtin.SmallTypes.nextOf (.ref i2) >>= _) _ _ _
    refine wpAny_bind (Sd.done (k := k2) hh (Sd.st_keep t2 fun o e => s3.extBut _ _ D.TOi2.symm (s2.extBut _ _ D.i12.symm (s1.extBut _ _ D.i2z e)))
      (Sd.src_keep r2 fun o e => s3.extBut _ _ D.l2TO (s2.extBut _ _ D.l2i1 (s1.extBut _ _ D.l2z e))) hend fun h₄ e s4 he => ?_)
    obtain ⟨oe, hoe, ke⟩ := he
    have oZ4 : IsZip h₄ z TI TO .ellipsis := s4 _ _ D.i2z.symm (s3.extBut _ _ D.TOz.symm (s2.extBut _ _ D.i1z.symm oZ1))
    have hez : e ≠ z := fun x => by subst x; rw [oZ4] at hoe; cases hoe; simp at ke
    refine wpAny_setField_rec oZ4 (by simp) fun h₅ _ s5 => hE h₅ e (fun c o c1 c2 c3 c4 x => s5.extBut _ _ c1 (s4 _ _ c4 (s3.extBut _ _ c2 (s2.extBut _ _ c3 (s1.extBut _ _ c1 x))))) ⟨oe, s5.extBut _ _ hez hoe, ke⟩
theorem pyn_item {k1 k2 : Sd} {z TI TO i1 i2 l1 l2 : Addr} {i : Nat} {xs ys : List Value} {x y a b : Value} {Q : Option Value → Shared → Prop} (D : ZipApart z TI TO i1 i2 l1 l2)
    (oZ : IsZip s.heap z TI TO .none) (oI : IsPair s.heap TI (.ref i1) (.ref i2)) (oO : IsPair s.heap TO a b)
    (t1 : k1.st i1 l1 i s.heap) (t2 : k2.st i2 l2 i s.heap) (r1 : k1.src s.heap l1 xs) (r2 : k2.src s.heap l2 ys) (hx : k1.ix xs i = some x) (hy : k2.ix ys i = some y)
    (hQ : ∀ h', IsZip h' z TI TO (rawInt s.heap.objs.size) → IsPair h' TO x y → k1.st i1 l1 (i + 1) h' → k2.st i2 l2 (i + 1) h' → IsPair h' s.heap.objs.size x y → h'.objs.size = s.heap.objs.size + 1 →
      (∀ c o, c ≠ z → c ≠ TO → c ≠ i1 → c ≠ i2 → s.heap.get? c = some o → h'.get? c = some o) → Q (some (.ref s.heap.objs.size)) { s with heap := h' }) : wpAny (model prog w) A (pyNext (.ref z)) Q E s := by
  have ty : s.TypeIs (.ref z) "zip" := ⟨_, oZ, rfl⟩
  unfold pyNext
  exact wpAny_bind (wpAny_attempt (wpAny_callSpecial?_slot (name := Str.ofString "__next__") ty F.slot_zip_next
    (wpAny_call_entry F.slot_zip_next ty F.entry_zip_next
      (zpg_item D oZ oI oO t1 t2 r1 r2 hx hy fun h' a1 a2 a3 a4 a5 a6 a7 => wpAny_pure (hQ h' a1 a2 a3 a4 a5 a6 a7)) (F.args_zip_next_1 _))))
theorem pyn_end {k1 k2 : Sd} {z TI TO i1 i2 l1 l2 : Addr} {i : Nat} {xs ys : List Value} {a b : Value} {Q : Option Value → Shared → Prop} (hh : A.handled = none) (D : ZipApart z TI TO i1 i2 l1 l2)
    (oZ : IsZip s.heap z TI TO .none) (oI : IsPair s.heap TI (.ref i1) (.ref i2)) (oO : IsPair s.heap TO a b)
    (t1 : k1.st i1 l1 i s.heap) (t2 : k2.st i2 l2 i s.heap) (r1 : k1.src s.heap l1 xs) (r2 : k2.src s.heap l2 ys) (hend : k1.en xs i ∨ ((∃ x, k1.ix xs i = some x) ∧ k2.en ys i))
    (hQ : ∀ h', (∀ c o, c ≠ z → c ≠ TO → c ≠ i1 → c ≠ i2 → s.heap.get? c = some o → h'.get? c = some o) → Q none { s with heap := h' }) : wpAny (model prog w) A (pyNext (.ref z)) Q E s := by
  have ty : s.TypeIs (.ref z) "zip" := ⟨_, oZ, rfl⟩
  unfold pyNext
  refine wpAny_bind (wpAny_attempt (wpAny_callSpecial?_slot (name := Str.ofString "__next__") ty F.slot_zip_next
    (wpAny_call_entry F.slot_zip_next ty F.entry_zip_next (zpg_end hh D oZ oI oO t1 t2 r1 r2 hend fun h' e hk he => ?_) (F.args_zip_next_1 _))))
  obtain ⟨o, ho, hc⟩ := he
  refine wpAny_bind (wpAny_isInstance (T := "StopIteration") (b := true) ⟨o, ho, hc⟩ isSubtype_stop ?_)
  exact wpAny_pure (hQ _ hk)
end
abbrev zT1 (h : Heap) (b : Addr) : Heap := h.push { cls := .type "tuple_iterator", data := .fields #[.ref b, .int 0 0] }
abbrev zT2 (h : Heap) (j b : Addr) : Heap := (zT1 h b).push { cls := .type "tuple", data := .seq #[.ref j, .ref h.objs.size] }
abbrev zT3 (h : Heap) (j b : Addr) : Heap := (zT2 h j b).push { cls := .type "tuple", data := .seq #[.none, .none] }
abbrev zT4 (h : Heap) (j b : Addr) : Heap := (zT3 h j b).push { cls := .type "zip", data := .fields #[.none, .bool false, .bool false, .ref (zT1 h b).objs.size, .ref (zT2 h j b).objs.size] }
theorem meetsZT (j a b : Addr) (q : Int) (ys : Array Value) :
    Meets (Builtin.«zip.__new__» ⟨[.type "zip", .ref j, .ref b], []⟩) (fun _ R s => s.heap.IsRevIter j a q ∧ s.heap.IsTuple b ys ∧
      R (.ok (.ret (.ref (zT3 s.heap j b).objs.size))) { s with heap := zT4 s.heap j b }) :=
  .of_wp fun prog w A R s h => by
    obtain ⟨hp, g, d, tk, os⟩ := s; obtain ⟨w1, w2, h⟩ := h
    have hsub := sub_zip
    have W1 : Heap.IsRevIter (Shared.heap ⟨hp, g, d, tk, os⟩) j a q := w1
    have W2 : Heap.IsTuple (Shared.heap ⟨hp, g, d, tk, os⟩) b ys := w2
    wp_walk using wpAny_pyIter_revIter W1, wpAny_pyIter_tuple W2
    exact ⟨_, rfl, h⟩
section
variable {prog : Program} {w : World} {A : Around} {E : Value → Shared → Prop} {s : Shared}
theorem call_zRT {j a b : Addr} {q : Int} {ys : Array Value} {Q : Value → Shared → Prop} (w1 : s.heap.IsRevIter j a q) (w2 : s.heap.IsTuple b ys)
    (h : ∀ h', IsZip h' (s.heap.objs.size + 3) (s.heap.objs.size + 1) (s.heap.objs.size + 2) .none → IsPair h' (s.heap.objs.size + 1) (.ref j) (.ref s.heap.objs.size) →
      IsPair h' (s.heap.objs.size + 2) .none .none → h'.IsRevIter j a q → h'.IsTupleIter s.heap.objs.size b 0 →
      (∀ c o, s.heap.get? c = some o → h'.get? c = some o) → Q (.ref (s.heap.objs.size + 3)) { s with heap := h' }) :
    wpAny (model prog w) A (call (.type "zip") [.ref j, .ref b]) Q E s := by
  refine callType_new F.called_zip (by decide) (F.typeCall_zip_2 _ _) (F.newCall_zip_2 _ _) (fun obj => F.args_object_init_3 obj _ _) F.entry_zip_new
    (meetsZT j a b q ys) ⟨w1, w2, ?_⟩
  have n1 : (zT1 s.heap b).objs.size = s.heap.objs.size + 1 := Heap.size_push ..
  have n2 : (zT2 s.heap j b).objs.size = s.heap.objs.size + 2 := by rw [Heap.size_push, n1]
  have n3 : (zT3 s.heap j b).objs.size = s.heap.objs.size + 3 := by rw [Heap.size_push, n2]
  have g4 : (zT4 s.heap j b).get? (zT3 s.heap j b).objs.size = some _ := Heap.get?_push_size _ rfl
  have g3 : (zT4 s.heap j b).get? (zT2 s.heap j b).objs.size = some _ := Heap.get?_push_of_some _ (Heap.get?_push_size _ rfl)
  have g2 : (zT4 s.heap j b).get? (zT1 s.heap b).objs.size = some _ := Heap.get?_push_of_some _ (Heap.get?_push_of_some _ (Heap.get?_push_size _ rfl))
  have g1 : (zT4 s.heap j b).get? s.heap.objs.size = some _ := Heap.get?_push_of_some _ (Heap.get?_push_of_some _ (Heap.get?_push_of_some _ (Heap.get?_push_size _ rfl)))
  have up : ∀ c o, s.heap.get? c = some o → (zT4 s.heap j b).get? c = some o := fun c o x =>
    Heap.get?_push_of_some _ (Heap.get?_push_of_some _ (Heap.get?_push_of_some _ (Heap.get?_push_of_some _ x)))
  show _ ∧ _
  rw [n1, n2, n3] at g4
  rw [n2] at g3
  rw [n1] at g2
  rw [n3]
  exact ⟨⟨_, g4, rfl⟩, h _ g4 g2 g3 (w1.at fun o e => up _ o e) ⟨_, g1, rfl, rfl⟩ up⟩
end
abbrev zL1 (h : Heap) (b : Addr) : Heap := h.push { cls := .type "list_iterator", data := .fields #[.ref b, .int 0 0] }
abbrev zL2 (h : Heap) (j b : Addr) : Heap := (zL1 h b).push { cls := .type "tuple", data := .seq #[.ref j, .ref h.objs.size] }
abbrev zL3 (h : Heap) (j b : Addr) : Heap := (zL2 h j b).push { cls := .type "tuple", data := .seq #[.none, .none] }
abbrev zL4 (h : Heap) (j b : Addr) : Heap := (zL3 h j b).push { cls := .type "zip", data := .fields #[.none, .bool false, .bool false, .ref (zL1 h b).objs.size, .ref (zL2 h j b).objs.size] }
theorem meetsZL (j a b : Addr) (q : Int) (ys : Array Value) :
    Meets (Builtin.«zip.__new__» ⟨[.type "zip", .ref j, .ref b], []⟩) (fun _ R s => s.heap.IsRevIter j a q ∧ s.heap.IsList b ys ∧
      R (.ok (.ret (.ref (zL3 s.heap j b).objs.size))) { s with heap := zL4 s.heap j b }) :=
  .of_wp fun prog w A R s h => by
    obtain ⟨hp, g, d, tk, os⟩ := s; obtain ⟨w1, w2, h⟩ := h
    have hsub := sub_zip
    have W1 : Heap.IsRevIter (Shared.heap ⟨hp, g, d, tk, os⟩) j a q := w1
    have W2 : Heap.IsList (Shared.heap ⟨hp, g, d, tk, os⟩) b ys := w2
    wp_walk using wpAny_pyIter_revIter W1, wpAny_pyIter_list W2
    exact ⟨_, rfl, h⟩
section
variable {prog : Program} {w : World} {A : Around} {E : Value → Shared → Prop} {s : Shared}
theorem call_zRL {j a b : Addr} {q : Int} {ys : Array Value} {Q : Value → Shared → Prop} (w1 : s.heap.IsRevIter j a q) (w2 : s.heap.IsList b ys)
    (h : ∀ h', IsZip h' (s.heap.objs.size + 3) (s.heap.objs.size + 1) (s.heap.objs.size + 2) .none → IsPair h' (s.heap.objs.size + 1) (.ref j) (.ref s.heap.objs.size) →
      IsPair h' (s.heap.objs.size + 2) .none .none → h'.IsRevIter j a q → h'.IsListIter s.heap.objs.size b 0 →
      (∀ c o, s.heap.get? c = some o → h'.get? c = some o) → Q (.ref (s.heap.objs.size + 3)) { s with heap := h' }) :
    wpAny (model prog w) A (call (.type "zip") [.ref j, .ref b]) Q E s := by
  refine callType_new F.called_zip (by decide) (F.typeCall_zip_2 _ _) (F.newCall_zip_2 _ _) (fun obj => F.args_object_init_3 obj _ _) F.entry_zip_new
    (meetsZL j a b q ys) ⟨w1, w2, ?_⟩
  have n1 : (zL1 s.heap b).objs.size = s.heap.objs.size + 1 := Heap.size_push ..
  have n2 : (zL2 s.heap j b).objs.size = s.heap.objs.size + 2 := by rw [Heap.size_push, n1]
  have n3 : (zL3 s.heap j b).objs.size = s.heap.objs.size + 3 := by rw [Heap.size_push, n2]
  have g4 : (zL4 s.heap j b).get? (zL3 s.heap j b).objs.size = some _ := Heap.get?_push_size _ rfl
  have g3 : (zL4 s.heap j b).get? (zL2 s.heap j b).objs.size = some _ := Heap.get?_push_of_some _ (Heap.get?_push_size _ rfl)
  have g2 : (zL4 s.heap j b).get? (zL1 s.heap b).objs.size = some _ := Heap.get?_push_of_some _ (Heap.get?_push_of_some _ (Heap.get?_push_size _ rfl))
  have g1 : (zL4 s.heap j b).get? s.heap.objs.size = some _ := Heap.get?_push_of_some _ (Heap.get?_push_of_some _ (Heap.get?_push_of_some _ (Heap.get?_push_size _ rfl)))
  have up : ∀ c o, s.heap.get? c = some o → (zL4 s.heap j b).get? c = some o := fun c o x =>
    Heap.get?_push_of_some _ (Heap.get?_push_of_some _ (Heap.get?_push_of_some _ (Heap.get?_push_of_some _ x)))
  show _ ∧ _
  rw [n1, n2, n3] at g4
  rw [n2] at g3
  rw [n1] at g2
  rw [n3]
  exact ⟨⟨_, g4, rfl⟩, h _ g4 g2 g3 (w1.at fun o e => up _ o e) ⟨_, g1, rfl, rfl⟩ up⟩
end
end M
namespace M
open PySem PySem.Spec PyProof.Rows L2
open PySem.Sem (wp)
/-- the things at a and b, the items in new pairs -/
def ItZ (K : PySem.W.Frag) (k1 k2 : Sd) (a b : Addr) : It :=
  ⟨fun i H => ∃ (xs ys : List V) (x y : V), k1.sq K H a xs ∧ k2.sq K H b ys ∧ k1.ix xs i = some x ∧ k2.ix ys i = some y,
    fun i H v H' => ∃ T x y, v = .ref T ∧ H T = none ∧ H' = upd H T (.tup [x, y]) ∧ (∀ xs, k1.sq K H a xs → k1.ix xs i = some x) ∧ ∀ ys, k2.sq K H b ys → k2.ix ys i = some y,
    fun i H => ∃ xs ys : List V, k1.sq K H a xs ∧ k2.sq K H b ys ∧ (k1.en xs i ∨ ((∃ x, k1.ix xs i = some x) ∧ k2.en ys i))⟩
section
variable {X : Cx} {pins : List (Addr × Obj)} {σ : L2.St} {H : Hp} {s : Shared}
theorem Sd.inv {k : Sd} {a : Addr} {xs : List V} (I : Inv X pins σ H s) (h : k.sq X.K H a xs) : ∃ its, Vals xs its ∧ k.src s.heap a its := by
  cases k with
  | l => obtain ⟨its, rv, p, _⟩ := I.list h; exact ⟨its, rv, p.isList⟩
  | t => obtain ⟨its, rv, p, _⟩ := I.tuple h; exact ⟨its, rv, p⟩
  | r n => obtain ⟨its, rv, p, _⟩ := I.list h; exact ⟨its, rv, p.isList⟩
theorem Sd.inj {k : Sd} {a : Addr} {xs ys : List V} (I : Inv X pins σ H s) (h : k.sq X.K H a xs) (h' : k.sq X.K H a ys) : xs = ys := by
  cases k with
  | l => exact I.list_inj h h'
  | t => exact I.tuple_inj h h'
  | r n => exact I.list_inj h h'
theorem Sd.get {k : Sd} {xs : List V} {its : List Value} {i : Nat} {x : V} (r : Vals xs its) (h : k.ix xs i = some x) : ∃ u, k.ix its i = some u ∧ RelV x u := by
  cases k with
  | l => obtain ⟨u, hu, ru⟩ := r.get h; exact ⟨u, hu, ru⟩
  | t => obtain ⟨u, hu, ru⟩ := r.get h; exact ⟨u, hu, ru⟩
  | r n =>
    have h : (if i < n then xs[n - 1 - i]? else none) = some x := h
    split at h
    · rename_i hi
      obtain ⟨u, hu, ru⟩ := r.get h
      refine ⟨u, ?_, ru⟩
      show (if i < n then its[n - 1 - i]? else none) = some u
      rw [if_pos hi]
      exact hu
    · cases h
theorem Sd.enV {k : Sd} {xs : List V} {its : List Value} {i : Nat} (r : Vals xs its) (h : k.en xs i) : k.en its i := by
  have l := r.length
  cases k with
  | l => show its.length ≤ i; rw [← l]; exact h
  | t => show its.length ≤ i; rw [← l]; exact h
  | r n => exact h
end
theorem turn_zg {P : Program} {w : World} {K : PySem.W.Frag} {elts : List Expr} {kk : Nat} {tpos : Pos} {k1 k2 : Sd} {a b z TI TO i1 i2 : Addr} (D : ZipApart z TI TO i1 i2 a b) :
    Turn P w K (.Tuple elts kk tpos) (ItZ K k1 k2 a b) [z, TI, TO, i1, i2] z (fun i h => IsZip h z TI TO .none ∧ IsPair h TI (.ref i1) (.ref i2) ∧ (∃ x y, IsPair h TO x y) ∧ k1.st i1 a i h ∧ k2.st i2 b i h) where
  mem := by simp
  obj := fun i h st c hc => by
    obtain ⟨hz, hTI, ⟨x, y, hTO⟩, t1, t2⟩ := st
    have cs : c = z ∨ c = TI ∨ c = TO ∨ c = i1 ∨ c = i2 := by simpa using hc
    rcases cs with q | q | q | q | q
    · rw [q]; exact ⟨_, hz, fun v q => nomatch q⟩
    · rw [q]; exact ⟨_, hTI, fun v q => nomatch q⟩
    · rw [q]; exact ⟨_, hTO, fun v q => nomatch q⟩
    · rw [q]; exact Sd.st_obj t1
    · rw [q]; exact Sd.st_obj t2
  keep := fun i h h' st k => by
    obtain ⟨hz, hTI, ⟨x, y, hTO⟩, t1, t2⟩ := st
    exact ⟨k z (by simp) _ hz, k TI (by simp) _ hTI, ⟨x, y, k TO (by simp) _ hTO⟩, Sd.st_keep t1 fun o q => k i1 (by simp) o q, Sd.st_keep t2 fun o q => k i2 (by simp) o q⟩
  item := by
    intro X hP hw hK hc i pins s σ H E I hf st hg
    subst hP hw hK
    obtain ⟨hz, hTI, ⟨x0, y0, hTO⟩, t1, t2⟩ := st
    obtain ⟨xs, ys, x, y, hqx, hqy, hx, hy⟩ := hg
    obtain ⟨its, rv, p⟩ := Sd.inv I hqx
    obtain ⟨its2, rv2, p2⟩ := Sd.inv I hqy
    obtain ⟨u, hu, ru⟩ := Sd.get rv hx
    obtain ⟨u2, hu2, ru2⟩ := Sd.get rv2 hy
    have zl : z < s.heap.objs.size := Heap.lt_size hz
    refine pyn_item D hz hTI hTO t1 t2 p p2 hu hu2 fun h' z' TO' t1' t2' hT hsz hk => ?_
    refine ⟨_, rfl, wpAny_letOwnedTupleGo_zip (s := { s with heap := h' }) z' fun h'' z'' sb => ?_⟩
    have oT : h''.get? s.heap.objs.size = some { cls := .type "tuple", data := .seq #[u, u2] } := (sb.2 _ (Nat.ne_of_gt zl)).trans hT
    have new : ObjOk X.prog X.w (upd H s.heap.objs.size (.tup [x, y])) h'' s.heap.objs.size (.tup [x, y]) :=
      ⟨by show 2 ≤ sizeLine; decide, [u, u2], .cons ru (.cons ru2 .nil), ⟨_, oT, rfl, _, rfl⟩⟩
    have I1 : Inv X pins σ (upd H s.heap.objs.size (.tup [x, y])) { s with heap := h'' } := by
      refine I.turnedNew (t' := s.toks) (ch := [z, TI, TO, i1, i2]) (fun c o hb q => ?_) hf (Nat.le_refl _) new
      have no : c ≠ z ∧ c ≠ TI ∧ c ≠ TO ∧ c ≠ i1 ∧ c ≠ i2 := by simpa using hb
      exact (sb.2 c no.1).trans (hk c o no.1 no.2.2.1 no.2.2.2.1 no.2.2.2.2 q)
    refine ⟨.ref s.heap.objs.size, _, I1, rfl, ⟨_, x, y, rfl, I.hok.fresh (Nat.le_refl _), rfl, fun l hl => by rw [Sd.inj I hl hqx]; exact hx, fun l hl => by rw [Sd.inj I hl hqy]; exact hy⟩, ⟨z'', ?_, ⟨u, u2, ?_⟩, ?_, ?_⟩, fun c hcm => ?_⟩
    · exact (sb.2 _ D.TIz).trans (hk _ _ D.TIz D.TITO D.TIi1 D.TIi2 hTI)
    · exact (sb.2 _ D.TOz).trans TO'
    · exact Sd.st_keep t1' fun o q => (sb.2 _ D.i1z).trans q
    · exact Sd.st_keep t2' fun o q => (sb.2 _ D.i2z).trans q
    · have hlt : c < s.heap.objs.size := by
        have cs : c = z ∨ c = TI ∨ c = TO ∨ c = i1 ∨ c = i2 := by simpa using hcm
        obtain ⟨o1, e1, _⟩ := Sd.st_obj t1
        obtain ⟨o2, e2, _⟩ := Sd.st_obj t2
        rcases cs with q | q | q | q | q
        · rw [q]; exact zl
        · rw [q]; exact Heap.lt_size hTI
        · rw [q]; exact Heap.lt_size hTO
        · rw [q]; exact Heap.lt_size e1
        · rw [q]; exact Heap.lt_size e2
      rw [upd_ne (Nat.ne_of_lt hlt)]
      exact (hf c hcm).1
  done := by
    intro X hP hw hK hc i pins s σ H E I hf st hg
    subst hP hw hK
    obtain ⟨hz, hTI, ⟨x0, y0, hTO⟩, t1, t2⟩ := st
    obtain ⟨xs, ys, hqx, hqy, hend⟩ := hg
    obtain ⟨its, rv, p⟩ := Sd.inv I hqx
    obtain ⟨its2, rv2, p2⟩ := Sd.inv I hqy
    refine pyn_end (I.ok.hd hc) D hz hTI hTO t1 t2 p p2 (hend.imp (fun q => Sd.enV rv q) fun ⟨⟨x, q⟩, q2⟩ => ⟨let ⟨u, hu, _⟩ := Sd.get rv q; ⟨u, hu⟩, Sd.enV rv2 q2⟩) fun h' hk => ⟨rfl, ?_⟩
    refine I.turnedL (t' := s.toks) (ch := [z, TI, TO, i1, i2]) (fun c o hb q => ?_) hf
    have no : c ≠ z ∧ c ≠ TI ∧ c ≠ TO ∧ c ≠ i1 ∧ c ≠ i2 := by simpa using hb
    exact hk c o no.1 no.2.2.1 no.2.2.2.1 no.2.2.2.2 q
  self := fun A i s Q E st h => wpAny_pyIter_zip st.1 h
theorem apart_zr (n j a b : Nat) (lj : j < n) (la : a < n) (lb : b < n) (h1 : a ≠ j) (h2 : b ≠ j) : ZipApart (n + 3) (n + 1) (n + 2) j n a b := by
  constructor <;> first | (show ¬ ((_ : Nat) = _); omega) | assumption
/-- zip(reversed(x), y) -/
def iZr (K : PySem.W.Frag) (te tf : TE) : TI := fun σ H R => te σ H fun v H1 => ∃ (a : Addr) (xs : List V), v = .ref a ∧ SqL K H1 a xs ∧ tf σ H1 fun u H2 => ∃ (b : Addr) (ys zs : List V), u = .ref b ∧ SqL K H2 a zs ∧
  ((SqT K H2 b ys ∧ R (ItZ K (.r xs.length) .t a b) H2) ∨ (SqL K H2 b ys ∧ R (ItZ K (.r xs.length) .l a b) H2))
theorem pi_zr {X : Cx} {e e2 : Expr} {te tf : TE} {p p2 pos pos2 tpos : Pos} {elts : List Expr} {kk : Nat} (hgz : Gl X "zip") (hmz : X.mg "zip" = none) (hg : Gl X "reversed") (hm : X.mg "reversed" = none) (he : PE X e te) (hf : PE X e2 tf)
    (hs0 : starEach [e] X.env = (false, eval e X.env) :: starEach [] X.env := by rfl)
    (hs : starEach [.Call (.Name "reversed" p2) [e] [] pos2, e2] X.env = (false, eval (.Call (.Name "reversed" p2) [e] [] pos2) X.env) :: (false, eval e2 X.env) :: starEach [] X.env := by rfl)
    (hs2 : starEach [e2] X.env = (false, eval e2 X.env) :: starEach [] X.env := by rfl) (hpl : (backTo pos (starEach [e2] X.env)).any (·.1) = false := by rfl) :
    PI X (.Tuple elts kk tpos) (.Call (.Name "zip" p) [.Call (.Name "reversed" p2) [e] [] pos2, e2] [] pos) (iZr X.K te tf) := by
  refine ⟨fun pins s σ H R I h => ?_⟩
  refine Call_ (ld_blt I hgz hmz PyProof.Rows.boot_zip (PyProof.Rows.callWith_type1 (args_cons ?_ (hs.trans (by rw [hs2]))) (hs.trans (by rw [hs2])) hpl))
  refine Call_ (ld_blt I hg hm PyProof.Rows.boot_reversed (PyProof.Rows.callWith_type1 (args_cons (thn (he.run pins s σ H _ I h) fun u s1 ⟨v, H1, I1, r1, q1⟩ => args_nil ?_) hs0) hs0 rfl))
  obtain ⟨a, xs, ev, hq, q⟩ := q1
  subst ev
  obtain rfl : u = Value.ref a := r1
  obtain ⟨its, rv, p', hz⟩ := I1.list hq
  have hl := rv.length
  refine call_reversed_list p'.isList ?_
  have J1 : Inv X ((s1.heap.objs.size, revObj a (its.toArray.size - 1)) :: pins) σ H1 { s1 with heap := s1.heap.push (revObj a (its.toArray.size - 1)) } :=
    ClX.pin_new (t' := s1.toks) I1 (fun b u e => Heap.get?_push_of_some _ e) (Nat.le_refl _) (Heap.get?_push_size _ rfl) (fun v q => nomatch q)
  have fp : FpOk X pins H1 s1.heap.objs.size := I1.fpOk (Nat.le_refl _) (I1.hok.fresh (Nat.le_refl _))
  refine args_cons (thn (hf.run _ _ σ H1 _ J1 q) fun u2 s2 ⟨v2, H2, I2, r2, q2⟩ => args_nil ?_) hs2
  obtain ⟨b, ys, zs, ev, hqa, q2⟩ := q2
  subst ev
  obtain rfl : u2 = Value.ref b := r2
  have hp := ClX.pin_at I2
  have hn := ClX.pin_un I2
  have J2 := ClX.unpin I2
  dsimp only at hp hn
  generalize s1.heap.objs.size = j at hp hn fp
  have w1 : s2.heap.IsRevIter j a ((xs.length : Int) - 1 - ((0 : Nat) : Int)) := by
    have e1 : ((its.toArray.size : Nat) : Int) - 1 = (xs.length : Int) - 1 - ((0 : Nat) : Int) := by simp only [List.size_toArray]; omega
    exact ⟨_, hp, rfl, by rw [← e1]; rfl⟩
  have lj : j < s2.heap.objs.size := Heap.lt_size hp
  obtain ⟨itsa, rva, pa, _⟩ := J2.list hqa
  have la : a < s2.heap.objs.size := pa.lt
  have naj : a ≠ j := fun z => by
    obtain ⟨o, ho, ho2, _⟩ := pa.isList
    rw [z, hp] at ho
    cases ho
    exact absurd (show Value.type "list_reverseiterator" = Value.type "list" from ho2) (by decide)
  have fresh : ∀ c ∈ [s2.heap.objs.size + 3, s2.heap.objs.size + 1, s2.heap.objs.size + 2, j, s2.heap.objs.size], FpOk X pins H2 c := fun c hc => by
    have cs : c = s2.heap.objs.size + 3 ∨ c = s2.heap.objs.size + 1 ∨ c = s2.heap.objs.size + 2 ∨ c = j ∨ c = s2.heap.objs.size := by simpa using hc
    have big : s2.heap.objs.size ≤ c → FpOk X pins H2 c := fun le => J2.fpOk le (J2.hok.fresh le)
    rcases cs with z | z | z | z | z
    · exact big (by rw [z]; exact Nat.le_add_right _ _)
    · exact big (by rw [z]; exact Nat.le_add_right _ _)
    · exact big (by rw [z]; exact Nat.le_add_right _ _)
    · rw [z]; exact ⟨hn, fp.2⟩
    · exact big (by rw [z]; exact Nat.le_refl _)
  have apart : ∀ b, b < s2.heap.objs.size → b ≠ j → ZipApart (s2.heap.objs.size + 3) (s2.heap.objs.size + 1) (s2.heap.objs.size + 2) j s2.heap.objs.size a b :=
    fun b lb nbj => apart_zr _ _ _ _ lj la lb naj nbj
  rcases q2 with ⟨hb, q2⟩ | ⟨hb, q2⟩
  · obtain ⟨its2, rv2, pb, _⟩ := J2.tuple hb
    have nbj : b ≠ j := fun z => by
      obtain ⟨o, ho, ho2, _⟩ := id pb
      rw [z, hp] at ho
      cases ho
      exact absurd (show Value.type "list_reverseiterator" = Value.type "tuple" from ho2) (by decide)
    have lb : b < s2.heap.objs.size := by
      obtain ⟨o, ho, _⟩ := id pb
      exact Heap.lt_size ho
    refine call_zRT w1 (show s2.heap.IsTuple b its2.toArray from pb) fun h' oZ oI oO t1 t2 hk => wpAny_pyIter_zip oZ ?_
    exact ⟨_, _, _, _, H2, rfl, J2.kept (t' := s2.toks) hk, turn_zg (k1 := .r xs.length) (k2 := .t) (apart b lb nbj), ⟨oZ, oI, ⟨_, _, oO⟩, ⟨Nat.zero_le _, t1⟩, t2⟩, fresh, q2⟩
  · obtain ⟨its2, rv2, pb, _⟩ := J2.list hb
    have nbj : b ≠ j := fun z => by
      obtain ⟨o, ho, ho2, _⟩ := pb.isList
      rw [z, hp] at ho
      cases ho
      exact absurd (show Value.type "list_reverseiterator" = Value.type "list" from ho2) (by decide)
    refine call_zRL w1 pb.isList fun h' oZ oI oO t1 t2 hk => wpAny_pyIter_zip oZ ?_
    exact ⟨_, _, _, _, H2, rfl, J2.kept (t' := s2.toks) hk, turn_zg (k1 := .r xs.length) (k2 := .l) (apart b pb.lt nbj), ⟨oZ, oI, ⟨_, _, oO⟩, ⟨Nat.zero_le _, t1⟩, t2⟩, fresh, q2⟩
/-! ### in the small machine -/
theorem zipB_get : ∀ {xs ys : List B} {i : Nat} {x : B}, (zipB xs ys)[i]? = some x → ∃ a b, xs[i]? = some a ∧ ys[i]? = some b ∧ x = .tup [a, b]
  | [], _, _, _, h => by simp [zipB] at h
  | _ :: _, [], _, _, h => by simp [zipB] at h
  | a :: xs, b :: ys, 0, x, h => by
    simp [zipB] at h
    exact ⟨a, b, rfl, rfl, h.symm⟩
  | a :: xs, b :: ys, i + 1, x, h => by
    obtain ⟨p, q, h1, h2, h3⟩ := zipB_get (xs := xs) (ys := ys) (i := i) (by simpa [zipB] using h)
    exact ⟨p, q, by simpa using h1, by simpa using h2, h3⟩
theorem zipB_len : ∀ (xs ys : List B), (zipB xs ys).length = min xs.length ys.length
  | [], ys => by simp [zipB]
  | _ :: _, [] => by simp [zipB]
  | a :: xs, b :: ys => by
    simp only [zipB, List.length_cons, zipB_len xs ys]
    omega
theorem sd_rev {α : Type} {zs : List α} {i : Nat} (h : i < zs.length) : zs.reverse[i]? = zs[zs.length - 1 - i]? := by
  rw [List.getElem?_reverse h]
section
variable {C : Ct}
theorem it_zr {F ι} {S0 : Store} {k2 : Sd} {a b : Addr} {n : Nat} {zs ys : List B} (hk : k2 = .l ∨ k2 = .t) (hn : zs.length = n)
    (hA : ∀ tp F' ι' S' H', Le F ι F' ι' → RH (C.w tp) F' ι' S' H' → LK S0 S' → ∃ vs, SqL C.K H' a vs ∧ RelBs C F' zs vs)
    (hB : ∀ tp F' ι' S' H', Le F ι F' ι' → RH (C.w tp) F' ι' S' H' → LK S0 S' → ∃ us, k2.sq C.K H' b us ∧ RelBs C F' ys us) : ItOk C F ι S0 (ItZ C.K (.r n) k2 a b) (zipB zs.reverse ys) := by
  refine fun tp F' ι' S' H' sb l rh fr lk => ?_
  obtain ⟨vs, a1, a2⟩ := hA tp F' ι' S' H' l rh lk
  obtain ⟨us, b1, b2⟩ := hB tp F' ι' S' H' l rh lk
  have lv : vs.length = n := by rw [← a2.length, hn]
  have k2ix : ∀ (us : List V) i, k2.ix us i = us[i]? := fun us i => by rcases hk with rfl | rfl <;> rfl
  have k2en : ∀ (us : List V) i, k2.en us i = (us.length ≤ i) := fun us i => by rcases hk with rfl | rfl <;> rfl
  have ix1 : ∀ i, i < n → (Sd.r n).ix vs i = vs.reverse[i]? := fun i hi => by
    show (if i < n then vs[n - 1 - i]? else none) = _
    rw [if_pos hi, sd_rev (by omega), lv]
  refine ⟨fun i x hx => ?_, ?_⟩
  · obtain ⟨p, q, h1, h2, rfl⟩ := zipB_get hx
    have hi : i < n := by
      have := (List.getElem?_eq_some_iff.mp h1).1
      rw [List.length_reverse] at this
      omega
    obtain ⟨v, hv, rv⟩ := a2.reverse.get h1
    obtain ⟨u, hu, ru⟩ := b2.get h2
    refine ⟨⟨vs, us, v, u, a1, b1, by rw [ix1 i hi]; exact hv, by rw [k2ix]; exact hu⟩, ?_⟩
    rintro w H2 ⟨T, x', y', rfl, hT, rfl, f1, f2⟩
    have e1 := f1 vs a1
    rw [ix1 i hi, hv] at e1
    cases e1
    have e2 := f2 us b1
    rw [k2ix, hu] at e2
    cases e2
    obtain ⟨r1, r2, r3⟩ := rh.newF fr (u := .tup [v, u]) hT
    refine ⟨_, r3, r1, r2, T, [v, u], rfl, .inl (.inl upd_same), ?_⟩
    exact ⟨v, [u], rfl, RelB.mono r3.1 _ _ rv, u, [], rfl, RelB.mono r3.1 _ _ ru, rfl⟩
  · refine ⟨vs, us, a1, b1, ?_⟩
    rw [zipB_len, List.length_reverse, hn]
    by_cases h : n ≤ ys.length
    · left
      show n ≤ min n ys.length
      omega
    · right
      refine ⟨?_, ?_⟩
      · have hi : min n ys.length < n := by omega
        rw [ix1 _ hi]
        exact ⟨_, List.getElem?_eq_getElem (by rw [List.length_reverse]; omega)⟩
      · rw [k2en, ← b2.length]
        omega
theorem mi_zr {X : Cx} {P : Par} {a b : Expr} {ma mb : E} {j : Nat} {p p2 pos pos2 tpos : Pos} {elts : List Expr} {kk : Nat} (hK : C.K = X.K) (hgz : Gl X "zip") (hmz : X.mg "zip" = none) (hg : Gl X "reversed") (hm : X.mg "reversed" = none) (ha : ME X C P a ma) (hb : ME X C P b mb) (hj : mb = .v j := by rfl)
    (hs0 : starEach [a] X.env = (false, eval a X.env) :: starEach [] X.env := by rfl)
    (hs : starEach [.Call (.Name "reversed" p2) [a] [] pos2, b] X.env = (false, eval (.Call (.Name "reversed" p2) [a] [] pos2) X.env) :: (false, eval b X.env) :: starEach [] X.env := by rfl)
    (hs2 : starEach [b] X.env = (false, eval b X.env) :: starEach [] X.env := by rfl) (hpl : (backTo pos (starEach [b] X.env)).any (·.1) = false := by rfl) :
    MI X C P (.Tuple elts kk tpos) (.Call (.Name "zip" p) [.Call (.Name "reversed" p2) [a] [] pos2, b] [] pos) .zr [ma, mb] := (pi_zr hgz hmz hg hm ha hb hs0 hs hs2 hpl).imp fun σ H R h => by
  obtain ⟨F, ι, S, sl, ds, S1, xs, rs, e1, e2, nd, k⟩ := h
  subst hj
  unfold evs at e1
  obtain ⟨⟨d, S2⟩, e3, e1⟩ := Option.bind_eq_some_iff.mp e1
  obtain ⟨⟨ds2, S3⟩, e4, e1⟩ := Option.map_eq_some_iff.mp e1
  cases e1
  unfold evs evs at e4
  obtain ⟨⟨d2, S4⟩, e5, e4⟩ := Option.bind_eq_some_iff.mp e4
  cases e4
  have hS : S4 = S2 := by
    unfold ev at e5
    split at e5
    · cases e5; rfl
    · cases e5
  subst hS
  dsimp only at *
  obtain ⟨zs, hz, e2⟩ := Option.bind_eq_some_iff.mp (show ((lsqD S4 d).bind fun xs => (seqD S4 d2).map fun ys => zipB xs.reverse ys) = some xs from e2)
  obtain ⟨ys, hy, rfl⟩ := Option.map_eq_some_iff.mp e2
  refine rs.one e3 fun F1 ι1 v H1 l1 r1 q1 => ?_
  obtain ⟨a0, vs, rfl, h1, h2⟩ := lsq_rel r1.rh q1 hz
  refine ⟨a0, vs, rfl, hK ▸ h1, ?_⟩
  refine r1.one e5 fun F2 ι2 u H2 l2 r2 q2 => ?_
  have q1' : RelD C F2 ι2 d (.ref a0) := RelD.mono l2 _ _ q1
  obtain ⟨a1, ea, kpA⟩ := lsq_keep (ds := [d, d2]) r2.rh q1' (List.mem_cons_self ..) hz
  cases ea
  obtain ⟨a1, vs2, ea, g1, g2⟩ := lsq_rel r2.rh q1' hz
  cases ea
  have hn : zs.length = vs.length := h2.length
  by_cases ht : ∃ ws, d2 = .b (.tup ws)
  · obtain ⟨ws, rfl⟩ := ht
    cases hy
    obtain ⟨b0, us, rfl, t1, t2⟩ := q2
    refine ⟨b0, us, vs2, rfl, hK ▸ g1, .inl ⟨hK ▸ sqT_mono r2.rh.fz t1, ?_⟩⟩
    refine k F2 ι2 H2 _ (l1.trans l2) (r2.rh.lockAll nd) r2.fr (hK ▸ it_zr (.inr rfl) hn kpA fun tp F' ι' S' H' l rh lk => ?_)
    exact ⟨us, sqT_mono (l.1.trans rh.fz) t1, RelBs.mono l.1 _ _ t2⟩
  · have hy' : lsqD S4 d2 = some ys := by
      unfold lsqD
      split
      · exact (ht ⟨_, rfl⟩).elim
      · exact hy
    obtain ⟨b0, rfl, kpB⟩ := lsq_keep (ds := [d, d2]) r2.rh q2 (List.mem_cons_of_mem _ (List.mem_cons_self ..)) hy'
    obtain ⟨b1, us, eb, t1, t2⟩ := lsq_rel r2.rh q2 hy'
    cases eb
    refine ⟨b0, us, vs2, rfl, hK ▸ g1, .inr ⟨hK ▸ t1, ?_⟩⟩
    exact k F2 ι2 H2 _ (l1.trans l2) (r2.rh.lockAll nd) r2.fr (hK ▸ it_zr (.inl rfl) hn kpA kpB)
theorem nd_zr (S ds xs) (e : items S .zr ds = some xs) : NoDic S ds := by
  intro n hn kvs hk
  unfold items at e
  split at e <;> try contradiction
  rename_i x y _ _
  obtain ⟨zs, hz, e2⟩ := Option.bind_eq_some_iff.mp e
  obtain ⟨ys, hy, _⟩ := Option.map_eq_some_iff.mp e2
  simp at hn
  rcases hn with rfl | rfl
  · unfold lsqD seqD at hz
    dsimp only at hz
    rw [hk] at hz
    cases hz
  · unfold seqD at hy
    dsimp only at hy
    rw [hk] at hy
    cases hy
end
end M
/-! MCX: min(d.items()) of a dict of one entry. -/
namespace M
open PySem PySem.Spec PyProof.Rows L2
open PySem.Sem (wp)
section
variable {prog : Program} {w : World} {K : Type} [DecidableEq K] {knd : KeyKind prog w K} {A : Around} {E : Value → Shared → Prop} {s : Shared}
theorem items_endO {it d a : Addr} {i ep : Nat} {kvs : List (K × Value)} {ok ov : Value} {Q : Option Value → Shared → Prop} (hh : A.handled = none) (hit : IsItemIterOut s.heap it d i kvs.length ep ok ov a)
    (hm : s.heap.DictAt knd d kvs ep) (hx : kvs[i]? = none)
    (hQ : ∀ h', Heap.ExtBut it s.heap h' → Q none { s with heap := h' }) : wpAny (model prog w) A (pyNext (.ref it)) Q E s := by
  obtain ⟨oD, eD, hD, kD, dD, hk, hpr, hn⟩ := id hm
  have ty : s.TypeIs (.ref it) "dict_itemiterator" := ⟨_, hit, rfl⟩
  unfold pyNext
  refine wpAny_bind (wpAny_attempt (wpAny_callSpecial?_slot (name := Str.ofString "__next__") ty F.slot_dict_itemiterator_next
    (wpAny_call_entry F.slot_dict_itemiterator_next ty F.entry_dict_itemiterator_next ?_ (F.args_dict_itemiterator_next_1 _))))
  refine wpAny_bind (wpAny_pure ?_)
  refine wpAny_bind ?_
  refine wpAny_bind ?_
  first | refine wpAny_bind (wpAny_typeNameOfWhole_itemiter ty (wpAny_pure ?_)) | refine wpAny_bind (wpAny_typeNameOf_itemiter ty (wpAny_pure ?_))
  refine wpAny_bind (wpAny_fieldsOf hit rfl ?_)
  have own : Builtin.Dict_items.ownsTuple "dict_itemiterator" = true := by decide
  simp only [own, if_true]
  show wpAny _ _ (if (Value.ref d == Value.none) = true then _ else _) _ _ s
  rw [if_neg (show ¬ ((Value.ref d == Value.none) = true) from Bool.false_ne_true)]
  refine wpAny_bind (wpAny_pure ?_)
  refine wpAny_bind (wpAny_dictEntries hD dD ?_)
  have sz : eD.size = kvs.length := by rw [← hpr.length]; simp
  rw [if_neg (by rw [sz]; simp)]
  refine wpAny_bind (wpAny_pure ?_)
  refine wpAny_bind (wpAny_dictEpoch hD dD ?_)
  rw [if_neg (by simp)]
  refine wpAny_pure ?_
  have ge : eD.size ≤ i := by rw [sz]; simpa using hx
  simp only [show ¬ ((i : Int) < 0) from by omega, if_false, Int.toNat_natCast, Array.getElem?_eq_none ge]
  refine wpAny_bind ?_
  first | refine wpAny_bind (wpAny_typeNameOfWhole_itemiter ty (wpAny_pure ?_)) | refine wpAny_bind (wpAny_typeNameOf_itemiter ty (wpAny_pure ?_))
  show wpAny _ _ (setField (.ref it) 2 .none >>= _) _ _ s
  refine wpAny_bind (wpAny_setField hit rfl (by simp) ?_)
  show wpAny _ _ (newExc (.type "StopIteration") [] >>= _) _ _ _
  refine wpAny_bind ?_
  simp only [newExc, newTuple]
  refine wpAny_bind (wpAny_newObj_type ?_ (by size_fits))
  refine wpAny_bind (m := firstArgMember _ _) (wpAny_of_eq (a := Value.none) (by first | rfl | (simp only [firstArgMember]; rfl)) ?_)
  refine wpAny_newObj_type ?_ (by size_fits)
  simp only [raiseNew]
  refine wpAny_bind (wpAny_handled ?_)
  rw [show A.in1.handled = none from hh]
  refine wpAny_bind (wpAny_pure (wpAny_throw ?_))
  refine wpAny_bind (wpAny_isInstance (T := "StopIteration") (b := true) ⟨_, Heap.get?_push_size _ rfl, rfl⟩ isSubtype_stop ?_)
  exact wpAny_pure (hQ _ (((Heap.SameBut.update ..).extBut.push _).push _))
theorem min_items1 {v d : Addr} {k : K} {x : Value} {ep : Nat} {Q : Value → Shared → Prop} (hh : A.handled = none) (hv : s.heap.IsItemsView v d) (hm : s.heap.DictAt knd d [(k, x)] ep)
    (hQ : ∀ key T h' tk, knd.is k key = true → s.heap.objs.size ≤ T → h'.get? T = some { cls := .type "tuple", data := .seq #[key, x] } → (∀ b o, s.heap.get? b = some o → h'.get? b = some o) → Q (.ref T) { s with heap := h', toks := tk }) :
    wpAny (model prog w) A (call (.builtin "min") [.ref v]) Q E s := by
  have nm : (toString "min" ++ toString ".loop" : String) = "min.loop" := by decide
  refine call_function_tree F.kind_min F.plain_min F.entry_min (F.args_min1 _) ?_
  show wpAny _ A.in1 (Builtin.Builtins.bindParams "min" ["key", "default"] 0 ⟨[], []⟩ >>= _) _ _ s
  refine wpAny_bind (wpAny_of_eq (show Builtin.Builtins.bindParams "min" ["key", "default"] 0 ⟨[], []⟩ = pure [none, none] from rfl) ?_)
  refine wpAny_bind (wpAny_pure ?_)
  refine wpAny_bind (wpAny_pyIter_items hv hm ?_)
  refine wpAny_bind (wpAny_newObj_type ?_)
  rw [nm]
  refine wpAny_pure ⟨plainId_quiet F.plain_min_loop _, ?_⟩
  refine codeAny_builtin F.entry_min_loop ?_
  rw [Around.under_plainId F.plain_min_loop _]
  have hSz : (s.heap.push { cls := .type "dict_itemiterator", data := .fields #[.none, .bool false, .ref d, .int 0 0, .int ([(k, x)] : List (K × Value)).length 0, .int ep 0, .none, .none] }).objs.size = s.heap.objs.size + 1 := Heap.size_push _ _
  have hit : IsItemIter ((s.heap.push { cls := .type "dict_itemiterator", data := .fields #[.none, .bool false, .ref d, .int 0 0, .int ([(k, x)] : List (K × Value)).length 0, .int ep 0, .none, .none] }).push { cls := .type "list", data := .seq #[] }) s.heap.objs.size d 0 ([(k, x)] : List (K × Value)).length ep .none .none := Heap.get?_push_of_some _ (Heap.get?_push_size _ rfl)
  have hm1 := (hm.push { cls := .type "dict_itemiterator", data := .fields #[.none, .bool false, .ref d, .int 0 0, .int ([(k, x)] : List (K × Value)).length 0, .int ep 0, .none, .none] }).push { cls := .type "list", data := .seq #[] }
  have hS : ((s.heap.push { cls := .type "dict_itemiterator", data := .fields #[.none, .bool false, .ref d, .int 0 0, .int ([(k, x)] : List (K × Value)).length 0, .int ep 0, .none, .none] }).push { cls := .type "list", data := .seq #[] }).get? (s.heap.objs.size + 1) = some { cls := .type "list", data := .seq #[] } := by
    rw [← hSz]
    exact Heap.get?_push_size _ rfl
  have up1 : ∀ b o, s.heap.get? b = some o → ((s.heap.push { cls := .type "dict_itemiterator", data := .fields #[.none, .bool false, .ref d, .int 0 0, .int ([(k, x)] : List (K × Value)).length 0, .int ep 0, .none, .none] }).push { cls := .type "list", data := .seq #[] }).get? b = some o := fun b o e => Heap.get?_push_of_some _ (Heap.get?_push_of_some _ e)
  rw [hSz]
  revert hit hm1 hS up1
  generalize (s.heap.push { cls := .type "dict_itemiterator", data := .fields #[.none, .bool false, .ref d, .int 0 0, .int ([(k, x)] : List (K × Value)).length 0, .int ep 0, .none, .none] }).push { cls := .type "list", data := .seq #[] } = h1
  intro hit hm1 hS up1
  have hlt := Heap.lt_size hS
  show wpAny _ A.in1 (seqItems? (.ref (s.heap.objs.size + 1)) >>= _) _ _ _
  refine wpAny_bind (wpAny_seqItems hS rfl ?_)
  show wpAny _ A.in1 (tryCatch (pyNext (.ref s.heap.objs.size)) _ >>= _) _ _ _
  refine wpAny_bind (wpAny_tryCatch (wpAny_pyNext_items_item (knd := knd) (i := 0) (d := d) (kvs := [(k, x)]) (k := k) (v := x) hit hm1 rfl fun key h' hk hout hT hsz hkp => ?_))
  dsimp only at hT hout hsz hkp
  have ne1 : s.heap.objs.size + 1 ≠ s.heap.objs.size := Nat.succ_ne_self _
  have hS' := hkp (s.heap.objs.size + 1) _ ne1 hS
  show wpAny _ A.in1 (updateSeq (s.heap.objs.size + 1) (fun _ => #[.ref h1.objs.size, .ref h1.objs.size]) >>= _) _ _ _
  refine wpAny_bind ?_
  refine wpAny_updateSeq hS' rfl ?_
  rw [nm]
  refine wpAny_pure ⟨plainId_quiet F.plain_min_loop _, ?_⟩
  refine codeAny_builtin F.entry_min_loop ?_
  rw [Around.under_plainId F.plain_min_loop _]
  show wpAny _ A.in1 (seqItems? (.ref (s.heap.objs.size + 1)) >>= _) _ _ _
  refine wpAny_bind (wpAny_seqItems (Heap.get?_update_self _ hS' rfl) rfl ?_)
  show wpAny _ A.in1 (tryCatch (pyNext (.ref s.heap.objs.size)) _ >>= _) _ _ _
  have dlt : d < s.heap.objs.size := by
    obtain ⟨oD, eD, hD, _⟩ := id hm
    exact Heap.lt_size hD
  have nS : ∀ {b : Addr}, b < s.heap.objs.size → s.heap.objs.size + 1 ≠ b := fun h e => by
    rw [← e] at h
    exact absurd h (Nat.not_lt.mpr (Nat.le_succ _))
  have hm2 := hm1
  obtain ⟨oD, eD, hD, kD, dD, hk2, hpr, hn⟩ := hm2
  have hD' := hkp d oD (Nat.ne_of_lt dlt) hD
  have out2 := (Heap.get?_update_other (h := h') (a := s.heap.objs.size + 1) (fun ob => ob.mapSeq fun _ => #[.ref h1.objs.size, .ref h1.objs.size]) ne1).trans hout
  refine wpAny_bind (wpAny_tryCatch (items_endO (knd := knd) (A := A.in1) (kvs := [(k, x)]) (i := 1) (a := h1.objs.size) (ok := key) (ov := x) (d := d) (ep := ep) hh ?_ ⟨oD, eD, (Heap.get?_update_other _ _ (nS dlt)).trans hD', kD, dD, hk2, hpr, hn⟩ rfl fun h2 ext => ?_))
  · exact out2
  have hS3 := ext (s.heap.objs.size + 1) _ ne1 (Heap.get?_update_self _ hS' rfl)
  show wpAny _ A.in1 (updateSeq (s.heap.objs.size + 1) (fun _ => #[]) >>= _) _ _ _
  refine wpAny_bind ?_
  refine wpAny_updateSeq hS3 rfl (wpAny_bind (wpAny_letGo (wpAny_pure ?_)))
  have nT1 : s.heap.objs.size + 1 ≠ h1.objs.size := Nat.ne_of_lt hlt
  have nT2 : h1.objs.size ≠ s.heap.objs.size := Nat.ne_of_gt (Nat.lt_of_succ_lt hlt)
  refine hQ key h1.objs.size _ _ hk (Nat.le_of_lt (Nat.lt_of_succ_lt hlt)) ?_ fun b o e => ?_
  · exact (Heap.get?_update_other _ _ nT1).trans (ext _ _ nT2 ((Heap.get?_update_other _ _ nT1).trans hT))
  · have blt := Heap.lt_size e
    exact (Heap.get?_update_other _ _ (nS blt)).trans (ext _ _ (Nat.ne_of_lt blt) ((Heap.get?_update_other _ _ (nS blt)).trans (hkp _ _ (Nat.ne_of_lt blt) (up1 _ _ e))))
end
/-- min(x.items()), x of one entry -/
def tMinI1 (td : TE) : TE := fun σ H Q => td σ H fun x H1 => ∃ (d : Addr) (k : L2.Key) (v : V), x = .ref d ∧ Rd H1 d (.dK [(k, v)]) ∧ ∀ T, H1 T = none → Q (.ref T) (upd H1 T (.tup [kV k, v]))
section
variable {X : Cx} {o : Expr} {p pos apos mpos : Pos} {td : TE}
theorem pe_minI1 (hc : X.calm = true) (hg : Gl X "min") (hm : X.mg "min" = none) (hd : PE X o td) (hbase : attributeBase o "items" X.env (eval o X.env) = eval o X.env := by rfl) (hline : (apos.endLine == mpos.line) = true := by rfl)
    (hse : starEach [Expr.Call (.Attribute o "items" apos) [] [] mpos] X.env = [(false, eval (Expr.Call (.Attribute o "items" apos) [] [] mpos) X.env)] := by rfl) :
    PE X (.Call (.Name "min" p) [.Call (.Attribute o "items" apos) [] [] mpos] [] pos) (tMinI1 td) := by
  refine ⟨fun pins s σ H Q I h => ?_⟩
  refine wpAny_Call_Name_kw (ld_blt I hg hm (u := .builtin "min") (by first | rfl | decide +kernel) ?_ (by first | decide +kernel | decide) (by first | decide +kernel | decide))
  rw [hse]
  refine PySem.callWith_builtin1 (wpAny_Call_method0_late hbase hline (thn (hd.run pins s σ H _ I h) fun v s1 ⟨x, H1, I1, r1, d, k, xv, ex, ha, q⟩ => ?_))
  subst ex
  obtain rfl : v = Value.ref d := r1
  obtain ⟨_, hsys, vs, rel, dof⟩ := dk_rd I1.hok ha
  obtain ⟨ep, dat⟩ := dof.dictAt
  obtain ⟨u, hu, ru⟩ := kv_get rel (i := 0) (k := k) (v := xv) rfl
  have hvl : ([(k, xv)] : List (L2.Key × V)).length = vs.length := Paired.length rel
  have evs : vs = [(k, u)] := by
    cases vs with
    | nil => cases hu
    | cons a r =>
      cases hu
      cases r with
      | nil => rfl
      | cons b r => simp at hvl
  subst evs
  have dat' := dat
  obtain ⟨ob, es, ho, ex, hdat, hko, hpr, hnd⟩ := dat'
  refine ⟨"dict", "dict.items", F.plainAttrs_dict, F.slot_dict_items, F.type_dict_items, ⟨ob, ho, ex.1⟩, fun b e => ?_, Calls.callWith_builtin rfl (PySem.evalArgs_none ?_)⟩
  · cases e
    exact ⟨ob, ho, ex.2.1⟩
  refine call_meetsIn F.slot_dict_items ⟨ob, ho, ex.1⟩ F.entry_dict_items (F.args_dict_items_1 _) (meets_dict_items (mixKind X.prog X.w) d hsys) ⟨⟨_, dof⟩, ?_⟩
  refine min_items1 (knd := mixKind X.prog X.w) (I.ok.hd hc) ⟨_, Heap.get?_push_size _ rfl, rfl, rfl⟩ (dat.push _) fun key T h' tk hk hle hT hkp => ?_
  have hle' : s1.heap.objs.size ≤ T := Nat.le_trans (by rw [Heap.size_push] <;> exact Nat.le_succ _) hle
  have new : ObjOk X.prog X.w (upd H1 T (.tup [kV k, xv])) h' T (.tup [kV k, xv]) :=
    ⟨by show 2 ≤ sizeLine; decide, [key, u], .cons (relV_key (show keyIs k key = true from hk)) (.cons ru .nil), ⟨_, hT, rfl, _, rfl⟩⟩
  exact ⟨.ref T, _, I1.laid (t' := tk) (fun b ob e => hkp b ob (Heap.get?_push_of_some _ e)) hle' new, rfl, q T (I1.hok.fresh hle')⟩
theorem me_minit {C : Ct} {P : Par} {mo : E} (hc : X.calm = true) (hm : X.mg "min" = none) (hd : ME X C P o mo) (hg : Gl X "min" := by rfl) (hbase : attributeBase o "items" X.env (eval o X.env) = eval o X.env := by rfl) (hline : (apos.endLine == mpos.line) = true := by rfl)
    (hse : starEach [Expr.Call (.Attribute o "items" apos) [] [] mpos] X.env = [(false, eval (Expr.Call (.Attribute o "items" apos) [] [] mpos) X.env)] := by rfl) :
    ME X C P (.Call (.Name "min" p) [.Call (.Attribute o "items" apos) [] [] mpos] [] pos) (.bi .minit false [mo]) := (pe_minI1 hc hg hm hd hbase hline hse).imp fun σ H Q h => by
  obtain ⟨F, ι, S, sl, d, S', rs, e, post⟩ := h
  unfold ev at e
  obtain ⟨⟨ds, S1⟩, e1, e⟩ := Option.bind_eq_some_iff.mp e
  unfold evs at e1
  obtain ⟨⟨d1, S2⟩, e2, e1⟩ := Option.bind_eq_some_iff.mp e1
  cases e1
  have e' : pure' S2 ((dicD S2 d1).bind fun kvs => match kvs with
    | [(k, v)] => some (D.b (.tup [kB k, v]))
    | _ => none) = some (d, S') := e
  unfold pure' at e'
  obtain ⟨y, e3, e4⟩ := Option.map_eq_some_iff.mp e'
  cases e4
  obtain ⟨kvs, e5, e6⟩ := Option.bind_eq_some_iff.mp e3
  refine rs.one e2 fun F1 ι1 v H1 l1 r1 q1 => ?_
  obtain ⟨a, ks, rfl, h1, h2⟩ := dicD_rel r1.rh q1 e5
  split at e6
  · rename_i k x
    cases e6
    obtain ⟨q, rest, rfl, hp, h3⟩ := h2
    cases (show rest = [] from h3)
    obtain ⟨h4, h5⟩ := relKp.mp hp
    refine ⟨a, q.1, q.2, rfl, h1, fun T hT => ?_⟩
    obtain ⟨n1, n2, n3⟩ := r1.rh.newF r1.fr (u := .tup [kV q.1, q.2]) hT
    refine (post.mono l1).new r1.rh r1.fr hT ?_
    exact ⟨T, [kV q.1, q.2], rfl, .inl (.inl upd_same), kV q.1, [q.2], rfl, RelB.mono n3.1 _ _ (kB_rel h4), q.2, [], rfl, RelB.mono n3.1 _ _ h5, rfl⟩
  · cases e6
end
end M
namespace M
open PySem PySem.Spec PyProof.Rows L2
theorem preSum_getD {is : List Int} : ∀ n : Nat, preSum (fun i => is.getD i 0) n = (is.take n).sum
  | 0 => by simp [preSum]
  | n + 1 => by
    rw [preSum, preSum_getD n, List.take_add_one, List.sum_append, List.getD_eq_getElem?_getD]
    cases is[n]? <;> simp
/-- sum(o.values()), a dict with int values -/
def tSumVals (td : TE) : TE := fun σ H Q => td σ H fun x H1 => ∃ (a : Addr) (kvs : List (L2.Key × V)) (is : List Int), x = V.ref a ∧ Rd H1 a (.dK kvs) ∧ kvs.map (·.2) = is.map V.int ∧ Q (.int is.sum) H1
section
variable {X : Cx} {o : Expr} {p pos apos mpos : Pos} {td : TE}
theorem pe_sumVals (hc : X.calm = true) (hg : Gl X "sum") (hm : X.mg "sum" = none) (hd : PE X o td) (hbase : attributeBase o "values" X.env (eval o X.env) = eval o X.env := by rfl) (hline : (apos.endLine == mpos.line) = true := by rfl)
    (hse : starEach [Expr.Call (.Attribute o "values" apos) [] [] mpos] X.env = [(false, eval (Expr.Call (.Attribute o "values" apos) [] [] mpos) X.env)] := by rfl) :
    PE X (.Call (.Name "sum" p) [.Call (.Attribute o "values" apos) [] [] mpos] [] pos) (tSumVals td) := by
  refine ⟨fun pins s σ H Q I h => ?_⟩
  refine wpAny_Call_Name_kw (ld_blt I hg hm (u := .builtin "sum") (by first | rfl | decide +kernel) ?_ (by first | decide +kernel | decide) (by first | decide +kernel | decide))
  rw [hse]
  refine PySem.callWith_builtin1 (wpAny_Call_method0_late hbase hline (thn (hd.run pins s σ H _ I h) fun v s1 ⟨x, H1, I1, r1, a, kvs, is, ex, ha, hv, q⟩ => ?_))
  subst ex
  obtain rfl : v = Value.ref a := r1
  obtain ⟨_, hsys, vs, rel, dof⟩ := dk_rd I1.hok ha
  obtain ⟨ep, dat⟩ := dof.dictAt
  have dat' := dat
  obtain ⟨ob, es, ho, ex, hdat, hko, hpr, hnd⟩ := dat'
  refine ⟨"dict", "dict.values", F.plainAttrs_dict, F.slot_dict_values, F.type_dict_values, ⟨ob, ho, ex.1⟩, fun b e => ?_, Calls.callWith_builtin rfl (PySem.evalArgs_none ?_)⟩
  · cases e
    exact ⟨ob, ho, ex.2.1⟩
  refine call_meetsIn F.slot_dict_values ⟨ob, ho, ex.1⟩ F.entry_dict_values (F.args_dict_values_1 _) (meets_dict_values (mixKind X.prog X.w) a hsys) ⟨⟨vs, dof⟩, ?_⟩
  have k1 : ∀ b u, s1.heap.get? b = some u → (s1.heap.push { cls := .type "dict_values", data := .fields #[.ref a] }).get? b = some u := fun b u e => Heap.get?_push_of_some _ e
  have dat1 : (s1.heap.push { cls := .type "dict_values", data := .fields #[.ref a] }).DictAt (mixKind X.prog X.w) a vs ep := dat.keep k1
  have hlv : vs.length = is.length := by
    have e1 := congrArg List.length hv
    rw [List.length_map, List.length_map] at e1
    rw [← e1]
    exact (KV.length rel).symm
  have hval : ∀ (i : Nat) (v : Value), (∃ k, vs[i]? = some (k, v)) → ∃ t, v = Value.int (is.getD i 0) t := fun i v ⟨k, hk⟩ => by
    obtain ⟨x, h1, h2⟩ := KV.at' rel hk
    have e1 : (kvs.map (·.2))[i]? = some x := by rw [List.getElem?_map, h1] <;> rfl
    rw [hv, List.getElem?_map] at e1
    obtain ⟨j, hj, e2⟩ := Option.map_eq_some_iff.mp e1
    subst e2
    obtain ⟨t, e3⟩ := h2
    refine ⟨t, ?_⟩
    rw [e3, List.getD_eq_getElem?_getD, hj] <;> rfl
  refine call_sum_walkAnyS (wpAny_pyIter_values (v := s1.heap.objs.size) (d := a) ⟨_, Heap.get?_push_size _ rfl, rfl, rfl⟩ dat1 ?_)
  have hlt : a < s1.heap.objs.size := Heap.lt_size ho
  have hsz : (s1.heap.push { cls := .type "dict_values", data := .fields #[.ref a] }).objs.size = s1.heap.objs.size + 1 := Heap.size_push _ _
  refine ⟨_, _, _, _, _, _, _, fun i => is.getD i 0, rfl, (Walks.dictValues (knd := mixKind X.prog X.w) (A := X.A.in1) (I.ok.hd hc) (s1.heap.push { cls := .type "dict_values", data := .fields #[.ref a] }).objs.size a (by rw [hsz]; exact Nat.ne_of_lt (Nat.lt_succ_of_lt hlt)) vs ep).toS,
    ⟨⟨_, Heap.get?_push_size _ rfl, rfl, rfl⟩, dat1.keep fun b u e => Heap.get?_push_of_some _ e⟩, fun b hb => ?_, hval, fun s' t' hm' => ?_⟩
  · show b < ((s1.heap.push _).push _).objs.size
    rw [Heap.size_push, Heap.size_push]
    rw [hsz] at hb
    rcases List.mem_cons.mp hb with e | hb
    · rw [e]
      exact Nat.lt_succ_self _
    · have e : b = a := List.mem_singleton.mp hb
      rw [e]
      exact Nat.lt_succ_of_lt (Nat.lt_succ_of_lt hlt)
  · rw [Moved.eq_with hm']
    refine ⟨.int _, H1, I1.kept (t' := s'.toks) fun b u e => hm'.heap b u (fun hmem => ?_) (Heap.get?_push_of_some _ (k1 b u e)), ⟨t', rfl⟩, ?_⟩
    · have e1 : b = (s1.heap.push { cls := .type "dict_values", data := .fields #[.ref a] }).objs.size := List.mem_singleton.mp hmem
      have e2 := Heap.lt_size e
      rw [hsz] at e1
      rw [e1] at e2
      exact absurd e2 (Nat.not_lt.mpr (Nat.le_succ _))
    · rw [preSum_getD, hlv, List.take_length]
      exact q
theorem vals_sumv {C : Ct} {F : Hp} : ∀ {kvs : List (Kd × B)} {ks : List (L2.Key × V)} {ns : List Int}, RelBk C F kvs ks → intsB (kvs.map (·.2)) = some ns → ks.map (·.2) = ns.map V.int := by
  intro kvs
  induction kvs with
  | nil =>
    intro ks ns r e
    cases (show ks = [] from r)
    cases e
    rfl
  | cons x xs ih =>
    intro ks ns r e
    obtain ⟨q, rest, rfl, hp, h3⟩ := r
    obtain ⟨h4, h5⟩ := relKp.mp hp
    obtain ⟨xk, xv⟩ := x
    cases xv with
    | int n =>
      have e' : (intsB (xs.map (·.2))).map (n :: ·) = some ns := e
      obtain ⟨m, e1, rfl⟩ := Option.map_eq_some_iff.mp e'
      rw [List.map_cons, List.map_cons, ih h3 e1]
      have h6 : q.2 = V.int n := h5
      rw [h6]
    | _ => cases e
theorem me_sumv {C : Ct} {P : Par} {mo : E} (hc : X.calm = true) (hm : X.mg "sum" = none) (hd : ME X C P o mo) (hg : Gl X "sum" := by rfl) (hbase : attributeBase o "values" X.env (eval o X.env) = eval o X.env := by rfl) (hline : (apos.endLine == mpos.line) = true := by rfl)
    (hse : starEach [Expr.Call (.Attribute o "values" apos) [] [] mpos] X.env = [(false, eval (Expr.Call (.Attribute o "values" apos) [] [] mpos) X.env)] := by rfl) :
    ME X C P (.Call (.Name "sum" p) [.Call (.Attribute o "values" apos) [] [] mpos] [] pos) (.bi .sumv false [mo]) := (pe_sumVals hc hg hm hd hbase hline hse).imp fun σ H Q h => by
  obtain ⟨F, ι, S, sl, d, S', rs, e, post⟩ := h
  unfold ev at e
  obtain ⟨⟨ds, S1⟩, e1, e⟩ := Option.bind_eq_some_iff.mp e
  unfold evs at e1
  obtain ⟨⟨d1, S2⟩, e2, e1⟩ := Option.bind_eq_some_iff.mp e1
  cases e1
  have e' : pure' S2 ((dicD S2 d1).bind fun kvs => (intsB (kvs.map (·.2))).map fun ns => D.b (.int ns.sum)) = some (d, S') := e
  unfold pure' at e'
  obtain ⟨y, e3, e4⟩ := Option.map_eq_some_iff.mp e'
  cases e4
  obtain ⟨kvs, e5, e6⟩ := Option.bind_eq_some_iff.mp e3
  obtain ⟨ns, e7, rfl⟩ := Option.map_eq_some_iff.mp e6
  refine rs.one e2 fun F1 ι1 v H1 l1 r1 q1 => ?_
  obtain ⟨a, ks, rfl, h1, h2⟩ := dicD_rel r1.rh q1 e5
  exact ⟨a, ks, ns, rfl, h1, vals_sumv h2 e7, (post.mono l1).here r1.rh r1.fr rfl⟩
end
end M
/-! ### a dict of one's own is walked -/
namespace M
open PySem PySem.Spec PyProof.Rows L2
section
variable {C : Ct} {F : Hp} {ι : List Addr} {S : Store} {H : Hp}
theorem RH.lockD (r : RH C F ι S H) (fr : Fre F ι) {n : Nat} {a : Addr} {kvs : List (Kd × B)} {ks : List (L2.Key × V)} (ha : ι[n]? = some a) (hS : S[n]? = some (.dic kvs)) (h1 : H a = some (.dK ks)) (h2 : RelBk C F kvs ks) (od : Obj) :
    RH (C.w (upd C.tp a (.frz od (.dK ks)))) F ι (S.set n (.lockd kvs)) (upd H a (.frz od (.dK ks))) := by
  refine ⟨fun b x e => ?_, by rw [List.length_set]; exact r.len, r.nd, fun m b x hb hx => ?_, fun b x e => ?_⟩
  · rw [upd_ne fun z => by rw [z, fr.at ha] at e; cases e]
    exact r.fz b x e
  · by_cases hm : m = n
    · subst hm
      rw [ha] at hb
      cases hb
      rw [List.getElem?_set_self (List.getElem?_eq_some_iff.mp hS).1] at hx
      cases hx
      exact ⟨od, ks, upd_same, RelBk.w _ _ h2, upd_same⟩
    · rw [List.getElem?_set_ne (Ne.symm hm)] at hx
      have hba : b ≠ a := fun z => hm (nodup_get r.nd hb (z ▸ ha))
      exact RelO.w (fun od ks e => (upd_ne hba).trans e) ((r.ob m b x hb hx).at (by rw [upd_ne hba]) fun c hc => by
        rw [upd_ne fun z => by rw [z, h1] at hc; cases hc]
        exact hc)
  · by_cases hb : b = a
    · subst hb
      have e' : upd C.tp b (HO.frz od (.dK ks)) b = some x := e
      rw [upd_same] at e' ⊢
      cases e'
      exact ⟨rfl, fr.at ha, .inr ⟨od, ks, rfl⟩, fun _ z => nomatch z⟩
    · have e' : upd C.tp a (HO.frz od (.dK ks)) b = some x := e
      rw [upd_ne hb] at e' ⊢
      exact r.tm b x e'
theorem RH.unlockD {n : Nat} {a : Addr} {ys : List (Kd × B)} {ks : List (L2.Key × V)} {od : Obj} (r : RH (C.w (upd C.tp a (.frz od (.dK ks)))) F ι S H) (fr : Fre F ι) (hn : C.tp a = none) (ha : ι[n]? = some a) (hS : S[n]? = some (.lockd ys)) :
    RH C F ι (S.set n (.dic ys)) (upd H a (.dK ks)) := by
  have hH : H a = some (.frz od (.dK ks)) := (r.tm a _ (show upd C.tp a (HO.frz od (.dK ks)) a = some _ from upd_same)).1
  refine ⟨fun b x e => ?_, by rw [List.length_set]; exact r.len, r.nd, fun m b x hb hx => ?_, fun b x e => ?_⟩
  · rw [upd_ne fun z => by rw [z, fr.at ha] at e; cases e]
    exact r.fz b x e
  · by_cases hm : m = n
    · subst hm
      rw [ha] at hb
      cases hb
      rw [List.getElem?_set_self (List.getElem?_eq_some_iff.mp hS).1] at hx
      cases hx
      obtain ⟨o', ks', g1, g2, _⟩ := r.ob m a _ ha hS
      rw [hH] at g1
      cases g1
      exact ⟨ks, upd_same, RelBk.w (C := C.w (upd C.tp a (.frz od (.dK ks)))) (tp := C.tp) _ _ g2⟩
    · rw [List.getElem?_set_ne (Ne.symm hm)] at hx
      have hba : b ≠ a := fun z => hm (nodup_get r.nd hb (z ▸ ha))
      exact RelO.w (C := C.w (upd C.tp a (.frz od (.dK ks)))) (tp := C.tp) (fun od' ks' e => (upd_ne hba).symm.trans e) ((r.ob m b x hb hx).at (by rw [upd_ne hba]) fun c hc => by
        rw [upd_ne fun z => by rw [z, hH] at hc; cases hc]
        exact hc)
  · have hb : b ≠ a := fun z => by rw [z, hn] at e; cases e
    have e' : upd C.tp a (HO.frz od (.dK ks)) b = some x := by rw [upd_ne hb]; exact e
    obtain ⟨g1, g2, g3, g4⟩ := r.tm b x e'
    exact ⟨by rw [upd_ne hb]; exact g1, g2, g3, g4⟩
end
theorem me_lkd {X : Cx} {C : Ct} {P : Par} {ee : Expr} {me : E} (i : Nat) (h : ∀ tp, ME X (C.w tp) P ee me) : ME X C P ee (.lkd i me) :=
  (pe_lock (t := fun σ H Q => ∃ tp, rdE (C.w tp) P me σ H Q) ⟨fun pins s σ H Q I ⟨tp, h'⟩ => (h tp).run pins s σ H Q I h'⟩).imp fun σ H Q h => by
  obtain ⟨F, ι, S, sl, d, S', rs, e, post⟩ := h
  unfold ev at e
  split at e <;> try contradiction
  rename_i n hsl
  split at e <;> try contradiction
  rename_i kvs hS
  obtain ⟨⟨d2, S2⟩, e1, e⟩ := Option.bind_eq_some_iff.mp e
  obtain ⟨S3, e2, e⟩ := Option.map_eq_some_iff.mp e
  cases e
  obtain ⟨a, ha, ks, h1, h2⟩ := rs.rh.addr hS
  have hL : lockAll S [.ref n] = S.set n (.lockd kvs) := by
    show (match S[n]? with
      | some (.lst xs) => S.set n (.lockl xs)
      | some (.dic kvs) => S.set n (.lockd kvs)
      | _ => S) = _
    rw [hS]
  rw [hL] at e1
  have hU : ∃ ys, S2[n]? = some (.lockd ys) ∧ S' = S2.set n (.dic ys) := by
    have e2' : (unlock S S2 (.ref n)).bind (fun S2 => some S2) = some S' := e2
    obtain ⟨S4, e3, e4⟩ := Option.bind_eq_some_iff.mp e2'
    cases e4
    unfold unlock at e3
    dsimp only at e3
    rw [hS] at e3
    dsimp only at e3
    split at e3
    · rename_i ys hy
      cases e3
      exact ⟨ys, hy, rfl⟩
    · cases e3
  obtain ⟨ys, hy, rfl⟩ := hU
  have hn : C.tp a = none := by
    cases q : C.tp a with
    | none => rfl
    | some u =>
      obtain ⟨g1, g2, g3, g4⟩ := rs.rh.tm a u q
      rw [h1] at g1
      cases g1
      rcases g3 with g3 | ⟨_, _, g3⟩
      · exact (g3 (List.mem_of_getElem? ha)).elim
      · cases g3
  refine ⟨a, .dK ks, h1, trivial, fun od => ⟨upd C.tp a (.frz od (.dK ks)), F, ι, S.set n (.lockd kvs), sl, d2, S2, ⟨rs.rh.lockD rs.fr ha hS h1 h2 od, rs.fr, rs.rs.w⟩, e1, fun F' ι' v H' l rh' fr' rv => ?_⟩⟩
  refine ⟨(rh'.tm a _ (show upd C.tp a (HO.frz od (.dK ks)) a = some _ from upd_same)).1, ?_⟩
  exact post F' ι' v _ l (rh'.unlockD fr' hn (l.get ha) hy) fr' (RelD.w (C := C.w (upd C.tp a (.frz od (.dK ks)))) (tp := C.tp) _ _ rv)
end M
/-! ### range with a step; an item of a list display -/
namespace M
open PySem PySem.Spec PyProof.Rows L2
theorem mi_r3 {X : Cx} {C : Ct} {P : Par} {tg a b c : Expr} {ma mb mc : E} {p pos : Pos} (hg : Gl X "range") (hm : X.mg "range" = none) (ha : ME X C P a ma) (hb : ME X C P b mb) (hc : ME X C P c mc) (hs : starEach [a, b, c] X.env = (false, eval a X.env) :: starEach [b, c] X.env := by rfl) (hs2 : starEach [b, c] X.env = (false, eval b X.env) :: starEach [c] X.env := by rfl) (hs3 : starEach [c] X.env = (false, eval c X.env) :: starEach [] X.env := by rfl) (hpl : (backTo pos (starEach [b, c] X.env)).any (·.1) = false := by rfl) :
    MI X C P tg (.Call (.Name "range" p) [a, b, c] [] pos) .r3 [ma, mb, mc] := (pi_range3 hg hm (ma_cons ha (ma_cons hb (ma_cons hc ma_nil hs3) hs2) hs) hs hpl).imp fun σ H R h => by
  obtain ⟨F, ι, S, sl, ds, S1, xs, rs, e1, e2, nd, k⟩ := h
  refine rs.args e1 fun F1 ι1 vs H1 l1 r1 q1 => ?_
  unfold items at e2
  split at e2 <;> try contradiction
  split at e2
  · rename_i i j c' _ hj
    cases e2
    obtain ⟨v, r, rfl, rv, q2⟩ := q1
    obtain ⟨w, r, rfl, rw', q3⟩ := q2
    obtain ⟨u, r, rfl, ru, q4⟩ := q3
    cases (show r = [] from q4)
    cases (show v = _ from rv)
    cases (show w = _ from rw')
    cases (show u = _ from ru)
    obtain ⟨h1, h2, h3, h4⟩ := hj
    exact ⟨i, j, c', _, rfl, ⟨h1, h2, h3, (Int.toNat_of_nonneg h4).symm⟩, k F1 ι1 H1 _ l1 (r1.rh.lockAll nd) r1.fr (it_rngC _ _ _ _ _ _)⟩
  · cases e2
theorem RH.drop {C : Ct} {F : Hp} {ι : List Addr} {S : Store} {H : Hp} {p : Addr} {u : HO} (r : RH (C.w (upd C.tp p u)) F ι S H) (hf : ¬ Fz u) (hn : C.tp p = none) : RH C F ι S H :=
  ⟨r.fz, r.len, r.nd, fun n a o ha ho => RelO.w (C := C.w (upd C.tp p u)) (tp := C.tp) (fun od ks e => by
    have e' : upd C.tp p u a = some (.frz od (.dK ks)) := e
    by_cases h : a = p
    · rw [h, upd_same] at e'
      exact (hf ⟨od, ks, Option.some.inj e'⟩).elim
    · rw [upd_ne h] at e'
      exact e') (r.ob n a o ha ho), fun b x e => by
    have hb : b ≠ p := fun z => by rw [z, hn] at e; cases e
    exact r.tm b x (show upd C.tp p u b = some x by rw [upd_ne hb]; exact e)⟩
theorem RelDs.len {C : Ct} {F : Hp} {ι : List Addr} : ∀ {ds : List D} {vs : List V}, RelDs C F ι ds vs → ds.length = vs.length
  | [], _, h => by
    cases (show _ = [] from h)
    rfl
  | d :: ds, _, h => by
    obtain ⟨v, r, rfl, _, h2⟩ := h
    rw [List.length_cons, List.length_cons, RelDs.len h2]
theorem RelDs.at_ {C : Ct} {F : Hp} {ι : List Addr} : ∀ {ds : List D} {vs : List V} {j : Nat} {z : D}, RelDs C F ι ds vs → ds[j]? = some z → ∃ u, vs[j]? = some u ∧ RelD C F ι z u
  | [], _, _, _, _, e => by simp at e
  | d :: ds, _, 0, z, h, e => by
    obtain ⟨v, r, rfl, h1, h2⟩ := h
    simp at e
    subst e
    exact ⟨v, rfl, h1⟩
  | d :: ds, _, j + 1, z, h, e => by
    obtain ⟨v, r, rfl, h1, h2⟩ := h
    exact RelDs.at_ (j := j) h2 (by simpa using e)
theorem me_pick {X : Cx} {C : Ct} {P : Par} {pos pos2 : Pos} {es : List Expr} {b : Expr} {ms : List E} {mb : E} (hK : C.K = X.K) (h : MA X C P es ms) (hi : ∀ tp, ME X (C.w tp) P b mb) (hs : PlainIx b := by intro _ _; rfl) : ME X C P (.Subscript (.List es pos2) b pos) (.pick ms mb) :=
  (pe_ix ix_seq (pe_lst h) (tb := fun σ H Q => ∃ tp, rdE (C.w tp) P mb σ H Q) ⟨fun pins s σ H Q I ⟨tp, h'⟩ => (hi tp).run pins s σ H Q I h'⟩ hs).imp fun σ H Q h => by
  obtain ⟨F, ι, S, sl, d, S', rs, e, post⟩ := h
  unfold ev at e
  obtain ⟨⟨ds, S1⟩, e1, e⟩ := Option.bind_eq_some_iff.mp e
  obtain ⟨⟨y, S2⟩, e2, e⟩ := Option.bind_eq_some_iff.mp e
  dsimp only at e
  split at e <;> try contradiction
  rename_i k
  split at e <;> try contradiction
  rename_i hz
  obtain ⟨z, e3, e4⟩ := Option.map_eq_some_iff.mp e
  cases e4
  refine rs.args e1 fun F1 ι1 vs H1 l1 r1 q1 => ⟨SZ_le (by rw [← q1.len]; exact hz), fun p hp => ?_⟩
  have hpt : C.tp p = none := by
    cases q : C.tp p with
    | none => rfl
    | some u =>
      rw [(r1.rh.tm p u q).1] at hp
      cases hp
  have rs2 : RS (C.w (upd C.tp p (.lst vs))) F1 ι1 sl S1 σ (upd H1 p (.lst vs)) := ⟨r1.rh.tmNew hp (fun _ z => nomatch z), r1.fr, r1.rs.w⟩
  refine ⟨upd C.tp p (.lst vs), rs2.one e2 fun F2 ι2 w H2 l2 r2 q2 => ?_⟩
  cases (show w = _ from q2)
  have hH : H2 p = some (.lst vs) := (r2.rh.tm p _ (show upd C.tp p (HO.lst vs) p = some _ from upd_same)).1
  unfold L2.atI at e3
  obtain ⟨j, e5, e6⟩ := Option.bind_eq_some_iff.mp e3
  obtain ⟨u, h3, h4⟩ := q1.at_ e6
  have h5 : L2.atI vs k = some u := by
    unfold L2.atI
    rw [← q1.len, e5]
    exact h3
  exact .inl ⟨p, vs, k, u, rfl, rfl, .inl (.inl hH), h5, post F2 ι2 u H2 (l1.trans l2) (r2.rh.drop (fun ⟨_, _, z⟩ => nomatch z) hpt) r2.fr (h4.mono l2)⟩
/-- a value laid down for good at once -/
theorem me_fz {X : Cx} {C : Ct} {T : Tab} {k b : Nat} {ee : Expr} {me : E} (h : ME X C (par T k b) ee me) : ME X C (par T k b) ee (.fz me) := (pe_gh h).imp fun σ H Q q => by
  obtain ⟨F, ι, S, sl, d, S', rs, e, post⟩ := q
  unfold ev at e
  obtain ⟨⟨d2, S2⟩, e1, e⟩ := Option.bind_eq_some_iff.mp e
  dsimp only at e
  split at e
  · rename_i hn
    obtain ⟨y, e2, e⟩ := Option.map_eq_some_iff.mp e
    cases e
    refine ⟨F, ι, S, sl, d2, S2, rs, e1, fun F' ι' v H' l rh fr r => ?_⟩
    have st0 : Stp 0 S S2 := ev_stp (par_stp T k b).1 (par_stp T k b).2 me sl S _ e1 0 (Nat.zero_le _) (Nat.zero_le _)
    have st : Stp S.length S S2 := ⟨st0.len, st0.lkl, st0.lkd, fun n hl c fs hs => by
      have hm : O.ins c fs ∈ S2.take S.length := List.mem_of_getElem? (i := n) (by rw [List.getElem?_take_of_lt hl]; exact hs)
      exact absurd (List.all_eq_true.mp hn _ hm) (fun h : false = true => Bool.noConfusion h)⟩
    exact frz_end rs.rh l rh fr st r e2 fun F2 H2 l2 rh2 fr2 rv => post F2 ι v H2 l2 rh2 fr2 rv
  · cases e
/-- as frz_end, with what the freezing keeps of the old frozen things -/
theorem frz_end2 {C : Ct} {F F2 : Hp} {ι ι2 : List Addr} {S S2 : Store} {H H2 : Hp} {d : D} {y : B} {v : V} {Q : Hp → Prop} (rh0 : RH C F ι S H) (l : Le F ι F2 ι2) (rh : RH C F2 ι2 S2 H2) (fr : Fre F2 ι2) (st : Stp S.length S S2) (r : RelD C F2 ι2 d v) (e : frz S2 S.length 8 d = some y)
    (K : ∀ F' H', Sub F2 F' → Le F ι F' ι → RH C F' ι (S2.take S.length) H' → Fre F' ι → RelB C F' y v → Q H') : Gh H2 Q := by
  refine frz_go 8 d y v F2 H2 (rh.wk fr S.length) r e fun F' H' l2 _ w r' => .here ?_
  obtain ⟨l1, κ, rfl⟩ := l
  have hl := rh0.len
  have hs := st.len
  refine K F' H' l2 ⟨l1.trans l2, [], by simp⟩ ⟨w.fz, by rw [List.length_take, hl]; omega, (List.nodup_append.mp rh.nd).1, fun n a o ha ho => ?_, fun a o e => ?_⟩ (fun a ha => ?_) r'
  · have hn : n < S.length := by
      rw [← hl]
      exact (List.getElem?_eq_some_iff.mp ha).1
    rw [List.getElem?_take_of_lt hn] at ho
    have ha2 : (ι ++ κ)[n]? = some a := by
      rw [List.getElem?_append_left (by omega)]
      exact ha
    obtain ⟨q, _⟩ := w.lo n a o hn ha2 ho
    cases o with
    | lst xs => exact q
    | dic xs => exact q
    | lockl xs => exact q
    | lockd xs => exact q
    | ins c fs =>
      obtain ⟨Da, dx, gs, h0, h1, h2, h3⟩ := q
      refine ⟨Da, dx, gs, h0, h1, h2, h3.cut fun p hp => ?_⟩
      obtain ⟨fs0, e0, q0⟩ := st.cls n hn c fs ho
      rcases q0 p hp with hp | hp
      · obtain ⟨_, _, _, _, _, _, z⟩ := rh0.ob n a _ ha e0
        exact z.blD p hp
      · exact blD_b hp
  · obtain ⟨h1, h2, h3, h4⟩ := w.tm a o e
    exact ⟨h1, h2, h3.imp (fun h3 z => h3 (List.mem_append_left _ z)) id, h4⟩
  · obtain ⟨n, hn, e⟩ := List.getElem_of_mem ha
    have ha' : ι[n]? = some a := by rw [← e]; exact List.getElem?_eq_getElem hn
    have ha2 : (ι ++ κ)[n]? = some a := by
      rw [List.getElem?_append_left hn]
      exact ha'
    have hS : n < S2.length := by omega
    exact (w.lo n a _ (by omega) ha2 (List.getElem?_eq_getElem hS)).2
/-! ### some statements together, at whose end a name's thing is laid down for good -/
inductive MSl (X : Cx) (C : Ct) (P : Par) : List Stmt → List St → Prop where
  | nil : MSl X C P [] []
  | cons {s : Stmt} {m : St} {ss : List Stmt} {ms : List St} : MS X C P s m → MSl X C P ss ms → MSl X C P (s :: ss) (m :: ms)
theorem blk_chain {X : Cx} {C : Ct} {P : Par} {r : List Stmt} {t : TS} (hr : PSs X r t) {a : List Stmt} {ma : List St} (h : MSl X C P a ma) : PSs X (a ++ r) (fun D σ H => ∃ F ι S sl sl2 S2, RS C F ι sl S σ H ∧ execs P ma sl S = some (.nx, sl2, S2) ∧ ∀ F' ι' σ' H', Le F ι F' ι' → RS C F' ι' sl2 S2 σ' H' → t D σ' H') := by
  induction h with
  | nil =>
    refine hr.imp fun D σ H q => ?_
    obtain ⟨F, ι, S, sl, sl2, S2, rs, e, k⟩ := q
    cases e
    exact k F ι σ H (Le.refl _ _) rs
  | cons h1 _ ih =>
    refine (pss_cons h1 ih).imp fun D σ H q => ?_
    obtain ⟨F, ι, S, sl, sl2, S2, rs, e, k⟩ := q
    unfold execs at e
    obtain ⟨⟨f, sl3, S3⟩, e1, e⟩ := Option.bind_eq_some_iff.mp e
    refine rs.st e1 ?_
    cases f with
    | nx => exact fun F' ι' σ' H' l rs' => ⟨F', ι', S3, sl3, sl2, S2, rs', e, fun F2 ι2 σ2 H2 l2 rs2 => k F2 ι2 σ2 H2 (l.trans l2) rs2⟩
    | ct => cases e
    | rt d => cases e
theorem pss_gh0 {X : Cx} {sts : List Stmt} {t : TS} (h : PSs X sts t) : PSs X sts (fun D σ H => Gh H fun H' => t D σ H') := ⟨fun pins s σ H D I q => by
  obtain ⟨H', I', q'⟩ := q.run I
  exact h.run pins s σ H' D I' q'⟩
theorem mss_blk {X : Cx} {C : Ct} {T : Tab} {k b : Nat} {a r : List Stmt} {ma mr : List St} (i : Nat) (h : MSl X C (par T k b) a ma) (hr : MSs X C (par T k b) r mr) : MSs X C (par T k b) (a ++ r) (.blk i ma :: mr) := (blk_chain (pss_gh0 hr) h).imp fun D σ H q => by
  obtain ⟨F, ι, S, sl, rr, rs, e, post⟩ := q
  unfold execs at e
  obtain ⟨⟨f1, sl3, S3⟩, e1, e⟩ := Option.bind_eq_some_iff.mp e
  unfold exec at e1
  obtain ⟨⟨f, sl2, S2⟩, e2, e1⟩ := Option.bind_eq_some_iff.mp e1
  cases f <;> try (cases e1; done)
  dsimp only at e1
  split at e1
  · rename_i hc
    rw [Bool.and_eq_true] at hc
    split at e1
    · rename_i d hd
      obtain ⟨y, e3, e1⟩ := Option.map_eq_some_iff.mp e1
      cases e1
      refine ⟨F, ι, S, sl, sl2, S2, rs, e2, fun F2 ι2 σ2 H2 l rs2 => ?_⟩
      obtain ⟨v, hv, rv⟩ := rs2.rs.2 i d hd
      have st0 : Stp 0 S S2 := execs_stp (par_stp T k b).1 (par_stp T k b).2 ma sl S _ e2 0 (Nat.zero_le _) (Nat.zero_le _)
      have st : Stp S.length S S2 := ⟨st0.len, st0.lkl, st0.lkd, fun n hl c fs hs => by
        have hm : O.ins c fs ∈ S2.take S.length := List.mem_of_getElem? (i := n) (by rw [List.getElem?_take_of_lt hl]; exact hs)
        exact absurd (List.all_eq_true.mp hc.1 _ hm) (fun h : false = true => Bool.noConfusion h)⟩
      refine frz_end2 rs.rh l rs2.rh rs2.fr st rv e3 fun F' H' sb l' rh' fr' rb => ?_
      refine RS.sts (F := F') (ι := ι) (S := S2.take S.length) (sl := sl2.set i (some (.b y))) (r := rr) ⟨rh', fr', ⟨by rw [List.length_set]; exact rs2.rs.1, fun j x hx => ?_⟩⟩ e (post.mono l')
      by_cases hj : i = j
      · subst hj
        have hil : i < sl2.length := (List.getElem?_eq_some_iff.mp hd).1
        rw [List.getElem?_set_self hil] at hx
        cases hx
        exact ⟨v, hv, rb⟩
      · rw [List.getElem?_set_ne hj] at hx
        obtain ⟨u, hu, ru⟩ := rs2.rs.2 j x hx
        refine ⟨u, hu, ?_⟩
        have hlow : low S.length (some x) = true := List.all_eq_true.mp hc.2 _ (List.mem_of_getElem? (i := j) (by rw [List.getElem?_set_ne hj]; exact hx))
        cases x with
        | b z => exact RelB.mono sb z u ru
        | ref m =>
          obtain ⟨a, ha, hu'⟩ := ru
          have hm : m < S.length := of_decide_eq_true hlow
          obtain ⟨_, κ, rfl⟩ := l
          rw [List.getElem?_append_left (by rw [rs.rh.len]; exact hm)] at ha
          exact ⟨a, ha, hu'⟩
        | mix xs => cases hlow
    · cases e1
  · cases e1
theorem mss_blkn {X : Cx} {C : Ct} {T : Tab} {k b : Nat} {l : List Stmt} {ma mr : List St} (n i : Nat) (h : MSl X C (par T k b) (l.take n) ma) (hr : MSs X C (par T k b) (l.drop n) mr) : MSs X C (par T k b) l (.blk i ma :: mr) := by
  have := mss_blk i h hr
  rwa [List.take_append_drop] at this
end M
namespace M
open PySem PySem.Spec PyProof.Rows L2 HT
section
variable {prog : Program} {w : World} {A : Around} {E : Value → Shared → Prop} {s : Shared}
theorem rv_adjust (n : Nat) : Builtin.Slice.sliceAdjust none none (-1) (n : Int) = ((n : Int) - 1, -1) := by
  rfl
theorem rv_places (n : Nat) : Builtin.Slice.slicePlaces ((n : Int) - 1) (-1) (-1) = n := by
  unfold Builtin.Slice.slicePlaces
  simp
  omega
theorem rv_pick (xs : Array Value) : ((List.range xs.size).filterMap fun (m : Nat) => xs[((xs.size : Int) - 1 + (m : Int) * -1).toNat]?).toArray = xs.toList.reverse.toArray := by
  have e : ∀ n, n ≤ xs.size → ((List.range n).filterMap fun (m : Nat) => xs[((xs.size : Int) - 1 + (m : Int) * -1).toNat]?) = (xs.toList.drop (xs.size - n)).reverse := by
    intro n
    induction n with
    | zero =>
      intro _
      rw [Nat.sub_zero, List.drop_eq_nil_of_le (by simp)]
      rfl
    | succ n ih =>
      intro hn
      rw [List.range_succ, List.filterMap_append, ih (by omega)]
      have h1 : ((xs.size : Int) - 1 + (n : Int) * -1).toNat = xs.size - (n + 1) := by omega
      have hl : xs.size - (n + 1) < xs.toList.length := by rw [Array.length_toList]; omega
      have h2 : xs.toList.drop (xs.size - (n + 1)) = xs.toList[xs.size - (n + 1)] :: xs.toList.drop (xs.size - n) := by
        rw [List.drop_eq_getElem_cons hl, show xs.size - (n + 1) + 1 = xs.size - n by omega]
      rw [h2, List.reverse_cons]
      congr 1
      have hl2 : xs.size - (n + 1) < xs.size := by omega
      rw [List.filterMap_cons, h1, Array.getElem?_eq_getElem hl2]
      simp
  rw [e xs.size (Nat.le_refl _), Nat.sub_self, List.drop_zero]
theorem sliceApplied_rev {sl : Addr} {t : Tok} {n : Nat} {Q : Int × Int × Nat → Shared → Prop} (hs : s.heap.IsSliceOf sl .none .none (.int (-1) t)) (h : Q ((n : Int) - 1, -1, n) s) : wpAny (model prog w) A (Builtin.Slice.sliceApplied (.ref sl) (pure (n : Int))) Q E s := by
  obtain ⟨os, hos, hcs, hds⟩ := id hs
  unfold Builtin.Slice.sliceApplied Builtin.Slice.sliceFields
  refine wpAny_bind (wpAny_bind (wpAny_field hos hds (x := .none) rfl (wpAny_bind (wpAny_field hos hds (x := .none) rfl (wpAny_bind (wpAny_field hos hds (x := .int (-1) t) rfl (wpAny_pure ?_)))))))
  refine wpAny_bind (slicePart_int ?_)
  show wpAny _ _ (if ((-1 : Int) == 0) = true then _ else _) _ _ s
  rw [if_neg (by decide)]
  refine wpAny_bind (slicePart_none (wpAny_bind (slicePart_none (wpAny_bind (wpAny_pure ?_)))))
  show wpAny _ _ (match Builtin.Slice.sliceAdjust none none (-1) (n : Int) with | (lo, hi) => pure (lo, (-1 : Int), Builtin.Slice.slicePlaces lo hi (-1))) _ _ s
  rw [rv_adjust]
  show wpAny _ _ (pure ((n : Int) - 1, (-1 : Int), Builtin.Slice.slicePlaces ((n : Int) - 1) (-1) (-1))) _ _ s
  rw [rv_places]
  exact wpAny_pure h
theorem getItem_tuple_rev {a sl : Addr} {items : Array Value} {t : Tok} {Q : Value → Shared → Prop} (hT : IsTup s.heap a items) (hs : s.heap.IsSliceOf sl .none .none (.int (-1) t))
    (h : Q (.ref s.heap.objs.size) { s with heap := s.heap.push { cls := .type "tuple", data := .seq items.toList.reverse.toArray } }) (hsz : items.size ≤ sizeLine) : wpAny (model prog w) A (getItem (.ref a) (.ref sl)) Q E s := by
  have hrev : sizeOk (.seq items.toList.reverse.toArray) := by
    show items.toList.reverse.toArray.size ≤ sizeLine
    simpa using hsz
  obtain ⟨os, hos, hcs, hds⟩ := id hs
  have hTs : s.TypeIs (.ref sl) "slice" := ⟨os, hos, hcs⟩
  unfold getItem
  try with_reducible refine wpAny_holding ?_
  first | refine wpAny_bind (wpAny_pure ?_) | skip
  refine wpAny_bind (wpAny_sequenceKey hT.typeIs (by decide) ?_)
  refine wpAny_bind (wpAny_callSpecial?_slot (name := Str.ofString "__getitem__") hT.typeIs PyProof.Rows.slot_tuple_getitem
    (wpAny_call_entry PyProof.Rows.slot_tuple_getitem hT.typeIs entry_tuple_getitem ?_ (args_tuple_getitem _ _)))
  show wpAny _ _ (Builtin.Tuple.tupleItemsOf (.ref a) >>= _) _ _ s
  refine wpAny_bind (tupleItemsOf_ hT ?_)
  refine wpAny_bind (wpAny_typeOf hTs ?_)
  rw [if_pos (by decide)]
  refine wpAny_bind (sliceApplied_rev (n := items.size) hs ?_)
  have hno : ¬ ((((items.size : Int) - 1) == 0 && (-1 : Int) == 1 && items.size == items.size) = true) := by
    intro q
    rw [Bool.and_eq_true, Bool.and_eq_true] at q
    exact absurd q.1.2 (by decide)
  show wpAny _ _ (if (((items.size : Int) - 1) == 0 && (-1 : Int) == 1 && items.size == items.size) = true then _ else _) _ _ s
  rw [if_neg hno, rv_pick]
  first
    | exact wpAny_bind (m := Builtin.Tuple.tupleExact _) (wpAny_newObj_type (wpAny_pure ⟨_, rfl, wpAny_pure h⟩) hrev)
    | exact wpAny_bind (m := Builtin.Tuple.tupleExact _) (wpAny_newObj_type (wpAny_bind (wpAny_pure (wpAny_pure ⟨_, rfl, wpAny_pure h⟩))) hrev)
    | exact wpAny_bind (wpAny_bind (m := Builtin.Tuple.tupleExact _) (wpAny_newObj_type (wpAny_pure (wpAny_pure ⟨_, rfl, wpAny_pure h⟩)) hrev))
    | exact wpAny_bind (wpAny_bind (m := Builtin.Tuple.tupleExact _) (wpAny_newObj_type (wpAny_pure ⟨_, rfl, wpAny_pure h⟩) hrev))
end
section
variable {X : Cx}
def tRevT (K : PySem.W.Frag) (te : TE) : TE := fun σ H Q => te σ H fun x H1 => ∃ a xs, x = .ref a ∧ SqT K H1 a xs ∧ ∀ p, H1 p = none → Q (.ref p) (upd H1 p (.tup xs.reverse))
theorem pe_revT {e : Expr} {te : TE} {k : Nat} {p1 p2 p3 pos : Pos} (he : PE X e te) : PE X (.Subscript e (.Slice none none (some (.UnaryOp .USub (.Constant (.int 1) k p1) p2)) p3) pos) (tRevT X.K te) := by
  refine ⟨fun pins s σ H Q I h => ?_⟩
  refine Subscript_ (thn (he.run pins s σ H _ I h) fun v s1 ⟨x, H1, I1, r1, a, xs, ex, hx, q⟩ => ?_)
  subst ex
  cases r1
  have hst : PO X (some (.UnaryOp .USub (.Constant (.int 1) k p1) p2)) (tPart (tUn (rU fun i => .int (-i)) (tC (.int 1)))) := po_some (pe_un un_neg pe_int)
  refine wpAny_Slice (thn (po_none.run pins s1 σ H1 (fun o H2 => o = none ∧ H2 = H1) I1 ⟨rfl, rfl⟩) fun vl s2 ⟨l, H2, I2, pl, el, e2⟩ => ?_)
  subst el
  subst e2
  refine thn (po_none.run pins s2 σ H2 (fun o H3 => o = none ∧ H3 = H2) I2 ⟨rfl, rfl⟩) fun vu s3 ⟨u, H3, I3, pu, eu, e3⟩ => ?_
  subst eu
  subst e3
  refine thn (hst.run pins s3 σ H3 (fun o H4 => o = some (-1) ∧ H4 = H3) I3 ⟨1, rfl, -1, rfl, rfl, rfl⟩) fun vs s4 ⟨o, H4, I4, ps, eo, e4⟩ => ?_
  subst eo
  subst e4
  cases pl
  cases pu
  obtain ⟨t, rfl⟩ : ∃ t, vs = .int (-1) t := by cases ps with | int _ t => exact ⟨t, rfl⟩
  have I5 : Inv X pins σ H4 { s4 with heap := s4.heap.push { cls := .type "slice", data := .fields #[.none, .none, .int (-1) t] } } := I4.kept (t' := s4.toks) fun b ob q => Heap.get?_push_of_some _ q
  obtain ⟨its, r, hT, hz⟩ := I5.tuple hx
  have hlen := r.length
  show wpAny (model X.prog X.w) X.A (subscriptTail e (.Slice none none (some (.UnaryOp .USub (.Constant (.int 1) k p1) p2)) p3) (.ref a) (.ref s4.heap.objs.size)) (EP X pins σ Q) X.xe { s4 with heap := s4.heap.push { cls := .type "slice", data := .fields #[.none, .none, .int (-1) t] } }
  refine tail_any (ops := [.ref a, .ref s4.heap.objs.size]) hT.typeIs (PyProof.Rows.slot_tuple_getitem.lookup) ?_ (by with_unfolding_all rfl)
  refine getItem_tuple_rev hT (Heap.IsSliceOf.new _ _ _ _) ?_ (by rw [List.size_toArray]; omega)
  refine ⟨.ref _, _, I5.laid (t' := s4.toks) (o := .tup xs.reverse) (fun b ob q => Heap.get?_push_of_some _ q) (Nat.le_refl _) ?_, rfl, q _ (I5.hok.fresh (Nat.le_refl _))⟩
  exact ⟨by rw [List.length_reverse]; exact hz, _, r.reverse, ⟨_, Heap.get?_push_size _ rfl, rfl, 0, rfl⟩⟩
end
section
variable {X : Cx} {C : Ct} {P : Par} {pos : Pos} {a : Expr} {ma : E}
theorem me_revt {k : Nat} {p1 p2 p3 : Pos} (hK : C.K = X.K) (ha : ME X C P a ma) : ME X C P (.Subscript a (.Slice none none (some (.UnaryOp .USub (.Constant (.int 1) k p1) p2)) p3) pos) (.revt ma) := by
  refine (pe_revT ha).imp fun σ H Q h => ?_
  obtain ⟨F, ι, S, sl, d, S', rs, e, post⟩ := h
  unfold ev at e
  obtain ⟨⟨x, S1⟩, e1, e⟩ := Option.bind_eq_some_iff.mp e
  dsimp only at e
  split at e
  · cases e
    refine rs.one e1 fun F1 ι1 v H1 l1 r1 q1 => ?_
    obtain ⟨a, vs, rfl, h1, h2⟩ := q1
    exact ⟨a, vs, rfl, hK ▸ sqT_mono r1.rh.fz h1, fun p hp => (post.mono l1).new r1.rh r1.fr hp ⟨p, _, rfl, .inl (.inl upd_same), RelBs.mono (r1.rh.newF r1.fr (u := .tup vs.reverse) hp).2.2.1 _ _ h2.reverse⟩⟩
  · cases e
end
end M
/-! MCW: == of own classes, isinstance of own classes. -/
namespace M
open PySem PySem.Spec PyProof.Rows L2
/-! ### == of tuples, both answers -/
section
open PySem.SeqAt AutoSeq1 MeetsSeq MeetsSeq2 MeetsSeq3 SeqRoads2
variable {prog : Program} {w : World} {A : Around} {R : Result → Shared → Prop}
theorem tup_eqB (l b : Addr) (its its2 : Array Value) (n n2 : Nat) (dd dd2 : Option Addr) (sl sl2 : Array (Option Value)) (I : Nat → Shared → Prop) (Z : Shared → Prop)
    (turn : ∀ i (h1 : i < its.size) (h2 : i < its2.size) s, I i s →
      wpAny (model prog w) A.in1 (eqBool its[i] its2[i]) (fun r s' => if r = true then I (i + 1) s' else Z s') (fun e s' => R (.error e) s') s)
    (fin : ∀ s, I (min its.size its2.size) s → R (.ok (.ret (.bool (its.size == its2.size)))) s) (bad : ∀ s, Z s → R (.ok (.ret (.bool false))) s)
    {s : Shared} (hl1 : s.heap.get? l = some { cls := .type "tuple", dict := dd, data := .seq its n, slots := sl })
    (hb1 : s.heap.get? b = some { cls := .type "tuple", dict := dd2, data := .seq its2 n2, slots := sl2 }) (h : I 0 s) :
    wpAny (model prog w) A.in1 (Builtin.«tuple.__eq__» ⟨[.ref l, .ref b], []⟩) (GQ.FinOf prog w A R) (fun e s' => R (.error e) s') s := by
  have f2 := AutoSeq1.sub_tuple_tuple
  have hZ : (its.toList.zip its2.toList).length = min its.size its2.size := by simp
  have h0 := h
  obtain ⟨hp, g, d, tk, os⟩ := s
  wp_walk using wpAny_loadPart' hl1, wpAny_loadPart' hb1, wpAny_forIn_list _ (fun rest c s' => c.1 = none ∧ ∃ i, rest = (its.toList.zip its2.toList).drop i ∧ i ≤ min its.size its2.size ∧ I i s') _
  case turn =>
    rintro ⟨y, x⟩ rest c s' ⟨hc, i, hz, hi, hI⟩
    have hlt : i < (its.toList.zip its2.toList).length := by
      rcases Nat.lt_or_ge i (its.toList.zip its2.toList).length with h' | h'
      · exact h'
      · rw [List.drop_of_length_le h'] at hz; cases hz
    have h12 : i < min its.size its2.size := hZ ▸ hlt
    have h1 : i < its.size := by omega
    have h2 : i < its2.size := by omega
    rw [List.drop_eq_getElem_cons hlt] at hz
    injection hz with hyx hrest
    have hy : y = its[i] := by simpa using congrArg Prod.fst hyx
    have hx : x = its2[i] := by simpa using congrArg Prod.snd hyx
    subst hy hx
    refine wpAny_bind (wpAny_mono (turn i h1 h2 s' hI) (fun r s2 q2 => ?_) fun _ _ x => x)
    cases r with
    | true =>
      rw [if_pos rfl] at q2
      wp_walk
      exact ⟨rfl, i + 1, hrest, h12, q2⟩
    | false =>
      rw [if_neg Bool.false_ne_true] at q2
      have hR := bad s2 q2
      wp_walk
      exact hR
  case fin =>
    rintro ⟨b1, b2⟩ s' ⟨hc, i, hz, hi, hI⟩
    simp only at hc
    subst hc
    have hge : min its.size its2.size ≤ i := by
      rcases Nat.lt_or_ge i (its.toList.zip its2.toList).length with h' | h'
      · rw [List.drop_eq_getElem_cons h'] at hz; cases hz
      · exact hZ ▸ h'
    have hi' : i = min its.size its2.size := by omega
    have hR := fin s' (hi' ▸ hI)
    wp_walk
    simpa [Builtin.Tuple.tupleCompareSizes] using hR
  case h =>
    exact ⟨rfl, 0, rfl, Nat.zero_le _, h0⟩
theorem rc_tupB {l b : Addr} {its its2 : Array Value} {E : Value → Shared → Prop} {Q : Value → Shared → Prop} {s : Shared} (hu : A.units < cLine) (I : Nat → Shared → Prop) (Z : Shared → Prop) (hl : s.heap.IsTuple l its) (hb : s.heap.IsTuple b its2)
    (turn : ∀ i (h1 : i < its.size) (h2 : i < its2.size) s, I i s → wpAny (model prog w) A.in1 (eqBool its[i] its2[i]) (fun r s' => if r = true then I (i + 1) s' else Z s') E s)
    (fin : ∀ s, I (min its.size its2.size) s → Q (.bool (its.size == its2.size)) s) (bad : ∀ s, Z s → Q (.bool false) s) (h : I 0 s) : wpAny (model prog w) A (richCompare .Eq (.ref l) (.ref b)) Q E s := by
  obtain ⟨⟨c1, d1, data1, z1⟩, ho, e1, n, hd⟩ := id hl
  obtain ⟨⟨c2, d2, data2, z2⟩, ho2, e2, n2, hd2⟩ := id hb
  simp only at e1 hd e2 hd2
  subst e1 hd e2 hd2
  refine wpAny_richCompare_same_room (op := .Eq) ⟨_, ho, rfl⟩ ⟨_, ho2, rfl⟩ F.slot_tuple_eq (GQ.call_here F.slot_tuple_eq ⟨_, ho, rfl⟩ F.entry_tuple_eq (F.args_tuple_eq_2 _ _) ?_) hu
  exact tup_eqB (R := wants (fun v s' => v ≠ .notImplemented ∧ Q v s') E) l b its its2 n n2 _ _ _ _ I Z turn (fun s' q => ⟨(fun x => nomatch x), fin s' q⟩) (fun s' q => ⟨(fun x => nomatch x), bad s' q⟩) ho ho2 h
end
/-! ### the data of one object -/
section
variable {X : Cx} {C : Ct} {pins : List (Addr × Obj)} {σ : L2.St} {H F : Hp} {s : Shared}
theorem relV_ex : ∀ v : V, ∃ u, RelV v u
  | .non => ⟨_, rfl⟩
  | .bl _ => ⟨_, rfl⟩
  | .int _ => ⟨_, default, rfl⟩
  | .str _ => ⟨_, default, rfl⟩
  | .byt _ => ⟨_, default, rfl⟩
  | .flt _ => ⟨_, default, rfl⟩
  | .ref _ => ⟨_, rfl⟩
  | .ty _ => ⟨_, rfl⟩
theorem self_plain (hK : C.K = X.K) (I : Inv X pins σ H s) (hs : Sub F H) {x y : B} {v : V} (ex : eqOk 12 x = true) (ey : eqOk 12 y = true) (rx : RelB C F x v) (ry : RelB C F y v) : eqB x y = true := by
  obtain ⟨u, ru⟩ := relV_ex v
  obtain ⟨as, r1⟩ := Dp.reads I (toPy C.N x) v u (hK ▸ toDp hs 12 x v ex rx) ru
  obtain ⟨bs, r2⟩ := Dp.reads I (toPy C.N y) v u (hK ▸ toDp hs 12 y v ey ry) ru
  rw [eq_py 12 x y v v ex ey rx ry, (Reads.unique r1 _ _ r2).1]
  exact SeqAt.eqv_refl _ (lay_py (N := C.N) 12 y ey).1
theorem self_fs {ok : B → Bool} (h : ∀ x y v, ok x = true → ok y = true → RelB C F x v → RelB C F y v → eqB x y = true) : ∀ {fs gs : List (Nat × B)} {qs : List (PySem.Str × V)},
    (fs.all fun p => ok p.2) = true → (gs.all fun p => ok p.2) = true → RelBf C F fs qs → RelBf C F gs qs → eqFs fs gs = true
  | [], [], _, _, _, _, _ => rfl
  | [], _ :: _, _, _, _, r1, r2 => by
    cases (show _ = [] from r1)
    obtain ⟨_, _, e, _⟩ := r2
    cases e
  | _ :: _, [], _, _, _, r1, r2 => by
    cases (show _ = [] from r2)
    obtain ⟨_, _, e, _⟩ := r1
    cases e
  | (i, x) :: fs, (j, y) :: gs, _, e1, e2, r1, r2 => by
    obtain ⟨q, qs, rfl, h1, h2⟩ := r1
    obtain ⟨q', qs', e, h3, h4⟩ := r2
    cases e
    have e1' : (ok x && fs.all fun p => ok p.2) = true := e1
    have e2' : (ok y && gs.all fun p => ok p.2) = true := e2
    rw [Bool.and_eq_true] at e1' e2'
    show (eqB x y && eqFs fs gs) = true
    rw [h x y q.2 e1'.1 e2'.1 h1.2 h3.2, self_fs h e1'.2 e2'.2 h2 h4]
    rfl
theorem no_mix (I : Inv X pins σ H s) (hK : C.K = X.K) (hs : Sub F H) {c : Nat} {fs : List (Nat × B)} {y : B} {v : V} (ey : eqOk 12 y = true) (r1 : RelB C F (.ins c fs) v) (r2 : RelB C F y v) : False := by
  obtain ⟨a, D, dx, gs, rfl, _, h1, _, _⟩ := r1
  have h1 := hs _ _ h1
  obtain ⟨_, _, _, e, _⟩ := (show ObjOk X.prog X.w H s.heap a (.ins D dx gs) from I.hok a _ h1)
  have q := toDp hs 12 y _ ey r2
  rw [hK] at q
  obtain ⟨as, rd⟩ := Dp.reads I _ _ (.ref a) q rfl
  cases y with
  | non => cases rd
  | bl _ => cases rd
  | int _ => cases rd
  | str _ => cases rd
  | tup xs => cases rd with | tuple k1 k2 k3 k4 => rw [e] at k1; cases k1; cases k2
  | lst xs => cases rd with | list k1 k2 k3 k4 => rw [e] at k1; cases k1; cases k2
  | scr xs => cases rd with | list k1 k2 k3 k4 => rw [e] at k1; cases k1; cases k2
  | dic _ => cases ey
  | ins _ _ => cases ey
theorem self_1 (hK : C.K = X.K) (I : Inv X pins σ H s) (hs : Sub F H) {x y : B} {v : V} (ex : okF1 x = true) (ey : okF1 y = true) (rx : RelB C F x v) (ry : RelB C F y v) : eqB x y = true := by
  by_cases hx : ∃ c fs, x = .ins c fs
  · obtain ⟨c, fs, rfl⟩ := hx
    by_cases hy : ∃ d gs, y = .ins d gs
    · obtain ⟨d, gs, rfl⟩ := hy
      obtain ⟨a, D, dx, qs, rfl, _, h1, _, h3⟩ := rx
      obtain ⟨a', D', dx', qs', e, _, h1', _, h3'⟩ := ry
      cases e
      rw [h1] at h1'
      cases h1'
      exact self_fs (ok := eqOk 12) (fun x y v a b r q => self_plain hK I hs a b r q) ex ey h3 h3'
    · have : eqOk 12 y = true := by
        cases y <;> first | exact ey | exact (hy ⟨_, _, rfl⟩).elim
      exact (no_mix I hK hs this rx ry).elim
  · have hx' : eqOk 12 x = true := by
      cases x <;> first | exact ex | exact (hx ⟨_, _, rfl⟩).elim
    by_cases hy : ∃ d gs, y = .ins d gs
    · obtain ⟨d, gs, rfl⟩ := hy
      exact (no_mix I hK hs hx' ry rx).elim
    · have : eqOk 12 y = true := by
        cases y <;> first | exact ey | exact (hy ⟨_, _, rfl⟩).elim
      exact self_plain hK I hs hx' this rx ry
theorem nf_kn (K : PySem.W.Frag) (k : Kn) (D : Addr) : PySem.W.notFirst K D (.type (knN k)) = true := by
  cases k <;> rfl
theorem nf_own (K : PySem.W.Frag) (D : Addr) : PySem.W.notFirst K D (.ref D) = true := by
  simp [PySem.W.notFirst]
/-- an own == , called by the comparison -/
theorem rc_own {T : Tab} {k f c : Nat} (G : Gm X.prog X.w X.K X.mg X.base T C k f c "__eq__") {A : Around} (room : Room k A) (fr : A.frames = X.A.frames) (I : Inv X pins σ H s) {a D dx : Addr} {qs : List (PySem.Str × V)} (hc : C.cl c = some D) (ha : H a = some (.ins D dx qs)) {y : V} {v tb : Value} (ry : RelV y v)
    (hty : PySem.W.Looks (model X.prog X.w) s.heap (typeOf v) tb) (hn : PySem.W.notFirst X.K D tb = true) {Q : Bool → Hp → Prop} (h : spE T C k f [.ref a, y] H (fun w H' => ∃ b, w = .bl b ∧ Q b H') E0) :
    wpAny (model X.prog X.w) A (richCompare .Eq (.ref a) v) (fun r s' => ∃ b H', r = .bool b ∧ Inv X pins σ H' s' ∧ Q b H') X.xe s := by
  obtain ⟨fa, D', fd, ps, F, hc', hcl, hme, hb⟩ := G
  cases hc.symm.trans hc'
  obtain ⟨mA, J, _⟩ := ins_get I.hok ha
  obtain ⟨od, J, _⟩ := J.look
  obtain ⟨m, hF⟩ := I.fr
  refine PySem.W.cmp_K (op := .Eq) (tb := tb) room.units0 hF I.ok.mod.kin J hty hn hme.at_ hme.fn ?_
  have e0 : Env0 X.prog X.w X.K X.mg X.base A X.stack s H := by
    have e := I.env0
    exact ⟨by rw [fr]; exact e.frames, e.mod, e.bs, e.bsz, e.funs, e.frf, e.hok, e.bare⟩
  have hl := F.len _ _ _ _ h
  have r2 : Vals [V.ref a, y] [Value.ref a, v] := .cons rfl (.cons ry .nil)
  refine wpAny_call (codeAny_mono (F.run A X.stack s H ⟨[.ref a, v], []⟩ [.ref a, v] [.ref a, y] _ E0 room e0 (by
    have := hb s [.ref a, v] I.kIn (by simpa using hl)
    simpa using this) r2 h) fun r s' hq => ?_)
  cases r with
  | error e => exact pass0 pins σ H s e s' I hq
  | ok fl =>
    cases fl with
    | ret w =>
      obtain ⟨z, H', I', rz, b, ez, q⟩ := I.after hq
      subst ez
      cases rz
      exact ⟨b, H', rfl, I', q⟩
    | next => exact False.elim hq
    | brk => exact False.elim hq
    | cont => exact False.elim hq
/-- what is left behind by a comparison -/
def EqP (X : Cx) (C : Ct) (F : Hp) (ι : List Addr) (S' : Store) (pins : List (Addr × Obj)) (σ : L2.St) (s' : Shared) : Prop := ∃ F' ι' H', Le F ι F' ι' ∧ RH C F' ι' S' H' ∧ Fre F' ι' ∧ Inv X pins σ H' s'
theorem eqE_run (hK : C.K = X.K) {T : Tab} {k b : Nat} (G : ∀ j, k = j + 1 → ∀ c f, T.eqm c = some f → Gm X.prog X.w X.K X.mg X.base T C j f c "__eq__") {A : Around} (room : ∀ j, k = j + 1 → Room j A) (hu : A.units + 13 < cLine) (fr : A.frames = X.A.frames)
    {ι : List Addr} {x y : B} {S S' : Store} {r : Bool} {v w : V} {u u' : Value} (e : eqE (par T k b) x y S = some (r, S')) (rh : RH C F ι S H) (fre : Fre F ι) (rx : RelB C F x v) (ry : RelB C F y w) (I : Inv X pins σ H s) (ru : RelV v u) (rw : RelV w u') :
    wpAny (model X.prog X.w) A (eqBool u u') (fun z s' => z = r ∧ EqP X C F ι S' pins σ s') X.xe s := by
  unfold eqE at e
  split at e
  · rename_i h
    rw [Bool.and_eq_true] at h
    cases e
    obtain ⟨as, r1⟩ := Dp.reads I (toPy C.N x) v u (hK ▸ toDp rh.fz 12 x v h.1 rx) ru
    obtain ⟨bs, r2⟩ := Dp.reads I (toPy C.N y) w u' (hK ▸ toDp rh.fz 12 y w h.2 ry) rw
    have d1 := lay_py (N := C.N) 12 x h.1
    have d2 := lay_py (N := C.N) 12 y h.2
    have q := SeqAt.eqAt_reads _ _ A s u u' as bs r1 r2 d1.1 d2.1 (by have := d1.2; omega)
    rw [← eq_py 12 x y v w h.1 h.2 rx ry] at q
    exact q X.prog X.w X.xe _ ⟨rfl, F, ι, H, Le.refl _ _, rh, fre, I⟩
  · split at e
    · rename_i c fs d gs _
      split at e
      · rename_i hc
        obtain ⟨rfl, h1, h2⟩ := hc
        obtain ⟨f, e1, e⟩ := Option.bind_eq_some_iff.mp e
        obtain ⟨⟨d0, S2⟩, e2, e⟩ := Option.bind_eq_some_iff.mp e
        dsimp only at e
        split at e
        · rename_i z
          split at e
          · rename_i hz
            obtain ⟨hz, hS⟩ := hz
            cases e
            obtain ⟨S0, hS0⟩ : ∃ S0, S0 = S := ⟨_, rfl⟩
            rw [hS] at e2
            rw [← hS0] at e2 rh ⊢
            obtain ⟨a, D, dx, qs, rfl, k1, k2, k3, k4⟩ := id rx
            obtain ⟨a', D', dx', qs', rfl, k1', k2', k3', k4'⟩ := id ry
            cases ru
            cases rw
            by_cases haa : a = a'
            · subst haa
              rw [k2] at k2'
              cases k2'
              have hr : eqFs fs gs = true := self_fs (ok := okF1) (fun x y v a b r q => self_1 hK I rh.fz a b r q) h1 h2 k4 k4'
              rw [hr] at hz
              subst hz
              exact SeqAt.EqAt.same (A := A) (s := s) (.ref a) X.prog X.w X.xe _ ⟨rfl, F, ι, H, Le.refl _ _, rh, fre, I⟩
            · cases k with
              | zero => cases e2
              | succ j =>
                refine GQ.eqBool_refG haa (wpAny_mono (rc_own (Q := fun z' H' => z' = r ∧ ∃ F' ι', Le F ι F' ι' ∧ RH C F' ι' S0 H' ∧ Fre F' ι') (G j rfl c f e1) (room j rfl) fr I k1 (rh.fz _ _ k2) (y := .ref a') rfl (?_ : PySem.W.Looks _ _ _ (.ref D')) ?_ ?_) (fun q s2 hq => ?_) fun _ _ x => x)
                · obtain ⟨mA, J, _⟩ := ins_get I.hok (rh.fz _ _ k2')
                  obtain ⟨od, J, _⟩ := J.look
                  exact J.type
                · cases k1.symm.trans k1'
                  exact nf_own _ _
                · exact sp_call (C := C) (ds := [.b (.ins c fs), .b (.ins c gs)]) (vs := [.ref a, .ref a']) rh fre ⟨_, _, rfl, rx, _, _, rfl, ry, rfl⟩ e2 fun F' ι' v' H' l rh' fr' rv => ⟨r, rv, rfl, F', ι', l, rh', fr'⟩
                · obtain ⟨z', H', rfl, I', rfl, F', ι', l, rh', fr'⟩ := hq
                  exact ⟨_, rfl, rfl, F', ι', H', l, rh', fr', I'⟩
          · cases e
        · cases e
      · cases e
    · cases e
theorem eqL_run (hK : C.K = X.K) {T : Tab} {k b : Nat} (G : ∀ j, k = j + 1 → ∀ c f, T.eqm c = some f → Gm X.prog X.w X.K X.mg X.base T C j f c "__eq__") {A : Around} (room : ∀ j, k = j + 1 → Room j A.in1) (hu : A.units + 14 < cLine) (fr : A.frames = X.A.frames)
    {ι : List Addr} {xs ys : List B} {vs ws : List V} {S S' : Store} {r : Bool} {a a' : Addr} (e : eqL (par T k b) xs ys S = some (r, S')) (rh : RH C F ι S H) (fre : Fre F ι) (ha : SqT X.K H a vs) (ha' : SqT X.K H a' ws) (rx : RelBs C F xs vs) (ry : RelBs C F ys ws) (I : Inv X pins σ H s) :
    wpAny (model X.prog X.w) A (richCompare .Eq (.ref a) (.ref a')) (fun z s' => z = .bool r ∧ EqP X C F ι S' pins σ s') X.xe s := by
  obtain ⟨its, q1, h1, _⟩ := I.tuple ha
  obtain ⟨its2, q2, h2, _⟩ := I.tuple ha'
  have lx : xs.length = its.toArray.size := by rw [List.size_toArray, rx.length, q1.length]
  have ly : ys.length = its2.toArray.size := by rw [List.size_toArray, ry.length, q2.length]
  have ex : ∀ (us : List B) (zs : List B) S1, eqL (par T k b) us zs S1 = some (r, S') → us = [] ∨ zs = [] → r = decide (us.length = zs.length) ∧ S1 = S' := by
    intro us zs S1 e h
    cases us with
    | nil =>
      cases zs with
      | nil => cases e; exact ⟨rfl, rfl⟩
      | cons z zs => cases e; exact ⟨rfl, rfl⟩
    | cons u us =>
      cases zs with
      | nil => cases e; exact ⟨rfl, rfl⟩
      | cons z zs => rcases h with h | h <;> cases h
  refine rc_tupB (by omega) (fun i s' => ∃ S1 F1 ι1 H1, eqL (par T k b) (xs.drop i) (ys.drop i) S1 = some (r, S') ∧ Le F ι F1 ι1 ∧ RH C F1 ι1 S1 H1 ∧ Fre F1 ι1 ∧ Inv X pins σ H1 s') (fun s' => r = false ∧ EqP X C F ι S' pins σ s') h1 h2 ?_ ?_ ?_ ⟨S, F, ι, H, e, Le.refl _ _, rh, fre, I⟩
  · rintro i g1 g2 s1 ⟨S1, F1, ι1, H1, e1, l1, rh1, fr1, I1⟩
    have i1 : i < xs.length := by omega
    have i2 : i < ys.length := by omega
    rw [List.drop_eq_getElem_cons i1, List.drop_eq_getElem_cons i2] at e1
    unfold eqL at e1
    obtain ⟨⟨z, S2⟩, e2, e1⟩ := Option.bind_eq_some_iff.mp e1
    obtain ⟨v, hv, rv⟩ := rx.get (List.getElem?_eq_getElem i1)
    obtain ⟨w, hw, rw'⟩ := ry.get (List.getElem?_eq_getElem i2)
    obtain ⟨u, hu1, ru⟩ := q1.get hv
    obtain ⟨u', hu2, ru'⟩ := q2.get hw
    have gg1 : its[i]? = some its.toArray[i] := by
      have h1' : i < its.length := by simpa using g1
      rw [List.getElem?_eq_getElem h1'] <;> simp
    have gg2 : its2[i]? = some its2.toArray[i] := by
      have h2' : i < its2.length := by simpa using g2
      rw [List.getElem?_eq_getElem h2'] <;> simp
    rw [gg1] at hu1
    rw [gg2] at hu2
    rw [Option.some.inj hu1, Option.some.inj hu2]
    refine wpAny_mono (eqE_run hK G (A := A.in1) room (by show A.units + 1 + 13 < cLine; omega) fr e2 rh1 fr1 (RelB.mono l1.1 _ _ rv) (RelB.mono l1.1 _ _ rw') I1 ru ru') (fun q s2 hq => ?_) fun _ _ x => x
    obtain ⟨rfl, F2, ι2, H2, l2, rh2, fr2, I2⟩ := hq
    dsimp only at e1
    cases q with
    | true =>
      rw [if_pos rfl] at e1 ⊢
      exact ⟨S2, F2, ι2, H2, e1, l1.trans l2, rh2, fr2, I2⟩
    | false =>
      rw [if_neg Bool.false_ne_true] at e1 ⊢
      cases e1
      exact ⟨rfl, F2, ι2, H2, l1.trans l2, rh2, fr2, I2⟩
  · rintro s1 ⟨S1, F1, ι1, H1, e1, l1, rh1, fr1, I1⟩
    have hd : xs.drop (min its.toArray.size its2.toArray.size) = [] ∨ ys.drop (min its.toArray.size its2.toArray.size) = [] := by
      rcases Nat.le_total its.toArray.size its2.toArray.size with h | h
      · exact .inl (List.drop_eq_nil_of_le (by omega))
      · exact .inr (List.drop_eq_nil_of_le (by omega))
    obtain ⟨hr, hS⟩ := ex _ _ _ e1 hd
    subst hS
    refine ⟨?_, F1, ι1, H1, l1, rh1, fr1, I1⟩
    rw [hr, List.length_drop, List.length_drop, ← lx, ← ly]
    by_cases h : xs.length = ys.length
    · rw [h]
      simp
    · have : ¬ (xs.length - min xs.length ys.length = ys.length - min xs.length ys.length) := by omega
      simp [h, this]
  · rintro s1 ⟨rfl, q⟩
    exact ⟨rfl, q⟩
def rEqo (C : Ct) (P : Par) : R2 := fun x y H Q => ∃ F ι S dx dy z S', RH C F ι S H ∧ Fre F ι ∧ RelD C F ι dx x ∧ RelD C F ι dy y ∧ eqo P S dx dy = some (z, S') ∧ ∀ F' ι' H', Le F ι F' ι' → RH C F' ι' S' H' → Fre F' ι' → Q (.bl z) H'
theorem op_eqo (hK : C.K = X.K) (hu : X.A.units + 66 < cLine) {T : Tab} {k b : Nat} (hr : Room k X.A) (G : ∀ j, j ≤ k → ∀ c f, T.eqm c = some f → Gm X.prog X.w X.K X.mg X.base T C j f c "__eq__") : OpR X (compareOp .Eq) (rEqo C (par T k b)) := by
  intro pins s σ H x y v u Q I rx ry h
  obtain ⟨F, ι, S, dx, dy, z, S', rh, fr, r1, r2, e, post⟩ := h
  have flat : ∀ z, cmp S .eq dx dy = some z → (∀ F' ι' H', Le F ι F' ι' → RH C F' ι' S H' → Fre F' ι' → Q (.bl z) H') → wpAny (model X.prog X.w) X.A (compareOp .Eq v u) (EP X pins σ Q) X.xe s := fun z ez post =>
    op_cmpM hK hu .eq pins s σ H x y v u Q I rx ry ⟨F, ι, S, dx, dy, z, rh, fr, r1, r2, ez, post F ι H (Le.refl _ _) rh fr⟩
  unfold eqo at e
  split at e
  · rename_i c fs
    split at e
    · rename_i hok
      obtain ⟨f, e1, e⟩ := Option.bind_eq_some_iff.mp e
      obtain ⟨⟨d0, S2⟩, e2, e⟩ := Option.bind_eq_some_iff.mp e
      dsimp only at e
      split at e
      · rename_i z'
        cases e
        obtain ⟨a, D, dx, qs, rfl, k1, k2, k3, k4⟩ := id r1
        cases rx
        have tyy : ∃ tb, PySem.W.Looks (model X.prog X.w) s.heap (typeOf u) tb ∧ PySem.W.notFirst X.K D tb = true := by
          have kk : ∀ kk, kn S dy = some kk → ∃ tb, PySem.W.Looks (model X.prog X.w) s.heap (typeOf u) tb ∧ PySem.W.notFirst X.K D tb = true := fun kk hk => by
            obtain ⟨P', Z, p, _⟩ := kit_of I ry (kn_ty hK rh r2 hk)
            exact ⟨_, Z.ty _ _ I.kIn p, nf_kn _ _ _⟩
          by_cases hi : ∃ d gs, dy = .b (.ins d gs)
          · obtain ⟨d, gs, rfl⟩ := hi
            have hd : d = c := of_decide_eq_true hok
            subst hd
            obtain ⟨a', D', dx', qs', rfl, k1', k2', k3', k4'⟩ := id r2
            cases ry
            cases k1.symm.trans k1'
            obtain ⟨mA, J, _⟩ := ins_get I.hok (rh.fz _ _ k2')
            obtain ⟨od, J, _⟩ := J.look
            exact ⟨_, J.type, nf_own _ _⟩
          · have hk : (kn S dy).isSome = true := by
              cases dy with
              | b y => cases y <;> first | exact hok | exact (hi ⟨_, _, rfl⟩).elim
              | ref n => exact hok
              | mix xs => exact hok
            obtain ⟨kk', hk'⟩ := Option.isSome_iff_exists.mp hk
            exact kk kk' hk'
        obtain ⟨tb, ht, hn⟩ := tyy
        refine wpAny_mono (rc_own (Q := fun z0 H' => z0 = z ∧ ∃ F' ι', Le F ι F' ι' ∧ RH C F' ι' S' H' ∧ Fre F' ι') (G k (Nat.le_refl _) c f e1) hr rfl I k1 (rh.fz _ _ k2) (y := y) ry ht hn ?_) (fun q s2 hq => ?_) fun _ _ x => x
        · exact sp_call (C := C) (ds := [.b (.ins c fs), dy]) (vs := [.ref a, y]) rh fr ⟨_, _, rfl, r1, _, _, rfl, r2, rfl⟩ e2 fun F' ι' v' H' l rh' fr' rv => ⟨z, rv, rfl, F', ι', l, rh', fr'⟩
        · obtain ⟨z0, H', rfl, I', rfl, F', ι', l, rh', fr'⟩ := hq
          exact ⟨.bl _, H', I', rfl, post F' ι' H' l rh' fr'⟩
      · cases e
    · cases e
  · rename_i xs
    split at e
    · rename_i z' ez
      cases e
      exact flat _ ez post
    · split at e
      · rename_i ys
        obtain ⟨a, vs, rfl, h1, h2⟩ := id r1
        obtain ⟨a', ws, rfl, h3, h4⟩ := id r2
        cases rx
        cases ry
        refine wpAny_mono (eqL_run hK (fun j hj => G j (by omega)) (A := X.A) (fun j hj => (hj ▸ hr : Room (j + 1) X.A).in1) (by omega) rfl e rh fr (hK ▸ sqT_mono rh.fz h1) (hK ▸ sqT_mono rh.fz h3) h2 h4 I) (fun q s2 hq => ?_) fun _ _ x => x
        obtain ⟨rfl, F', ι', H', l, rh', fr', I'⟩ := hq
        exact ⟨.bl z, H', I', rfl, post F' ι' H' l rh' fr'⟩
      · cases e
  · obtain ⟨z', ez, e⟩ := Option.map_eq_some_iff.mp e
    cases e
    exact flat _ ez post
end
section
variable {X : Cx} {C : Ct} {pos p : Pos} {a b : Expr} {ma mb : E} {T : Tab} {k bs : Nat}
theorem me_ceqo (hK : C.K = X.K) (hu : X.A.units + 66 < cLine) (hr : Room k X.A) (G : ∀ j, j ≤ k → ∀ c f, T.eqm c = some f → Gm X.prog X.w X.K X.mg X.base T C j f c "__eq__") (ha : ME X C (par T k bs) a ma) (hb : ME X C (par T k bs) b mb) (hm : behindInMarks .Eq b = false := by rfl) : ME X C (par T k bs) (.Compare a [.Eq] [b] pos) (.eqo ma mb) := by
  refine (pe_cmpR (op_eqo (b := bs) hK hu hr G) ha hb hm).imp fun σ H Q h => ?_
  obtain ⟨F, ι, S, sl, d, S', rs, e, post⟩ := h
  unfold ev at e
  obtain ⟨⟨x, S1⟩, e1, e⟩ := Option.bind_eq_some_iff.mp e
  obtain ⟨⟨y, S2⟩, e2, e⟩ := Option.bind_eq_some_iff.mp e
  obtain ⟨⟨z, S3⟩, e3, e⟩ := Option.map_eq_some_iff.mp e
  cases e
  refine rs.one e1 fun F1 ι1 v H1 l1 r1 q1 => r1.one e2 fun F2 ι2 w H2 l2 r2 q2 => ?_
  exact ⟨F2, ι2, S2, x, y, _, _, r2.rh, r2.fr, q1.mono l2, q2, e3, fun F' ι' H' l rh fr => ((post.mono (l1.trans l2)).mono l).here rh fr rfl⟩
theorem mt_ceqo (hK : C.K = X.K) (hu : X.A.units + 66 < cLine) (hr : Room k X.A) (G : ∀ j, j ≤ k → ∀ c f, T.eqm c = some f → Gm X.prog X.w X.K X.mg X.base T C j f c "__eq__") (ha : ME X C (par T k bs) a ma) (hb : ME X C (par T k bs) b mb) (hm : behindInMarks .Eq b = false := by rfl) : MT X C (par T k bs) (.Compare a [.Eq] [b] pos) (.eqo ma mb) := by
  refine (pt_cmpR (op_eqo (b := bs) hK hu hr G) ha hb hm).imp fun σ H Q h => ?_
  obtain ⟨F, ι, S, sl, d, S', kk, rs, e, t, post⟩ := h
  unfold ev at e
  obtain ⟨⟨x, S1⟩, e1, e⟩ := Option.bind_eq_some_iff.mp e
  obtain ⟨⟨y, S2⟩, e2, e⟩ := Option.bind_eq_some_iff.mp e
  obtain ⟨⟨z, S3⟩, e3, e⟩ := Option.map_eq_some_iff.mp e
  cases e
  cases t
  refine rs.one e1 fun F1 ι1 v H1 l1 r1 q1 => r1.one e2 fun F2 ι2 w H2 l2 r2 q2 => ?_
  exact ⟨F2, ι2, S2, x, y, _, _, r2.rh, r2.fr, q1.mono l2, q2, e3, fun F' ι' H' l rh fr => ⟨_, rfl, post F' ι' H' ((l1.trans l2).trans l) rh fr⟩⟩
end
/-! ### isinstance of an own class -/
structure InsK (K : PySem.W.Frag) (D : Addr) : Prop where
  ha : PySem.W.findIn K (.ref D) "__class__" = some (some (.builtin "object.__class__"))
  hn : PySem.W.specialIn K (.builtin "object.__class__") "__get__" = some (some (.builtin "getset_descriptor.__get__"))
  ht : PySem.W.takesIn K (.builtin "object.__class__") = some true
  hm : PySem.W.mroIn K D (.type "object") = some true
  hc : ((PySem.W.clsIn K D).isSome && PySem.W.typeIn K (.ref D) == some (.type "type")) = true
/-- the same, to be looked at -/
def icB (K : PySem.W.Frag) (x : PySem.Str) : Bool :=
  He.eqO (PySem.W.findIn K (.ref (He.ga K x)) "__class__") (some (some (.builtin "object.__class__"))) && (He.eqO (PySem.W.specialIn K (.builtin "object.__class__") "__get__") (some (some (.builtin "getset_descriptor.__get__"))) &&
  (decide (PySem.W.takesIn K (.builtin "object.__class__") = some true) && (decide (PySem.W.mroIn K (He.ga K x) (.type "object") = some true) && ((PySem.W.clsIn K (He.ga K x)).isSome && decide (PySem.W.typeIn K (.ref (He.ga K x)) = some (.type "type"))))))
theorem icB_ok {K : PySem.W.Frag} {x : PySem.Str} (h : icB K x = true) : InsK K (He.ga K x) := by
  unfold icB at h
  simp only [Bool.and_eq_true, decide_eq_true_eq] at h
  obtain ⟨h1, h2, h3, h4, h5, h6⟩ := h
  refine ⟨He.eqO_ok h1, He.eqO_ok h2, h3, h4, ?_⟩
  rw [h5, h6]
  simp
def obsE (ic : List PySem.Str) (fa : List He.Fa) (fn : List He.DefD) (K : PySem.W.Frag) : He.AlD := ((He.obsD fa fn K).1 && ic.all (icB K), (He.obsD fa fn K).2)
def SaysE (ic : List PySem.Str) (fa : List He.Fa) (fn : List He.DefD) (K : PySem.W.Frag) : Prop := obsE ic fa fn K = He.valD fn
def obsEG (n : Nat) (ic : List PySem.Str) (fa : List He.Fa) (fn : List He.DefD) (g : Addr → Option Obj) : He.AlD := obsE ic fa fn (He.frG g (He.asD g n))
def hookE (n : Nat) (ic : List PySem.Str) (fa : List He.Fa) (fn : List He.DefD) : PySem.W.Hook where
  α := He.AlD
  obs s := obsEG n ic fa fn s.heap.get?
  val _ := He.valD fn
  says _ h := ∃ K : PySem.W.Frag, K.In h ∧ SaysE ic fa fn K
  of _ _ e := ⟨_, He.frG_in, e⟩
  keeps _ _ _ := fun ⟨K, hK, c⟩ k => ⟨K, PySem.W.Frag.In.keeps hK k, c⟩
theorem obsEG_eq {n : Nat} {ic : List PySem.Str} {fa : List He.Fa} {fn : List He.DefD} {g : Addr → Option Obj} {s : Shared} (h : ∀ a, g a = s.heap.get? a) : obsEG n ic fa fn g = (hookE n ic fa fn).obs s := by
  rw [show g = s.heap.get? from funext h]
  rfl
theorem SaysE.both {ic : List PySem.Str} {fa : List He.Fa} {fn : List He.DefD} {K : PySem.W.Frag} (c : SaysE ic fa fn K) : He.SaysD fa fn K ∧ ic.all (icB K) = true := by
  have c' : obsE ic fa fn K = He.valD fn := c
  have h1 : ((He.obsD fa fn K).1 && ic.all (icB K)) = true := congrArg (fun z : He.AlD => z.1) c'
  have h2 : (obsE ic fa fn K).2 = (He.valD fn).2 := by rw [c']
  rw [Bool.and_eq_true] at h1
  refine ⟨?_, h1.2⟩
  show He.obsD fa fn K = He.valD fn
  exact Prod.ext h1.1 h2
theorem SaysE.d {ic : List PySem.Str} {fa : List He.Fa} {fn : List He.DefD} {K : PySem.W.Frag} (c : SaysE ic fa fn K) : He.SaysD fa fn K := c.both.1
theorem ic_at {ic : List PySem.Str} {K : PySem.W.Frag} (h : ic.all (icB K) = true) (i : Nat) {x : PySem.Str} (e : ic[i]? = some x := by rfl) : InsK K (He.ga K x) := icB_ok (List.all_eq_true.mp h x (List.mem_of_getElem? e))
section
variable {X : Cx} {C : Ct} {P : Par} {pos p : Pos} {a : Expr} {ma : E}
theorem kit_no {K : PySem.W.Frag} {D : Addr} (c : InsK K D) (k : Kn) : PySem.W.kitOne K (.type (knN k)) (.ref D) = some false := by
  have h1 : ((Value.type (knN k)) == (Value.ref D)) = false := by cases k <;> rfl
  unfold PySem.W.kitOne
  rw [h1, if_neg Bool.false_ne_true]
  unfold PySem.W.kitCls
  dsimp only
  rw [if_pos c.hc]
  cases k <;> rfl
theorem kit_yes {K : PySem.W.Frag} {D : Addr} : PySem.W.kitOne K (.ref D) (.ref D) = some true := by
  unfold PySem.W.kitOne
  rw [if_pos (beq_self_eq_true _)]
theorem me_isc (hK : C.K = X.K) (c : Nat) {D : Addr} (ic : InsK X.K D) (cl : Cls X.K D) (hc : C.cl c = some D) {y : PySem.Str} {p2 : Pos} (hg : Gl X "isinstance") (hm : X.mg "isinstance" = none) (hv : bootBuiltins "isinstance" = some (.builtin "isinstance")) (ha : ME X C P a ma)
    (hg2 : Gl X y) (hm2 : X.mg y = some (.ref D)) (hdb2 : (y == ("__debug__" : PySem.Str)) = false := by decide)
    (he : starEach [a, .Name y p2] X.env = (false, eval a X.env) :: starEach [.Name y p2] X.env := by rfl) (he2 : starEach [.Name y p2] X.env = (false, eval (.Name y p2) X.env) :: starEach [] X.env := by rfl) (hpl : (backTo pos (starEach [.Name y p2] X.env)).any (·.1) = false := by rfl) :
    ME X C P (.Call (.Name "isinstance" p) [a, .Name y p2] [] pos) (.isc c ma) := by
  refine (pe_callB call_isi hg hm hv (pa_cons ha (pa_cons (pe_glob (v := .ref D) hg2 hm2 rfl hdb2) pa_nil he2) he) (by decide) (by decide) he hpl).imp fun σ H Q h => ?_
  obtain ⟨F, ι, S, sl, d, S', rs, e, post⟩ := h
  unfold ev at e
  obtain ⟨⟨x, S1⟩, e1, e⟩ := Option.bind_eq_some_iff.mp e
  obtain ⟨b, e2, e⟩ := Option.map_eq_some_iff.mp e
  cases e
  refine rs.one e1 fun F1 ι1 v H1 l1 r1 q1 => ?_
  have kk : ∀ k, kn S1 x = some k → b = false → _ := fun k hk hb =>
    (⟨v, .ref D, .type (knN k), .ref D, false, rfl, .own D, kn_ty hK r1.rh q1 hk, kit_no ic k, hb ▸ (post.mono l1).here r1.rh r1.fr rfl⟩ : rIsi X.K [v, .ref D] H1 Q)
  by_cases hi : ∃ d fs, x = .b (.ins d fs)
  · obtain ⟨d, fs, rfl⟩ := hi
    have e2' : (if d = c then some true else none) = some b := e2
    split at e2'
    · rename_i hd
      subst hd
      cases e2'
      obtain ⟨a0, D', dx, qs, rfl, k1, k2, k3, k4⟩ := id q1
      cases hc.symm.trans k1
      exact ⟨.ref a0, .ref D, .ref D, .ref D, true, rfl, .own D, .base (.ins (r1.rh.fz _ _ k2) cl ic.ha ic.hn ic.ht ic.hm), kit_yes, (post.mono l1).here r1.rh r1.fr rfl⟩
    · cases e2'
  · have e3 : (kn S1 x).map (fun _ => false) = some b := by
      cases x with
      | b y => cases y <;> first | exact e2 | exact (hi ⟨_, _, rfl⟩).elim
      | ref n => exact e2
      | mix xs => exact e2
    obtain ⟨k, hk, hb⟩ := Option.map_eq_some_iff.mp e3
    exact kk k hk hb.symm
end
end M
/-! MCU: sorted() of tuples that begin with different numbers. -/
namespace M
open PySem PySem.Spec PyProof.Rows L2
section
open SrtO
variable {prog : Program} {w : World} {A : Around} {E : Value → Shared → Prop} {s : Shared}
/-- a tuple that begins with a number -/
def IsHd (h : Heap) (v : Value) (i : Int) : Prop := ∃ a o t rest n, v = .ref a ∧ h.get? a = some o ∧ o.cls = .type "tuple" ∧ o.data = .seq (Value.int i t :: rest).toArray n
theorem IsHd.keeps {h h' : Heap} {v : Value} {i : Int} (p : IsHd h v i) (k : ∀ b o, h.get? b = some o → o.cls = .type "tuple" → h'.get? b = some o) : IsHd h' v i := by
  obtain ⟨a, o, t, r, n, e, ho, hc, hd⟩ := p
  exact ⟨a, o, t, r, n, e, k _ _ ho hc, hc, hd⟩
theorem hd_firsts {h : Heap} {k : Value → Int} : ∀ {vs : List Value}, (∀ v ∈ vs, IsHd h v (k v)) → ∃ fs : List Value, PySem.W.KatTups h vs fs ∧ fs.length = vs.length ∧ ∀ f ∈ fs, ∃ x t, f = Value.int x t
  | [], _ => ⟨[], PySem.W.KatTups.nil, rfl, fun _ hm => by cases hm⟩
  | v :: vs, hp => by
    obtain ⟨fs, h1, h2, h3⟩ := hd_firsts (vs := vs) fun u hm => hp u (List.mem_cons_of_mem _ hm)
    obtain ⟨a, o, t, r, n, e, ho, hc, hd⟩ := hp v List.mem_cons_self
    rw [e]
    refine ⟨.int (k v) t :: fs, PySem.W.KatTups.cons ho hc hd rfl h1, by rw [List.length_cons, List.length_cons, h2], fun f hm => ?_⟩
    rcases List.mem_cons.mp hm with rfl | hm
    · exact ⟨_, _, rfl⟩
    · exact h3 f hm
theorem hd_same {b fin : Bool} {Q : Bool → Shared → Prop} : ∀ (l : List Value) (i : Nat), Q fin s → PySem.W.KatLex prog w A b fin Q (l.zip l) i s
  | [], _, h => PySem.W.kat_nil h
  | v :: l, i, h => PySem.W.kat_cons (SeqAt.EqAt.same v prog w _ _ (PySem.W.kat_yes (hd_same l (i + 1) h)))
theorem hd_cmp {vs : List Value} {k : Value → Int} (hp : ∀ v ∈ vs, IsHd s.heap v (k v)) (hu : ∀ v ∈ vs, ∀ u ∈ vs, k v = k u → v = u) : Cmp prog w A s (tuples' true) (fun p => p.1 ∈ vs) (lt2 fun v u => decide (k v < k u)) := by
  intro p q hm hm'
  show wpAny (model prog w) A (keyLt' (tuples' true) p.1 q.1) (fun r s' => s' = s ∧ r = decide (k p.1 < k q.1)) (fun _ _ => False) s
  by_cases e : k p.1 = k q.1
  · have e2 := hu _ hm _ hm' e
    rw [← e2]
    obtain ⟨a, o, t, r, n, ev, ho, hc, hd⟩ := hp _ hm
    have hlt : decide (k p.1 < k p.1) = false := decide_eq_false (Int.lt_irrefl _)
    rw [hlt, ev]
    refine PySem.W.kat_lt ho hd ho hd ?_
    have hsz : decide ((Value.int (k p.1) t :: r).toArray.size < (Value.int (k p.1) t :: r).toArray.size) = false := decide_eq_false (Nat.lt_irrefl _)
    rw [hsz]
    exact hd_same _ 0 ⟨rfl, rfl⟩
  · obtain ⟨a, o, t, r, n, ev, ho, hc, hd⟩ := hp _ hm
    obtain ⟨a', o', t', r', n', ev', ho', hc', hd'⟩ := hp _ hm'
    generalize k p.1 = x at e hd ⊢
    generalize k q.1 = y at e hd' ⊢
    rw [ev, ev']
    refine PySem.W.kat_lt ho hd ho' hd' ?_
    show PySem.W.KatLex prog w A true _ _ ((.int x t, .int y t') :: r.zip r') 0 s
    refine PySem.W.kat_cons (SeqAt.EqAt.int_int x t y t' prog w _ _ ?_)
    refine PySem.W.kat_go (fun e1 => absurd (by simpa using e1) e) fun _ => ?_
    exact PySem.W.kat_no (oneLt_int ⟨rfl, rfl⟩)
theorem swo_fst (k : Value → Int) : Swo fun v u => decide (k v < k u) := by
  refine ⟨fun x y h => ?_, fun x y z h1 h2 => ?_⟩
  · have := of_decide_eq_true h
    exact decide_eq_false (by omega)
  · have a := of_decide_eq_false h1
    have b := of_decide_eq_false h2
    exact decide_eq_false (by omega)
theorem hd_sortable {a : Addr} {vs : List Value} {k : Value → Int} (h0 : 0 < vs.length) (hp : ∀ v ∈ vs, IsHd s.heap v (k v)) (hu : ∀ v ∈ vs, ∀ u ∈ vs, k v = k u → v = u) (ha : ∀ o, s.heap.get? a = some o → o.cls ≠ .type "tuple") : SortableO prog w A s a vs fun v u => decide (k v < k u) := by
  intro h' keep
  have hp' : ∀ v ∈ vs, IsHd h' v (k v) := fun v hm => (hp v hm).keeps fun b o e c => keep b o (fun z => by subst z; exact ha o e c) e
  obtain ⟨fs, h1, h2, h3⟩ := hd_firsts hp'
  refine ⟨tuples' true, fun Q E hq => ?_, hd_cmp hp' hu⟩
  refine PySem.W.kat_kind (T := .type "int") h1 (by omega) (fun f hm => ?_) (by rfl) ?_
  · obtain ⟨x, t, rfl⟩ := h3 f hm
    exact PySem.W.Looks.now
  · have e : (Value.type "int" != Value.type "tuple") = true := by first | decide +kernel | rfl | decide
    rw [e]
    exact hq
theorem sorted_hd {l : Addr} {vs : List Value} {k : Value → Int} {Q : Value → Shared → Prop} (hl : s.heap.IsList l vs.toArray) (hz : vs.length ≤ sizeLine) (hp : ∀ v ∈ vs, IsHd s.heap v (k v)) (hu : ∀ v ∈ vs, ∀ u ∈ vs, k v = k u → v = u)
    (h : ∀ (h' : Heap) (d : Addr) (out : List Value), out.Pairwise (fun v u => k v ≤ k u) → out.Perm vs → (∀ b o, s.heap.get? b = some o → h'.get? b = some o) → s.heap.objs.size ≤ d → (∃ n, h'.get? d = some (seqObj "list" out.toArray n)) → Q (.ref d) { s with heap := h' }) :
    wpAny (model prog w) A (call (.builtin "sorted") [.ref l]) Q E s := by
  refine sorted_ord (swo_fst k) hl hz (fun h2 h₁ a ha kk => ?_) fun out hs hb => ?_
  · refine hd_sortable (s := { s with heap := h₁ }) (by omega) (fun v hm => (hp v hm).keeps fun b o e _ => (kk b o e).2) hu fun o e => ?_
    cases e.symm.trans ha
    intro c
    exact absurd (Value.type.inj c) (by decide)
  · exact h _ _ out (hs.imp fun z => by have := of_decide_eq_false z; omega) hb.perm (fun b o e => sortedAll_old e) (Nat.le_succ _) (sortedAll_at s.heap vs out.toArray)
end
section
variable {X : Cx} {C : Ct} {P : Par} {pos p : Pos} {a : Expr} {ma : E} {m : Bool}
def rSortH (K : PySem.W.Frag) : List V → Hp → VK → Prop := fun vs H Q => ∃ (a : Addr) (xs : List V) (k : V → Int), vs = [V.ref a] ∧ SqL K H a xs ∧ (∀ x ∈ xs, ∃ t ys, x = V.ref t ∧ SqT K H t (.int (k x) :: ys)) ∧ (∀ x ∈ xs, ∀ y ∈ xs, k x = k y → x = y) ∧
  ∀ ys p, ys.Perm xs → ys.Pairwise (fun x y => k x ≤ k y) → H p = none → Q (.ref p) (upd H p (.lst ys))
theorem cr_sortH : CallR X (.builtin "sorted") (rSortH X.K) := by
  intro pins s σ H vs us Q I r h
  obtain ⟨a, xs, k, rfl, hs, hx, hu, q⟩ := h
  obtain ⟨its, rv, hl, hz⟩ := I.list hs
  obtain ⟨u, rfl, ru⟩ := vals1 r
  obtain rfl : u = Value.ref a := ru
  obtain ⟨e1, e2⟩ := refs_back rv fun x m => by
    obtain ⟨t, ys, e, _⟩ := hx x m
    exact ⟨t, e⟩
  have hmem : ∀ v ∈ its, backV v ∈ xs := fun v hv => by rw [e1]; exact List.mem_map.mpr ⟨v, hv, rfl⟩
  refine sorted_hd (k := fun u => k (backV u)) hl.isList (by rw [← rv.length]; exact hz) (fun v hv => ?_) (fun v hv u hu' e => ?_) fun h' d out h1 h2 kp hd hn => ?_
  · obtain ⟨t, rfl⟩ := e2 v hv
    obtain ⟨t', ys, e, ht⟩ := hx _ (hmem _ hv)
    cases e
    obtain ⟨its2, r2, ⟨o, ho, hc, n, hd⟩, _⟩ := I.tuple ht
    cases r2 with
    | cons ri rr =>
      obtain ⟨t1, rfl⟩ := ri
      exact ⟨t, o, t1, _, n, rfl, ho, hc, hd⟩
  · obtain ⟨t, rfl⟩ := e2 v hv
    obtain ⟨t', rfl⟩ := e2 u hu'
    have := hu _ (hmem _ hv) _ (hmem _ hu') e
    cases this
    rfl
  · have h3 : ∀ u ∈ out, ∃ a, u = Value.ref a := fun u hu => e2 u (h2.mem_iff.mp hu)
    obtain ⟨n, hn⟩ := hn
    have hb : (out.map backV).Perm xs := by
      rw [e1]
      exact h2.map _
    refine ⟨.ref d, upd H d (.lst (out.map backV)), I.laid (t' := s.toks) kp hd ⟨?_, out, n, vals_back h3, hn⟩, rfl, q _ d hb (List.pairwise_map.mpr h1) (I.hok.fresh hd)⟩
    rw [hb.length_eq]
    exact hz
/-- .. the heads aside -/
def rSortZ (K : PySem.W.Frag) : List V → Hp → VK → Prop := fun vs H Q => ∃ (a : Addr) (xs : List V) (ks : List Int), vs = [V.ref a] ∧ SqL K H a xs ∧ ks.length = xs.length ∧ (∀ p ∈ ks.zip xs, ∃ t ys, p.2 = V.ref t ∧ SqT K H t (.int p.1 :: ys)) ∧ ks.Nodup ∧
  ∀ (js : List (Int × V)) p, js.Perm (ks.zip xs) → js.Pairwise (fun x y => x.1 ≤ y.1) → H p = none → Q (.ref p) (upd H p (.lst (js.map (·.2))))
theorem cr_sortZ : CallR X (.builtin "sorted") (rSortZ X.K) := by
  intro pins s σ H vs us Q I r h
  obtain ⟨a, xs, ks, rfl, hs, hl, hx, hn, q⟩ := h
  obtain ⟨k, hk⟩ : ∃ k : V → Int, k = fun v : V => (match v with
    | V.ref t => (match s.heap.get? t with
      | some ⟨_, _, .seq its _, _⟩ => (match its[0]? with
        | some (Value.int i _) => i
        | _ => 0)
      | _ => 0)
    | _ => 0) := ⟨_, rfl⟩
  have hkv : ∀ p ∈ ks.zip xs, k p.2 = p.1 := fun p hp => by
    obtain ⟨t, ys, e, ht⟩ := hx p hp
    obtain ⟨its2, r2, ⟨o, ho, hc, n, hd⟩, _⟩ := I.tuple ht
    obtain ⟨oc, od, dt, sl⟩ := o
    dsimp only at hc hd
    subst hd
    cases r2 with
    | cons ri rr =>
      obtain ⟨t1, rfl⟩ := ri
      rw [e, hk]
      dsimp only
      rw [ho]
      rfl
  have hz : ∀ x ∈ xs, ∃ i, (i, x) ∈ ks.zip xs := fun x hx' => by
    obtain ⟨j, hj, e⟩ := List.mem_iff_getElem.mp hx'
    refine ⟨ks[j]'(by omega), List.mem_iff_getElem.mpr ⟨j, by rw [List.length_zip]; omega, ?_⟩⟩
    rw [List.getElem_zip, e]
  have hmap : ks.zip xs = xs.map fun x => (k x, x) := by
    refine List.ext_getElem? fun j => ?_
    rw [List.getElem?_map]
    cases e : (ks.zip xs)[j]? with
    | none =>
      rw [List.getElem?_eq_none_iff, List.length_zip] at e
      rw [List.getElem?_eq_none (by omega)]
      rfl
    | some p =>
      have hp := List.mem_of_getElem? e
      obtain ⟨h1, h2⟩ := List.getElem?_zip_eq_some.mp e
      rw [h2]
      show some p = some (k p.2, p.2)
      rw [hkv p hp]
  have hkeys : xs.map k = ks := by
    have e1 : (ks.zip xs).map (·.1) = ks := List.map_fst_zip (by omega)
    rw [hmap, List.map_map] at e1
    exact e1
  refine cr_sortH pins s σ H [V.ref a] us Q I r ⟨a, xs, k, rfl, hs, fun x hx' => ?_, fun x hx' y hy' e => ?_, fun ys p hp hw hn' => ?_⟩
  · obtain ⟨i, hi⟩ := hz x hx'
    obtain ⟨t, ys, e, ht⟩ := hx _ hi
    have := hkv _ hi
    dsimp only at this e ht
    rw [this]
    exact ⟨t, ys, e, ht⟩
  · obtain ⟨i, hi, e1⟩ := List.mem_iff_getElem.mp hx'
    obtain ⟨j, hj, e2⟩ := List.mem_iff_getElem.mp hy'
    have f1 : ks[i]'(by omega) = k x := by
      have : ks[i]? = some (k x) := by rw [← hkeys, List.getElem?_map, List.getElem?_eq_getElem hi, e1]; rfl
      exact (List.getElem?_eq_some_iff.mp this).2
    have f2 : ks[j]'(by omega) = k y := by
      have : ks[j]? = some (k y) := by rw [← hkeys, List.getElem?_map, List.getElem?_eq_getElem hj, e2]; rfl
      exact (List.getElem?_eq_some_iff.mp this).2
    have hij : i = j := (List.getElem_inj hn).mp (f1.trans (e.trans f2.symm))
    subst hij
    exact e1.symm.trans e2
  · have := q (ys.map fun x => (k x, x)) p (by rw [hmap]; exact hp.map _) (List.pairwise_map.mpr hw) hn'
    rw [List.map_map] at this
    have e : ys.map ((fun x : Int × V => x.2) ∘ fun x => (k x, x)) = ys := by
      conv => rhs; rw [← List.map_id ys]
      rfl
    rw [e] at this
    exact this
/-! ### the small machine's -/
theorem insF_map {α β : Type} (f : α → β) (p : Int × α) : ∀ l : List (Int × α), insF (p.1, f p.2) (l.map fun q => (q.1, f q.2)) = (insF p l).map fun q => (q.1, f q.2)
  | [] => rfl
  | q :: r => by
    show (if p.1 ≤ q.1 then _ else _) = (if p.1 ≤ q.1 then _ else _ : List (Int × α)).map _
    split
    · rfl
    · rw [List.map_cons, insF_map f p r]
theorem sortF_map {α β : Type} (f : α → β) : ∀ l : List (Int × α), sortF (l.map fun q => (q.1, f q.2)) = (sortF l).map fun q => (q.1, f q.2)
  | [] => rfl
  | p :: r => by
    show insF (p.1, f p.2) (sortF (r.map _)) = _
    rw [sortF_map f r, insF_map f p]
    rfl
theorem insF_perm {α : Type} (p : Int × α) : ∀ l : List (Int × α), (insF p l).Perm (p :: l)
  | [] => List.Perm.refl _
  | q :: r => by
    unfold insF
    split
    · exact List.Perm.refl _
    · exact ((insF_perm p r).cons q).trans (List.Perm.swap p q r)
theorem sortF_perm {α : Type} : ∀ l : List (Int × α), (sortF l).Perm l
  | [] => List.Perm.refl _
  | p :: r => (insF_perm p _).trans ((sortF_perm r).cons p)
theorem insF_sorted {α : Type} (p : Int × α) : ∀ l : List (Int × α), l.Pairwise (fun x y => x.1 ≤ y.1) → (insF p l).Pairwise (fun x y => x.1 ≤ y.1)
  | [], _ => by simp [insF]
  | q :: r, h => by
    unfold insF
    obtain ⟨h1, h2⟩ := List.pairwise_cons.mp h
    split
    · rename_i hx
      refine List.pairwise_cons.mpr ⟨fun z hz => ?_, h⟩
      rcases List.mem_cons.mp hz with e | e
      · rw [e]; exact hx
      · exact Int.le_trans hx (h1 z e)
    · rename_i hx
      refine List.pairwise_cons.mpr ⟨fun z hz => ?_, insF_sorted p r h2⟩
      rcases List.mem_cons.mp ((insF_perm p r).mem_iff.mp hz) with e | e
      · rw [e]; omega
      · exact h1 z e
theorem sortF_sorted {α : Type} : ∀ l : List (Int × α), (sortF l).Pairwise (fun x y => x.1 ≤ y.1)
  | [] => List.Pairwise.nil
  | p :: r => insF_sorted p _ (sortF_sorted r)
theorem sortF_eq {α : Type} {l ns : List (Int × α)} (hn : (l.map (·.1)).Nodup) (p : ns.Perm l) (s : ns.Pairwise (fun x y => x.1 ≤ y.1)) : ns = sortF l := by
  refine List.Perm.eq_of_pairwise (le := fun x y => x.1 ≤ y.1) (fun a b ha hb h1 h2 => ?_) s (sortF_sorted l) (p.trans (sortF_perm l).symm)
  have e : a.1 = b.1 := Int.le_antisymm h1 h2
  obtain ⟨i, hi, e1⟩ := List.mem_iff_getElem.mp (p.mem_iff.mp ha)
  obtain ⟨j, hj, e2⟩ := List.mem_iff_getElem.mp ((sortF_perm l).mem_iff.mp hb)
  have hij : i = j := by
    refine (List.getElem_inj (h₀ := by rw [List.length_map]; exact hi) (h₁ := by rw [List.length_map]; exact hj) hn).mp ?_
    rw [List.getElem_map, List.getElem_map, e1, e2, e]
  subst hij
  exact e1.symm.trans e2
theorem RelBs.of_all {C : Ct} {F : Hp} {α : Type} {f : α → B} {g : α → V} : ∀ {l : List α}, (∀ x ∈ l, RelB C F (f x) (g x)) → RelBs C F (l.map f) (l.map g)
  | [], _ => rfl
  | x :: l, h => ⟨g x, l.map g, rfl, h x List.mem_cons_self, RelBs.of_all fun y hy => h y (List.mem_cons_of_mem _ hy)⟩
theorem RelBs.zip_all {C : Ct} {F : Hp} : ∀ {xs : List B} {vs : List V}, RelBs C F xs vs → ∀ p ∈ xs.zip vs, RelB C F p.1 p.2
  | [], _, r, p, hp => by simp at hp
  | x :: xs, _, r, p, hp => by
    obtain ⟨v, vs, rfl, h1, h2⟩ := r
    rw [List.zip_cons_cons] at hp
    rcases List.mem_cons.mp hp with rfl | hp
    · exact h1
    · exact RelBs.zip_all h2 p hp
theorem hdsB_eq : ∀ {xs : List B} {ps : List (Int × B)}, hdsB xs = some ps → ps.map (·.2) = xs ∧ ∀ p ∈ ps, hdB p.2 = some p.1
  | [], _, e => by cases e; exact ⟨rfl, fun p hp => by cases hp⟩
  | x :: xs, ps, e => by
    obtain ⟨i, e1, e⟩ := Option.bind_eq_some_iff.mp e
    obtain ⟨qs, e2, e⟩ := Option.map_eq_some_iff.mp e
    cases e
    obtain ⟨h1, h2⟩ := hdsB_eq e2
    refine ⟨by rw [List.map_cons, h1], fun p hp => ?_⟩
    rcases List.mem_cons.mp hp with rfl | hp
    · exact e1
    · exact h2 p hp
theorem hdB_rel {C : Ct} {F : Hp} {x : B} {i : Int} {v : V} (e : hdB x = some i) (r : RelB C F x v) : ∃ t ys, v = .ref t ∧ SqT C.K F t (.int i :: ys) := by
  unfold hdB at e
  split at e
  · cases e
    obtain ⟨a, vs, rfl, h1, h2⟩ := r
    obtain ⟨u, ys, rfl, h3, h4⟩ := h2
    cases (show u = _ from h3)
    exact ⟨a, ys, rfl, h1⟩
  · cases e
theorem br_sortp (hK : C.K = X.K) : BiR C .sortp m (rSortZ X.K) := by
  intro F ι S H ds vs d S' Q rh fr rds e post
  unfold bi at e
  split at e <;> rename_i he <;> try (cases he; done)
  · obtain ⟨v, rfl, rx⟩ := rds.one
    obtain ⟨xs, e1, e⟩ := Option.bind_eq_some_iff.mp e
    obtain ⟨ps, e2, e⟩ := Option.bind_eq_some_iff.mp e
    split at e
    · rename_i hn
      obtain ⟨a, vs, rfl, h1, h2⟩ := lsq_rel rh rx e1
      obtain ⟨g1, g2⟩ := hdsB_eq e2
      have hlen : ps.length = vs.length := by rw [← h2.length, ← g1, List.length_map]
      obtain ⟨l, hl⟩ : ∃ l : List (Int × (B × V)), l = (ps.zip vs).map fun q => (q.1.1, (q.1.2, q.2)) := ⟨_, rfl⟩
      have l1 : l.map (fun q => (q.1, q.2.1)) = ps := by
        rw [hl, List.map_map]
        have : (ps.zip vs).map (fun q => q.1) = ps := List.map_fst_zip (by omega)
        exact this
      have l2 : l.map (fun q => (q.1, q.2.2)) = (ps.map (·.1)).zip vs := by
        rw [hl, List.map_map, List.zip_map_left]
        rfl
      have l3 : ∀ q ∈ l, RelB C F q.2.1 q.2.2 ∧ hdB q.2.1 = some q.1 := fun q hq => by
        rw [hl] at hq
        obtain ⟨z, hz, rfl⟩ := List.mem_map.mp hq
        obtain ⟨j, hj, ez⟩ := List.mem_iff_getElem.mp hz
        rw [List.getElem_zip] at ez
        have hj1 : j < ps.length := by rw [List.length_zip] at hj; omega
        have hj2 : j < vs.length := by omega
        subst ez
        refine ⟨?_, g2 _ (List.getElem_mem hj1)⟩
        refine RelBs.zip_all h2 (ps[j].2, vs[j]) (List.mem_iff_getElem.mpr ⟨j, by rw [List.length_zip, h2.length]; omega, ?_⟩)
        rw [List.getElem_zip]
        congr 1
        simp [← g1]
      refine ⟨a, vs, ps.map (·.1), rfl, hK ▸ h1, by rw [List.length_map, hlen], fun p hp => ?_, hn, fun js p hp hw hnn => ?_⟩
      · rw [← l2] at hp
        obtain ⟨q, hq, rfl⟩ := List.mem_map.mp hp
        obtain ⟨r1, r2⟩ := l3 q hq
        obtain ⟨t, ys, e3, h3⟩ := hdB_rel r2 r1
        exact ⟨t, ys, e3, hK ▸ sqT_mono rh.fz h3⟩
      · have hk1 : ((l.map fun q => (q.1, q.2.2)).map (·.1)).Nodup := by
          rw [l2, List.map_fst_zip (by rw [List.length_map]; omega)]
          exact hn
        rw [← l2] at hp
        have ej := sortF_eq hk1 hp hw
        have e5 : sortF ps = (sortF l).map fun q => (q.1, q.2.1) := by
          rw [← sortF_map (fun q : B × V => q.1) l, l1]
        rw [sortF_map (fun q : B × V => q.2)] at ej
        rw [ej, List.map_map]
        rw [e5, List.map_map] at e
        refine newL_gh e rh fr post ?_ p hnn
        exact RelBs.of_all (f := (fun x : Int × B => x.2) ∘ fun q : Int × (B × V) => (q.1, q.2.1)) (g := (fun x : Int × V => x.2) ∘ fun q : Int × (B × V) => (q.1, q.2.2)) fun q hq => (l3 q ((sortF_perm l).mem_iff.mp hq)).1
    · cases e
  · cases e
theorem me_sortp (m : Bool) (hK : C.K = X.K) (fr : Fr X.mg) (hc : X.calm = true) (ha : ME X C P a ma) (hg : Gl X "sorted" := by rfl) (hs : starEach [a] X.env = (false, eval a X.env) :: starEach [] X.env := by rfl) : ME X C P (.Call (.Name "sorted" p) [a] [] pos) (.bi .sortp m [ma]) :=
  me_cb .sortp (br_sortp hK) cr_sortZ hg fr.sorted boot_sorted (ma_cons ha ma_nil hs) (by decide) (by decide) hs rfl
end
end M
/-! SM: how the small interpreter is reckoned. -/
namespace M
@[simp] theorem bind_some' {α β : Type} (a : α) (f : α → Option β) : Option.bind (some a) f = f a := rfl
/-! ### expressions -/
section
variable (P : Par) (σ : Sl) (S : Store)
@[simp] theorem ev_v (i : Nat) : ev P (.v i) σ S = (match σ[i]? with
    | some (some d) => some (d, S)
    | _ => none) := rfl
@[simp] theorem ev_k (x : B) : ev P (.k x) σ S = some (.b x, S) := rfl
@[simp] theorem ev_nop : ev P .nop σ S = some (.b .non, S) := rfl
@[simp] theorem ev_nev : ev P .nev σ S = none := rfl
@[simp] theorem ev_bin (o : Op) (a b : E) : ev P (.bin o a b) σ S = (ev P a σ S).bind fun x => (ev P b σ x.2).bind fun y => (bin y.2 o x.1 y.1).map fun z => (z, y.2) := rfl
@[simp] theorem ev_cat (a b : E) : ev P (.cat a b) σ S = (ev P a σ S).bind fun x => (ev P b σ x.2).bind fun y => (lstD y.2 x.1).bind fun xs => (lstD y.2 y.1).bind fun ys => newL y.2 true (xs ++ ys) := rfl
@[simp] theorem ev_neg (a : E) : ev P (.neg a) σ S = (ev P a σ S).bind fun x => match x.1 with
    | .b (.int i) => some (.b (.int (-i)), x.2)
    | _ => none := rfl
@[simp] theorem ev_not (a : E) : ev P (.not a) σ S = (ev P a σ S).bind fun x => (truth x.2 x.1).map fun c => (.b (.bl !c), x.2) := rfl
@[simp] theorem ev_cmp (o : Cm) (a b : E) : ev P (.cmp o a b) σ S = (ev P a σ S).bind fun x => (ev P b σ x.2).bind fun y => (cmp y.2 o x.1 y.1).map fun z => (.b (.bl z), y.2) := rfl
@[simp] theorem ev_chn (o p : Cm) (a b c : E) : ev P (.chn o p a b c) σ S = (ev P a σ S).bind fun x => (ev P b σ x.2).bind fun y => (cmp y.2 o x.1 y.1).bind fun r =>
    if r then (ev P c σ y.2).bind fun z => (cmp z.2 p y.1 z.1).map fun q => (.b (.bl q), z.2) else some (.b (.bl false), y.2) := rfl
@[simp] theorem ev_and (a b : E) : ev P (.and a b) σ S = (ev P a σ S).bind fun x => (truth x.2 x.1).bind fun c => if c then ev P b σ x.2 else some x := rfl
@[simp] theorem ev_or (a b : E) : ev P (.or a b) σ S = (ev P a σ S).bind fun x => (truth x.2 x.1).bind fun c => if c then some x else ev P b σ x.2 := rfl
@[simp] theorem ev_ite (t a b : E) : ev P (.ite t a b) σ S = (ev P t σ S).bind fun x => (truth x.2 x.1).bind fun c => if c then ev P a σ x.2 else ev P b σ x.2 := rfl
@[simp] theorem ev_tup (es : List E) : ev P (.tup es) σ S = (evs P es σ S).bind fun p => if p.1.length ≤ SZ then some (mkTup p.1, p.2) else none := rfl
@[simp] theorem ev_lst (m : Bool) (es : List E) : ev P (.lst m es) σ S = (evs P es σ S).bind fun p => (allB p.1).bind fun xs => newL p.2 m xs := rfl
@[simp] theorem ev_dnew (m : Bool) : ev P (.dnew m) σ S = newD S m [] := rfl
@[simp] theorem ev_idx (a i : E) : ev P (.idx a i) σ S = (ev P a σ S).bind fun x => (ev P i σ x.2).bind fun y => (idx y.2 x.1 y.1).map fun z => (z, y.2) := rfl
@[simp] theorem ev_slc (a l h : E) : ev P (.slc a l h) σ S = (ev P a σ S).bind fun x => (ev P l σ x.2).bind fun y => (ev P h σ y.2).bind fun z => (slc z.2 x.1 y.1 z.1).map fun r => (r, z.2) := rfl
@[simp] theorem ev_rev (a : E) : ev P (.rev a) σ S = (ev P a σ S).bind fun x => (lstD x.2 x.1).map fun xs => (.b (.lst xs.reverse), x.2) := rfl
@[simp] theorem ev_att (a : E) (f : Nat) : ev P (.att a f) σ S = (ev P a σ S).bind fun x => (getf P.fo x.2 x.1 f).map fun z => (z, x.2) := rfl
@[simp] theorem ev_call (f : Nat) (es : List E) : ev P (.call f es) σ S = (evs P es σ S).bind fun p => P.C P.base f p.1 p.2 := rfl
@[simp] theorem ev_meth (o : E) (m : Nat) (es : List E) : ev P (.meth o m es) σ S = (ev P o σ S).bind fun x => (clsOf x.2 m x.1).bind fun c => (P.meth c m).bind fun f => (evs P es σ x.2).bind fun p => P.C P.base f (x.1 :: p.1) p.2 := rfl
@[simp] theorem ev_bi (b : Bi) (m : Bool) (es : List E) : ev P (.bi b m es) σ S = (evs P es σ S).bind fun p => bi p.2 b m p.1 := rfl
@[simp] theorem ev_mt (b : Mt) (o : E) (es : List E) : ev P (.mt b o es) σ S = (ev P o σ S).bind fun x => (evs P es σ x.2).bind fun p => if kd p.2 x.1 = kd x.2 x.1 then mt p.2 b x.1 p.1 else none := rfl
@[simp] theorem evs_nil : evs P [] σ S = some ([], S) := rfl
@[simp] theorem evs_cons (e : E) (r : List E) : evs P (e :: r) σ S = (ev P e σ S).bind fun x => (evs P r σ x.2).map fun y => (x.1 :: y.1, y.2) := rfl
theorem ev_lc (m : Bool) (g : Pt) (k : Ik) (es : List E) (t e : E) (w : List Nat) : ev P (.lc m g k es t e w) σ S = (evs P es σ S).bind fun p => (items p.2 k p.1).bind fun xs => if xs.length ≤ SZ then
      (lcL (lcF P t e) g xs (wipe σ w) (lockAll p.2 p.1)).bind fun q => (unlockAll p.2 q.2 p.1).bind fun S3 => newL S3 m q.1 else none := rfl
theorem ev_pick (es : List E) (i : E) : ev P (.pick es i) σ S = (evs P es σ S).bind fun p => (ev P i σ p.2).bind fun y => match y.1 with
    | .b (.int k) => if p.1.length ≤ SZ then (L2.atI p.1 k).map fun z => (z, y.2) else none
    | _ => none := rfl
theorem ev_fz (e : E) : ev P (.fz e) σ S = (ev P e σ S).bind fun r => if (r.2.take S.length).all noIns then (frz r.2 S.length 8 r.1).map fun x => (.b x, r.2.take S.length) else none := rfl
theorem ev_dic (es : List E) : ev P (.dic es) σ S = (evs P es σ (S ++ [.dic []])).bind fun p => match p.2[S.length]? with
    | some (.dic []) => (flat2 p.1).bind fun kvs => if kvs.length ≤ 15 then some (.ref S.length, p.2.set S.length (.dic (dmerge [] kvs))) else none
    | _ => none := rfl
theorem exec_blk (i : Nat) (b : List St) : exec P (.blk i b) σ S = (execs P b σ S).bind fun q => match q with
    | (.nx, σ2, S2) => if (S2.take S.length).all noIns && (σ2.set i none).all (low S.length) then (match σ2[i]? with
        | some (some d) => (frz S2 S.length 8 d).map fun y => (.nx, σ2.set i (some (.b y)), S2.take S.length)
        | _ => none) else none
    | _ => none := rfl
theorem ev_lkd (i : Nat) (e : E) : ev P (.lkd i e) σ S = (match σ[i]? with
    | some (some (.ref n)) => (match S[n]? with
      | some (.dic _) => (ev P e σ (lockAll S [.ref n])).bind fun r => (unlockAll S r.2 [.ref n]).map fun S3 => (r.1, S3)
      | _ => none)
    | _ => none) := rfl
/-! ### statements -/
@[simp] theorem exec_set (i : Nat) (e : E) : exec P (.set i e) σ S = (ev P e σ S).map fun x => (.nx, σ.set i (some x.1), x.2) := rfl
@[simp] theorem exec_unp (is : List Nat) (e : E) : exec P (.unp is e) σ S = (ev P e σ S).bind fun x => (asgD is x.1 σ).map fun σ2 => (.nx, σ2, x.2) := rfl
@[simp] theorem exec_aug (i : Nat) (o : Op) (e : E) : exec P (.aug i o e) σ S = (match σ[i]? with
    | some (some (.b (.int a))) => (ev P e σ S).bind fun y => (match y.1 with
      | .b (.int c) => (arith o a c).map fun z => (.nx, σ.set i (some (.b (.int z))), y.2)
      | _ => none)
    | _ => none) := rfl
@[simp] theorem exec_seti (o i e : E) : exec P (.seti o i e) σ S = (ev P e σ S).bind fun v => (ev P o σ v.2).bind fun x => (ev P i σ x.2).bind fun y => (seti y.2 x.1 y.1 v.1).map fun S2 => (.nx, σ, S2) := rfl
@[simp] theorem exec_iff (t : E) (a b : List St) : exec P (.iff t a b) σ S = (ev P t σ S).bind fun x => (truth x.2 x.1).bind fun c => if c then execs P a σ x.2 else execs P b σ x.2 := rfl
theorem exec_whl (t : E) (b : List St) : exec P (.whl t b) σ S = whileL (fun σ2 S2 => (ev P t σ2 S2).bind fun x => (truth x.2 x.1).map fun c => (c, x.2)) (fun σ2 S2 => execs P b σ2 S2) WF σ S := rfl
theorem exec_for (g : Pt) (k : Ik) (es : List E) (b : List St) : exec P (.for g k es b) σ S = (evs P es σ S).bind fun p => (items p.2 k p.1).bind fun xs =>
      (forL (fun σ2 S2 => execs P b σ2 S2) g xs σ (lockAll p.2 p.1)).bind fun r => (unlockAll p.2 r.2.2 p.1).map fun S3 => (r.1, r.2.1, S3) := rfl
@[simp] theorem exec_ret (e : E) : exec P (.ret e) σ S = (ev P e σ S).map fun x => (.rt x.1, σ, x.2) := rfl
@[simp] theorem exec_retn : exec P .retn σ S = some (.rt (.b .non), σ, S) := rfl
@[simp] theorem exec_ex (e : E) : exec P (.ex e) σ S = (ev P e σ S).map fun x => (.nx, σ, x.2) := rfl
@[simp] theorem exec_cont : exec P .cont σ S = some (.ct, σ, S) := rfl
@[simp] theorem execs_nil : execs P [] σ S = some (.nx, σ, S) := rfl
theorem execs_cons (s : St) (r : List St) : execs P (s :: r) σ S = (exec P s σ S).bind fun q => match q with
    | (.nx, σ2, S2) => execs P r σ2 S2
    | q => some q := rfl
end
/-- one statement done -/
theorem execs_step {P : Par} {s : St} {r : List St} {σ σ2 : Sl} {S S2 : Store} (h : exec P s σ S = some (.nx, σ2, S2)) : execs P (s :: r) σ S = execs P r σ2 S2 := by
  rw [execs_cons, h]
  rfl
theorem execs_rt {P : Par} {s : St} {r : List St} {σ σ2 : Sl} {S S2 : Store} {d : D} (h : exec P s σ S = some (.rt d, σ2, S2)) : execs P (s :: r) σ S = some (.rt d, σ2, S2) := by
  rw [execs_cons, h]
  rfl
/-! ### numbers -/
@[simp] theorem ar_add (i j : Int) : arith .add i j = some (i + j) := rfl
@[simp] theorem ar_sub (i j : Int) : arith .sub i j = some (i - j) := rfl
@[simp] theorem ar_and (i j : Int) : arith .band i j = some (PySem.Builtin.bitAnd i j) := rfl
@[simp] theorem ar_or (i j : Int) : arith .bor i j = some (PySem.Builtin.bitOr i j) := rfl
@[simp] theorem ar_xor (i j : Int) : arith .xor i j = some (PySem.Builtin.bitXor i j) := rfl
theorem ar_mul {i j : Int} (h : mulOk i j = true) : arith .mul i j = some (i * j) := if_pos h
theorem mulOk_l {i j : Int} (h : -(2 ^ 64) < i) (h2 : i < 2 ^ 64) : mulOk i j = true := by
  unfold mulOk
  rw [decide_eq_true ⟨h, h2⟩]
  rfl
theorem mulOk_r {i j : Int} (h : -(2 ^ 64) < j) (h2 : j < 2 ^ 64) : mulOk i j = true := by
  unfold mulOk
  rw [decide_eq_true (p := -(2 ^ 64) < j ∧ j < 2 ^ 64) ⟨h, h2⟩, Bool.or_true]
  rfl
theorem ar_mul_l {i j : Int} (h : -(2 ^ 64) < i) (h2 : i < 2 ^ 64) : arith .mul i j = some (i * j) := ar_mul (mulOk_l h h2)
theorem ar_mul_r {i j : Int} (h : -(2 ^ 64) < j) (h2 : j < 2 ^ 64) : arith .mul i j = some (i * j) := ar_mul (mulOk_r h h2)
theorem ar_mod {i j : Int} (h : 0 < j) : arith .mod i j = some (i % j) := if_pos h
theorem ar_fdiv {i j : Int} (h : divOk j = true) : arith .fdiv i j = some (i / j) := if_pos h
theorem divOk_small {j : Int} (h : 0 < j) (h2 : j ≤ 2 ^ 8000) : divOk j = true := by
  unfold divOk
  rw [decide_eq_true h, Bool.true_and, decide_eq_true]
  have h3 : j.natAbs ≤ 2 ^ 8000 := by omega
  have h4 : j.natAbs ≠ 0 := by omega
  have := (Nat.log2_lt h4 (k := 8001)).mpr (Nat.lt_of_le_of_lt h3 (Nat.pow_lt_pow_right (by decide) (by decide)))
  omega
theorem ar_shr {i j : Int} (h : 0 ≤ j) : arith .shr i j = some (i / 2 ^ j.toNat) := if_pos h
theorem ar_shl {i j : Int} (h : shlOk i j = true) : arith .shl i j = some (i * 2 ^ j.toNat) := if_pos h
theorem shlOk_small {i j : Int} (h : 0 ≤ j) (h2 : j ≤ 1000000) (h3 : i.natAbs < 2 ^ 64) : shlOk i j = true := by
  unfold shlOk
  rw [decide_eq_true h, decide_eq_true (p := j ≤ 1000000 ∧ i.natAbs < 2 ^ 64) ⟨h2, h3⟩]
  rfl
theorem ar_shl1 {j : Int} (h : 0 ≤ j) (h2 : j ≤ 1000000) : arith .shl 1 j = some (2 ^ j.toNat) := by
  rw [ar_shl (shlOk_small h h2 (by decide)), Int.one_mul]
theorem ar_pow {i j : Int} (h : 0 ≤ j ∧ j ≤ 1000000 ∧ i.natAbs < 2 ^ 64) : arith .pow i j = some (i ^ j.toNat) := if_pos h
@[simp] theorem bin_ii (S : Store) (o : Op) (i j : Int) : bin S o (.b (.int i)) (.b (.int j)) = (arith o i j).map fun z => .b (.int z) := rfl
@[simp] theorem int2_ii (f : Int → Int → Bool) (i j : Int) : int2 f (.b (.int i)) (.b (.int j)) = some (f i j) := rfl
@[simp] theorem cmp_lt (S : Store) (x y : D) : cmp S .lt x y = int2 (fun i j => decide (i < j)) x y := rfl
@[simp] theorem cmp_le (S : Store) (x y : D) : cmp S .le x y = int2 (fun i j => decide (i ≤ j)) x y := rfl
@[simp] theorem cmp_gt (S : Store) (x y : D) : cmp S .gt x y = int2 (fun i j => decide (j < i)) x y := rfl
@[simp] theorem cmp_ge (S : Store) (x y : D) : cmp S .ge x y = int2 (fun i j => decide (j ≤ i)) x y := rfl
@[simp] theorem cmp_eq_i (S : Store) (i j : Int) : cmp S .eq (.b (.int i)) (.b (.int j)) = some (i == j) := rfl
@[simp] theorem cmp_ne_i (S : Store) (i j : Int) : cmp S .ne (.b (.int i)) (.b (.int j)) = some (!(i == j)) := rfl
@[simp] theorem truth_bl (S : Store) (c : Bool) : truth S (.b (.bl c)) = some c := rfl
@[simp] theorem truth_int (S : Store) (i : Int) : truth S (.b (.int i)) = some (i != 0) := rfl
/-! ### calls -/
theorem evC_at {T : Tab} {k base f : Nat} {ds : List D} {S S2 : Store} {fd : Fd} {d : D} {r : D × Store} {σ2 : Sl} (hf : T.fn f = some fd) (hl : ds.length = fd.np)
    (h : execs (par T k (if fd.val then S.length else base)) fd.body (start fd.ns ds) S = some (.rt d, σ2, S2)) (hr : fin fd.val S.length d S2 = some r) : evC T (k + 1) base f ds S = some r := by
  have e : evC T (k + 1) base f ds S = (T.fn f).bind fun fd => if ds.length = fd.np then (execs (par T k (if fd.val then S.length else base)) fd.body (start fd.ns ds) S).bind fun q => match q with
        | (.nx, _, S2) => fin fd.val S.length (.b .non) S2
        | (.rt d, _, S2) => fin fd.val S.length d S2
        | (.ct, _, _) => none
    else none := by
      cases k <;> rfl
  rw [e, hf]
  show (if ds.length = fd.np then _ else none) = some r
  rw [if_pos hl, h]
  exact hr
theorem fin_b {base : Nat} {x : B} {S : Store} : fin true base (.b x) S = some (.b x, S.take base) := rfl
/-! ### comprehensions -/
theorem lcL_map {f : Sl → Store → Option (Option B × Store)} {g : Pt} (h : B → B) {σ : Sl} {S : Store} : ∀ (xs : List B), (∀ x ∈ xs, ∃ σ2, asg g x σ = some σ2 ∧ f σ2 S = some (some (h x), S)) → lcL f g xs σ S = some (xs.map h, S)
  | [], _ => rfl
  | x :: xs, H => by
    obtain ⟨σ2, h1, h2⟩ := H x List.mem_cons_self
    unfold lcL
    rw [h1, bind_some', h2, bind_some', lcL_map h xs fun y hy => H y (List.mem_cons_of_mem _ hy)]
    rfl
theorem lcL_filter {f : Sl → Store → Option (Option B × Store)} {g : Pt} (p : B → Bool) (h : B → B) {σ : Sl} {S : Store} : ∀ (xs : List B), (∀ x ∈ xs, ∃ σ2, asg g x σ = some σ2 ∧ f σ2 S = some (if p x then some (h x) else none, S)) → lcL f g xs σ S = some ((xs.filter p).map h, S)
  | [], _ => rfl
  | x :: xs, H => by
    obtain ⟨σ2, h1, h2⟩ := H x List.mem_cons_self
    unfold lcL
    rw [h1, bind_some', h2, bind_some', lcL_filter p h xs fun y hy => H y (List.mem_cons_of_mem _ hy)]
    cases e : p x
    · rw [List.filter_cons_of_neg (by rw [e]; exact Bool.false_ne_true)]
      rfl
    · rw [List.filter_cons_of_pos e]
      rfl
@[simp] theorem lcF_yes (P : Par) (e : E) (σ : Sl) (S : Store) : lcF P (.k (.bl true)) e σ S = (ev P e σ S).bind fun y => (asB y).map fun z => (some z.1, z.2) := rfl
theorem lcF_test {P : Par} {t e : E} {σ : Sl} {S : Store} {c : Bool} {y : B} (ht : ev P t σ S = some (.b (.bl c), S)) (he : c = true → ev P e σ S = some (.b y, S)) : lcF P t e σ S = some (if c then some y else none, S) := by
  unfold lcF
  rw [ht]
  cases c with
  | true =>
    show ((ev P e σ S).bind fun y => (asB y).map fun z => (some z.1, z.2)) = _
    rw [he rfl]
    rfl
  | false => rfl
@[simp] theorem asB_b (x : B) (S : Store) : asB (.b x, S) = some (x, S) := rfl
theorem newL_f {S : Store} {xs : List B} (h : xs.length ≤ SZ) : newL S false xs = some (.b (.lst xs), S) := if_pos h
theorem newL_t {S : Store} {xs : List B} (h : xs.length ≤ SZ) : newL S true xs = some (.ref S.length, S ++ [.lst xs]) := if_pos h
/-- [e for g in xs], nothing changes -/
theorem lc_pure {P : Par} {g : Pt} {k : Ik} {a e : E} {w : List Nat} {σ : Sl} {S : Store} {x : B} {xs : List B} (h : B → B) (ha : ev P a σ S = some (.b x, S)) (hi : items S k [.b x] = some xs) (hz : xs.length ≤ SZ)
    (H : ∀ y ∈ xs, ∃ σ2, asg g y (wipe σ w) = some σ2 ∧ ev P e σ2 S = some (.b (h y), S)) : ev P (.lc false g k [a] (.k (.bl true)) e w) σ S = some (.b (.lst (xs.map h)), S) := by
  rw [ev_lc]
  simp only [evs_cons, evs_nil, ha, bind_some', Option.map_some]
  rw [hi, bind_some', if_pos hz]
  show ((lcL (lcF P (.k (.bl true)) e) g xs (wipe σ w) S).bind fun q => (unlockAll S q.2 [.b x]).bind fun S3 => newL S3 false q.1) = _
  rw [lcL_map h xs fun y hy => by
    obtain ⟨σ2, h1, h2⟩ := H y hy
    exact ⟨σ2, h1, by rw [lcF_yes, h2] <;> rfl⟩]
  show newL S false (xs.map h) = _
  rw [newL_f (by rw [List.length_map]; exact hz)]
theorem lc_filt {P : Par} {g : Pt} {k : Ik} {a t e : E} {w : List Nat} {σ : Sl} {S : Store} {x : B} {xs : List B} (p : B → Bool) (h : B → B) (ha : ev P a σ S = some (.b x, S)) (hi : items S k [.b x] = some xs) (hz : xs.length ≤ SZ)
    (H : ∀ y ∈ xs, ∃ σ2, asg g y (wipe σ w) = some σ2 ∧ ev P t σ2 S = some (.b (.bl (p y)), S) ∧ (p y = true → ev P e σ2 S = some (.b (h y), S))) : ev P (.lc false g k [a] t e w) σ S = some (.b (.lst ((xs.filter p).map h)), S) := by
  rw [ev_lc]
  simp only [evs_cons, evs_nil, ha, bind_some', Option.map_some]
  rw [hi, bind_some', if_pos hz]
  show ((lcL (lcF P t e) g xs (wipe σ w) S).bind fun q => (unlockAll S q.2 [.b x]).bind fun S3 => newL S3 false q.1) = _
  rw [lcL_filter p h xs fun y hy => by
    obtain ⟨σ2, h1, h2, h3⟩ := H y hy
    exact ⟨σ2, h1, lcF_test h2 h3⟩]
  show newL S false ((xs.filter p).map h) = _
  rw [newL_f (by rw [List.length_map]; exact Nat.le_trans (List.length_filter_le _ _) hz)]
/-! ### walks -/
theorem whileL_done {t : Sl → Store → Option (Bool × Store)} {f : Sl → Store → Rs} {n : Nat} {σ : Sl} {S S2 : Store} (h : t σ S = some (false, S2)) : whileL t f (n + 1) σ S = some (.nx, σ, S2) := by
  unfold whileL
  rw [h]
  rfl
theorem whileL_next {t : Sl → Store → Option (Bool × Store)} {f : Sl → Store → Rs} {n : Nat} {σ σ2 : Sl} {S S2 S3 : Store} (h : t σ S = some (true, S2)) (h2 : f σ S2 = some (.nx, σ2, S3)) : whileL t f (n + 1) σ S = whileL t f n σ2 S3 := by
  rw [whileL, h]
  show (f σ S2).bind _ = _
  rw [h2]
  rfl
end M
/-! SW: what is wanted of a run. -/
namespace M
def We (P : Par) (e : E) (σ : Sl) (S : Store) (Q : D → Store → Prop) : Prop := ∃ d S', ev P e σ S = some (d, S') ∧ Q d S'
def Wes (P : Par) (e : List E) (σ : Sl) (S : Store) (Q : List D → Store → Prop) : Prop := ∃ d S', evs P e σ S = some (d, S') ∧ Q d S'
def Wx (P : Par) (s : St) (σ : Sl) (S : Store) (Q : Fl → Sl → Store → Prop) : Prop := ∃ f σ' S', exec P s σ S = some (f, σ', S') ∧ Q f σ' S'
def Ws (P : Par) (s : List St) (σ : Sl) (S : Store) (Q : Fl → Sl → Store → Prop) : Prop := ∃ f σ' S', execs P s σ S = some (f, σ', S') ∧ Q f σ' S'
/-- an option's value -/
def Wo' {α : Type} (x : Option α) (Q : α → Prop) : Prop := ∃ a, x = some a ∧ Q a
def Wc (T : Tab) (k base f : Nat) (ds : List D) (S : Store) (Q : D → Store → Prop) : Prop := ∃ d S', evC T k base f ds S = some (d, S') ∧ Q d S'
section
variable {α β : Type} {x : Option α} {f : α → Option β} {g : α → β} {Q : β → Prop}
theorem wo_bind : Wo' (x.bind f) Q ↔ Wo' x fun a => Wo' (f a) Q := by
  constructor
  · rintro ⟨b, h, q⟩
    obtain ⟨a, h1, h2⟩ := Option.bind_eq_some_iff.mp h
    exact ⟨a, h1, b, h2, q⟩
  · rintro ⟨a, h1, b, h2, q⟩
    exact ⟨b, by rw [h1]; exact h2, q⟩
theorem wo_map : Wo' (x.map g) Q ↔ Wo' x fun a => Q (g a) := by
  constructor
  · rintro ⟨b, h, q⟩
    obtain ⟨a, h1, h2⟩ := Option.map_eq_some_iff.mp h
    exact ⟨a, h1, by show Q (g a); rw [h2]; exact q⟩
  · rintro ⟨a, h1, q⟩
    exact ⟨g a, by rw [h1]; rfl, q⟩
@[simp] theorem wo_some {a : α} {Q : α → Prop} : Wo' (some a) Q ↔ Q a := ⟨fun ⟨_, h, q⟩ => Option.some.inj h ▸ q, fun q => ⟨a, rfl, q⟩⟩
@[simp] theorem wo_none {Q : α → Prop} : Wo' none Q ↔ False := ⟨(fun ⟨_, h, _⟩ => nomatch h), False.elim⟩
theorem Wo'.mono {Q Q' : α → Prop} (h : Wo' x Q) (k : ∀ a, Q a → Q' a) : Wo' x Q' := let ⟨a, e, q⟩ := h; ⟨a, e, k a q⟩
end
section
variable {P : Par} {σ : Sl} {S : Store} {Q : D → Store → Prop} {R : Fl → Sl → Store → Prop}
theorem we_def {e : E} : We P e σ S Q ↔ Wo' (ev P e σ S) fun p => Q p.1 p.2 := ⟨fun ⟨d, S', h, q⟩ => ⟨(d, S'), h, q⟩, fun ⟨(d, S'), h, q⟩ => ⟨d, S', h, q⟩⟩
theorem wes_def {e : List E} {Q : List D → Store → Prop} : Wes P e σ S Q ↔ Wo' (evs P e σ S) fun p => Q p.1 p.2 := ⟨fun ⟨d, S', h, q⟩ => ⟨(d, S'), h, q⟩, fun ⟨(d, S'), h, q⟩ => ⟨d, S', h, q⟩⟩
theorem wx_def {s : St} : Wx P s σ S R ↔ Wo' (exec P s σ S) fun p => R p.1 p.2.1 p.2.2 := ⟨fun ⟨f, d, S', h, q⟩ => ⟨(f, d, S'), h, q⟩, fun ⟨(f, d, S'), h, q⟩ => ⟨f, d, S', h, q⟩⟩
theorem ws_def {s : List St} : Ws P s σ S R ↔ Wo' (execs P s σ S) fun p => R p.1 p.2.1 p.2.2 := ⟨fun ⟨f, d, S', h, q⟩ => ⟨(f, d, S'), h, q⟩, fun ⟨(f, d, S'), h, q⟩ => ⟨f, d, S', h, q⟩⟩
theorem wc_def {T : Tab} {k base f : Nat} {ds : List D} : Wc T k base f ds S Q ↔ Wo' (evC T k base f ds S) fun p => Q p.1 p.2 := ⟨fun ⟨d, S', h, q⟩ => ⟨(d, S'), h, q⟩, fun ⟨(d, S'), h, q⟩ => ⟨d, S', h, q⟩⟩
theorem We.mono {e : E} {Q' : D → Store → Prop} (h : We P e σ S Q) (k : ∀ d S, Q d S → Q' d S) : We P e σ S Q' := let ⟨d, S', e, q⟩ := h; ⟨d, S', e, k _ _ q⟩
theorem Ws.mono {e : List St} {R' : Fl → Sl → Store → Prop} (h : Ws P e σ S R) (k : ∀ f d S, R f d S → R' f d S) : Ws P e σ S R' := let ⟨f, d, S', e, q⟩ := h; ⟨f, d, S', e, k _ _ _ q⟩
theorem Wc.mono {T : Tab} {k base f : Nat} {ds : List D} {Q' : D → Store → Prop} (h : Wc T k base f ds S Q) (m : ∀ d S, Q d S → Q' d S) : Wc T k base f ds S Q' := let ⟨d, S', e, q⟩ := h; ⟨d, S', e, m _ _ q⟩
/-! ### expressions -/
@[simp] theorem we_v {i : Nat} {d : D} (h : σ[i]? = some (some d)) : We P (.v i) σ S Q ↔ Q d S := by
  rw [we_def, ev_v, h, wo_some]
@[simp] theorem we_k {x : B} : We P (.k x) σ S Q ↔ Q (.b x) S := by rw [we_def, ev_k, wo_some]
@[simp] theorem we_nop : We P .nop σ S Q ↔ Q (.b .non) S := by rw [we_def, ev_nop, wo_some]
@[simp] theorem we_bin {o : Op} {a b : E} : We P (.bin o a b) σ S Q ↔ We P a σ S fun x S1 => We P b σ S1 fun y S2 => Wo' (bin S2 o x y) fun z => Q z S2 := by
  simp only [we_def, ev_bin, wo_bind, wo_map]
@[simp] theorem we_cat {a b : E} : We P (.cat a b) σ S Q ↔ We P a σ S fun x S1 => We P b σ S1 fun y S2 => Wo' (lstD S2 x) fun xs => Wo' (lstD S2 y) fun ys => Wo' (newL S2 true (xs ++ ys)) fun p => Q p.1 p.2 := by
  simp only [we_def, ev_cat, wo_bind]
@[simp] theorem we_neg {a : E} : We P (.neg a) σ S Q ↔ We P a σ S fun x S1 => Wo' (match x with
    | .b (.int i) => some (-i)
    | _ => none) fun i => Q (.b (.int i)) S1 := by
  simp only [we_def, ev_neg, wo_bind]
  constructor
  · rintro ⟨⟨x, S1⟩, h, q⟩
    refine ⟨_, h, ?_⟩
    dsimp only at q ⊢
    split at q
    · rw [wo_some] at q ⊢; exact q
    · rw [wo_none] at q; exact q.elim
  · rintro ⟨⟨x, S1⟩, h, q⟩
    refine ⟨_, h, ?_⟩
    dsimp only at q ⊢
    split at q
    · rw [wo_some] at q ⊢; exact q
    · rw [wo_none] at q; exact q.elim
@[simp] theorem we_not {a : E} : We P (.not a) σ S Q ↔ We P a σ S fun x S1 => Wo' (truth S1 x) fun c => Q (.b (.bl !c)) S1 := by
  simp only [we_def, ev_not, wo_bind, wo_map]
@[simp] theorem we_cmp {o : Cm} {a b : E} : We P (.cmp o a b) σ S Q ↔ We P a σ S fun x S1 => We P b σ S1 fun y S2 => Wo' (cmp S2 o x y) fun z => Q (.b (.bl z)) S2 := by
  simp only [we_def, ev_cmp, wo_bind, wo_map]
theorem wo_ite {α : Type} {c : Prop} [Decidable c] {x y : Option α} {Q : α → Prop} : Wo' (if c then x else y) Q ↔ if c then Wo' x Q else Wo' y Q := by split <;> rfl
@[simp] theorem we_chn {o p : Cm} {a b c : E} : We P (.chn o p a b c) σ S Q ↔ We P a σ S fun x S1 => We P b σ S1 fun y S2 => Wo' (cmp S2 o x y) fun r => if r then We P c σ S2 fun z S3 => Wo' (cmp S3 p y z) fun q => Q (.b (.bl q)) S3 else Q (.b (.bl false)) S2 := by
  simp only [we_def, ev_chn, wo_bind, wo_map, wo_ite, wo_some]
@[simp] theorem we_and {a b : E} : We P (.and a b) σ S Q ↔ We P a σ S fun x S1 => Wo' (truth S1 x) fun c => if c then We P b σ S1 Q else Q x S1 := by
  simp only [we_def, ev_and, wo_bind, wo_ite, wo_some]
@[simp] theorem we_or {a b : E} : We P (.or a b) σ S Q ↔ We P a σ S fun x S1 => Wo' (truth S1 x) fun c => if c then Q x S1 else We P b σ S1 Q := by
  simp only [we_def, ev_or, wo_bind, wo_ite, wo_some]
@[simp] theorem we_ite {t a b : E} : We P (.ite t a b) σ S Q ↔ We P t σ S fun x S1 => Wo' (truth S1 x) fun c => if c then We P a σ S1 Q else We P b σ S1 Q := by
  simp only [we_def, ev_ite, wo_bind, wo_ite]
@[simp] theorem we_tup {es : List E} : We P (.tup es) σ S Q ↔ Wes P es σ S fun ds S1 => ds.length ≤ SZ ∧ Q (mkTup ds) S1 := by
  simp only [we_def, wes_def, ev_tup, wo_bind, wo_ite, wo_some, wo_none]
  constructor
  · rintro ⟨a, h, q⟩
    split at q
    · exact ⟨a, h, ‹_›, q⟩
    · exact q.elim
  · rintro ⟨a, h, h1, q⟩
    exact ⟨a, h, by show (if _ then _ else _); rw [if_pos h1]; exact q⟩
@[simp] theorem we_lst {m : Bool} {es : List E} : We P (.lst m es) σ S Q ↔ Wes P es σ S fun ds S1 => Wo' (allB ds) fun xs => Wo' (newL S1 m xs) fun p => Q p.1 p.2 := by
  simp only [we_def, wes_def, ev_lst, wo_bind]
@[simp] theorem we_dnew {m : Bool} : We P (.dnew m) σ S Q ↔ Wo' (newD S m []) fun p => Q p.1 p.2 := by rw [we_def, ev_dnew]
@[simp] theorem we_idx {a i : E} : We P (.idx a i) σ S Q ↔ We P a σ S fun x S1 => We P i σ S1 fun y S2 => Wo' (idx S2 x y) fun z => Q z S2 := by
  simp only [we_def, ev_idx, wo_bind, wo_map]
@[simp] theorem we_slc {a l h : E} : We P (.slc a l h) σ S Q ↔ We P a σ S fun x S1 => We P l σ S1 fun y S2 => We P h σ S2 fun z S3 => Wo' (slc S3 x y z) fun r => Q r S3 := by
  simp only [we_def, ev_slc, wo_bind, wo_map]
@[simp] theorem we_rev {a : E} : We P (.rev a) σ S Q ↔ We P a σ S fun x S1 => Wo' (lstD S1 x) fun xs => Q (.b (.lst xs.reverse)) S1 := by
  simp only [we_def, ev_rev, wo_bind, wo_map]
@[simp] theorem we_att {a : E} {f : Nat} : We P (.att a f) σ S Q ↔ We P a σ S fun x S1 => Wo' (getf P.fo S1 x f) fun z => Q z S1 := by
  simp only [we_def, ev_att, wo_bind, wo_map]
@[simp] theorem we_call {T : Tab} {k b f : Nat} {es : List E} : We (par T k b) (.call f es) σ S Q ↔ Wes (par T k b) es σ S fun ds S1 => Wc T k b f ds S1 Q := by
  simp only [we_def, wes_def, wc_def, ev_call, wo_bind]
  exact Iff.rfl
@[simp] theorem we_meth {T : Tab} {k b m : Nat} {o : E} {es : List E} : We (par T k b) (.meth o m es) σ S Q ↔ We (par T k b) o σ S fun x S1 => Wo' (clsOf S1 m x) fun c => Wo' (T.meth c m) fun f => Wes (par T k b) es σ S1 fun ds S2 => Wc T k b f (x :: ds) S2 Q := by
  simp only [we_def, wes_def, wc_def, ev_meth, wo_bind]
  exact Iff.rfl
@[simp] theorem we_bi {B : Bi} {m : Bool} {es : List E} : We P (.bi B m es) σ S Q ↔ Wes P es σ S fun ds S1 => Wo' (bi S1 B m ds) fun p => Q p.1 p.2 := by
  simp only [we_def, wes_def, ev_bi, wo_bind]
@[simp] theorem we_mt {B : Mt} {o : E} {es : List E} : We P (.mt B o es) σ S Q ↔ We P o σ S fun x S1 => Wes P es σ S1 fun ds S2 => kd S2 x = kd S1 x ∧ Wo' (mt S2 B x ds) fun p => Q p.1 p.2 := by
  simp only [we_def, wes_def, ev_mt, wo_bind, wo_ite, wo_none]
  constructor
  · rintro ⟨x, h, ds, h1, q⟩
    split at q
    · exact ⟨x, h, ds, h1, ‹_›, q⟩
    · exact q.elim
  · rintro ⟨x, h, ds, h1, h2, q⟩
    exact ⟨x, h, ds, h1, by show (if _ then _ else _); rw [if_pos h2]; exact q⟩
@[simp] theorem wes_nil {Q : List D → Store → Prop} : Wes P [] σ S Q ↔ Q [] S := by rw [wes_def, evs_nil, wo_some]
@[simp] theorem wes_cons {e : E} {es : List E} {Q : List D → Store → Prop} : Wes P (e :: es) σ S Q ↔ We P e σ S fun x S1 => Wes P es σ S1 fun ds S2 => Q (x :: ds) S2 := by
  simp only [we_def, wes_def, evs_cons, wo_bind, wo_map]
/-! ### statements -/
@[simp] theorem wx_set {i : Nat} {e : E} : Wx P (.set i e) σ S R ↔ We P e σ S fun d S1 => R .nx (σ.set i (some d)) S1 := by
  simp only [we_def, wx_def, exec_set, wo_map]
@[simp] theorem wx_unp {is : List Nat} {e : E} : Wx P (.unp is e) σ S R ↔ We P e σ S fun d S1 => Wo' (asgD is d σ) fun σ2 => R .nx σ2 S1 := by
  simp only [we_def, wx_def, exec_unp, wo_bind, wo_map]
theorem wx_aug {i : Nat} {o : Op} {e : E} {a : Int} (h : σ[i]? = some (some (.b (.int a)))) : Wx P (.aug i o e) σ S R ↔ We P e σ S fun d S1 => ∃ c, d = .b (.int c) ∧ Wo' (arith o a c) fun z => R .nx (σ.set i (some (.b (.int z)))) S1 := by
  simp only [we_def, wx_def, exec_aug, h, wo_bind]
  constructor
  · rintro ⟨⟨y, S1⟩, h1, q⟩
    dsimp only at q
    split at q
    · exact ⟨_, h1, _, rfl, wo_map.mp q⟩
    · rw [wo_none] at q; exact q.elim
  · rintro ⟨⟨y, S1⟩, h1, c, hc, q⟩
    dsimp only at hc
    subst hc
    exact ⟨_, h1, wo_map.mpr q⟩
@[simp] theorem wx_seti {o i e : E} : Wx P (.seti o i e) σ S R ↔ We P e σ S fun v S1 => We P o σ S1 fun x S2 => We P i σ S2 fun y S3 => Wo' (seti S3 x y v) fun S4 => R .nx σ S4 := by
  simp only [we_def, wx_def, exec_seti, wo_bind, wo_map]
@[simp] theorem wx_iff {t : E} {a b : List St} : Wx P (.iff t a b) σ S R ↔ We P t σ S fun x S1 => Wo' (truth S1 x) fun c => if c then Ws P a σ S1 R else Ws P b σ S1 R := by
  simp only [we_def, wx_def, ws_def, exec_iff, wo_bind, wo_ite]
@[simp] theorem wx_ret {e : E} : Wx P (.ret e) σ S R ↔ We P e σ S fun d S1 => R (.rt d) σ S1 := by
  simp only [we_def, wx_def, exec_ret, wo_map]
@[simp] theorem wx_retn : Wx P .retn σ S R ↔ R (.rt (.b .non)) σ S := by simp only [wx_def, exec_retn, wo_some]
@[simp] theorem wx_ex {e : E} : Wx P (.ex e) σ S R ↔ We P e σ S fun d S1 => R .nx σ S1 := by
  simp only [we_def, wx_def, exec_ex, wo_map]
@[simp] theorem wx_cont : Wx P .cont σ S R ↔ R .ct σ S := by simp only [wx_def, exec_cont, wo_some]
@[simp] theorem ws_nil : Ws P [] σ S R ↔ R .nx σ S := by simp only [ws_def, execs_nil, wo_some]
/-- what follows a statement -/
def Nx (P : Par) (r : List St) (R : Fl → Sl → Store → Prop) : Fl → Sl → Store → Prop
  | .nx, σ, S => Ws P r σ S R
  | f, σ, S => R f σ S
@[simp] theorem nx_nx {r : List St} : Nx P r R .nx σ S = Ws P r σ S R := rfl
@[simp] theorem nx_rt {r : List St} {d : D} : Nx P r R (.rt d) σ S = R (.rt d) σ S := rfl
@[simp] theorem nx_ct {r : List St} : Nx P r R .ct σ S = R .ct σ S := rfl
theorem ws_cons {s : St} {r : List St} : Ws P (s :: r) σ S R ↔ Wx P s σ S (Nx P r R) := by
  simp only [ws_def, wx_def, execs_cons, wo_bind]
  constructor
  · rintro ⟨⟨f, σ2, S2⟩, h, q⟩
    refine ⟨_, h, ?_⟩
    cases f with
    | nx => exact ws_def.mpr q
    | rt d => obtain ⟨_, hh, q⟩ := q; cases hh; exact q
    | ct => obtain ⟨_, hh, q⟩ := q; cases hh; exact q
  · rintro ⟨⟨f, σ2, S2⟩, h, q⟩
    refine ⟨_, h, ?_⟩
    cases f with
    | nx => exact ws_def.mp q
    | rt d => exact ⟨_, rfl, q⟩
    | ct => exact ⟨_, rfl, q⟩
/-! ### numbers -/
section
variable {i j : Int} {Q : Int → Prop}
@[simp] theorem wo_add : Wo' (arith .add i j) Q ↔ Q (i + j) := wo_some
@[simp] theorem wo_sub : Wo' (arith .sub i j) Q ↔ Q (i - j) := wo_some
@[simp] theorem wo_and : Wo' (arith .band i j) Q ↔ Q (PySem.Builtin.bitAnd i j) := wo_some
@[simp] theorem wo_or : Wo' (arith .bor i j) Q ↔ Q (PySem.Builtin.bitOr i j) := wo_some
@[simp] theorem wo_xor : Wo' (arith .xor i j) Q ↔ Q (PySem.Builtin.bitXor i j) := wo_some
theorem wo_if {c : Prop} [Decidable c] {z : Int} : Wo' (if c then some z else none) Q ↔ c ∧ Q z := by
  rw [wo_ite, wo_some, wo_none]
  split <;> simp [*]
@[simp] theorem wo_mul : Wo' (arith .mul i j) Q ↔ mulOk i j = true ∧ Q (i * j) := wo_if
@[simp] theorem wo_mod : Wo' (arith .mod i j) Q ↔ 0 < j ∧ Q (i % j) := wo_if
@[simp] theorem wo_fdiv : Wo' (arith .fdiv i j) Q ↔ divOk j = true ∧ Q (i / j) := wo_if
@[simp] theorem wo_shr : Wo' (arith .shr i j) Q ↔ 0 ≤ j ∧ Q (i / 2 ^ j.toNat) := wo_if
@[simp] theorem wo_shl : Wo' (arith .shl i j) Q ↔ shlOk i j = true ∧ Q (i * 2 ^ j.toNat) := wo_if
@[simp] theorem wo_pow : Wo' (arith .pow i j) Q ↔ (0 ≤ j ∧ j ≤ 1000000 ∧ i.natAbs < 2 ^ 64) ∧ Q (i ^ j.toNat) := wo_if
end
@[simp] theorem wo_bin {o : Op} {i j : Int} {Q : D → Prop} : Wo' (bin S o (.b (.int i)) (.b (.int j))) Q ↔ Wo' (arith o i j) fun z => Q (.b (.int z)) := by rw [bin_ii, wo_map]
/-! ### calls -/
/-- what a def's end says -/
def Ret (val : Bool) (base : Nat) (Q : D → Store → Prop) : Fl → Sl → Store → Prop
  | .nx, _, S => Wo' (fin val base (.b .non) S) fun p => Q p.1 p.2
  | .rt d, _, S => Wo' (fin val base d S) fun p => Q p.1 p.2
  | .ct, _, _ => False
theorem wc_of {T : Tab} {k base f : Nat} {ds : List D} {fd : Fd} (hf : T.fn f = some fd) (hl : ds.length = fd.np)
    (h : Ws (par T k (if fd.val then S.length else base)) fd.body (start fd.ns ds) S (Ret fd.val S.length Q)) : Wc T (k + 1) base f ds S Q := by
  have e : evC T (k + 1) base f ds S = (T.fn f).bind fun fd => if ds.length = fd.np then (execs (par T k (if fd.val then S.length else base)) fd.body (start fd.ns ds) S).bind fun q => match q with
        | (.nx, _, S2) => fin fd.val S.length (.b .non) S2
        | (.rt d, _, S2) => fin fd.val S.length d S2
        | (.ct, _, _) => none
    else none := by
      cases k <;> rfl
  obtain ⟨fl, σ2, S2, h1, h2⟩ := h
  rw [wc_def, e, hf]
  show Wo' (if ds.length = fd.np then _ else none) _
  rw [if_pos hl, h1]
  cases fl with
  | nx => exact h2
  | rt d => exact h2
  | ct => exact h2.elim
@[simp] theorem ret_b {x : B} {base : Nat} : Ret true base Q (.rt (.b x)) σ S ↔ Q (.b x) (S.take base) := wo_some
@[simp] theorem ret_nx {base : Nat} : Ret true base Q .nx σ S ↔ Q (.b .non) (S.take base) := wo_some
@[simp] theorem ret_k {d : D} {base : Nat} : Ret false base Q (.rt d) σ S ↔ Q d S := wo_some
@[simp] theorem ret_knx {base : Nat} : Ret false base Q .nx σ S ↔ Q (.b .non) S := wo_some
theorem Wc.eq {T : Tab} {k base f : Nat} {ds : List D} {d : D} {S' : Store} (h : Wc T k base f ds S fun x y => x = d ∧ y = S') : evC T k base f ds S = some (d, S') := by
  obtain ⟨x, y, e, rfl, rfl⟩ := h
  exact e
theorem Wc.of {T : Tab} {k base f : Nat} {ds : List D} {d : D} {S' : Store} (e : evC T k base f ds S = some (d, S')) (q : Q d S') : Wc T k base f ds S Q := ⟨d, S', e, q⟩
theorem We.of {e : E} {d : D} {S' : Store} (h : ev P e σ S = some (d, S')) (q : Q d S') : We P e σ S Q := ⟨d, S', h, q⟩
/-! ### while, for -/
/-- the invariant at a turn with m turns left at most -/
theorem wx_whl {t : E} {b : List St} (I : Nat → Sl → Store → Prop) (m : Nat) (h0 : I m σ S) (hm : m < WF)
    (turn : ∀ m σ S, I m σ S → We P t σ S fun x S1 => Wo' (truth S1 x) fun c => if c then ∃ j, m = j + 1 ∧ Ws P b σ S1 (fun f σ2 S2 => match f with
      | .rt d => R (.rt d) σ2 S2
      | _ => I j σ2 S2) else R .nx σ S1) : Wx P (.whl t b) σ S R := by
  rw [wx_def, exec_whl]
  have key : ∀ (n m : Nat) (σ : Sl) (S : Store), m < n → I m σ S → Wo' (whileL (fun σ2 S2 => (ev P t σ2 S2).bind fun x => (truth x.2 x.1).map fun c => (c, x.2)) (fun σ2 S2 => execs P b σ2 S2) n σ S) fun p => R p.1 p.2.1 p.2.2 := by
    intro n
    induction n with
    | zero => intro m σ S h _; omega
    | succ n ih =>
      intro m σ S hmn hI
      have q := turn m σ S hI
      rw [we_def] at q
      obtain ⟨⟨x, S1⟩, e1, c, e2, q⟩ := q
      unfold whileL
      rw [e1]
      show Wo' (((truth S1 x).map fun c => (c, S1)).bind _) _
      rw [e2]
      show Wo' (if c then _ else _) _
      cases c with
      | false =>
        rw [if_neg Bool.false_ne_true] at q ⊢
        rw [wo_some]
        exact q
      | true =>
        rw [if_pos rfl] at q ⊢
        obtain ⟨j, hj, f, σ2, S2, e3, q⟩ := q
        rw [wo_bind]
        refine ⟨_, e3, ?_⟩
        cases f with
        | rt d => exact wo_some.mpr q
        | nx => exact ih j σ2 S2 (by omega) q
        | ct => exact ih j σ2 S2 (by omega) q
  exact key WF m σ S hm h0
theorem wx_for {g : Pt} {k : Ik} {es : List E} {b : List St} : Wx P (.for g k es b) σ S R ↔ Wes P es σ S fun ds S1 => Wo' (items S1 k ds) fun xs => Wo' (forL (fun σ2 S2 => execs P b σ2 S2) g xs σ (lockAll S1 ds)) fun r => Wo' (unlockAll S1 r.2.2 ds) fun S3 => R r.1 r.2.1 S3 := by
  simp only [wes_def, wx_def, exec_for, wo_bind, wo_map]
/-- the invariant ahead of each item: what lies behind, what is to come -/
theorem wo_forL {b : List St} {g : Pt} (I : List B → List B → Sl → Store → Prop) (turn : ∀ done x rest σ S, I done (x :: rest) σ S → Wo' (asg g x σ) fun σ2 => Ws P b σ2 S fun f σ3 S3 => match f with
      | .rt d => R (.rt d) σ3 S3
      | _ => I (done ++ [x]) rest σ3 S3) (last : ∀ done σ S, I done [] σ S → R .nx σ S) : ∀ (xs done : List B) (σ : Sl) (S : Store), I done xs σ S → Wo' (forL (fun σ2 S2 => execs P b σ2 S2) g xs σ S) fun r => R r.1 r.2.1 r.2.2
  | [], done, σ, S, h => wo_some.mpr (last done σ S h)
  | x :: xs, done, σ, S, h => by
    obtain ⟨σ2, e1, f, σ3, S3, e2, q⟩ := turn done x xs σ S h
    unfold forL
    rw [e1, bind_some', e2, bind_some']
    cases f with
    | rt d => exact wo_some.mpr q
    | nx => exact wo_forL I turn last xs _ σ3 S3 q
    | ct => exact wo_forL I turn last xs _ σ3 S3 q
/-! ### comprehensions -/
theorem we_lc {m : Bool} {g : Pt} {k : Ik} {es : List E} {t e : E} {w : List Nat} : We P (.lc m g k es t e w) σ S Q ↔ Wes P es σ S fun ds S1 => Wo' (items S1 k ds) fun xs => xs.length ≤ SZ ∧ Wo' (lcL (lcF P t e) g xs (wipe σ w) (lockAll S1 ds)) fun q => Wo' (unlockAll S1 q.2 ds) fun S3 => Wo' (newL S3 m q.1) fun p => Q p.1 p.2 := by
  simp only [wes_def, we_def, ev_lc, wo_bind, wo_ite, wo_none]
  constructor
  · rintro ⟨ds, h, xs, h1, q⟩
    split at q
    · exact ⟨ds, h, xs, h1, ‹_›, q⟩
    · exact q.elim
  · rintro ⟨ds, h, xs, h1, h2, q⟩
    exact ⟨ds, h, xs, h1, by show (if _ then _ else _); rw [if_pos h2]; exact q⟩
theorem we_pick {es : List E} {i : E} : We P (.pick es i) σ S Q ↔ Wes P es σ S fun ds S1 => We P i σ S1 fun y S2 => ∃ k, y = .b (.int k) ∧ ds.length ≤ SZ ∧ Wo' (L2.atI ds k) fun z => Q z S2 := by
  simp only [we_def, wes_def, ev_pick, wo_bind]
  constructor
  · rintro ⟨ds, h, y, h1, q⟩
    refine ⟨ds, h, y, h1, ?_⟩
    split at q
    · rename_i k hk
      rw [wo_ite, wo_none] at q
      split at q
      · exact ⟨k, hk, ‹_›, wo_map.mp q⟩
      · exact q.elim
    · rw [wo_none] at q; exact q.elim
  · rintro ⟨ds, h, ⟨y, S2⟩, h1, k, hk, hz, q⟩
    refine ⟨ds, h, (y, S2), h1, ?_⟩
    dsimp only at hk
    subst hk
    show Wo' (if ds.1.length ≤ SZ then _ else none) _
    rw [if_pos hz]
    exact wo_map.mpr q
theorem wx_blk {i : Nat} {b : List St} (h : Ws P b σ S fun f σ2 S2 => f = .nx ∧ (S2.take S.length).all noIns = true ∧ (σ2.set i none).all (low S.length) = true ∧ ∃ d, σ2[i]? = some (some d) ∧ Wo' (frz S2 S.length 8 d) fun y => R .nx (σ2.set i (some (.b y))) (S2.take S.length)) : Wx P (.blk i b) σ S R := by
  rw [wx_def, exec_blk, wo_bind]
  rw [ws_def] at h
  obtain ⟨⟨f, σ2, S2⟩, h0, hf, h1, h2, d, h3, h4⟩ := h
  dsimp only at hf h1 h2 h3 h4
  subst hf
  refine ⟨(.nx, σ2, S2), h0, ?_⟩
  show Wo' (if ((S2.take S.length).all noIns && (σ2.set i none).all (low S.length)) = true then (match σ2[i]? with
    | some (some d) => (frz S2 S.length 8 d).map fun y => (Fl.nx, σ2.set i (some (.b y)), S2.take S.length)
    | _ => none) else none) _
  rw [if_pos (by rw [h1, h2]; rfl), h3]
  exact wo_map.mpr h4
theorem we_fz {e : E} (h : We P e σ S fun d S2 => (S2.take S.length).all noIns = true ∧ Wo' (frz S2 S.length 8 d) fun x => Q (.b x) (S2.take S.length)) : We P (.fz e) σ S Q := by
  rw [we_def, ev_fz, wo_bind]
  rw [we_def] at h
  obtain ⟨r, h0, h1, h2⟩ := h
  refine ⟨r, h0, ?_⟩
  show Wo' (if (r.2.take S.length).all noIns = true then _ else none) _
  rw [if_pos h1]
  exact wo_map.mpr h2
/-- a dict that is written down and never changes -/
theorem we_fdic {es : List E} (h : Wes P es σ (S ++ [.dic []]) fun ds S2 => ∃ S' kvs, S2 = S' ++ [.dic []] ∧ S'.length = S.length ∧ S'.all noIns = true ∧ flat2 ds = some kvs ∧ kvs.length ≤ 15 ∧ Q (.b (.dic (dmerge [] kvs))) S') : We P (.fz (.dic es)) σ S Q := by
  refine we_fz ?_
  rw [we_def, ev_dic, wo_bind]
  rw [wes_def] at h
  obtain ⟨⟨ds, S2⟩, h0, S', kvs, e1, e2, e3, e4, e5, q⟩ := h
  refine ⟨(ds, S2), h0, ?_⟩
  dsimp only at e1 e4 q ⊢
  subst e1
  have g : (S' ++ [O.dic []])[S.length]? = some (.dic []) := by
    rw [← e2, List.getElem?_append_right (Nat.le_refl _), Nat.sub_self]
    rfl
  rw [g]
  dsimp only
  rw [e4]
  show Wo' ((some kvs).bind _) _
  rw [Option.bind_some, if_pos e5, wo_some]
  dsimp only
  have s1 : (S' ++ [O.dic []]).set S.length (.dic (dmerge [] kvs)) = S' ++ [.dic (dmerge [] kvs)] := by
    rw [← e2, List.set_append_right _ _ (Nat.le_refl _), Nat.sub_self]
    rfl
  rw [s1]
  have s2 : (S' ++ [O.dic (dmerge [] kvs)]).take S.length = S' := by rw [← e2, List.take_left]
  rw [s2]
  refine ⟨e3, ?_⟩
  have f : frz (S' ++ [O.dic (dmerge [] kvs)]) S.length 8 (.ref S.length) = some (.dic (dmerge [] kvs)) := by
    unfold frz
    rw [if_neg (Nat.lt_irrefl _)]
    have g2 : (S' ++ [O.dic (dmerge [] kvs)])[S.length]? = some (.dic (dmerge [] kvs)) := by
      rw [← e2, List.getElem?_append_right (Nat.le_refl _), Nat.sub_self]
      rfl
    rw [g2]
  rw [f, wo_some]
  exact q
theorem we_lkd {i n : Nat} {e : E} {kvs : List (Kd × B)} (h : σ[i]? = some (some (.ref n))) (hS : S[n]? = some (.dic kvs)) (hq : We P e σ (S.set n (.lockd kvs)) fun d S2 => ∃ ys, S2[n]? = some (.lockd ys) ∧ Q d (S2.set n (.dic ys))) : We P (.lkd i e) σ S Q := by
  rw [we_def, ev_lkd, h]
  dsimp only
  rw [hS]
  dsimp only
  have e1 : lockAll S [.ref n] = S.set n (.lockd kvs) := by
    show (match S[n]? with
      | some (.lst xs) => S.set n (.lockl xs)
      | some (.dic kvs) => S.set n (.lockd kvs)
      | _ => S) = _
    rw [hS]
  rw [e1, wo_bind]
  obtain ⟨d, S2, h1, ys, h2, h3⟩ := hq
  refine ⟨(d, S2), h1, ?_⟩
  have e2 : unlockAll S S2 [.ref n] = some (S2.set n (.dic ys)) := by
    show ((match S[n]? with
      | some (.lst xs) => (match S2[n]? with
        | some (.lockl ys) => some (S2.set n (.lst ys))
        | _ => none)
      | some (.dic kvs) => (match S2[n]? with
        | some (.lockd ys) => some (S2.set n (.dic ys))
        | _ => none)
      | _ => some S2).bind fun S2 => some S2) = _
    rw [hS]
    dsimp only
    rw [h2]
    rfl
  show Wo' (Option.map (fun S3 => (d, S3)) (unlockAll S S2 [D.ref n])) _
  rw [e2]
  exact wo_map.mpr ⟨_, rfl, h3⟩
/-- a comprehension whose parts change the store: an invariant, and what holds of each item -/
theorem wo_lcL {t e : E} {g : Pt} (I : List B → List B → List B → Store → Prop) (turn : ∀ done x rest ys S, I done (x :: rest) ys S → Wo' (asg g x σ) fun σ2 => We P t σ2 S fun c S1 => Wo' (truth S1 c) fun c => if c then We P e σ2 S1 fun d S2 => ∃ y, d = .b y ∧ I (done ++ [x]) rest (ys ++ [y]) S2 else I (done ++ [x]) rest ys S1)
    {Q : List B → Store → Prop} (last : ∀ done ys S, I done [] ys S → Q ys S) : ∀ (xs done ys : List B) (S : Store), I done xs ys S → Wo' (lcL (lcF P t e) g xs σ S) fun r => Q (ys ++ r.1) r.2
  | [], done, ys, S, h => wo_some.mpr (by rw [List.append_nil]; exact last done ys S h)
  | x :: xs, done, ys, S, h => by
    obtain ⟨σ2, e1, q⟩ := turn done x xs ys S h
    rw [we_def] at q
    obtain ⟨⟨c, S1⟩, e2, c1, e3, q⟩ := q
    unfold lcL
    rw [e1, bind_some']
    have hF : lcF P t e σ2 S = if c1 then (ev P e σ2 S1).bind fun y => (asB y).map fun z => (some z.1, z.2) else some (none, S1) := by
      unfold lcF
      rw [e2]
      show ((truth S1 c).bind _) = _
      rw [e3]
      rfl
    rw [hF]
    cases c1 with
    | false =>
      rw [if_neg Bool.false_ne_true] at q ⊢
      rw [bind_some', wo_map]
      exact (wo_lcL I turn last xs _ ys S1 q).mono fun r h => h
    | true =>
      rw [if_pos rfl] at q ⊢
      rw [we_def] at q
      obtain ⟨⟨d, S2⟩, e4, y, hy, q⟩ := q
      dsimp only at hy
      subst hy
      rw [e4, bind_some']
      show Wo' (((lcL (lcF P t e) g xs σ S2).map _)) _
      rw [wo_map]
      exact (wo_lcL I turn last xs _ (ys ++ [y]) S2 q).mono fun r h => by
        show Q (ys ++ (y :: r.1)) r.2
        rw [List.append_assoc] at h
        exact h
end
end M
/-! SX: more of it. -/
namespace M
theorem ws_seq {P : Par} {s : St} {r : List St} {σ : Sl} {S : Store} {R : Fl → Sl → Store → Prop} (N : Sl → Store → Prop) (h1 : Wx P s σ S fun f σ2 S2 => f = .nx ∧ N σ2 S2) (h2 : ∀ σ2 S2, N σ2 S2 → Ws P r σ2 S2 R) : Ws P (s :: r) σ S R := by
  rw [ws_cons]
  obtain ⟨f, σ2, S2, e, rfl, q⟩ := h1
  exact ⟨_, σ2, S2, e, h2 σ2 S2 q⟩
section
variable {S : Store}
@[simp] theorem wo_mapS {α β : Type} {x : Option α} {g : α → β} {Q : β → Prop} : Wo' (x.map g) Q ↔ Wo' x fun a => Q (g a) := wo_map
@[simp] theorem bi_len_scr {m : Bool} {xs : List B} : bi S .len m [.b (.scr xs)] = some (.b (.int xs.length), S) := rfl
@[simp] theorem bi_len_lst {m : Bool} {xs : List B} : bi S .len m [.b (.lst xs)] = some (.b (.int xs.length), S) := rfl
@[simp] theorem bi_len_tup {m : Bool} {xs : List B} : bi S .len m [.b (.tup xs)] = some (.b (.int xs.length), S) := rfl
@[simp] theorem bi_len_dic {m : Bool} {xs : List (Kd × B)} : bi S .len m [.b (.dic xs)] = some (.b (.int xs.length), S) := rfl
@[simp] theorem bi_int {m : Bool} {i : Int} : bi S .int m [.b (.int i)] = some (.b (.int i), S) := rfl
@[simp] theorem bi_int_bl {m c : Bool} : bi S .int m [.b (.bl c)] = some (.b (.int (if c then 1 else 0)), S) := rfl
theorem bi_sum {m : Bool} {xs : List Int} : bi S .sum m [.b (.lst (xs.map B.int))] = some (.b (.int xs.sum), S) := by
  have : ∀ xs : List Int, intsB (xs.map B.int) = some xs := by
    intro xs
    induction xs with
    | nil => rfl
    | cons x xs ih =>
      show (intsB (xs.map B.int)).map (x :: ·) = _
      rw [ih]
      rfl
  show pure' S (((some (xs.map B.int)).bind fun xs => (intsB xs).map fun ns => D.b (.int ns.sum))) = _
  rw [bind_some', this]
  rfl
theorem intsB_map : ∀ xs : List Int, intsB (xs.map B.int) = some xs
  | [] => rfl
  | x :: xs => by
    show (intsB (xs.map B.int)).map (x :: ·) = _
    rw [intsB_map xs]
    rfl
theorem idx_st {n : Nat} {xs : List B} (h : S[n]? = some (.lst xs)) (i : Int) : idx S (.ref n) (.b (.int i)) = (L2.atI xs i).map .b := by
  unfold idx dicD seqD
  dsimp only
  rw [h]
  rfl
theorem seti_st {n : Nat} {xs : List B} (h : S[n]? = some (.lst xs)) (i : Int) (y : B) : seti S (.ref n) (.b (.int i)) (.b y) = (L2.ixN xs.length i).map fun j => S.set n (.lst (xs.set j y)) := by
  unfold seti
  dsimp only
  rw [h]
theorem set_same {n : Nat} {o : O} (h : S[n]? = some o) : S.set n o = S := by
  refine List.ext_getElem? fun m => ?_
  by_cases hm : n = m
  · subst hm
    rw [List.getElem?_set_self (List.getElem?_eq_some_iff.mp h).1, h]
  · rw [List.getElem?_set_ne hm]
theorem set_at {n : Nat} {o o' : O} (h : S[n]? = some o) : (S.set n o')[n]? = some o' := List.getElem?_set_self (List.getElem?_eq_some_iff.mp h).1
@[simp] theorem idx_scr (xs : List B) (i : Int) : idx S (.b (.scr xs)) (.b (.int i)) = (L2.atI xs i).map .b := rfl
@[simp] theorem idx_lst (xs : List B) (i : Int) : idx S (.b (.lst xs)) (.b (.int i)) = (L2.atI xs i).map .b := rfl
@[simp] theorem idx_tup (xs : List B) (i : Int) : idx S (.b (.tup xs)) (.b (.int i)) = (L2.atI xs i).map .b := rfl
theorem atI_ok {α : Type} {xs : List α} {i : Int} (h : 0 ≤ i) (h2 : i < xs.length) : ∃ x, L2.atI xs i = some x ∧ xs[i.toNat]? = some x := by
  have h3 : i.toNat < xs.length := by omega
  refine ⟨xs[i.toNat], ?_, List.getElem?_eq_getElem h3⟩
  unfold L2.atI L2.ixN
  rw [if_pos h, if_pos h2]
  exact List.getElem?_eq_getElem h3
theorem atI_int {xs : List Int} {i : Int} (h : 0 ≤ i) (h2 : i < xs.length) : ∃ x, L2.atI (xs.map B.int) i = some (.int x) ∧ xs[i.toNat]? = some x := by
  obtain ⟨x, h3, h4⟩ := atI_ok (xs := xs.map B.int) h (by rw [List.length_map]; exact h2)
  rw [List.getElem?_map] at h4
  obtain ⟨y, h5, h6⟩ := Option.map_eq_some_iff.mp h4
  exact ⟨y, by rw [h3, ← h6], h5⟩
@[simp] theorem atI_0 {α : Type} {x : α} {xs : List α} : L2.atI (x :: xs) 0 = some x := by
  unfold L2.atI L2.ixN
  rw [if_pos (Int.le_refl _), if_pos (by simp <;> omega)]
  rfl
@[simp] theorem atI_1 {α : Type} {x y : α} {xs : List α} : L2.atI (x :: y :: xs) 1 = some y := by
  unfold L2.atI L2.ixN
  rw [if_pos (by decide), if_pos (by simp <;> omega)]
  rfl
@[simp] theorem ixN_0 {n : Nat} : L2.ixN (n + 1) 0 = some 0 := by
  unfold L2.ixN
  rw [if_pos (Int.le_refl _), if_pos (by simp <;> omega)]
  rfl
@[simp] theorem ixN_1 {n : Nat} : L2.ixN (n + 2) 1 = some 1 := by
  unfold L2.ixN
  rw [if_pos (by decide), if_pos (by simp <;> omega)]
  rfl
theorem mulOk_big (i : Int) (j : Int) (h : -(2 ^ 64) < j ∧ j < 2 ^ 64) : mulOk i j = true := mulOk_r h.1 h.2
theorem mt_app {n : Nat} {xs : List B} (h : S[n]? = some (.lst xs)) (hz : xs.length < SZ) (y : B) : M.mt S .append (.ref n) [.b y] = some (.b .non, S.set n (.lst (xs ++ [y]))) := by
  unfold M.mt
  dsimp only
  rw [h]
  show (if xs.length < SZ then _ else none) = _
  rw [if_pos hz]
theorem last_at {o : O} : (S ++ [o])[S.length]? = some o := by
  rw [List.getElem?_append_right (Nat.le_refl _), Nat.sub_self]
  rfl
theorem last_set {o o' : O} : (S ++ [o]).set S.length o' = S ++ [o'] := by
  rw [List.set_append_right _ _ (Nat.le_refl _), Nat.sub_self]
  rfl
theorem last_take {o : O} : (S ++ [o]).take S.length = S := by
  rw [List.take_append_of_le_length (Nat.le_refl _), List.take_length]
theorem lstD_ref {n : Nat} {xs : List B} (h : S[n]? = some (.lst xs)) : lstD S (.ref n) = some xs := by
  unfold lstD
  dsimp only
  rw [h]
@[simp] theorem lstD_b {xs : List B} : lstD S (.b (.lst xs)) = some xs := rfl
theorem bin_ll {xs ys : List B} (hz : xs.length + ys.length ≤ SZ) : bin S .add (.b (.lst xs)) (.b (.lst ys)) = some (.b (.lst (xs ++ ys))) := by
  show szL (xs ++ ys) = _
  unfold szL
  rw [List.length_append, if_pos hz]
theorem bin_lr {n : Nat} {xs ys : List B} (h : S[n]? = some (.lst ys)) (hz : xs.length + ys.length ≤ SZ) : bin S .add (.b (.lst xs)) (.ref n) = some (.b (.lst (xs ++ ys))) := by
  show ((some xs).bind fun xs => (lstD S (.ref n)).bind fun ys => szL (xs ++ ys)) = _
  rw [lstD_ref h]
  show szL (xs ++ ys) = _
  unfold szL
  rw [List.length_append, if_pos hz]
theorem wo_atI {α : Type} {xs : List α} {i : Int} {Q : α → Prop} (h : 0 ≤ i) (h2 : i < xs.length) (H : ∀ x ∈ xs, Q x) : Wo' (L2.atI xs i) Q := by
  obtain ⟨x, h3, h4⟩ := atI_ok h h2
  exact ⟨x, h3, H x (List.mem_of_getElem? h4)⟩
theorem eqB_ints : ∀ xs ys : List Int, eqBs (xs.map B.int) (ys.map B.int) = decide (xs = ys)
  | [], [] => rfl
  | [], y :: ys => rfl
  | x :: xs, [] => rfl
  | x :: xs, y :: ys => by
    show (x == y && eqBs (xs.map B.int) (ys.map B.int)) = _
    rw [eqB_ints xs ys]
    by_cases h : x = y
    · subst h
      simp
    · have : (x == y) = false := by simp [h]
      rw [this]
      simp [h]
theorem eqOk_ints (k : Nat) (xs : List Int) : (xs.map B.int).all (eqOk k) = true := by
  rw [List.all_eq_true]
  intro x hx
  obtain ⟨i, _, rfl⟩ := List.mem_map.mp hx
  cases k <;> rfl
theorem eq_ints (xs ys : List Int) : eqD S (.b (.lst (xs.map B.int))) (.b (.lst (ys.map B.int))) = some (decide (xs = ys)) := by
  show (if eqOk 12 (.lst (xs.map B.int)) && eqOk 12 (.lst (ys.map B.int)) then some (eqB (.lst (xs.map B.int)) (.lst (ys.map B.int))) else none) = _
  have h1 : eqOk 12 (.lst (xs.map B.int)) = true := eqOk_ints 11 xs
  have h2 : eqOk 12 (.lst (ys.map B.int)) = true := eqOk_ints 11 ys
  rw [h1, h2, Bool.and_self, if_pos rfl]
  show some (eqBs _ _) = _
  rw [eqB_ints]
theorem cmp_eq (x y : D) : cmp S .eq x y = (eqD S x y).or (eqT x y) := rfl
theorem cmp_ne (x y : D) : cmp S .ne x y = ((eqD S x y).or (eqT x y)).map (!·) := rfl
@[simp] theorem truth_lst {xs : List B} : truth S (.b (.lst xs)) = some (!xs.isEmpty) := rfl
@[simp] theorem truth_tup {xs : List B} : truth S (.b (.tup xs)) = some (!xs.isEmpty) := rfl
@[simp] theorem truth_non : truth S (.b .non) = some false := rfl
@[simp] theorem eqD_ii {i j : Int} : eqD S (.b (.int i)) (.b (.int j)) = some (i == j) := rfl
end
section
variable {σ : Sl} {S : Store} {Q : D → Store → Prop} {R : Fl → Sl → Store → Prop}
theorem we_make {T : Tab} {k b c f : Nat} {es : List E} {fz : Bool} (hi : T.init c = some (f, fz)) : We (par T (k + 1) b) (.make c es) σ S Q ↔ Wes (par T (k + 1) b) es σ S fun ds S1 =>
    if fz then Wc T k S1.length f (.ref S1.length :: ds) (S1 ++ [.ins c []]) fun d S2 => isNon d = true ∧ Wo' (frz S2 S1.length 8 (.ref S1.length)) fun x => Q (.b x) (S2.take S1.length)
    else Wc T k b f (.ref S1.length :: ds) (S1 ++ [.ins c []]) fun d S2 => isNon d = true ∧ Q (.ref S1.length) S2 := by
  have e : ev (par T (k + 1) b) (.make c es) σ S = (evs (par T (k + 1) b) es σ S).bind fun p => (T.init c).bind fun q =>
    if q.2 then (evC T k p.2.length q.1 (.ref p.2.length :: p.1) (p.2 ++ [.ins c []])).bind fun r => if isNon r.1 then (frz r.2 p.2.length 8 (.ref p.2.length)).map fun x => (.b x, r.2.take p.2.length) else none
    else (evC T k b q.1 (.ref p.2.length :: p.1) (p.2 ++ [.ins c []])).bind fun r => if isNon r.1 then some (.ref p.2.length, r.2) else none := rfl
  rw [we_def, wes_def, e, wo_bind]
  constructor
  · rintro ⟨p, h, q⟩
    refine ⟨p, h, ?_⟩
    rw [hi, bind_some'] at q
    cases fz with
    | true =>
      rw [if_pos rfl] at q ⊢
      rw [wo_bind] at q
      obtain ⟨r, h2, q⟩ := q
      split at q
      · rename_i hn
        rw [wo_map] at q
        exact ⟨r.1, r.2, h2, hn, q⟩
      · rw [wo_none] at q; exact q.elim
    | false =>
      rw [if_neg Bool.false_ne_true] at q ⊢
      rw [wo_bind] at q
      obtain ⟨r, h2, q⟩ := q
      split at q
      · rename_i hn
        rw [wo_some] at q
        exact ⟨r.1, r.2, h2, hn, q⟩
      · rw [wo_none] at q; exact q.elim
  · rintro ⟨p, h, q⟩
    refine ⟨p, h, ?_⟩
    rw [hi]
    show Wo' (if fz = true then _ else _) _
    cases fz with
    | true =>
      rw [if_pos rfl] at q ⊢
      obtain ⟨d, S2, h2, hn, q⟩ := q
      rw [wo_bind]
      refine ⟨(d, S2), h2, ?_⟩
      show Wo' (if isNon d = true then _ else _) _
      rw [if_pos hn, wo_map]
      exact q
    | false =>
      rw [if_neg Bool.false_ne_true] at q ⊢
      obtain ⟨d, S2, h2, hn, q⟩ := q
      rw [wo_bind]
      refine ⟨(d, S2), h2, ?_⟩
      show Wo' (if isNon d = true then _ else _) _
      rw [if_pos hn, wo_some]
      exact q
@[simp] theorem wx_setf {P : Par} {o e : E} {f : Nat} : Wx P (.setf o f e) σ S R ↔ We P e σ S fun v S1 => We P o σ S1 fun x S2 => Wo' (setf P.fo P.base S2 x f v) fun S3 => R .nx σ S3 := by
  have e1 : exec P (.setf o f e) σ S = (ev P e σ S).bind fun v => (ev P o σ v.2).bind fun x => (setf P.fo P.base x.2 x.1 f v.1).map fun S2 => (.nx, σ, S2) := rfl
  simp only [we_def, wx_def, e1, wo_bind, wo_map]
theorem wx_augi {P : Par} {o i e : E} {p : Op} : Wx P (.augi o i p e) σ S R ↔ We P o σ S fun x S1 => We P i σ S1 fun y S2 => Wo' (idx S2 x y) fun old => We P e σ S2 fun z S3 => ∃ a c, old = .b (.int a) ∧ z = .b (.int c) ∧ Wo' (arith p a c) fun w => Wo' (seti S3 x y (.b (.int w))) fun S4 => R .nx σ S4 := by
  have e1 : exec P (.augi o i p e) σ S = (ev P o σ S).bind fun x => (ev P i σ x.2).bind fun y => (idx y.2 x.1 y.1).bind fun old => (ev P e σ y.2).bind fun z => (match old, z.1 with
    | .b (.int a), .b (.int c) => (arith p a c).bind fun w => (seti z.2 x.1 y.1 (.b (.int w))).map fun S2 => (.nx, σ, S2)
    | _, _ => none) := rfl
  simp only [we_def, wx_def, e1, wo_bind]
  constructor
  · rintro ⟨x, h1, y, h2, old, h3, z, h4, q⟩
    refine ⟨x, h1, y, h2, old, h3, z, h4, ?_⟩
    split at q
    · rename_i a c hz
      rw [wo_bind] at q
      exact ⟨a, c, rfl, hz, q.mono fun w q => by
        obtain ⟨S4, h5, q⟩ := wo_map.mp q
        exact ⟨S4, h5, q⟩⟩
    · rw [wo_none] at q; exact q.elim
  · rintro ⟨x, h1, y, h2, old, h3, ⟨z, S3⟩, h4, a, c, ho, hz, q⟩
    refine ⟨x, h1, y, h2, old, h3, (z, S3), h4, ?_⟩
    dsimp only at hz
    subst ho hz
    show Wo' ((arith p a c).bind _) _
    rw [wo_bind]
    exact q.mono fun w q => by
      obtain ⟨S4, h5, q⟩ := q
      exact wo_map.mpr ⟨S4, h5, q⟩
end
section
variable {S S' : Store} {xs : List B}
@[simp] theorem items_lst : items S .sq [.b (.lst xs)] = some xs := rfl
@[simp] theorem items_tup : items S .sq [.b (.tup xs)] = some xs := rfl
@[simp] theorem items_scr : items S .sq [.b (.scr xs)] = some xs := rfl
@[simp] theorem lockAll_b {x : B} : lockAll S [.b x] = S := rfl
@[simp] theorem unlockAll_b {x : B} : unlockAll S S' [.b x] = some S' := rfl
@[simp] theorem unlockAll_b2 {x y : B} : unlockAll S S' [.b x, .b y] = some S' := rfl
@[simp] theorem lockAll_b2 {x y : B} : lockAll S [.b x, .b y] = S := rfl
theorem items_r1 {n : Nat} (h : n ≤ 1000000000) : items S .r1 [.b (.int n)] = some (rngB 0 n) := by
  show (if rOk (n : Int) then some (rngB 0 (n : Int).toNat) else none) = _
  have hr : rOk (n : Int) = true := decide_eq_true ⟨by omega, by omega⟩
  rw [if_pos hr]
  rfl
end
section
variable {P : Par} {σ : Sl} {S : Store} {Q : D → Store → Prop}
@[simp] theorem we_eqo {a b : E} : We P (.eqo a b) σ S Q ↔ We P a σ S fun x S1 => We P b σ S1 fun y S2 => Wo' (eqo P S2 x y) fun r => Q (.b (.bl r.1)) r.2 := by
  have e : ev P (.eqo a b) σ S = (ev P a σ S).bind fun x => (ev P b σ x.2).bind fun y => (eqo P y.2 x.1 y.1).map fun r => (.b (.bl r.1), r.2) := rfl
  simp only [we_def, e, wo_bind, wo_map]
@[simp] theorem we_isc {c : Nat} {a : E} : We P (.isc c a) σ S Q ↔ We P a σ S fun x S1 => Wo' (isc S1 c x) fun r => Q (.b (.bl r)) S1 := by
  have e : ev P (.isc c a) σ S = (ev P a σ S).bind fun x => (isc x.2 c x.1).map fun r => (.b (.bl r), x.2) := rfl
  simp only [we_def, e, wo_bind, wo_map]
theorem eqo_ins {T : Tab} {k b c f : Nat} {fs : List (Nat × B)} {y : D} {Q : Bool × Store → Prop} (hf : T.eqm c = some f) (hy : okY S c y = true) (h : Wc T k b f [.b (.ins c fs), y] S fun d S' => ∃ z, d = .b (.bl z) ∧ Q (z, S')) : Wo' (eqo (par T k b) S (.b (.ins c fs)) y) Q := by
  obtain ⟨d, S', e, z, rfl, q⟩ := h
  refine ⟨(z, S'), ?_, q⟩
  have e1 : eqo (par T k b) S (.b (.ins c fs)) y = if okY S c y then (T.eqm c).bind fun f => (evC T k b f [.b (.ins c fs), y] S).bind fun r => (match r.1 with
      | .b (.bl z) => some (z, r.2)
      | _ => none) else none := rfl
  rw [e1, if_pos hy, hf, bind_some', e]
  rfl
theorem eqo_cmp {x y : D} (hx : ∀ c fs, x ≠ .b (.ins c fs)) {r : Bool} (h : cmp S .eq x y = some r) : eqo P S x y = some (r, S) := by
  unfold eqo
  split
  · exact (hx _ _ rfl).elim
  · rw [h]
  · rw [h]
    rfl
end
/-! ### statements one by one, what follows kept shut -/
theorem ws_open {P : Par} {s : St} {r : List St} {σ : Sl} {S : Store} {R : Fl → Sl → Store → Prop} (h : ∀ r', r' = r → Wx P s σ S (Nx P r' R)) : Ws P (s :: r) σ S R := by
  rw [ws_cons]
  exact h r rfl
theorem lockAll_bs : ∀ (ds : List B) (S : Store), lockAll S (ds.map D.b) = S
  | [], _ => rfl
  | _ :: ds, S => lockAll_bs ds S
theorem unlockAll_bs : ∀ (ds : List B) (S S' : Store), unlockAll S S' (ds.map D.b) = some S'
  | [], _, _ => rfl
  | _ :: ds, S, S' => unlockAll_bs ds S S'
/-- a walk over what never changes: an invariant by the number of turns -/
theorem wx_forN {P : Par} {g : Pt} {k : Ik} {es : List E} {b : List St} {σ : Sl} {S : Store} {R : Fl → Sl → Store → Prop} {xs : List B} {ds : List B} (hes : ∀ Q : List D → Store → Prop, Q (ds.map D.b) S → Wes P es σ S Q) (hit : items S k (ds.map D.b) = some xs)
    (I : Nat → Sl → Store → Prop) (h0 : I 0 σ S) (turn : ∀ j x σ1 S1, xs[j]? = some x → I j σ1 S1 → Wo' (asg g x σ1) fun σ2 => Ws P b σ2 S1 fun f σ3 S3 => match f with
      | .rt d => R (.rt d) σ3 S3
      | _ => I (j + 1) σ3 S3) (last : ∀ σ1 S1, I xs.length σ1 S1 → R .nx σ1 S1) : Wx P (.for g k es b) σ S R := by
  rw [wx_for]
  refine hes _ ?_
  rw [hit, wo_some, lockAll_bs]
  refine (wo_forL (R := R) (fun dn rest σ1 S1 => dn ++ rest = xs ∧ I dn.length σ1 S1) ?_ ?_ xs [] σ S ⟨rfl, h0⟩).mono fun q hq => ?_
  · rintro dn x rest σ1 S1 ⟨e, hI⟩
    refine (turn dn.length x σ1 S1 (by rw [← e]; simp) hI).mono fun σ2 h => h.mono fun f σ3 S3 q => ?_
    cases f with
    | rt d => exact q
    | nx => exact ⟨by rw [← e]; simp, by rw [List.length_append]; exact q⟩
    | ct => exact ⟨by rw [← e]; simp, by rw [List.length_append]; exact q⟩
  · rintro dn σ1 S1 ⟨e, hI⟩
    rw [List.append_nil] at e
    subst e
    exact last σ1 S1 hI
  · rw [unlockAll_bs, wo_some]
    exact hq
/-- a comprehension over what never changes: an invariant by the number of turns -/
theorem we_lcN {P : Par} {m : Bool} {g : Pt} {k : Ik} {es : List E} {t e : E} {w : List Nat} {σ : Sl} {S : Store} {Q : D → Store → Prop} {xs : List B} {ds : List B} (hes : ∀ Q : List D → Store → Prop, Q (ds.map D.b) S → Wes P es σ S Q) (hit : items S k (ds.map D.b) = some xs) (hz : xs.length ≤ SZ)
    (I : Nat → List B → Store → Prop) (h0 : I 0 [] S) (turn : ∀ j x ys S1, xs[j]? = some x → I j ys S1 → Wo' (asg g x (wipe σ w)) fun σ2 => We P t σ2 S1 fun c S2 => Wo' (truth S2 c) fun c => if c then We P e σ2 S2 fun d S3 => ∃ y, d = .b y ∧ I (j + 1) (ys ++ [y]) S3 else I (j + 1) ys S2)
    (last : ∀ ys S1, I xs.length ys S1 → Wo' (newL S1 m ys) fun p => Q p.1 p.2) : We P (.lc m g k es t e w) σ S Q := by
  rw [we_lc]
  refine hes _ ?_
  rw [hit, wo_some, lockAll_bs]
  refine ⟨hz, (wo_lcL (Q := fun ys S1 => I xs.length ys S1) (fun dn rest ys S1 => dn ++ rest = xs ∧ I dn.length ys S1) ?_ ?_ xs [] [] S ⟨rfl, h0⟩).mono fun q hq => ?_⟩
  · rintro dn x rest ys S1 ⟨e1, hI⟩
    refine (turn dn.length x ys S1 (by rw [← e1]; simp) hI).mono fun σ2 h => h.mono fun c S2 q => q.mono fun c q => ?_
    cases c with
    | true =>
      rw [if_pos rfl] at q ⊢
      exact q.mono fun d S3 ⟨y, hy, q⟩ => ⟨y, hy, by rw [← e1]; simp, by rw [List.length_append]; exact q⟩
    | false =>
      rw [if_neg Bool.false_ne_true] at q ⊢
      exact ⟨by rw [← e1]; simp, by rw [List.length_append]; exact q⟩
  · rintro dn ys S1 ⟨e1, hI⟩
    rw [List.append_nil] at e1
    subst e1
    exact hI
  · rw [unlockAll_bs, wo_some]
    exact last _ _ hq
/-- .. whose parts change nothing -/
theorem we_lcP {P : Par} {g : Pt} {k : Ik} {es : List E} {t e : E} {w : List Nat} {σ : Sl} {S : Store} {Q : D → Store → Prop} {xs : List B} {ds : List B} (p : B → Bool) (h : B → B) (hes : ∀ Q : List D → Store → Prop, Q (ds.map D.b) S → Wes P es σ S Q) (hit : items S k (ds.map D.b) = some xs) (hz : xs.length ≤ SZ)
    (turn : ∀ x ∈ xs, Wo' (asg g x (wipe σ w)) fun σ2 => We P t σ2 S fun c S2 => S2 = S ∧ c = .b (.bl (p x)) ∧ (p x = true → We P e σ2 S fun d S3 => S3 = S ∧ d = .b (h x)))
    (hQ : Q (.b (.lst ((xs.filter p).map h))) S) : We P (.lc false g k es t e w) σ S Q := by
  refine we_lcN hes hit hz (fun j ys S1 => S1 = S ∧ ys = ((xs.take j).filter p).map h) ⟨rfl, rfl⟩ ?_ ?_
  · rintro j x ys S1 hx ⟨rfl, rfl⟩
    refine (turn x (List.mem_of_getElem? hx)).mono fun σ2 q => q.mono fun c S2 ⟨e1, e2, q⟩ => ?_
    subst e1 e2
    refine ⟨p x, rfl, ?_⟩
    have ht : xs.take (j + 1) = xs.take j ++ [x] := by rw [List.take_add_one, hx]; rfl
    dsimp only
    split
    · rename_i hp
      refine (q hp).mono fun d S3 ⟨e1, e2⟩ => ⟨h x, e2, e1, ?_⟩
      rw [ht, List.filter_append, List.map_append, List.filter_cons_of_pos hp]
      rfl
    · rename_i hp
      exact ⟨rfl, by rw [ht, List.filter_append, List.map_append, List.filter_cons_of_neg hp]; simp⟩
  · rintro ys S1 ⟨rfl, rfl⟩
    rw [List.take_length]
    have : (((xs.filter p).map h)).length ≤ SZ := by
      rw [List.length_map]
      exact Nat.le_trans (List.length_filter_le _ _) hz
    show Wo' (if _ then some _ else none) _
    rw [if_pos this, wo_some]
    exact hQ
/-! ### walks over a list of the store -/
theorem lock_lst {S : Store} {n : Nat} {xs : List B} (h : S[n]? = some (.lst xs)) : lockAll S [.ref n] = S.set n (.lockl xs) := by
  show lock S (.ref n) = _
  unfold lock
  dsimp only
  rw [h]
theorem unlock_lst {S S' : Store} {n : Nat} {xs ys : List B} (h : S[n]? = some (.lst xs)) (h2 : S'[n]? = some (.lockl ys)) : unlockAll S S' [.ref n] = some (S'.set n (.lst ys)) := by
  show (unlock S S' (.ref n)).bind _ = _
  unfold unlock
  dsimp only
  rw [h]
  dsimp only
  rw [h2]
  rfl
theorem items_ref {S : Store} {n : Nat} {xs : List B} (h : S[n]? = some (.lst xs)) : items S .sq [.ref n] = some xs := by
  show seqD S (.ref n) = _
  unfold seqD
  dsimp only
  rw [h]
theorem wx_forR {P : Par} {g : Pt} {es : List E} {b : List St} {σ : Sl} {S : Store} {R : Fl → Sl → Store → Prop} {n : Nat} {xs : List B} (hes : ∀ Q : List D → Store → Prop, Q [.ref n] S → Wes P es σ S Q) (hS : S[n]? = some (.lst xs))
    (I : Nat → Sl → Store → Prop) (h0 : I 0 σ (S.set n (.lockl xs))) (turn : ∀ j x σ1 S1, xs[j]? = some x → I j σ1 S1 → Wo' (asg g x σ1) fun σ2 => Ws P b σ2 S1 fun f σ3 S3 => match f with
      | .rt d => S3[n]? = some (.lockl xs) ∧ R (.rt d) σ3 (S3.set n (.lst xs))
      | _ => I (j + 1) σ3 S3) (last : ∀ σ1 S1, I xs.length σ1 S1 → S1[n]? = some (.lockl xs) ∧ R .nx σ1 (S1.set n (.lst xs))) : Wx P (.for g .sq es b) σ S R := by
  rw [wx_for]
  refine hes _ ?_
  rw [items_ref hS, wo_some, lock_lst hS]
  refine (wo_forL (R := fun f σ3 S3 => S3[n]? = some (.lockl xs) ∧ R f σ3 (S3.set n (.lst xs))) (fun dn rest σ1 S1 => dn ++ rest = xs ∧ I dn.length σ1 S1) ?_ ?_ xs [] σ _ ⟨rfl, h0⟩).mono fun q hq => ?_
  · rintro dn x rest σ1 S1 ⟨e, hI⟩
    refine (turn dn.length x σ1 S1 (by rw [← e]; simp) hI).mono fun σ2 h => h.mono fun f σ3 S3 q => ?_
    cases f with
    | rt d => exact q
    | nx => exact ⟨by rw [← e]; simp, by rw [List.length_append]; exact q⟩
    | ct => exact ⟨by rw [← e]; simp, by rw [List.length_append]; exact q⟩
  · rintro dn σ1 S1 ⟨e, hI⟩
    rw [List.append_nil] at e
    subst e
    exact last σ1 S1 hI
  · rw [unlock_lst hS hq.1, wo_some]
    exact hq.2
theorem we_lcR {P : Par} {g : Pt} {es : List E} {t e : E} {w : List Nat} {σ : Sl} {S : Store} {Q : D → Store → Prop} {n : Nat} {xs : List B} (p : B → Bool) (h : B → B) (hes : ∀ Q : List D → Store → Prop, Q [.ref n] S → Wes P es σ S Q) (hS : S[n]? = some (.lst xs)) (hz : xs.length ≤ SZ)
    (turn : ∀ x ∈ xs, Wo' (asg g x (wipe σ w)) fun σ2 => We P t σ2 (S.set n (.lockl xs)) fun c S2 => S2 = S.set n (.lockl xs) ∧ c = .b (.bl (p x)) ∧ (p x = true → We P e σ2 (S.set n (.lockl xs)) fun d S3 => S3 = S.set n (.lockl xs) ∧ d = .b (h x)))
    (hQ : Q (.b (.lst ((xs.filter p).map h))) S) : We P (.lc false g .sq es t e w) σ S Q := by
  rw [we_lc]
  refine hes _ ?_
  rw [items_ref hS, wo_some, lock_lst hS]
  refine ⟨hz, (wo_lcL (Q := fun ys S1 => S1 = S.set n (.lockl xs) ∧ ys = (xs.filter p).map h) (fun dn rest ys S1 => dn ++ rest = xs ∧ S1 = S.set n (.lockl xs) ∧ ys = (dn.filter p).map h) ?_ ?_ xs [] [] _ ⟨rfl, rfl, rfl⟩).mono fun q hq => ?_⟩
  · rintro dn x rest ys S1 ⟨e1, rfl, rfl⟩
    refine (turn x (by rw [← e1]; simp)).mono fun σ2 q => q.mono fun c S2 ⟨e2, e3, q⟩ => ?_
    subst e2 e3
    refine ⟨p x, rfl, ?_⟩
    dsimp only
    split
    · rename_i hp
      refine (q hp).mono fun d S3 ⟨e2, e3⟩ => ⟨h x, e3, by rw [← e1]; simp, e2, ?_⟩
      rw [List.filter_append, List.map_append, List.filter_cons_of_pos hp]
      rfl
    · rename_i hp
      exact ⟨by rw [← e1]; simp, rfl, by rw [List.filter_append, List.map_append, List.filter_cons_of_neg hp]; simp⟩
  · rintro dn ys S1 ⟨e1, rfl, rfl⟩
    rw [List.append_nil] at e1
    subst e1
    exact ⟨rfl, rfl⟩
  · obtain ⟨h1, h2⟩ := hq
    have hlk : q.2[n]? = some (.lockl xs) := by rw [h1]; exact set_at hS
    rw [unlock_lst hS hlk, wo_some, h1, List.set_set, set_same hS]
    have : q.1.length ≤ SZ := by
      rw [show q.1 = (xs.filter p).map h from by simpa using h2, List.length_map]
      exact Nat.le_trans (List.length_filter_le _ _) hz
    show Wo' (if _ then some _ else none) _
    rw [if_pos (by simpa using this), wo_some]
    have h3 : [] ++ q.1 = (xs.filter p).map h := h2
    rw [List.nil_append] at h3
    rw [h3]
    exact hQ
theorem rep_s {α : Type} (n : Nat) (x : α) : List.replicate (n + 1) x = x :: List.replicate n x := rfl
end M
/-! the text of law_k30_validators for the small interpreter, printed by gen.py -/
namespace G
open PySem PySem.Spec PyProof.Rows L2 M
def txts : List PySem.Str := ((["collision", "value", "absent", "end", "count", "", "rest", "order", "weight", "members", "following", "header", "chain", "votes", "height", "time"] : List PySem.Str) ++ (["future", "previous", "next", "overlap", "expired", "missing", "other", "halted", "below", "trusted", "refused", "culprits", "key", "same", "amount", "balance"] : List PySem.Str) ++ (["fault", "done", "keys", "transfers", "roots", "start", "step", "else", "a", "b", "range", "all", "entries", "none", "entry", "root"] : List PySem.Str) ++ (["behind", "first", "found", "block", "state", "width", "blocks", "policy", "base", "hasher", "steps", "endless", "silent", "fork"] : List PySem.Str))
def flds : List PySem.Str := ((["width", "is_digest", "digest", "hasher", "proof", "inputs", "root", "depth", "others", "last", "low", "high", "at", "found", "broken", "take"] : List PySem.Str) ++ (["leaf", "hidden", "node", "secret", "levels", "key_words", "words", "tops", "rows", "public", "chains", "word", "path", "sign", "some", "__init__"] : List PySem.Str) ++ (["chain", "height", "time", "previous", "state", "members", "following", "header", "votes", "fields", "numbers", "left", "one", "count", "row", "block"] : List PySem.Str) ++ (["close", "period", "drift", "trusted", "policy", "halted", "base", "steps", "start_fault", "fault", "step", "blocks", "states", "add", "pairs_at", "leads"] : List PySem.Str) ++ (["grow", "heights", "reach", "answers", "plan", "follow", "transfers", "roots", "why", "headers", "leaves", "taken", "checkpoint", "advance", "growth", "shows"] : List PySem.Str))
def Nm : Nms := ⟨txts, by decide +kernel, by decide +kernel, flds, by decide +kernel⟩
/-- limbs_of -/
def f_p_hashing_limbs_of : Fd := ⟨1, 4, true, [(.set 1 (.lst true [(.bi .len false [(.v 0)])])), (.for (.n 2) .sq [(.v 0)] [(.set 3 (.bi .len false [(.v 1)])), (.ex (.mt .append (.v 1) [(.k (.int 0))])), (.whl (.cmp .gt (.v 2) (.k (.int 0))) [(.ex (.mt .append (.v 1) [(.bin .band (.v 2) (.k (.int 4294967295)))])), (.augi (.v 1) (.v 3) .add (.k (.int 1))), (.set 2 (.bin .shr (.v 2) (.k (.int 32))))])]), (.ret (.v 1))]⟩
/-- __init__ -/
def f_p_hashing_Hasher___init__ : Fd := ⟨2, 2, false, [(.setf (.v 0) 0 (.v 1))]⟩
/-- digest -/
def f_p_hashing_Hasher_digest : Fd := ⟨3, 6, true, [(.set 3 (.k (.int 7263541890216354987))), (.set 4 (.k (.int 12985647301928374651))), (.for (.n 5) .sq [(.bin .add (.bin .add (.lst false [(.v 1)]) (.call 2 [(.v 2)])) (.lst false [(.att (.v 0) 0), (.att (.v 0) 0)]))] [(.set 3 (.bin .band (.bin .mul (.bin .xor (.v 3) (.v 5)) (.k (.int 15241578750190521011))) (.k (.int 18446744073709551615)))), (.set 3 (.bin .xor (.v 3) (.bin .shr (.v 3) (.k (.int 31))))), (.set 4 (.bin .band (.bin .mul (.bin .add (.v 4) (.v 3)) (.k (.int 9764318250173649287))) (.k (.int 18446744073709551615)))), (.set 4 (.bin .xor (.v 4) (.bin .shr (.v 4) (.k (.int 29))))), (.set 3 (.bin .band (.bin .add (.v 3) (.v 4)) (.k (.int 18446744073709551615))))]), (.ret (.bin .shr (.bin .bor (.bin .shl (.v 3) (.k (.int 64))) (.v 4)) (.bin .sub (.k (.int 128)) (.att (.v 0) 0))))]⟩
/-- is_digest -/
def f_p_hashing_Hasher_is_digest : Fd := ⟨2, 2, true, [(.ret (.chn .le .lt (.k (.int 0)) (.v 1) (.bin .shl (.k (.int 1)) (.att (.v 0) 0))))]⟩
/-- digit_counts -/
def f_p_signing_digit_counts : Fd := ⟨1, 3, true, [(.set 1 (.bin .fdiv (.bin .add (.v 0) (.k (.int 3))) (.k (.int 4)))), (.set 2 (.k (.int 1))), (.whl (.cmp .ge (.bin .mul (.bin .sub (.k (.int 16)) (.k (.int 1))) (.v 1)) (.bin .shl (.k (.int 1)) (.bin .mul (.k (.int 4)) (.v 2)))) [(.aug 2 .add (.k (.int 1)))]), (.ret (.tup [(.v 1), (.v 2)]))]⟩
/-- digits_of -/
def f_p_signing_digits_of : Fd := ⟨2, 8, true, [(.unp [2, 3] (.call 0 [(.v 0)])), (.set 4 (.lc false (.n 6) .r1 [(.v 2)] (.k (.bl true)) (.bin .band (.bin .shr (.v 1) (.bin .mul (.k (.int 4)) (.v 6))) (.k (.int 15))) [6])), (.set 5 (.bi .sum false [(.lc false (.n 7) .sq [(.v 4)] (.k (.bl true)) (.bin .sub (.bin .sub (.k (.int 16)) (.k (.int 1))) (.v 7)) [7])])), (.ret (.bin .add (.v 4) (.lc false (.n 6) .r1 [(.v 3)] (.k (.bl true)) (.bin .band (.bin .shr (.v 5) (.bin .mul (.k (.int 4)) (.v 6))) (.k (.int 15))) [6])))]⟩
/-- stepped -/
def f_p_signing_stepped : Fd := ⟨6, 8, true, [(.set 6 (.lst true [(.v 3)])), (.for (.n 7) .r2 [(.v 4), (.v 5)] [(.ex (.mt .append (.v 6) [(.meth (.v 0) 2 [(.k (.int 4)), (.tup [(.v 1), (.v 2), (.v 7), (.idx (.v 6) (.neg (.k (.int 1))))])])]))]), (.ret (.v 6))]⟩
/-- key_digest -/
def f_p_signing_key_digest : Fd := ⟨3, 3, true, [(.ret (.meth (.v 0) 2 [(.k (.int 5)), (.bin .add (.lst false [(.v 1)]) (.bi .list false [(.v 2)]))]))]⟩
/-- __init__ -/
def f_p_signing_Signer___init__ : Fd := ⟨4, 11, false, [(.setf (.v 0) 3 (.v 1)), (.setf (.v 0) 19 (.v 2)), (.setf (.v 0) 20 (.v 3)), (.setf (.v 0) 22 (.lc false (.n 7) .r1 [(.bin .shl (.k (.int 1)) (.v 3))] (.k (.bl true)) (.meth (.v 0) 21 [(.v 7)]) [7])), (.setf (.v 0) 24 (.lst true [(.lc false (.n 7) .r1 [(.bin .shl (.k (.int 1)) (.v 3))] (.k (.bl true)) (.call 51 [(.v 1), (.v 7), (.meth (.v 0) 23 [(.v 7)])]) [7])])), (.for (.n 4) .r1 [(.v 3)] [(.set 5 (.idx (.att (.v 0) 24) (.neg (.k (.int 1))))), (.set 6 (.lc false (.n 8) .r3 [(.k (.int 0)), (.bi .len false [(.v 5)]), (.k (.int 2))] (.k (.bl true)) (.tup [(.idx (.v 5) (.v 8)), (.idx (.v 5) (.bin .add (.v 8) (.k (.int 1))))]) [8])), (.ex (.mt .append (.att (.v 0) 24) [(.lc false (.t [(.n 9), (.n 10)]) .sq [(.v 6)] (.k (.bl true)) (.meth (.v 1) 2 [(.k (.int 6)), (.tup [(.v 4), (.v 9), (.v 10)])]) [9, 10])]))]), (.setf (.v 0) 25 (.meth (.v 1) 2 [(.k (.int 6)), (.tup [(.v 3), (.idx (.idx (.att (.v 0) 24) (.neg (.k (.int 1)))) (.k (.int 0)))])]))]⟩
/-- chains -/
def f_p_signing_Signer_chains : Fd := ⟨1, 1, true, [(.ret (.bi .sum false [(.call 0 [(.att (.att (.v 0) 3) 0)])]))]⟩
/-- key_words -/
def f_p_signing_Signer_key_words : Fd := ⟨2, 5, true, [(.set 2 (.lst true [])), (.for (.n 3) .r1 [(.meth (.v 0) 26 [])] [(.set 4 (.meth (.att (.v 0) 3) 2 [(.k (.int 7)), (.tup [(.att (.v 0) 19), (.v 1), (.v 3)])])), (.ex (.mt .append (.v 2) [(.call 50 [(.att (.v 0) 3), (.v 1), (.v 3), (.v 4), (.k (.int 0)), (.bin .sub (.k (.int 16)) (.k (.int 1)))])]))]), (.ret (.v 2))]⟩
/-- word -/
def f_p_signing_Signer_word : Fd := ⟨4, 4, true, [(.ret (.idx (.idx (.idx (.att (.v 0) 22) (.v 1)) (.v 2)) (.v 3)))]⟩
/-- tops -/
def f_p_signing_Signer_tops : Fd := ⟨2, 3, true, [(.ret (.lc false (.n 2) .r1 [(.meth (.v 0) 26 [])] (.k (.bl true)) (.meth (.v 0) 27 [(.v 1), (.v 2), (.bin .sub (.k (.int 16)) (.k (.int 1)))]) [2]))]⟩
/-- path -/
def f_p_signing_Signer_path : Fd := ⟨2, 3, true, [(.ret (.lc false (.n 2) .r1 [(.att (.v 0) 20)] (.k (.bl true)) (.idx (.idx (.att (.v 0) 24) (.v 2)) (.bin .xor (.bin .shr (.v 1) (.v 2)) (.k (.int 1)))) [2]))]⟩
/-- sign -/
def f_p_signing_Signer_sign : Fd := ⟨3, 6, true, [(.set 3 (.call 1 [(.att (.att (.v 0) 3) 0), (.v 2)])), (.set 4 (.lc false (.n 5) .r1 [(.bi .len false [(.v 3)])] (.k (.bl true)) (.meth (.v 0) 27 [(.v 1), (.v 5), (.idx (.v 3) (.v 5))]) [5])), (.ret (.bi .tuple false [(.bin .add (.bin .add (.lst false [(.v 1)]) (.v 4)) (.meth (.v 0) 28 [(.v 1)]))]))]⟩
/-- levels_of -/
def f_p_signing_levels_of : Fd := ⟨2, 4, true, [(.set 2 (.bin .sub (.bin .sub (.bi .len false [(.v 1)]) (.k (.int 1))) (.bi .sum false [(.call 0 [(.att (.v 0) 0)])]))), (.iff (.or (.not (.chn .le .le (.k (.int 0)) (.v 2) (.k (.int 6)))) (.not (.chn .le .lt (.k (.int 0)) (.idx (.v 1) (.k (.int 0))) (.bin .shl (.k (.int 1)) (.v 2))))) [(.ret (.k .non))] []), (.iff (.not (.bi .all false [(.lc false (.n 3) .sq [(.slc (.v 1) (.k (.int 1)) .nop)] (.k (.bl true)) (.meth (.v 0) 1 [(.v 3)]) [3])])) [(.ret (.k .non))] []), (.ret (.v 2))]⟩
/-- inputs_of -/
def f_p_signing_inputs_of : Fd := ⟨3, 13, true, [(.set 3 (.idx (.v 2) (.k (.int 0)))), (.set 4 (.call 1 [(.att (.v 0) 0), (.v 1)])), (.set 5 (.slc (.v 2) (.k (.int 1)) (.bin .add (.bi .len false [(.v 4)]) (.k (.int 1))))), (.set 6 (.lc false (.n 12) .r1 [(.bi .len false [(.v 4)])] (.k (.bl true)) (.idx (.call 50 [(.v 0), (.v 3), (.v 12), (.idx (.v 5) (.v 12)), (.idx (.v 4) (.v 12)), (.bin .sub (.k (.int 16)) (.k (.int 1)))]) (.neg (.k (.int 1)))) [12])), (.set 7 (.lst true [(.tup [(.k (.int 5)), (.bi .tuple false [(.bin .add (.lst false [(.v 3)]) (.v 6))])])])), (.set 8 (.slc (.v 2) (.bin .add (.bi .len false [(.v 4)]) (.k (.int 1))) .nop)), (.for (.n 9) .r1 [(.bi .len false [(.v 8)])] [(.set 10 (.meth (.v 0) 2 [(.idx (.idx (.v 7) (.neg (.k (.int 1)))) (.k (.int 0))), (.idx (.idx (.v 7) (.neg (.k (.int 1)))) (.k (.int 1)))])), (.set 11 (.ite (.cmp .eq (.bin .band (.bin .shr (.v 3) (.v 9)) (.k (.int 1))) (.k (.int 0))) (.tup [(.v 10), (.idx (.v 8) (.v 9))]) (.tup [(.idx (.v 8) (.v 9)), (.v 10)]))), (.ex (.mt .append (.v 7) [(.tup [(.k (.int 6)), (.bin .add (.tup [(.v 9)]) (.v 11))])]))]), (.set 10 (.meth (.v 0) 2 [(.idx (.idx (.v 7) (.neg (.k (.int 1)))) (.k (.int 0))), (.idx (.idx (.v 7) (.neg (.k (.int 1)))) (.k (.int 1)))])), (.ret (.bin .add (.v 7) (.lst false [(.tup [(.k (.int 6)), (.tup [(.bi .len false [(.v 8)]), (.v 10)])])])))]⟩
/-- verify -/
def f_p_signing_verify : Fd := ⟨4, 6, true, [(.iff (.cmp .is (.call 59 [(.v 0), (.v 3)]) (.k .non)) [(.ret (.k (.bl false)))] []), (.unp [4, 5] (.idx (.call 60 [(.v 0), (.v 2), (.v 3)]) (.neg (.k (.int 1))))), (.ret (.cmp .eq (.meth (.v 0) 2 [(.v 4), (.v 5)]) (.v 1)))]⟩
/-- members_fault -/
def f_p_validators_members_fault : Fd := ⟨1, 5, true, [(.iff (.not (.chn .le .le (.k (.int 1)) (.bi .len false [(.v 0)]) (.k (.int 64)))) [(.ret (.k (.str 4)))] []), (.set 1 (.lc false (.t [(.n 2), (.n 3)]) .sq [(.v 0)] (.k (.bl true)) (.v 2) [2, 3])), (.iff (.or (.cmp .lt (.bi .min1 false [(.v 1)]) (.k (.int 0))) (.bi .any false [(.lc false (.n 4) .r1 [(.bin .sub (.bi .len false [(.v 1)]) (.k (.int 1)))] (.k (.bl true)) (.cmp .ge (.idx (.v 1) (.v 4)) (.idx (.v 1) (.bin .add (.v 4) (.k (.int 1))))) [4])])) [(.ret (.k (.str 7)))] []), (.iff (.not (.bi .all false [(.lc false (.t [(.n 2), (.n 3)]) .sq [(.v 0)] (.k (.bl true)) (.chn .le .le (.k (.int 1)) (.v 3) (.k (.int 1000000))) [2, 3])])) [(.ret (.k (.str 8)))] []), (.ret (.k .non))]⟩
/-- members_numbers -/
def f_p_validators_members_numbers : Fd := ⟨1, 4, true, [(.set 1 (.lst true [(.bi .len false [(.v 0)])])), (.for (.t [(.n 2), (.n 3)]) .sq [(.v 0)] [(.ex (.mt .extend (.v 1) [(.lst false [(.v 2), (.v 3)])]))]), (.ret (.v 1))]⟩
/-- members_root -/
def f_p_validators_members_root : Fd := ⟨2, 2, true, [(.ret (.meth (.v 0) 2 [(.k (.int 9)), (.call 90 [(.v 1)])]))]⟩
/-- total -/
def f_p_validators_total : Fd := ⟨1, 3, true, [(.ret (.bi .sum false [(.lc false (.t [(.n 1), (.n 2)]) .sq [(.v 0)] (.k (.bl true)) (.v 2) [1, 2])]))]⟩
/-- weight_of -/
def f_p_validators_weight_of : Fd := ⟨2, 4, true, [(.ret (.bi .sum false [(.lc false (.t [(.n 2), (.n 3)]) .sq [(.v 0)] (.cmp .inn (.v 2) (.v 1)) (.v 3) [2, 3])]))]⟩
/-- more_than -/
def f_p_validators_more_than : Fd := ⟨4, 4, true, [(.ret (.cmp .gt (.bin .mul (.call 93 [(.v 0), (.v 1)]) (.v 3)) (.bin .mul (.call 92 [(.v 0)]) (.v 2))))]⟩
/-- signers -/
def f_p_validators_signers : Fd := ⟨4, 9, true, [(.set 4 (.lc false (.t [(.n 6), (.n 8)]) .sq [(.v 2)] (.k (.bl true)) (.v 6) [6, 8])), (.set 5 (.lst true [])), (.for (.t [(.n 6), (.n 7)]) .sq [(.v 3)] [(.iff (.and (.cmp .inn (.v 6) (.v 4)) (.and (.cmp .nin (.v 6) (.v 5)) (.call 61 [(.v 0), (.v 6), (.v 1), (.v 7)]))) [(.ex (.mt .append (.v 5) [(.v 6)]))] [])]), (.ret (.bi .tuple false [(.bi .sorted false [(.v 5)])]))]⟩
/-- _law_number -/
def f_l_law_number : Fd := ⟨2, 3, true, [(.iff (.cmp .ge (.v 0) (.bin .pow (.k (.int 10)) (.k (.int 18)))) [(.ret (.v 0))] []), (.set 2 (.bin .mod (.bi .int false [(.bin .add (.bin .add (.bin .mul (.v 0) (.k (.int 48271))) (.bin .mul (.v 1) (.k (.int 69621)))) (.k (.int 11)))]) (.k (.int 2147483647)))), (.ret (.bin .mod (.bi .int false [(.bin .add (.bin .mul (.v 2) (.v 2)) (.bin .mul (.v 1) (.k (.int 40692))))]) (.k (.int 2147483399))))]⟩
/-- _law_cells -/
def f_l_law_cells : Fd := ⟨2, 4, true, [(.set 2 (.lc true (.n 3) .sq [(.v 0)] (.k (.bl true)) (.bi .int false [(.v 3)]) [3])), (.whl (.cmp .lt (.bi .len false [(.v 2)]) (.v 1)) [(.ex (.mt .append (.v 2) [(.bin .add (.bi .len false [(.v 2)]) (.k (.int 5)))]))]), (.ret (.v 2))]⟩
/-- _law_is -/
def f_l_law_is : Fd := ⟨2, 2, true, [(.ret (.and (.bi (.isin .int) false [(.v 0)]) (.and (.not (.bi (.isin .bool) false [(.v 0)])) (.cmp .eq (.v 0) (.v 1)))))]⟩
/-- _law_keys -/
def f_l_law_keys : Fd := ⟨2, 6, true, [(.set 2 (.lst true [])), (.set 3 (.lst true [])), (.for (.n 4) .r1 [(.bin .add (.k (.int 1)) (.bin .mod (.bi .int false [(.v 1)]) (.k (.int 4))))] [(.set 5 (.make 4 [(.v 0), (.bin .add (.bin .mod (.bin .fdiv (.v 1) (.k (.int 16))) (.k (.int 100003))) (.bin .mul (.k (.int 3)) (.v 4))), (.bin .mod (.bin .fdiv (.v 1) (.k (.int 4))) (.k (.int 2)))])), (.iff (.cmp .nin (.att (.v 5) 25) (.v 3)) [(.ex (.mt .append (.v 2) [(.v 5)])), (.ex (.mt .append (.v 3) [(.att (.v 5) 25)]))] [])]), (.ret (.v 2))]⟩
/-- _law_spoilt -/
def f_l_law_spoilt : Fd := ⟨2, 6, true, [(.set 2 (.bin .mod (.bi .int false [(.v 1)]) (.k (.int 12)))), (.set 3 (.bi .list true [(.v 0)])), (.set 4 (.bin .mod (.bin .fdiv (.v 1) (.k (.int 12))) (.bi .len false [(.v 3)]))), (.iff (.cmp .eq (.v 2) (.k (.int 0))) [(.ret (.tup []))] []), (.iff (.cmp .eq (.v 2) (.k (.int 1))) [(.ret (.bi .tuple false [(.rev (.v 3))]))] []), (.iff (.cmp .eq (.v 2) (.k (.int 2))) [(.ret (.bi .tuple false [(.bin .add (.v 3) (.lst false [(.idx (.v 3) (.v 4))]))]))] []), (.iff (.cmp .eq (.v 2) (.k (.int 3))) [(.seti (.v 3) (.v 4) (.tup [(.idx (.idx (.v 3) (.v 4)) (.k (.int 0))), (.idx (.lst false [(.k (.int 0)), (.k (.int 1000001)), (.neg (.k (.int 5))), (.k (.int 1000000))]) (.bin .mod (.bin .fdiv (.v 1) (.k (.int 144))) (.k (.int 4))))]))] []), (.iff (.cmp .eq (.v 2) (.k (.int 4))) [(.seti (.v 3) (.k (.int 0)) (.tup [(.bin .sub (.neg (.k (.int 1))) (.bin .mod (.bin .fdiv (.v 1) (.k (.int 144))) (.k (.int 2)))), (.idx (.idx (.v 3) (.k (.int 0))) (.k (.int 1)))]))] []), (.iff (.cmp .eq (.v 2) (.k (.int 5))) [(.ret (.bi .tuple false [(.lc false (.n 5) .r1 [(.bin .add (.k (.int 63)) (.bin .mod (.bin .fdiv (.v 1) (.k (.int 144))) (.k (.int 4))))] (.k (.bl true)) (.tup [(.v 5), (.bin .add (.k (.int 1)) (.bin .mod (.bi .int false [(.v 5)]) (.k (.int 3))))]) [5])]))] []), (.ret (.bi .tuple false [(.v 3)]))]⟩
/-- _law_fault -/
def f_l_law_fault : Fd := ⟨1, 4, true, [(.iff (.not (.chn .le .le (.k (.int 1)) (.bi .len false [(.v 0)]) (.k (.int 64)))) [(.ret (.k (.str 4)))] []), (.for (.n 1) .r1 [(.bi .len false [(.v 0)])] [(.iff (.or (.cmp .lt (.idx (.idx (.v 0) (.v 1)) (.k (.int 0))) (.k (.int 0))) (.and (.cmp .gt (.v 1) (.k (.int 0))) (.cmp .le (.idx (.idx (.v 0) (.v 1)) (.k (.int 0))) (.idx (.idx (.v 0) (.bin .sub (.v 1) (.k (.int 1)))) (.k (.int 0)))))) [(.ret (.k (.str 7)))] [])]), (.for (.t [(.n 2), (.n 3)]) .sq [(.v 0)] [(.iff (.not (.chn .le .le (.k (.int 1)) (.v 3) (.k (.int 1000000)))) [(.ret (.k (.str 8)))] [])]), (.ret (.k .non))]⟩
/-- _law_votes -/
def f_l_law_votes : Fd := ⟨3, 11, true, [(.set 3 (.lst true [])), (.set 4 (.v 2)), (.for (.n 5) .r1 [(.bin .add (.bi .len false [(.v 0)]) (.k (.int 2)))] [(.set 6 (.idx (.v 0) (.bin .mod (.bi .int false [(.v 5)]) (.bi .len false [(.v 0)])))), (.set 7 (.bin .mod (.bi .int false [(.v 4)]) (.k (.int 9)))), (.set 8 (.bi .list true [(.meth (.v 6) 29 [(.k (.int 0)), (.idx (.lst false [(.v 1), (.v 1), (.k (.int 3))]) (.bin .mul (.bi .int false [(.cmp .eq (.v 7) (.k (.int 1)))]) (.k (.int 2))))])])), (.set 9 (.att (.v 6) 25)), (.iff (.cmp .eq (.v 7) (.k (.int 2))) [(.set 9 (.att (.idx (.v 0) (.bin .mod (.bin .fdiv (.v 4) (.k (.int 9))) (.bi .len false [(.v 0)]))) 25))] []), (.iff (.cmp .eq (.v 7) (.k (.int 3))) [(.set 10 (.bin .mod (.bin .fdiv (.v 4) (.k (.int 9))) (.bi .len false [(.v 8)]))), (.seti (.v 8) (.v 10) (.bin .add (.idx (.v 8) (.v 10)) (.idx (.lst false [(.k (.int 1)), (.neg (.k (.int 1))), (.k (.int 70000))]) (.bin .mod (.bin .fdiv (.v 4) (.k (.int 99))) (.k (.int 3))))))] []), (.iff (.cmp .eq (.v 7) (.k (.int 4))) [(.ex (.mt .pop (.v 8) []))] []), (.iff (.cmp .lt (.v 7) (.k (.int 8))) [(.ex (.mt .append (.v 3) [(.tup [(.v 9), (.bi .tuple false [(.v 8)])])]))] []), (.set 4 (.bin .fdiv (.v 4) (.k (.int 11))))]), (.ret (.bi .tuple false [(.v 3)]))]⟩
/-- law -/
def f_l_law : Fd := ⟨1, 23, true, [(.set 1 (.call 1001 [(.v 0), (.k (.int 3))])), (.set 2 (.call 1000 [(.idx (.v 1) (.k (.int 0))), (.k (.int 0))])), (.set 3 (.make 0 [(.idx (.lst false [(.k (.int 4)), (.k (.int 8)), (.k (.int 12)), (.k (.int 16)), (.k (.int 24))]) (.bin .mod (.bin .fdiv (.v 2) (.k (.int 3))) (.k (.int 5))))])), (.set 4 (.call 1003 [(.v 3), (.bin .fdiv (.v 2) (.k (.int 15)))])), (.set 5 (.bi .tuple false [(.bi .sortp false [(.lc false (.n 21) .sq [(.v 4)] (.k (.bl true)) (.tup [(.att (.v 21) 25), (.bin .add (.k (.int 1)) (.bin .mod (.bin .fdiv (.v 2) (.bin .add (.k (.int 7)) (.att (.v 21) 25))) (.k (.int 9))))]) [21])])])), (.set 6 (.call 1004 [(.v 5), (.call 1000 [(.idx (.v 1) (.k (.int 1))), (.k (.int 1))])])), (.iff (.or (.cmp .isn (.call 89 [(.v 5)]) (.k .non)) (.cmp .ne (.call 89 [(.v 6)]) (.call 1005 [(.v 6)]))) [(.ret (.k (.bl false)))] []), (.set 7 (.lst false [(.bi .len false [(.v 5)])])), (.for (.t [(.n 8), (.n 9)]) .sq [(.v 5)] [(.set 7 (.bin .add (.v 7) (.lst false [(.v 8), (.v 9)])))]), (.iff (.or (.cmp .ne (.call 90 [(.v 5)]) (.v 7)) (.or (.cmp .ne (.k (.int 9)) (.k (.int 9))) (.not (.call 1002 [(.call 91 [(.v 3), (.v 5)]), (.meth (.v 3) 2 [(.k (.int 9)), (.v 7)])])))) [(.ret (.k (.bl false)))] []), (.set 10 (.call 1000 [(.idx (.v 1) (.k (.int 2))), (.k (.int 2))])), (.set 11 (.bin .mod (.bin .fdiv (.v 10) (.k (.int 13))) (.bin .shl (.k (.int 1)) (.att (.v 3) 0)))), (.set 12 (.call 1006 [(.v 4), (.v 11), (.v 10)])), (.set 13 (.lc false (.n 20) .sq [(.v 5)] (.cmp .gt (.bin .mod (.bi .int false [(.bin .add (.idx (.v 20) (.k (.int 0))) (.v 10))]) (.k (.int 5))) (.k (.int 0))) (.v 20) [20])), (.set 14 (.lst true [])), (.for (.t [(.n 8), (.n 9)]) .sq [(.v 13)] [(.iff (.cmp .ne (.lc false (.n 22) .sq [(.v 12)] (.and (.cmp .eq (.idx (.v 22) (.k (.int 0))) (.v 8)) (.call 61 [(.v 3), (.v 8), (.v 11), (.idx (.v 22) (.k (.int 1)))])) (.v 22) [22]) (.lst false [])) [(.ex (.mt .append (.v 14) [(.v 8)]))] [])]), (.iff (.cmp .ne (.call 95 [(.v 3), (.v 11), (.bi .tuple false [(.v 13)]), (.v 12)]) (.bi .tuple false [(.v 14)])) [(.ret (.k (.bl false)))] []), (.set 15 (.bin .add (.bin .add (.v 14) (.slc (.v 14) .nop (.k (.int 1)))) (.lst false [(.bin .mod (.bi .int false [(.v 10)]) (.k (.int 90))), (.neg (.k (.int 4)))]))), (.set 9 (.bi .sum false [(.lc false (.n 20) .sq [(.v 5)] (.cmp .inn (.idx (.v 20) (.k (.int 0))) (.v 15)) (.idx (.v 20) (.k (.int 1))) [20])])), (.set 16 (.bi .sum false [(.lc false (.n 20) .sq [(.v 5)] (.k (.bl true)) (.idx (.v 20) (.k (.int 1))) [20])])), (.iff (.or (.not (.call 1002 [(.call 92 [(.v 5)]), (.v 16)])) (.not (.call 1002 [(.call 93 [(.v 5), (.v 15)]), (.v 9)]))) [(.ret (.k (.bl false)))] []), (.for (.t [(.n 17), (.n 18)]) .sq [(.lst false [(.tup [(.k (.int 1)), (.k (.int 3))]), (.tup [(.k (.int 2)), (.k (.int 3))]), (.tup [(.v 9), (.v 16)]), (.tup [(.bin .sub (.v 9) (.k (.int 1))), (.v 16)]), (.tup [(.k (.int 0)), (.k (.int 1))])])] [(.set 19 (.call 94 [(.v 5), (.v 15), (.v 17), (.v 18)])), (.iff (.or (.not (.bi (.isin .bool) false [(.v 19)])) (.cmp .ne (.v 19) (.cmp .gt (.bin .mul (.v 9) (.v 18)) (.bin .mul (.v 16) (.v 17))))) [(.ret (.k (.bl false)))] [])]), (.ret (.k (.bl true)))]⟩
def T : Tab where
  fn n := match n with
    | 2 => some f_p_hashing_limbs_of
    | 3 => some f_p_hashing_Hasher___init__
    | 4 => some f_p_hashing_Hasher_digest
    | 5 => some f_p_hashing_Hasher_is_digest
    | 0 => some f_p_signing_digit_counts
    | 1 => some f_p_signing_digits_of
    | 50 => some f_p_signing_stepped
    | 51 => some f_p_signing_key_digest
    | 52 => some f_p_signing_Signer___init__
    | 53 => some f_p_signing_Signer_chains
    | 54 => some f_p_signing_Signer_key_words
    | 55 => some f_p_signing_Signer_word
    | 56 => some f_p_signing_Signer_tops
    | 57 => some f_p_signing_Signer_path
    | 58 => some f_p_signing_Signer_sign
    | 59 => some f_p_signing_levels_of
    | 60 => some f_p_signing_inputs_of
    | 61 => some f_p_signing_verify
    | 89 => some f_p_validators_members_fault
    | 90 => some f_p_validators_members_numbers
    | 91 => some f_p_validators_members_root
    | 92 => some f_p_validators_total
    | 93 => some f_p_validators_weight_of
    | 94 => some f_p_validators_more_than
    | 95 => some f_p_validators_signers
    | 1000 => some f_l_law_number
    | 1001 => some f_l_law_cells
    | 1002 => some f_l_law_is
    | 1003 => some f_l_law_keys
    | 1004 => some f_l_law_spoilt
    | 1005 => some f_l_law_fault
    | 1006 => some f_l_law_votes
    | 1007 => some f_l_law
    | _ => none
  init c := match c with
    | 0 => some (3, true)
    | 4 => some (52, true)
    | _ => none
  eqm c := match c with
    | _ => none
  meth c m := match c, m with
    | 0, 2 => some 4
    | 0, 1 => some 5
    | 4, 26 => some 53
    | 4, 21 => some 54
    | 4, 27 => some 55
    | 4, 23 => some 56
    | 4, 28 => some 57
    | 4, 29 => some 58
    | _, _ => none
  fo c f := match c, f with
    | 0, 0 => true
    | 4, 3 => true
    | 4, 19 => true
    | 4, 20 => true
    | 4, 22 => true
    | 4, 24 => true
    | 4, 25 => true
    | _, _ => false
abbrev R : PySem.W.OpenRow := PySem.W.OpenLaw.row PySem.Challenge.rw_offing_k30_validators
def top (i : Nat) : Stmt := R.prog.main.body.getD i (.Pass ⟨0, 0, 0, 0⟩)
def C0 (K : PySem.W.Frag) : Ct := ⟨Nm, K, fun c => match c with
  | 0 => some (He.ga K "Hasher")
  | 4 => some (He.ga K "Signer")
  | _ => none, fun _ => none⟩
structure Gc (K : PySem.W.Frag) (mg : PySem.Str → Option Value) : Prop where
  triv : True
  c_BASE : ∃ t, mg "BASE" = some (.int 16 t)
  c_CHAIN : ∃ t, mg "CHAIN" = some (.int 4 t)
  c_FIRST : ∃ t, mg "FIRST" = some (.int 7263541890216354987 t)
  c_KEY : ∃ t, mg "KEY" = some (.int 5 t)
  c_LIMB : ∃ t, mg "LIMB" = some (.int 4294967295 t)
  c_MASK : ∃ t, mg "MASK" = some (.int 18446744073709551615 t)
  c_MEMBERS_TAG : ∃ t, mg "MEMBERS_TAG" = some (.int 9 t)
  c_MOST_LEVELS : ∃ t, mg "MOST_LEVELS" = some (.int 6 t)
  c_MOST_MEMBERS : ∃ t, mg "MOST_MEMBERS" = some (.int 64 t)
  c_MOST_WEIGHT : ∃ t, mg "MOST_WEIGHT" = some (.int 1000000 t)
  c_ONE : ∃ t, mg "ONE" = some (.int 15241578750190521011 t)
  c_OTHER : ∃ t, mg "OTHER" = some (.int 9764318250173649287 t)
  c_SECOND : ∃ t, mg "SECOND" = some (.int 12985647301928374651 t)
  c_SECRET : ∃ t, mg "SECRET" = some (.int 7 t)
  c_TREE : ∃ t, mg "TREE" = some (.int 6 t)
  c_WHOLE : ∃ t, mg "WHOLE" = some (.int 128 t)
/-- what the defs do at level k -/
structure Wl (P : Program) (w : World) (K : PySem.W.Frag) (mg : PySem.Str → Option Value) (base : Heap) (k : Nat) : Prop where
  triv : True
  p_hashing_limbs_of : M.Gf P w K mg base T (C0 K) k 2 "limbs_of"
  p_signing_digit_counts : M.Gf P w K mg base T (C0 K) k 0 "digit_counts"
  p_signing_digits_of : M.Gf P w K mg base T (C0 K) k 1 "digits_of"
  p_signing_stepped : M.Gf P w K mg base T (C0 K) k 50 "stepped"
  p_signing_key_digest : M.Gf P w K mg base T (C0 K) k 51 "key_digest"
  p_signing_levels_of : M.Gf P w K mg base T (C0 K) k 59 "levels_of"
  p_signing_inputs_of : M.Gf P w K mg base T (C0 K) k 60 "inputs_of"
  p_signing_verify : M.Gf P w K mg base T (C0 K) k 61 "verify"
  p_validators_members_fault : M.Gf P w K mg base T (C0 K) k 89 "members_fault"
  p_validators_members_numbers : M.Gf P w K mg base T (C0 K) k 90 "members_numbers"
  p_validators_members_root : M.Gf P w K mg base T (C0 K) k 91 "members_root"
  p_validators_total : M.Gf P w K mg base T (C0 K) k 92 "total"
  p_validators_weight_of : M.Gf P w K mg base T (C0 K) k 93 "weight_of"
  p_validators_more_than : M.Gf P w K mg base T (C0 K) k 94 "more_than"
  p_validators_signers : M.Gf P w K mg base T (C0 K) k 95 "signers"
  l_law_number : M.Gf P w K mg base T (C0 K) k 1000 "_law_number"
  l_law_cells : M.Gf P w K mg base T (C0 K) k 1001 "_law_cells"
  l_law_is : M.Gf P w K mg base T (C0 K) k 1002 "_law_is"
  l_law_keys : M.Gf P w K mg base T (C0 K) k 1003 "_law_keys"
  l_law_spoilt : M.Gf P w K mg base T (C0 K) k 1004 "_law_spoilt"
  l_law_fault : M.Gf P w K mg base T (C0 K) k 1005 "_law_fault"
  l_law_votes : M.Gf P w K mg base T (C0 K) k 1006 "_law_votes"
  l_law : M.Gf P w K mg base T (C0 K) k 1007 "law"
  m_digest : ∀ c f, T.meth c 2 = some f → M.Gm P w K mg base T (C0 K) k f c "digest"
  m_is_digest : ∀ c f, T.meth c 1 = some f → M.Gm P w K mg base T (C0 K) k f c "is_digest"
  m_chains : ∀ c f, T.meth c 26 = some f → M.Gm P w K mg base T (C0 K) k f c "chains"
  m_key_words : ∀ c f, T.meth c 21 = some f → M.Gm P w K mg base T (C0 K) k f c "key_words"
  m_word : ∀ c f, T.meth c 27 = some f → M.Gm P w K mg base T (C0 K) k f c "word"
  m_tops : ∀ c f, T.meth c 23 = some f → M.Gm P w K mg base T (C0 K) k f c "tops"
  m_path : ∀ c f, T.meth c 28 = some f → M.Gm P w K mg base T (C0 K) k f c "path"
  m_sign : ∀ c f, T.meth c 29 = some f → M.Gm P w K mg base T (C0 K) k f c "sign"
  eqm : ∀ c f, T.eqm c = some f → M.Gm P w K mg base T (C0 K) k f c "__eq__"
  c_Hasher : M.Gc P w K mg base T (C0 K) k 3 0 "Hasher"
  c_Signer : M.Gc P w K mg base T (C0 K) k 52 4 "Signer"
section
variable {P : Program} {w : World} {K : PySem.W.Frag} {mg : PySem.Str → Option Value} {base : Heap}
abbrev N_p_hashing_limbs_of : List PySem.Str := ["numbers", "found", "number", "place"]
theorem sc_p_hashing_limbs_of : FnScope N_p_hashing_limbs_of ["numbers"] (defScope (top 8)) := ⟨rfl, rfl, rfl, by decide +kernel, rfl, by decide +kernel, by decide +kernel⟩
theorem b_p_hashing_limbs_of {k : Nat} (W : Wo K (C0 K) T.fo) (fr : Fr mg) (gc : Gc K mg) (wa : ∀ j, j ≤ k → Wl P w K mg base j) (tp : Hp) (b : Nat) (fa : Addr) (cdv : Value) (A : Around) (outer : List Env) (s : Shared) (H : Hp) (E : XK)
    (hr : Room k (A.deeper (envOfC "limbs_of" (defScope (top 8)) s.heap.objs.size fa cdv))) :
    MSs (cxOf CX0 P w K mg base N_p_hashing_limbs_of "limbs_of" (defScope (top 8)) fa cdv A outer s H E).nox ((C0 K).w tp) (par T k b) (defBody (top 8)) f_p_hashing_limbs_of.body := by
  have wl := wa k (Nat.le_refl _)
  have hK : ((C0 K).w tp).K = K := rfl
  have hN := sc_p_hashing_limbs_of.nd
  have hu : (A.deeper (envOfC "limbs_of" (defScope (top 8)) s.heap.objs.size fa cdv)).units + 66 < cLine := hu_room (X := (cxOf CX0 P w K mg base N_p_hashing_limbs_of "limbs_of" (defScope (top 8)) fa cdv A outer s H E).nox) hr
  have W := W.w tp
  exact (mss_cons (ms_set (k := 1) hN rfl (.inl rfl) (me_lst true (ma_cons (me_len hK fr (me_v 0)) ma_nil)))
    (mss_cons (ms_for (par_stp T k b) hK PassesOwn.never rfl (mi_sq hK (me_v 0)) (mg_n hN rfl (.inl rfl)) (mss_cons (ms_set (k := 3) hN rfl (.inl rfl) (me_len hK fr (me_v 1)))
    (mss_cons (ms_ex (me_append hK (me_v 1) me_int))
    (mss_cons (ms_whl PassesOwn.never (mt_cmp hK hu .gt (me_v 2) me_int) (mss_cons (ms_ex (me_append hK (me_v 1) (me_bin hK .band (me_v 2) (me_gint' gc.c_LIMB))))
    (mss_cons (ms_augi .add rfl hK hu me_int (me_v 1) (me_v 3))
    (mss_cons (ms_set (k := 2) hN rfl (.inl rfl) (me_bin hK .shr (me_v 2) me_int))
    mss_nil))))
    mss_nil))) nd_sq)
    (mss_cons (ms_ret (me_v 1))
    mss_nil)))
abbrev N_p_hashing_Hasher___init__ : List PySem.Str := ["self", "width"]
theorem sc_p_hashing_Hasher___init__ : FnScope N_p_hashing_Hasher___init__ ["self", "width"] (defScope (inClass (top 9) 0)) := ⟨rfl, rfl, rfl, by decide +kernel, rfl, by decide +kernel, by decide +kernel⟩
theorem b_p_hashing_Hasher___init__ {k : Nat} (W : Wo K (C0 K) T.fo) (fr : Fr mg) (gc : Gc K mg) (wa : ∀ j, j ≤ k → Wl P w K mg base j) (tp : Hp) (b : Nat) (fa : Addr) (cdv : Value) (A : Around) (outer : List Env) (s : Shared) (H : Hp) (E : XK)
    (hr : Room k (A.deeper (envOfC "Hasher.__init__" (defScope (inClass (top 9) 0)) s.heap.objs.size fa cdv))) :
    MSs (cxOf CX0 P w K mg base N_p_hashing_Hasher___init__ "Hasher.__init__" (defScope (inClass (top 9) 0)) fa cdv A outer s H E).nox ((C0 K).w tp) (par T k b) (defBody (inClass (top 9) 0)) f_p_hashing_Hasher___init__.body := by
  have wl := wa k (Nat.le_refl _)
  have hK : ((C0 K).w tp).K = K := rfl
  have hN := sc_p_hashing_Hasher___init__.nd
  have hu : (A.deeper (envOfC "Hasher.__init__" (defScope (inClass (top 9) 0)) s.heap.objs.size fa cdv)).units + 66 < cLine := hu_room (X := (cxOf CX0 P w K mg base N_p_hashing_Hasher___init__ "Hasher.__init__" (defScope (inClass (top 9) 0)) fa cdv A outer s H E).nox) hr
  have W := W.w tp
  exact (mss_cons (ms_setf (W.wd hr rfl) 0 (me_v 1) (me_v 0))
    mss_nil)
abbrev N_p_hashing_Hasher_digest : List PySem.Str := ["self", "tag", "numbers", "first", "second", "limb"]
theorem sc_p_hashing_Hasher_digest : FnScope N_p_hashing_Hasher_digest ["self", "tag", "numbers"] (defScope (inClass (top 9) 1)) := ⟨rfl, rfl, rfl, by decide +kernel, rfl, by decide +kernel, by decide +kernel⟩
theorem b_p_hashing_Hasher_digest {k : Nat} (W : Wo K (C0 K) T.fo) (fr : Fr mg) (gc : Gc K mg) (wa : ∀ j, j ≤ k → Wl P w K mg base j) (tp : Hp) (b : Nat) (fa : Addr) (cdv : Value) (A : Around) (outer : List Env) (s : Shared) (H : Hp) (E : XK)
    (hr : Room k (A.deeper (envOfC "Hasher.digest" (defScope (inClass (top 9) 1)) s.heap.objs.size fa cdv))) :
    MSs (cxOf CX0 P w K mg base N_p_hashing_Hasher_digest "Hasher.digest" (defScope (inClass (top 9) 1)) fa cdv A outer s H E).nox ((C0 K).w tp) (par T k b) (defBody (inClass (top 9) 1)) f_p_hashing_Hasher_digest.body := by
  have wl := wa k (Nat.le_refl _)
  have hK : ((C0 K).w tp).K = K := rfl
  have hN := sc_p_hashing_Hasher_digest.nd
  have hu : (A.deeper (envOfC "Hasher.digest" (defScope (inClass (top 9) 1)) s.heap.objs.size fa cdv)).units + 66 < cLine := hu_room (X := (cxOf CX0 P w K mg base N_p_hashing_Hasher_digest "Hasher.digest" (defScope (inClass (top 9) 1)) fa cdv A outer s H E).nox) hr
  have W := W.w tp
  exact (mss_cons (ms_set (k := 3) hN rfl (.inl rfl) (me_gint' gc.c_FIRST))
    (mss_cons (ms_set (k := 4) hN rfl (.inl rfl) (me_gint' gc.c_SECOND))
    (mss_cons (ms_for (par_stp T k b) hK PassesOwn.never rfl (mi_sq hK (me_bin hK .add (me_bin hK .add (me_lst false (ma_cons (me_v 1) ma_nil)) (me_call wl.p_hashing_limbs_of hr rfl (ma_cons (me_v 2) ma_nil))) (me_lst false (ma_cons (me_att (W.wd hr rfl) 0 (me_v 0)) (ma_cons (me_att (W.wd hr rfl) 0 (me_v 0)) ma_nil))))) (mg_n hN rfl (.inl rfl)) (mss_cons (ms_set (k := 3) hN rfl (.inl rfl) (me_bin hK .band (me_bin hK .mul (me_bin hK .xor (me_v 3) (me_v 5)) (me_gint' gc.c_ONE)) (me_gint' gc.c_MASK)))
    (mss_cons (ms_set (k := 3) hN rfl (.inl rfl) (me_bin hK .xor (me_v 3) (me_bin hK .shr (me_v 3) me_int)))
    (mss_cons (ms_set (k := 4) hN rfl (.inl rfl) (me_bin hK .band (me_bin hK .mul (me_bin hK .add (me_v 4) (me_v 3)) (me_gint' gc.c_OTHER)) (me_gint' gc.c_MASK)))
    (mss_cons (ms_set (k := 4) hN rfl (.inl rfl) (me_bin hK .xor (me_v 4) (me_bin hK .shr (me_v 4) me_int)))
    (mss_cons (ms_set (k := 3) hN rfl (.inl rfl) (me_bin hK .band (me_bin hK .add (me_v 3) (me_v 4)) (me_gint' gc.c_MASK)))
    mss_nil))))) nd_sq)
    (mss_cons (ms_ret (me_bin hK .shr (me_bin hK .bor (me_bin hK .shl (me_v 3) me_int) (me_v 4)) (me_bin hK .sub (me_gint' gc.c_WHOLE) (me_att (W.wd hr rfl) 0 (me_v 0)))))
    mss_nil))))
abbrev N_p_hashing_Hasher_is_digest : List PySem.Str := ["self", "number"]
theorem sc_p_hashing_Hasher_is_digest : FnScope N_p_hashing_Hasher_is_digest ["self", "number"] (defScope (inClass (top 9) 2)) := ⟨rfl, rfl, rfl, by decide +kernel, rfl, by decide +kernel, by decide +kernel⟩
theorem b_p_hashing_Hasher_is_digest {k : Nat} (W : Wo K (C0 K) T.fo) (fr : Fr mg) (gc : Gc K mg) (wa : ∀ j, j ≤ k → Wl P w K mg base j) (tp : Hp) (b : Nat) (fa : Addr) (cdv : Value) (A : Around) (outer : List Env) (s : Shared) (H : Hp) (E : XK)
    (hr : Room k (A.deeper (envOfC "Hasher.is_digest" (defScope (inClass (top 9) 2)) s.heap.objs.size fa cdv))) :
    MSs (cxOf CX0 P w K mg base N_p_hashing_Hasher_is_digest "Hasher.is_digest" (defScope (inClass (top 9) 2)) fa cdv A outer s H E).nox ((C0 K).w tp) (par T k b) (defBody (inClass (top 9) 2)) f_p_hashing_Hasher_is_digest.body := by
  have wl := wa k (Nat.le_refl _)
  have hK : ((C0 K).w tp).K = K := rfl
  have hN := sc_p_hashing_Hasher_is_digest.nd
  have hu : (A.deeper (envOfC "Hasher.is_digest" (defScope (inClass (top 9) 2)) s.heap.objs.size fa cdv)).units + 66 < cLine := hu_room (X := (cxOf CX0 P w K mg base N_p_hashing_Hasher_is_digest "Hasher.is_digest" (defScope (inClass (top 9) 2)) fa cdv A outer s H E).nox) hr
  have W := W.w tp
  exact (mss_cons (ms_ret (me_chn hK hu .le .lt me_int (me_v 1) (me_bin hK .shl me_int (me_att (W.wd hr rfl) 0 (me_v 0)))))
    mss_nil)
abbrev N_p_signing_digit_counts : List PySem.Str := ["width", "count", "check"]
theorem sc_p_signing_digit_counts : FnScope N_p_signing_digit_counts ["width"] (defScope (top 17)) := ⟨rfl, rfl, rfl, by decide +kernel, rfl, by decide +kernel, by decide +kernel⟩
theorem b_p_signing_digit_counts {k : Nat} (W : Wo K (C0 K) T.fo) (fr : Fr mg) (gc : Gc K mg) (wa : ∀ j, j ≤ k → Wl P w K mg base j) (tp : Hp) (b : Nat) (fa : Addr) (cdv : Value) (A : Around) (outer : List Env) (s : Shared) (H : Hp) (E : XK)
    (hr : Room k (A.deeper (envOfC "digit_counts" (defScope (top 17)) s.heap.objs.size fa cdv))) :
    MSs (cxOf CX0 P w K mg base N_p_signing_digit_counts "digit_counts" (defScope (top 17)) fa cdv A outer s H E).nox ((C0 K).w tp) (par T k b) (defBody (top 17)) f_p_signing_digit_counts.body := by
  have wl := wa k (Nat.le_refl _)
  have hK : ((C0 K).w tp).K = K := rfl
  have hN := sc_p_signing_digit_counts.nd
  have hu : (A.deeper (envOfC "digit_counts" (defScope (top 17)) s.heap.objs.size fa cdv)).units + 66 < cLine := hu_room (X := (cxOf CX0 P w K mg base N_p_signing_digit_counts "digit_counts" (defScope (top 17)) fa cdv A outer s H E).nox) hr
  have W := W.w tp
  exact (mss_cons (ms_set (k := 1) hN rfl (.inl rfl) (me_bin hK .fdiv (me_bin hK .add (me_v 0) me_int) me_int))
    (mss_cons (ms_set (k := 2) hN rfl (.inl rfl) me_int)
    (mss_cons (ms_whl PassesOwn.never (mt_cmp hK hu .ge (me_bin hK .mul (me_bin hK .sub (me_gint' gc.c_BASE) me_int) (me_v 1)) (me_bin hK .shl me_int (me_bin hK .mul me_int (me_v 2)))) (mss_cons (ms_aug (k := 2) .add rfl hN rfl (.inl rfl) me_int)
    mss_nil))
    (mss_cons (ms_ret (me_tup (ma_cons (me_v 1) (ma_cons (me_v 2) ma_nil))))
    mss_nil))))
abbrev N_p_signing_digits_of : List PySem.Str := ["width", "message", "count", "check", "digits", "rest", "k", "digit"]
theorem sc_p_signing_digits_of : FnScope N_p_signing_digits_of ["width", "message"] (defScope (top 18)) := ⟨rfl, rfl, rfl, by decide +kernel, rfl, by decide +kernel, by decide +kernel⟩
theorem b_p_signing_digits_of {k : Nat} (W : Wo K (C0 K) T.fo) (fr : Fr mg) (gc : Gc K mg) (wa : ∀ j, j ≤ k → Wl P w K mg base j) (tp : Hp) (b : Nat) (fa : Addr) (cdv : Value) (A : Around) (outer : List Env) (s : Shared) (H : Hp) (E : XK)
    (hr : Room k (A.deeper (envOfC "digits_of" (defScope (top 18)) s.heap.objs.size fa cdv))) :
    MSs (cxOf CX0 P w K mg base N_p_signing_digits_of "digits_of" (defScope (top 18)) fa cdv A outer s H E).nox ((C0 K).w tp) (par T k b) (defBody (top 18)) f_p_signing_digits_of.body := by
  have wl := wa k (Nat.le_refl _)
  have hK : ((C0 K).w tp).K = K := rfl
  have hN := sc_p_signing_digits_of.nd
  have hu : (A.deeper (envOfC "digits_of" (defScope (top 18)) s.heap.objs.size fa cdv)).units + 66 < cLine := hu_room (X := (cxOf CX0 P w K mg base N_p_signing_digits_of "digits_of" (defScope (top 18)) fa cdv A outer s H E).nox) hr
  have W := W.w tp
  exact (mss_cons (ms_unp (is := [2, 3]) hK rfl (me_call wl.p_signing_digit_counts hr rfl (ma_cons (me_v 0) ma_nil)) (pgs_cons' hN rfl (.inl rfl) (pgs_cons' hN rfl (.inl rfl) pgs_nil')))
    (mss_cons (ms_setlc (i := 4) false (par_stp T k b) hK rfl hN rfl rfl (nd_ints .r1 (by simp)) (mi_r1 rfl fr.range (me_v 2)) (blkOk_by (N := N_p_signing_digits_of) (sc := defScope (top 18)) (own := [("k", 6)]) (by decide +kernel)) rfl (fun _ _ _ _ _ => (mg_n hN rfl (.inl rfl))) (fun tp _ _ _ _ _ => mts_nil) (fun tp _ _ _ _ _ => (me_bin hK .band (me_bin hK .shr (me_v 1) (me_bin hK .mul me_int (me_v 6))) me_int)))
    (mss_cons (ms_set (k := 5) hN rfl (.inr rfl) (me_sum hK fr rfl (me_lc false (par_stp T k b) hK rfl hN nd_sq (mi_sq hK (me_v 4)) (blkOk_by (N := N_p_signing_digits_of) (sc := defScope (top 18)) (own := [("digit", 7)]) (by decide +kernel)) rfl (fun _ _ _ _ _ => (mg_n hN rfl (.inl rfl))) (fun tp _ _ _ _ _ => mts_nil) (fun tp _ _ _ _ _ => (me_bin hK .sub (me_bin hK .sub (me_gint' gc.c_BASE) me_int) (me_v 7))))))
    (mss_cons (ms_ret (me_bin hK .add (me_v 4) (me_lc false (par_stp T k b) hK rfl hN (nd_ints .r1 (by simp)) (mi_r1 rfl fr.range (me_v 3)) (blkOk_by (N := N_p_signing_digits_of) (sc := defScope (top 18)) (own := [("k", 6)]) (by decide +kernel)) rfl (fun _ _ _ _ _ => (mg_n hN rfl (.inl rfl))) (fun tp _ _ _ _ _ => mts_nil) (fun tp _ _ _ _ _ => (me_bin hK .band (me_bin hK .shr (me_v 5) (me_bin hK .mul me_int (me_v 6))) me_int)))))
    mss_nil))))
abbrev N_p_signing_stepped : List PySem.Str := ["hasher", "index", "chain", "word", "first", "last", "found", "step"]
theorem sc_p_signing_stepped : FnScope N_p_signing_stepped ["hasher", "index", "chain", "word", "first", "last"] (defScope (top 19)) := ⟨rfl, rfl, rfl, by decide +kernel, rfl, by decide +kernel, by decide +kernel⟩
theorem b_p_signing_stepped {k : Nat} (W : Wo K (C0 K) T.fo) (fr : Fr mg) (gc : Gc K mg) (wa : ∀ j, j ≤ k → Wl P w K mg base j) (tp : Hp) (b : Nat) (fa : Addr) (cdv : Value) (A : Around) (outer : List Env) (s : Shared) (H : Hp) (E : XK)
    (hr : Room k (A.deeper (envOfC "stepped" (defScope (top 19)) s.heap.objs.size fa cdv))) :
    MSs (cxOf CX0 P w K mg base N_p_signing_stepped "stepped" (defScope (top 19)) fa cdv A outer s H E).nox ((C0 K).w tp) (par T k b) (defBody (top 19)) f_p_signing_stepped.body := by
  have wl := wa k (Nat.le_refl _)
  have hK : ((C0 K).w tp).K = K := rfl
  have hN := sc_p_signing_stepped.nd
  have hu : (A.deeper (envOfC "stepped" (defScope (top 19)) s.heap.objs.size fa cdv)).units + 66 < cLine := hu_room (X := (cxOf CX0 P w K mg base N_p_signing_stepped "stepped" (defScope (top 19)) fa cdv A outer s H E).nox) hr
  have W := W.w tp
  exact (mss_cons (ms_set (k := 6) hN rfl (.inl rfl) (me_lst true (ma_cons (me_v 3) ma_nil)))
    (mss_cons (ms_for (par_stp T k b) hK PassesOwn.never rfl (mi_r2 rfl fr.range (me_v 4) (me_v 5)) (mg_n hN rfl (.inl rfl)) (mss_cons (ms_ex (me_append hK (me_v 6) (me_meth 2 wl.m_digest hr (me_v 0) (ma_cons (me_gint' gc.c_CHAIN) (ma_cons (me_tup (ma_cons (me_v 1) (ma_cons (me_v 2) (ma_cons (me_v 7) (ma_cons (me_idx hK hu (me_v 6) (me_neg me_int)) ma_nil))))) ma_nil)))))
    mss_nil) (nd_ints .r2 (by simp)))
    (mss_cons (ms_ret (me_v 6))
    mss_nil)))
abbrev N_p_signing_key_digest : List PySem.Str := ["hasher", "index", "tops"]
theorem sc_p_signing_key_digest : FnScope N_p_signing_key_digest ["hasher", "index", "tops"] (defScope (top 20)) := ⟨rfl, rfl, rfl, by decide +kernel, rfl, by decide +kernel, by decide +kernel⟩
theorem b_p_signing_key_digest {k : Nat} (W : Wo K (C0 K) T.fo) (fr : Fr mg) (gc : Gc K mg) (wa : ∀ j, j ≤ k → Wl P w K mg base j) (tp : Hp) (b : Nat) (fa : Addr) (cdv : Value) (A : Around) (outer : List Env) (s : Shared) (H : Hp) (E : XK)
    (hr : Room k (A.deeper (envOfC "key_digest" (defScope (top 20)) s.heap.objs.size fa cdv))) :
    MSs (cxOf CX0 P w K mg base N_p_signing_key_digest "key_digest" (defScope (top 20)) fa cdv A outer s H E).nox ((C0 K).w tp) (par T k b) (defBody (top 20)) f_p_signing_key_digest.body := by
  have wl := wa k (Nat.le_refl _)
  have hK : ((C0 K).w tp).K = K := rfl
  have hN := sc_p_signing_key_digest.nd
  have hu : (A.deeper (envOfC "key_digest" (defScope (top 20)) s.heap.objs.size fa cdv)).units + 66 < cLine := hu_room (X := (cxOf CX0 P w K mg base N_p_signing_key_digest "key_digest" (defScope (top 20)) fa cdv A outer s H E).nox) hr
  have W := W.w tp
  exact (mss_cons (ms_ret (me_meth 2 wl.m_digest hr (me_v 0) (ma_cons (me_gint' gc.c_KEY) (ma_cons (me_bin hK .add (me_lst false (ma_cons (me_v 1) ma_nil)) (me_list false hK fr rfl (me_v 2))) ma_nil))))
    mss_nil)
abbrev N_p_signing_Signer___init__ : List PySem.Str := ["self", "hasher", "secret", "levels", "level", "row", "pairs", "index", "k", "left", "right"]
theorem sc_p_signing_Signer___init__ : FnScope N_p_signing_Signer___init__ ["self", "hasher", "secret", "levels"] (defScope (inClass (top 21) 0)) := ⟨rfl, rfl, rfl, by decide +kernel, rfl, by decide +kernel, by decide +kernel⟩
theorem b_p_signing_Signer___init__ {k : Nat} (W : Wo K (C0 K) T.fo) (fr : Fr mg) (gc : Gc K mg) (wa : ∀ j, j ≤ k → Wl P w K mg base j) (tp : Hp) (b : Nat) (fa : Addr) (cdv : Value) (A : Around) (outer : List Env) (s : Shared) (H : Hp) (E : XK)
    (hr : Room k (A.deeper (envOfC "Signer.__init__" (defScope (inClass (top 21) 0)) s.heap.objs.size fa cdv))) :
    MSs (cxOf CX0 P w K mg base N_p_signing_Signer___init__ "Signer.__init__" (defScope (inClass (top 21) 0)) fa cdv A outer s H E).nox ((C0 K).w tp) (par T k b) (defBody (inClass (top 21) 0)) f_p_signing_Signer___init__.body := by
  have wl := wa k (Nat.le_refl _)
  have hK : ((C0 K).w tp).K = K := rfl
  have hN := sc_p_signing_Signer___init__.nd
  have hu : (A.deeper (envOfC "Signer.__init__" (defScope (inClass (top 21) 0)) s.heap.objs.size fa cdv)).units + 66 < cLine := hu_room (X := (cxOf CX0 P w K mg base N_p_signing_Signer___init__ "Signer.__init__" (defScope (inClass (top 21) 0)) fa cdv A outer s H E).nox) hr
  have W := W.w tp
  exact (mss_cons (ms_setf (W.wd hr rfl) 3 (me_v 1) (me_v 0))
    (mss_cons (ms_setf (W.wd hr rfl) 19 (me_v 2) (me_v 0))
    (mss_cons (ms_setf (W.wd hr rfl) 20 (me_v 3) (me_v 0))
    (mss_cons (ms_setf (W.wd hr rfl) 22 (me_lc false (par_stp T k b) hK rfl hN (nd_ints .r1 (by simp)) (mi_r1 rfl fr.range (me_bin hK .shl me_int (me_v 3))) (blkOk_by (N := N_p_signing_Signer___init__) (sc := defScope (inClass (top 21) 0)) (own := [("index", 7)]) (by decide +kernel)) rfl (fun _ _ _ _ _ => (mg_n hN rfl (.inl rfl))) (fun tp _ _ _ _ _ => mts_nil) (fun tp _ _ _ _ _ => (me_meth 21 wl.m_key_words hr (me_v 0) (ma_cons (me_v 7) ma_nil)))) (me_v 0))
    (mss_cons (ms_setf (W.wd hr rfl) 24 (me_lst true (ma_cons (me_lc false (par_stp T k b) hK rfl hN (nd_ints .r1 (by simp)) (mi_r1 rfl fr.range (me_bin hK .shl me_int (me_v 3))) (blkOk_by (N := N_p_signing_Signer___init__) (sc := defScope (inClass (top 21) 0)) (own := [("index", 7)]) (by decide +kernel)) rfl (fun _ _ _ _ _ => (mg_n hN rfl (.inl rfl))) (fun tp _ _ _ _ _ => mts_nil) (fun tp _ _ _ _ _ => (me_call wl.p_signing_key_digest hr rfl (ma_cons (me_v 1) (ma_cons (me_v 7) (ma_cons (me_meth 23 wl.m_tops hr (me_v 0) (ma_cons (me_v 7) ma_nil)) ma_nil)))))) ma_nil)) (me_v 0))
    (mss_cons (ms_for (par_stp T k b) hK PassesOwn.never rfl (mi_r1 rfl fr.range (me_v 3)) (mg_n hN rfl (.inr rfl)) (mss_cons (ms_set (k := 5) hN rfl (.inr rfl) (me_idx hK hu (me_att (W.wd hr rfl) 24 (me_v 0)) (me_neg me_int)))
    (mss_cons (ms_setlc (i := 6) false (par_stp T k b) hK rfl hN rfl rfl (nd_ints .r3 (by simp)) (mi_r3 rfl fr.range me_int (me_len hK fr (me_v 5)) me_int) (blkOk_by (N := N_p_signing_Signer___init__) (sc := defScope (inClass (top 21) 0)) (own := [("k", 8)]) (by decide +kernel)) rfl (fun _ _ _ _ _ => (mg_n hN rfl (.inl rfl))) (fun tp _ _ _ _ _ => mts_nil) (fun tp _ _ _ _ _ => (me_tup (ma_cons (me_idx hK hu (me_v 5) (me_v 8)) (ma_cons (me_idx hK hu (me_v 5) (me_bin hK .add (me_v 8) me_int)) ma_nil)))))
    (mss_cons (ms_ex (me_append hK (me_att (W.wd hr rfl) 24 (me_v 0)) (me_lc false (par_stp T k b) hK rfl hN nd_sq (mi_sq hK (me_v 6)) (blkOk_by (N := N_p_signing_Signer___init__) (sc := defScope (inClass (top 21) 0)) (own := [("left", 9), ("right", 10)]) (by decide +kernel)) rfl (fun _ _ _ _ _ => (mg_t rfl (mgs_cons (mg_n hN rfl (.inl rfl)) (mgs_cons (mg_n hN rfl (.inl rfl)) mgs_nil)))) (fun tp _ _ _ _ _ => mts_nil) (fun tp _ _ _ _ _ => (me_meth 2 wl.m_digest hr (me_v 1) (ma_cons (me_gint' gc.c_TREE) (ma_cons (me_tup (ma_cons (me_v 4) (ma_cons (me_v 9) (ma_cons (me_v 10) ma_nil)))) ma_nil)))))))
    mss_nil))) (nd_ints .r1 (by simp)))
    (mss_cons (ms_setf (W.wd hr rfl) 25 (me_meth 2 wl.m_digest hr (me_v 1) (ma_cons (me_gint' gc.c_TREE) (ma_cons (me_tup (ma_cons (me_v 3) (ma_cons (me_idx hK hu (me_idx hK hu (me_att (W.wd hr rfl) 24 (me_v 0)) (me_neg me_int)) me_int) ma_nil))) ma_nil))) (me_v 0))
    mss_nil)))))))
abbrev N_p_signing_Signer_chains : List PySem.Str := ["self"]
theorem sc_p_signing_Signer_chains : FnScope N_p_signing_Signer_chains ["self"] (defScope (inClass (top 21) 1)) := ⟨rfl, rfl, rfl, by decide +kernel, rfl, by decide +kernel, by decide +kernel⟩
theorem b_p_signing_Signer_chains {k : Nat} (W : Wo K (C0 K) T.fo) (fr : Fr mg) (gc : Gc K mg) (wa : ∀ j, j ≤ k → Wl P w K mg base j) (tp : Hp) (b : Nat) (fa : Addr) (cdv : Value) (A : Around) (outer : List Env) (s : Shared) (H : Hp) (E : XK)
    (hr : Room k (A.deeper (envOfC "Signer.chains" (defScope (inClass (top 21) 1)) s.heap.objs.size fa cdv))) :
    MSs (cxOf CX0 P w K mg base N_p_signing_Signer_chains "Signer.chains" (defScope (inClass (top 21) 1)) fa cdv A outer s H E).nox ((C0 K).w tp) (par T k b) (defBody (inClass (top 21) 1)) f_p_signing_Signer_chains.body := by
  have wl := wa k (Nat.le_refl _)
  have hK : ((C0 K).w tp).K = K := rfl
  have hN := sc_p_signing_Signer_chains.nd
  have hu : (A.deeper (envOfC "Signer.chains" (defScope (inClass (top 21) 1)) s.heap.objs.size fa cdv)).units + 66 < cLine := hu_room (X := (cxOf CX0 P w K mg base N_p_signing_Signer_chains "Signer.chains" (defScope (inClass (top 21) 1)) fa cdv A outer s H E).nox) hr
  have W := W.w tp
  exact (mss_cons (ms_ret (me_sum hK fr rfl (me_call wl.p_signing_digit_counts hr rfl (ma_cons (me_att (W.wd hr rfl) 0 (me_att (W.wd hr rfl) 3 (me_v 0))) ma_nil))))
    mss_nil)
abbrev N_p_signing_Signer_key_words : List PySem.Str := ["self", "index", "found", "chain", "first"]
theorem sc_p_signing_Signer_key_words : FnScope N_p_signing_Signer_key_words ["self", "index"] (defScope (inClass (top 21) 2)) := ⟨rfl, rfl, rfl, by decide +kernel, rfl, by decide +kernel, by decide +kernel⟩
theorem b_p_signing_Signer_key_words {k : Nat} (W : Wo K (C0 K) T.fo) (fr : Fr mg) (gc : Gc K mg) (wa : ∀ j, j ≤ k → Wl P w K mg base j) (tp : Hp) (b : Nat) (fa : Addr) (cdv : Value) (A : Around) (outer : List Env) (s : Shared) (H : Hp) (E : XK)
    (hr : Room k (A.deeper (envOfC "Signer.key_words" (defScope (inClass (top 21) 2)) s.heap.objs.size fa cdv))) :
    MSs (cxOf CX0 P w K mg base N_p_signing_Signer_key_words "Signer.key_words" (defScope (inClass (top 21) 2)) fa cdv A outer s H E).nox ((C0 K).w tp) (par T k b) (defBody (inClass (top 21) 2)) f_p_signing_Signer_key_words.body := by
  have wl := wa k (Nat.le_refl _)
  have hK : ((C0 K).w tp).K = K := rfl
  have hN := sc_p_signing_Signer_key_words.nd
  have hu : (A.deeper (envOfC "Signer.key_words" (defScope (inClass (top 21) 2)) s.heap.objs.size fa cdv)).units + 66 < cLine := hu_room (X := (cxOf CX0 P w K mg base N_p_signing_Signer_key_words "Signer.key_words" (defScope (inClass (top 21) 2)) fa cdv A outer s H E).nox) hr
  have W := W.w tp
  exact (mss_cons (ms_set (k := 2) hN rfl (.inl rfl) (me_lst true ma_nil))
    (mss_cons (ms_for (par_stp T k b) hK PassesOwn.never rfl (mi_r1 rfl fr.range (me_meth0 26 wl.m_chains hr (me_v 0))) (mg_n hN rfl (.inl rfl)) (mss_cons (ms_set (k := 4) hN rfl (.inl rfl) (me_meth 2 wl.m_digest hr (me_att (W.wd hr rfl) 3 (me_v 0)) (ma_cons (me_gint' gc.c_SECRET) (ma_cons (me_tup (ma_cons (me_att (W.wd hr rfl) 19 (me_v 0)) (ma_cons (me_v 1) (ma_cons (me_v 3) ma_nil)))) ma_nil))))
    (mss_cons (ms_ex (me_append hK (me_v 2) (me_call wl.p_signing_stepped hr rfl (ma_cons (me_att (W.wd hr rfl) 3 (me_v 0)) (ma_cons (me_v 1) (ma_cons (me_v 3) (ma_cons (me_v 4) (ma_cons me_int (ma_cons (me_bin hK .sub (me_gint' gc.c_BASE) me_int) ma_nil)))))))))
    mss_nil)) (nd_ints .r1 (by simp)))
    (mss_cons (ms_ret (me_v 2))
    mss_nil)))
abbrev N_p_signing_Signer_word : List PySem.Str := ["self", "index", "chain", "step"]
theorem sc_p_signing_Signer_word : FnScope N_p_signing_Signer_word ["self", "index", "chain", "step"] (defScope (inClass (top 21) 3)) := ⟨rfl, rfl, rfl, by decide +kernel, rfl, by decide +kernel, by decide +kernel⟩
theorem b_p_signing_Signer_word {k : Nat} (W : Wo K (C0 K) T.fo) (fr : Fr mg) (gc : Gc K mg) (wa : ∀ j, j ≤ k → Wl P w K mg base j) (tp : Hp) (b : Nat) (fa : Addr) (cdv : Value) (A : Around) (outer : List Env) (s : Shared) (H : Hp) (E : XK)
    (hr : Room k (A.deeper (envOfC "Signer.word" (defScope (inClass (top 21) 3)) s.heap.objs.size fa cdv))) :
    MSs (cxOf CX0 P w K mg base N_p_signing_Signer_word "Signer.word" (defScope (inClass (top 21) 3)) fa cdv A outer s H E).nox ((C0 K).w tp) (par T k b) (defBody (inClass (top 21) 3)) f_p_signing_Signer_word.body := by
  have wl := wa k (Nat.le_refl _)
  have hK : ((C0 K).w tp).K = K := rfl
  have hN := sc_p_signing_Signer_word.nd
  have hu : (A.deeper (envOfC "Signer.word" (defScope (inClass (top 21) 3)) s.heap.objs.size fa cdv)).units + 66 < cLine := hu_room (X := (cxOf CX0 P w K mg base N_p_signing_Signer_word "Signer.word" (defScope (inClass (top 21) 3)) fa cdv A outer s H E).nox) hr
  have W := W.w tp
  exact (mss_cons (ms_ret (me_idx hK hu (me_idx hK hu (me_idx hK hu (me_att (W.wd hr rfl) 22 (me_v 0)) (me_v 1)) (me_v 2)) (me_v 3)))
    mss_nil)
abbrev N_p_signing_Signer_tops : List PySem.Str := ["self", "index", "chain"]
theorem sc_p_signing_Signer_tops : FnScope N_p_signing_Signer_tops ["self", "index"] (defScope (inClass (top 21) 4)) := ⟨rfl, rfl, rfl, by decide +kernel, rfl, by decide +kernel, by decide +kernel⟩
theorem b_p_signing_Signer_tops {k : Nat} (W : Wo K (C0 K) T.fo) (fr : Fr mg) (gc : Gc K mg) (wa : ∀ j, j ≤ k → Wl P w K mg base j) (tp : Hp) (b : Nat) (fa : Addr) (cdv : Value) (A : Around) (outer : List Env) (s : Shared) (H : Hp) (E : XK)
    (hr : Room k (A.deeper (envOfC "Signer.tops" (defScope (inClass (top 21) 4)) s.heap.objs.size fa cdv))) :
    MSs (cxOf CX0 P w K mg base N_p_signing_Signer_tops "Signer.tops" (defScope (inClass (top 21) 4)) fa cdv A outer s H E).nox ((C0 K).w tp) (par T k b) (defBody (inClass (top 21) 4)) f_p_signing_Signer_tops.body := by
  have wl := wa k (Nat.le_refl _)
  have hK : ((C0 K).w tp).K = K := rfl
  have hN := sc_p_signing_Signer_tops.nd
  have hu : (A.deeper (envOfC "Signer.tops" (defScope (inClass (top 21) 4)) s.heap.objs.size fa cdv)).units + 66 < cLine := hu_room (X := (cxOf CX0 P w K mg base N_p_signing_Signer_tops "Signer.tops" (defScope (inClass (top 21) 4)) fa cdv A outer s H E).nox) hr
  have W := W.w tp
  exact (mss_cons (ms_ret (me_lc false (par_stp T k b) hK rfl hN (nd_ints .r1 (by simp)) (mi_r1 rfl fr.range (me_meth0 26 wl.m_chains hr (me_v 0))) (blkOk_by (N := N_p_signing_Signer_tops) (sc := defScope (inClass (top 21) 4)) (own := [("chain", 2)]) (by decide +kernel)) rfl (fun _ _ _ _ _ => (mg_n hN rfl (.inl rfl))) (fun tp _ _ _ _ _ => mts_nil) (fun tp _ _ _ _ _ => (me_meth 27 wl.m_word hr (me_v 0) (ma_cons (me_v 1) (ma_cons (me_v 2) (ma_cons (me_bin hK .sub (me_gint' gc.c_BASE) me_int) ma_nil)))))))
    mss_nil)
abbrev N_p_signing_Signer_path : List PySem.Str := ["self", "index", "level"]
theorem sc_p_signing_Signer_path : FnScope N_p_signing_Signer_path ["self", "index"] (defScope (inClass (top 21) 5)) := ⟨rfl, rfl, rfl, by decide +kernel, rfl, by decide +kernel, by decide +kernel⟩
theorem b_p_signing_Signer_path {k : Nat} (W : Wo K (C0 K) T.fo) (fr : Fr mg) (gc : Gc K mg) (wa : ∀ j, j ≤ k → Wl P w K mg base j) (tp : Hp) (b : Nat) (fa : Addr) (cdv : Value) (A : Around) (outer : List Env) (s : Shared) (H : Hp) (E : XK)
    (hr : Room k (A.deeper (envOfC "Signer.path" (defScope (inClass (top 21) 5)) s.heap.objs.size fa cdv))) :
    MSs (cxOf CX0 P w K mg base N_p_signing_Signer_path "Signer.path" (defScope (inClass (top 21) 5)) fa cdv A outer s H E).nox ((C0 K).w tp) (par T k b) (defBody (inClass (top 21) 5)) f_p_signing_Signer_path.body := by
  have wl := wa k (Nat.le_refl _)
  have hK : ((C0 K).w tp).K = K := rfl
  have hN := sc_p_signing_Signer_path.nd
  have hu : (A.deeper (envOfC "Signer.path" (defScope (inClass (top 21) 5)) s.heap.objs.size fa cdv)).units + 66 < cLine := hu_room (X := (cxOf CX0 P w K mg base N_p_signing_Signer_path "Signer.path" (defScope (inClass (top 21) 5)) fa cdv A outer s H E).nox) hr
  have W := W.w tp
  exact (mss_cons (ms_ret (me_lc false (par_stp T k b) hK rfl hN (nd_ints .r1 (by simp)) (mi_r1 rfl fr.range (me_att (W.wd hr rfl) 20 (me_v 0))) (blkOk_by (N := N_p_signing_Signer_path) (sc := defScope (inClass (top 21) 5)) (own := [("level", 2)]) (by decide +kernel)) rfl (fun _ _ _ _ _ => (mg_n hN rfl (.inl rfl))) (fun tp _ _ _ _ _ => mts_nil) (fun tp _ _ _ _ _ => (me_idx hK hu (me_idx hK hu (me_att ((W.w tp).wd hr rfl) 24 (me_v 0)) (me_v 2)) (me_bin hK .xor (me_bin hK .shr (me_v 1) (me_v 2)) me_int)))))
    mss_nil)
abbrev N_p_signing_Signer_sign : List PySem.Str := ["self", "index", "message", "digits", "words", "chain"]
theorem sc_p_signing_Signer_sign : FnScope N_p_signing_Signer_sign ["self", "index", "message"] (defScope (inClass (top 21) 6)) := ⟨rfl, rfl, rfl, by decide +kernel, rfl, by decide +kernel, by decide +kernel⟩
theorem b_p_signing_Signer_sign {k : Nat} (W : Wo K (C0 K) T.fo) (fr : Fr mg) (gc : Gc K mg) (wa : ∀ j, j ≤ k → Wl P w K mg base j) (tp : Hp) (b : Nat) (fa : Addr) (cdv : Value) (A : Around) (outer : List Env) (s : Shared) (H : Hp) (E : XK)
    (hr : Room k (A.deeper (envOfC "Signer.sign" (defScope (inClass (top 21) 6)) s.heap.objs.size fa cdv))) :
    MSs (cxOf CX0 P w K mg base N_p_signing_Signer_sign "Signer.sign" (defScope (inClass (top 21) 6)) fa cdv A outer s H E).nox ((C0 K).w tp) (par T k b) (defBody (inClass (top 21) 6)) f_p_signing_Signer_sign.body := by
  have wl := wa k (Nat.le_refl _)
  have hK : ((C0 K).w tp).K = K := rfl
  have hN := sc_p_signing_Signer_sign.nd
  have hu : (A.deeper (envOfC "Signer.sign" (defScope (inClass (top 21) 6)) s.heap.objs.size fa cdv)).units + 66 < cLine := hu_room (X := (cxOf CX0 P w K mg base N_p_signing_Signer_sign "Signer.sign" (defScope (inClass (top 21) 6)) fa cdv A outer s H E).nox) hr
  have W := W.w tp
  exact (mss_cons (ms_set (k := 3) hN rfl (.inr rfl) (me_call wl.p_signing_digits_of hr rfl (ma_cons (me_att (W.wd hr rfl) 0 (me_att (W.wd hr rfl) 3 (me_v 0))) (ma_cons (me_v 2) ma_nil))))
    (mss_cons (ms_setlc (i := 4) false (par_stp T k b) hK rfl hN rfl rfl (nd_ints .r1 (by simp)) (mi_r1 rfl fr.range (me_len hK fr (me_v 3))) (blkOk_by (N := N_p_signing_Signer_sign) (sc := defScope (inClass (top 21) 6)) (own := [("chain", 5)]) (by decide +kernel)) rfl (fun _ _ _ _ _ => (mg_n hN rfl (.inl rfl))) (fun tp _ _ _ _ _ => mts_nil) (fun tp _ _ _ _ _ => (me_meth 27 wl.m_word hr (me_v 0) (ma_cons (me_v 1) (ma_cons (me_v 5) (ma_cons (me_idx hK hu (me_v 3) (me_v 5)) ma_nil))))))
    (mss_cons (ms_ret (me_tuple hK fr (me_bin hK .add (me_bin hK .add (me_lst false (ma_cons (me_v 1) ma_nil)) (me_v 4)) (me_meth 28 wl.m_path hr (me_v 0) (ma_cons (me_v 1) ma_nil)))))
    mss_nil)))
abbrev N_p_signing_levels_of : List PySem.Str := ["hasher", "signature", "levels", "word"]
theorem sc_p_signing_levels_of : FnScope N_p_signing_levels_of ["hasher", "signature"] (defScope (top 22)) := ⟨rfl, rfl, rfl, by decide +kernel, rfl, by decide +kernel, by decide +kernel⟩
theorem b_p_signing_levels_of {k : Nat} (W : Wo K (C0 K) T.fo) (fr : Fr mg) (gc : Gc K mg) (wa : ∀ j, j ≤ k → Wl P w K mg base j) (tp : Hp) (b : Nat) (fa : Addr) (cdv : Value) (A : Around) (outer : List Env) (s : Shared) (H : Hp) (E : XK)
    (hr : Room k (A.deeper (envOfC "levels_of" (defScope (top 22)) s.heap.objs.size fa cdv))) :
    MSs (cxOf CX0 P w K mg base N_p_signing_levels_of "levels_of" (defScope (top 22)) fa cdv A outer s H E).nox ((C0 K).w tp) (par T k b) (defBody (top 22)) f_p_signing_levels_of.body := by
  have wl := wa k (Nat.le_refl _)
  have hK : ((C0 K).w tp).K = K := rfl
  have hN := sc_p_signing_levels_of.nd
  have hu : (A.deeper (envOfC "levels_of" (defScope (top 22)) s.heap.objs.size fa cdv)).units + 66 < cLine := hu_room (X := (cxOf CX0 P w K mg base N_p_signing_levels_of "levels_of" (defScope (top 22)) fa cdv A outer s H E).nox) hr
  have W := W.w tp
  exact (mss_cons (ms_set (k := 2) hN rfl (.inl rfl) (me_bin hK .sub (me_bin hK .sub (me_len hK fr (me_v 1)) me_int) (me_sum hK fr rfl (me_call wl.p_signing_digit_counts hr rfl (ma_cons (me_att (W.wd hr rfl) 0 (me_v 0)) ma_nil)))))
    (mss_cons (ms_iff (MW.t (mw_or hK (mt_not (mt_chn hK hu .le .le me_int (me_v 2) (me_gint' gc.c_MOST_LEVELS))) (me_not hK (me_chn hK hu .le .le me_int (me_v 2) (me_gint' gc.c_MOST_LEVELS))) (mw_or1 (mt_not (mt_chn hK hu .le .lt me_int (me_idx hK hu (me_v 1) me_int) (me_bin hK .shl me_int (me_v 2)))) (me_not hK (me_chn hK hu .le .lt me_int (me_idx hK hu (me_v 1) me_int) (me_bin hK .shl me_int (me_v 2))))))) (mss_cons (ms_ret me_non)
    mss_nil) mss_nil)
    (mss_cons (ms_iff (mt_not (mt_v hK (me_all hK fr rfl (me_lc false (par_stp T k b) hK rfl hN nd_sq (mi_sq hK (me_slc hK (me_v 1) (mo_some me_int) mo_none)) (blkOk_by (N := N_p_signing_levels_of) (sc := defScope (top 22)) (own := [("word", 3)]) (by decide +kernel)) rfl (fun _ _ _ _ _ => (mg_n hN rfl (.inl rfl))) (fun tp _ _ _ _ _ => mts_nil) (fun tp _ _ _ _ _ => (me_meth 1 wl.m_is_digest hr (me_v 0) (ma_cons (me_v 3) ma_nil))))))) (mss_cons (ms_ret me_non)
    mss_nil) mss_nil)
    (mss_cons (ms_ret (me_v 2))
    mss_nil))))
abbrev N_p_signing_inputs_of : List PySem.Str := ["hasher", "message", "signature", "index", "digits", "words", "tops", "found", "path", "level", "digest", "both", "k"]
theorem sc_p_signing_inputs_of : FnScope N_p_signing_inputs_of ["hasher", "message", "signature"] (defScope (top 23)) := ⟨rfl, rfl, rfl, by decide +kernel, rfl, by decide +kernel, by decide +kernel⟩
theorem b_p_signing_inputs_of {k : Nat} (W : Wo K (C0 K) T.fo) (fr : Fr mg) (gc : Gc K mg) (wa : ∀ j, j ≤ k → Wl P w K mg base j) (tp : Hp) (b : Nat) (fa : Addr) (cdv : Value) (A : Around) (outer : List Env) (s : Shared) (H : Hp) (E : XK)
    (hr : Room k (A.deeper (envOfC "inputs_of" (defScope (top 23)) s.heap.objs.size fa cdv))) :
    MSs (cxOf CX0 P w K mg base N_p_signing_inputs_of "inputs_of" (defScope (top 23)) fa cdv A outer s H E).nox ((C0 K).w tp) (par T k b) (defBody (top 23)) f_p_signing_inputs_of.body := by
  have wl := wa k (Nat.le_refl _)
  have hK : ((C0 K).w tp).K = K := rfl
  have hN := sc_p_signing_inputs_of.nd
  have hu : (A.deeper (envOfC "inputs_of" (defScope (top 23)) s.heap.objs.size fa cdv)).units + 66 < cLine := hu_room (X := (cxOf CX0 P w K mg base N_p_signing_inputs_of "inputs_of" (defScope (top 23)) fa cdv A outer s H E).nox) hr
  have W := W.w tp
  exact (mss_cons (ms_set (k := 3) hN rfl (.inr rfl) (me_idx hK hu (me_v 2) me_int))
    (mss_cons (ms_set (k := 4) hN rfl (.inr rfl) (me_call wl.p_signing_digits_of hr rfl (ma_cons (me_att (W.wd hr rfl) 0 (me_v 0)) (ma_cons (me_v 1) ma_nil))))
    (mss_cons (ms_set (k := 5) hN rfl (.inr rfl) (me_slc hK (me_v 2) (mo_some me_int) (mo_some (me_bin hK .add (me_len hK fr (me_v 4)) me_int))))
    (mss_cons (ms_setlc (i := 6) false (par_stp T k b) hK rfl hN rfl rfl (nd_ints .r1 (by simp)) (mi_r1 rfl fr.range (me_len hK fr (me_v 4))) (blkOk_by (N := N_p_signing_inputs_of) (sc := defScope (top 23)) (own := [("k", 12)]) (by decide +kernel)) rfl (fun _ _ _ _ _ => (mg_n hN rfl (.inl rfl))) (fun tp _ _ _ _ _ => mts_nil) (fun tp _ _ _ _ _ => (me_idx hK hu (me_call wl.p_signing_stepped hr rfl (ma_cons (me_v 0) (ma_cons (me_v 3) (ma_cons (me_v 12) (ma_cons (me_idx hK hu (me_v 5) (me_v 12)) (ma_cons (me_idx hK hu (me_v 4) (me_v 12)) (ma_cons (me_bin hK .sub (me_gint' gc.c_BASE) me_int) ma_nil))))))) (me_neg me_int))))
    (mss_cons (ms_set (k := 7) hN rfl (.inl rfl) (me_lst true (ma_cons (me_tup (ma_cons (me_gint' gc.c_KEY) (ma_cons (me_tuple hK fr (me_bin hK .add (me_lst false (ma_cons (me_v 3) ma_nil)) (me_v 6))) ma_nil))) ma_nil)))
    (mss_cons (ms_set (k := 8) hN rfl (.inl rfl) (me_slc hK (me_v 2) (mo_some (me_bin hK .add (me_len hK fr (me_v 4)) me_int)) mo_none))
    (mss_cons (ms_for (par_stp T k b) hK PassesOwn.never rfl (mi_r1 rfl fr.range (me_len hK fr (me_v 8))) (mg_n hN rfl (.inl rfl)) (mss_cons (ms_set (k := 10) hN rfl (.inl rfl) (me_meth 2 wl.m_digest hr (me_v 0) (ma_cons (me_idx hK hu (me_idx hK hu (me_v 7) (me_neg me_int)) me_int) (ma_cons (me_idx hK hu (me_idx hK hu (me_v 7) (me_neg me_int)) me_int) ma_nil))))
    (mss_cons (ms_set (k := 11) hN rfl (.inl rfl) (me_ite (mt_cmp hK hu .eq (me_bin hK .band (me_bin hK .shr (me_v 3) (me_v 9)) me_int) me_int) (me_tup (ma_cons (me_v 10) (ma_cons (me_idx hK hu (me_v 8) (me_v 9)) ma_nil))) (me_tup (ma_cons (me_idx hK hu (me_v 8) (me_v 9)) (ma_cons (me_v 10) ma_nil)))))
    (mss_cons (ms_ex (me_append hK (me_v 7) (me_tup (ma_cons (me_gint' gc.c_TREE) (ma_cons (me_bin hK .add (me_tup (ma_cons (me_v 9) ma_nil)) (me_v 11)) ma_nil)))))
    mss_nil))) (nd_ints .r1 (by simp)))
    (mss_cons (ms_set (k := 10) hN rfl (.inl rfl) (me_meth 2 wl.m_digest hr (me_v 0) (ma_cons (me_idx hK hu (me_idx hK hu (me_v 7) (me_neg me_int)) me_int) (ma_cons (me_idx hK hu (me_idx hK hu (me_v 7) (me_neg me_int)) me_int) ma_nil))))
    (mss_cons (ms_ret (me_bin hK .add (me_v 7) (me_lst false (ma_cons (me_tup (ma_cons (me_gint' gc.c_TREE) (ma_cons (me_tup (ma_cons (me_len hK fr (me_v 8)) (ma_cons (me_v 10) ma_nil))) ma_nil))) ma_nil))))
    mss_nil)))))))))
abbrev N_p_signing_verify : List PySem.Str := ["hasher", "public", "message", "signature", "tag", "numbers"]
theorem sc_p_signing_verify : FnScope N_p_signing_verify ["hasher", "public", "message", "signature"] (defScope (top 24)) := ⟨rfl, rfl, rfl, by decide +kernel, rfl, by decide +kernel, by decide +kernel⟩
theorem b_p_signing_verify {k : Nat} (W : Wo K (C0 K) T.fo) (fr : Fr mg) (gc : Gc K mg) (wa : ∀ j, j ≤ k → Wl P w K mg base j) (tp : Hp) (b : Nat) (fa : Addr) (cdv : Value) (A : Around) (outer : List Env) (s : Shared) (H : Hp) (E : XK)
    (hr : Room k (A.deeper (envOfC "verify" (defScope (top 24)) s.heap.objs.size fa cdv))) :
    MSs (cxOf CX0 P w K mg base N_p_signing_verify "verify" (defScope (top 24)) fa cdv A outer s H E).nox ((C0 K).w tp) (par T k b) (defBody (top 24)) f_p_signing_verify.body := by
  have wl := wa k (Nat.le_refl _)
  have hK : ((C0 K).w tp).K = K := rfl
  have hN := sc_p_signing_verify.nd
  have hu : (A.deeper (envOfC "verify" (defScope (top 24)) s.heap.objs.size fa cdv)).units + 66 < cLine := hu_room (X := (cxOf CX0 P w K mg base N_p_signing_verify "verify" (defScope (top 24)) fa cdv A outer s H E).nox) hr
  have W := W.w tp
  exact (mss_cons (ms_iff (mt_cmp hK hu .is (me_call wl.p_signing_levels_of hr rfl (ma_cons (me_v 0) (ma_cons (me_v 3) ma_nil))) me_non) (mss_cons (ms_ret me_bl)
    mss_nil) mss_nil)
    (mss_cons (ms_unp (is := [4, 5]) hK rfl (me_idx hK hu (me_call wl.p_signing_inputs_of hr rfl (ma_cons (me_v 0) (ma_cons (me_v 2) (ma_cons (me_v 3) ma_nil)))) (me_neg me_int)) (pgs_cons' hN rfl (.inl rfl) (pgs_cons' hN rfl (.inl rfl) pgs_nil')))
    (mss_cons (ms_ret (me_cmp hK hu .eq (me_meth 2 wl.m_digest hr (me_v 0) (ma_cons (me_v 4) (ma_cons (me_v 5) ma_nil))) (me_v 1)))
    mss_nil)))
abbrev N_p_validators_members_fault : List PySem.Str := ["members", "publics", "public", "weight", "k"]
theorem sc_p_validators_members_fault : FnScope N_p_validators_members_fault ["members"] (defScope (top 29)) := ⟨rfl, rfl, rfl, by decide +kernel, rfl, by decide +kernel, by decide +kernel⟩
theorem b_p_validators_members_fault {k : Nat} (W : Wo K (C0 K) T.fo) (fr : Fr mg) (gc : Gc K mg) (wa : ∀ j, j ≤ k → Wl P w K mg base j) (tp : Hp) (b : Nat) (fa : Addr) (cdv : Value) (A : Around) (outer : List Env) (s : Shared) (H : Hp) (E : XK)
    (hr : Room k (A.deeper (envOfC "members_fault" (defScope (top 29)) s.heap.objs.size fa cdv))) :
    MSs (cxOf CX0 P w K mg base N_p_validators_members_fault "members_fault" (defScope (top 29)) fa cdv A outer s H E).nox ((C0 K).w tp) (par T k b) (defBody (top 29)) f_p_validators_members_fault.body := by
  have wl := wa k (Nat.le_refl _)
  have hK : ((C0 K).w tp).K = K := rfl
  have hN := sc_p_validators_members_fault.nd
  have hu : (A.deeper (envOfC "members_fault" (defScope (top 29)) s.heap.objs.size fa cdv)).units + 66 < cLine := hu_room (X := (cxOf CX0 P w K mg base N_p_validators_members_fault "members_fault" (defScope (top 29)) fa cdv A outer s H E).nox) hr
  have W := W.w tp
  exact (mss_cons (ms_iff (mt_not (mt_chn hK hu .le .le me_int (me_len hK fr (me_v 0)) (me_gint' gc.c_MOST_MEMBERS))) (mss_cons (ms_ret (me_str 4))
    mss_nil) mss_nil)
    (mss_cons (ms_set (k := 1) hN rfl (.inr rfl) (me_lc false (par_stp T k b) hK rfl hN nd_sq (mi_sq hK (me_v 0)) (blkOk_by (N := N_p_validators_members_fault) (sc := defScope (top 29)) (own := [("public", 2), ("weight", 3)]) (by decide +kernel)) rfl (fun _ _ _ _ _ => (mg_t rfl (mgs_cons (mg_n hN rfl (.inl rfl)) (mgs_cons (mg_n hN rfl (.inl rfl)) mgs_nil)))) (fun tp _ _ _ _ _ => mts_nil) (fun tp _ _ _ _ _ => (me_v 2))))
    (mss_cons (ms_iff (MW.t (mw_or hK (mt_cmp hK hu .lt (me_min1 hK fr rfl (me_v 1)) me_int) (me_cmp hK hu .lt (me_min1 hK fr rfl (me_v 1)) me_int) (mw_or1 (mt_v hK (me_any hK fr rfl (me_lc false (par_stp T k b) hK rfl hN (nd_ints .r1 (by simp)) (mi_r1 rfl fr.range (me_bin hK .sub (me_len hK fr (me_v 1)) me_int)) (blkOk_by (N := N_p_validators_members_fault) (sc := defScope (top 29)) (own := [("k", 4)]) (by decide +kernel)) rfl (fun _ _ _ _ _ => (mg_n hN rfl (.inl rfl))) (fun tp _ _ _ _ _ => mts_nil) (fun tp _ _ _ _ _ => (me_cmp hK hu .ge (me_idx hK hu (me_v 1) (me_v 4)) (me_idx hK hu (me_v 1) (me_bin hK .add (me_v 4) me_int))))))) (me_any hK fr rfl (me_lc false (par_stp T k b) hK rfl hN (nd_ints .r1 (by simp)) (mi_r1 rfl fr.range (me_bin hK .sub (me_len hK fr (me_v 1)) me_int)) (blkOk_by (N := N_p_validators_members_fault) (sc := defScope (top 29)) (own := [("k", 4)]) (by decide +kernel)) rfl (fun _ _ _ _ _ => (mg_n hN rfl (.inl rfl))) (fun tp _ _ _ _ _ => mts_nil) (fun tp _ _ _ _ _ => (me_cmp hK hu .ge (me_idx hK hu (me_v 1) (me_v 4)) (me_idx hK hu (me_v 1) (me_bin hK .add (me_v 4) me_int))))))))) (mss_cons (ms_ret (me_str 7))
    mss_nil) mss_nil)
    (mss_cons (ms_iff (mt_not (mt_v hK (me_all hK fr rfl (me_lc false (par_stp T k b) hK rfl hN nd_sq (mi_sq hK (me_v 0)) (blkOk_by (N := N_p_validators_members_fault) (sc := defScope (top 29)) (own := [("public", 2), ("weight", 3)]) (by decide +kernel)) rfl (fun _ _ _ _ _ => (mg_t rfl (mgs_cons (mg_n hN rfl (.inl rfl)) (mgs_cons (mg_n hN rfl (.inl rfl)) mgs_nil)))) (fun tp _ _ _ _ _ => mts_nil) (fun tp _ _ _ _ _ => (me_chn hK hu .le .le me_int (me_v 3) (me_gint' gc.c_MOST_WEIGHT))))))) (mss_cons (ms_ret (me_str 8))
    mss_nil) mss_nil)
    (mss_cons (ms_ret me_non)
    mss_nil)))))
abbrev N_p_validators_members_numbers : List PySem.Str := ["members", "found", "public", "weight"]
theorem sc_p_validators_members_numbers : FnScope N_p_validators_members_numbers ["members"] (defScope (top 30)) := ⟨rfl, rfl, rfl, by decide +kernel, rfl, by decide +kernel, by decide +kernel⟩
theorem b_p_validators_members_numbers {k : Nat} (W : Wo K (C0 K) T.fo) (fr : Fr mg) (gc : Gc K mg) (wa : ∀ j, j ≤ k → Wl P w K mg base j) (tp : Hp) (b : Nat) (fa : Addr) (cdv : Value) (A : Around) (outer : List Env) (s : Shared) (H : Hp) (E : XK)
    (hr : Room k (A.deeper (envOfC "members_numbers" (defScope (top 30)) s.heap.objs.size fa cdv))) :
    MSs (cxOf CX0 P w K mg base N_p_validators_members_numbers "members_numbers" (defScope (top 30)) fa cdv A outer s H E).nox ((C0 K).w tp) (par T k b) (defBody (top 30)) f_p_validators_members_numbers.body := by
  have wl := wa k (Nat.le_refl _)
  have hK : ((C0 K).w tp).K = K := rfl
  have hN := sc_p_validators_members_numbers.nd
  have hu : (A.deeper (envOfC "members_numbers" (defScope (top 30)) s.heap.objs.size fa cdv)).units + 66 < cLine := hu_room (X := (cxOf CX0 P w K mg base N_p_validators_members_numbers "members_numbers" (defScope (top 30)) fa cdv A outer s H E).nox) hr
  have W := W.w tp
  exact (mss_cons (ms_set (k := 1) hN rfl (.inl rfl) (me_lst true (ma_cons (me_len hK fr (me_v 0)) ma_nil)))
    (mss_cons (ms_for (par_stp T k b) hK PassesOwn.never rfl (mi_sq hK (me_v 0)) (mg_t rfl (mgs_cons (mg_n hN rfl (.inl rfl)) (mgs_cons (mg_n hN rfl (.inl rfl)) mgs_nil))) (mss_cons (ms_ex (me_extend hK (me_v 1) (me_lst false (ma_cons (me_v 2) (ma_cons (me_v 3) ma_nil)))))
    mss_nil) nd_sq)
    (mss_cons (ms_ret (me_v 1))
    mss_nil)))
abbrev N_p_validators_members_root : List PySem.Str := ["hasher", "members"]
theorem sc_p_validators_members_root : FnScope N_p_validators_members_root ["hasher", "members"] (defScope (top 31)) := ⟨rfl, rfl, rfl, by decide +kernel, rfl, by decide +kernel, by decide +kernel⟩
theorem b_p_validators_members_root {k : Nat} (W : Wo K (C0 K) T.fo) (fr : Fr mg) (gc : Gc K mg) (wa : ∀ j, j ≤ k → Wl P w K mg base j) (tp : Hp) (b : Nat) (fa : Addr) (cdv : Value) (A : Around) (outer : List Env) (s : Shared) (H : Hp) (E : XK)
    (hr : Room k (A.deeper (envOfC "members_root" (defScope (top 31)) s.heap.objs.size fa cdv))) :
    MSs (cxOf CX0 P w K mg base N_p_validators_members_root "members_root" (defScope (top 31)) fa cdv A outer s H E).nox ((C0 K).w tp) (par T k b) (defBody (top 31)) f_p_validators_members_root.body := by
  have wl := wa k (Nat.le_refl _)
  have hK : ((C0 K).w tp).K = K := rfl
  have hN := sc_p_validators_members_root.nd
  have hu : (A.deeper (envOfC "members_root" (defScope (top 31)) s.heap.objs.size fa cdv)).units + 66 < cLine := hu_room (X := (cxOf CX0 P w K mg base N_p_validators_members_root "members_root" (defScope (top 31)) fa cdv A outer s H E).nox) hr
  have W := W.w tp
  exact (mss_cons (ms_ret (me_meth 2 wl.m_digest hr (me_v 0) (ma_cons (me_gint' gc.c_MEMBERS_TAG) (ma_cons (me_call wl.p_validators_members_numbers hr rfl (ma_cons (me_v 1) ma_nil)) ma_nil))))
    mss_nil)
abbrev N_p_validators_total : List PySem.Str := ["members", "public", "weight"]
theorem sc_p_validators_total : FnScope N_p_validators_total ["members"] (defScope (top 32)) := ⟨rfl, rfl, rfl, by decide +kernel, rfl, by decide +kernel, by decide +kernel⟩
theorem b_p_validators_total {k : Nat} (W : Wo K (C0 K) T.fo) (fr : Fr mg) (gc : Gc K mg) (wa : ∀ j, j ≤ k → Wl P w K mg base j) (tp : Hp) (b : Nat) (fa : Addr) (cdv : Value) (A : Around) (outer : List Env) (s : Shared) (H : Hp) (E : XK)
    (hr : Room k (A.deeper (envOfC "total" (defScope (top 32)) s.heap.objs.size fa cdv))) :
    MSs (cxOf CX0 P w K mg base N_p_validators_total "total" (defScope (top 32)) fa cdv A outer s H E).nox ((C0 K).w tp) (par T k b) (defBody (top 32)) f_p_validators_total.body := by
  have wl := wa k (Nat.le_refl _)
  have hK : ((C0 K).w tp).K = K := rfl
  have hN := sc_p_validators_total.nd
  have hu : (A.deeper (envOfC "total" (defScope (top 32)) s.heap.objs.size fa cdv)).units + 66 < cLine := hu_room (X := (cxOf CX0 P w K mg base N_p_validators_total "total" (defScope (top 32)) fa cdv A outer s H E).nox) hr
  have W := W.w tp
  exact (mss_cons (ms_ret (me_sum hK fr rfl (me_lc false (par_stp T k b) hK rfl hN nd_sq (mi_sq hK (me_v 0)) (blkOk_by (N := N_p_validators_total) (sc := defScope (top 32)) (own := [("public", 1), ("weight", 2)]) (by decide +kernel)) rfl (fun _ _ _ _ _ => (mg_t rfl (mgs_cons (mg_n hN rfl (.inl rfl)) (mgs_cons (mg_n hN rfl (.inl rfl)) mgs_nil)))) (fun tp _ _ _ _ _ => mts_nil) (fun tp _ _ _ _ _ => (me_v 2)))))
    mss_nil)
abbrev N_p_validators_weight_of : List PySem.Str := ["members", "publics", "public", "weight"]
theorem sc_p_validators_weight_of : FnScope N_p_validators_weight_of ["members", "publics"] (defScope (top 33)) := ⟨rfl, rfl, rfl, by decide +kernel, rfl, by decide +kernel, by decide +kernel⟩
theorem b_p_validators_weight_of {k : Nat} (W : Wo K (C0 K) T.fo) (fr : Fr mg) (gc : Gc K mg) (wa : ∀ j, j ≤ k → Wl P w K mg base j) (tp : Hp) (b : Nat) (fa : Addr) (cdv : Value) (A : Around) (outer : List Env) (s : Shared) (H : Hp) (E : XK)
    (hr : Room k (A.deeper (envOfC "weight_of" (defScope (top 33)) s.heap.objs.size fa cdv))) :
    MSs (cxOf CX0 P w K mg base N_p_validators_weight_of "weight_of" (defScope (top 33)) fa cdv A outer s H E).nox ((C0 K).w tp) (par T k b) (defBody (top 33)) f_p_validators_weight_of.body := by
  have wl := wa k (Nat.le_refl _)
  have hK : ((C0 K).w tp).K = K := rfl
  have hN := sc_p_validators_weight_of.nd
  have hu : (A.deeper (envOfC "weight_of" (defScope (top 33)) s.heap.objs.size fa cdv)).units + 66 < cLine := hu_room (X := (cxOf CX0 P w K mg base N_p_validators_weight_of "weight_of" (defScope (top 33)) fa cdv A outer s H E).nox) hr
  have W := W.w tp
  exact (mss_cons (ms_ret (me_sum hK fr rfl (me_lc false (par_stp T k b) hK rfl hN nd_sq (mi_sq hK (me_v 0)) (blkOk_by (N := N_p_validators_weight_of) (sc := defScope (top 33)) (own := [("public", 2), ("weight", 3)]) (by decide +kernel)) rfl (fun _ _ _ _ _ => (mg_t rfl (mgs_cons (mg_n hN rfl (.inl rfl)) (mgs_cons (mg_n hN rfl (.inl rfl)) mgs_nil)))) (fun tp _ _ _ _ _ => (mts_one (mt_cmp hK hu .inn (me_v 2) (me_v 1)))) (fun tp _ _ _ _ _ => (me_v 3)))))
    mss_nil)
abbrev N_p_validators_more_than : List PySem.Str := ["members", "publics", "parts", "whole"]
theorem sc_p_validators_more_than : FnScope N_p_validators_more_than ["members", "publics", "parts", "whole"] (defScope (top 34)) := ⟨rfl, rfl, rfl, by decide +kernel, rfl, by decide +kernel, by decide +kernel⟩
theorem b_p_validators_more_than {k : Nat} (W : Wo K (C0 K) T.fo) (fr : Fr mg) (gc : Gc K mg) (wa : ∀ j, j ≤ k → Wl P w K mg base j) (tp : Hp) (b : Nat) (fa : Addr) (cdv : Value) (A : Around) (outer : List Env) (s : Shared) (H : Hp) (E : XK)
    (hr : Room k (A.deeper (envOfC "more_than" (defScope (top 34)) s.heap.objs.size fa cdv))) :
    MSs (cxOf CX0 P w K mg base N_p_validators_more_than "more_than" (defScope (top 34)) fa cdv A outer s H E).nox ((C0 K).w tp) (par T k b) (defBody (top 34)) f_p_validators_more_than.body := by
  have wl := wa k (Nat.le_refl _)
  have hK : ((C0 K).w tp).K = K := rfl
  have hN := sc_p_validators_more_than.nd
  have hu : (A.deeper (envOfC "more_than" (defScope (top 34)) s.heap.objs.size fa cdv)).units + 66 < cLine := hu_room (X := (cxOf CX0 P w K mg base N_p_validators_more_than "more_than" (defScope (top 34)) fa cdv A outer s H E).nox) hr
  have W := W.w tp
  exact (mss_cons (ms_ret (me_cmp hK hu .gt (me_bin hK .mul (me_call wl.p_validators_weight_of hr rfl (ma_cons (me_v 0) (ma_cons (me_v 1) ma_nil))) (me_v 3)) (me_bin hK .mul (me_call wl.p_validators_total hr rfl (ma_cons (me_v 0) ma_nil)) (me_v 2))))
    mss_nil)
abbrev N_p_validators_signers : List PySem.Str := ["hasher", "message", "members", "votes", "known", "found", "public", "signature", "weight"]
theorem sc_p_validators_signers : FnScope N_p_validators_signers ["hasher", "message", "members", "votes"] (defScope (top 35)) := ⟨rfl, rfl, rfl, by decide +kernel, rfl, by decide +kernel, by decide +kernel⟩
theorem b_p_validators_signers {k : Nat} (W : Wo K (C0 K) T.fo) (fr : Fr mg) (gc : Gc K mg) (wa : ∀ j, j ≤ k → Wl P w K mg base j) (tp : Hp) (b : Nat) (fa : Addr) (cdv : Value) (A : Around) (outer : List Env) (s : Shared) (H : Hp) (E : XK)
    (hr : Room k (A.deeper (envOfC "signers" (defScope (top 35)) s.heap.objs.size fa cdv))) :
    MSs (cxOf CX0 P w K mg base N_p_validators_signers "signers" (defScope (top 35)) fa cdv A outer s H E).nox ((C0 K).w tp) (par T k b) (defBody (top 35)) f_p_validators_signers.body := by
  have wl := wa k (Nat.le_refl _)
  have hK : ((C0 K).w tp).K = K := rfl
  have hN := sc_p_validators_signers.nd
  have hu : (A.deeper (envOfC "signers" (defScope (top 35)) s.heap.objs.size fa cdv)).units + 66 < cLine := hu_room (X := (cxOf CX0 P w K mg base N_p_validators_signers "signers" (defScope (top 35)) fa cdv A outer s H E).nox) hr
  have W := W.w tp
  exact (mss_cons (ms_setlc (i := 4) false (par_stp T k b) hK rfl hN rfl rfl nd_sq (mi_sq hK (me_v 2)) (blkOk_by (N := N_p_validators_signers) (sc := defScope (top 35)) (own := [("public", 6), ("weight", 8)]) (by decide +kernel)) rfl (fun _ _ _ _ _ => (mg_t rfl (mgs_cons (mg_n hN rfl (.inl rfl)) (mgs_cons (mg_n hN rfl (.inl rfl)) mgs_nil)))) (fun tp _ _ _ _ _ => mts_nil) (fun tp _ _ _ _ _ => (me_v 6)))
    (mss_cons (ms_set (k := 5) hN rfl (.inl rfl) (me_lst true ma_nil))
    (mss_cons (ms_for (par_stp T k b) hK PassesOwn.never rfl (mi_sq hK (me_v 3)) (mg_t rfl (mgs_cons (mg_n hN rfl (.inl rfl)) (mgs_cons (mg_n hN rfl (.inl rfl)) mgs_nil))) (mss_cons (ms_iff (MW.t (mw_and hK (mt_cmp hK hu .inn (me_v 6) (me_v 4)) (me_cmp hK hu .inn (me_v 6) (me_v 4)) (mw_and hK (mt_cmp hK hu .nin (me_v 6) (me_v 5)) (me_cmp hK hu .nin (me_v 6) (me_v 5)) (mw_and1 (mt_v hK (me_call wl.p_signing_verify hr rfl (ma_cons (me_v 0) (ma_cons (me_v 6) (ma_cons (me_v 1) (ma_cons (me_v 7) ma_nil)))))) (me_call wl.p_signing_verify hr rfl (ma_cons (me_v 0) (ma_cons (me_v 6) (ma_cons (me_v 1) (ma_cons (me_v 7) ma_nil))))))))) (mss_cons (ms_ex (me_append hK (me_v 5) (me_v 6)))
    mss_nil) mss_nil)
    mss_nil) nd_sq)
    (mss_cons (ms_ret (me_tuple hK fr (me_sorted false hK fr rfl (me_v 5))))
    mss_nil))))
abbrev N_l_law_number : List PySem.Str := ["_law_cell", "_law_k", "_law_mixed"]
theorem sc_l_law_number : FnScope N_l_law_number ["_law_cell", "_law_k"] (defScope (top 37)) := ⟨rfl, rfl, rfl, by decide +kernel, rfl, by decide +kernel, by decide +kernel⟩
theorem b_l_law_number {k : Nat} (W : Wo K (C0 K) T.fo) (fr : Fr mg) (gc : Gc K mg) (wa : ∀ j, j ≤ k → Wl P w K mg base j) (tp : Hp) (b : Nat) (fa : Addr) (cdv : Value) (A : Around) (outer : List Env) (s : Shared) (H : Hp) (E : XK)
    (hr : Room k (A.deeper (envOfC "_law_number" (defScope (top 37)) s.heap.objs.size fa cdv))) :
    MSs (cxOf CX0 P w K mg base N_l_law_number "_law_number" (defScope (top 37)) fa cdv A outer s H E).nox ((C0 K).w tp) (par T k b) (defBody (top 37)) f_l_law_number.body := by
  have wl := wa k (Nat.le_refl _)
  have hK : ((C0 K).w tp).K = K := rfl
  have hN := sc_l_law_number.nd
  have hu : (A.deeper (envOfC "_law_number" (defScope (top 37)) s.heap.objs.size fa cdv)).units + 66 < cLine := hu_room (X := (cxOf CX0 P w K mg base N_l_law_number "_law_number" (defScope (top 37)) fa cdv A outer s H E).nox) hr
  have W := W.w tp
  exact (mss_cons (ms_iff (mt_cmp hK hu .ge (me_v 0) (me_bin hK .pow me_int me_int)) (mss_cons (ms_ret (me_v 0))
    mss_nil) mss_nil)
    (mss_cons (ms_set (k := 2) hN rfl (.inl rfl) (me_bin hK .mod (me_toint fr (me_bin hK .add (me_bin hK .add (me_bin hK .mul (me_v 0) me_int) (me_bin hK .mul (me_v 1) me_int)) me_int)) me_int))
    (mss_cons (ms_ret (me_bin hK .mod (me_toint fr (me_bin hK .add (me_bin hK .mul (me_v 2) (me_v 2)) (me_bin hK .mul (me_v 1) me_int))) me_int))
    mss_nil)))
abbrev N_l_law_cells : List PySem.Str := ["_law_script", "_law_count", "_law_cells_here", "_law_cell"]
theorem sc_l_law_cells : FnScope N_l_law_cells ["_law_script", "_law_count"] (defScope (top 38)) := ⟨rfl, rfl, rfl, by decide +kernel, rfl, by decide +kernel, by decide +kernel⟩
theorem b_l_law_cells {k : Nat} (W : Wo K (C0 K) T.fo) (fr : Fr mg) (gc : Gc K mg) (wa : ∀ j, j ≤ k → Wl P w K mg base j) (tp : Hp) (b : Nat) (fa : Addr) (cdv : Value) (A : Around) (outer : List Env) (s : Shared) (H : Hp) (E : XK)
    (hr : Room k (A.deeper (envOfC "_law_cells" (defScope (top 38)) s.heap.objs.size fa cdv))) :
    MSs (cxOf CX0 P w K mg base N_l_law_cells "_law_cells" (defScope (top 38)) fa cdv A outer s H E).nox ((C0 K).w tp) (par T k b) (defBody (top 38)) f_l_law_cells.body := by
  have wl := wa k (Nat.le_refl _)
  have hK : ((C0 K).w tp).K = K := rfl
  have hN := sc_l_law_cells.nd
  have hu : (A.deeper (envOfC "_law_cells" (defScope (top 38)) s.heap.objs.size fa cdv)).units + 66 < cLine := hu_room (X := (cxOf CX0 P w K mg base N_l_law_cells "_law_cells" (defScope (top 38)) fa cdv A outer s H E).nox) hr
  have W := W.w tp
  exact (mss_cons (ms_setlc (i := 2) true (par_stp T k b) hK rfl hN rfl rfl nd_sq (mi_sq hK (me_v 0)) (blkOk_by (N := N_l_law_cells) (sc := defScope (top 38)) (own := [("_law_cell", 3)]) (by decide +kernel)) rfl (fun _ _ _ _ _ => (mg_n hN rfl (.inl rfl))) (fun tp _ _ _ _ _ => mts_nil) (fun tp _ _ _ _ _ => (me_toint fr (me_v 3))))
    (mss_cons (ms_whl PassesOwn.never (mt_cmp hK hu .lt (me_len hK fr (me_v 2)) (me_v 1)) (mss_cons (ms_ex (me_append hK (me_v 2) (me_bin hK .add (me_len hK fr (me_v 2)) me_int)))
    mss_nil))
    (mss_cons (ms_ret (me_v 2))
    mss_nil)))
abbrev N_l_law_is : List PySem.Str := ["_law_actual", "_law_due"]
theorem sc_l_law_is : FnScope N_l_law_is ["_law_actual", "_law_due"] (defScope (top 39)) := ⟨rfl, rfl, rfl, by decide +kernel, rfl, by decide +kernel, by decide +kernel⟩
theorem b_l_law_is {k : Nat} (W : Wo K (C0 K) T.fo) (fr : Fr mg) (gc : Gc K mg) (wa : ∀ j, j ≤ k → Wl P w K mg base j) (tp : Hp) (b : Nat) (fa : Addr) (cdv : Value) (A : Around) (outer : List Env) (s : Shared) (H : Hp) (E : XK)
    (hr : Room k (A.deeper (envOfC "_law_is" (defScope (top 39)) s.heap.objs.size fa cdv))) :
    MSs (cxOf CX0 P w K mg base N_l_law_is "_law_is" (defScope (top 39)) fa cdv A outer s H E).nox ((C0 K).w tp) (par T k b) (defBody (top 39)) f_l_law_is.body := by
  have wl := wa k (Nat.le_refl _)
  have hK : ((C0 K).w tp).K = K := rfl
  have hN := sc_l_law_is.nd
  have hu : (A.deeper (envOfC "_law_is" (defScope (top 39)) s.heap.objs.size fa cdv)).units + 66 < cLine := hu_room (X := (cxOf CX0 P w K mg base N_l_law_is "_law_is" (defScope (top 39)) fa cdv A outer s H E).nox) hr
  have W := W.w tp
  exact (mss_cons (ms_ret (MW.e (mw_and hK (mt_v hK (me_isi hK .int rfl fr.isinstance PyProof.Rows.boot_isinstance (me_v 0) rfl fr.int boot_int)) (me_isi hK .int rfl fr.isinstance PyProof.Rows.boot_isinstance (me_v 0) rfl fr.int boot_int) (mw_and hK (mt_not (mt_v hK (me_isi hK .bool rfl fr.isinstance PyProof.Rows.boot_isinstance (me_v 0) rfl fr.bool boot_bool))) (me_not hK (me_isi hK .bool rfl fr.isinstance PyProof.Rows.boot_isinstance (me_v 0) rfl fr.bool boot_bool)) (mw_and1 (mt_cmp hK hu .eq (me_v 0) (me_v 1)) (me_cmp hK hu .eq (me_v 0) (me_v 1)))))))
    mss_nil)
abbrev N_l_law_keys : List PySem.Str := ["_law_hasher", "_law_x", "_law_found", "_law_publics", "_law_k", "_law_signer"]
theorem sc_l_law_keys : FnScope N_l_law_keys ["_law_hasher", "_law_x"] (defScope (top 40)) := ⟨rfl, rfl, rfl, by decide +kernel, rfl, by decide +kernel, by decide +kernel⟩
theorem b_l_law_keys {k : Nat} (W : Wo K (C0 K) T.fo) (fr : Fr mg) (gc : Gc K mg) (wa : ∀ j, j ≤ k → Wl P w K mg base j) (tp : Hp) (b : Nat) (fa : Addr) (cdv : Value) (A : Around) (outer : List Env) (s : Shared) (H : Hp) (E : XK)
    (hr : Room k (A.deeper (envOfC "_law_keys" (defScope (top 40)) s.heap.objs.size fa cdv))) :
    MSs (cxOf CX0 P w K mg base N_l_law_keys "_law_keys" (defScope (top 40)) fa cdv A outer s H E).nox ((C0 K).w tp) (par T k b) (defBody (top 40)) f_l_law_keys.body := by
  have wl := wa k (Nat.le_refl _)
  have hK : ((C0 K).w tp).K = K := rfl
  have hN := sc_l_law_keys.nd
  have hu : (A.deeper (envOfC "_law_keys" (defScope (top 40)) s.heap.objs.size fa cdv)).units + 66 < cLine := hu_room (X := (cxOf CX0 P w K mg base N_l_law_keys "_law_keys" (defScope (top 40)) fa cdv A outer s H E).nox) hr
  have W := W.w tp
  exact (mss_cons (ms_set (k := 2) hN rfl (.inl rfl) (me_lst true ma_nil))
    (mss_cons (ms_set (k := 3) hN rfl (.inl rfl) (me_lst true ma_nil))
    (mss_cons (ms_for (par_stp T k b) hK PassesOwn.never rfl (mi_r1 rfl fr.range (me_bin hK .add me_int (me_bin hK .mod (me_toint fr (me_v 1)) me_int))) (mg_n hN rfl (.inl rfl)) (mss_cons (ms_set (k := 5) hN rfl (.inl rfl) (me_make (fun j hj => (wa j (by omega)).c_Signer) rfl hr rfl (ma_cons (me_v 0) (ma_cons (me_bin hK .add (me_bin hK .mod (me_bin hK .fdiv (me_v 1) me_int) me_int) (me_bin hK .mul me_int (me_v 4))) (ma_cons (me_bin hK .mod (me_bin hK .fdiv (me_v 1) me_int) me_int) ma_nil)))))
    (mss_cons (ms_iff (mt_cmp hK hu .nin (me_att (W.wd hr rfl) 25 (me_v 5)) (me_v 3)) (mss_cons (ms_ex (me_append hK (me_v 2) (me_v 5)))
    (mss_cons (ms_ex (me_append hK (me_v 3) (me_att (W.wd hr rfl) 25 (me_v 5))))
    mss_nil)) mss_nil)
    mss_nil)) (nd_ints .r1 (by simp)))
    (mss_cons (ms_ret (me_v 2))
    mss_nil))))
abbrev N_l_law_spoilt : List PySem.Str := ["_law_members", "_law_y", "_law_kind", "_law_found", "_law_at", "_law_k"]
theorem sc_l_law_spoilt : FnScope N_l_law_spoilt ["_law_members", "_law_y"] (defScope (top 41)) := ⟨rfl, rfl, rfl, by decide +kernel, rfl, by decide +kernel, by decide +kernel⟩
theorem b_l_law_spoilt {k : Nat} (W : Wo K (C0 K) T.fo) (fr : Fr mg) (gc : Gc K mg) (wa : ∀ j, j ≤ k → Wl P w K mg base j) (tp : Hp) (b : Nat) (fa : Addr) (cdv : Value) (A : Around) (outer : List Env) (s : Shared) (H : Hp) (E : XK)
    (hr : Room k (A.deeper (envOfC "_law_spoilt" (defScope (top 41)) s.heap.objs.size fa cdv))) :
    MSs (cxOf CX0 P w K mg base N_l_law_spoilt "_law_spoilt" (defScope (top 41)) fa cdv A outer s H E).nox ((C0 K).w tp) (par T k b) (defBody (top 41)) f_l_law_spoilt.body := by
  have wl := wa k (Nat.le_refl _)
  have hK : ((C0 K).w tp).K = K := rfl
  have hN := sc_l_law_spoilt.nd
  have hu : (A.deeper (envOfC "_law_spoilt" (defScope (top 41)) s.heap.objs.size fa cdv)).units + 66 < cLine := hu_room (X := (cxOf CX0 P w K mg base N_l_law_spoilt "_law_spoilt" (defScope (top 41)) fa cdv A outer s H E).nox) hr
  have W := W.w tp
  exact (mss_cons (ms_set (k := 2) hN rfl (.inl rfl) (me_bin hK .mod (me_toint fr (me_v 1)) me_int))
    (mss_cons (ms_set (k := 3) hN rfl (.inl rfl) (me_list true hK fr rfl (me_v 0)))
    (mss_cons (ms_set (k := 4) hN rfl (.inl rfl) (me_bin hK .mod (me_bin hK .fdiv (me_v 1) me_int) (me_len hK fr (me_v 3))))
    (mss_cons (ms_iff (mt_cmp hK hu .eq (me_v 2) me_int) (mss_cons (ms_ret (me_tup ma_nil))
    mss_nil) mss_nil)
    (mss_cons (ms_iff (mt_cmp hK hu .eq (me_v 2) me_int) (mss_cons (ms_ret (me_tuple hK fr (me_rev hK (me_v 3))))
    mss_nil) mss_nil)
    (mss_cons (ms_iff (mt_cmp hK hu .eq (me_v 2) me_int) (mss_cons (ms_ret (me_tuple hK fr (me_bin hK .add (me_v 3) (me_lst false (ma_cons (me_idx hK hu (me_v 3) (me_v 4)) ma_nil)))))
    mss_nil) mss_nil)
    (mss_cons (ms_iff (mt_cmp hK hu .eq (me_v 2) me_int) (mss_cons (ms_seti hu (me_tup (ma_cons (me_idx hK hu (me_idx hK hu (me_v 3) (me_v 4)) me_int) (ma_cons (me_idx hK hu (me_lst false (ma_cons me_int (ma_cons me_int (ma_cons (me_neg me_int) (ma_cons me_int ma_nil))))) (me_bin hK .mod (me_bin hK .fdiv (me_v 1) me_int) me_int)) ma_nil))) (me_v 3) (me_v 4))
    mss_nil) mss_nil)
    (mss_cons (ms_iff (mt_cmp hK hu .eq (me_v 2) me_int) (mss_cons (ms_seti hu (me_tup (ma_cons (me_bin hK .sub (me_neg me_int) (me_bin hK .mod (me_bin hK .fdiv (me_v 1) me_int) me_int)) (ma_cons (me_idx hK hu (me_idx hK hu (me_v 3) me_int) me_int) ma_nil))) (me_v 3) me_int)
    mss_nil) mss_nil)
    (mss_cons (ms_iff (mt_cmp hK hu .eq (me_v 2) me_int) (mss_cons (ms_ret (me_tuple hK fr (me_lc false (par_stp T k b) hK rfl hN (nd_ints .r1 (by simp)) (mi_r1 rfl fr.range (me_bin hK .add me_int (me_bin hK .mod (me_bin hK .fdiv (me_v 1) me_int) me_int))) (blkOk_by (N := N_l_law_spoilt) (sc := defScope (top 41)) (own := [("_law_k", 5)]) (by decide +kernel)) rfl (fun _ _ _ _ _ => (mg_n hN rfl (.inl rfl))) (fun tp _ _ _ _ _ => mts_nil) (fun tp _ _ _ _ _ => (me_tup (ma_cons (me_v 5) (ma_cons (me_bin hK .add me_int (me_bin hK .mod (me_toint fr (me_v 5)) me_int)) ma_nil)))))))
    mss_nil) mss_nil)
    (mss_cons (ms_ret (me_tuple hK fr (me_v 3)))
    mss_nil))))))))))
abbrev N_l_law_fault : List PySem.Str := ["_law_members", "_law_k", "_law_public", "_law_weight"]
theorem sc_l_law_fault : FnScope N_l_law_fault ["_law_members"] (defScope (top 42)) := ⟨rfl, rfl, rfl, by decide +kernel, rfl, by decide +kernel, by decide +kernel⟩
theorem b_l_law_fault {k : Nat} (W : Wo K (C0 K) T.fo) (fr : Fr mg) (gc : Gc K mg) (wa : ∀ j, j ≤ k → Wl P w K mg base j) (tp : Hp) (b : Nat) (fa : Addr) (cdv : Value) (A : Around) (outer : List Env) (s : Shared) (H : Hp) (E : XK)
    (hr : Room k (A.deeper (envOfC "_law_fault" (defScope (top 42)) s.heap.objs.size fa cdv))) :
    MSs (cxOf CX0 P w K mg base N_l_law_fault "_law_fault" (defScope (top 42)) fa cdv A outer s H E).nox ((C0 K).w tp) (par T k b) (defBody (top 42)) f_l_law_fault.body := by
  have wl := wa k (Nat.le_refl _)
  have hK : ((C0 K).w tp).K = K := rfl
  have hN := sc_l_law_fault.nd
  have hu : (A.deeper (envOfC "_law_fault" (defScope (top 42)) s.heap.objs.size fa cdv)).units + 66 < cLine := hu_room (X := (cxOf CX0 P w K mg base N_l_law_fault "_law_fault" (defScope (top 42)) fa cdv A outer s H E).nox) hr
  have W := W.w tp
  exact (mss_cons (ms_iff (mt_not (mt_chn hK hu .le .le me_int (me_len hK fr (me_v 0)) me_int)) (mss_cons (ms_ret (me_str 4))
    mss_nil) mss_nil)
    (mss_cons (ms_for (par_stp T k b) hK PassesOwn.never rfl (mi_r1 rfl fr.range (me_len hK fr (me_v 0))) (mg_n hN rfl (.inl rfl)) (mss_cons (ms_iff (MW.t (mw_or hK (mt_cmp hK hu .lt (me_idx hK hu (me_idx hK hu (me_v 0) (me_v 1)) me_int) me_int) (me_cmp hK hu .lt (me_idx hK hu (me_idx hK hu (me_v 0) (me_v 1)) me_int) me_int) (mw_or1 (MW.t (mw_and hK (mt_cmp hK hu .gt (me_v 1) me_int) (me_cmp hK hu .gt (me_v 1) me_int) (mw_and1 (mt_cmp hK hu .le (me_idx hK hu (me_idx hK hu (me_v 0) (me_v 1)) me_int) (me_idx hK hu (me_idx hK hu (me_v 0) (me_bin hK .sub (me_v 1) me_int)) me_int)) (me_cmp hK hu .le (me_idx hK hu (me_idx hK hu (me_v 0) (me_v 1)) me_int) (me_idx hK hu (me_idx hK hu (me_v 0) (me_bin hK .sub (me_v 1) me_int)) me_int))))) (MW.e (mw_and hK (mt_cmp hK hu .gt (me_v 1) me_int) (me_cmp hK hu .gt (me_v 1) me_int) (mw_and1 (mt_cmp hK hu .le (me_idx hK hu (me_idx hK hu (me_v 0) (me_v 1)) me_int) (me_idx hK hu (me_idx hK hu (me_v 0) (me_bin hK .sub (me_v 1) me_int)) me_int)) (me_cmp hK hu .le (me_idx hK hu (me_idx hK hu (me_v 0) (me_v 1)) me_int) (me_idx hK hu (me_idx hK hu (me_v 0) (me_bin hK .sub (me_v 1) me_int)) me_int)))))))) (mss_cons (ms_ret (me_str 7))
    mss_nil) mss_nil)
    mss_nil) (nd_ints .r1 (by simp)))
    (mss_cons (ms_for (par_stp T k b) hK PassesOwn.never rfl (mi_sq hK (me_v 0)) (mg_t rfl (mgs_cons (mg_n hN rfl (.inl rfl)) (mgs_cons (mg_n hN rfl (.inl rfl)) mgs_nil))) (mss_cons (ms_iff (mt_not (mt_chn hK hu .le .le me_int (me_v 3) me_int)) (mss_cons (ms_ret (me_str 8))
    mss_nil) mss_nil)
    mss_nil) nd_sq)
    (mss_cons (ms_ret me_non)
    mss_nil))))
abbrev N_l_law_votes : List PySem.Str := ["_law_keys_here", "_law_message", "_law_z", "_law_votes_here", "_law_rest", "_law_k", "_law_signer", "_law_kind", "_law_signature", "_law_public", "_law_at"]
theorem sc_l_law_votes : FnScope N_l_law_votes ["_law_keys_here", "_law_message", "_law_z"] (defScope (top 43)) := ⟨rfl, rfl, rfl, by decide +kernel, rfl, by decide +kernel, by decide +kernel⟩
theorem b_l_law_votes {k : Nat} (W : Wo K (C0 K) T.fo) (fr : Fr mg) (gc : Gc K mg) (wa : ∀ j, j ≤ k → Wl P w K mg base j) (tp : Hp) (b : Nat) (fa : Addr) (cdv : Value) (A : Around) (outer : List Env) (s : Shared) (H : Hp) (E : XK)
    (hr : Room k (A.deeper (envOfC "_law_votes" (defScope (top 43)) s.heap.objs.size fa cdv))) :
    MSs (cxOf CX0 P w K mg base N_l_law_votes "_law_votes" (defScope (top 43)) fa cdv A outer s H E).nox ((C0 K).w tp) (par T k b) (defBody (top 43)) f_l_law_votes.body := by
  have wl := wa k (Nat.le_refl _)
  have hK : ((C0 K).w tp).K = K := rfl
  have hN := sc_l_law_votes.nd
  have hu : (A.deeper (envOfC "_law_votes" (defScope (top 43)) s.heap.objs.size fa cdv)).units + 66 < cLine := hu_room (X := (cxOf CX0 P w K mg base N_l_law_votes "_law_votes" (defScope (top 43)) fa cdv A outer s H E).nox) hr
  have W := W.w tp
  exact (mss_cons (ms_set (k := 3) hN rfl (.inl rfl) (me_lst true ma_nil))
    (mss_cons (ms_set (k := 4) hN rfl (.inl rfl) (me_v 2))
    (mss_cons (ms_for (par_stp T k b) hK PassesOwn.never rfl (mi_r1 rfl fr.range (me_bin hK .add (me_len hK fr (me_v 0)) me_int)) (mg_n hN rfl (.inl rfl)) (mss_cons (ms_set (k := 6) hN rfl (.inl rfl) (me_idx hK hu (me_v 0) (me_bin hK .mod (me_toint fr (me_v 5)) (me_len hK fr (me_v 0)))))
    (mss_cons (ms_set (k := 7) hN rfl (.inl rfl) (me_bin hK .mod (me_toint fr (me_v 4)) me_int))
    (mss_cons (ms_set (k := 8) hN rfl (.inl rfl) (me_list true hK fr rfl (me_meth 29 wl.m_sign hr (me_v 6) (ma_cons me_int (ma_cons (me_idx hK hu (me_lst false (ma_cons (me_v 1) (ma_cons (me_v 1) (ma_cons me_int ma_nil)))) (me_bin hK .mul (me_toint fr (me_cmp hK hu .eq (me_v 7) me_int)) me_int)) ma_nil)))))
    (mss_cons (ms_set (k := 9) hN rfl (.inl rfl) (me_att (W.wd hr rfl) 25 (me_v 6)))
    (mss_cons (ms_iff (mt_cmp hK hu .eq (me_v 7) me_int) (mss_cons (ms_set (k := 9) hN rfl (.inl rfl) (me_att (W.wd hr rfl) 25 (me_idx hK hu (me_v 0) (me_bin hK .mod (me_bin hK .fdiv (me_v 4) me_int) (me_len hK fr (me_v 0))))))
    mss_nil) mss_nil)
    (mss_cons (ms_iff (mt_cmp hK hu .eq (me_v 7) me_int) (mss_cons (ms_set (k := 10) hN rfl (.inl rfl) (me_bin hK .mod (me_bin hK .fdiv (me_v 4) me_int) (me_len hK fr (me_v 8))))
    (mss_cons (ms_seti hu (me_bin hK .add (me_idx hK hu (me_v 8) (me_v 10)) (me_idx hK hu (me_lst false (ma_cons me_int (ma_cons (me_neg me_int) (ma_cons me_int ma_nil)))) (me_bin hK .mod (me_bin hK .fdiv (me_v 4) me_int) me_int))) (me_v 8) (me_v 10))
    mss_nil)) mss_nil)
    (mss_cons (ms_iff (mt_cmp hK hu .eq (me_v 7) me_int) (mss_cons (ms_ex (me_pop hK (me_v 8)))
    mss_nil) mss_nil)
    (mss_cons (ms_iff (mt_cmp hK hu .lt (me_v 7) me_int) (mss_cons (ms_ex (me_append hK (me_v 3) (me_tup (ma_cons (me_v 9) (ma_cons (me_tuple hK fr (me_v 8)) ma_nil)))))
    mss_nil) mss_nil)
    (mss_cons (ms_set (k := 4) hN rfl (.inl rfl) (me_bin hK .fdiv (me_v 4) me_int))
    mss_nil))))))))) (nd_ints .r1 (by simp)))
    (mss_cons (ms_ret (me_tuple hK fr (me_v 3)))
    mss_nil))))
abbrev N_l_law : List PySem.Str := ((["_law_script", "_law_cells_here", "_law_x", "_law_hasher", "_law_keys_here", "_law_members", "_law_spoilt_here", "_law_numbers", "_law_public", "_law_weight", "_law_z", "_law_message", "_law_votes_here", "_law_known", "_law_due", "_law_publics"] : List PySem.Str) ++ (["_law_whole", "_law_parts", "_law_parted", "_law_told", "_law_one", "_law_signer", "_law_vote"] : List PySem.Str))
theorem sc_l_law : FnScope N_l_law ["_law_script"] (defScope (top 44)) := ⟨rfl, rfl, rfl, by decide +kernel, rfl, by decide +kernel, by decide +kernel⟩
theorem b_l_law {k : Nat} (W : Wo K (C0 K) T.fo) (fr : Fr mg) (gc : Gc K mg) (wa : ∀ j, j ≤ k → Wl P w K mg base j) (tp : Hp) (b : Nat) (fa : Addr) (cdv : Value) (A : Around) (outer : List Env) (s : Shared) (H : Hp) (E : XK)
    (hr : Room k (A.deeper (envOfC "law" (defScope (top 44)) s.heap.objs.size fa cdv))) :
    MSs (cxOf CX0 P w K mg base N_l_law "law" (defScope (top 44)) fa cdv A outer s H E).nox ((C0 K).w tp) (par T k b) (defBody (top 44)) f_l_law.body := by
  have wl := wa k (Nat.le_refl _)
  have hK : ((C0 K).w tp).K = K := rfl
  have hN := sc_l_law.nd
  have hu : (A.deeper (envOfC "law" (defScope (top 44)) s.heap.objs.size fa cdv)).units + 66 < cLine := hu_room (X := (cxOf CX0 P w K mg base N_l_law "law" (defScope (top 44)) fa cdv A outer s H E).nox) hr
  have W := W.w tp
  exact (mss_cons (ms_set (k := 1) hN rfl (.inl rfl) (me_call wl.l_law_cells hr rfl (ma_cons (me_v 0) (ma_cons me_int ma_nil))))
    (mss_cons (ms_set (k := 2) hN rfl (.inr rfl) (me_call wl.l_law_number hr rfl (ma_cons (me_idx hK hu (me_v 1) me_int) (ma_cons me_int ma_nil))))
    (mss_cons (ms_set (k := 3) hN rfl (.inr rfl) (me_make (fun j hj => (wa j (by omega)).c_Hasher) rfl hr rfl (ma_cons (me_idx hK hu (me_lst false (ma_cons me_int (ma_cons me_int (ma_cons me_int (ma_cons me_int (ma_cons me_int ma_nil)))))) (me_bin hK .mod (me_bin hK .fdiv (me_v 2) me_int) me_int)) ma_nil)))
    (mss_cons (ms_set (k := 4) hN rfl (.inl rfl) (me_call wl.l_law_keys hr rfl (ma_cons (me_v 3) (ma_cons (me_bin hK .fdiv (me_v 2) me_int) ma_nil))))
    (mss_cons (ms_set (k := 5) hN rfl (.inl rfl) (me_tuple hK fr (me_sortp false hK fr rfl (me_lc false (par_stp T k b) hK rfl hN nd_sq (mi_sq hK (me_v 4)) (blkOk_by (N := N_l_law) (sc := defScope (top 44)) (own := [("_law_signer", 21)]) (by decide +kernel)) rfl (fun _ _ _ _ _ => (mg_n hN rfl (.inl rfl))) (fun tp _ _ _ _ _ => mts_nil) (fun tp _ _ _ _ _ => (me_tup (ma_cons (me_att ((W.w tp).wd hr rfl) 25 (me_v 21)) (ma_cons (me_bin hK .add me_int (me_bin hK .mod (me_bin hK .fdiv (me_v 2) (me_bin hK .add me_int (me_att ((W.w tp).wd hr rfl) 25 (me_v 21)))) me_int)) ma_nil))))))))
    (mss_cons (ms_set (k := 6) hN rfl (.inl rfl) (me_call wl.l_law_spoilt hr rfl (ma_cons (me_v 5) (ma_cons (me_call wl.l_law_number hr rfl (ma_cons (me_idx hK hu (me_v 1) me_int) (ma_cons me_int ma_nil))) ma_nil))))
    (mss_cons (ms_iff (MW.t (mw_or hK (mt_cmp hK hu .isn (me_call wl.p_validators_members_fault hr rfl (ma_cons (me_v 5) ma_nil)) me_non) (me_cmp hK hu .isn (me_call wl.p_validators_members_fault hr rfl (ma_cons (me_v 5) ma_nil)) me_non) (mw_or1 (mt_cmp hK hu .ne (me_call wl.p_validators_members_fault hr rfl (ma_cons (me_v 6) ma_nil)) (me_call wl.l_law_fault hr rfl (ma_cons (me_v 6) ma_nil))) (me_cmp hK hu .ne (me_call wl.p_validators_members_fault hr rfl (ma_cons (me_v 6) ma_nil)) (me_call wl.l_law_fault hr rfl (ma_cons (me_v 6) ma_nil)))))) (mss_cons (ms_ret me_bl)
    mss_nil) mss_nil)
    (mss_cons (ms_set (k := 7) hN rfl (.inl rfl) (me_lst false (ma_cons (me_len hK fr (me_v 5)) ma_nil)))
    (mss_cons (ms_for (par_stp T k b) hK PassesOwn.never rfl (mi_sq hK (me_v 5)) (mg_t rfl (mgs_cons (mg_n hN rfl (.inr rfl)) (mgs_cons (mg_n hN rfl (.inl rfl)) mgs_nil))) (mss_cons (ms_set (k := 7) hN rfl (.inl rfl) (me_bin hK .add (me_v 7) (me_lst false (ma_cons (me_v 8) (ma_cons (me_v 9) ma_nil)))))
    mss_nil) nd_sq)
    (mss_cons (ms_iff (MW.t (mw_or hK (mt_cmp hK hu .ne (me_call wl.p_validators_members_numbers hr rfl (ma_cons (me_v 5) ma_nil)) (me_v 7)) (me_cmp hK hu .ne (me_call wl.p_validators_members_numbers hr rfl (ma_cons (me_v 5) ma_nil)) (me_v 7)) (mw_or hK (mt_cmp hK hu .ne (me_gint' gc.c_MEMBERS_TAG) me_int) (me_cmp hK hu .ne (me_gint' gc.c_MEMBERS_TAG) me_int) (mw_or1 (mt_not (mt_v hK (me_call wl.l_law_is hr rfl (ma_cons (me_call wl.p_validators_members_root hr rfl (ma_cons (me_v 3) (ma_cons (me_v 5) ma_nil))) (ma_cons (me_meth 2 wl.m_digest hr (me_v 3) (ma_cons me_int (ma_cons (me_v 7) ma_nil))) ma_nil))))) (me_not hK (me_call wl.l_law_is hr rfl (ma_cons (me_call wl.p_validators_members_root hr rfl (ma_cons (me_v 3) (ma_cons (me_v 5) ma_nil))) (ma_cons (me_meth 2 wl.m_digest hr (me_v 3) (ma_cons me_int (ma_cons (me_v 7) ma_nil))) ma_nil)))))))) (mss_cons (ms_ret me_bl)
    mss_nil) mss_nil)
    (mss_cons (ms_set (k := 10) hN rfl (.inr rfl) (me_call wl.l_law_number hr rfl (ma_cons (me_idx hK hu (me_v 1) me_int) (ma_cons me_int ma_nil))))
    (mss_cons (ms_set (k := 11) hN rfl (.inr rfl) (me_bin hK .mod (me_bin hK .fdiv (me_v 10) me_int) (me_bin hK .shl me_int (me_att (W.wd hr rfl) 0 (me_v 3)))))
    (mss_cons (ms_set (k := 12) hN rfl (.inl rfl) (me_call wl.l_law_votes hr rfl (ma_cons (me_v 4) (ma_cons (me_v 11) (ma_cons (me_v 10) ma_nil)))))
    (mss_cons (ms_setlc (i := 13) false (par_stp T k b) hK rfl hN rfl rfl nd_sq (mi_sq hK (me_v 5)) (blkOk_by (N := N_l_law) (sc := defScope (top 44)) (own := [("_law_one", 20)]) (by decide +kernel)) rfl (fun _ _ _ _ _ => (mg_n hN rfl (.inl rfl))) (fun tp _ _ _ _ _ => (mts_one (mt_cmp hK hu .gt (me_bin hK .mod (me_toint fr (me_bin hK .add (me_idx hK hu (me_v 20) me_int) (me_v 10))) me_int) me_int))) (fun tp _ _ _ _ _ => (me_v 20)))
    (mss_cons (ms_set (k := 14) hN rfl (.inl rfl) (me_lst true ma_nil))
    (mss_cons (ms_for (par_stp T k b) hK PassesOwn.never rfl (mi_sq hK (me_v 13)) (mg_t rfl (mgs_cons (mg_n hN rfl (.inr rfl)) (mgs_cons (mg_n hN rfl (.inl rfl)) mgs_nil))) (mss_cons (ms_iff (mt_cmp hK hu .ne (me_lc false (par_stp T k b) hK rfl hN nd_sq (mi_sq hK (me_v 12)) (blkOk_by (N := N_l_law) (sc := defScope (top 44)) (own := [("_law_vote", 22)]) (by decide +kernel)) rfl (fun _ _ _ _ _ => (mg_n hN rfl (.inl rfl))) (fun tp _ _ _ _ _ => (mts_one (MW.t (mw_and hK (mt_cmp hK hu .eq (me_idx hK hu (me_v 22) me_int) (me_v 8)) (me_cmp hK hu .eq (me_idx hK hu (me_v 22) me_int) (me_v 8)) (mw_and1 (mt_v hK (me_call wl.p_signing_verify hr rfl (ma_cons (me_v 3) (ma_cons (me_v 8) (ma_cons (me_v 11) (ma_cons (me_idx hK hu (me_v 22) me_int) ma_nil)))))) (me_call wl.p_signing_verify hr rfl (ma_cons (me_v 3) (ma_cons (me_v 8) (ma_cons (me_v 11) (ma_cons (me_idx hK hu (me_v 22) me_int) ma_nil)))))))))) (fun tp _ _ _ _ _ => (me_v 22))) (me_lst false ma_nil)) (mss_cons (ms_ex (me_append hK (me_v 14) (me_v 8)))
    mss_nil) mss_nil)
    mss_nil) nd_sq)
    (mss_cons (ms_iff (mt_cmp hK hu .ne (me_call wl.p_validators_signers hr rfl (ma_cons (me_v 3) (ma_cons (me_v 11) (ma_cons (me_tuple hK fr (me_v 13)) (ma_cons (me_v 12) ma_nil))))) (me_tuple hK fr (me_v 14))) (mss_cons (ms_ret me_bl)
    mss_nil) mss_nil)
    (mss_cons (ms_set (k := 15) hN rfl (.inr rfl) (me_bin hK .add (me_bin hK .add (me_v 14) (me_slc hK (me_v 14) mo_none (mo_some me_int))) (me_lst false (ma_cons (me_bin hK .mod (me_toint fr (me_v 10)) me_int) (ma_cons (me_neg me_int) ma_nil)))))
    (mss_cons (ms_set (k := 9) hN rfl (.inl rfl) (me_sum hK fr rfl (me_lc false (par_stp T k b) hK rfl hN nd_sq (mi_sq hK (me_v 5)) (blkOk_by (N := N_l_law) (sc := defScope (top 44)) (own := [("_law_one", 20)]) (by decide +kernel)) rfl (fun _ _ _ _ _ => (mg_n hN rfl (.inl rfl))) (fun tp _ _ _ _ _ => (mts_one (mt_cmp hK hu .inn (me_idx hK hu (me_v 20) me_int) (me_v 15)))) (fun tp _ _ _ _ _ => (me_idx hK hu (me_v 20) me_int)))))
    (mss_cons (ms_set (k := 16) hN rfl (.inl rfl) (me_sum hK fr rfl (me_lc false (par_stp T k b) hK rfl hN nd_sq (mi_sq hK (me_v 5)) (blkOk_by (N := N_l_law) (sc := defScope (top 44)) (own := [("_law_one", 20)]) (by decide +kernel)) rfl (fun _ _ _ _ _ => (mg_n hN rfl (.inl rfl))) (fun tp _ _ _ _ _ => mts_nil) (fun tp _ _ _ _ _ => (me_idx hK hu (me_v 20) me_int)))))
    (mss_cons (ms_iff (MW.t (mw_or hK (mt_not (mt_v hK (me_call wl.l_law_is hr rfl (ma_cons (me_call wl.p_validators_total hr rfl (ma_cons (me_v 5) ma_nil)) (ma_cons (me_v 16) ma_nil))))) (me_not hK (me_call wl.l_law_is hr rfl (ma_cons (me_call wl.p_validators_total hr rfl (ma_cons (me_v 5) ma_nil)) (ma_cons (me_v 16) ma_nil)))) (mw_or1 (mt_not (mt_v hK (me_call wl.l_law_is hr rfl (ma_cons (me_call wl.p_validators_weight_of hr rfl (ma_cons (me_v 5) (ma_cons (me_v 15) ma_nil))) (ma_cons (me_v 9) ma_nil))))) (me_not hK (me_call wl.l_law_is hr rfl (ma_cons (me_call wl.p_validators_weight_of hr rfl (ma_cons (me_v 5) (ma_cons (me_v 15) ma_nil))) (ma_cons (me_v 9) ma_nil))))))) (mss_cons (ms_ret me_bl)
    mss_nil) mss_nil)
    (mss_cons (ms_for (par_stp T k b) hK PassesOwn.never rfl (mi_sq hK (me_lst false (ma_cons (me_tup (ma_cons me_int (ma_cons me_int ma_nil))) (ma_cons (me_tup (ma_cons me_int (ma_cons me_int ma_nil))) (ma_cons (me_tup (ma_cons (me_v 9) (ma_cons (me_v 16) ma_nil))) (ma_cons (me_tup (ma_cons (me_bin hK .sub (me_v 9) me_int) (ma_cons (me_v 16) ma_nil))) (ma_cons (me_tup (ma_cons me_int (ma_cons me_int ma_nil))) ma_nil))))))) (mg_t rfl (mgs_cons (mg_n hN rfl (.inl rfl)) (mgs_cons (mg_n hN rfl (.inl rfl)) mgs_nil))) (mss_cons (ms_set (k := 19) hN rfl (.inl rfl) (me_call wl.p_validators_more_than hr rfl (ma_cons (me_v 5) (ma_cons (me_v 15) (ma_cons (me_v 17) (ma_cons (me_v 18) ma_nil))))))
    (mss_cons (ms_iff (MW.t (mw_or hK (mt_not (mt_v hK (me_isi hK .bool rfl fr.isinstance PyProof.Rows.boot_isinstance (me_v 19) rfl fr.bool boot_bool))) (me_not hK (me_isi hK .bool rfl fr.isinstance PyProof.Rows.boot_isinstance (me_v 19) rfl fr.bool boot_bool)) (mw_or1 (mt_cmp hK hu .ne (me_v 19) (me_cmp hK hu .gt (me_bin hK .mul (me_v 9) (me_v 18)) (me_bin hK .mul (me_v 16) (me_v 17)))) (me_cmp hK hu .ne (me_v 19) (me_cmp hK hu .gt (me_bin hK .mul (me_v 9) (me_v 18)) (me_bin hK .mul (me_v 16) (me_v 17))))))) (mss_cons (ms_ret me_bl)
    mss_nil) mss_nil)
    mss_nil)) nd_sq)
    (mss_cons (ms_ret me_bl)
    mss_nil)))))))))))))))))))))))
end
/-! ### the head -/
def d_p_hashing_limbs_of : He.DefD := ⟨("limbs_of", none), "limbs_of", "limbs_of", defArgs (top 8), defBody (top 8), defScope (top 8), [], []⟩
def d_p_hashing_Hasher___init__ : He.DefD := ⟨("Hasher", some "__init__"), "__init__", "Hasher.__init__", defArgs (inClass (top 9) 0), defBody (inClass (top 9) 0), defScope (inClass (top 9) 0), [], []⟩
def d_p_hashing_Hasher_digest : He.DefD := ⟨("Hasher", some "digest"), "digest", "Hasher.digest", defArgs (inClass (top 9) 1), defBody (inClass (top 9) 1), defScope (inClass (top 9) 1), [], []⟩
def d_p_hashing_Hasher_is_digest : He.DefD := ⟨("Hasher", some "is_digest"), "is_digest", "Hasher.is_digest", defArgs (inClass (top 9) 2), defBody (inClass (top 9) 2), defScope (inClass (top 9) 2), [], []⟩
def d_p_signing_digit_counts : He.DefD := ⟨("digit_counts", none), "digit_counts", "digit_counts", defArgs (top 17), defBody (top 17), defScope (top 17), [], []⟩
def d_p_signing_digits_of : He.DefD := ⟨("digits_of", none), "digits_of", "digits_of", defArgs (top 18), defBody (top 18), defScope (top 18), [], []⟩
def d_p_signing_stepped : He.DefD := ⟨("stepped", none), "stepped", "stepped", defArgs (top 19), defBody (top 19), defScope (top 19), [], []⟩
def d_p_signing_key_digest : He.DefD := ⟨("key_digest", none), "key_digest", "key_digest", defArgs (top 20), defBody (top 20), defScope (top 20), [], []⟩
def d_p_signing_Signer___init__ : He.DefD := ⟨("Signer", some "__init__"), "__init__", "Signer.__init__", defArgs (inClass (top 21) 0), defBody (inClass (top 21) 0), defScope (inClass (top 21) 0), [], []⟩
def d_p_signing_Signer_chains : He.DefD := ⟨("Signer", some "chains"), "chains", "Signer.chains", defArgs (inClass (top 21) 1), defBody (inClass (top 21) 1), defScope (inClass (top 21) 1), [], []⟩
def d_p_signing_Signer_key_words : He.DefD := ⟨("Signer", some "key_words"), "key_words", "Signer.key_words", defArgs (inClass (top 21) 2), defBody (inClass (top 21) 2), defScope (inClass (top 21) 2), [], []⟩
def d_p_signing_Signer_word : He.DefD := ⟨("Signer", some "word"), "word", "Signer.word", defArgs (inClass (top 21) 3), defBody (inClass (top 21) 3), defScope (inClass (top 21) 3), [], []⟩
def d_p_signing_Signer_tops : He.DefD := ⟨("Signer", some "tops"), "tops", "Signer.tops", defArgs (inClass (top 21) 4), defBody (inClass (top 21) 4), defScope (inClass (top 21) 4), [], []⟩
def d_p_signing_Signer_path : He.DefD := ⟨("Signer", some "path"), "path", "Signer.path", defArgs (inClass (top 21) 5), defBody (inClass (top 21) 5), defScope (inClass (top 21) 5), [], []⟩
def d_p_signing_Signer_sign : He.DefD := ⟨("Signer", some "sign"), "sign", "Signer.sign", defArgs (inClass (top 21) 6), defBody (inClass (top 21) 6), defScope (inClass (top 21) 6), [], []⟩
def d_p_signing_levels_of : He.DefD := ⟨("levels_of", none), "levels_of", "levels_of", defArgs (top 22), defBody (top 22), defScope (top 22), [], []⟩
def d_p_signing_inputs_of : He.DefD := ⟨("inputs_of", none), "inputs_of", "inputs_of", defArgs (top 23), defBody (top 23), defScope (top 23), [], []⟩
def d_p_signing_verify : He.DefD := ⟨("verify", none), "verify", "verify", defArgs (top 24), defBody (top 24), defScope (top 24), [], []⟩
def d_p_validators_members_fault : He.DefD := ⟨("members_fault", none), "members_fault", "members_fault", defArgs (top 29), defBody (top 29), defScope (top 29), [], []⟩
def d_p_validators_members_numbers : He.DefD := ⟨("members_numbers", none), "members_numbers", "members_numbers", defArgs (top 30), defBody (top 30), defScope (top 30), [], []⟩
def d_p_validators_members_root : He.DefD := ⟨("members_root", none), "members_root", "members_root", defArgs (top 31), defBody (top 31), defScope (top 31), [], []⟩
def d_p_validators_total : He.DefD := ⟨("total", none), "total", "total", defArgs (top 32), defBody (top 32), defScope (top 32), [], []⟩
def d_p_validators_weight_of : He.DefD := ⟨("weight_of", none), "weight_of", "weight_of", defArgs (top 33), defBody (top 33), defScope (top 33), [], []⟩
def d_p_validators_more_than : He.DefD := ⟨("more_than", none), "more_than", "more_than", defArgs (top 34), defBody (top 34), defScope (top 34), [], []⟩
def d_p_validators_signers : He.DefD := ⟨("signers", none), "signers", "signers", defArgs (top 35), defBody (top 35), defScope (top 35), [], []⟩
def d_l_law_number : He.DefD := ⟨("_law_number", none), "_law_number", "_law_number", defArgs (top 37), defBody (top 37), defScope (top 37), [], []⟩
def d_l_law_cells : He.DefD := ⟨("_law_cells", none), "_law_cells", "_law_cells", defArgs (top 38), defBody (top 38), defScope (top 38), [], []⟩
def d_l_law_is : He.DefD := ⟨("_law_is", none), "_law_is", "_law_is", defArgs (top 39), defBody (top 39), defScope (top 39), [], []⟩
def d_l_law_keys : He.DefD := ⟨("_law_keys", none), "_law_keys", "_law_keys", defArgs (top 40), defBody (top 40), defScope (top 40), [], []⟩
def d_l_law_spoilt : He.DefD := ⟨("_law_spoilt", none), "_law_spoilt", "_law_spoilt", defArgs (top 41), defBody (top 41), defScope (top 41), [], []⟩
def d_l_law_fault : He.DefD := ⟨("_law_fault", none), "_law_fault", "_law_fault", defArgs (top 42), defBody (top 42), defScope (top 42), [], []⟩
def d_l_law_votes : He.DefD := ⟨("_law_votes", none), "_law_votes", "_law_votes", defArgs (top 43), defBody (top 43), defScope (top 43), [], []⟩
def d_l_law : He.DefD := ⟨("law", none), "law", "law", defArgs (top 44), defBody (top 44), defScope (top 44), [], []⟩
def fn : List He.DefD := [d_p_hashing_limbs_of, d_p_hashing_Hasher___init__, d_p_hashing_Hasher_digest, d_p_hashing_Hasher_is_digest, d_p_signing_digit_counts, d_p_signing_digits_of, d_p_signing_stepped, d_p_signing_key_digest, d_p_signing_Signer___init__, d_p_signing_Signer_chains, d_p_signing_Signer_key_words, d_p_signing_Signer_word, d_p_signing_Signer_tops, d_p_signing_Signer_path, d_p_signing_Signer_sign, d_p_signing_levels_of, d_p_signing_inputs_of, d_p_signing_verify, d_p_validators_members_fault, d_p_validators_members_numbers, d_p_validators_members_root, d_p_validators_total, d_p_validators_weight_of, d_p_validators_more_than, d_p_validators_signers, d_l_law_number, d_l_law_cells, d_l_law_is, d_l_law_keys, d_l_law_spoilt, d_l_law_fault, d_l_law_votes, d_l_law]
def ics : List PySem.Str := []
def fa : List He.Fa := [.free "range", .free "len", .free "sum", .free "int", .free "sorted", .free "tuple", .free "list", .free "dict", .free "min", .free "max", .free "all", .free "any", .free "isinstance", .free "reversed", .free "zip", .free "bool", .glo "limbs_of", .glo "digit_counts", .glo "digits_of", .glo "stepped", .glo "key_digest", .glo "levels_of", .glo "inputs_of", .glo "verify", .glo "members_fault", .glo "members_numbers", .glo "members_root", .glo "total", .glo "weight_of", .glo "more_than", .glo "signers", .glo "_law_number", .glo "_law_cells", .glo "_law_is", .glo "_law_keys", .glo "_law_spoilt", .glo "_law_fault", .glo "_law_votes", .glo "law", .glo "Hasher", .cls "Hasher", .mkr "Hasher", .glo "Signer", .cls "Signer", .mkr "Signer", .int "BASE" 16, .int "CHAIN" 4, .int "FIRST" 7263541890216354987, .int "KEY" 5, .int "LIMB" 4294967295, .int "MASK" 18446744073709551615, .int "MEMBERS_TAG" 9, .int "MOST_LEVELS" 6, .int "MOST_MEMBERS" 64, .int "MOST_WEIGHT" 1000000, .int "ONE" 15241578750190521011, .int "OTHER" 9764318250173649287, .int "SECOND" 12985647301928374651, .int "SECRET" 7, .int "TREE" 6, .int "WHOLE" 128, .noat "Hasher" "width", .noat "Signer" "hasher", .noat "Signer" "secret", .noat "Signer" "levels", .noat "Signer" "words", .noat "Signer" "rows", .noat "Signer" "public", .meth "Hasher" "digest", .meth "Hasher" "is_digest", .meth "Signer" "chains", .meth "Signer" "key_words", .meth "Signer" "word", .meth "Signer" "tops", .meth "Signer" "path", .meth "Signer" "sign"]
abbrev hk : PySem.W.Hook := M.hookE 4 ics fa fn
def ob (s : PySem.W.SharedT) : He.AlD := M.obsEG 4 ics fa fn (HandSHeadRun.getT s)
theorem ob_eq (s : PySem.W.SharedT) : ob s = hk.obs s.abs := M.obsEG_eq (HandSHeadRun.getT_eq s)
def nm0 : List PySem.Str := ((["__name__", "MASK", "FIRST", "SECOND", "ONE", "OTHER", "LIMB", "WHOLE", "limbs_of", "Hasher", "CHAIN", "KEY", "TREE", "SECRET", "BASE", "MOST_LEVELS"] : List PySem.Str) ++ (["digit_counts", "digits_of", "stepped", "key_digest"] : List PySem.Str))
def nm1 : List PySem.Str := ((["Signer", "levels_of", "inputs_of", "verify", "MEMBERS_TAG", "MOST_MEMBERS", "MOST_WEIGHT", "members_fault", "members_numbers", "members_root", "total", "weight_of", "more_than", "signers", "_law_number", "_law_cells"] : List PySem.Str) ++ (["_law_is", "_law_keys", "_law_spoilt", "_law_fault"] : List PySem.Str))
def nm2 : List PySem.Str := ["_law_votes"]
def names : List PySem.Str := nm0 ++ nm1 ++ nm2
theorem run (w : World) : HandSHeadRun.RunEq R (PySem.W.view R.prog [44]) hk ob 15000 names w := by
  intro os
  kernel_rfl
section
variable {P : Program} {w : World} {K : PySem.W.Frag} {h : Heap} {mg : PySem.Str → Option Value} {base : Heap}
theorem fr_of (X : K.In h) (G : h.Ns mainGlobals mg) (c : He.SaysD fa fn K) : Fr mg := ⟨He.free_ok X G (c.fact 0 (f := .free "range") rfl), He.free_ok X G (c.fact 1 (f := .free "len") rfl), He.free_ok X G (c.fact 2 (f := .free "sum") rfl), He.free_ok X G (c.fact 3 (f := .free "int") rfl), He.free_ok X G (c.fact 4 (f := .free "sorted") rfl), He.free_ok X G (c.fact 5 (f := .free "tuple") rfl), He.free_ok X G (c.fact 6 (f := .free "list") rfl), He.free_ok X G (c.fact 7 (f := .free "dict") rfl), He.free_ok X G (c.fact 8 (f := .free "min") rfl), He.free_ok X G (c.fact 9 (f := .free "max") rfl), He.free_ok X G (c.fact 10 (f := .free "all") rfl), He.free_ok X G (c.fact 11 (f := .free "any") rfl), He.free_ok X G (c.fact 12 (f := .free "isinstance") rfl), He.free_ok X G (c.fact 13 (f := .free "reversed") rfl), He.free_ok X G (c.fact 14 (f := .free "zip") rfl), He.free_ok X G (c.fact 15 (f := .free "bool") rfl)⟩
theorem gc_of (X : K.In h) (G : h.Ns mainGlobals mg) (c : He.SaysD fa fn K) (ci : ics.all (M.icB K) = true) : Gc K mg := ⟨trivial, He.int_ok X G (c.fact 45 (f := .int "BASE" 16) rfl), He.int_ok X G (c.fact 46 (f := .int "CHAIN" 4) rfl), He.int_ok X G (c.fact 47 (f := .int "FIRST" 7263541890216354987) rfl), He.int_ok X G (c.fact 48 (f := .int "KEY" 5) rfl), He.int_ok X G (c.fact 49 (f := .int "LIMB" 4294967295) rfl), He.int_ok X G (c.fact 50 (f := .int "MASK" 18446744073709551615) rfl), He.int_ok X G (c.fact 51 (f := .int "MEMBERS_TAG" 9) rfl), He.int_ok X G (c.fact 52 (f := .int "MOST_LEVELS" 6) rfl), He.int_ok X G (c.fact 53 (f := .int "MOST_MEMBERS" 64) rfl), He.int_ok X G (c.fact 54 (f := .int "MOST_WEIGHT" 1000000) rfl), He.int_ok X G (c.fact 55 (f := .int "ONE" 15241578750190521011) rfl), He.int_ok X G (c.fact 56 (f := .int "OTHER" 9764318250173649287) rfl), He.int_ok X G (c.fact 57 (f := .int "SECOND" 12985647301928374651) rfl), He.int_ok X G (c.fact 58 (f := .int "SECRET" 7) rfl), He.int_ok X G (c.fact 59 (f := .int "TREE" 6) rfl), He.int_ok X G (c.fact 60 (f := .int "WHOLE" 128) rfl)⟩
theorem wo_of (c : He.SaysD fa fn K) : Wo K (C0 K) T.fo := by
  refine ⟨rfl, fun cc D e => ?_, fun cc D f x e hf hx => ?_⟩
  · match cc, e with
    | 0, e => cases e; exact He.cls_ok (c.fact 40 (f := .cls "Hasher") rfl)
    | 4, e => cases e; exact He.cls_ok (c.fact 43 (f := .cls "Signer") rfl)
  · match cc, f, hf, e, hx with
    | 0, 0, _, e, hx => cases e; cases hx; exact He.noat_ok (c.fact 61 (f := .noat "Hasher" "width") rfl)
    | 4, 3, _, e, hx => cases e; cases hx; exact He.noat_ok (c.fact 62 (f := .noat "Signer" "hasher") rfl)
    | 4, 19, _, e, hx => cases e; cases hx; exact He.noat_ok (c.fact 63 (f := .noat "Signer" "secret") rfl)
    | 4, 20, _, e, hx => cases e; cases hx; exact He.noat_ok (c.fact 64 (f := .noat "Signer" "levels") rfl)
    | 4, 22, _, e, hx => cases e; cases hx; exact He.noat_ok (c.fact 65 (f := .noat "Signer" "words") rfl)
    | 4, 24, _, e, hx => cases e; cases hx; exact He.noat_ok (c.fact 66 (f := .noat "Signer" "rows") rfl)
    | 4, 25, _, e, hx => cases e; cases hx; exact He.noat_ok (c.fact 67 (f := .noat "Signer" "public") rfl)
theorem q_p_hashing_limbs_of (c : He.SaysD fa fn K) : ∃ fd, FunD K "limbs_of" "limbs_of" (defArgs (top 8)) (defBody (top 8)) (defScope (top 8)) [] [] (He.fAd K d_p_hashing_limbs_of.at_) fd := c.def_ 0 (d := d_p_hashing_limbs_of) rfl
theorem n_p_hashing_limbs_of {fd : FuncData} {fa : Addr} (F : FunD K "limbs_of" "limbs_of" (defArgs (top 8)) (defBody (top 8)) (defScope (top 8)) [] [] fa fd) : Binds K fd ["numbers"] [] := F.bindsN fun _ _ _ _ _ _ us hl => match us, hl with | [_], _ => rfl
theorem o_p_hashing_limbs_of {k : Nat} (W : Wo K (C0 K) T.fo) (fr : Fr mg) (gc : Gc K mg) (wa : ∀ j, j < k → Wl P w K mg base j) {fd : FuncData} {fa : Addr} (F : FunD K "limbs_of" "limbs_of" (defArgs (top 8)) (defBody (top 8)) (defScope (top 8)) [] [] fa fd) :
    FnOk P w K mg base CX0 k fa fd ["numbers"] (spE T (C0 K) k 2) := by
  cases k with
  | zero => exact fn_zero
  | succ k => exact M.fn_ok F sc_p_hashing_limbs_of rfl rfl rfl (by decide) fun tp b cdv A outer s H E hr => b_p_hashing_limbs_of W fr gc (fun j hj => wa j (by omega)) tp b fa cdv A outer s H E hr
theorem q_p_hashing_Hasher___init__ (c : He.SaysD fa fn K) : ∃ fd, FunD K "__init__" "Hasher.__init__" (defArgs (inClass (top 9) 0)) (defBody (inClass (top 9) 0)) (defScope (inClass (top 9) 0)) [] [] (He.fAd K d_p_hashing_Hasher___init__.at_) fd := c.def_ 1 (d := d_p_hashing_Hasher___init__) rfl
theorem n_p_hashing_Hasher___init__ {fd : FuncData} {fa : Addr} (F : FunD K "__init__" "Hasher.__init__" (defArgs (inClass (top 9) 0)) (defBody (inClass (top 9) 0)) (defScope (inClass (top 9) 0)) [] [] fa fd) : Binds K fd ["self", "width"] [] := F.bindsN fun _ _ _ _ _ _ us hl => match us, hl with | [_, _], _ => rfl
theorem o_p_hashing_Hasher___init__ {k : Nat} (W : Wo K (C0 K) T.fo) (fr : Fr mg) (gc : Gc K mg) (wa : ∀ j, j < k → Wl P w K mg base j) {fd : FuncData} {fa : Addr} (F : FunD K "__init__" "Hasher.__init__" (defArgs (inClass (top 9) 0)) (defBody (inClass (top 9) 0)) (defScope (inClass (top 9) 0)) [] [] fa fd) :
    FnOk P w K mg base CX0 k fa fd ["self", "width"] (spE T (C0 K) k 3) := by
  cases k with
  | zero => exact fn_zero
  | succ k => exact M.fn_ok F sc_p_hashing_Hasher___init__ rfl rfl rfl (by decide) fun tp b cdv A outer s H E hr => b_p_hashing_Hasher___init__ W fr gc (fun j hj => wa j (by omega)) tp b fa cdv A outer s H E hr
theorem q_p_hashing_Hasher_digest (c : He.SaysD fa fn K) : ∃ fd, FunD K "digest" "Hasher.digest" (defArgs (inClass (top 9) 1)) (defBody (inClass (top 9) 1)) (defScope (inClass (top 9) 1)) [] [] (He.fAd K d_p_hashing_Hasher_digest.at_) fd := c.def_ 2 (d := d_p_hashing_Hasher_digest) rfl
theorem n_p_hashing_Hasher_digest {fd : FuncData} {fa : Addr} (F : FunD K "digest" "Hasher.digest" (defArgs (inClass (top 9) 1)) (defBody (inClass (top 9) 1)) (defScope (inClass (top 9) 1)) [] [] fa fd) : Binds K fd ["self", "tag", "numbers"] [] := F.bindsN fun _ _ _ _ _ _ us hl => match us, hl with | [_, _, _], _ => rfl
theorem o_p_hashing_Hasher_digest {k : Nat} (W : Wo K (C0 K) T.fo) (fr : Fr mg) (gc : Gc K mg) (wa : ∀ j, j < k → Wl P w K mg base j) {fd : FuncData} {fa : Addr} (F : FunD K "digest" "Hasher.digest" (defArgs (inClass (top 9) 1)) (defBody (inClass (top 9) 1)) (defScope (inClass (top 9) 1)) [] [] fa fd) :
    FnOk P w K mg base CX0 k fa fd ["self", "tag", "numbers"] (spE T (C0 K) k 4) := by
  cases k with
  | zero => exact fn_zero
  | succ k => exact M.fn_ok F sc_p_hashing_Hasher_digest rfl rfl rfl (by decide) fun tp b cdv A outer s H E hr => b_p_hashing_Hasher_digest W fr gc (fun j hj => wa j (by omega)) tp b fa cdv A outer s H E hr
theorem q_p_hashing_Hasher_is_digest (c : He.SaysD fa fn K) : ∃ fd, FunD K "is_digest" "Hasher.is_digest" (defArgs (inClass (top 9) 2)) (defBody (inClass (top 9) 2)) (defScope (inClass (top 9) 2)) [] [] (He.fAd K d_p_hashing_Hasher_is_digest.at_) fd := c.def_ 3 (d := d_p_hashing_Hasher_is_digest) rfl
theorem n_p_hashing_Hasher_is_digest {fd : FuncData} {fa : Addr} (F : FunD K "is_digest" "Hasher.is_digest" (defArgs (inClass (top 9) 2)) (defBody (inClass (top 9) 2)) (defScope (inClass (top 9) 2)) [] [] fa fd) : Binds K fd ["self", "number"] [] := F.bindsN fun _ _ _ _ _ _ us hl => match us, hl with | [_, _], _ => rfl
theorem o_p_hashing_Hasher_is_digest {k : Nat} (W : Wo K (C0 K) T.fo) (fr : Fr mg) (gc : Gc K mg) (wa : ∀ j, j < k → Wl P w K mg base j) {fd : FuncData} {fa : Addr} (F : FunD K "is_digest" "Hasher.is_digest" (defArgs (inClass (top 9) 2)) (defBody (inClass (top 9) 2)) (defScope (inClass (top 9) 2)) [] [] fa fd) :
    FnOk P w K mg base CX0 k fa fd ["self", "number"] (spE T (C0 K) k 5) := by
  cases k with
  | zero => exact fn_zero
  | succ k => exact M.fn_ok F sc_p_hashing_Hasher_is_digest rfl rfl rfl (by decide) fun tp b cdv A outer s H E hr => b_p_hashing_Hasher_is_digest W fr gc (fun j hj => wa j (by omega)) tp b fa cdv A outer s H E hr
theorem q_p_signing_digit_counts (c : He.SaysD fa fn K) : ∃ fd, FunD K "digit_counts" "digit_counts" (defArgs (top 17)) (defBody (top 17)) (defScope (top 17)) [] [] (He.fAd K d_p_signing_digit_counts.at_) fd := c.def_ 4 (d := d_p_signing_digit_counts) rfl
theorem n_p_signing_digit_counts {fd : FuncData} {fa : Addr} (F : FunD K "digit_counts" "digit_counts" (defArgs (top 17)) (defBody (top 17)) (defScope (top 17)) [] [] fa fd) : Binds K fd ["width"] [] := F.bindsN fun _ _ _ _ _ _ us hl => match us, hl with | [_], _ => rfl
theorem o_p_signing_digit_counts {k : Nat} (W : Wo K (C0 K) T.fo) (fr : Fr mg) (gc : Gc K mg) (wa : ∀ j, j < k → Wl P w K mg base j) {fd : FuncData} {fa : Addr} (F : FunD K "digit_counts" "digit_counts" (defArgs (top 17)) (defBody (top 17)) (defScope (top 17)) [] [] fa fd) :
    FnOk P w K mg base CX0 k fa fd ["width"] (spE T (C0 K) k 0) := by
  cases k with
  | zero => exact fn_zero
  | succ k => exact M.fn_ok F sc_p_signing_digit_counts rfl rfl rfl (by decide) fun tp b cdv A outer s H E hr => b_p_signing_digit_counts W fr gc (fun j hj => wa j (by omega)) tp b fa cdv A outer s H E hr
theorem q_p_signing_digits_of (c : He.SaysD fa fn K) : ∃ fd, FunD K "digits_of" "digits_of" (defArgs (top 18)) (defBody (top 18)) (defScope (top 18)) [] [] (He.fAd K d_p_signing_digits_of.at_) fd := c.def_ 5 (d := d_p_signing_digits_of) rfl
theorem n_p_signing_digits_of {fd : FuncData} {fa : Addr} (F : FunD K "digits_of" "digits_of" (defArgs (top 18)) (defBody (top 18)) (defScope (top 18)) [] [] fa fd) : Binds K fd ["width", "message"] [] := F.bindsN fun _ _ _ _ _ _ us hl => match us, hl with | [_, _], _ => rfl
theorem o_p_signing_digits_of {k : Nat} (W : Wo K (C0 K) T.fo) (fr : Fr mg) (gc : Gc K mg) (wa : ∀ j, j < k → Wl P w K mg base j) {fd : FuncData} {fa : Addr} (F : FunD K "digits_of" "digits_of" (defArgs (top 18)) (defBody (top 18)) (defScope (top 18)) [] [] fa fd) :
    FnOk P w K mg base CX0 k fa fd ["width", "message"] (spE T (C0 K) k 1) := by
  cases k with
  | zero => exact fn_zero
  | succ k => exact M.fn_ok F sc_p_signing_digits_of rfl rfl rfl (by decide) fun tp b cdv A outer s H E hr => b_p_signing_digits_of W fr gc (fun j hj => wa j (by omega)) tp b fa cdv A outer s H E hr
theorem q_p_signing_stepped (c : He.SaysD fa fn K) : ∃ fd, FunD K "stepped" "stepped" (defArgs (top 19)) (defBody (top 19)) (defScope (top 19)) [] [] (He.fAd K d_p_signing_stepped.at_) fd := c.def_ 6 (d := d_p_signing_stepped) rfl
theorem n_p_signing_stepped {fd : FuncData} {fa : Addr} (F : FunD K "stepped" "stepped" (defArgs (top 19)) (defBody (top 19)) (defScope (top 19)) [] [] fa fd) : Binds K fd ["hasher", "index", "chain", "word", "first", "last"] [] := F.bindsN fun _ _ _ _ _ _ us hl => match us, hl with | [_, _, _, _, _, _], _ => rfl
theorem o_p_signing_stepped {k : Nat} (W : Wo K (C0 K) T.fo) (fr : Fr mg) (gc : Gc K mg) (wa : ∀ j, j < k → Wl P w K mg base j) {fd : FuncData} {fa : Addr} (F : FunD K "stepped" "stepped" (defArgs (top 19)) (defBody (top 19)) (defScope (top 19)) [] [] fa fd) :
    FnOk P w K mg base CX0 k fa fd ["hasher", "index", "chain", "word", "first", "last"] (spE T (C0 K) k 50) := by
  cases k with
  | zero => exact fn_zero
  | succ k => exact M.fn_ok F sc_p_signing_stepped rfl rfl rfl (by decide) fun tp b cdv A outer s H E hr => b_p_signing_stepped W fr gc (fun j hj => wa j (by omega)) tp b fa cdv A outer s H E hr
theorem q_p_signing_key_digest (c : He.SaysD fa fn K) : ∃ fd, FunD K "key_digest" "key_digest" (defArgs (top 20)) (defBody (top 20)) (defScope (top 20)) [] [] (He.fAd K d_p_signing_key_digest.at_) fd := c.def_ 7 (d := d_p_signing_key_digest) rfl
theorem n_p_signing_key_digest {fd : FuncData} {fa : Addr} (F : FunD K "key_digest" "key_digest" (defArgs (top 20)) (defBody (top 20)) (defScope (top 20)) [] [] fa fd) : Binds K fd ["hasher", "index", "tops"] [] := F.bindsN fun _ _ _ _ _ _ us hl => match us, hl with | [_, _, _], _ => rfl
theorem o_p_signing_key_digest {k : Nat} (W : Wo K (C0 K) T.fo) (fr : Fr mg) (gc : Gc K mg) (wa : ∀ j, j < k → Wl P w K mg base j) {fd : FuncData} {fa : Addr} (F : FunD K "key_digest" "key_digest" (defArgs (top 20)) (defBody (top 20)) (defScope (top 20)) [] [] fa fd) :
    FnOk P w K mg base CX0 k fa fd ["hasher", "index", "tops"] (spE T (C0 K) k 51) := by
  cases k with
  | zero => exact fn_zero
  | succ k => exact M.fn_ok F sc_p_signing_key_digest rfl rfl rfl (by decide) fun tp b cdv A outer s H E hr => b_p_signing_key_digest W fr gc (fun j hj => wa j (by omega)) tp b fa cdv A outer s H E hr
theorem q_p_signing_Signer___init__ (c : He.SaysD fa fn K) : ∃ fd, FunD K "__init__" "Signer.__init__" (defArgs (inClass (top 21) 0)) (defBody (inClass (top 21) 0)) (defScope (inClass (top 21) 0)) [] [] (He.fAd K d_p_signing_Signer___init__.at_) fd := c.def_ 8 (d := d_p_signing_Signer___init__) rfl
theorem n_p_signing_Signer___init__ {fd : FuncData} {fa : Addr} (F : FunD K "__init__" "Signer.__init__" (defArgs (inClass (top 21) 0)) (defBody (inClass (top 21) 0)) (defScope (inClass (top 21) 0)) [] [] fa fd) : Binds K fd ["self", "hasher", "secret", "levels"] [] := F.bindsN fun _ _ _ _ _ _ us hl => match us, hl with | [_, _, _, _], _ => rfl
theorem o_p_signing_Signer___init__ {k : Nat} (W : Wo K (C0 K) T.fo) (fr : Fr mg) (gc : Gc K mg) (wa : ∀ j, j < k → Wl P w K mg base j) {fd : FuncData} {fa : Addr} (F : FunD K "__init__" "Signer.__init__" (defArgs (inClass (top 21) 0)) (defBody (inClass (top 21) 0)) (defScope (inClass (top 21) 0)) [] [] fa fd) :
    FnOk P w K mg base CX0 k fa fd ["self", "hasher", "secret", "levels"] (spE T (C0 K) k 52) := by
  cases k with
  | zero => exact fn_zero
  | succ k => exact M.fn_ok F sc_p_signing_Signer___init__ rfl rfl rfl (by decide) fun tp b cdv A outer s H E hr => b_p_signing_Signer___init__ W fr gc (fun j hj => wa j (by omega)) tp b fa cdv A outer s H E hr
theorem q_p_signing_Signer_chains (c : He.SaysD fa fn K) : ∃ fd, FunD K "chains" "Signer.chains" (defArgs (inClass (top 21) 1)) (defBody (inClass (top 21) 1)) (defScope (inClass (top 21) 1)) [] [] (He.fAd K d_p_signing_Signer_chains.at_) fd := c.def_ 9 (d := d_p_signing_Signer_chains) rfl
theorem n_p_signing_Signer_chains {fd : FuncData} {fa : Addr} (F : FunD K "chains" "Signer.chains" (defArgs (inClass (top 21) 1)) (defBody (inClass (top 21) 1)) (defScope (inClass (top 21) 1)) [] [] fa fd) : Binds K fd ["self"] [] := F.bindsN fun _ _ _ _ _ _ us hl => match us, hl with | [_], _ => rfl
theorem o_p_signing_Signer_chains {k : Nat} (W : Wo K (C0 K) T.fo) (fr : Fr mg) (gc : Gc K mg) (wa : ∀ j, j < k → Wl P w K mg base j) {fd : FuncData} {fa : Addr} (F : FunD K "chains" "Signer.chains" (defArgs (inClass (top 21) 1)) (defBody (inClass (top 21) 1)) (defScope (inClass (top 21) 1)) [] [] fa fd) :
    FnOk P w K mg base CX0 k fa fd ["self"] (spE T (C0 K) k 53) := by
  cases k with
  | zero => exact fn_zero
  | succ k => exact M.fn_ok F sc_p_signing_Signer_chains rfl rfl rfl (by decide) fun tp b cdv A outer s H E hr => b_p_signing_Signer_chains W fr gc (fun j hj => wa j (by omega)) tp b fa cdv A outer s H E hr
theorem q_p_signing_Signer_key_words (c : He.SaysD fa fn K) : ∃ fd, FunD K "key_words" "Signer.key_words" (defArgs (inClass (top 21) 2)) (defBody (inClass (top 21) 2)) (defScope (inClass (top 21) 2)) [] [] (He.fAd K d_p_signing_Signer_key_words.at_) fd := c.def_ 10 (d := d_p_signing_Signer_key_words) rfl
theorem n_p_signing_Signer_key_words {fd : FuncData} {fa : Addr} (F : FunD K "key_words" "Signer.key_words" (defArgs (inClass (top 21) 2)) (defBody (inClass (top 21) 2)) (defScope (inClass (top 21) 2)) [] [] fa fd) : Binds K fd ["self", "index"] [] := F.bindsN fun _ _ _ _ _ _ us hl => match us, hl with | [_, _], _ => rfl
theorem o_p_signing_Signer_key_words {k : Nat} (W : Wo K (C0 K) T.fo) (fr : Fr mg) (gc : Gc K mg) (wa : ∀ j, j < k → Wl P w K mg base j) {fd : FuncData} {fa : Addr} (F : FunD K "key_words" "Signer.key_words" (defArgs (inClass (top 21) 2)) (defBody (inClass (top 21) 2)) (defScope (inClass (top 21) 2)) [] [] fa fd) :
    FnOk P w K mg base CX0 k fa fd ["self", "index"] (spE T (C0 K) k 54) := by
  cases k with
  | zero => exact fn_zero
  | succ k => exact M.fn_ok F sc_p_signing_Signer_key_words rfl rfl rfl (by decide) fun tp b cdv A outer s H E hr => b_p_signing_Signer_key_words W fr gc (fun j hj => wa j (by omega)) tp b fa cdv A outer s H E hr
theorem q_p_signing_Signer_word (c : He.SaysD fa fn K) : ∃ fd, FunD K "word" "Signer.word" (defArgs (inClass (top 21) 3)) (defBody (inClass (top 21) 3)) (defScope (inClass (top 21) 3)) [] [] (He.fAd K d_p_signing_Signer_word.at_) fd := c.def_ 11 (d := d_p_signing_Signer_word) rfl
theorem n_p_signing_Signer_word {fd : FuncData} {fa : Addr} (F : FunD K "word" "Signer.word" (defArgs (inClass (top 21) 3)) (defBody (inClass (top 21) 3)) (defScope (inClass (top 21) 3)) [] [] fa fd) : Binds K fd ["self", "index", "chain", "step"] [] := F.bindsN fun _ _ _ _ _ _ us hl => match us, hl with | [_, _, _, _], _ => rfl
theorem o_p_signing_Signer_word {k : Nat} (W : Wo K (C0 K) T.fo) (fr : Fr mg) (gc : Gc K mg) (wa : ∀ j, j < k → Wl P w K mg base j) {fd : FuncData} {fa : Addr} (F : FunD K "word" "Signer.word" (defArgs (inClass (top 21) 3)) (defBody (inClass (top 21) 3)) (defScope (inClass (top 21) 3)) [] [] fa fd) :
    FnOk P w K mg base CX0 k fa fd ["self", "index", "chain", "step"] (spE T (C0 K) k 55) := by
  cases k with
  | zero => exact fn_zero
  | succ k => exact M.fn_ok F sc_p_signing_Signer_word rfl rfl rfl (by decide) fun tp b cdv A outer s H E hr => b_p_signing_Signer_word W fr gc (fun j hj => wa j (by omega)) tp b fa cdv A outer s H E hr
theorem q_p_signing_Signer_tops (c : He.SaysD fa fn K) : ∃ fd, FunD K "tops" "Signer.tops" (defArgs (inClass (top 21) 4)) (defBody (inClass (top 21) 4)) (defScope (inClass (top 21) 4)) [] [] (He.fAd K d_p_signing_Signer_tops.at_) fd := c.def_ 12 (d := d_p_signing_Signer_tops) rfl
theorem n_p_signing_Signer_tops {fd : FuncData} {fa : Addr} (F : FunD K "tops" "Signer.tops" (defArgs (inClass (top 21) 4)) (defBody (inClass (top 21) 4)) (defScope (inClass (top 21) 4)) [] [] fa fd) : Binds K fd ["self", "index"] [] := F.bindsN fun _ _ _ _ _ _ us hl => match us, hl with | [_, _], _ => rfl
theorem o_p_signing_Signer_tops {k : Nat} (W : Wo K (C0 K) T.fo) (fr : Fr mg) (gc : Gc K mg) (wa : ∀ j, j < k → Wl P w K mg base j) {fd : FuncData} {fa : Addr} (F : FunD K "tops" "Signer.tops" (defArgs (inClass (top 21) 4)) (defBody (inClass (top 21) 4)) (defScope (inClass (top 21) 4)) [] [] fa fd) :
    FnOk P w K mg base CX0 k fa fd ["self", "index"] (spE T (C0 K) k 56) := by
  cases k with
  | zero => exact fn_zero
  | succ k => exact M.fn_ok F sc_p_signing_Signer_tops rfl rfl rfl (by decide) fun tp b cdv A outer s H E hr => b_p_signing_Signer_tops W fr gc (fun j hj => wa j (by omega)) tp b fa cdv A outer s H E hr
theorem q_p_signing_Signer_path (c : He.SaysD fa fn K) : ∃ fd, FunD K "path" "Signer.path" (defArgs (inClass (top 21) 5)) (defBody (inClass (top 21) 5)) (defScope (inClass (top 21) 5)) [] [] (He.fAd K d_p_signing_Signer_path.at_) fd := c.def_ 13 (d := d_p_signing_Signer_path) rfl
theorem n_p_signing_Signer_path {fd : FuncData} {fa : Addr} (F : FunD K "path" "Signer.path" (defArgs (inClass (top 21) 5)) (defBody (inClass (top 21) 5)) (defScope (inClass (top 21) 5)) [] [] fa fd) : Binds K fd ["self", "index"] [] := F.bindsN fun _ _ _ _ _ _ us hl => match us, hl with | [_, _], _ => rfl
theorem o_p_signing_Signer_path {k : Nat} (W : Wo K (C0 K) T.fo) (fr : Fr mg) (gc : Gc K mg) (wa : ∀ j, j < k → Wl P w K mg base j) {fd : FuncData} {fa : Addr} (F : FunD K "path" "Signer.path" (defArgs (inClass (top 21) 5)) (defBody (inClass (top 21) 5)) (defScope (inClass (top 21) 5)) [] [] fa fd) :
    FnOk P w K mg base CX0 k fa fd ["self", "index"] (spE T (C0 K) k 57) := by
  cases k with
  | zero => exact fn_zero
  | succ k => exact M.fn_ok F sc_p_signing_Signer_path rfl rfl rfl (by decide) fun tp b cdv A outer s H E hr => b_p_signing_Signer_path W fr gc (fun j hj => wa j (by omega)) tp b fa cdv A outer s H E hr
theorem q_p_signing_Signer_sign (c : He.SaysD fa fn K) : ∃ fd, FunD K "sign" "Signer.sign" (defArgs (inClass (top 21) 6)) (defBody (inClass (top 21) 6)) (defScope (inClass (top 21) 6)) [] [] (He.fAd K d_p_signing_Signer_sign.at_) fd := c.def_ 14 (d := d_p_signing_Signer_sign) rfl
theorem n_p_signing_Signer_sign {fd : FuncData} {fa : Addr} (F : FunD K "sign" "Signer.sign" (defArgs (inClass (top 21) 6)) (defBody (inClass (top 21) 6)) (defScope (inClass (top 21) 6)) [] [] fa fd) : Binds K fd ["self", "index", "message"] [] := F.bindsN fun _ _ _ _ _ _ us hl => match us, hl with | [_, _, _], _ => rfl
theorem o_p_signing_Signer_sign {k : Nat} (W : Wo K (C0 K) T.fo) (fr : Fr mg) (gc : Gc K mg) (wa : ∀ j, j < k → Wl P w K mg base j) {fd : FuncData} {fa : Addr} (F : FunD K "sign" "Signer.sign" (defArgs (inClass (top 21) 6)) (defBody (inClass (top 21) 6)) (defScope (inClass (top 21) 6)) [] [] fa fd) :
    FnOk P w K mg base CX0 k fa fd ["self", "index", "message"] (spE T (C0 K) k 58) := by
  cases k with
  | zero => exact fn_zero
  | succ k => exact M.fn_ok F sc_p_signing_Signer_sign rfl rfl rfl (by decide) fun tp b cdv A outer s H E hr => b_p_signing_Signer_sign W fr gc (fun j hj => wa j (by omega)) tp b fa cdv A outer s H E hr
theorem q_p_signing_levels_of (c : He.SaysD fa fn K) : ∃ fd, FunD K "levels_of" "levels_of" (defArgs (top 22)) (defBody (top 22)) (defScope (top 22)) [] [] (He.fAd K d_p_signing_levels_of.at_) fd := c.def_ 15 (d := d_p_signing_levels_of) rfl
theorem n_p_signing_levels_of {fd : FuncData} {fa : Addr} (F : FunD K "levels_of" "levels_of" (defArgs (top 22)) (defBody (top 22)) (defScope (top 22)) [] [] fa fd) : Binds K fd ["hasher", "signature"] [] := F.bindsN fun _ _ _ _ _ _ us hl => match us, hl with | [_, _], _ => rfl
theorem o_p_signing_levels_of {k : Nat} (W : Wo K (C0 K) T.fo) (fr : Fr mg) (gc : Gc K mg) (wa : ∀ j, j < k → Wl P w K mg base j) {fd : FuncData} {fa : Addr} (F : FunD K "levels_of" "levels_of" (defArgs (top 22)) (defBody (top 22)) (defScope (top 22)) [] [] fa fd) :
    FnOk P w K mg base CX0 k fa fd ["hasher", "signature"] (spE T (C0 K) k 59) := by
  cases k with
  | zero => exact fn_zero
  | succ k => exact M.fn_ok F sc_p_signing_levels_of rfl rfl rfl (by decide) fun tp b cdv A outer s H E hr => b_p_signing_levels_of W fr gc (fun j hj => wa j (by omega)) tp b fa cdv A outer s H E hr
theorem q_p_signing_inputs_of (c : He.SaysD fa fn K) : ∃ fd, FunD K "inputs_of" "inputs_of" (defArgs (top 23)) (defBody (top 23)) (defScope (top 23)) [] [] (He.fAd K d_p_signing_inputs_of.at_) fd := c.def_ 16 (d := d_p_signing_inputs_of) rfl
theorem n_p_signing_inputs_of {fd : FuncData} {fa : Addr} (F : FunD K "inputs_of" "inputs_of" (defArgs (top 23)) (defBody (top 23)) (defScope (top 23)) [] [] fa fd) : Binds K fd ["hasher", "message", "signature"] [] := F.bindsN fun _ _ _ _ _ _ us hl => match us, hl with | [_, _, _], _ => rfl
theorem o_p_signing_inputs_of {k : Nat} (W : Wo K (C0 K) T.fo) (fr : Fr mg) (gc : Gc K mg) (wa : ∀ j, j < k → Wl P w K mg base j) {fd : FuncData} {fa : Addr} (F : FunD K "inputs_of" "inputs_of" (defArgs (top 23)) (defBody (top 23)) (defScope (top 23)) [] [] fa fd) :
    FnOk P w K mg base CX0 k fa fd ["hasher", "message", "signature"] (spE T (C0 K) k 60) := by
  cases k with
  | zero => exact fn_zero
  | succ k => exact M.fn_ok F sc_p_signing_inputs_of rfl rfl rfl (by decide) fun tp b cdv A outer s H E hr => b_p_signing_inputs_of W fr gc (fun j hj => wa j (by omega)) tp b fa cdv A outer s H E hr
theorem q_p_signing_verify (c : He.SaysD fa fn K) : ∃ fd, FunD K "verify" "verify" (defArgs (top 24)) (defBody (top 24)) (defScope (top 24)) [] [] (He.fAd K d_p_signing_verify.at_) fd := c.def_ 17 (d := d_p_signing_verify) rfl
theorem n_p_signing_verify {fd : FuncData} {fa : Addr} (F : FunD K "verify" "verify" (defArgs (top 24)) (defBody (top 24)) (defScope (top 24)) [] [] fa fd) : Binds K fd ["hasher", "public", "message", "signature"] [] := F.bindsN fun _ _ _ _ _ _ us hl => match us, hl with | [_, _, _, _], _ => rfl
theorem o_p_signing_verify {k : Nat} (W : Wo K (C0 K) T.fo) (fr : Fr mg) (gc : Gc K mg) (wa : ∀ j, j < k → Wl P w K mg base j) {fd : FuncData} {fa : Addr} (F : FunD K "verify" "verify" (defArgs (top 24)) (defBody (top 24)) (defScope (top 24)) [] [] fa fd) :
    FnOk P w K mg base CX0 k fa fd ["hasher", "public", "message", "signature"] (spE T (C0 K) k 61) := by
  cases k with
  | zero => exact fn_zero
  | succ k => exact M.fn_ok F sc_p_signing_verify rfl rfl rfl (by decide) fun tp b cdv A outer s H E hr => b_p_signing_verify W fr gc (fun j hj => wa j (by omega)) tp b fa cdv A outer s H E hr
theorem q_p_validators_members_fault (c : He.SaysD fa fn K) : ∃ fd, FunD K "members_fault" "members_fault" (defArgs (top 29)) (defBody (top 29)) (defScope (top 29)) [] [] (He.fAd K d_p_validators_members_fault.at_) fd := c.def_ 18 (d := d_p_validators_members_fault) rfl
theorem n_p_validators_members_fault {fd : FuncData} {fa : Addr} (F : FunD K "members_fault" "members_fault" (defArgs (top 29)) (defBody (top 29)) (defScope (top 29)) [] [] fa fd) : Binds K fd ["members"] [] := F.bindsN fun _ _ _ _ _ _ us hl => match us, hl with | [_], _ => rfl
theorem o_p_validators_members_fault {k : Nat} (W : Wo K (C0 K) T.fo) (fr : Fr mg) (gc : Gc K mg) (wa : ∀ j, j < k → Wl P w K mg base j) {fd : FuncData} {fa : Addr} (F : FunD K "members_fault" "members_fault" (defArgs (top 29)) (defBody (top 29)) (defScope (top 29)) [] [] fa fd) :
    FnOk P w K mg base CX0 k fa fd ["members"] (spE T (C0 K) k 89) := by
  cases k with
  | zero => exact fn_zero
  | succ k => exact M.fn_ok F sc_p_validators_members_fault rfl rfl rfl (by decide) fun tp b cdv A outer s H E hr => b_p_validators_members_fault W fr gc (fun j hj => wa j (by omega)) tp b fa cdv A outer s H E hr
theorem q_p_validators_members_numbers (c : He.SaysD fa fn K) : ∃ fd, FunD K "members_numbers" "members_numbers" (defArgs (top 30)) (defBody (top 30)) (defScope (top 30)) [] [] (He.fAd K d_p_validators_members_numbers.at_) fd := c.def_ 19 (d := d_p_validators_members_numbers) rfl
theorem n_p_validators_members_numbers {fd : FuncData} {fa : Addr} (F : FunD K "members_numbers" "members_numbers" (defArgs (top 30)) (defBody (top 30)) (defScope (top 30)) [] [] fa fd) : Binds K fd ["members"] [] := F.bindsN fun _ _ _ _ _ _ us hl => match us, hl with | [_], _ => rfl
theorem o_p_validators_members_numbers {k : Nat} (W : Wo K (C0 K) T.fo) (fr : Fr mg) (gc : Gc K mg) (wa : ∀ j, j < k → Wl P w K mg base j) {fd : FuncData} {fa : Addr} (F : FunD K "members_numbers" "members_numbers" (defArgs (top 30)) (defBody (top 30)) (defScope (top 30)) [] [] fa fd) :
    FnOk P w K mg base CX0 k fa fd ["members"] (spE T (C0 K) k 90) := by
  cases k with
  | zero => exact fn_zero
  | succ k => exact M.fn_ok F sc_p_validators_members_numbers rfl rfl rfl (by decide) fun tp b cdv A outer s H E hr => b_p_validators_members_numbers W fr gc (fun j hj => wa j (by omega)) tp b fa cdv A outer s H E hr
theorem q_p_validators_members_root (c : He.SaysD fa fn K) : ∃ fd, FunD K "members_root" "members_root" (defArgs (top 31)) (defBody (top 31)) (defScope (top 31)) [] [] (He.fAd K d_p_validators_members_root.at_) fd := c.def_ 20 (d := d_p_validators_members_root) rfl
theorem n_p_validators_members_root {fd : FuncData} {fa : Addr} (F : FunD K "members_root" "members_root" (defArgs (top 31)) (defBody (top 31)) (defScope (top 31)) [] [] fa fd) : Binds K fd ["hasher", "members"] [] := F.bindsN fun _ _ _ _ _ _ us hl => match us, hl with | [_, _], _ => rfl
theorem o_p_validators_members_root {k : Nat} (W : Wo K (C0 K) T.fo) (fr : Fr mg) (gc : Gc K mg) (wa : ∀ j, j < k → Wl P w K mg base j) {fd : FuncData} {fa : Addr} (F : FunD K "members_root" "members_root" (defArgs (top 31)) (defBody (top 31)) (defScope (top 31)) [] [] fa fd) :
    FnOk P w K mg base CX0 k fa fd ["hasher", "members"] (spE T (C0 K) k 91) := by
  cases k with
  | zero => exact fn_zero
  | succ k => exact M.fn_ok F sc_p_validators_members_root rfl rfl rfl (by decide) fun tp b cdv A outer s H E hr => b_p_validators_members_root W fr gc (fun j hj => wa j (by omega)) tp b fa cdv A outer s H E hr
theorem q_p_validators_total (c : He.SaysD fa fn K) : ∃ fd, FunD K "total" "total" (defArgs (top 32)) (defBody (top 32)) (defScope (top 32)) [] [] (He.fAd K d_p_validators_total.at_) fd := c.def_ 21 (d := d_p_validators_total) rfl
theorem n_p_validators_total {fd : FuncData} {fa : Addr} (F : FunD K "total" "total" (defArgs (top 32)) (defBody (top 32)) (defScope (top 32)) [] [] fa fd) : Binds K fd ["members"] [] := F.bindsN fun _ _ _ _ _ _ us hl => match us, hl with | [_], _ => rfl
theorem o_p_validators_total {k : Nat} (W : Wo K (C0 K) T.fo) (fr : Fr mg) (gc : Gc K mg) (wa : ∀ j, j < k → Wl P w K mg base j) {fd : FuncData} {fa : Addr} (F : FunD K "total" "total" (defArgs (top 32)) (defBody (top 32)) (defScope (top 32)) [] [] fa fd) :
    FnOk P w K mg base CX0 k fa fd ["members"] (spE T (C0 K) k 92) := by
  cases k with
  | zero => exact fn_zero
  | succ k => exact M.fn_ok F sc_p_validators_total rfl rfl rfl (by decide) fun tp b cdv A outer s H E hr => b_p_validators_total W fr gc (fun j hj => wa j (by omega)) tp b fa cdv A outer s H E hr
theorem q_p_validators_weight_of (c : He.SaysD fa fn K) : ∃ fd, FunD K "weight_of" "weight_of" (defArgs (top 33)) (defBody (top 33)) (defScope (top 33)) [] [] (He.fAd K d_p_validators_weight_of.at_) fd := c.def_ 22 (d := d_p_validators_weight_of) rfl
theorem n_p_validators_weight_of {fd : FuncData} {fa : Addr} (F : FunD K "weight_of" "weight_of" (defArgs (top 33)) (defBody (top 33)) (defScope (top 33)) [] [] fa fd) : Binds K fd ["members", "publics"] [] := F.bindsN fun _ _ _ _ _ _ us hl => match us, hl with | [_, _], _ => rfl
theorem o_p_validators_weight_of {k : Nat} (W : Wo K (C0 K) T.fo) (fr : Fr mg) (gc : Gc K mg) (wa : ∀ j, j < k → Wl P w K mg base j) {fd : FuncData} {fa : Addr} (F : FunD K "weight_of" "weight_of" (defArgs (top 33)) (defBody (top 33)) (defScope (top 33)) [] [] fa fd) :
    FnOk P w K mg base CX0 k fa fd ["members", "publics"] (spE T (C0 K) k 93) := by
  cases k with
  | zero => exact fn_zero
  | succ k => exact M.fn_ok F sc_p_validators_weight_of rfl rfl rfl (by decide) fun tp b cdv A outer s H E hr => b_p_validators_weight_of W fr gc (fun j hj => wa j (by omega)) tp b fa cdv A outer s H E hr
theorem q_p_validators_more_than (c : He.SaysD fa fn K) : ∃ fd, FunD K "more_than" "more_than" (defArgs (top 34)) (defBody (top 34)) (defScope (top 34)) [] [] (He.fAd K d_p_validators_more_than.at_) fd := c.def_ 23 (d := d_p_validators_more_than) rfl
theorem n_p_validators_more_than {fd : FuncData} {fa : Addr} (F : FunD K "more_than" "more_than" (defArgs (top 34)) (defBody (top 34)) (defScope (top 34)) [] [] fa fd) : Binds K fd ["members", "publics", "parts", "whole"] [] := F.bindsN fun _ _ _ _ _ _ us hl => match us, hl with | [_, _, _, _], _ => rfl
theorem o_p_validators_more_than {k : Nat} (W : Wo K (C0 K) T.fo) (fr : Fr mg) (gc : Gc K mg) (wa : ∀ j, j < k → Wl P w K mg base j) {fd : FuncData} {fa : Addr} (F : FunD K "more_than" "more_than" (defArgs (top 34)) (defBody (top 34)) (defScope (top 34)) [] [] fa fd) :
    FnOk P w K mg base CX0 k fa fd ["members", "publics", "parts", "whole"] (spE T (C0 K) k 94) := by
  cases k with
  | zero => exact fn_zero
  | succ k => exact M.fn_ok F sc_p_validators_more_than rfl rfl rfl (by decide) fun tp b cdv A outer s H E hr => b_p_validators_more_than W fr gc (fun j hj => wa j (by omega)) tp b fa cdv A outer s H E hr
theorem q_p_validators_signers (c : He.SaysD fa fn K) : ∃ fd, FunD K "signers" "signers" (defArgs (top 35)) (defBody (top 35)) (defScope (top 35)) [] [] (He.fAd K d_p_validators_signers.at_) fd := c.def_ 24 (d := d_p_validators_signers) rfl
theorem n_p_validators_signers {fd : FuncData} {fa : Addr} (F : FunD K "signers" "signers" (defArgs (top 35)) (defBody (top 35)) (defScope (top 35)) [] [] fa fd) : Binds K fd ["hasher", "message", "members", "votes"] [] := F.bindsN fun _ _ _ _ _ _ us hl => match us, hl with | [_, _, _, _], _ => rfl
theorem o_p_validators_signers {k : Nat} (W : Wo K (C0 K) T.fo) (fr : Fr mg) (gc : Gc K mg) (wa : ∀ j, j < k → Wl P w K mg base j) {fd : FuncData} {fa : Addr} (F : FunD K "signers" "signers" (defArgs (top 35)) (defBody (top 35)) (defScope (top 35)) [] [] fa fd) :
    FnOk P w K mg base CX0 k fa fd ["hasher", "message", "members", "votes"] (spE T (C0 K) k 95) := by
  cases k with
  | zero => exact fn_zero
  | succ k => exact M.fn_ok F sc_p_validators_signers rfl rfl rfl (by decide) fun tp b cdv A outer s H E hr => b_p_validators_signers W fr gc (fun j hj => wa j (by omega)) tp b fa cdv A outer s H E hr
theorem q_l_law_number (c : He.SaysD fa fn K) : ∃ fd, FunD K "_law_number" "_law_number" (defArgs (top 37)) (defBody (top 37)) (defScope (top 37)) [] [] (He.fAd K d_l_law_number.at_) fd := c.def_ 25 (d := d_l_law_number) rfl
theorem n_l_law_number {fd : FuncData} {fa : Addr} (F : FunD K "_law_number" "_law_number" (defArgs (top 37)) (defBody (top 37)) (defScope (top 37)) [] [] fa fd) : Binds K fd ["_law_cell", "_law_k"] [] := F.bindsN fun _ _ _ _ _ _ us hl => match us, hl with | [_, _], _ => rfl
theorem o_l_law_number {k : Nat} (W : Wo K (C0 K) T.fo) (fr : Fr mg) (gc : Gc K mg) (wa : ∀ j, j < k → Wl P w K mg base j) {fd : FuncData} {fa : Addr} (F : FunD K "_law_number" "_law_number" (defArgs (top 37)) (defBody (top 37)) (defScope (top 37)) [] [] fa fd) :
    FnOk P w K mg base CX0 k fa fd ["_law_cell", "_law_k"] (spE T (C0 K) k 1000) := by
  cases k with
  | zero => exact fn_zero
  | succ k => exact M.fn_ok F sc_l_law_number rfl rfl rfl (by decide) fun tp b cdv A outer s H E hr => b_l_law_number W fr gc (fun j hj => wa j (by omega)) tp b fa cdv A outer s H E hr
theorem q_l_law_cells (c : He.SaysD fa fn K) : ∃ fd, FunD K "_law_cells" "_law_cells" (defArgs (top 38)) (defBody (top 38)) (defScope (top 38)) [] [] (He.fAd K d_l_law_cells.at_) fd := c.def_ 26 (d := d_l_law_cells) rfl
theorem n_l_law_cells {fd : FuncData} {fa : Addr} (F : FunD K "_law_cells" "_law_cells" (defArgs (top 38)) (defBody (top 38)) (defScope (top 38)) [] [] fa fd) : Binds K fd ["_law_script", "_law_count"] [] := F.bindsN fun _ _ _ _ _ _ us hl => match us, hl with | [_, _], _ => rfl
theorem o_l_law_cells {k : Nat} (W : Wo K (C0 K) T.fo) (fr : Fr mg) (gc : Gc K mg) (wa : ∀ j, j < k → Wl P w K mg base j) {fd : FuncData} {fa : Addr} (F : FunD K "_law_cells" "_law_cells" (defArgs (top 38)) (defBody (top 38)) (defScope (top 38)) [] [] fa fd) :
    FnOk P w K mg base CX0 k fa fd ["_law_script", "_law_count"] (spE T (C0 K) k 1001) := by
  cases k with
  | zero => exact fn_zero
  | succ k => exact M.fn_ok F sc_l_law_cells rfl rfl rfl (by decide) fun tp b cdv A outer s H E hr => b_l_law_cells W fr gc (fun j hj => wa j (by omega)) tp b fa cdv A outer s H E hr
theorem q_l_law_is (c : He.SaysD fa fn K) : ∃ fd, FunD K "_law_is" "_law_is" (defArgs (top 39)) (defBody (top 39)) (defScope (top 39)) [] [] (He.fAd K d_l_law_is.at_) fd := c.def_ 27 (d := d_l_law_is) rfl
theorem n_l_law_is {fd : FuncData} {fa : Addr} (F : FunD K "_law_is" "_law_is" (defArgs (top 39)) (defBody (top 39)) (defScope (top 39)) [] [] fa fd) : Binds K fd ["_law_actual", "_law_due"] [] := F.bindsN fun _ _ _ _ _ _ us hl => match us, hl with | [_, _], _ => rfl
theorem o_l_law_is {k : Nat} (W : Wo K (C0 K) T.fo) (fr : Fr mg) (gc : Gc K mg) (wa : ∀ j, j < k → Wl P w K mg base j) {fd : FuncData} {fa : Addr} (F : FunD K "_law_is" "_law_is" (defArgs (top 39)) (defBody (top 39)) (defScope (top 39)) [] [] fa fd) :
    FnOk P w K mg base CX0 k fa fd ["_law_actual", "_law_due"] (spE T (C0 K) k 1002) := by
  cases k with
  | zero => exact fn_zero
  | succ k => exact M.fn_ok F sc_l_law_is rfl rfl rfl (by decide) fun tp b cdv A outer s H E hr => b_l_law_is W fr gc (fun j hj => wa j (by omega)) tp b fa cdv A outer s H E hr
theorem q_l_law_keys (c : He.SaysD fa fn K) : ∃ fd, FunD K "_law_keys" "_law_keys" (defArgs (top 40)) (defBody (top 40)) (defScope (top 40)) [] [] (He.fAd K d_l_law_keys.at_) fd := c.def_ 28 (d := d_l_law_keys) rfl
theorem n_l_law_keys {fd : FuncData} {fa : Addr} (F : FunD K "_law_keys" "_law_keys" (defArgs (top 40)) (defBody (top 40)) (defScope (top 40)) [] [] fa fd) : Binds K fd ["_law_hasher", "_law_x"] [] := F.bindsN fun _ _ _ _ _ _ us hl => match us, hl with | [_, _], _ => rfl
theorem o_l_law_keys {k : Nat} (W : Wo K (C0 K) T.fo) (fr : Fr mg) (gc : Gc K mg) (wa : ∀ j, j < k → Wl P w K mg base j) {fd : FuncData} {fa : Addr} (F : FunD K "_law_keys" "_law_keys" (defArgs (top 40)) (defBody (top 40)) (defScope (top 40)) [] [] fa fd) :
    FnOk P w K mg base CX0 k fa fd ["_law_hasher", "_law_x"] (spE T (C0 K) k 1003) := by
  cases k with
  | zero => exact fn_zero
  | succ k => exact M.fn_ok F sc_l_law_keys rfl rfl rfl (by decide) fun tp b cdv A outer s H E hr => b_l_law_keys W fr gc (fun j hj => wa j (by omega)) tp b fa cdv A outer s H E hr
theorem q_l_law_spoilt (c : He.SaysD fa fn K) : ∃ fd, FunD K "_law_spoilt" "_law_spoilt" (defArgs (top 41)) (defBody (top 41)) (defScope (top 41)) [] [] (He.fAd K d_l_law_spoilt.at_) fd := c.def_ 29 (d := d_l_law_spoilt) rfl
theorem n_l_law_spoilt {fd : FuncData} {fa : Addr} (F : FunD K "_law_spoilt" "_law_spoilt" (defArgs (top 41)) (defBody (top 41)) (defScope (top 41)) [] [] fa fd) : Binds K fd ["_law_members", "_law_y"] [] := F.bindsN fun _ _ _ _ _ _ us hl => match us, hl with | [_, _], _ => rfl
theorem o_l_law_spoilt {k : Nat} (W : Wo K (C0 K) T.fo) (fr : Fr mg) (gc : Gc K mg) (wa : ∀ j, j < k → Wl P w K mg base j) {fd : FuncData} {fa : Addr} (F : FunD K "_law_spoilt" "_law_spoilt" (defArgs (top 41)) (defBody (top 41)) (defScope (top 41)) [] [] fa fd) :
    FnOk P w K mg base CX0 k fa fd ["_law_members", "_law_y"] (spE T (C0 K) k 1004) := by
  cases k with
  | zero => exact fn_zero
  | succ k => exact M.fn_ok F sc_l_law_spoilt rfl rfl rfl (by decide) fun tp b cdv A outer s H E hr => b_l_law_spoilt W fr gc (fun j hj => wa j (by omega)) tp b fa cdv A outer s H E hr
theorem q_l_law_fault (c : He.SaysD fa fn K) : ∃ fd, FunD K "_law_fault" "_law_fault" (defArgs (top 42)) (defBody (top 42)) (defScope (top 42)) [] [] (He.fAd K d_l_law_fault.at_) fd := c.def_ 30 (d := d_l_law_fault) rfl
theorem n_l_law_fault {fd : FuncData} {fa : Addr} (F : FunD K "_law_fault" "_law_fault" (defArgs (top 42)) (defBody (top 42)) (defScope (top 42)) [] [] fa fd) : Binds K fd ["_law_members"] [] := F.bindsN fun _ _ _ _ _ _ us hl => match us, hl with | [_], _ => rfl
theorem o_l_law_fault {k : Nat} (W : Wo K (C0 K) T.fo) (fr : Fr mg) (gc : Gc K mg) (wa : ∀ j, j < k → Wl P w K mg base j) {fd : FuncData} {fa : Addr} (F : FunD K "_law_fault" "_law_fault" (defArgs (top 42)) (defBody (top 42)) (defScope (top 42)) [] [] fa fd) :
    FnOk P w K mg base CX0 k fa fd ["_law_members"] (spE T (C0 K) k 1005) := by
  cases k with
  | zero => exact fn_zero
  | succ k => exact M.fn_ok F sc_l_law_fault rfl rfl rfl (by decide) fun tp b cdv A outer s H E hr => b_l_law_fault W fr gc (fun j hj => wa j (by omega)) tp b fa cdv A outer s H E hr
theorem q_l_law_votes (c : He.SaysD fa fn K) : ∃ fd, FunD K "_law_votes" "_law_votes" (defArgs (top 43)) (defBody (top 43)) (defScope (top 43)) [] [] (He.fAd K d_l_law_votes.at_) fd := c.def_ 31 (d := d_l_law_votes) rfl
theorem n_l_law_votes {fd : FuncData} {fa : Addr} (F : FunD K "_law_votes" "_law_votes" (defArgs (top 43)) (defBody (top 43)) (defScope (top 43)) [] [] fa fd) : Binds K fd ["_law_keys_here", "_law_message", "_law_z"] [] := F.bindsN fun _ _ _ _ _ _ us hl => match us, hl with | [_, _, _], _ => rfl
theorem o_l_law_votes {k : Nat} (W : Wo K (C0 K) T.fo) (fr : Fr mg) (gc : Gc K mg) (wa : ∀ j, j < k → Wl P w K mg base j) {fd : FuncData} {fa : Addr} (F : FunD K "_law_votes" "_law_votes" (defArgs (top 43)) (defBody (top 43)) (defScope (top 43)) [] [] fa fd) :
    FnOk P w K mg base CX0 k fa fd ["_law_keys_here", "_law_message", "_law_z"] (spE T (C0 K) k 1006) := by
  cases k with
  | zero => exact fn_zero
  | succ k => exact M.fn_ok F sc_l_law_votes rfl rfl rfl (by decide) fun tp b cdv A outer s H E hr => b_l_law_votes W fr gc (fun j hj => wa j (by omega)) tp b fa cdv A outer s H E hr
theorem q_l_law (c : He.SaysD fa fn K) : ∃ fd, FunD K "law" "law" (defArgs (top 44)) (defBody (top 44)) (defScope (top 44)) [] [] (He.fAd K d_l_law.at_) fd := c.def_ 32 (d := d_l_law) rfl
theorem n_l_law {fd : FuncData} {fa : Addr} (F : FunD K "law" "law" (defArgs (top 44)) (defBody (top 44)) (defScope (top 44)) [] [] fa fd) : Binds K fd ["_law_script"] [] := F.bindsN fun _ _ _ _ _ _ us hl => match us, hl with | [_], _ => rfl
theorem o_l_law {k : Nat} (W : Wo K (C0 K) T.fo) (fr : Fr mg) (gc : Gc K mg) (wa : ∀ j, j < k → Wl P w K mg base j) {fd : FuncData} {fa : Addr} (F : FunD K "law" "law" (defArgs (top 44)) (defBody (top 44)) (defScope (top 44)) [] [] fa fd) :
    FnOk P w K mg base CX0 k fa fd ["_law_script"] (spE T (C0 K) k 1007) := by
  cases k with
  | zero => exact fn_zero
  | succ k => exact M.fn_ok F sc_l_law rfl rfl rfl (by decide) fun tp b cdv A outer s H E hr => b_l_law W fr gc (fun j hj => wa j (by omega)) tp b fa cdv A outer s H E hr
theorem wl_all (X : K.In h) (G : h.Ns mainGlobals mg) (c : He.SaysD fa fn K) (ci : ics.all (M.icB K) = true) : ∀ k, Wl P w K mg base k := by
  have W := wo_of c
  have fr := fr_of X G c
  have gc := gc_of X G c ci
  intro k
  induction k using Nat.strongRecOn with
  | _ k ih =>
    obtain ⟨e_p_hashing_limbs_of, q_p_hashing_limbs_of⟩ := q_p_hashing_limbs_of c
    obtain ⟨e_p_hashing_Hasher___init__, q_p_hashing_Hasher___init__⟩ := q_p_hashing_Hasher___init__ c
    obtain ⟨e_p_hashing_Hasher_digest, q_p_hashing_Hasher_digest⟩ := q_p_hashing_Hasher_digest c
    obtain ⟨e_p_hashing_Hasher_is_digest, q_p_hashing_Hasher_is_digest⟩ := q_p_hashing_Hasher_is_digest c
    obtain ⟨e_p_signing_digit_counts, q_p_signing_digit_counts⟩ := q_p_signing_digit_counts c
    obtain ⟨e_p_signing_digits_of, q_p_signing_digits_of⟩ := q_p_signing_digits_of c
    obtain ⟨e_p_signing_stepped, q_p_signing_stepped⟩ := q_p_signing_stepped c
    obtain ⟨e_p_signing_key_digest, q_p_signing_key_digest⟩ := q_p_signing_key_digest c
    obtain ⟨e_p_signing_Signer___init__, q_p_signing_Signer___init__⟩ := q_p_signing_Signer___init__ c
    obtain ⟨e_p_signing_Signer_chains, q_p_signing_Signer_chains⟩ := q_p_signing_Signer_chains c
    obtain ⟨e_p_signing_Signer_key_words, q_p_signing_Signer_key_words⟩ := q_p_signing_Signer_key_words c
    obtain ⟨e_p_signing_Signer_word, q_p_signing_Signer_word⟩ := q_p_signing_Signer_word c
    obtain ⟨e_p_signing_Signer_tops, q_p_signing_Signer_tops⟩ := q_p_signing_Signer_tops c
    obtain ⟨e_p_signing_Signer_path, q_p_signing_Signer_path⟩ := q_p_signing_Signer_path c
    obtain ⟨e_p_signing_Signer_sign, q_p_signing_Signer_sign⟩ := q_p_signing_Signer_sign c
    obtain ⟨e_p_signing_levels_of, q_p_signing_levels_of⟩ := q_p_signing_levels_of c
    obtain ⟨e_p_signing_inputs_of, q_p_signing_inputs_of⟩ := q_p_signing_inputs_of c
    obtain ⟨e_p_signing_verify, q_p_signing_verify⟩ := q_p_signing_verify c
    obtain ⟨e_p_validators_members_fault, q_p_validators_members_fault⟩ := q_p_validators_members_fault c
    obtain ⟨e_p_validators_members_numbers, q_p_validators_members_numbers⟩ := q_p_validators_members_numbers c
    obtain ⟨e_p_validators_members_root, q_p_validators_members_root⟩ := q_p_validators_members_root c
    obtain ⟨e_p_validators_total, q_p_validators_total⟩ := q_p_validators_total c
    obtain ⟨e_p_validators_weight_of, q_p_validators_weight_of⟩ := q_p_validators_weight_of c
    obtain ⟨e_p_validators_more_than, q_p_validators_more_than⟩ := q_p_validators_more_than c
    obtain ⟨e_p_validators_signers, q_p_validators_signers⟩ := q_p_validators_signers c
    obtain ⟨e_l_law_number, q_l_law_number⟩ := q_l_law_number c
    obtain ⟨e_l_law_cells, q_l_law_cells⟩ := q_l_law_cells c
    obtain ⟨e_l_law_is, q_l_law_is⟩ := q_l_law_is c
    obtain ⟨e_l_law_keys, q_l_law_keys⟩ := q_l_law_keys c
    obtain ⟨e_l_law_spoilt, q_l_law_spoilt⟩ := q_l_law_spoilt c
    obtain ⟨e_l_law_fault, q_l_law_fault⟩ := q_l_law_fault c
    obtain ⟨e_l_law_votes, q_l_law_votes⟩ := q_l_law_votes c
    obtain ⟨e_l_law, q_l_law⟩ := q_l_law c
    refine ⟨trivial, ?_, ?_, ?_, ?_, ?_, ?_, ?_, ?_, ?_, ?_, ?_, ?_, ?_, ?_, ?_, ?_, ?_, ?_, ?_, ?_, ?_, ?_, ?_, ?_, ?_, ?_, ?_, ?_, ?_, ?_, ?_, ?_, ?_, ?_⟩
    · exact ⟨_, _, _, o_p_hashing_limbs_of W fr gc ih q_p_hashing_limbs_of, He.glo_ok X G (c.fact 16 (f := .glo "limbs_of") rfl), q_p_hashing_limbs_of.kp, n_p_hashing_limbs_of q_p_hashing_limbs_of⟩
    · exact ⟨_, _, _, o_p_signing_digit_counts W fr gc ih q_p_signing_digit_counts, He.glo_ok X G (c.fact 17 (f := .glo "digit_counts") rfl), q_p_signing_digit_counts.kp, n_p_signing_digit_counts q_p_signing_digit_counts⟩
    · exact ⟨_, _, _, o_p_signing_digits_of W fr gc ih q_p_signing_digits_of, He.glo_ok X G (c.fact 18 (f := .glo "digits_of") rfl), q_p_signing_digits_of.kp, n_p_signing_digits_of q_p_signing_digits_of⟩
    · exact ⟨_, _, _, o_p_signing_stepped W fr gc ih q_p_signing_stepped, He.glo_ok X G (c.fact 19 (f := .glo "stepped") rfl), q_p_signing_stepped.kp, n_p_signing_stepped q_p_signing_stepped⟩
    · exact ⟨_, _, _, o_p_signing_key_digest W fr gc ih q_p_signing_key_digest, He.glo_ok X G (c.fact 20 (f := .glo "key_digest") rfl), q_p_signing_key_digest.kp, n_p_signing_key_digest q_p_signing_key_digest⟩
    · exact ⟨_, _, _, o_p_signing_levels_of W fr gc ih q_p_signing_levels_of, He.glo_ok X G (c.fact 21 (f := .glo "levels_of") rfl), q_p_signing_levels_of.kp, n_p_signing_levels_of q_p_signing_levels_of⟩
    · exact ⟨_, _, _, o_p_signing_inputs_of W fr gc ih q_p_signing_inputs_of, He.glo_ok X G (c.fact 22 (f := .glo "inputs_of") rfl), q_p_signing_inputs_of.kp, n_p_signing_inputs_of q_p_signing_inputs_of⟩
    · exact ⟨_, _, _, o_p_signing_verify W fr gc ih q_p_signing_verify, He.glo_ok X G (c.fact 23 (f := .glo "verify") rfl), q_p_signing_verify.kp, n_p_signing_verify q_p_signing_verify⟩
    · exact ⟨_, _, _, o_p_validators_members_fault W fr gc ih q_p_validators_members_fault, He.glo_ok X G (c.fact 24 (f := .glo "members_fault") rfl), q_p_validators_members_fault.kp, n_p_validators_members_fault q_p_validators_members_fault⟩
    · exact ⟨_, _, _, o_p_validators_members_numbers W fr gc ih q_p_validators_members_numbers, He.glo_ok X G (c.fact 25 (f := .glo "members_numbers") rfl), q_p_validators_members_numbers.kp, n_p_validators_members_numbers q_p_validators_members_numbers⟩
    · exact ⟨_, _, _, o_p_validators_members_root W fr gc ih q_p_validators_members_root, He.glo_ok X G (c.fact 26 (f := .glo "members_root") rfl), q_p_validators_members_root.kp, n_p_validators_members_root q_p_validators_members_root⟩
    · exact ⟨_, _, _, o_p_validators_total W fr gc ih q_p_validators_total, He.glo_ok X G (c.fact 27 (f := .glo "total") rfl), q_p_validators_total.kp, n_p_validators_total q_p_validators_total⟩
    · exact ⟨_, _, _, o_p_validators_weight_of W fr gc ih q_p_validators_weight_of, He.glo_ok X G (c.fact 28 (f := .glo "weight_of") rfl), q_p_validators_weight_of.kp, n_p_validators_weight_of q_p_validators_weight_of⟩
    · exact ⟨_, _, _, o_p_validators_more_than W fr gc ih q_p_validators_more_than, He.glo_ok X G (c.fact 29 (f := .glo "more_than") rfl), q_p_validators_more_than.kp, n_p_validators_more_than q_p_validators_more_than⟩
    · exact ⟨_, _, _, o_p_validators_signers W fr gc ih q_p_validators_signers, He.glo_ok X G (c.fact 30 (f := .glo "signers") rfl), q_p_validators_signers.kp, n_p_validators_signers q_p_validators_signers⟩
    · exact ⟨_, _, _, o_l_law_number W fr gc ih q_l_law_number, He.glo_ok X G (c.fact 31 (f := .glo "_law_number") rfl), q_l_law_number.kp, n_l_law_number q_l_law_number⟩
    · exact ⟨_, _, _, o_l_law_cells W fr gc ih q_l_law_cells, He.glo_ok X G (c.fact 32 (f := .glo "_law_cells") rfl), q_l_law_cells.kp, n_l_law_cells q_l_law_cells⟩
    · exact ⟨_, _, _, o_l_law_is W fr gc ih q_l_law_is, He.glo_ok X G (c.fact 33 (f := .glo "_law_is") rfl), q_l_law_is.kp, n_l_law_is q_l_law_is⟩
    · exact ⟨_, _, _, o_l_law_keys W fr gc ih q_l_law_keys, He.glo_ok X G (c.fact 34 (f := .glo "_law_keys") rfl), q_l_law_keys.kp, n_l_law_keys q_l_law_keys⟩
    · exact ⟨_, _, _, o_l_law_spoilt W fr gc ih q_l_law_spoilt, He.glo_ok X G (c.fact 35 (f := .glo "_law_spoilt") rfl), q_l_law_spoilt.kp, n_l_law_spoilt q_l_law_spoilt⟩
    · exact ⟨_, _, _, o_l_law_fault W fr gc ih q_l_law_fault, He.glo_ok X G (c.fact 36 (f := .glo "_law_fault") rfl), q_l_law_fault.kp, n_l_law_fault q_l_law_fault⟩
    · exact ⟨_, _, _, o_l_law_votes W fr gc ih q_l_law_votes, He.glo_ok X G (c.fact 37 (f := .glo "_law_votes") rfl), q_l_law_votes.kp, n_l_law_votes q_l_law_votes⟩
    · exact ⟨_, _, _, o_l_law W fr gc ih q_l_law, He.glo_ok X G (c.fact 38 (f := .glo "law") rfl), q_l_law.kp, n_l_law q_l_law⟩
    · intro cc f e
      match cc, e with
      | 1, e => cases e
      | 2, e => cases e
      | 3, e => cases e
      | 4, e => cases e
      | n + 5, e => cases e
      | 0, e => cases e; exact ⟨_, _, _, _, o_p_hashing_Hasher_digest W fr gc ih q_p_hashing_Hasher_digest, rfl, He.cls_ok (c.fact 40 (f := .cls "Hasher") rfl), He.meth_ok (c.fact 68 (f := .meth "Hasher" "digest") rfl), n_p_hashing_Hasher_digest q_p_hashing_Hasher_digest⟩
    · intro cc f e
      match cc, e with
      | 1, e => cases e
      | 2, e => cases e
      | 3, e => cases e
      | 4, e => cases e
      | n + 5, e => cases e
      | 0, e => cases e; exact ⟨_, _, _, _, o_p_hashing_Hasher_is_digest W fr gc ih q_p_hashing_Hasher_is_digest, rfl, He.cls_ok (c.fact 40 (f := .cls "Hasher") rfl), He.meth_ok (c.fact 69 (f := .meth "Hasher" "is_digest") rfl), n_p_hashing_Hasher_is_digest q_p_hashing_Hasher_is_digest⟩
    · intro cc f e
      match cc, e with
      | 0, e => cases e
      | 1, e => cases e
      | 2, e => cases e
      | 3, e => cases e
      | n + 5, e => cases e
      | 4, e => cases e; exact ⟨_, _, _, _, o_p_signing_Signer_chains W fr gc ih q_p_signing_Signer_chains, rfl, He.cls_ok (c.fact 43 (f := .cls "Signer") rfl), He.meth_ok (c.fact 70 (f := .meth "Signer" "chains") rfl), n_p_signing_Signer_chains q_p_signing_Signer_chains⟩
    · intro cc f e
      match cc, e with
      | 0, e => cases e
      | 1, e => cases e
      | 2, e => cases e
      | 3, e => cases e
      | n + 5, e => cases e
      | 4, e => cases e; exact ⟨_, _, _, _, o_p_signing_Signer_key_words W fr gc ih q_p_signing_Signer_key_words, rfl, He.cls_ok (c.fact 43 (f := .cls "Signer") rfl), He.meth_ok (c.fact 71 (f := .meth "Signer" "key_words") rfl), n_p_signing_Signer_key_words q_p_signing_Signer_key_words⟩
    · intro cc f e
      match cc, e with
      | 0, e => cases e
      | 1, e => cases e
      | 2, e => cases e
      | 3, e => cases e
      | n + 5, e => cases e
      | 4, e => cases e; exact ⟨_, _, _, _, o_p_signing_Signer_word W fr gc ih q_p_signing_Signer_word, rfl, He.cls_ok (c.fact 43 (f := .cls "Signer") rfl), He.meth_ok (c.fact 72 (f := .meth "Signer" "word") rfl), n_p_signing_Signer_word q_p_signing_Signer_word⟩
    · intro cc f e
      match cc, e with
      | 0, e => cases e
      | 1, e => cases e
      | 2, e => cases e
      | 3, e => cases e
      | n + 5, e => cases e
      | 4, e => cases e; exact ⟨_, _, _, _, o_p_signing_Signer_tops W fr gc ih q_p_signing_Signer_tops, rfl, He.cls_ok (c.fact 43 (f := .cls "Signer") rfl), He.meth_ok (c.fact 73 (f := .meth "Signer" "tops") rfl), n_p_signing_Signer_tops q_p_signing_Signer_tops⟩
    · intro cc f e
      match cc, e with
      | 0, e => cases e
      | 1, e => cases e
      | 2, e => cases e
      | 3, e => cases e
      | n + 5, e => cases e
      | 4, e => cases e; exact ⟨_, _, _, _, o_p_signing_Signer_path W fr gc ih q_p_signing_Signer_path, rfl, He.cls_ok (c.fact 43 (f := .cls "Signer") rfl), He.meth_ok (c.fact 74 (f := .meth "Signer" "path") rfl), n_p_signing_Signer_path q_p_signing_Signer_path⟩
    · intro cc f e
      match cc, e with
      | 0, e => cases e
      | 1, e => cases e
      | 2, e => cases e
      | 3, e => cases e
      | n + 5, e => cases e
      | 4, e => cases e; exact ⟨_, _, _, _, o_p_signing_Signer_sign W fr gc ih q_p_signing_Signer_sign, rfl, He.cls_ok (c.fact 43 (f := .cls "Signer") rfl), He.meth_ok (c.fact 75 (f := .meth "Signer" "sign") rfl), n_p_signing_Signer_sign q_p_signing_Signer_sign⟩
    · intro cc f e
      cases e
    · exact ⟨_, _, _, _, o_p_hashing_Hasher___init__ W fr gc ih q_p_hashing_Hasher___init__, rfl, He.mkr_ok (c.fact 41 (f := .mkr "Hasher") rfl), He.glo_ok X G (c.fact 39 (f := .glo "Hasher") rfl), n_p_hashing_Hasher___init__ q_p_hashing_Hasher___init__⟩
    · exact ⟨_, _, _, _, o_p_signing_Signer___init__ W fr gc ih q_p_signing_Signer___init__, rfl, He.mkr_ok (c.fact 44 (f := .mkr "Signer") rfl), He.glo_ok X G (c.fact 42 (f := .glo "Signer") rfl), n_p_signing_Signer___init__ q_p_signing_Signer___init__⟩
end
theorem law_ok (lev : Nat) (hl : lev ≤ 230) (LAW : ∀ ns : List Int, ns.length ≤ 63 → (∀ i ∈ ns, PySem.Builtin.Int.intBits i ≤ 1048576) → ∃ S', evC T lev 0 1007 [.b (.scr (ns.map B.int))] [] = some (.b (.bl true), S')) : PySem.Challenge.rw_offing_k30_validators.Holds := by
  w_on; o_law
  refine HandSHeadRun.head_any (r := PySem.W.OpenLaw.row PySem.Challenge.rw_offing_k30_validators) (q := PySem.W.view (PySem.W.OpenLaw.row PySem.Challenge.rw_offing_k30_validators).prog [44]) (H := hk) (ob := ob) (M := 15000) (loose := names) (d := HandSHeadRun.topDef (PySem.W.OpenLaw.row PySem.Challenge.rw_offing_k30_validators).prog 44) (kwd := []) ob_eq
    (by kernel_rfl) (fun s => by kernel_rfl) run (by kernel_rfl) (by kernel_rfl) (by kernel_rfl) (by rfl) (by first | assumption | decide +kernel) (by decide +kernel) ⟨rfl, rfl, rfl, rfl, rfl, by decide +kernel⟩ ?hw ?hc
  case hw => w_witness2
  case hc =>
    refine M.walk_law (l := PySem.Challenge.rw_offing_k30_validators) (n := 63) (k := lev) (x := "_law_script") (T := T) (Cf := C0) (f := 1007) rfl (by decide) (by kernel_rfl) (Room.mono (k := 230) ⟨rfl, by decide, by decide⟩ hl) (fun K => rfl) ?F LAW
    intro w mg fa0 h Y G hmg0
    obtain ⟨K, KX, ce⟩ := Y
    obtain ⟨c, ci⟩ := ce.both
    have hmg : mg ("law" : PySem.Str) = some (.ref fa0) := by
      have e : (HandSHeadRun.topDef (PySem.W.OpenLaw.row PySem.Challenge.rw_offing_k30_validators).prog 44).name = ("law" : PySem.Str) := by kernel_rfl
      rw [← e]
      exact hmg0
    obtain ⟨fd, F⟩ := q_l_law c
    have e := hmg.symm.trans (He.glo_ok KX G (c.fact 38 (f := .glo "law") rfl))
    cases e
    refine ⟨K, fd, KX, fun s u => FunD.bindsA (ps := ["_law_script"]) F (fun _ _ _ _ _ _ us hl => match us, hl with | [_], _ => rfl) s [u] rfl, fun base KB GB => ?_⟩
    exact o_l_law (wo_of c) (fr_of KB GB c) (gc_of KB GB c ci) (fun j _ => wl_all KB GB c ci j) F
end G
namespace G
open M
/-! ### digests -/
/-- the limbs of a number -/
def blN (n : Nat) : List Int := if h : n = 0 then [] else ((n % 4294967296 : Nat) : Int) :: blN (n / 4294967296)
termination_by n
decreasing_by omega
def blI (x : Int) : List Int := blN x.toNat
theorem blI_0 {x : Int} (h : x ≤ 0) : blI x = [] := by
  unfold blI
  rw [blN, dif_pos (by omega)]
theorem blI_s {x : Int} (h : 0 < x) : blI x = (x % 4294967296) :: blI (x / 4294967296) := by
  unfold blI
  rw [blN, dif_neg (by omega)]
  congr 1
  · omega
  · congr 1
    omega
def limbs (ns : List Int) : List Int := (ns.length : Int) :: ns.flatMap fun x => ((blI x).length : Int) :: blI x
/-- sequences of ints as by-value data -/
def IsSq (x : B) (ns : List Int) : Prop := x = .lst (ns.map B.int) ∨ x = .tup (ns.map B.int)
theorem IsSq.len {x : B} {ns : List Int} (h : IsSq x ns) {S : Store} {m : Bool} : bi S .len m [.b x] = some (.b (.int ns.length), S) := by
  rcases h with rfl | rfl
  · show some (D.b (.int ((ns.map B.int).length : Nat)), S) = _
    rw [List.length_map]
  · show some (D.b (.int ((ns.map B.int).length : Nat)), S) = _
    rw [List.length_map]
theorem IsSq.items {x : B} {ns : List Int} (h : IsSq x ns) {S : Store} : items S .sq [.b x] = some (ns.map B.int) := by
  rcases h with rfl | rfl <;> rfl
theorem shr32 (x : Int) : x / 2 ^ (32 : Int).toNat = x / 4294967296 := rfl
/-- one number's limbs -/
theorem limbs_one {k b : Nat} {S : Store} {x : B} {v : Int} {pre : List Int} {R : Fl → Sl → Store → Prop} (hz : pre.length + (blI v).length + 2 ≤ 10000000) {n : Nat} {y : Option D} {z : Option D}
    (hR : ∀ v' z', R .nx [some (.b x), some (.ref n), some (.b (.int v')), z'] (S.set n (.lst ((pre ++ ((blI v).length : Int) :: blI v).map B.int)))) (hS : S[n]? = some (.lst (pre.map B.int))) :
    Ws (par T k b) [(.set 3 (.bi .len false [(.v 1)])), (.ex (.mt .append (.v 1) [(.k (.int 0))])), (.whl (.cmp .gt (.v 2) (.k (.int 0))) [(.ex (.mt .append (.v 1) [(.bin .band (.v 2) (.k (.int 4294967295)))])), (.augi (.v 1) (.v 3) .add (.k (.int 1))), (.set 2 (.bin .shr (.v 2) (.k (.int 32))))])]
      [some (.b x), some (.ref n), some (.b (.int v)), z] S R := by
  have hlen : bi S .len false [.ref n] = some (.b (.int pre.length), S) := by
    show pure' S (match dicD S (.ref n) with
      | some kvs => some (.b (.int kvs.length))
      | none => (seqD S (.ref n)).map fun xs => .b (.int xs.length)) = _
    unfold dicD seqD
    dsimp only
    rw [hS]
    show some (D.b (.int ((pre.map B.int).length : Nat)), S) = _
    rw [List.length_map]
  rw [ws_cons]
  simp [hlen]
  rw [ws_cons]
  simp
  rw [mt_app hS (by rw [List.length_map]; unfold SZ; omega)]
  simp
  rw [ws_cons]
  have hn := (List.getElem?_eq_some_iff.mp hS).1
  refine wx_whl (fun m σ S2 => ∃ (done : List Int) (u : Int), S.set n (.lst ((pre ++ (done.length : Int) :: done).map B.int)) = S2 ∧ [some (.b x), some (.ref n), some (.b (.int u)), some (.b (.int pre.length))] = σ ∧ blI v = done ++ blI u ∧ m = (blI u).length) (blI v).length ⟨[], v, by simp, rfl, by simp, rfl⟩ (by unfold WF; omega) ?_
  rintro m σ _ ⟨done, u, rfl, rfl, hv, hm⟩
  have hS2 := set_at (o' := .lst ((pre ++ (done.length : Int) :: done).map B.int)) hS
  have hvl : (blI v).length = done.length + (blI u).length := by rw [hv, List.length_append]
  simp
  split
  · rename_i hu
    have hb := blI_s hu
    have hbl : (blI u).length = (blI (u / 4294967296)).length + 1 := by rw [hb, List.length_cons]
    refine ⟨(blI (u / 4294967296)).length, by omega, ?_⟩
    rw [ws_cons]
    simp [PyProof.Rows.bitAnd_m32]
    have hS2' : (S.set n (.lst (pre.map B.int ++ B.int (done.length : Int) :: done.map B.int)))[n]? = some (.lst ((pre ++ (done.length : Int) :: done).map B.int)) := by
      rw [set_at hS]
      simp
    rw [mt_app hS2' (by rw [List.length_map, List.length_append, List.length_cons]; unfold SZ; omega)]
    simp
    rw [ws_cons, wx_augi]
    simp
    have hS3 : (S.set n (.lst (pre.map B.int ++ B.int (done.length : Int) :: (done.map B.int ++ [B.int (u % 4294967296)]))))[n]? = some (.lst (pre.map B.int ++ B.int (done.length : Int) :: (done.map B.int ++ [B.int (u % 4294967296)]))) := set_at hS
    rw [idx_st hS3]
    have hat : L2.atI (pre.map B.int ++ B.int (done.length : Int) :: (done.map B.int ++ [B.int (u % 4294967296)])) (pre.length : Int) = some (.int done.length) := by
      unfold L2.atI L2.ixN
      rw [if_pos (by omega), if_pos (by simp; omega)]
      show (pre.map B.int ++ _)[(pre.length : Int).toNat]? = _
      rw [Int.toNat_natCast, List.getElem?_append_right (by rw [List.length_map] <;> exact Nat.le_refl _), List.length_map, Nat.sub_self]
      rfl
    rw [hat]
    simp
    rw [seti_st hS3]
    have hix : L2.ixN (pre.map B.int ++ B.int (done.length : Int) :: (done.map B.int ++ [B.int (u % 4294967296)])).length (pre.length : Int) = some pre.length := by
      unfold L2.ixN
      rw [if_pos (by omega), if_pos (by simp; omega), Int.toNat_natCast]
    rw [hix]
    simp [ws_cons]
    refine ⟨done ++ [u % 4294967296], ?_, ?_⟩
    · simp
    · rw [hv, hb]
      simp
  · rename_i hu
    rw [blI_0 (x := u) (by omega), List.append_nil] at hv
    rw [← hv]
    have := hR u (some (.b (.int pre.length)))
    simp at this
    exact this
theorem limbs_w (k b : Nat) (S : Store) (x : B) (ns : List Int) (hx : IsSq x ns) (hz : (limbs ns).length ≤ 1000000) (Q : D → Store → Prop) (hQ : Q (.b (.lst ((limbs ns).map B.int))) S) : Wc T (k + 1) b 2 [.b x] S Q := by
  refine wc_of (fd := f_p_hashing_limbs_of) rfl rfl ?_
  unfold f_p_hashing_limbs_of
  have hnl : ns.length < SZ := by
    have : ns.length ≤ (ns.flatMap fun x => ((blI x).length : Int) :: blI x).length := by
      clear hx hz hQ
      induction ns with
      | nil => exact Nat.le_refl _
      | cons a ns ih =>
        rw [List.flatMap_cons, List.length_append, List.length_cons, List.length_cons]
        omega
    have h2 : (limbs ns).length = (ns.flatMap fun x => ((blI x).length : Int) :: blI x).length + 1 := by unfold limbs; rw [List.length_cons]
    unfold SZ
    omega
  rw [ws_cons]
  simp [start, hx.len, allB, newL, SZ]
  rw [ws_cons, wx_for]
  simp [hx.items]
  have key := wo_forL (P := par T k S.length) (R := fun fl σ3 S3 => fl = .nx ∧ ∃ v z, σ3 = [some (.b x), some (.ref S.length), v, z] ∧ S3 = S ++ [O.lst ((limbs ns).map B.int)]) (b := [(.set 3 (.bi .len false [(.v 1)])), (.ex (.mt .append (.v 1) [(.k (.int 0))])), (.whl (.cmp .gt (.v 2) (.k (.int 0))) [(.ex (.mt .append (.v 1) [(.bin .band (.v 2) (.k (.int 4294967295)))])), (.augi (.v 1) (.v 3) .add (.k (.int 1))), (.set 2 (.bin .shr (.v 2) (.k (.int 32))))])]) (g := .n 2)
    (fun done rest σ S2 => ∃ (ds rs : List Int) (v z : Option D), ns = ds ++ rs ∧ rest = rs.map B.int ∧ σ = [some (.b x), some (.ref S.length), v, z] ∧ S2 = S ++ [O.lst (((ns.length : Int) :: ds.flatMap fun x => ((blI x).length : Int) :: blI x).map B.int)])
    (fun done y rest σ S2 hI => by
      obtain ⟨ds, rs, v, z, h1, h2, rfl, rfl⟩ := hI
      cases rs with
      | nil => cases h2
      | cons r rs =>
        cases h2
        show Wo' (some _) _
        rw [wo_some]
        have hS := last_at (S := S) (o := O.lst (((ns.length : Int) :: ds.flatMap fun x => ((blI x).length : Int) :: blI x).map B.int))
        refine limbs_one (y := none) ?_ (fun v' z' => ?_) hS
        · have e : (limbs ns).length = 1 + ((ds.flatMap fun x => ((blI x).length : Int) :: blI x).length + ((blI r).length + 1 + (rs.flatMap fun x => ((blI x).length : Int) :: blI x).length)) := by
            unfold limbs
            rw [h1, List.flatMap_append, List.length_cons, List.length_append, List.flatMap_cons, List.length_append, List.length_cons]
            omega
          rw [List.length_cons]
          omega
        · refine ⟨ds ++ [r], rs, _, _, by rw [h1]; simp, rfl, rfl, ?_⟩
          rw [last_set, List.flatMap_append]
          simp)
    (fun done σ S2 hI => by
      obtain ⟨ds, rs, v, z, h1, h2, rfl, rfl⟩ := hI
      cases rs with
      | cons r rs => cases h2
      | nil =>
        rw [List.append_nil] at h1
        subst h1
        exact ⟨rfl, v, z, rfl, rfl⟩)
    (ns.map B.int) [] [some (.b x), some (.ref S.length), none, none] (S ++ [O.lst [B.int ns.length]]) ⟨[], ns, none, none, rfl, rfl, rfl, rfl⟩
  refine key.mono fun r hr => ?_
  obtain ⟨fl, σ3, S3⟩ := r
  obtain ⟨rfl, v, z, rfl, rfl⟩ := hr
  simp [ws_cons]
  show Wo' (fin true S.length (.ref S.length) _) _
  have hfr : frz (S ++ [O.lst ((limbs ns).map B.int)]) S.length 8 (.ref S.length) = some (.lst ((limbs ns).map B.int)) := by
    unfold frz
    rw [if_neg (Nat.lt_irrefl _), last_at]
  unfold fin
  rw [if_pos rfl, hfr]
  show Wo' (some _) _
  rw [wo_some, last_take]
  exact hQ
theorem and64 (x : Int) : PySem.Builtin.bitAnd x 18446744073709551615 = x % 18446744073709551616 := by
  have hm : ∀ n : Nat, (18446744073709551615 : Int).toNat &&& n = n % 18446744073709551616 := fun n => by
    rw [Nat.and_comm]
    exact Nat.and_two_pow_sub_one_eq_mod n 64
  by_cases h : 0 ≤ x
  · rw [PyProof.Rows.bitAnd_pp h (by decide), Nat.and_comm, hm]
    omega
  · unfold PySem.Builtin.bitAnd
    rw [decide_eq_false h, decide_eq_true (show (0 : Int) ≤ 18446744073709551615 by decide)]
    show (18446744073709551615 : Int) - (((18446744073709551615 : Int).toNat &&& (PySem.Builtin.bitNot x).toNat : Nat) : Int) = _
    rw [hm]
    unfold PySem.Builtin.bitNot
    omega
def B64 (x : Int) : Prop := 0 ≤ x ∧ x < 18446744073709551616
theorem B64.and (x : Int) : B64 (PySem.Builtin.bitAnd x 18446744073709551615) := by
  rw [and64]
  unfold B64
  omega
theorem B64.xor {x y : Int} (hx : B64 x) (hy : B64 y) : B64 (PySem.Builtin.bitXor x y) := by
  rw [Bits.bitXor_pp hx.1 hy.1]
  have h1 : x.toNat < 2 ^ 64 := by have := hx.2; omega
  have h2 : y.toNat < 2 ^ 64 := by have := hy.2; omega
  have h3 := Nat.xor_lt_two_pow h1 h2
  unfold B64
  omega
theorem B64.shr {x : Int} (hx : B64 x) (k : Nat) : B64 (x / 2 ^ k) := by
  have hp : (0 : Int) < 2 ^ k := Int.pow_pos (by decide)
  have h1 := Int.ediv_nonneg hx.1 (Int.le_of_lt hp)
  have h2 := Int.ediv_le_self (2 ^ k) hx.1
  have := hx.2
  unfold B64
  omega
/-- a limb is mixed in -/
def mix (p : Int × Int) (l : Int) : Int × Int :=
  let f1 := PySem.Builtin.bitAnd (PySem.Builtin.bitXor p.1 l * 15241578750190521011) 18446744073709551615
  let f2 := PySem.Builtin.bitXor f1 (f1 / 2147483648)
  let s1 := PySem.Builtin.bitAnd ((p.2 + f2) * 9764318250173649287) 18446744073709551615
  let s2 := PySem.Builtin.bitXor s1 (s1 / 536870912)
  (PySem.Builtin.bitAnd (f2 + s2) 18446744073709551615, s2)
theorem mix_bd (p : Int × Int) (l : Int) : B64 (mix p l).1 ∧ B64 (mix p l).2 := ⟨B64.and _, (B64.and _).xor (by
  have := (B64.and ((p.2 + PySem.Builtin.bitXor (PySem.Builtin.bitAnd (PySem.Builtin.bitXor p.1 l * 15241578750190521011) 18446744073709551615) (PySem.Builtin.bitAnd (PySem.Builtin.bitXor p.1 l * 15241578750190521011) 18446744073709551615 / 2147483648)) * 9764318250173649287)).shr 29
  rw [show (2 : Int) ^ 29 = 536870912 from by decide] at this
  exact this)⟩
def mixed (xs : List Int) : Int × Int := xs.foldl mix (7263541890216354987, 12985647301928374651)
theorem mixed_bd (xs : List Int) : B64 (mixed xs).1 ∧ B64 (mixed xs).2 := by
  unfold mixed
  have : ∀ (xs : List Int) (p : Int × Int), B64 p.1 ∧ B64 p.2 → B64 (xs.foldl mix p).1 ∧ B64 (xs.foldl mix p).2 := by
    intro xs
    induction xs with
    | nil => exact fun p h => h
    | cons x xs ih => exact fun p _ => ih _ (mix_bd p x)
  exact this xs _ ⟨⟨by decide, by decide⟩, ⟨by decide, by decide⟩⟩
theorem mixed_snoc (xs : List Int) (x : Int) : mixed (xs ++ [x]) = mix (mixed xs) x := by
  unfold mixed
  rw [List.foldl_append]
  rfl
/-- all that is mixed into a digest -/
def stuff (w tag : Int) (ns : List Int) : List Int := tag :: limbs ns ++ [w, w]
@[irreducible] def dig (w tag : Int) (ns : List Int) : Int := ((mixed (stuff w tag ns)).1 * 18446744073709551616 + (mixed (stuff w tag ns)).2) / 2 ^ (128 - w).toNat
theorem dig_bd {w : Int} (h0 : 0 ≤ w) (h1 : w ≤ 128) (tag : Int) (ns : List Int) : 0 ≤ dig w tag ns ∧ dig w tag ns < 2 ^ w.toNat := by
  obtain ⟨⟨a1, a2⟩, ⟨b1, b2⟩⟩ := mixed_bd (stuff w tag ns)
  have hp : (0 : Int) < 2 ^ (128 - w).toNat := Int.pow_pos (by decide)
  unfold dig
  refine ⟨Int.ediv_nonneg (by omega) (Int.le_of_lt hp), Int.ediv_lt_of_lt_mul hp ?_⟩
  rw [← Int.pow_add, show w.toNat + (128 - w).toNat = 128 by omega]
  have : (2 : Int) ^ 128 = 18446744073709551616 * 18446744073709551616 := by decide
  rw [this]
  omega
/-- a hasher -/
def hsh (w : Int) : B := .ins 0 [(0, .int w)]
theorem getf_hsh {S : Store} (w : Int) : getf T.fo S (.b (hsh w)) 0 = some (.b (.int w)) := rfl
theorem fin_true {S : Store} {base : Nat} {x : B} {Q : D → Store → Prop} : Wo' (fin true base (.b x) S) (fun p => Q p.1 p.2) ↔ Q (.b x) (S.take base) := wo_some
theorem or64 {a b : Int} (ha : B64 a) (hb : B64 b) : PySem.Builtin.bitOr (a * 18446744073709551616) b = a * 18446744073709551616 + b := by
  have := Bits.bitOr_join' (a := b) (b := a) (k := 64) hb.1 hb.2 ha.1
  rw [show (2 : Int) ^ 64 = 18446744073709551616 from by decide] at this
  rw [this, Int.add_comm]
theorem shl64 {a : Int} (ha : B64 a) : shlOk a 64 = true := shlOk_small (by decide) (by decide) (by have := ha.1; have := ha.2; omega)
theorem digest_w (k b : Nat) (S : Store) (w tag : Int) (x : B) (ns : List Int) (hx : IsSq x ns) (hw : w ≤ 128) (hz : (limbs ns).length ≤ 1000000) (Q : D → Store → Prop) (hQ : Q (.b (.int (dig w tag ns))) S) : Wc T (k + 2) b 4 [.b (hsh w), .b (.int tag), .b x] S Q := by
  refine wc_of (fd := f_p_hashing_Hasher_digest) rfl rfl ?_
  unfold f_p_hashing_Hasher_digest
  simp only [start, List.map_cons, List.map_nil, List.length_cons, List.length_nil, if_pos]
  refine ws_seq (fun σ S2 => S = S2 ∧ [some (.b (hsh w)), some (.b (.int tag)), some (.b x), some (.b (.int 7263541890216354987)), none, none] = σ) (by simp) ?_
  rintro _ _ ⟨rfl, rfl⟩
  refine ws_seq (fun σ S2 => S = S2 ∧ [some (.b (hsh w)), some (.b (.int tag)), some (.b x), some (.b (.int 7263541890216354987)), some (.b (.int 12985647301928374651)), none] = σ) (by simp) ?_
  rintro _ _ ⟨rfl, rfl⟩
  refine ws_seq (fun σ S2 => S = S2 ∧ ∃ v, [some (.b (hsh w)), some (.b (.int tag)), some (.b x), some (.b (.int (mixed (stuff w tag ns)).1)), some (.b (.int (mixed (stuff w tag ns)).2)), v] = σ) ?_ ?_
  · rw [wx_for]
    simp [allB, newL, SZ]
    refine limbs_w k _ S x ns hx hz _ ?_
    have h1 : ∀ S, bin S .add (.b (.lst [B.int tag])) (.b (.lst ((limbs ns).map B.int))) = some (.b (.lst (B.int tag :: (limbs ns).map B.int))) := fun S => bin_ll (by rw [List.length_map]; show 1 + _ ≤ SZ; unfold SZ; omega)
    have h2 : ∀ S, bin S .add (.b (.lst (B.int tag :: (limbs ns).map B.int))) (.b (.lst [B.int w, B.int w])) = some (.b (.lst ((stuff w tag ns).map B.int))) := fun S => by
      rw [bin_ll (by rw [List.length_cons, List.length_map]; show _ + 2 ≤ SZ; unfold SZ; omega)]
      unfold stuff
      simp
    rw [h1]
    simp [getf_hsh, show (par T (k + 1) S.length).fo = T.fo from rfl, allB, h2]
    have key := wo_forL (P := par T (k + 1) S.length) (R := fun fl σ3 S3 => fl = .nx ∧ S = S3 ∧ ∃ v, [some (.b (hsh w)), some (.b (.int tag)), some (.b x), some (.b (.int (mixed (stuff w tag ns)).1)), some (.b (.int (mixed (stuff w tag ns)).2)), v] = σ3) (b := [(.set 3 (.bin .band (.bin .mul (.bin .xor (.v 3) (.v 5)) (.k (.int 15241578750190521011))) (.k (.int 18446744073709551615)))), (.set 3 (.bin .xor (.v 3) (.bin .shr (.v 3) (.k (.int 31))))), (.set 4 (.bin .band (.bin .mul (.bin .add (.v 4) (.v 3)) (.k (.int 9764318250173649287))) (.k (.int 18446744073709551615)))), (.set 4 (.bin .xor (.v 4) (.bin .shr (.v 4) (.k (.int 29))))), (.set 3 (.bin .band (.bin .add (.v 3) (.v 4)) (.k (.int 18446744073709551615))))]) (g := .n 5)
      (fun _ rest σ S2 => ∃ (ds rs : List Int) (v : Option D), stuff w tag ns = ds ++ rs ∧ rest = rs.map B.int ∧ S = S2 ∧ [some (.b (hsh w)), some (.b (.int tag)), some (.b x), some (.b (.int (mixed ds).1)), some (.b (.int (mixed ds).2)), v] = σ)
      (fun done y rest σ S2 hI => by
        obtain ⟨ds, rs, v, e1, e2, rfl, rfl⟩ := hI
        cases rs with
        | nil => cases e2
        | cons r rs =>
          cases e2
          show Wo' (some _) _
          rw [wo_some]
          simp [ws_cons, mulOk]
          refine ⟨ds ++ [r], rs, by rw [e1]; simp, rfl, ?_, ?_⟩
          · rw [mixed_snoc]
            rfl
          · rw [mixed_snoc]
            rfl)
      (fun done σ S2 hI => by
        obtain ⟨ds, rs, v, e1, e2, rfl, rfl⟩ := hI
        cases rs with
        | cons r rs => cases e2
        | nil =>
          rw [List.append_nil] at e1
          rw [e1]
          exact ⟨rfl, rfl, v, rfl⟩)
      ((stuff w tag ns).map B.int) [] _ S ⟨[], stuff w tag ns, none, rfl, rfl, rfl, rfl⟩
    exact key
  · rintro _ _ ⟨rfl, v, rfl⟩
    obtain ⟨hb1, hb2⟩ := mixed_bd (stuff w tag ns)
    simp [ws_cons, shl64 hb1, getf_hsh, show (par T (k + 1) S.length).fo = T.fo from rfl, or64 hb1 hb2]
    exact ⟨by omega, by unfold dig at hQ; exact hQ⟩
theorem hasher_w (k : Nat) (S : Store) (w : Int) (Q : D → Store → Prop) (hQ : Q (.b (hsh w)) S) : Wc T (k + 1) S.length 3 [.ref S.length, .b (.int w)] (S ++ [.ins 0 []]) fun d S2 => isNon d = true ∧ Wo' (frz S2 S.length 8 (.ref S.length)) fun x => Q (.b x) (S2.take S.length) := by
  refine wc_of (fd := f_p_hashing_Hasher___init__) rfl rfl ?_
  unfold f_p_hashing_Hasher___init__
  have e : setf (par T k S.length).fo S.length (S ++ [.ins 0 []]) (.ref S.length) 0 (.b (.int w)) = some (S ++ [.ins 0 [(0, .b (.int w))]]) := by
    unfold setf
    dsimp only
    rw [last_at]
    show (if T.fo 0 0 && ((isB (.b (.int w)) || decide (S.length ≤ S.length)) && decide (0 < 1000)) then some ((S ++ [O.ins 0 []]).set S.length (.ins 0 (fput 0 (.b (.int w)) []))) else none) = _
    rw [show (T.fo 0 0 && ((isB (.b (.int w)) || decide (S.length ≤ S.length)) && decide (0 < 1000))) = true from rfl, if_pos rfl, last_set]
    rfl
  simp [ws_cons, start, show (par T k S.length).base = S.length from rfl, e]
  refine ⟨rfl, ?_⟩
  have hf : frz (S ++ [O.ins 0 [(0, .b (.int w))]]) S.length 8 (.ref S.length) = some (hsh w) := by
    unfold frz
    rw [if_neg (Nat.lt_irrefl _), last_at]
    rfl
  rw [hf, wo_some]
  exact hQ
theorem blI_len : ∀ (m : Nat) (x : Int), x < 4294967296 ^ m → (blI x).length ≤ m
  | 0, x, h => by
    rw [Int.pow_zero] at h
    rw [blI_0 (by omega)]
    exact Nat.le_refl _
  | m + 1, x, h => by
    by_cases h0 : 0 < x
    · rw [blI_s h0, List.length_cons]
      have e : (4294967296 : Int) ^ (m + 1) = 4294967296 * 4294967296 ^ m := by rw [Int.pow_succ, Int.mul_comm]
      have := blI_len m (x / 4294967296) (by omega)
      omega
    · rw [blI_0 (by omega)]
      exact Nat.zero_le _
theorem limbs_len (m : Nat) (ns : List Int) (h : ∀ x ∈ ns, x < 4294967296 ^ m) : (limbs ns).length ≤ 1 + ns.length * (m + 1) := by
  unfold limbs
  rw [List.length_cons]
  have : (ns.flatMap fun x => ((blI x).length : Int) :: blI x).length ≤ ns.length * (m + 1) := by
    induction ns with
    | nil => exact Nat.zero_le _
    | cons a ns ih =>
      rw [List.flatMap_cons, List.length_append, List.length_cons, List.length_cons, Nat.succ_mul]
      have h1 := blI_len m a (h a List.mem_cons_self)
      have h2 := ih fun x hx => h x (List.mem_cons_of_mem _ hx)
      omega
  omega
end G
namespace G
open M
theorem is_digest_w (k b : Nat) (S : Store) (w n : Int) (h0 : 0 ≤ w) (h1 : w ≤ 1000000) (Q : D → Store → Prop) (hQ : Q (.b (.bl (decide (0 ≤ n ∧ n < 2 ^ w.toNat)))) S) : Wc T (k + 1) b 5 [.b (hsh w), .b (.int n)] S Q := by
  refine wc_of (fd := f_p_hashing_Hasher_is_digest) rfl rfl ?_
  unfold f_p_hashing_Hasher_is_digest
  have hs : shlOk 1 w = true := shlOk_small h0 h1 (by decide)
  simp [ws_cons, start, getf_hsh, show (par T k S.length).fo = T.fo from rfl, hs]
  split
  · rename_i h
    rw [decide_eq_decide.mpr (show (0 ≤ n ∧ n < 2 ^ w.toNat) ↔ n < 2 ^ w.toNat from ⟨fun z => z.2, fun z => ⟨h, z⟩⟩)] at hQ
    exact hQ
  · rename_i h
    rw [decide_eq_false (p := 0 ≤ n ∧ n < 2 ^ w.toNat) (fun z => h z.1)] at hQ
    exact hQ
end G
namespace G
open M
/-! ### small things for all laws -/
theorem bin_tt {S : Store} {xs ys : List B} (hz : xs.length + ys.length ≤ SZ) : bin S .add (.b (.tup xs)) (.b (.tup ys)) = some (.b (.tup (xs ++ ys))) := if_pos hz
@[simp] theorem mk0 : mkTup [] = .b (.tup []) := rfl
@[simp] theorem mk1 {x : B} : mkTup [.b x] = .b (.tup [x]) := rfl
@[simp] theorem mk2 {x y : B} : mkTup [.b x, .b y] = .b (.tup [x, y]) := rfl
@[simp] theorem mk3 {x y z : B} : mkTup [.b x, .b y, .b z] = .b (.tup [x, y, z]) := rfl
@[simp] theorem mk4 {x y z u : B} : mkTup [.b x, .b y, .b z, .b u] = .b (.tup [x, y, z, u]) := rfl
@[simp] theorem sz1 : 1 ≤ SZ := by decide
@[simp] theorem sz2 : 2 ≤ SZ := by decide
@[simp] theorem sz3 : 3 ≤ SZ := by decide
@[simp] theorem sz4 : 4 ≤ SZ := by decide
@[simp] theorem sz5 : 5 ≤ SZ := by decide
@[simp] theorem newL_f {S : Store} {xs : List B} : newL S false xs = if xs.length ≤ SZ then some (.b (.lst xs), S) else none := rfl
@[simp] theorem newL_t {S : Store} {xs : List B} : newL S true xs = if xs.length ≤ SZ then some (.ref S.length, S ++ [.lst xs]) else none := rfl
@[simp] theorem allB_nil : allB [] = some [] := rfl
@[simp] theorem allB_cons {x : B} {ds : List D} : allB (.b x :: ds) = (allB ds).map (x :: ·) := rfl
theorem frz_lst {S : Store} {n base k : Nat} {xs : List B} (h : S[n]? = some (.lst xs)) (hb : base ≤ n) : frz S base (k + 1) (.ref n) = some (.lst xs) := by
  unfold frz
  rw [if_neg (by omega), h]
theorem ret_ref {S : Store} {n base : Nat} {xs : List B} {σ : Sl} {Q : D → Store → Prop} (h : S[n]? = some (.lst xs)) (hb : base ≤ n) : Ret true base Q (.rt (.ref n)) σ S ↔ Q (.b (.lst xs)) (S.take base) := by
  show Wo' ((frz S base 8 (.ref n)).map _) _ ↔ _
  rw [frz_lst h hb]
  exact wo_some
theorem ret_last {S : Store} {xs : List B} {σ : Sl} {Q : D → Store → Prop} : Ret true S.length Q (.rt (.ref S.length)) σ (S ++ [.lst xs]) ↔ Q (.b (.lst xs)) S := by
  rw [ret_ref last_at (Nat.le_refl _), last_take]
end G
namespace G
open M
def Sm (x : Int) : Prop := x < 4294967296 ^ 5
theorem Sm.lim {ns : List Int} (h : ∀ x ∈ ns, Sm x) (hl : ns.length ≤ 100000) : (limbs ns).length ≤ 1000000 := by
  have := limbs_len 5 ns h
  omega
theorem Sm.nat {n : Nat} (h : n ≤ 1000000) : Sm (n : Int) := by unfold Sm; omega
theorem Sm.dig {w : Int} (h0 : 0 ≤ w) (hw : w ≤ 128) (t : Int) (ns : List Int) : Sm (dig w t ns) := by
  have h := (dig_bd h0 hw t ns).2
  have h2 : (2 : Int) ^ w.toNat ≤ 2 ^ 128 := by exact_mod_cast Nat.pow_le_pow_right (by decide : 2 > 0) (by omega : w.toNat ≤ 128)
  have h3 : (2 : Int) ^ 128 < 4294967296 ^ 5 := by decide
  unfold Sm
  omega
end G
namespace G
open M
theorem cut_take {α : Type} (xs : List α) (p : Nat) : cut xs none (some (p : Int)) = xs.take p := by
  unfold cut
  rw [HT.sIx_nat, HT.sIx_none, List.drop_zero, Nat.sub_zero]
  by_cases h : p ≤ xs.length
  · rw [Nat.min_eq_left h]
  · rw [Nat.min_eq_right (by omega), List.take_of_length_le (Nat.le_refl _), List.take_of_length_le (by omega)]
theorem cut_drop {α : Type} (xs : List α) (p : Nat) : cut xs (some (p : Int)) none = xs.drop p := by
  unfold cut
  rw [HT.sIx_nat, HT.sIx_none]
  by_cases h : p ≤ xs.length
  · rw [Nat.min_eq_left h, List.take_of_length_le (by rw [List.length_drop] <;> exact Nat.le_refl _)]
  · rw [Nat.min_eq_right (by omega), List.drop_of_length_le (Nat.le_refl _), List.drop_of_length_le (by omega), List.take_nil]
theorem slc_take {S : Store} {xs : List B} (p : Nat) : slc S (.b (.lst xs)) (.b .non) (.b (.int p)) = some (.b (.lst (xs.take p))) := by
  rw [← cut_take]
  rfl
theorem slc_drop {S : Store} {xs : List B} (p : Nat) : slc S (.b (.lst xs)) (.b (.int p)) (.b .non) = some (.b (.lst (xs.drop p))) := by
  rw [← cut_drop]
  rfl
theorem rngB_succ (lo : Int) (n : Nat) : rngB lo (n + 1) = .int lo :: rngB (lo + 1) n := by
  unfold rngB
  rw [List.range_succ_eq_map, List.map_cons, List.map_map]
  refine congr (congrArg _ (by simp)) (List.map_congr_left fun i _ => ?_)
  show B.int _ = B.int _
  congr 1
  push_cast
  omega
theorem atI_get {α : Type} {xs : List α} {i : Int} {j : Nat} {x : α} (hi : i = j) (hx : xs[j]? = some x) : L2.atI xs i = some x := by
  subst hi
  have hj := (List.getElem?_eq_some_iff.mp hx).1
  unfold L2.atI L2.ixN
  rw [if_pos (by omega), if_pos (by omega)]
  show xs[(j : Int).toNat]? = _
  rw [Int.toNat_natCast, hx]
theorem idx_sq {S : Store} {x : B} {ns : List Int} (h : IsSq x ns) {i : Int} {j : Nat} {v : Int} (hi : i = j) (hv : ns[j]? = some v) : idx S (.b x) (.b (.int i)) = some (.b (.int v)) := by
  have e : L2.atI (ns.map B.int) i = some (.int v) := atI_get hi (by rw [List.getElem?_map, hv]; rfl)
  rcases h with rfl | rfl
  · rw [idx_lst, e]; rfl
  · rw [idx_tup, e]; rfl
def isD (w : Int) (p : Int) : Bool := decide (0 ≤ p ∧ p < 2 ^ w.toNat)
theorem boolsB_bl : ∀ bs : List Bool, boolsB (bs.map B.bl) = some bs
  | [] => rfl
  | b :: bs => by
    show ((boolsB (bs.map B.bl)).map _) = _
    rw [boolsB_bl bs]
    rfl
theorem bi_all {S : Store} (bs : List Bool) : bi S .all false [.b (.lst (bs.map B.bl))] = some (.b (.bl (bs.all id)), S) := by
  show pure' S ((boolsB (bs.map B.bl)).map fun bs => D.b (.bl (bs.all id))) = _
  rw [boolsB_bl]
  rfl
theorem bi_any {S : Store} (bs : List Bool) : bi S .any false [.b (.lst (bs.map B.bl))] = some (.b (.bl (bs.any id)), S) := by
  show pure' S ((boolsB (bs.map B.bl)).map fun bs => D.b (.bl (bs.any id))) = _
  rw [boolsB_bl]
  rfl
theorem isD_sm {w : Int} (h0 : 0 ≤ w) (hw : w ≤ 128) {ps : List Int} (h : ps.all (isD w) = true) : ∀ p ∈ ps, Sm p := fun p hp => by
  have h1 := (of_decide_eq_true (List.all_eq_true.mp h p hp)).2
  have h2 : (2 : Int) ^ w.toNat ≤ 2 ^ 128 := by exact_mod_cast Nat.pow_le_pow_right (by decide : 2 > 0) (by omega : w.toNat ≤ 128)
  have h3 : (2 : Int) ^ 128 < 4294967296 ^ 5 := by decide
  unfold Sm
  omega
theorem and1 : ∀ j : Nat, j < 4 → PySem.Builtin.bitAnd (j : Int) 1 = 0 ∨ PySem.Builtin.bitAnd (j : Int) 1 = 1 := fun j h => by
  have : j = 0 ∨ j = 1 ∨ j = 2 ∨ j = 3 := by omega
  rcases this with rfl | rfl | rfl | rfl
  · exact .inl rfl
  · exact .inr rfl
  · exact .inl rfl
  · exact .inr rfl
theorem divOk_p {w : Int} (h0 : 0 ≤ w) (hw : w ≤ 128) : divOk (2 ^ w.toNat) = true :=
  divOk_small (Int.pow_pos (by decide)) (by exact_mod_cast Nat.pow_le_pow_right (by decide : 2 > 0) (by omega : w.toNat ≤ 8000))
theorem pow_sm {w : Int} (hw : w ≤ 128) : Sm (2 ^ w.toNat) := by
  have h2 : (2 : Int) ^ w.toNat ≤ 2 ^ 128 := by exact_mod_cast Nat.pow_le_pow_right (by decide : 2 > 0) (by omega : w.toNat ≤ 128)
  have h3 : (2 : Int) ^ 128 < 4294967296 ^ 5 := by decide
  unfold Sm
  omega
theorem len_ref {U : Store} {n : Nat} {xs : List B} (h : U[n]? = some (O.lst xs)) : bi U .len false [.ref n] = some (.b (.int xs.length), U) := by
  show pure' U (match dicD U (.ref n) with
    | some kvs => some (.b (.int kvs.length))
    | none => (seqD U (.ref n)).map fun xs => .b (.int xs.length)) = _
  unfold dicD seqD
  dsimp only
  rw [h]
  rfl
structure Sp (S : Store) (n : Nat) (i s : Int) (zs : List Int) : Prop where
  cells : S[0]? = some (.lst [.int i, .int s])
  at' : S[n]? = some (.lst (zs.map B.int))
  pos : 1 ≤ n
theorem Sp.take {S : Store} {n : Nat} {i s : Int} {zs : List Int} (h : Sp S n i s zs) : S.take 1 = [.lst [.int i, .int s]] := by
  cases S with
  | nil => cases h.cells
  | cons a S =>
    have := h.cells
    cases this
    rfl
theorem Sp.set0 {S : Store} {n : Nat} {i s : Int} {zs : List Int} (h : Sp S n i s zs) (i' s' : Int) : Sp (S.set 0 (.lst [.int i', .int s'])) n i' s' zs :=
  ⟨set_at h.cells, by have := h.pos; rw [List.getElem?_set_ne (by omega)]; exact h.at', h.pos⟩
theorem Sp.setn {S : Store} {n : Nat} {i s : Int} {zs : List Int} (h : Sp S n i s zs) (ys : List Int) : Sp (S.set n (.lst (ys.map B.int))) n i s ys :=
  ⟨by have := h.pos; rw [List.getElem?_set_ne (by omega)]; exact h.cells, set_at h.at', h.pos⟩
theorem Sp.new {S : Store} {n : Nat} {i s : Int} {zs : List Int} (h : Sp S n i s zs) (ys : List Int) : Sp (S ++ [.lst (ys.map B.int)]) S.length i s ys := by
  have h0 := (List.getElem?_eq_some_iff.mp h.cells).1
  exact ⟨by rw [List.getElem?_append_left h0]; exact h.cells, last_at, h0⟩
theorem slc_ref {S : Store} {n : Nat} {xs : List B} (h : S[n]? = some (.lst xs)) (p : Nat) : slc S (.ref n) (.b .non) (.b (.int p)) = some (.b (.lst (xs.take p))) ∧ slc S (.ref n) (.b (.int p)) (.b .non) = some (.b (.lst (xs.drop p))) := by
  rw [← cut_take, ← cut_drop]
  constructor
  · show (seqD S (.ref n)).map _ = _
    unfold seqD
    dsimp only
    rw [h]
    rfl
  · show (seqD S (.ref n)).map _ = _
    unfold seqD
    dsimp only
    rw [h]
    rfl
end G
namespace G
open M
/-! ### numbers in a list of the store, or in a thing that stays -/
def SqD (S : Store) (d : D) (ps : List Int) : Prop := (∃ x, d = .b x ∧ IsSq x ps) ∨ ∃ n, d = .ref n ∧ S[n]? = some (.lst (ps.map B.int))
theorem SqD.of {S : Store} {x : B} {ps : List Int} (h : IsSq x ps) : SqD S (.b x) ps := .inl ⟨x, rfl, h⟩
theorem SqD.at_ {S : Store} {n : Nat} {ps : List Int} (h : S[n]? = some (.lst (ps.map B.int))) : SqD S (.ref n) ps := .inr ⟨n, rfl, h⟩
theorem SqD.app {S : Store} {d : D} {ps : List Int} (h : SqD S d ps) (J : Store) : SqD (S ++ J) d ps := by
  rcases h with h | ⟨n, rfl, h⟩
  · exact .inl h
  · exact .inr ⟨n, rfl, by rw [List.getElem?_append_left (List.getElem?_eq_some_iff.mp h).1]; exact h⟩
theorem SqD.len {S : Store} {d : D} {ps : List Int} (h : SqD S d ps) : bi S .len false [d] = some (.b (.int ps.length), S) := by
  rcases h with ⟨x, rfl, h⟩ | ⟨n, rfl, h⟩
  · exact h.len
  · rw [len_ref h, List.length_map]
theorem SqD.idx {S : Store} {d : D} {ps : List Int} (h : SqD S d ps) {i : Int} {j : Nat} {v : Int} (hi : i = j) (hv : ps[j]? = some v) : M.idx S d (.b (.int i)) = some (.b (.int v)) := by
  rcases h with ⟨x, rfl, h⟩ | ⟨n, rfl, h⟩
  · exact idx_sq h hi hv
  · rw [idx_st h, atI_get hi (by rw [List.getElem?_map, hv]; rfl)]
    rfl
theorem SqD.items {S : Store} {d : D} {ps : List Int} (h : SqD S d ps) : M.items S .sq [d] = some (ps.map B.int) := by
  rcases h with ⟨x, rfl, h⟩ | ⟨n, rfl, h⟩
  · exact h.items
  · show seqD S (.ref n) = _
    unfold seqD
    dsimp only
    rw [h]
theorem SqD.list {S : Store} {d : D} {ps : List Int} (h : SqD S d ps) (m : Bool) : bi S .list m [d] = newL S m (ps.map B.int) := by
  rcases h with ⟨x, rfl, h | h⟩ | ⟨n, rfl, h⟩
  · subst h; rfl
  · subst h; rfl
  · show (itD S (.ref n)).bind _ = _
    unfold itD dicD seqD
    dsimp only
    rw [h]
    rfl
theorem at_len {T : Store} {n : Nat} {o : O} (h : T.length = n) : (T ++ [o])[n]? = some o := by
  rw [← h]
  exact last_at
theorem set_len {T : Store} {n : Nat} {o o' : O} (h : T.length = n) : (T ++ [o]).set n o' = T ++ [o'] := by
  rw [← h]
  exact last_set
/-- the store while d is walked -/
def lkS (S : Store) (d : D) : Store := lock S d
theorem lkS_len {S : Store} {d : D} : (lkS S d).length = S.length := lock_len d
theorem SqD.lk {S : Store} {d : D} {ps : List Int} (h : SqD S d ps) : lockAll S [d] = lkS S d ∧ unlockAll S (lkS S d) [d] = some S := by
  rcases h with ⟨x, rfl, h⟩ | ⟨n, rfl, h⟩
  · exact ⟨rfl, rfl⟩
  · refine ⟨rfl, ?_⟩
    have e : lkS S (.ref n) = S.set n (.lockl (ps.map B.int)) := by
      unfold lkS lock
      dsimp only
      rw [h]
    rw [e]
    unfold unlockAll unlock
    dsimp only
    rw [h, set_at h]
    show some _ = _
    rw [List.set_set, set_same h]
theorem SqD.lk2 {S : Store} {d : D} {ps : List Int} (h : SqD S d ps) (y : B) (o o' : O) : lockAll (S ++ [o]) [.b y, d] = lkS S d ++ [o] ∧ unlockAll (S ++ [o]) (lkS S d ++ [o']) [.b y, d] = some (S ++ [o']) := by
  rcases h with ⟨x, rfl, h⟩ | ⟨n, rfl, h⟩
  · exact ⟨rfl, rfl⟩
  · have hn := (List.getElem?_eq_some_iff.mp h).1
    have h1 : (S ++ [o])[n]? = some (.lst (ps.map B.int)) := by rw [List.getElem?_append_left hn]; exact h
    have e : lkS S (.ref n) = S.set n (.lockl (ps.map B.int)) := by
      unfold lkS lock
      dsimp only
      rw [h]
    constructor
    · show lock (S ++ [o]) (.ref n) = _
      unfold lock
      dsimp only
      rw [h1, e]
      show (S ++ [o]).set n _ = _
      rw [List.set_append_left _ _ hn]
    · show (unlock (S ++ [o]) (lkS S (.ref n) ++ [o']) (.ref n)).bind _ = _
      unfold unlock
      dsimp only
      rw [h1, e]
      have h2 : (S.set n (O.lockl (ps.map B.int)) ++ [o'])[n]? = some (.lockl (ps.map B.int)) := by
        rw [List.getElem?_append_left (by rw [List.length_set]; exact hn)]
        exact set_at h
      dsimp only
      rw [h2]
      show some _ = _
      rw [List.set_append_left _ _ (by rw [List.length_set]; exact hn), List.set_set, set_same h]
end G
namespace G
open M
/-! ### comprehensions over a laid-down sequence -/
theorem we_lcM {P : Par} {σ : Sl} {S : Store} {α : Type} {os : List α} {g f : α → B} {i : Nat} {x e : E} {v : B} (hx : ∀ Q : D → Store → Prop, Q (.b v) S → We P x σ S Q) (hit : items S .sq [.b v] = some (os.map g)) (hz : os.length ≤ SZ)
    (he : ∀ o ∈ os, ∀ Q : D → Store → Prop, Q (.b (f o)) S → We P e ((wipe σ [i]).set i (some (.b (g o)))) S Q) {Q : D → Store → Prop} (hQ : Q (.b (.lst (os.map f))) S) : We P (.lc false (.n i) .sq [x] (.k (.bl true)) e [i]) σ S Q := by
  rw [we_lc, wes_cons]
  refine hx _ ?_
  rw [wes_nil, hit, wo_some]
  refine ⟨by rw [List.length_map]; exact hz, ?_⟩
  rw [lockAll_b]
  obtain ⟨I, hI⟩ : ∃ I : List B → List B → List B → Store → Prop, I = fun dn rest ys S2 => ∃ (o1 o2 : List α), os = o1 ++ o2 ∧ rest = o2.map g ∧ S2 = S ∧ ys = o1.map f := ⟨_, rfl⟩
  refine (wo_lcL I ?_ (Q := fun ys S2 => S2 = S ∧ ys = os.map f) ?_ _ [] [] _ (by rw [hI]; exact ⟨[], os, rfl, rfl, rfl, rfl⟩)).mono fun q hq => ?_
  · intro dn y rest ys S2 h
    rw [hI] at h
    obtain ⟨o1, o2, e1, e2, rfl, rfl⟩ := h
    cases o2 with
    | nil => cases e2
    | cons o o2 =>
    rw [List.map_cons, List.cons.injEq] at e2
    obtain ⟨rfl, rfl⟩ := e2
    show Wo' (some ((wipe σ [i]).set i (some (.b (g o))))) _
    rw [wo_some, we_k]
    show Wo' (some true) _
    rw [wo_some, if_pos rfl]
    refine he o (by rw [e1]; simp) _ ?_
    refine ⟨_, rfl, ?_⟩
    rw [hI]
    exact ⟨o1 ++ [o], o2, by rw [e1]; simp, rfl, rfl, by simp⟩
  · intro dn ys S2 h
    rw [hI] at h
    obtain ⟨o1, o2, e1, e2, rfl, rfl⟩ := h
    cases o2 with
    | cons o o2 => cases e2
    | nil =>
      rw [List.append_nil] at e1
      subst e1
      exact ⟨rfl, rfl⟩
  · obtain ⟨e3, e4⟩ := hq
    rw [List.nil_append] at e4
    rw [unlockAll_b, wo_some, e3, e4, newL_f, if_pos (by rw [List.length_map]; exact hz), wo_some]
    exact hQ
end G
namespace G
open M
def digB (w : Int) (x : Int) : Bool := decide (0 ≤ x ∧ x < 2 ^ w.toNat)
end G
namespace G
open M
/-! ### digits of messages -/
/-- c: how many digits of base 16 the check takes -/
def Chk (n c : Nat) : Prop := 1 ≤ c ∧ 15 * n < 16 ^ c ∧ ∀ d, 1 ≤ d → d < c → 16 ^ d ≤ 15 * n
theorem counts_w (k b : Nat) (S : Store) (n : Nat) (hn : n ≤ 10000) (w : Int) (hw : (w + 3) / 4 = n) (Q : D → Store → Prop) (hQ : ∀ c, Chk n c → c ≤ 200000 → Q (.b (.tup [.int n, .int c])) S) : Wc T (k + 1) b 0 [.b (.int w)] S Q := by
  refine wc_of (fd := f_p_signing_digit_counts) rfl rfl ?_
  unfold f_p_signing_digit_counts
  have hd : divOk 4 = true := by decide
  simp [ws_cons, start, hd, hw]
  refine wx_whl (fun m σ S2 => S = S2 ∧ ∃ c : Nat, [some (.b (.int w)), some (.b (.int n)), some (.b (.int c))] = σ ∧ m + c = 15 * n + 1 ∧ 1 ≤ c ∧ ∀ d, 1 ≤ d → d < c → 16 ^ d ≤ 15 * n) (15 * n) ⟨rfl, 1, rfl, by omega, by omega, fun d h1 h2 => by omega⟩ (by unfold M.WF; omega) ?_
  rintro m σ _ ⟨rfl, c, rfl, hm, hc, hd'⟩
  have hs : shlOk 1 (4 * (c : Int)) = true := shlOk_small (by omega) (by omega) (by decide)
  have e16 : (2 : Int) ^ (4 * (c : Int)).toNat = 16 ^ c := by
    have : (4 * (c : Int)).toNat = 4 * c := by omega
    rw [this, Int.pow_mul]
    rfl
  simp [hs, mulOk, e16]
  have hcc : c < 16 ^ c := Nat.lt_pow_self (by decide)
  split
  · rename_i hlt
    have hlt' : 16 ^ c ≤ 15 * n := by exact_mod_cast hlt
    refine ⟨m - 1, by omega, ?_⟩
    rw [ws_cons, wx_aug (a := c) rfl]
    simp
    refine ⟨c + 1, by simp, by omega, by omega, fun d h1 h2 => ?_⟩
    by_cases h3 : d = c
    · subst h3; exact hlt'
    · exact hd' d h1 (by omega)
  · rename_i hlt
    have hlt' : ¬ 16 ^ c ≤ 15 * n := fun h => hlt (by exact_mod_cast h)
    simp [ws_cons, mkTup, allB, SZ]
    exact hQ c ⟨hc, by omega, hd'⟩ (by omega)
theorem Chk.uniq {n c d : Nat} (h : Chk n c) (h' : Chk n d) : c = d := by
  rcases Nat.lt_trichotomy c d with q | q | q
  · have := h'.2.2 c h.1 q
    have := h.2.1
    omega
  · exact q
  · have := h.2.2 d h'.1 q
    have := h'.2.1
    omega
/-- the digits of base 16 -/
def hx (m : Int) (k : Nat) : Int := m / 16 ^ k % 16
def hxs (m : Int) (n : Nat) : List Int := (List.range n).map (hx m)
def chs (m : Int) (n : Nat) : Int := ((hxs m n).map fun d => 15 - d).sum
def hxd (m : Int) (n c : Nat) : List Int := hxs m n ++ hxs (chs m n) c
theorem shr4 (m : Int) (k : Nat) : m / 2 ^ (4 * (k : Int)).toNat = m / 16 ^ k := by
  have : (4 * (k : Int)).toNat = 4 * k := by omega
  rw [this, Int.pow_mul]
  rfl
theorem rngB_mp (n : Nat) (f : Nat → Int) (h : B → B) (e : ∀ k : Nat, h (.int k) = .int (f k)) : (rngB 0 n).map h = ((List.range n).map f).map B.int := by
  unfold rngB
  rw [List.map_map, List.map_map]
  refine List.map_congr_left fun k _ => ?_
  show h (.int (0 + (k : Nat))) = _
  rw [Int.zero_add, e]
  rfl
theorem rngB_mm {n : Nat} {x : B} (h : x ∈ rngB 0 n) : ∃ k : Nat, k < n ∧ x = .int k := by
  unfold rngB at h
  obtain ⟨k, hk, e⟩ := List.mem_map.mp h
  exact ⟨k, List.mem_range.mp hk, by rw [← e, Int.zero_add]⟩
/-- [m >> 4 * k & 15 for k in range(n)] -/
theorem hxs_lc {P : Par} {σ : Sl} {S : Store} {i kk : Nat} {a : E} {m : Int} {n : Nat} (hn : n ≤ 200000) (hi : σ[i]? = some (some (.b (.int m)))) (ha : ev P a σ S = some (.b (.int n), S)) (hk : kk < σ.length) (hik : kk ≠ i) :
    ev P (.lc false (.n kk) .r1 [a] (.k (.bl true)) (.bin .band (.bin .shr (.v i) (.bin .mul (.k (.int 4)) (.v kk))) (.k (.int 15))) [kk]) σ S = some (.b (.lst ((hxs m n).map B.int)), S) := by
  have hr : rOk (n : Int) = true := decide_eq_true ⟨by omega, by omega⟩
  have := lc_pure (P := P) (g := .n kk) (k := .r1) (a := a) (e := .bin .band (.bin .shr (.v i) (.bin .mul (.k (.int 4)) (.v kk))) (.k (.int 15))) (w := [kk]) (σ := σ) (S := S) (x := .int n) (xs := rngB 0 n) (fun x => match x with
    | .int k => .int (hx m k.toNat)
    | _ => .non) ha (by show (if rOk (n : Int) then some (rngB 0 (n : Int).toNat) else none) = _; rw [if_pos hr] <;> rfl) (by unfold rngB SZ; rw [List.length_map, List.length_range]; omega) (fun x hx => by
      obtain ⟨k, hk2, rfl⟩ := rngB_mm hx
      refine ⟨_, rfl, ?_⟩
      have h1 : ((wipe σ [kk]).set kk (some (.b (.int k))))[i]? = some (some (.b (.int m))) := by
        rw [List.getElem?_set_ne hik]
        show ((wipe σ []).set kk none)[i]? = _
        rw [List.getElem?_set_ne hik]
        exact hi
      have h2 : ((wipe σ [kk]).set kk (some (.b (.int k))))[kk]? = some (some (.b (.int k))) := List.getElem?_set_self (by show kk < ((wipe σ []).set kk none).length; rw [List.length_set]; exact hk)
      simp only [ev_bin, ev_v, ev_k, h1, h2, bind_some', bin_ii, Option.map_some, ar_mul (show mulOk 4 (k : Int) = true by simp [mulOk]), ar_shr (show (0 : Int) ≤ 4 * (k : Int) by omega), ar_and, shr4, PyProof.Rows.bitAnd_m4]
      rfl)
  rw [this, rngB_mp n (hx m) _ fun k => rfl]
  rfl

/-- sum([15 - d for d in digits]) -/
theorem chs_lc {P : Par} {σ : Sl} {S : Store} {i kk : Nat} {E15 : E} {xs : List Int} (hn : xs.length ≤ 200000) (hi : σ[i]? = some (some (.b (.lst (xs.map B.int))))) (hk : kk < σ.length) (hE : ∀ σ2, ev P E15 σ2 S = some (.b (.int 15), S)) :
    ev P (.bi .sum false [.lc false (.n kk) .sq [.v i] (.k (.bl true)) (.bin .sub E15 (.v kk)) [kk]]) σ S = some (.b (.int (xs.map fun d => 15 - d).sum), S) := by
  have := lc_pure (P := P) (g := .n kk) (k := .sq) (a := .v i) (e := .bin .sub E15 (.v kk)) (w := [kk]) (σ := σ) (S := S) (x := .lst (xs.map B.int)) (xs := xs.map B.int) (fun x => match x with
    | .int k => .int (15 - k)
    | _ => .non) (by rw [ev_v, hi]) rfl (by unfold SZ; rw [List.length_map]; omega) (fun x hx => by
      obtain ⟨d, hd, rfl⟩ := List.mem_map.mp hx
      refine ⟨_, rfl, ?_⟩
      have h2 : ((wipe σ [kk]).set kk (some (.b (.int d))))[kk]? = some (some (.b (.int d))) := List.getElem?_set_self (by show kk < ((wipe σ []).set kk none).length; rw [List.length_set]; exact hk)
      simp only [ev_bin, ev_v, hE, h2, bind_some', bin_ii, Option.map_some, ar_sub])
  rw [ev_bi, evs_cons, this]
  show bi S .sum false [_] = _
  have e : (xs.map B.int).map (fun x => match x with
    | .int k => B.int (15 - k)
    | _ => .non) = (xs.map fun d => 15 - d).map B.int := by
    rw [List.map_map, List.map_map]
    rfl
  rw [e, bi_sum]
theorem hxs_len (m : Int) (n : Nat) : (hxs m n).length = n := by unfold hxs; rw [List.length_map, List.length_range]
theorem digits_w (k b : Nat) (S : Store) (n : Nat) (hn : n ≤ 10000) (w m : Int) (hw : (w + 3) / 4 = n) (Q : D → Store → Prop) (hQ : ∀ c, Chk n c → Q (.b (.lst ((hxd m n c).map B.int))) S) : Wc T (k + 2) b 1 [.b (.int w), .b (.int m)] S Q := by
  refine wc_of (fd := f_p_signing_digits_of) rfl rfl ?_
  unfold f_p_signing_digits_of
  rw [ws_cons]
  simp [start]
  refine counts_w k _ S n hn w hw _ fun c hc hcl => ?_
  simp [asgD, putAll]
  rw [ws_cons, wx_set]
  refine We.of (hxs_lc (i := 1) (kk := 6) (m := m) (n := n) (by omega) rfl rfl (by simp) (by decide)) ?_
  simp
  rw [ws_cons, wx_set]
  refine We.of (chs_lc (i := 4) (kk := 7) (xs := hxs m n) (by rw [hxs_len]; omega) rfl (by simp) fun σ2 => rfl) ?_
  simp [ws_cons]
  refine We.of (hxs_lc (i := 5) (kk := 6) (m := chs m n) (n := c) hcl rfl rfl (by simp) (by decide)) ?_
  have hl : ((hxs m n).map B.int).length + ((hxs (chs m n) c).map B.int).length ≤ SZ := by
    rw [List.length_map, List.length_map, hxs_len, hxs_len]
    unfold SZ
    omega
  have e : bin S .add (.b (.lst ((hxs m n).map B.int))) (.b (.lst ((hxs (chs m n) c).map B.int))) = some (.b (.lst ((hxd m n c).map B.int))) := by
    show szL ((hxs m n).map B.int ++ (hxs (chs m n) c).map B.int) = _
    unfold szL hxd
    rw [List.length_append, if_pos hl, List.map_append]
  rw [e, wo_some]
  simp
  exact hQ c hc

theorem sum_hxs_nonneg (xs : List Int) (h : ∀ x ∈ xs, 0 ≤ x ∧ x ≤ 15) : 0 ≤ (xs.map fun d : Int => (15 - d : Int)).sum ∧ (xs.map fun d : Int => (15 - d : Int)).sum ≤ 15 * (xs.length : Int) := by
  induction xs with
  | nil => simp
  | cons x xs ih =>
    have h1 := h x List.mem_cons_self
    have h2 := ih fun y hy => h y (List.mem_cons_of_mem _ hy)
    rw [List.map_cons, List.sum_cons, List.length_cons]
    push_cast
    omega
theorem hx_bd (m : Int) (k : Nat) : 0 ≤ hx m k ∧ hx m k ≤ 15 := by unfold hx; omega
theorem chs_bd (m : Int) (n : Nat) : 0 ≤ chs m n ∧ chs m n ≤ 15 * n := by
  have := sum_hxs_nonneg (hxs m n) fun x hx => by
    unfold hxs at hx
    obtain ⟨k, _, rfl⟩ := List.mem_map.mp hx
    exact hx_bd m k
  rw [hxs_len] at this
  exact this
/-- how many digits a message has, and how many its check -/
def cw (w : Int) : Nat := ((w + 3) / 4).toNat
def kwF (n : Nat) : Nat := if 15 * n < 16 then 1 else if 15 * n < 256 then 2 else 3
def kw (w : Int) : Nat := kwF (cw w)
def nch (w : Int) : Nat := cw w + kw w
def digW (w m : Int) : List Int := hxd m (cw w) (kw w)
theorem kwF_ok {n : Nat} (h : n ≤ 200) : Chk n (kwF n) := by
  unfold kwF Chk
  split
  · exact ⟨by omega, by omega, fun d h1 h2 => by omega⟩
  · split
    · refine ⟨by omega, by omega, fun d h1 h2 => ?_⟩
      have : d = 1 := by omega
      subst this
      omega
    · refine ⟨by omega, by omega, fun d h1 h2 => ?_⟩
      have : d = 1 ∨ d = 2 := by omega
      rcases this with rfl | rfl <;> omega
theorem kw_le (w : Int) : kw w ≤ 3 := by
  unfold kw kwF
  split
  · decide
  · split <;> decide
theorem cw_le {w : Int} (hw : w ≤ 128) : cw w ≤ 32 := by
  unfold cw
  omega
theorem nch_le {w : Int} (hw : w ≤ 128) : nch w ≤ 35 := by
  have := kw_le w
  have := cw_le hw
  unfold nch
  omega
theorem nch_pos (w : Int) : 1 ≤ nch w := by
  unfold nch kw kwF
  split
  · omega
  · split <;> omega
theorem digW_len (w m : Int) : (digW w m).length = nch w := by
  unfold digW hxd nch
  rw [List.length_append, hxs_len, hxs_len]
theorem digW_bd {w m x : Int} (h : x ∈ digW w m) : 0 ≤ x ∧ x ≤ 15 := by
  unfold digW hxd hxs at h
  rcases List.mem_append.mp h with h | h
  · obtain ⟨k, _, rfl⟩ := List.mem_map.mp h
    exact hx_bd _ _
  · obtain ⟨k, _, rfl⟩ := List.mem_map.mp h
    exact hx_bd _ _
theorem counts_c (k b : Nat) (S : Store) (w : Int) (h0 : 0 ≤ w) (hw : w ≤ 128) (Q : D → Store → Prop) (hQ : Q (.b (.tup [.int (cw w), .int (kw w)])) S) : Wc T (k + 1) b 0 [.b (.int w)] S Q := by
  have hn := cw_le hw
  refine counts_w k b S (cw w) (by omega) w (by unfold cw; omega) Q fun c hc hl => ?_
  rw [hc.uniq (kwF_ok (n := cw w) (by omega))]
  exact hQ
theorem digits_c (k b : Nat) (S : Store) (w m : Int) (h0 : 0 ≤ w) (hw : w ≤ 128) (Q : D → Store → Prop) (hQ : Q (.b (.lst ((digW w m).map B.int))) S) : Wc T (k + 2) b 1 [.b (.int w), .b (.int m)] S Q := by
  have hn := cw_le hw
  refine digits_w k b S (cw w) (by omega) w m (by unfold cw; omega) Q fun c hc => ?_
  rw [hc.uniq (kwF_ok (n := cw w) (by omega))]
  exact hQ
end G
namespace G
open M
/-! ### chains, keys, signatures -/
theorem atI_lastB {α : Type} {xs : List α} {y : α} : L2.atI (xs ++ [y]) (-1) = some y := by
  unfold L2.atI L2.ixN
  rw [if_neg (by decide), if_pos (by rw [List.length_append, List.length_singleton]; omega)]
  show (xs ++ [y])[(_ : Nat)]? = _
  rw [List.length_append, List.length_singleton, show (-1 + ((xs.length + 1 : Nat) : Int)).toNat = xs.length by omega, List.getElem?_append_right (Nat.le_refl _), Nat.sub_self]
  rfl
def stepv (w i c f x : Int) : Nat → Int
  | 0 => x
  | n + 1 => dig w 4 [i, c, f + n, stepv w i c f x n]
def stepl (w i c f x : Int) (n : Nat) : List Int := (List.range (n + 1)).map (stepv w i c f x)
theorem stepl_s (w i c f x : Int) (n : Nat) : stepl w i c f x (n + 1) = stepl w i c f x n ++ [stepv w i c f x (n + 1)] := by
  unfold stepl
  rw [List.range_succ, List.map_append]
  rfl
theorem stepl_e (w i c f x : Int) (n : Nat) : stepl w i c f x n = (List.range n).map (stepv w i c f x) ++ [stepv w i c f x n] := by
  unfold stepl
  rw [List.range_succ, List.map_append]
  rfl
theorem stepl_len (w i c f x : Int) (n : Nat) : (stepl w i c f x n).length = n + 1 := by
  unfold stepl
  rw [List.length_map, List.length_range]
theorem stepv_sm {w i c f x : Int} (h0 : 0 ≤ w) (hw : w ≤ 128) (hx : Sm x) : ∀ n, Sm (stepv w i c f x n)
  | 0 => hx
  | n + 1 => Sm.dig h0 hw _ _
theorem items_r2 {S : Store} {a b : Int} (h1 : -1000000 ≤ a) (h2 : a ≤ 1000000) (h3 : -1000000 ≤ b) (h4 : b ≤ 1000000) : items S .r2 [.b (.int a), .b (.int b)] = some (rngB a (b - a).toNat) := by
  have e1 : rOk a = true := decide_eq_true ⟨by omega, by omega⟩
  have e2 : rOk b = true := decide_eq_true ⟨by omega, by omega⟩
  show (if rOk a && rOk b then some (rngB a (b - a).toNat) else none) = _
  rw [e1, e2]
  rfl
theorem rngB_at {lo : Int} {n j : Nat} {x : B} (h : (rngB lo n)[j]? = some x) : j < n ∧ x = .int (lo + j) := by
  unfold rngB at h
  rw [List.getElem?_map] at h
  obtain ⟨y, h1, h2⟩ := Option.map_eq_some_iff.mp h
  have hj := (List.getElem?_eq_some_iff.mp h1).1
  rw [List.length_range] at hj
  rw [List.getElem?_range hj] at h1
  cases h1
  exact ⟨hj, h2.symm⟩
theorem rngB_len (lo : Int) (n : Nat) : (rngB lo n).length = n := by
  unfold rngB
  rw [List.length_map, List.length_range]
theorem stepped_w (k b : Nat) (S : Store) (w i c x f l : Int) (h0 : 0 ≤ w) (hw : w ≤ 128) (hi : Sm i) (hc : Sm c) (hx : Sm x) (hf : 0 ≤ f) (hf2 : f ≤ 1000) (hl : 0 ≤ l) (hl2 : l ≤ 1000) (Q : D → Store → Prop) (hQ : Q (.b (.lst ((stepl w i c f x (l - f).toNat).map B.int))) S) :
    Wc T (k + 3) b 50 [.b (hsh w), .b (.int i), .b (.int c), .b (.int x), .b (.int f), .b (.int l)] S Q := by
  refine wc_of (fd := f_p_signing_stepped) rfl rfl ?_
  unfold f_p_signing_stepped
  have cl2 : ∀ S, clsOf S 2 (.b (hsh w)) = some 0 := fun _ => rfl
  have me4 : T.meth 0 2 = some 4 := rfl
  refine ws_open fun r' hr' => ?_
  simp [start, newL]
  subst hr'
  refine ws_open fun r' hr' => ?_
  refine wx_forN (ds := [.int f, .int l]) (xs := rngB f (l - f).toNat) (fun Q h => by simpa using h) (items_r2 (by omega) (by omega) (by omega) (by omega)) (fun j σ1 S1 => S1 = S ++ [O.lst ((stepl w i c f x j).map B.int)] ∧ ∃ x7, σ1 = [some (.b (hsh w)), some (.b (.int i)), some (.b (.int c)), some (.b (.int x)), some (.b (.int f)), some (.b (.int l)), some (.ref S.length), x7]) ⟨rfl, none, rfl⟩ ?_ ?_
  · rintro j y σ1 S1 hy ⟨rfl, x7, rfl⟩
    obtain ⟨hj, rfl⟩ := rngB_at hy
    show Wo' (some ([some (.b (hsh w)), some (.b (.int i)), some (.b (.int c)), some (.b (.int x)), some (.b (.int f)), some (.b (.int l)), some (.ref S.length), some (.b (.int (f + j)))] : Sl)) _
    rw [wo_some]
    have hS := last_at (S := S) (o := O.lst ((stepl w i c f x j).map B.int))
    have hix : idx (S ++ [O.lst ((stepl w i c f x j).map B.int)]) (.ref S.length) (.b (.int (-1))) = some (.b (.int (stepv w i c f x j))) := by
      rw [idx_st hS, stepl_e, List.map_append]
      show (L2.atI (_ ++ [B.int (stepv w i c f x j)]) (-1)).map _ = _
      rw [atI_lastB]
      rfl
    refine ws_open fun q' hq' => ?_
    simp [cl2, me4, hix]
    refine digest_w (k) _ _ w 4 _ [i, c, f + j, stepv w i c f x j] (.inr rfl) hw (Sm.lim (fun z hz => ?_) (by simp)) _ ?_
    · simp only [List.mem_cons, List.not_mem_nil, or_false] at hz
      rcases hz with rfl | rfl | rfl | rfl
      · exact hi
      · exact hc
      · unfold Sm
        omega
      · exact stepv_sm h0 hw hx j
    have happ := mt_app hS (by rw [List.length_map, stepl_len]; unfold SZ; omega) (.int (dig w 4 [i, c, f + j, stepv w i c f x j]))
    simp [happ]
    subst hq'
    simp
    rw [stepl_s, List.map_append]
    rfl
  rintro σ1 S1 ⟨rfl, x7, rfl⟩
  rw [rngB_len, nx_nx]
  subst hr'
  refine ws_open fun r' hr' => ?_
  simp
  rw [ret_last]
  exact hQ
theorem key_digest_w (k b : Nat) (S : Store) (w i : Int) (ts : List Int) (hw : w ≤ 128) (hi : Sm i) (ht : ∀ x ∈ ts, Sm x) (hl : ts.length ≤ 1000) (Q : D → Store → Prop) (hQ : Q (.b (.int (dig w 5 (i :: ts)))) S) :
    Wc T (k + 3) b 51 [.b (hsh w), .b (.int i), .b (.lst (ts.map B.int))] S Q := by
  refine wc_of (fd := f_p_signing_key_digest) rfl rfl ?_
  unfold f_p_signing_key_digest
  have cl2 : ∀ S, clsOf S 2 (.b (hsh w)) = some 0 := fun _ => rfl
  have me4 : T.meth 0 2 = some 4 := rfl
  have hz : (ts.map B.int).length ≤ SZ := by rw [List.length_map]; unfold SZ; omega
  have hlst : ∀ S : Store, bi S .list false [.b (.lst (ts.map B.int))] = some (.b (.lst (ts.map B.int)), S) := fun S => if_pos hz
  have hbin : ∀ S : Store, bin S .add (.b (.lst [.int i])) (.b (.lst (ts.map B.int))) = some (.b (.lst ([.int i] ++ ts.map B.int))) := fun S => bin_ll (by rw [List.length_map]; unfold SZ; simp; omega)
  refine ws_open fun r' hr' => ?_
  simp [start, cl2, me4, newL, hlst, hbin]
  refine digest_w k _ _ w 5 _ (i :: ts) (.inl rfl) hw (Sm.lim (fun z hz => ?_) (by simp; omega)) _ ?_
  · rcases List.mem_cons.mp hz with rfl | hz
    · exact hi
    · exact ht z hz
  simpa using hQ
/-! ### levels -/
def lvN (w : Int) (sig : List Int) : Int := (sig.length : Int) - 1 - (nch w : Int)
def lvOk (w : Int) (sig : List Int) : Bool := decide (0 ≤ lvN w sig ∧ lvN w sig ≤ 6) && (decide (0 ≤ sig.headD 0 ∧ sig.headD 0 < 2 ^ (lvN w sig).toNat) && (sig.drop 1).all (digB w))
theorem sum2 (S : Store) (a b : Int) : bi S .sum false [.b (.tup [.int a, .int b])] = some (.b (.int (a + b)), S) := by
  show some (D.b (B.int (a + (b + 0))), S) = _
  rw [Int.add_zero]
theorem cut_from {α : Type} (xs : List α) (a : Nat) : cut xs (some (a : Int)) none = xs.drop a := by
  rw [cut_drop]
theorem cut_mid {α : Type} (xs : List α) (a b : Nat) : cut xs (some (a : Int)) (some (b : Int)) = (xs.take b).drop a := by
  unfold cut
  rw [HT.sIx_nat, HT.sIx_nat]
  refine List.ext_getElem? fun j => ?_
  rw [List.getElem?_drop, List.getElem?_take, List.getElem?_take, List.getElem?_drop]
  by_cases h1 : a ≤ xs.length
  · rw [show min a xs.length = a by omega]
    by_cases h2 : a + j < b
    · rw [if_pos h2]
      by_cases h3 : j < min b xs.length - a
      · rw [if_pos h3]
      · rw [if_neg h3, List.getElem?_eq_none (by omega)]
    · rw [if_neg h2, if_neg (by omega)]
  · rw [show min a xs.length = xs.length by omega, if_neg (by omega)]
    by_cases h2 : a + j < b
    · rw [if_pos h2, List.getElem?_eq_none (by omega)]
    · rw [if_neg h2]
theorem slT_from {S : Store} {xs : List B} (a : Nat) : slc S (.b (.tup xs)) (.b (.int (a : Int))) (.b .non) = some (.b (.tup (xs.drop a))) := by
  show some (D.b (.tup (cut xs (some (a : Int)) none))) = _
  rw [cut_from]
theorem slT_mid {S : Store} {xs : List B} (a b : Nat) : slc S (.b (.tup xs)) (.b (.int (a : Int))) (.b (.int (b : Int))) = some (.b (.tup ((xs.take b).drop a))) := by
  show some (D.b (.tup (cut xs (some (a : Int)) (some (b : Int))))) = _
  rw [cut_mid]
theorem bin_rl {S : Store} {n : Nat} {xs ys : List B} (h : S[n]? = some (.lst xs)) (hz : xs.length + ys.length ≤ SZ) : bin S .add (.ref n) (.b (.lst ys)) = some (.b (.lst (xs ++ ys))) := by
  show ((lstD S (.ref n)).bind fun xs => (some ys).bind fun ys => szL (xs ++ ys)) = _
  rw [lstD_ref h]
  show szL (xs ++ ys) = _
  unfold szL
  rw [List.length_append, if_pos hz]
theorem levels_w (k b : Nat) (S : Store) (w : Int) (sig : List Int) (h0 : 0 ≤ w) (hw : w ≤ 128) (hl : sig.length ≤ 1000) (Q : D → Store → Prop) (hQ : Q (.b (if lvOk w sig then .int (lvN w sig) else .non)) S) :
    Wc T (k + 2) b 59 [.b (hsh w), .b (.tup (sig.map B.int))] S Q := by
  refine wc_of (fd := f_p_signing_levels_of) rfl rfl ?_
  unfold f_p_signing_levels_of
  have gw : ∀ k b S, getf (par T k b).fo S (.b (hsh w)) 0 = some (.b (.int w)) := fun _ _ _ => rfl
  have cl1 : ∀ S, clsOf S 1 (.b (hsh w)) = some 0 := fun _ => rfl
  have me5 : T.meth 0 1 = some 5 := rfl
  have lvf : ∀ {P : Prop}, P → P := fun h => h
  refine ws_open fun r' hr' => ?_
  simp [start, gw]
  refine counts_c k _ _ w h0 hw _ ?_
  simp [sum2]
  have en : (sig.length : Int) - 1 - ((cw w : Int) + (kw w : Int)) = lvN w sig := by
    unfold lvN nch
    push_cast
    omega
  rw [en]
  obtain ⟨L, hL⟩ : ∃ L, L = lvN w sig := ⟨_, rfl⟩
  have hok : lvOk w sig = (decide (0 ≤ L ∧ L ≤ 6) && (decide (0 ≤ sig.headD 0 ∧ sig.headD 0 < 2 ^ L.toNat) && (sig.drop 1).all (digB w))) := by
    rw [hL]
    rfl
  rw [← hL] at hQ ⊢
  rw [hok] at hQ
  subst hr'
  refine ws_open fun r' hr' => ?_
  by_cases c1 : 0 ≤ L
  · by_cases c2 : L ≤ 6
    · have hn := nch_pos w
      cases sig with
      | nil =>
        exfalso
        rw [hL] at c1
        unfold lvN at c1
        simp at c1
        omega
      | cons a rest =>
      have sl : shlOk 1 L = true := shlOk_small c1 (by omega) (by decide)
      rw [decide_eq_true (show 0 ≤ L ∧ L ≤ 6 from ⟨c1, c2⟩), Bool.true_and] at hQ
      by_cases c3 : 0 ≤ a
      · by_cases c4 : a < 2 ^ L.toNat
        · simp [c1, c2, c3, c4, sl]
          have hh : decide (0 ≤ (a :: rest).headD 0 ∧ (a :: rest).headD 0 < 2 ^ L.toNat) = true := decide_eq_true ⟨c3, c4⟩
          rw [hh, Bool.true_and] at hQ
          have hd : (a :: rest).drop 1 = rest := rfl
          rw [hd] at hQ
          subst hr'
          refine ws_open fun r' hr' => ?_
          rw [wx_iff, we_not, we_bi, wes_cons]
          refine we_lcM (os := rest) (g := B.int) (f := fun x => .bl (digB w x)) (v := .tup (rest.map B.int)) (fun Q h => ?_) rfl (by simp at hl; unfold SZ; omega) (fun x hx Q h => ?_) ?_
          · rw [we_slc, we_v rfl, we_k, we_nop]
            have := slT_from (S := S) (xs := B.int a :: rest.map B.int) 1
            rw [show ((1 : Nat) : Int) = 1 from rfl] at this
            rw [this, wo_some]
            exact h
          · rw [we_meth, we_v rfl, cl1, wo_some, me5, wo_some, wes_cons, we_v rfl, wes_nil]
            exact is_digest_w k _ _ w x h0 (by omega) _ h
          rw [wes_nil, show (rest.map fun x => B.bl (digB w x)) = (rest.map (digB w)).map B.bl by rw [List.map_map]; rfl, bi_all, wo_some]
          have eb : (rest.map (digB w)).all id = rest.all (digB w) := by rw [List.all_map]; rfl
          rw [eb]
          cases hb : rest.all (digB w) with
          | false =>
            rw [hb] at hQ
            simp [ws_cons]
            exact hQ
          | true =>
            rw [hb] at hQ
            simp
            subst hr'
            simp [ws_cons]
            exact hQ
        · have hh : decide (0 ≤ (a :: rest).headD 0 ∧ (a :: rest).headD 0 < 2 ^ L.toNat) = false := decide_eq_false fun h => c4 h.2
          rw [hh] at hQ
          simp [c1, c2, c3, c4, sl, ws_cons]
          exact hQ
      · have hh : decide (0 ≤ (a :: rest).headD 0 ∧ (a :: rest).headD 0 < 2 ^ L.toNat) = false := decide_eq_false fun h => c3 h.1
        rw [hh] at hQ
        simp [c1, c2, c3, sl, ws_cons]
        exact hQ
    · rw [decide_eq_false (show ¬ (0 ≤ L ∧ L ≤ 6) from fun h => c2 h.2)] at hQ
      simp [c1, c2, ws_cons]
      exact hQ
  · rw [decide_eq_false (show ¬ (0 ≤ L ∧ L ≤ 6) from fun h => c1 h.1)] at hQ
    simp [c1, ws_cons]
    exact hQ
end G
namespace G
open M
/-! ### what a signature tells -/
abbrev SgI := Int × List Int
def sgB (p : SgI) : B := .tup [.int p.1, .tup (p.2.map B.int)]
/-- the k-th word of a signature, followed to the step 15 -/
def topS (w msg : Int) (sig : List Int) (k : Nat) : Int := stepv w (sig.headD 0) k ((digW w msg).getD k 0) (sig.getD (1 + k) 0) (15 - (digW w msg).getD k 0).toNat
def topsS (w msg : Int) (sig : List Int) : List Int := (List.range (nch w)).map (topS w msg sig)
def pathS (w : Int) (sig : List Int) : List Int := sig.drop (nch w + 1)
def keyS (w msg : Int) (sig : List Int) : SgI := (5, sig.headD 0 :: topsS w msg sig)
/-- the nodes from the key up -/
def nodeS (w i : Int) (a : SgI) (path : List Int) : Nat → SgI
  | 0 => a
  | j + 1 => (6, if i / 2 ^ j % 2 = 0 then [(j : Int), dig w (nodeS w i a path j).1 (nodeS w i a path j).2, path.getD j 0] else [(j : Int), path.getD j 0, dig w (nodeS w i a path j).1 (nodeS w i a path j).2])
def nodesS (w msg : Int) (sig : List Int) (j : Nat) : SgI := nodeS w (sig.headD 0) (keyS w msg sig) (pathS w sig) j
def lastS (w msg : Int) (sig : List Int) : SgI := (6, [((pathS w sig).length : Int), dig w (nodesS w msg sig (pathS w sig).length).1 (nodesS w msg sig (pathS w sig).length).2])
def inpS (w msg : Int) (sig : List Int) : List SgI := (List.range ((pathS w sig).length + 1)).map (nodesS w msg sig) ++ [lastS w msg sig]
/-- a signature is valid -/
def vfy (w pub msg : Int) (sig : List Int) : Bool := lvOk w sig && decide (dig w (lastS w msg sig).1 (lastS w msg sig).2 = pub)
structure LvS (w : Int) (sig : List Int) : Prop where
  len : sig.length = 1 + nch w + (pathS w sig).length
  pl : (pathS w sig).length ≤ 6
  i0 : 0 ≤ sig.headD 0
  i1 : sig.headD 0 < 64
  dg : ∀ x ∈ sig.drop 1, 0 ≤ x ∧ x < 2 ^ w.toNat
theorem LvS.of {w : Int} {sig : List Int} (h : lvOk w sig = true) : LvS w sig := by
  unfold lvOk at h
  rw [Bool.and_eq_true, Bool.and_eq_true, decide_eq_true_iff, decide_eq_true_iff] at h
  obtain ⟨⟨h1, h2⟩, ⟨h3, h4⟩, h5⟩ := h
  have e : (pathS w sig).length = (lvN w sig).toNat := by
    unfold pathS lvN at *
    rw [List.length_drop]
    omega
  refine ⟨?_, by omega, h3, ?_, fun x hx => of_decide_eq_true (List.all_eq_true.mp h5 x hx)⟩
  · unfold lvN at h1 e
    omega
  · have h6 : (lvN w sig).toNat ≤ 6 := by omega
    have : (2 : Int) ^ (lvN w sig).toNat ≤ 2 ^ 6 := by exact_mod_cast Nat.pow_le_pow_right (n := 2) (by decide) h6
    have e6 : (2 : Int) ^ 6 = 64 := by decide
    omega
theorem LvS.sm {w : Int} {sig : List Int} (h : LvS w sig) (hw : w ≤ 128) : ∀ x ∈ sig, Sm x := fun x hx => by
  have hp := pow_sm hw
  unfold Sm at hp
  cases sig with
  | nil => cases hx
  | cons a r =>
    rcases List.mem_cons.mp hx with rfl | hx
    · have h1 : x < 64 := h.i1
      unfold Sm
      omega
    · have := (h.dg x hx).2
      unfold Sm
      omega
theorem getD_sm {xs : List Int} (h : ∀ x ∈ xs, Sm x) (j : Nat) : Sm (xs.getD j 0) := by
  rw [List.getD_eq_getElem?_getD]
  cases e : xs[j]? with
  | none => show (0 : Int) < _; decide
  | some x => exact h x (List.mem_of_getElem? e)
theorem topS_sm {w : Int} {sig : List Int} (h : LvS w sig) (h0 : 0 ≤ w) (hw : w ≤ 128) (msg : Int) (k : Nat) : Sm (topS w msg sig k) := stepv_sm h0 hw (getD_sm (h.sm hw) _) _
theorem nodeS_ok {w i : Int} {a : SgI} {path : List Int} (h0 : 0 ≤ w) (hw : w ≤ 128) (ha : a.2.length ≤ 100 ∧ ∀ x ∈ a.2, Sm x) (hp : ∀ x ∈ path, Sm x) : ∀ j, j ≤ 100 → (nodeS w i a path j).2.length ≤ 100 ∧ ∀ x ∈ (nodeS w i a path j).2, Sm x
  | 0, _ => ha
  | j + 1, hj => by
    have s1 : Sm (j : Int) := Sm.nat (by omega)
    have s2 := Sm.dig h0 hw (nodeS w i a path j).1 (nodeS w i a path j).2
    have s3 := getD_sm hp j
    unfold nodeS
    split
    · refine ⟨by simp, fun x hx => ?_⟩
      simp only [List.mem_cons, List.not_mem_nil, or_false] at hx
      rcases hx with e | e | e
      · rw [e]; exact s1
      · rw [e]; exact s2
      · rw [e]; exact s3
    · refine ⟨by simp, fun x hx => ?_⟩
      simp only [List.mem_cons, List.not_mem_nil, or_false] at hx
      rcases hx with e | e | e
      · rw [e]; exact s1
      · rw [e]; exact s3
      · rw [e]; exact s2
theorem range_s {α : Type} (f : Nat → α) (n : Nat) : (List.range (n + 1)).map f = (List.range n).map f ++ [f n] := by
  rw [List.range_succ, List.map_append]
  rfl
theorem getD_at {xs : List Int} {j : Nat} (h : j < xs.length) : xs[j]? = some (xs.getD j 0) := by
  rw [List.getD_eq_getElem?_getD, List.getElem?_eq_getElem h]
  rfl
theorem idx_lint {S : Store} {xs : List Int} {j : Nat} (h : j < xs.length) : idx S (.b (.lst (xs.map B.int))) (.b (.int (j : Int))) = some (.b (.int (xs.getD j 0))) := by
  rw [idx_lst, atI_get (j := j) (x := B.int (xs.getD j 0)) rfl (by rw [List.getElem?_map, getD_at h]; rfl)]
  rfl
theorem idx_tint {S : Store} {xs : List Int} {j : Nat} (h : j < xs.length) : idx S (.b (.tup (xs.map B.int))) (.b (.int (j : Int))) = some (.b (.int (xs.getD j 0))) := by
  rw [idx_tup, atI_get (j := j) (x := B.int (xs.getD j 0)) rfl (by rw [List.getElem?_map, getD_at h]; rfl)]
  rfl
theorem inputs_w (k b : Nat) (S : Store) (w msg : Int) (sig : List Int) (h0 : 0 ≤ w) (hw : w ≤ 128) (hl : LvS w sig) (Q : D → Store → Prop) (hQ : Q (.b (.lst ((inpS w msg sig).map sgB))) S) :
    Wc T (k + 4) b 60 [.b (hsh w), .b (.int msg), .b (.tup (sig.map B.int))] S Q := by
  refine wc_of (fd := f_p_signing_inputs_of) rfl rfl ?_
  unfold f_p_signing_inputs_of
  have gw : ∀ k b S, getf (par T k b).fo S (.b (hsh w)) 0 = some (.b (.int w)) := fun _ _ _ => rfl
  have cl2 : ∀ S, clsOf S 2 (.b (hsh w)) = some 0 := fun _ => rfl
  have me4 : T.meth 0 2 = some 4 := rfl
  have hsm := hl.sm hw
  have hlen := hl.len
  have hpl := hl.pl
  have hnch := nch_le hw
  have hpos : 0 < sig.length := by omega
  obtain ⟨i, hi⟩ : ∃ i, i = sig.headD 0 := ⟨_, rfl⟩
  have hi0 : 0 ≤ i := hi ▸ hl.i0
  have hi1 : i < 64 := hi ▸ hl.i1
  have hix : ∀ S, idx S (.b (.tup (sig.map B.int))) (.b (.int 0)) = some (.b (.int i)) := fun S => by
    have := idx_tint (S := S) (xs := sig) (j := 0) hpos
    rw [hi]
    cases sig with
    | nil => cases hpos
    | cons a r => exact this
  refine ws_open fun r' hr' => ?_
  simp [start, hix]
  subst hr'
  refine ws_open fun r' hr' => ?_
  simp [gw]
  refine digits_c (k + 1) _ _ w msg h0 hw _ ?_
  obtain ⟨ds, hds⟩ : ∃ ds, ds = digW w msg := ⟨_, rfl⟩
  have hdl : ds.length = nch w := by rw [hds, digW_len]
  have hdb : ∀ k, 0 ≤ ds.getD k 0 ∧ ds.getD k 0 ≤ 15 := fun k => by
    rw [List.getD_eq_getElem?_getD]
    cases e : ds[k]? with
    | none => show (0 : Int) ≤ 0 ∧ (0 : Int) ≤ 15; decide
    | some x => exact digW_bd (hds ▸ List.mem_of_getElem? e)
  rw [← hds]
  subst hr'
  refine ws_open fun r' hr' => ?_
  obtain ⟨ws, hws⟩ : ∃ ws, ws = (sig.take (nch w + 1)).drop 1 := ⟨_, rfl⟩
  have hwl : ws.length = nch w := by rw [hws, List.length_drop, List.length_take]; omega
  have hwg : ∀ k, k < nch w → ws.getD k 0 = sig.getD (1 + k) 0 := fun k hk => by
    rw [List.getD_eq_getElem?_getD, List.getD_eq_getElem?_getD, hws, List.getElem?_drop, List.getElem?_take, if_pos (by omega)]
  have hsl : ∀ S, slc S (.b (.tup (sig.map B.int))) (.b (.int 1)) (.b (.int ((ds.length : Int) + 1))) = some (.b (.tup (ws.map B.int))) := fun S => by
    have := slT_mid (S := S) (xs := sig.map B.int) 1 (nch w + 1)
    rw [← List.map_take, ← List.map_drop, ← hws] at this
    rw [← this, hdl]
    rfl
  simp [hsl]
  subst hr'
  refine ws_open fun r' hr' => ?_
  rw [wx_set]
  refine we_lcP (xs := rngB 0 (nch w)) (ds := [.int (nch w : Int)]) (fun _ => true) (fun x => (match x with
    | .int k => .int (topS w msg sig k.toNat)
    | _ => .non)) (fun Q h => by simp [hdl]; exact h) (items_r1 (by omega)) (by rw [rngB_len]; unfold SZ; omega) (fun x hx => ?_) ?_
  · obtain ⟨j, hj⟩ := List.getElem?_of_mem hx
    obtain ⟨hjn, rfl⟩ := rngB_at hj
    rw [Int.zero_add]
    show Wo' (some _) _
    rw [wo_some, we_k]
    refine ⟨rfl, rfl, fun _ => ?_⟩
    have x1 : idx S (.b (.tup (ws.map B.int))) (.b (.int (j : Int))) = some (.b (.int (ws.getD j 0))) := idx_tint (by omega)
    have x2 : idx S (.b (.lst (ds.map B.int))) (.b (.int (j : Int))) = some (.b (.int (ds.getD j 0))) := idx_lint (by omega)
    simp only [wipe, List.set]
    rw [we_idx, we_call]
    simp only [wes_cons, wes_nil]
    rw [we_v rfl, we_v rfl, we_v rfl, we_idx, we_v rfl, we_v rfl, x1, wo_some, we_idx, we_v rfl, we_v rfl, x2, wo_some, we_bin, we_k, we_k]
    show Wo' (some (D.b (.int 15))) _
    rw [wo_some]
    obtain ⟨d1, d2⟩ := hdb j
    refine stepped_w k _ _ w i j (ws.getD j 0) (ds.getD j 0) 15 h0 hw (by unfold Sm; omega) (Sm.nat (by omega)) (by rw [hwg j hjn]; exact getD_sm hsm _) d1 (by omega) (by decide) (by decide) _ ?_
    rw [we_neg, we_k, wo_some, stepl_e, List.map_append]
    show Wo' ((L2.atI (_ ++ [B.int _]) (-1)).map D.b) _
    rw [atI_lastB]
    refine wo_some.mpr ⟨rfl, ?_⟩
    show D.b (.int _) = D.b (.int (topS w msg sig ((j : Int)).toNat))
    unfold topS
    rw [hwg j hjn, hi, hds, Int.toNat_natCast]
  have etop : ((rngB 0 (nch w)).filter fun _ => true).map (fun x => (match x with
    | .int k => B.int (topS w msg sig k.toNat)
    | _ => .non)) = (topsS w msg sig).map B.int := by
    rw [List.filter_eq_self.mpr fun _ _ => rfl]
    unfold rngB topsS
    rw [List.map_map, List.map_map]
    refine List.map_congr_left fun k _ => ?_
    show B.int (topS w msg sig ((0 : Int) + (k : Nat)).toNat) = _
    rw [show ((0 : Int) + (k : Nat)).toNat = k by omega]
    rfl
  rw [etop, nx_nx]
  simp only [List.set]
  subst hr'
  refine ws_open fun r' hr' => ?_
  have htl : (topsS w msg sig).length = nch w := by unfold topsS; rw [List.length_map, List.length_range]
  have hb1 : ∀ S : Store, bin S .add (.b (.lst [.int i])) (.b (.lst ((topsS w msg sig).map B.int))) = some (.b (.lst (((i :: topsS w msg sig)).map B.int))) := fun S => bin_ll (by rw [List.length_map]; unfold SZ; simp; omega)
  have htp : ∀ (S : Store) (xs : List B), bi S .tuple false [.b (.lst xs)] = some (.b (.tup xs), S) := fun _ _ => rfl
  simp [newL, hb1, htp]
  obtain ⟨N, hN⟩ : ∃ N : Nat → List B, N = fun j => ((List.range (j + 1)).map (nodesS w msg sig)).map sgB := ⟨_, rfl⟩
  have hk : ([B.tup [B.int 5, B.tup (B.int i :: List.map B.int (topsS w msg sig))]] : List B) = N 0 := by
    rw [hN]
    show _ = [sgB (keyS w msg sig)]
    unfold keyS sgB
    rw [hi]
    rfl
  rw [hk]
  subst hr'
  refine ws_open fun r' hr' => ?_
  obtain ⟨path, hpath⟩ : ∃ path, path = pathS w sig := ⟨_, rfl⟩
  have hsl2 : ∀ S, slc S (.b (.tup (sig.map B.int))) (.b (.int ((ds.length : Int) + 1))) (.b .non) = some (.b (.tup (path.map B.int))) := fun S => by
    have := slT_from (S := S) (xs := sig.map B.int) (nch w + 1)
    rw [← List.map_drop] at this
    rw [hpath]
    unfold pathS
    rw [← this, hdl]
    rfl
  simp [hsl2]
  rw [← hpath] at hlen hpl
  have hps : ∀ x ∈ path, Sm x := fun x hx => hsm x (by rw [hpath] at hx; unfold pathS at hx; exact List.mem_of_mem_drop hx)
  have hnode : ∀ j, j ≤ 100 → (nodesS w msg sig j).2.length ≤ 100 ∧ ∀ x ∈ (nodesS w msg sig j).2, Sm x := fun j hj => by
    refine nodeS_ok h0 hw ⟨?_, fun x hx => ?_⟩ (hpath ▸ hps) j hj
    · unfold keyS
      rw [List.length_cons, htl]
      omega
    · unfold keyS topsS at hx
      rcases List.mem_cons.mp hx with e | hx
      · rw [e, ← hi]
        unfold Sm
        omega
      · obtain ⟨q, _, rfl⟩ := List.mem_map.mp hx
        exact topS_sm hl h0 hw msg q
  subst hr'
  refine ws_open fun r' hr' => ?_
  have hNs : ∀ j, N (j + 1) = N j ++ [sgB (nodesS w msg sig (j + 1))] := fun j => by
    rw [hN]
    dsimp only
    rw [range_s, List.map_append]
    rfl
  have hNl : ∀ j, (N j).length = j + 1 := fun j => by
    rw [hN]
    dsimp only
    rw [List.length_map, List.length_map, List.length_range]
  have hNe : ∀ j, ∃ M, N j = M ++ [sgB (nodesS w msg sig j)] := fun j => by
    rw [hN]
    exact ⟨_, by dsimp only; rw [range_s, List.map_append]; rfl⟩
  have hlast : ∀ j, idx (S ++ [O.lst (N j)]) (.ref S.length) (.b (.int (-1))) = some (.b (sgB (nodesS w msg sig j))) := fun j => by
    obtain ⟨M, e⟩ := hNe j
    rw [idx_st last_at, e, atI_lastB]
    rfl
  have hs0 : ∀ S p, idx S (.b (sgB p)) (.b (.int 0)) = some (.b (.int p.1)) := fun _ _ => rfl
  have hs1 : ∀ S p, idx S (.b (sgB p)) (.b (.int 1)) = some (.b (.tup (p.2.map B.int))) := fun _ _ => rfl
  refine wx_forN (ds := [.int (path.length : Int)]) (xs := rngB 0 path.length) (fun Q h => by simp; exact h) (items_r1 (by omega)) (fun j σ1 S1 => j ≤ path.length ∧ S1 = S ++ [O.lst (N j)] ∧ ∃ x9 x10 x11, σ1 = [some (.b (hsh w)), some (.b (.int msg)), some (.b (.tup (sig.map B.int))), some (.b (.int i)), some (.b (.lst (ds.map B.int))), some (.b (.tup (ws.map B.int))), some (.b (.lst ((topsS w msg sig).map B.int))), some (.ref S.length), some (.b (.tup (path.map B.int))), x9, x10, x11, none]) ⟨Nat.zero_le _, rfl, none, none, none, rfl⟩ ?_ ?_
  · rintro j y σ1 S1 hy ⟨hj, rfl, x9, x10, x11, rfl⟩
    obtain ⟨hjn, rfl⟩ := rngB_at hy
    rw [Int.zero_add]
    show Wo' (some ([some (.b (hsh w)), some (.b (.int msg)), some (.b (.tup (sig.map B.int))), some (.b (.int i)), some (.b (.lst (ds.map B.int))), some (.b (.tup (ws.map B.int))), some (.b (.lst ((topsS w msg sig).map B.int))), some (.ref S.length), some (.b (.tup (path.map B.int))), some (.b (.int (j : Int))), x10, x11, none] : Sl)) _
    rw [wo_some]
    refine ws_open fun q' hq' => ?_
    simp [cl2, me4, hlast, hs0, hs1]
    refine digest_w (k + 1) _ _ w _ _ (nodesS w msg sig j).2 (.inr rfl) hw (Sm.lim (hnode j (by omega)).2 (by have := (hnode j (by omega)).1; omega)) _ ?_
    obtain ⟨d, hd⟩ : ∃ d, d = dig w (nodesS w msg sig j).1 (nodesS w msg sig j).2 := ⟨_, rfl⟩
    rw [← hd]
    try simp
    subst hq'
    have hp : ∀ S, idx S (.b (.tup (path.map B.int))) (.b (.int (j : Int))) = some (.b (.int (path.getD j 0))) := fun S => idx_tint hjn
    have hnx : nodesS w msg sig (j + 1) = (6, if i / 2 ^ j % 2 = 0 then [(j : Int), d, path.getD j 0] else [(j : Int), path.getD j 0, d]) := by
      rw [hd, hi, hpath]
      rfl
    have happ := mt_app (S := S ++ [O.lst (N j)]) (n := S.length) last_at (by rw [hNl]; unfold SZ; omega) (sgB (nodesS w msg sig (j + 1)))
    have hba : PySem.Builtin.bitAnd (i / 2 ^ j) 1 = i / 2 ^ j % 2 := PyProof.Rows.bitAnd_m1 _
    refine ws_open fun q' hq' => ?_
    have go : ∀ x11 : B, (∀ S : Store, bin S .add (.b (.tup [.int (j : Int)])) (.b x11) = some (.b (.tup ((nodesS w msg sig (j + 1)).2.map B.int)))) → (nodesS w msg sig (j + 1)).1 = 6 → Ws (par T (k + 3) S.length) [St.ex (E.mt Mt.append (E.v 7) [E.tup [E.k (B.int 6), E.bin Op.add (E.tup [E.v 9]) (E.v 11)]])] [some (.b (hsh w)), some (.b (.int msg)), some (.b (.tup (sig.map B.int))), some (.b (.int i)), some (.b (.lst (ds.map B.int))), some (.b (.tup (ws.map B.int))), some (.b (.lst ((topsS w msg sig).map B.int))), some (.ref S.length), some (.b (.tup (path.map B.int))), some (.b (.int (j : Int))), some (.b (.int d)), some (.b x11), none] (S ++ [O.lst (N j)]) fun f σ3 S3 => match f with
      | .rt d => Nx (par T (k + 3) S.length) r' (Ret true S.length Q) (.rt d) σ3 S3
      | _ => j + 1 ≤ path.length ∧ S3 = S ++ [O.lst (N (j + 1))] ∧ ∃ x9 x10 x11, σ3 = [some (.b (hsh w)), some (.b (.int msg)), some (.b (.tup (sig.map B.int))), some (.b (.int i)), some (.b (.lst (ds.map B.int))), some (.b (.tup (ws.map B.int))), some (.b (.lst ((topsS w msg sig).map B.int))), some (.ref S.length), some (.b (.tup (path.map B.int))), x9, x10, x11, none] := fun x11 h1 h2 => by
      have e2 : B.tup [B.int 6, B.tup ((nodesS w msg sig (j + 1)).2.map B.int)] = sgB (nodesS w msg sig (j + 1)) := by
        unfold sgB
        rw [h2]
      refine ws_open fun q' hq' => ?_
      simp [h1]
      rw [e2, happ]
      simp
      subst hq'
      simp
      exact ⟨by omega, (hNs j).symm⟩
    by_cases c : i / 2 ^ j % 2 = 0
    · rw [if_pos c] at hnx
      simp [hba, c, hp]
      subst hq'
      exact go (.tup [.int d, .int (path.getD j 0)]) (fun S => by rw [hnx]; exact bin_tt (by unfold SZ; simp)) (by rw [hnx])
    · rw [if_neg c] at hnx
      simp [hba, c, hp]
      subst hq'
      exact go (.tup [.int (path.getD j 0), .int d]) (fun S => by rw [hnx]; exact bin_tt (by unfold SZ; simp)) (by rw [hnx])
  rintro σ1 S1 ⟨hj, rfl, x9, x10, x11, rfl⟩
  rw [rngB_len, nx_nx]
  subst hr'
  refine ws_open fun r' hr' => ?_
  simp [cl2, me4, hlast, hs0, hs1]
  refine digest_w (k + 1) _ _ w _ _ (nodesS w msg sig path.length).2 (.inr rfl) hw (Sm.lim (hnode path.length (by omega)).2 (by have := (hnode path.length (by omega)).1; omega)) _ ?_
  try simp
  subst hr'
  refine ws_open fun r' hr' => ?_
  obtain ⟨d, hd⟩ : ∃ d, d = dig w (nodesS w msg sig path.length).1 (nodesS w msg sig path.length).2 := ⟨_, rfl⟩
  rw [← hd]
  have hbr : bin (S ++ [O.lst (N path.length)]) .add (.ref S.length) (.b (.lst [.tup [.int 6, .tup [.int (path.length : Int), .int d]]])) = some (.b (.lst (N path.length ++ [.tup [.int 6, .tup [.int (path.length : Int), .int d]]]))) := bin_rl last_at (by rw [hNl]; unfold SZ; simp; omega)
  simp [newL, hbr]
  have efin : N path.length ++ [.tup [.int 6, .tup [.int (path.length : Int), .int d]]] = (inpS w msg sig).map sgB := by
    unfold inpS
    rw [List.map_append, hN, ← hpath]
    dsimp only
    rw [hd, hpath]
    rfl
  rw [efin]
  exact hQ
theorem verify_w (k b : Nat) (S : Store) (w pub msg : Int) (sig : List Int) (h0 : 0 ≤ w) (hw : w ≤ 128) (hl : sig.length ≤ 1000) (Q : D → Store → Prop) (hQ : Q (.b (.bl (vfy w pub msg sig))) S) :
    Wc T (k + 5) b 61 [.b (hsh w), .b (.int pub), .b (.int msg), .b (.tup (sig.map B.int))] S Q := by
  refine wc_of (fd := f_p_signing_verify) rfl rfl ?_
  unfold f_p_signing_verify
  have cl2 : ∀ S, clsOf S 2 (.b (hsh w)) = some 0 := fun _ => rfl
  have me4 : T.meth 0 2 = some 4 := rfl
  unfold vfy at hQ
  refine ws_open fun r' hr' => ?_
  simp [start]
  refine levels_w (k + 2) _ _ w sig h0 hw hl _ ?_
  cases e : lvOk w sig with
  | false =>
    rw [e] at hQ
    have hi : ∀ S, M.cmp S .is (.b .non) (.b .non) = some true := fun _ => rfl
    simp [hi, ws_cons]
    exact hQ
  | true =>
    rw [e, Bool.true_and] at hQ
    have hi : ∀ S (n : Int), M.cmp S .is (.b (.int n)) (.b .non) = some false := fun _ _ => rfl
    have hv := LvS.of e
    simp [hi]
    subst hr'
    refine ws_open fun r' hr' => ?_
    rw [wx_unp, we_idx]
    simp
    refine inputs_w k _ _ w msg sig h0 hw hv _ ?_
    have hla : ∀ S, idx S (.b (.lst ((inpS w msg sig).map sgB))) (.b (.int (-1))) = some (.b (sgB (lastS w msg sig))) := fun S => by
      unfold inpS
      rw [idx_lst, List.map_append]
      show (L2.atI (_ ++ [sgB (lastS w msg sig)]) (-1)).map _ = _
      rw [atI_lastB]
      rfl
    rw [hla, wo_some]
    show Wo' (some _) _
    rw [wo_some]
    simp only [putAll, List.set, nx_nx]
    subst hr'
    refine ws_open fun r' hr' => ?_
    simp [cl2, me4]
    have hpl := hv.pl
    refine digest_w (k + 2) _ _ w _ _ (lastS w msg sig).2 (.inr rfl) hw (Sm.lim (fun x hx => ?_) (by unfold lastS; simp)) _ ?_
    · unfold lastS at hx
      simp only [List.mem_cons, List.not_mem_nil, or_false] at hx
      rcases hx with e | e
      · rw [e]; exact Sm.nat (by omega)
      · rw [e]; exact Sm.dig h0 hw _ _
    rw [cmp_eq_i, wo_some]
    have eb : (dig w (lastS w msg sig).1 (lastS w msg sig).2 == pub) = decide (dig w (lastS w msg sig).1 (lastS w msg sig).2 = pub) := by
      by_cases h : dig w (lastS w msg sig).1 (lastS w msg sig).2 = pub <;> simp [h]
    rw [eb]
    simpa using hQ
end G
namespace G
open M
/-! ### signers -/
theorem getf_ref {fo : Nat → Nat → Bool} {S : Store} {n c f : Nat} {fs : List (Nat × D)} {x : D} (h : S[n]? = some (.ins c fs)) (hf : fo c f = true) (hx : fget fs f = some x) : getf fo S (.ref n) f = some x := by
  unfold getf
  dsimp only
  rw [h]
  dsimp only
  rw [if_pos hf, hx]
theorem clsOf_ref {S : Store} {n c m : Nat} {fs : List (Nat × D)} (h : S[n]? = some (.ins c fs)) (hm : fget fs m = none) : clsOf S m (.ref n) = some c := by
  unfold clsOf
  dsimp only
  rw [h]
  dsimp only
  rw [hm]
  rfl
def chv (w sec i c : Int) (n : Nat) : Int := stepv w i c 0 (dig w 7 [sec, i, c]) n
def chl (w sec i c : Int) : List Int := stepl w i c 0 (dig w 7 [sec, i, c]) 15
def kwB (w sec i : Int) : B := .lst ((List.range (nch w)).map fun c : Nat => .lst ((chl w sec i c).map B.int))
def wordsB (w sec : Int) (L : Nat) : B := .lst ((List.range (2 ^ L)).map fun i : Nat => kwB w sec i)
def tops (w sec i : Int) : List Int := (List.range (nch w)).map fun c : Nat => chv w sec i c 15
def row0 (w sec : Int) (L : Nat) : List Int := (List.range (2 ^ L)).map fun i : Nat => dig w 5 ((i : Int) :: tops w sec i)
def rowN (w sec : Int) (L : Nat) : Nat → List Int
  | 0 => row0 w sec L
  | l + 1 => (List.range ((rowN w sec L l).length / 2)).map fun j => dig w 6 [(l : Int), (rowN w sec L l).getD (2 * j) 0, (rowN w sec L l).getD (2 * j + 1) 0]
def rowsB (w sec : Int) (L n : Nat) : List B := (List.range (n + 1)).map fun l => .lst ((rowN w sec L l).map B.int)
def pubk (w sec : Int) (L : Nat) : Int := dig w 6 [(L : Int), (rowN w sec L L).headD 0]
def signB (w sec : Int) (L : Nat) : B := .ins 4 [(3, hsh w), (19, .int sec), (20, .int (L : Int)), (22, wordsB w sec L), (24, .lst (rowsB w sec L L)), (25, .int (pubk w sec L))]
theorem rowN_len (w sec : Int) (L : Nat) : ∀ l, l ≤ L → (rowN w sec L l).length = 2 ^ (L - l)
  | 0, _ => by
    unfold rowN row0
    rw [List.length_map, List.length_range]
    rfl
  | l + 1, h => by
    unfold rowN
    rw [List.length_map, List.length_range, rowN_len w sec L l (by omega)]
    rw [show L - l = (L - (l + 1)) + 1 by omega, Nat.pow_succ]
    omega
/-- what the methods look at -/
structure SgD (S : Store) (d : D) (w sec : Int) : Prop where
  h : ∀ J, getf T.fo (S ++ J) d 3 = some (.b (hsh w))
  s : ∀ J, getf T.fo (S ++ J) d 19 = some (.b (.int sec))
  c26 : ∀ J, clsOf (S ++ J) 26 d = some 4
  c27 : ∀ J, clsOf (S ++ J) 27 d = some 4
theorem SgD.app {S : Store} {d : D} {w sec : Int} (h : SgD S d w sec) (K : Store) : SgD (S ++ K) d w sec :=
  ⟨fun J => by rw [List.append_assoc]; exact h.h _, fun J => by rw [List.append_assoc]; exact h.s _, fun J => by rw [List.append_assoc]; exact h.c26 _, fun J => by rw [List.append_assoc]; exact h.c27 _⟩
theorem SgD.h0 {S : Store} {d : D} {w sec : Int} (h : SgD S d w sec) : getf T.fo S d 3 = some (.b (hsh w)) := by
  have := h.h []
  rwa [List.append_nil] at this
theorem SgD.c26' {S : Store} {d : D} {w sec : Int} (h : SgD S d w sec) : clsOf S 26 d = some 4 := by
  have := h.c26 []
  rwa [List.append_nil] at this
theorem SgD.c27' {S : Store} {d : D} {w sec : Int} (h : SgD S d w sec) : clsOf S 27 d = some 4 := by
  have := h.c27 []
  rwa [List.append_nil] at this
theorem chains_w (k b : Nat) (S : Store) (d : D) (w sec : Int) (h0 : 0 ≤ w) (hw : w ≤ 128) (hd : SgD S d w sec) (Q : D → Store → Prop) (hQ : Q (.b (.int (nch w : Int))) S) : Wc T (k + 2) b 53 [d] S Q := by
  refine wc_of (fd := f_p_signing_Signer_chains) rfl rfl ?_
  unfold f_p_signing_Signer_chains
  have gw : ∀ k b S, getf (par T k b).fo S (.b (hsh w)) 0 = some (.b (.int w)) := fun _ _ _ => rfl
  have gd : ∀ k b, getf (par T k b).fo S d 3 = some (.b (hsh w)) := fun _ _ => hd.h0
  refine ws_open fun r' hr' => ?_
  simp [start, gw, gd]
  refine counts_c k _ _ w h0 hw _ ?_
  simp [sum2]
  have e : (cw w : Int) + (kw w : Int) = (nch w : Int) := by unfold nch; push_cast; rfl
  rw [e]
  exact hQ
theorem key_words_w (k b : Nat) (S : Store) (d : D) (w sec i : Int) (h0 : 0 ≤ w) (hw : w ≤ 128) (hd : SgD S d w sec) (hs : Sm sec) (hi : Sm i) (Q : D → Store → Prop) (hQ : Q (.b (kwB w sec i)) S) : Wc T (k + 4) b 54 [d, .b (.int i)] S Q := by
  refine wc_of (fd := f_p_signing_Signer_key_words) rfl rfl ?_
  unfold f_p_signing_Signer_key_words
  have cl2 : ∀ S, clsOf S 2 (.b (hsh w)) = some 0 := fun _ => rfl
  have me4 : T.meth 0 2 = some 4 := rfl
  have me53 : T.meth 4 26 = some 53 := rfl
  have hn := nch_le hw
  refine ws_open fun r' hr' => ?_
  simp [start, newL]
  subst hr'
  refine ws_open fun r' hr' => ?_
  obtain ⟨N, hN⟩ : ∃ N : Nat → List B, N = fun j => (List.range j).map fun c : Nat => .lst ((chl w sec i c).map B.int) := ⟨_, rfl⟩
  have hNs : ∀ j, N (j + 1) = N j ++ [.lst ((chl w sec i j).map B.int)] := fun j => by
    rw [hN]
    dsimp only
    rw [List.range_succ, List.map_append]
    rfl
  have hNl : ∀ j, (N j).length = j := fun j => by rw [hN]; dsimp only; rw [List.length_map, List.length_range]
  rw [wx_for]
  simp only [wes_cons, wes_nil]
  rw [we_meth, we_v rfl]
  have hd1 := hd.app [O.lst []]
  rw [hd1.c26', wo_some, me53, wo_some, wes_nil]
  refine chains_w (k + 1) _ _ d w sec h0 hw hd1 _ ?_
  rw [items_r1 (by omega), wo_some]
  have hlk : ∀ (T : Store) (x : B), lockAll T [.b x] = T := fun _ _ => rfl
  rw [hlk]
  refine (wo_forL (R := fun f σ3 S3 => Nx (par T (k + 3) S.length) r' (Ret true S.length Q) f σ3 S3) (fun dn rest σ1 S1 => dn ++ rest = rngB 0 (nch w) ∧ S1 = S ++ [O.lst (N dn.length)] ∧ ∃ x3 x4, σ1 = [some d, some (.b (.int i)), some (.ref S.length), x3, x4]) ?_ ?_ _ [] _ _ ⟨rfl, by rw [hN]; rfl, none, none, rfl⟩).mono fun q hq => by rw [unlockAll_b, wo_some]; exact hq
  · rintro dn y rest σ1 S1 ⟨hdn, rfl, x3, x4, rfl⟩
    obtain ⟨hj, rfl⟩ := rngB_at (j := dn.length) (x := y) (lo := 0) (n := nch w) (by rw [← hdn]; simp)
    rw [Int.zero_add] at hdn ⊢
    obtain ⟨j, hjd⟩ : ∃ j, j = dn.length := ⟨_, rfl⟩
    rw [← hjd] at hj hdn ⊢
    show Wo' (some ([some d, some (.b (.int i)), some (.ref S.length), some (.b (.int (j : Int))), x4] : Sl)) _
    rw [wo_some]
    have gh : ∀ k b, getf (par T k b).fo (S ++ [O.lst (N j)]) d 3 = some (.b (hsh w)) := fun _ _ => hd.h _
    have gs : ∀ k b, getf (par T k b).fo (S ++ [O.lst (N j)]) d 19 = some (.b (.int sec)) := fun _ _ => hd.s _
    refine ws_open fun q' hq' => ?_
    simp [gh, gs, cl2, me4]
    refine digest_w (k + 1) _ _ w 7 _ [sec, i, j] (.inr rfl) hw (Sm.lim (fun z hz => ?_) (by simp)) _ ?_
    · simp only [List.mem_cons, List.not_mem_nil, or_false] at hz
      rcases hz with e | e | e
      · rw [e]; exact hs
      · rw [e]; exact hi
      · rw [e]; exact Sm.nat (by omega)
    try simp
    subst hq'
    refine ws_open fun q' hq' => ?_
    simp [gh]
    refine stepped_w k _ _ w i j _ 0 15 h0 hw hi (Sm.nat (by omega)) (Sm.dig h0 hw _ _) (by decide) (by decide) (by decide) (by decide) _ ?_
    have happ := mt_app (S := S ++ [O.lst (N j)]) (n := S.length) last_at (by rw [hNl]; unfold SZ; omega) (.lst ((chl w sec i j).map B.int))
    unfold chl at happ
    rw [show ((15 : Int) - 0).toNat = 15 from rfl, happ]
    simp
    subst hq'
    simp
    refine ⟨hdn, ?_⟩
    rw [hNs, ← hjd]
    rfl
  · rintro dn σ1 S1 ⟨hdn, rfl, x3, x4, rfl⟩
    rw [List.append_nil] at hdn
    subst hr'
    rw [nx_nx, hdn, rngB_len]
    refine ws_open fun r' hr' => ?_
    simp
    rw [ret_last]
    unfold kwB at hQ
    rw [hN]
    exact hQ
theorem word_w (k b : Nat) (S : Store) (d : D) (w sec : Int) (L i c s : Nat) (hL : L ≤ 8) (hd : getf T.fo S d 22 = some (.b (wordsB w sec L))) (hi : i < 2 ^ L) (hc : c < nch w) (hs : s ≤ 15) (Q : D → Store → Prop) (hQ : Q (.b (.int (chv w sec i c s))) S) :
    Wc T (k + 1) b 55 [d, .b (.int i), .b (.int c), .b (.int s)] S Q := by
  refine wc_of (fd := f_p_signing_Signer_word) rfl rfl ?_
  unfold f_p_signing_Signer_word
  have gd : ∀ k b, getf (par T k b).fo S d 22 = some (.b (wordsB w sec L)) := fun _ _ => hd
  have i1 : ∀ S, idx S (.b (wordsB w sec L)) (.b (.int (i : Int))) = some (.b (kwB w sec i)) := fun S => by
    unfold wordsB
    rw [idx_lst, atI_get (j := i) (x := kwB w sec i) rfl (by rw [List.getElem?_map, List.getElem?_range hi]; rfl)]
    rfl
  have i2 : ∀ S, idx S (.b (kwB w sec i)) (.b (.int (c : Int))) = some (.b (.lst ((chl w sec i c).map B.int))) := fun S => by
    unfold kwB
    rw [idx_lst, atI_get (j := c) (x := .lst ((chl w sec i c).map B.int)) rfl (by rw [List.getElem?_map, List.getElem?_range hc]; rfl)]
    rfl
  have i3 : ∀ S, idx S (.b (.lst ((chl w sec i c).map B.int))) (.b (.int (s : Int))) = some (.b (.int (chv w sec i c s))) := fun S => by
    unfold chl stepl
    rw [idx_lst, atI_get (j := s) (x := .int (chv w sec i c s)) rfl (by rw [List.getElem?_map, List.getElem?_map, List.getElem?_range (by omega)]; rfl)]
    rfl
  simp [ws_cons, start, gd, i1, i2, i3]
  exact hQ
theorem tops_w (k b : Nat) (S : Store) (d : D) (w sec : Int) (L i : Nat) (h0 : 0 ≤ w) (hw : w ≤ 128) (hL : L ≤ 8) (hd : SgD S d w sec) (hd2 : getf T.fo S d 22 = some (.b (wordsB w sec L))) (hi : i < 2 ^ L) (Q : D → Store → Prop) (hQ : Q (.b (.lst ((tops w sec i).map B.int))) S) :
    Wc T (k + 3) b 56 [d, .b (.int i)] S Q := by
  refine wc_of (fd := f_p_signing_Signer_tops) rfl rfl ?_
  unfold f_p_signing_Signer_tops
  have me53 : T.meth 4 26 = some 53 := rfl
  have me55 : T.meth 4 27 = some 55 := rfl
  have hn := nch_le hw
  refine ws_open fun r' hr' => ?_
  simp only [start, List.map_cons, List.map_nil, List.length_cons, List.length_nil]
  rw [wx_ret]
  refine we_lcP (xs := rngB 0 (nch w)) (ds := [.int (nch w : Int)]) (fun _ => true) (fun x => (match x with
    | .int c => .int (chv w sec i c 15)
    | _ => .non)) (fun Q h => ?_) (items_r1 (by omega)) (by rw [rngB_len]; unfold SZ; omega) (fun x hx => ?_) ?_
  · simp only [wes_cons, wes_nil]
    rw [we_meth, we_v rfl, hd.c26', wo_some, me53, wo_some, wes_nil]
    exact chains_w k _ _ d w sec h0 hw hd _ h
  · obtain ⟨j, hj⟩ := List.getElem?_of_mem hx
    obtain ⟨hjn, rfl⟩ := rngB_at hj
    rw [Int.zero_add]
    show Wo' (some _) _
    rw [wo_some, we_k]
    refine ⟨rfl, rfl, fun _ => ?_⟩
    rw [we_meth, we_v rfl, hd.c27', wo_some, me55, wo_some]
    simp only [wes_cons, wes_nil]
    rw [we_v rfl, we_v rfl, we_bin, we_k, we_k]
    show Wo' (some (D.b (.int 15))) _
    rw [wo_some]
    exact word_w (k + 1) _ _ d w sec L i j 15 hL hd2 hi hjn (Nat.le_refl _) _ ⟨rfl, rfl⟩
  have e : ((rngB 0 (nch w)).filter fun _ => true).map (fun x => (match x with
    | .int c => B.int (chv w sec i c 15)
    | _ => .non)) = (tops w sec i).map B.int := by
    rw [List.filter_eq_self.mpr fun _ _ => rfl]
    unfold rngB tops
    rw [List.map_map, List.map_map]
    refine List.map_congr_left fun k _ => ?_
    show B.int (chv w sec i ((0 : Int) + (k : Nat)) 15) = _
    rw [Int.zero_add]
    rfl
  rw [e]
  simp
  exact hQ
end G
namespace G
open M
theorem rz65 : ∀ D : Fin 65, PySem.Builtin.Range.small 0 (2 * (D.val : Int)) 2 = true ∧ PySem.Builtin.Range.rangeSize 0 (2 * (D.val : Int)) 2 = (D.val : Int) := by decide
theorem items_r3z {S : Store} {D : Nat} (h : D ≤ 64) : items S .r3 [.b (.int 0), .b (.int (2 * (D : Int))), .b (.int 2)] = some (rngC 0 2 D) := by
  obtain ⟨h1, h2⟩ := rz65 ⟨D, by omega⟩
  show (if (2 : Int) ≠ 0 ∧ (2 : Int).natAbs < 1073741824 ∧ PySem.Builtin.Range.small 0 (2 * (D : Int)) 2 = true ∧ 0 ≤ PySem.Builtin.Range.rangeSize 0 (2 * (D : Int)) 2 then some (rngC 0 2 (PySem.Builtin.Range.rangeSize 0 (2 * (D : Int)) 2).toNat) else none) = _
  have h2' : PySem.Builtin.Range.rangeSize 0 (2 * (D : Int)) 2 = (D : Int) := h2
  rw [h2', if_pos ⟨by decide, by decide, h1, by omega⟩, Int.toNat_natCast]
theorem at_mid {S J : Store} {o : O} : (S ++ o :: J)[S.length]? = some o := by
  rw [List.getElem?_append_right (Nat.le_refl _), Nat.sub_self]
  rfl
theorem at_mid1 {S J : Store} {o p : O} : (S ++ o :: p :: J)[S.length + 1]? = some p := by
  rw [List.getElem?_append_right (by omega), show S.length + 1 - S.length = 1 by omega]
  rfl
theorem set_mid {S J : Store} {o o' : O} : (S ++ o :: J).set S.length o' = S ++ o' :: J := by
  rw [List.set_append_right _ _ (Nat.le_refl _), Nat.sub_self]
  rfl
theorem set_mid1 {S J : Store} {o p p' : O} : (S ++ o :: p :: J).set (S.length + 1) p' = S ++ o :: p' :: J := by
  rw [List.set_append_right _ _ (by omega), show S.length + 1 - S.length = 1 by omega]
  rfl
theorem setf_mid {T : Tab} {k c f : Nat} {S J : Store} {fs : List (Nat × D)} {v : D} (hf : T.fo c f = true) (hl : fs.length < 1000) : setf (par T k S.length).fo (par T k S.length).base (S ++ .ins c fs :: J) (.ref S.length) f v = some (S ++ .ins c (fput f v fs) :: J) := by
  unfold setf
  dsimp only
  rw [at_mid]
  show (if T.fo c f && ((isB v || decide (S.length ≤ S.length)) && decide (fs.length < 1000)) then some ((S ++ O.ins c fs :: J).set S.length (.ins c (fput f v fs))) else none) = _
  rw [hf, decide_eq_true (Nat.le_refl _), Bool.or_true, decide_eq_true hl]
  show some _ = _
  rw [set_mid]
theorem SgD.ofRef {S J : Store} {fs : List (Nat × D)} {w sec : Int} (h3 : fget fs 3 = some (.b (hsh w))) (h19 : fget fs 19 = some (.b (.int sec))) (h26 : fget fs 26 = none) (h27 : fget fs 27 = none) : SgD (S ++ .ins 4 fs :: J) (.ref S.length) w sec := by
  have e : ∀ K, (S ++ .ins 4 fs :: J ++ K)[S.length]? = some (.ins 4 fs) := fun K => by
    rw [List.append_assoc]
    exact at_mid
  exact ⟨fun K => getf_ref (e K) rfl h3, fun K => getf_ref (e K) rfl h19, fun K => clsOf_ref (e K) h26, fun K => clsOf_ref (e K) h27⟩
def fs3 (w sec : Int) (L : Nat) : List (Nat × D) := [(3, .b (hsh w)), (19, .b (.int sec)), (20, .b (.int (L : Int)))]
def fs4 (w sec : Int) (L : Nat) : List (Nat × D) := fs3 w sec L ++ [(22, .b (wordsB w sec L))]
def fs5 (w sec : Int) (L n : Nat) : List (Nat × D) := fs4 w sec L ++ [(24, .ref n)]
theorem rng_two {L : Nat} (f : Nat → B) (g : B → B) (h : ∀ i : Nat, g (.int i) = f i) (n : Nat) : ((rngB 0 n).filter fun _ => true).map g = (List.range n).map f := by
  rw [List.filter_eq_self.mpr fun _ _ => rfl]
  unfold rngB
  rw [List.map_map]
  refine List.map_congr_left fun k _ => ?_
  show g (.int ((0 : Int) + (k : Nat))) = _
  rw [Int.zero_add, h]
theorem pow_le64 {L : Nat} (h : L ≤ 6) : 2 ^ L ≤ 64 := Nat.pow_le_pow_right (by decide) h
theorem row0_sm {w sec : Int} {L : Nat} (h0 : 0 ≤ w) (hw : w ≤ 128) : ∀ l, ∀ x ∈ rowN w sec L l, 0 ≤ x ∧ x < 2 ^ w.toNat := fun l x hx => by
  cases l with
  | zero =>
    unfold rowN row0 at hx
    obtain ⟨i, _, rfl⟩ := List.mem_map.mp hx
    exact dig_bd h0 hw _ _
  | succ l =>
    unfold rowN at hx
    obtain ⟨i, _, rfl⟩ := List.mem_map.mp hx
    exact dig_bd h0 hw _ _
theorem bd_sm {w x : Int} (hw : w ≤ 128) (h : x < 2 ^ w.toNat) : Sm x := by
  have := pow_sm hw
  unfold Sm at this ⊢
  omega
theorem chv_sm {w sec i c : Int} (h0 : 0 ≤ w) (hw : w ≤ 128) (n : Nat) : Sm (chv w sec i c n) := stepv_sm h0 hw (Sm.dig h0 hw _ _) n
theorem rowsB_s (w sec : Int) (L n : Nat) : rowsB w sec L (n + 1) = rowsB w sec L n ++ [.lst ((rowN w sec L (n + 1)).map B.int)] := by
  unfold rowsB
  rw [List.range_succ, List.map_append]
  rfl
theorem rowsB_e (w sec : Int) (L n : Nat) : ∃ M, rowsB w sec L n = M ++ [.lst ((rowN w sec L n).map B.int)] := by
  unfold rowsB
  rw [List.range_succ, List.map_append]
  exact ⟨_, rfl⟩
theorem rowsB_len (w sec : Int) (L n : Nat) : (rowsB w sec L n).length = n + 1 := by
  unfold rowsB
  rw [List.length_map, List.length_range]
theorem signer_init_w (k : Nat) (S : Store) (w sec : Int) (L : Nat) (h0 : 0 ≤ w) (hw : w ≤ 128) (hs : Sm sec) (hL : L ≤ 6) (Q : D → Store → Prop) (hQ : Q (.b (signB w sec L)) S) :
    Wc T (k + 6) S.length 52 [.ref S.length, .b (hsh w), .b (.int sec), .b (.int (L : Int))] (S ++ [.ins 4 []]) fun d S2 => isNon d = true ∧ Wo' (frz S2 S.length 8 (.ref S.length)) fun x => Q (.b x) (S2.take S.length) := by
  refine wc_of (fd := f_p_signing_Signer___init__) rfl rfl ?_
  unfold f_p_signing_Signer___init__
  have cl2 : ∀ S, clsOf S 2 (.b (hsh w)) = some 0 := fun _ => rfl
  have me4 : T.meth 0 2 = some 4 := rfl
  have me54 : T.meth 4 21 = some 54 := rfl
  have me56 : T.meth 4 23 = some 56 := rfl
  have h64 := pow_le64 hL
  have hn := nch_le hw
  have sL : shlOk 1 (L : Int) = true := shlOk_small (by omega) (by omega) (by decide)
  have eL : (2 : Int) ^ ((L : Int)).toNat = ((2 ^ L : Nat) : Int) := by
    rw [Int.toNat_natCast]
    push_cast
    rfl
  obtain ⟨Rr, hR⟩ : ∃ Rr : Fl → Sl → Store → Prop, Rr = Ret false (S ++ [O.ins 4 []]).length fun d S2 => isNon d = true ∧ Wo' (frz S2 S.length 8 (.ref S.length)) fun x => Q (.b x) (S2.take S.length) := ⟨_, rfl⟩
  have hf0 : (if ({ np := 4, ns := 11, val := false, body := [] } : Fd).val = true then 1 else 0) = 0 := rfl
  show Ws (par T (k + 5) S.length) _ [some (.ref S.length), some (.b (hsh w)), some (.b (.int sec)), some (.b (.int (L : Int))), none, none, none, none, none, none, none] (S ++ [.ins 4 []]) (Ret false (S ++ [O.ins 4 []]).length _)
  rw [← hR]
  refine ws_open fun r' hr' => ?_
  rw [wx_setf, we_v rfl, we_v rfl, setf_mid rfl (by show 0 < 1000; decide), wo_some, nx_nx]
  subst hr'
  refine ws_open fun r' hr' => ?_
  rw [wx_setf, we_v rfl, we_v rfl, setf_mid rfl (by show 1 < 1000; decide), wo_some, nx_nx]
  subst hr'
  refine ws_open fun r' hr' => ?_
  rw [wx_setf, we_v rfl, we_v rfl, setf_mid rfl (by show 2 < 1000; decide), wo_some, nx_nx]
  subst hr'
  show Ws (par T (k + 5) S.length) _ _ (S ++ [.ins 4 (fs3 w sec L)]) _
  have d3 : SgD (S ++ [.ins 4 (fs3 w sec L)]) (.ref S.length) w sec := SgD.ofRef rfl rfl rfl rfl
  have c21 : clsOf (S ++ [O.ins 4 (fs3 w sec L)]) 21 (.ref S.length) = some 4 := clsOf_ref at_mid rfl
  refine ws_open fun r' hr' => ?_
  rw [wx_setf]
  refine we_lcP (xs := rngB 0 (2 ^ L)) (ds := [.int ((2 ^ L : Nat) : Int)]) (fun _ => true) (fun x => (match x with
    | .int i => kwB w sec i
    | _ => .non)) (fun Q h => ?_) (items_r1 (by omega)) (by rw [rngB_len]; unfold SZ; omega) (fun x hx => ?_) ?_
  · simp only [wes_cons, wes_nil]
    rw [we_bin, we_k, we_v rfl, wo_bin, wo_shl]
    refine ⟨sL, ?_⟩
    rw [Int.one_mul, eL]
    exact h
  · obtain ⟨j, hj⟩ := List.getElem?_of_mem hx
    obtain ⟨hjn, rfl⟩ := rngB_at hj
    rw [Int.zero_add]
    show Wo' (some _) _
    rw [wo_some, we_k]
    refine ⟨rfl, rfl, fun _ => ?_⟩
    rw [we_meth, we_v rfl, c21, wo_some, me54, wo_some]
    simp only [wes_cons, wes_nil]
    rw [we_v rfl]
    exact key_words_w (k + 1) _ _ _ w sec j h0 hw d3 hs (Sm.nat (by omega)) _ ⟨rfl, rfl⟩
  rw [rng_two (L := L) (fun i => kwB w sec i) _ (fun _ => rfl), we_v rfl]
  rw [show (B.lst ((List.range (2 ^ L)).map fun i : Nat => kwB w sec i)) = wordsB w sec L from rfl, setf_mid rfl (by unfold fs3; simp), wo_some, nx_nx]
  subst hr'
  show Ws (par T (k + 5) S.length) _ _ (S ++ [.ins 4 (fs4 w sec L)]) _
  have d4 : SgD (S ++ [.ins 4 (fs4 w sec L)]) (.ref S.length) w sec := SgD.ofRef rfl rfl rfl rfl
  have c23 : clsOf (S ++ [O.ins 4 (fs4 w sec L)]) 23 (.ref S.length) = some 4 := clsOf_ref at_mid rfl
  have g22 : getf T.fo (S ++ [O.ins 4 (fs4 w sec L)]) (.ref S.length) 22 = some (.b (wordsB w sec L)) := getf_ref at_mid rfl rfl
  refine ws_open fun r' hr' => ?_
  rw [wx_setf, we_lst, wes_cons]
  refine we_lcP (xs := rngB 0 (2 ^ L)) (ds := [.int ((2 ^ L : Nat) : Int)]) (fun _ => true) (fun x => (match x with
    | .int i => .int (dig w 5 (i :: tops w sec i))
    | _ => .non)) (fun Q h => ?_) (items_r1 (by omega)) (by rw [rngB_len]; unfold SZ; omega) (fun x hx => ?_) ?_
  · simp only [wes_cons, wes_nil]
    rw [we_bin, we_k, we_v rfl, wo_bin, wo_shl]
    refine ⟨sL, ?_⟩
    rw [Int.one_mul, eL]
    exact h
  · obtain ⟨j, hj⟩ := List.getElem?_of_mem hx
    obtain ⟨hjn, rfl⟩ := rngB_at hj
    rw [Int.zero_add]
    show Wo' (some _) _
    rw [wo_some, we_k]
    refine ⟨rfl, rfl, fun _ => ?_⟩
    rw [we_call, wes_cons, we_v rfl, wes_cons, we_v rfl, wes_cons, we_meth, we_v rfl, c23, wo_some, me56, wo_some, wes_cons, we_v rfl, wes_nil]
    refine tops_w (k + 2) _ _ _ w sec L j h0 hw (by omega) d4 g22 hjn _ ?_
    rw [wes_nil]
    refine key_digest_w (k + 2) _ _ w j (tops w sec j) hw (Sm.nat (by omega)) (fun x hx => ?_) (by unfold tops; rw [List.length_map, List.length_range]; omega) _ ⟨rfl, rfl⟩
    unfold tops at hx
    obtain ⟨c, _, rfl⟩ := List.mem_map.mp hx
    exact chv_sm h0 hw _
  rw [rng_two (L := L) (fun i => .int (dig w 5 ((i : Int) :: tops w sec i))) _ (fun _ => rfl), wes_nil]
  have er0 : (List.range (2 ^ L)).map (fun i : Nat => B.int (dig w 5 ((i : Int) :: tops w sec i))) = (rowN w sec L 0).map B.int := by
    unfold rowN row0
    rw [List.map_map]
    rfl
  rw [er0]
  show Wo' (some [B.lst ((rowN w sec L 0).map B.int)]) _
  rw [wo_some]
  show Wo' (if 1 ≤ SZ then some (D.ref (S ++ [O.ins 4 (fs4 w sec L)]).length, (S ++ [O.ins 4 (fs4 w sec L)]) ++ [O.lst (rowsB w sec L 0)]) else none) _
  rw [if_pos (by decide), wo_some, we_v rfl]
  dsimp only
  rw [List.length_append, List.length_singleton, List.append_assoc]
  show Wo' (setf _ _ (S ++ .ins 4 (fs4 w sec L) :: [O.lst (rowsB w sec L 0)]) _ _ _) _
  rw [setf_mid rfl (by unfold fs4 fs3; simp), wo_some, nx_nx]
  subst hr'
  show Ws (par T (k + 5) S.length) _ _ (S ++ .ins 4 (fs5 w sec L (S.length + 1)) :: [O.lst (rowsB w sec L 0)]) _
  have g24 : ∀ X, getf T.fo (S ++ .ins 4 (fs5 w sec L (S.length + 1)) :: X) (.ref S.length) 24 = some (.ref (S.length + 1)) := fun X => getf_ref at_mid rfl rfl
  have lastr : ∀ n, idx (S ++ .ins 4 (fs5 w sec L (S.length + 1)) :: [O.lst (rowsB w sec L n)]) (.ref (S.length + 1)) (.b (.int (-1))) = some (.b (.lst ((rowN w sec L n).map B.int))) := fun n => by
    obtain ⟨M, e⟩ := rowsB_e w sec L n
    rw [idx_st at_mid1, e, atI_lastB]
    rfl
  refine ws_open fun r' hr' => ?_
  refine wx_forN (ds := [.int (L : Int)]) (xs := rngB 0 L) (fun Q h => by simpa using h) (items_r1 (by omega)) (fun j σ1 S1 => j ≤ L ∧ S1 = S ++ .ins 4 (fs5 w sec L (S.length + 1)) :: [O.lst (rowsB w sec L j)] ∧ ∃ x4 x5 x6, σ1 = [some (.ref S.length), some (.b (hsh w)), some (.b (.int sec)), some (.b (.int (L : Int))), x4, x5, x6, none, none, none, none]) ⟨Nat.zero_le _, rfl, none, none, none, rfl⟩ ?_ ?_
  · rintro j y σ1 S1 hy ⟨hj, rfl, x4, x5, x6, rfl⟩
    obtain ⟨hjn, rfl⟩ := rngB_at hy
    rw [Int.zero_add]
    show Wo' (some ([some (.ref S.length), some (.b (hsh w)), some (.b (.int sec)), some (.b (.int (L : Int))), some (.b (.int (j : Int))), x5, x6, none, none, none, none] : Sl)) _
    rw [wo_some]
    obtain ⟨m, hm⟩ : ∃ m, m = 2 ^ (L - (j + 1)) := ⟨_, rfl⟩
    have hrl : (rowN w sec L j).length = 2 * m := by
      rw [rowN_len w sec L j hj, hm, show L - j = (L - (j + 1)) + 1 by omega, Nat.pow_succ]
      omega
    have hm64 : m ≤ 64 := by
      rw [hm]
      exact pow_le64 (by omega)
    obtain ⟨row, hrow⟩ : ∃ row, row = rowN w sec L j := ⟨_, rfl⟩
    rw [← hrow] at hrl
    have hrsm : ∀ x ∈ row, Sm x := fun x hx => bd_sm hw (row0_sm h0 hw j x (hrow ▸ hx)).2
    refine ws_open fun q' hq' => ?_
    rw [wx_set, we_idx, we_att, we_v rfl]
    show Wo' (getf T.fo _ _ _) _
    rw [g24, wo_some, we_neg, we_k, wo_some, lastr, wo_some, nx_nx, ← hrow]
    subst hq'
    simp only [List.set]
    refine ws_open fun q' hq' => ?_
    rw [wx_set]
    have hlr : ∀ S : Store, bi S .len false [.b (.lst (row.map B.int))] = some (.b (.int (2 * (m : Int))), S) := fun S => by
      rw [bi_len_lst, List.length_map, hrl]
      push_cast
      rfl
    refine we_lcP (xs := rngC 0 2 m) (ds := [.int 0, .int (2 * (m : Int)), .int 2]) (fun _ => true) (fun x => (match x with
      | .int i => .tup [.int (row.getD i.toNat 0), .int (row.getD (i.toNat + 1) 0)]
      | _ => .non)) (fun Q h => ?_) (items_r3z hm64) (by unfold rngC SZ; rw [List.length_map, List.length_range]; omega) (fun x hx => ?_) ?_
    · simp [hlr]
      exact h
    · unfold rngC at hx
      obtain ⟨q, hq, rfl⟩ := List.mem_map.mp hx
      rw [List.mem_range] at hq
      rw [show ((0 : Int) + (q : Nat) * 2) = ((2 * q : Nat) : Int) by push_cast; omega]
      show Wo' (some _) _
      rw [wo_some, we_k]
      refine ⟨rfl, rfl, fun _ => ?_⟩
      have i1 : ∀ S, idx S (.b (.lst (row.map B.int))) (.b (.int ((2 * q : Nat) : Int))) = some (.b (.int (row.getD (2 * q) 0))) := fun S => idx_lint (by omega)
      have i2 : ∀ S, idx S (.b (.lst (row.map B.int))) (.b (.int (((2 * q : Nat) : Int) + 1))) = some (.b (.int (row.getD (2 * q + 1) 0))) := fun S => by
        have := idx_lint (S := S) (xs := row) (j := 2 * q + 1) (by omega)
        rw [← this]
        rfl
      simp only [wipe, List.set]
      rw [we_tup, wes_cons, we_idx, we_v rfl, we_v rfl, i1, wo_some, wes_cons, we_idx, we_v rfl, we_bin, we_v rfl, we_k, wo_bin, wo_add, i2, wo_some, wes_nil]
      exact ⟨show 2 ≤ SZ by decide, rfl, rfl⟩
    obtain ⟨prs, hprs⟩ : ∃ prs : List (Int × Int), prs = (List.range m).map fun q => (row.getD (2 * q) 0, row.getD (2 * q + 1) 0) := ⟨_, rfl⟩
    have ep : ((rngC 0 2 m).filter fun _ => true).map (fun x => (match x with
      | .int i => B.tup [.int (row.getD i.toNat 0), .int (row.getD (i.toNat + 1) 0)]
      | _ => .non)) = prs.map fun p => .tup [.int p.1, .int p.2] := by
      rw [List.filter_eq_self.mpr fun _ _ => rfl, hprs]
      unfold rngC
      rw [List.map_map, List.map_map]
      refine List.map_congr_left fun q _ => ?_
      show B.tup [.int (row.getD ((0 : Int) + (q : Nat) * 2).toNat 0), .int (row.getD (((0 : Int) + (q : Nat) * 2).toNat + 1) 0)] = _
      rw [show ((0 : Int) + (q : Nat) * 2).toNat = 2 * q by omega]
      rfl
    rw [ep, nx_nx]
    subst hq'
    simp only [List.set]
    have hpm : ∀ p ∈ prs, Sm p.1 ∧ Sm p.2 := fun p hp => by
      rw [hprs] at hp
      obtain ⟨q, _, rfl⟩ := List.mem_map.mp hp
      exact ⟨getD_sm hrsm _, getD_sm hrsm _⟩
    refine ws_open fun q' hq' => ?_
    rw [wx_ex, we_mt, we_att, we_v rfl]
    show Wo' (getf T.fo _ _ _) _
    rw [g24, wo_some, wes_cons]
    refine we_lcP (xs := prs.map fun p => .tup [.int p.1, .int p.2]) (ds := [.lst (prs.map fun p => .tup [.int p.1, .int p.2])]) (fun _ => true) (fun x => (match x with
      | .tup [.int a, .int b] => .int (dig w 6 [(j : Int), a, b])
      | _ => .non)) (fun Q h => by simpa using h) rfl (by rw [List.length_map, hprs, List.length_map, List.length_range]; unfold SZ; omega) (fun x hx => ?_) ?_
    · obtain ⟨p, hp, rfl⟩ := List.mem_map.mp hx
      show Wo' (some _) _
      rw [wo_some, we_k]
      refine ⟨rfl, rfl, fun _ => ?_⟩
      simp only [wipe, List.set]
      rw [we_meth, we_v rfl, cl2, wo_some, me4, wo_some, wes_cons, we_k, wes_cons, we_tup, wes_cons, we_v rfl, wes_cons, we_v rfl, wes_cons, we_v rfl, wes_nil]
      refine ⟨show 3 ≤ SZ by decide, ?_⟩
      rw [wes_nil]
      obtain ⟨p1, p2⟩ := hpm p hp
      refine digest_w (k + 3) _ _ w 6 _ [(j : Int), p.1, p.2] (.inr rfl) hw (Sm.lim (fun z hz => ?_) (by simp)) _ ⟨rfl, rfl⟩
      simp only [List.mem_cons, List.not_mem_nil, or_false] at hz
      rcases hz with e | e | e
      · rw [e]; exact Sm.nat (by omega)
      · rw [e]; exact p1
      · rw [e]; exact p2
    have en : ((prs.map fun p => B.tup [.int p.1, .int p.2]).filter fun _ => true).map (fun x => (match x with
      | .tup [.int a, .int b] => B.int (dig w 6 [(j : Int), a, b])
      | _ => .non)) = (rowN w sec L (j + 1)).map B.int := by
      rw [List.filter_eq_self.mpr fun _ _ => rfl, hprs]
      unfold rowN
      rw [← hrow, hrl, show 2 * m / 2 = m by omega, List.map_map, List.map_map, List.map_map]
      rfl
    rw [en, wes_nil]
    refine ⟨rfl, ?_⟩
    have happ := mt_app (S := S ++ .ins 4 (fs5 w sec L (S.length + 1)) :: [O.lst (rowsB w sec L j)]) (n := S.length + 1) at_mid1 (by rw [rowsB_len]; unfold SZ; omega) (.lst ((rowN w sec L (j + 1)).map B.int))
    rw [happ, wo_some, nx_nx, set_mid1, ← rowsB_s]
    subst hq'
    rw [ws_nil]
    exact ⟨by omega, rfl, _, _, _, rfl⟩
  rintro σ1 S1 ⟨hj, rfl, x4, x5, x6, rfl⟩
  rw [rngB_len, nx_nx]
  subst hr'
  refine ws_open fun r' hr' => ?_
  have hhd : ∀ S, idx S (.b (.lst ((rowN w sec L L).map B.int))) (.b (.int 0)) = some (.b (.int ((rowN w sec L L).headD 0))) := fun S => by
    have hl := rowN_len w sec L L (Nat.le_refl _)
    rw [Nat.sub_self] at hl
    cases e : rowN w sec L L with
    | nil => rw [e] at hl; cases hl
    | cons a r =>
      rw [List.map_cons, idx_lst, atI_0]
      rfl
  have hhs : Sm ((rowN w sec L L).headD 0) := by
    cases e : rowN w sec L L with
    | nil => show (0 : Int) < _; decide
    | cons a r => exact bd_sm hw (row0_sm h0 hw L a (by rw [e]; simp)).2
  rw [wx_setf, we_meth, we_v rfl, cl2, wo_some, me4, wo_some, wes_cons, we_k, wes_cons, we_tup, wes_cons, we_v rfl, wes_cons, we_idx, we_idx, we_att, we_v rfl]
  show Wo' (getf T.fo _ _ _) _
  rw [g24, wo_some, we_neg, we_k, wo_some, lastr, wo_some, we_k, hhd, wo_some, wes_nil]
  refine ⟨show 2 ≤ SZ by decide, ?_⟩
  rw [wes_nil]
  refine digest_w (k + 3) _ _ w 6 _ [(L : Int), (rowN w sec L L).headD 0] (.inr rfl) hw (Sm.lim (fun z hz => ?_) (by simp)) _ ?_
  · simp only [List.mem_cons, List.not_mem_nil, or_false] at hz
    rcases hz with e | e
    · rw [e]; exact Sm.nat (by omega)
    · rw [e]; exact hhs
  rw [we_v rfl, setf_mid rfl (by unfold fs5 fs4 fs3; simp), wo_some, nx_nx]
  subst hr'
  rw [ws_nil, hR, ret_knx]
  refine ⟨rfl, ?_⟩
  have hf : frz (S ++ .ins 4 (fput 25 (.b (.int (dig w 6 [(L : Int), (rowN w sec L L).headD 0]))) (fs5 w sec L (S.length + 1))) :: [O.lst (rowsB w sec L L)]) S.length 8 (.ref S.length) = some (signB w sec L) := by
    unfold frz
    rw [if_neg (Nat.lt_irrefl _), at_mid]
    have h24 : frz (S ++ .ins 4 (fput 25 (.b (.int (dig w 6 [(L : Int), (rowN w sec L L).headD 0]))) (fs5 w sec L (S.length + 1))) :: [O.lst (rowsB w sec L L)]) S.length 7 (.ref (S.length + 1)) = some (.lst (rowsB w sec L L)) := by
      rw [frz_lst (k := 6) at_mid1 (by omega)]
    show (mapO _ [(3, D.b (hsh w)), (19, D.b (.int sec)), (20, D.b (.int (L : Int))), (22, D.b (wordsB w sec L)), (24, D.ref (S.length + 1)), (25, D.b (.int (dig w 6 [(L : Int), (rowN w sec L L).headD 0])))]).map _ = _
    simp only [mapO, h24]
    rfl
  rw [hf, wo_some, List.take_append_of_le_length (Nat.le_refl _), List.take_length]
  exact hQ
end G
namespace G
open M
theorem make_signer {k b : Nat} {σ : Sl} {S : Store} {e1 e2 e3 : E} {w sec : Int} {L : Nat} {Q : D → Store → Prop} (h1 : ∀ Q : D → Store → Prop, Q (.b (hsh w)) S → We (par T (k + 7) b) e1 σ S Q) (h2 : ∀ Q : D → Store → Prop, Q (.b (.int sec)) S → We (par T (k + 7) b) e2 σ S Q)
    (h3 : ∀ Q : D → Store → Prop, Q (.b (.int (L : Int))) S → We (par T (k + 7) b) e3 σ S Q) (h0 : 0 ≤ w) (hw : w ≤ 128) (hs : Sm sec) (hL : L ≤ 6) (hQ : Q (.b (signB w sec L)) S) : We (par T (k + 7) b) (.make 4 [e1, e2, e3]) σ S Q := by
  rw [we_make (f := 52) (fz := true) rfl, wes_cons]
  refine h1 _ ?_
  rw [wes_cons]
  refine h2 _ ?_
  rw [wes_cons]
  refine h3 _ ?_
  rw [wes_nil, if_pos rfl]
  exact signer_init_w k S w sec L h0 hw hs hL Q hQ
theorem xor1_lt {x : Int} {n : Nat} (hx0 : 0 ≤ x) (hx : x < 2 ^ n) (hn : 1 ≤ n) : 0 ≤ PySem.Builtin.bitXor x 1 ∧ PySem.Builtin.bitXor x 1 < 2 ^ n := by
  rw [Bits.bitXor_pp hx0 (by decide)]
  have hp : ((2 : Int) ^ n) = ((2 ^ n : Nat) : Int) := by push_cast; rfl
  rw [hp] at hx ⊢
  have h1 : x.toNat < 2 ^ n := by omega
  have h2 : (1 : Int).toNat < 2 ^ n := Nat.one_lt_two_pow (by omega)
  have h3 := Nat.xor_lt_two_pow h1 h2
  omega
def pathV (w sec : Int) (L : Nat) (i : Nat) (l : Nat) : Int := (rowN w sec L l).getD (PySem.Builtin.bitXor ((i : Int) / 2 ^ l) 1).toNat 0
def sigOf (w sec : Int) (L i : Nat) (msg : Int) : List Int := (i : Int) :: ((List.range (nch w)).map (fun c : Nat => chv w sec i c ((digW w msg).getD c 0).toNat) ++ (List.range L).map (pathV w sec L i))
theorem getS (w sec : Int) (L : Nat) (S : Store) : getf T.fo S (.b (signB w sec L)) 3 = some (.b (hsh w)) ∧ getf T.fo S (.b (signB w sec L)) 20 = some (.b (.int (L : Int))) ∧ getf T.fo S (.b (signB w sec L)) 22 = some (.b (wordsB w sec L)) ∧ getf T.fo S (.b (signB w sec L)) 24 = some (.b (.lst (rowsB w sec L L))) ∧ getf T.fo S (.b (signB w sec L)) 25 = some (.b (.int (pubk w sec L))) := ⟨rfl, rfl, rfl, rfl, rfl⟩
theorem div_pow_lt {i L l : Nat} (h : i < 2 ^ L) (hl : l ≤ L) : 0 ≤ (i : Int) / 2 ^ l ∧ (i : Int) / 2 ^ l < 2 ^ (L - l) := by
  have e : ((i : Int) / 2 ^ l) = ((i / 2 ^ l : Nat) : Int) := by push_cast; rfl
  rw [e]
  refine ⟨Int.natCast_nonneg _, ?_⟩
  have h1 : i / 2 ^ l < 2 ^ (L - l) := by
    rw [Nat.div_lt_iff_lt_mul (Nat.pow_pos (by decide)), ← Nat.pow_add, show L - l + l = L by omega]
    exact h
  exact_mod_cast h1
theorem path_w (k b : Nat) (S : Store) (w sec : Int) (L i : Nat) (hL : L ≤ 6) (hi : i < 2 ^ L) (Q : D → Store → Prop) (hQ : Q (.b (.lst (((List.range L).map (pathV w sec L i)).map B.int))) S) : Wc T (k + 1) b 57 [.b (signB w sec L), .b (.int i)] S Q := by
  refine wc_of (fd := f_p_signing_Signer_path) rfl rfl ?_
  unfold f_p_signing_Signer_path
  refine ws_open fun r' hr' => ?_
  simp only [start, List.map_cons, List.map_nil, List.length_cons, List.length_nil]
  rw [wx_ret]
  refine we_lcP (xs := rngB 0 L) (ds := [.int (L : Int)]) (fun _ => true) (fun x => (match x with
    | .int l => .int (pathV w sec L i l.toNat)
    | _ => .non)) (fun Q h => ?_) (items_r1 (by omega)) (by rw [rngB_len]; unfold SZ; omega) (fun x hx => ?_) ?_
  · simp only [wes_cons, wes_nil]
    rw [we_att, we_v rfl]
    show Wo' (getf T.fo _ _ _) _
    rw [(getS w sec L S).2.1, wo_some]
    exact h
  · obtain ⟨l, hl⟩ := List.getElem?_of_mem hx
    obtain ⟨hln, rfl⟩ := rngB_at hl
    rw [Int.zero_add]
    show Wo' (some _) _
    rw [wo_some, we_k]
    refine ⟨rfl, rfl, fun _ => ?_⟩
    have i1 : idx S (.b (.lst (rowsB w sec L L))) (.b (.int (l : Int))) = some (.b (.lst ((rowN w sec L l).map B.int))) := by
      unfold rowsB
      rw [idx_lst, atI_get (j := l) (x := .lst ((rowN w sec L l).map B.int)) rfl (by rw [List.getElem?_map, List.getElem?_range (by omega)]; rfl)]
      rfl
    obtain ⟨q1, q2⟩ := div_pow_lt hi (show l ≤ L by omega)
    obtain ⟨x1, x2⟩ := xor1_lt q1 q2 (by omega)
    have i2 : idx S (.b (.lst ((rowN w sec L l).map B.int))) (.b (.int (PySem.Builtin.bitXor ((i : Int) / 2 ^ l) 1))) = some (.b (.int (pathV w sec L i l))) := by
      have hl2 : (PySem.Builtin.bitXor ((i : Int) / 2 ^ l) 1).toNat < (rowN w sec L l).length := by
        rw [rowN_len w sec L l (by omega)]
        have hp : ((2 : Int) ^ (L - l)) = ((2 ^ (L - l) : Nat) : Int) := by push_cast; rfl
        rw [hp] at x2
        omega
      have := idx_lint (S := S) hl2
      rw [show (((PySem.Builtin.bitXor ((i : Int) / 2 ^ l) 1).toNat : Nat) : Int) = PySem.Builtin.bitXor ((i : Int) / 2 ^ l) 1 by omega] at this
      exact this
    simp only [wipe, List.set]
    rw [we_idx, we_idx, we_att, we_v rfl]
    show Wo' (getf T.fo _ _ _) _
    rw [(getS w sec L S).2.2.2.1, wo_some, we_v rfl, i1, wo_some, we_bin, we_bin, we_v rfl, we_v rfl, wo_bin, wo_shr]
    refine ⟨by omega, ?_⟩
    rw [we_k, wo_bin, wo_xor, show ((l : Int)).toNat = l from Int.toNat_natCast l, i2, wo_some]
    exact ⟨rfl, rfl⟩
  rw [rng_two (L := L) (fun l => .int (pathV w sec L i l)) _ (fun _ => rfl)]
  simp
  have e : List.map (fun l => B.int (pathV w sec L i l)) (List.range L) = (((List.range L).map (pathV w sec L i)).map B.int) := by rw [List.map_map]; rfl
  first
    | exact hQ
    | (rw [e]; exact hQ)
    | (simpa using hQ)
theorem sign_w (k b : Nat) (S : Store) (w sec msg : Int) (L i : Nat) (h0 : 0 ≤ w) (hw : w ≤ 128) (hL : L ≤ 6) (hi : i < 2 ^ L) (Q : D → Store → Prop) (hQ : Q (.b (.tup ((sigOf w sec L i msg).map B.int))) S) :
    Wc T (k + 3) b 58 [.b (signB w sec L), .b (.int i), .b (.int msg)] S Q := by
  refine wc_of (fd := f_p_signing_Signer_sign) rfl rfl ?_
  unfold f_p_signing_Signer_sign
  have gw : ∀ k b S, getf (par T k b).fo S (.b (hsh w)) 0 = some (.b (.int w)) := fun _ _ _ => rfl
  have g3 : ∀ k b S, getf (par T k b).fo S (.b (signB w sec L)) 3 = some (.b (hsh w)) := fun _ _ _ => rfl
  have c27 : ∀ S, clsOf S 27 (.b (signB w sec L)) = some 4 := fun _ => rfl
  have c28 : ∀ S, clsOf S 28 (.b (signB w sec L)) = some 4 := fun _ => rfl
  have me55 : T.meth 4 27 = some 55 := rfl
  have me57 : T.meth 4 28 = some 57 := rfl
  have hn := nch_le hw
  refine ws_open fun r' hr' => ?_
  simp [start, gw, g3]
  refine digits_c k _ _ w msg h0 hw _ ?_
  obtain ⟨ds, hds⟩ : ∃ ds, ds = digW w msg := ⟨_, rfl⟩
  have hdl : ds.length = nch w := by rw [hds, digW_len]
  have hdb : ∀ k, 0 ≤ ds.getD k 0 ∧ ds.getD k 0 ≤ 15 := fun k => by
    rw [List.getD_eq_getElem?_getD]
    cases e : ds[k]? with
    | none => show (0 : Int) ≤ 0 ∧ (0 : Int) ≤ 15; decide
    | some x => exact digW_bd (hds ▸ List.mem_of_getElem? e)
  rw [← hds]
  subst hr'
  refine ws_open fun r' hr' => ?_
  rw [wx_set]
  refine we_lcP (xs := rngB 0 (nch w)) (ds := [.int (nch w : Int)]) (fun _ => true) (fun x => (match x with
    | .int c => .int (chv w sec i c (ds.getD c.toNat 0).toNat)
    | _ => .non)) (fun Q h => by simp [hdl]; exact h) (items_r1 (by omega)) (by rw [rngB_len]; unfold SZ; omega) (fun x hx => ?_) ?_
  · obtain ⟨c, hc⟩ := List.getElem?_of_mem hx
    obtain ⟨hcn, rfl⟩ := rngB_at hc
    rw [Int.zero_add]
    show Wo' (some _) _
    rw [wo_some, we_k]
    refine ⟨rfl, rfl, fun _ => ?_⟩
    have i1 : idx S (.b (.lst (ds.map B.int))) (.b (.int (c : Int))) = some (.b (.int (ds.getD c 0))) := idx_lint (by omega)
    obtain ⟨d1, d2⟩ := hdb c
    simp only [wipe, List.set]
    rw [we_meth, we_v rfl, c27, wo_some, me55, wo_some, wes_cons, we_v rfl, wes_cons, we_v rfl, wes_cons, we_idx, we_v rfl, we_v rfl, i1, wo_some, wes_nil]
    rw [show D.b (B.int (ds.getD c 0)) = D.b (B.int (((ds.getD c 0).toNat : Nat) : Int)) by rw [Int.toNat_of_nonneg d1]]
    exact word_w (k + 1) _ _ _ w sec L i c (ds.getD c 0).toNat (by omega) rfl hi hcn (by omega) _ ⟨rfl, rfl⟩
  rw [rng_two (L := L) (fun c => .int (chv w sec i c (ds.getD c 0).toNat)) _ (fun _ => rfl)]
  simp only [nx_nx, List.set]
  subst hr'
  refine ws_open fun r' hr' => ?_
  obtain ⟨ws, hws⟩ : ∃ ws : List Int, ws = (List.range (nch w)).map fun c : Nat => chv w sec i c (ds.getD c 0).toNat := ⟨_, rfl⟩
  have hwl : ws.length = nch w := by rw [hws, List.length_map, List.length_range]
  rw [show (List.range (nch w)).map (fun c : Nat => B.int (chv w sec i c (ds.getD c 0).toNat)) = ws.map B.int by rw [hws, List.map_map]; rfl]
  have hb1 : ∀ S : Store, bin S .add (.b (.lst [.int (i : Int)])) (.b (.lst (ws.map B.int))) = some (.b (.lst ([.int (i : Int)] ++ ws.map B.int))) := fun S => bin_ll (by rw [List.length_map]; unfold SZ; simp; omega)
  simp only [wx_ret, we_bi, wes_cons, wes_nil, we_bin, we_lst]
  rw [we_v rfl]
  show Wo' (some [B.int (i : Int)]) _
  rw [wo_some]
  show Wo' (if 1 ≤ SZ then some (D.b (.lst [B.int (i : Int)]), S) else none) _
  rw [if_pos (by decide), wo_some, we_v rfl]
  dsimp only
  rw [hb1, wo_some, we_meth, we_v rfl, c28, wo_some, me57, wo_some]
  simp only [wes_cons, wes_nil]
  rw [we_v rfl]
  refine path_w (k + 1) _ _ w sec L i hL hi _ ?_
  have hb2 : ∀ S : Store, bin S .add (.b (.lst ([.int (i : Int)] ++ ws.map B.int))) (.b (.lst (((List.range L).map (pathV w sec L i)).map B.int))) = some (.b (.lst (([.int (i : Int)] ++ ws.map B.int) ++ ((List.range L).map (pathV w sec L i)).map B.int))) := fun S => bin_ll (by rw [List.length_append, List.length_map, List.length_map, List.length_map, List.length_range]; unfold SZ; simp; omega)
  rw [hb2, wo_some]
  show Wo' (some _) _
  rw [wo_some]
  have e : ([.int (i : Int)] ++ ws.map B.int) ++ ((List.range L).map (pathV w sec L i)).map B.int = (sigOf w sec L i msg).map B.int := by
    unfold sigOf
    rw [← hds, ← hws, List.map_cons, List.map_append]
    rfl
  rw [e]
  simp
  exact hQ
end G
namespace G
open M
/-! ### validators -/
abbrev Mb := List (Int × Int)
def mbB (p : Int × Int) : B := .tup [.int p.1, .int p.2]
def mbT (ms : Mb) : B := .tup (ms.map mbB)
abbrev Vt := List (Int × List Int)
def vtB (p : Int × List Int) : B := .tup [.int p.1, .tup (p.2.map B.int)]
def vtT (vs : Vt) : B := .tup (vs.map vtB)
theorem len_mbT {S : Store} {m : Bool} (ms : Mb) : bi S .len m [.b (mbT ms)] = some (.b (.int ms.length), S) := by
  unfold mbT
  rw [bi_len_tup, List.length_map]
theorem asg2 {i j : Nat} {x y : B} {σ : Sl} : asg (.t [.n i, .n j]) (.tup [x, y]) σ = some ((σ.set i (some (.b x))).set j (some (.b y))) := rfl
theorem fil_true {α β : Type} (l : List α) (f : α → β) : (l.filter fun _ => true).map f = l.map f := by
  rw [List.filter_eq_self.mpr fun _ _ => rfl]
def negM (ms : Mb) : Bool := ms.any fun p => decide (p.1 < 0)
def disK (ms : Mb) (k : Nat) : Bool := decide ((ms.map (·.1)).getD k 0 ≥ (ms.map (·.1)).getD (k + 1) 0)
def disM (ms : Mb) : Bool := (List.range (ms.length - 1)).any (disK ms)
def wtM (ms : Mb) : Bool := ms.all fun p => decide (1 ≤ p.2 ∧ p.2 ≤ 1000000)
def mfault (ms : Mb) : B := if (1 ≤ ms.length ∧ ms.length ≤ 64) then (if (negM ms || disM ms) = true then .str 7 else if wtM ms = true then .non else .str 8) else .str 4
theorem min_neg1 : ∀ (xs : List Int), xs ≠ [] → ∃ v, (∀ S : Store, bi S .min1 false [.b (.lst (xs.map B.int))] = some (.b (.int v), S)) ∧ decide (v < 0) = xs.any fun p => decide (p < 0)
  | [], h => (h rfl).elim
  | n :: r, _ => by
    refine ⟨minI n r, fun S => ?_, ?_⟩
    · have e : intsB ((n :: r).map B.int) = some (n :: r) := intsB_map _
      show pure' S (((some ((n :: r).map B.int)).bind fun xs => (intsB xs).bind fun ns => (match ns with
        | [] => none
        | n :: r => some (.b (.int (minI n r)))))) = _
      rw [bind_some', e]
      rfl
    · obtain ⟨h1, h2⟩ := minI_spec r n
      cases e : (n :: r).any fun p => decide (p < 0) with
      | true =>
        obtain ⟨x, hx, hx2⟩ := List.any_eq_true.mp e
        have := h2 x hx
        have := of_decide_eq_true hx2
        exact decide_eq_true (by omega)
      | false =>
        refine decide_eq_false fun h => ?_
        have := List.any_eq_true (p := fun p : Int => decide (p < 0)).mpr ⟨_, h1, by simpa using h⟩
        rw [e] at this
        cases this
/-- [public for public, weight in members] -/
theorem pubs_lc {P : Par} {σ : Sl} {S : Store} {i j : Nat} {x : E} {ms : Mb} (hx : ∀ Q : D → Store → Prop, Q (.b (mbT ms)) S → We P x σ S Q) (hz : ms.length ≤ SZ) (hij : i ≠ j) (hi : i < σ.length) (hj : j < σ.length) {Q : D → Store → Prop} (hQ : Q (.b (.lst ((ms.map (·.1)).map B.int))) S) :
    We P (.lc false (.t [.n i, .n j]) .sq [x] (.k (.bl true)) (.v i) [i, j]) σ S Q := by
  refine we_lcP (xs := ms.map mbB) (ds := [mbT ms]) (fun _ => true) (fun x => (match x with
    | .tup [.int a, _] => .int a
    | _ => .non)) (fun Q h => ?_) rfl (by rw [List.length_map]; exact hz) (fun y hy => ?_) ?_
  · rw [wes_cons]
    exact hx _ (by rw [wes_nil]; exact h)
  · obtain ⟨p, hp, rfl⟩ := List.mem_map.mp hy
    show Wo' (asg (.t [.n i, .n j]) (.tup [.int p.1, .int p.2]) _) _
    rw [asg2, wo_some, we_k]
    refine ⟨rfl, rfl, fun _ => ?_⟩
    rw [we_v (d := .b (.int p.1)) ?_]
    · exact ⟨rfl, rfl⟩
    · rw [List.getElem?_set_ne hij.symm, List.getElem?_set_self]
      simp [wipe]
      exact hi
  · rw [fil_true, List.map_map]
    rw [List.map_map] at hQ
    exact hQ
theorem members_fault_w (k b : Nat) (S : Store) (ms : Mb) (hl : ms.length ≤ 1000) (Q : D → Store → Prop) (hQ : Q (.b (mfault ms)) S) : Wc T (k + 1) b 89 [.b (mbT ms)] S Q := by
  refine wc_of (fd := f_p_validators_members_fault) rfl rfl ?_
  unfold f_p_validators_members_fault
  have hz : ms.length ≤ SZ := by unfold SZ; omega
  unfold mfault at hQ
  refine ws_open fun r' hr' => ?_
  simp [start, len_mbT]
  by_cases c1 : 1 ≤ ms.length
  · by_cases c2 : ms.length ≤ 64
    · rw [if_pos ⟨c1, c2⟩] at hQ
      have c1' : (1 : Int) ≤ (ms.length : Int) := by omega
      have c2' : (ms.length : Int) ≤ 64 := by omega
      simp [c1', c2']
      subst hr'
      refine ws_open fun r' hr' => ?_
      rw [wx_set]
      refine pubs_lc (ms := ms) (fun Q h => by rw [we_v rfl]; exact h) hz (by decide) (by simp) (by simp) ?_
      simp only [nx_nx, List.set]
      subst hr'
      obtain ⟨ps, hps⟩ : ∃ ps, ps = ms.map (·.1) := ⟨_, rfl⟩
      have hpl : ps.length = ms.length := by rw [hps, List.length_map]
      rw [← hps]
      refine ws_open fun r' hr' => ?_
      obtain ⟨v, hv1, hv2⟩ := min_neg1 ps (by intro h; rw [h] at hpl; simp at hpl; omega)
      have en : (ps.any fun p => decide (p < 0)) = negM ms := by
        rw [hps, List.any_map]
        rfl
      rw [wx_iff, we_or, we_cmp, we_bi, wes_cons, we_v rfl, wes_nil, hv1, wo_some, we_k]
      show Wo' (some (decide (v < 0))) _
      rw [wo_some, hv2, en, truth_bl, wo_some]
      have dis : ∀ {R : D → Store → Prop}, R (.b (.bl (disM ms))) S → We (par T k S.length) (.bi .any false [(.lc false (.n 4) .r1 [(.bin .sub (.bi .len false [(.v 1)]) (.k (.int 1)))] (.k (.bl true)) (.cmp .ge (.idx (.v 1) (.v 4)) (.idx (.v 1) (.bin .add (.v 4) (.k (.int 1))))) [4])]) [some (.b (mbT ms)), some (.b (.lst (ps.map B.int))), none, none, none] S R := fun {R} hR => by
        rw [we_bi, wes_cons]
        refine we_lcP (xs := rngB 0 (ms.length - 1)) (ds := [.int ((ms.length - 1 : Nat) : Int)]) (fun _ => true) (fun x => (match x with
          | .int a => .bl (disK ms a.toNat)
          | _ => .non)) (fun Q h => ?_) (items_r1 (by omega)) (by rw [rngB_len]; unfold SZ; omega) (fun y hy => ?_) ?_
        · have e : (ms.length : Int) - 1 = ((ms.length - 1 : Nat) : Int) := by omega
          simp [hpl, e]
          exact h
        · obtain ⟨j, hj⟩ := List.getElem?_of_mem hy
          obtain ⟨hjn, rfl⟩ := rngB_at hj
          rw [Int.zero_add]
          show Wo' (some _) _
          rw [wo_some, we_k]
          refine ⟨rfl, rfl, fun _ => ?_⟩
          have i1 : idx S (.b (.lst (ps.map B.int))) (.b (.int (j : Int))) = some (.b (.int (ps.getD j 0))) := idx_lint (by omega)
          have i2 : idx S (.b (.lst (ps.map B.int))) (.b (.int ((j : Int) + 1))) = some (.b (.int (ps.getD (j + 1) 0))) := by
            have := idx_lint (S := S) (xs := ps) (j := j + 1) (by omega)
            rw [← this]
            rfl
          simp only [wipe, List.set]
          rw [we_cmp, we_idx, we_v rfl, we_v rfl, i1, wo_some, we_idx, we_v rfl, we_bin, we_v rfl, we_k, wo_bin, wo_add, i2, wo_some]
          show Wo' (some (decide (ps.getD (j + 1) 0 ≤ ps.getD j 0))) _
          rw [wo_some]
          refine ⟨rfl, ?_⟩
          show _ = D.b (.bl (disK ms ((j : Int)).toNat))
          rw [Int.toNat_natCast]
          unfold disK
          rw [← hps]
        · rw [rng_two (L := 0) (fun a => .bl (disK ms a)) _ (fun _ => rfl), wes_nil, show (List.range (ms.length - 1)).map (fun a => B.bl (disK ms a)) = ((List.range (ms.length - 1)).map (disK ms)).map B.bl by rw [List.map_map]; rfl, bi_any, wo_some]
          have : ((List.range (ms.length - 1)).map (disK ms)).any id = disM ms := by rw [List.any_map]; rfl
          rw [this]
          exact hR
      cases hn : negM ms with
      | true =>
        rw [hn, Bool.true_or, if_pos rfl] at hQ
        simp [ws_cons]
        exact hQ
      | false =>
      rw [hn, Bool.false_or] at hQ
      rw [if_neg Bool.false_ne_true]
      refine dis ?_
      cases hd : disM ms with
      | true =>
        rw [hd, if_pos rfl] at hQ
        simp [ws_cons]
        exact hQ
      | false =>
      rw [hd, if_neg Bool.false_ne_true] at hQ
      simp
      subst hr'
      refine ws_open fun r' hr' => ?_
      rw [wx_iff, we_not, we_bi, wes_cons]
      refine we_lcP (xs := ms.map mbB) (ds := [mbT ms]) (fun _ => true) (fun x => (match x with
        | .tup [_, .int a] => .bl (decide (1 ≤ a ∧ a ≤ 1000000))
        | _ => .non)) (fun Q h => by simp only [wes_cons, wes_nil]; rw [we_v rfl]; exact h) rfl (by rw [List.length_map]; exact hz) (fun y hy => ?_) ?_
      · obtain ⟨p, hp, rfl⟩ := List.mem_map.mp hy
        show Wo' (asg (.t [.n 2, .n 3]) (.tup [.int p.1, .int p.2]) _) _
        rw [asg2, wo_some, we_k]
        refine ⟨rfl, rfl, fun _ => ?_⟩
        simp only [wipe, List.set]
        rw [we_chn, we_k, we_v rfl]
        show Wo' (some (decide ((1 : Int) ≤ p.2))) _
        rw [wo_some]
        by_cases q1 : 1 ≤ p.2
        · rw [if_pos (decide_eq_true q1), we_k]
          show Wo' (some (decide (p.2 ≤ 1000000))) _
          rw [wo_some]
          refine ⟨rfl, ?_⟩
          show D.b (.bl (decide (p.2 ≤ 1000000))) = D.b (.bl (decide (1 ≤ p.2 ∧ p.2 ≤ 1000000)))
          simp [q1]
        · rw [if_neg (by simpa using q1)]
          refine ⟨rfl, ?_⟩
          show D.b (.bl false) = D.b (.bl (decide (1 ≤ p.2 ∧ p.2 ≤ 1000000)))
          simp [q1]
      rw [fil_true, List.map_map, wes_nil]
      rw [show List.map ((fun x => (match x with
        | .tup [_, .int a] => B.bl (decide (1 ≤ a ∧ a ≤ 1000000))
        | _ => .non)) ∘ mbB) ms = (ms.map fun p => decide (1 ≤ p.2 ∧ p.2 ≤ 1000000)).map B.bl by rw [List.map_map]; rfl, bi_all, wo_some]
      have : (ms.map fun p => decide (1 ≤ p.2 ∧ p.2 ≤ 1000000)).all id = wtM ms := by rw [List.all_map]; rfl
      rw [this]
      cases hw : wtM ms with
      | true =>
        rw [hw, if_pos rfl] at hQ
        simp
        subst hr'
        simp [ws_cons]
        exact hQ
      | false =>
        rw [hw, if_neg Bool.false_ne_true] at hQ
        simp [ws_cons]
        exact hQ
    · rw [if_neg (fun h => c2 h.2)] at hQ
      have c1' : (1 : Int) ≤ (ms.length : Int) := by omega
      have c2' : ¬ (ms.length : Int) ≤ 64 := by omega
      simp [c1', c2', ws_cons]
      exact hQ
  · rw [if_neg (fun h => c1 h.1)] at hQ
    have c1' : ¬ (1 : Int) ≤ (ms.length : Int) := by omega
    simp [c1', ws_cons]
    exact hQ
def mnum (ms : Mb) : List Int := (ms.length : Int) :: ms.flatMap fun p => [p.1, p.2]
theorem mnum_len (ms : Mb) : (mnum ms).length = 1 + 2 * ms.length := by
  unfold mnum
  induction ms with
  | nil => rfl
  | cons p ms ih =>
    simp only [List.flatMap_cons, List.length_cons, List.length_append, List.length_nil] at ih ⊢
    omega
theorem mt_ext {S : Store} {n : Nat} {xs ys : List B} {y : B} (h : S[n]? = some (.lst xs)) (hy : y = .lst ys) (hz : xs.length + ys.length ≤ SZ) : M.mt S .extend (.ref n) [.b y] = some (.b .non, S.set n (.lst (xs ++ ys))) := by
  subst hy
  unfold M.mt
  dsimp only
  rw [h]
  show (if xs.length + ys.length ≤ SZ then _ else _) = _
  rw [if_pos hz]
end G
namespace G
open M
theorem any_mem (p : Int) : ∀ xs : List Int, (xs.map B.int).any (fun z => eqB z (.int p)) = decide (p ∈ xs)
  | [] => rfl
  | x :: xs => by
    rw [List.map_cons, List.any_cons, any_mem p xs]
    show (decide (x = p) || decide (p ∈ xs)) = _
    by_cases h : x = p
    · subst h; simp
    · have h2 : ¬ p = x := fun e => h e.symm
      simp [h, h2]
theorem inn_sq {S : Store} {d : D} {xs : List Int} {p : Int} (hd : dicD S d = none) (hs : seqD S d = some (xs.map B.int)) : cmp S .inn (.b (.int p)) d = some (decide (p ∈ xs)) := by
  show inD S (.b (.int p)) d = _
  unfold inD
  rw [hd]
  show (viewD S (.b (.int p))).bind _ = _
  rw [show viewD S (.b (.int p)) = some (.int p) from rfl, bind_some', hs, bind_some', eqOk_ints, show eqOk 12 (.int p) = true from rfl, any_mem]
  rfl
theorem nin_sq {S : Store} {d : D} {xs : List Int} {p : Int} (hd : dicD S d = none) (hs : seqD S d = some (xs.map B.int)) : cmp S .nin (.b (.int p)) d = some (!decide (p ∈ xs)) := by
  show (cmp S .inn (.b (.int p)) d).map _ = _
  rw [inn_sq hd hs]
  rfl
theorem inn_l {S : Store} {xs : List Int} {p : Int} : cmp S .inn (.b (.int p)) (.b (.lst (xs.map B.int))) = some (decide (p ∈ xs)) := inn_sq rfl rfl
theorem nin_r {S : Store} {n : Nat} {xs : List Int} {p : Int} (h : S[n]? = some (.lst (xs.map B.int))) : cmp S .nin (.b (.int p)) (.ref n) = some (!decide (p ∈ xs)) := by
  refine nin_sq ?_ ?_
  · show (match S[n]? with | some (.dic kvs) => some kvs | some (.lockd kvs) => some kvs | _ => none) = _
    rw [h]
  · unfold seqD
    simp [h]
def totM (ms : Mb) : Int := (ms.map (·.2)).sum
def wgtM (ms : Mb) (xs : List Int) : Int := ((ms.filter fun p => decide (p.1 ∈ xs)).map (·.2)).sum
theorem total_w (k b : Nat) (S : Store) (ms : Mb) (hl : ms.length ≤ 1000) (Q : D → Store → Prop) (hQ : Q (.b (.int (totM ms))) S) : Wc T (k + 1) b 92 [.b (mbT ms)] S Q := by
  refine wc_of (fd := f_p_validators_total) rfl rfl ?_
  unfold f_p_validators_total
  have hz : ms.length ≤ SZ := by unfold SZ; omega
  refine ws_open fun r' hr' => ?_
  simp only [start, List.map_cons, List.map_nil, List.length_cons, List.length_nil]
  rw [wx_ret, we_bi, wes_cons]
  refine we_lcP (xs := ms.map mbB) (ds := [mbT ms]) (fun _ => true) (fun x => (match x with
    | .tup [_, .int a] => .int a
    | _ => .non)) (fun Q h => by simp only [wes_cons, wes_nil]; rw [we_v rfl]; exact h) rfl (by rw [List.length_map]; exact hz) (fun y hy => ?_) ?_
  · obtain ⟨p, hp, rfl⟩ := List.mem_map.mp hy
    show Wo' (asg (.t [.n 1, .n 2]) (.tup [.int p.1, .int p.2]) _) _
    rw [asg2, wo_some, we_k]
    refine ⟨rfl, rfl, fun _ => ?_⟩
    simp only [wipe, List.set]
    rw [we_v rfl]
    exact ⟨rfl, rfl⟩
  rw [fil_true, List.map_map, wes_nil]
  rw [show List.map ((fun x => (match x with
        | .tup [_, .int a] => B.int a
        | _ => .non)) ∘ mbB) ms = (ms.map (·.2)).map B.int by rw [List.map_map]; rfl, bi_sum, wo_some]
  simp
  exact hQ
theorem weight_of_w (k b : Nat) (S : Store) (ms : Mb) (xs : List Int) (hl : ms.length ≤ 1000) (Q : D → Store → Prop) (hQ : Q (.b (.int (wgtM ms xs))) S) : Wc T (k + 1) b 93 [.b (mbT ms), .b (.lst (xs.map B.int))] S Q := by
  refine wc_of (fd := f_p_validators_weight_of) rfl rfl ?_
  unfold f_p_validators_weight_of
  have hz : ms.length ≤ SZ := by unfold SZ; omega
  refine ws_open fun r' hr' => ?_
  simp only [start, List.map_cons, List.map_nil, List.length_cons, List.length_nil]
  rw [wx_ret, we_bi, wes_cons]
  refine we_lcP (xs := ms.map mbB) (ds := [mbT ms]) (fun x => (match x with
    | .tup [.int a, _] => decide (a ∈ xs)
    | _ => false)) (fun x => (match x with
    | .tup [_, .int a] => .int a
    | _ => .non)) (fun Q h => by simp only [wes_cons, wes_nil]; rw [we_v rfl]; exact h) rfl (by rw [List.length_map]; exact hz) (fun y hy => ?_) ?_
  · obtain ⟨p, hp, rfl⟩ := List.mem_map.mp hy
    show Wo' (asg (.t [.n 2, .n 3]) (.tup [.int p.1, .int p.2]) _) _
    rw [asg2, wo_some]
    simp only [wipe, List.set]
    rw [we_cmp, we_v rfl, we_v rfl]
    rw [inn_l, wo_some]
    refine ⟨rfl, rfl, fun _ => ?_⟩
    rw [we_v rfl]
    exact ⟨rfl, rfl⟩
  rw [List.filter_map, List.map_map, wes_nil]
  rw [show List.map ((fun x => (match x with
        | .tup [_, .int a] => B.int a
        | _ => .non)) ∘ mbB) (List.filter ((fun x => (match x with
    | .tup [.int a, _] => decide (a ∈ xs)
    | _ => false)) ∘ mbB) ms) = ((ms.filter fun p => decide (p.1 ∈ xs)).map (·.2)).map B.int by rw [List.map_map]; rfl, bi_sum, wo_some]
  simp
  exact hQ
theorem mulOk_sm {a b : Int} (h : -(2 ^ 64) < b ∧ b < 2 ^ 64) : mulOk a b = true := mulOk_r h.1 h.2
theorem more_than_w (k b : Nat) (S : Store) (ms : Mb) (xs : List Int) (a c : Int) (hl : ms.length ≤ 1000) (ha : -(2 ^ 64) < a ∧ a < 2 ^ 64) (hc : -(2 ^ 64) < c ∧ c < 2 ^ 64) (Q : D → Store → Prop) (hQ : Q (.b (.bl (decide (totM ms * a < wgtM ms xs * c)))) S) :
    Wc T (k + 2) b 94 [.b (mbT ms), .b (.lst (xs.map B.int)), .b (.int a), .b (.int c)] S Q := by
  refine wc_of (fd := f_p_validators_more_than) rfl rfl ?_
  unfold f_p_validators_more_than
  refine ws_open fun r' hr' => ?_
  simp [start]
  refine weight_of_w k _ _ ms xs hl _ ?_
  rw [wo_bin, wo_mul]
  refine ⟨mulOk_sm hc, ?_⟩
  refine total_w k _ _ ms hl _ ?_
  rw [wo_bin, wo_mul]
  refine ⟨mulOk_sm ha, ?_⟩
  simp [M.cmp, int2]
  exact hQ
theorem mnum_snoc (ms : Mb) (p : Int × Int) : ms.flatMap (fun p => [p.1, p.2]) ++ [p.1, p.2] = (ms ++ [p]).flatMap fun p => [p.1, p.2] := by
  rw [List.flatMap_append]
  rfl
def mnumJ (ms : Mb) (j : Nat) : List Int := (ms.length : Int) :: (ms.take j).flatMap fun p => [p.1, p.2]
theorem mnumJ_len (ms : Mb) (j : Nat) : (mnumJ ms j).length ≤ 1 + 2 * ms.length := by
  have h := mnum_len (ms.take j)
  unfold mnum at h
  unfold mnumJ
  rw [List.length_cons] at h ⊢
  have := List.length_take_le' j ms
  omega
theorem members_numbers_w (k b : Nat) (S : Store) (ms : Mb) (hl : ms.length ≤ 1000) (Q : D → Store → Prop) (hQ : Q (.b (.lst ((mnum ms).map B.int))) S) : Wc T (k + 1) b 90 [.b (mbT ms)] S Q := by
  refine wc_of (fd := f_p_validators_members_numbers) rfl rfl ?_
  unfold f_p_validators_members_numbers
  refine ws_open fun r' hr' => ?_
  simp [start, len_mbT, newL]
  subst hr'
  refine ws_open fun r' hr' => ?_
  refine wx_forN (ds := [mbT ms]) (xs := ms.map mbB) (fun Q h => by simpa using h) rfl (fun j σ1 S1 => S1 = S ++ [O.lst ((mnumJ ms j).map B.int)] ∧ ∃ x y, σ1 = [some (.b (mbT ms)), some (.ref S.length), x, y]) ⟨rfl, none, none, rfl⟩ ?_ ?_
  · rintro j y σ1 S1 hy ⟨rfl, x, z, rfl⟩
    rw [List.getElem?_map] at hy
    obtain ⟨p, hp, rfl⟩ := Option.map_eq_some_iff.mp hy
    show Wo' (asg (.t [.n 2, .n 3]) (.tup [.int p.1, .int p.2]) _) _
    rw [asg2, wo_some]
    simp only [List.set]
    refine ws_open fun q' hq' => ?_
    have hS := last_at (S := S) (o := O.lst ((mnumJ ms j).map B.int))
    have hm := mt_ext (y := .lst [.int p.1, .int p.2]) hS rfl (by rw [List.length_map]; have := mnumJ_len ms j; unfold SZ; simp; omega)
    simp [newL, hm]
    subst hq'
    simp
    unfold mnumJ
    rw [List.take_add_one, hp]
    simp
  rintro σ1 S1 ⟨rfl, x, z, rfl⟩
  rw [nx_nx]
  subst hr'
  refine ws_open fun r' hr' => ?_
  simp
  rw [ret_last]
  unfold mnumJ
  rw [List.take_length]
  exact hQ
theorem members_root_w (k b : Nat) (S : Store) (w : Int) (ms : Mb) (hw : w ≤ 128) (hl : ms.length ≤ 1000) (hs : ∀ x ∈ mnum ms, Sm x) (Q : D → Store → Prop) (hQ : Q (.b (.int (dig w 9 (mnum ms)))) S) : Wc T (k + 3) b 91 [.b (hsh w), .b (mbT ms)] S Q := by
  refine wc_of (fd := f_p_validators_members_root) rfl rfl ?_
  unfold f_p_validators_members_root
  have cl2 : ∀ S, clsOf S 2 (.b (hsh w)) = some 0 := fun _ => rfl
  have me4 : T.meth 0 2 = some 4 := rfl
  refine ws_open fun r' hr' => ?_
  simp [start, cl2, me4]
  refine members_numbers_w (k + 1) _ _ ms hl _ ?_
  refine digest_w k _ _ w 9 _ (mnum ms) (.inl rfl) hw (Sm.lim hs (by rw [mnum_len]; omega)) _ ?_
  simp
  exact hQ
end G
namespace G
open M
theorem sorted_ref {S : Store} {n : Nat} {xs : List Int} (h : S[n]? = some (.lst (xs.map B.int))) (hz : xs.length ≤ SZ) : bi S .sorted false [.ref n] = some (.b (.lst ((sortI xs).map B.int)), S) := by
  have e1 : dicD S (.ref n) = none := by
    unfold dicD
    simp [h]
  have e2 : lsqD S (.ref n) = some (xs.map B.int) := by
    unfold lsqD seqD
    simp [h]
  unfold bi
  dsimp only
  rw [e1]
  dsimp only
  rw [e2, bind_some', intsB_map, bind_some']
  unfold newL
  rw [if_neg Bool.false_ne_true, if_pos (by rw [List.length_map, (sortI_perm xs).length_eq]; exact hz)]
def sgnF (w msg : Int) (ps : List Int) (acc : List Int) (v : Int × List Int) : List Int := if (decide (v.1 ∈ ps) && (!decide (v.1 ∈ acc) && vfy w v.1 msg v.2)) = true then acc ++ [v.1] else acc
def sgnL (w msg : Int) (ps : List Int) (vs : Vt) : List Int := vs.foldl (sgnF w msg ps) []
theorem sgnF_len (w msg : Int) (ps acc : List Int) (v : Int × List Int) : (sgnF w msg ps acc v).length ≤ acc.length + 1 := by
  unfold sgnF
  split
  · simp
  · omega
theorem sgnL_len (w msg : Int) (ps : List Int) : ∀ (vs : Vt) (acc : List Int), (vs.foldl (sgnF w msg ps) acc).length ≤ acc.length + vs.length
  | [], acc => by simp
  | v :: vs, acc => by
    have h1 := sgnL_len w msg ps vs (sgnF w msg ps acc v)
    have h2 := sgnF_len w msg ps acc v
    simp only [List.foldl_cons, List.length_cons]
    omega
theorem signers_w (k b : Nat) (S : Store) (w msg : Int) (ms : Mb) (vs : Vt) (h0 : 0 ≤ w) (hw : w ≤ 128) (hl : ms.length ≤ 1000) (hv : vs.length ≤ 1000) (hs : ∀ v ∈ vs, v.2.length ≤ 1000) (Q : D → Store → Prop)
    (hQ : Q (.b (.tup ((sortI (sgnL w msg (ms.map (·.1)) vs)).map B.int))) S) :
    Wc T (k + 9) b 95 [.b (hsh w), .b (.int msg), .b (mbT ms), .b (vtT vs)] S Q := by
  refine wc_of (fd := f_p_validators_signers) rfl rfl ?_
  unfold f_p_validators_signers
  have hz : ms.length ≤ SZ := by unfold SZ; omega
  refine ws_open fun r' hr' => ?_
  simp only [start, List.map_cons, List.map_nil, List.length_cons, List.length_nil]
  rw [wx_set]
  refine pubs_lc (ms := ms) (fun Q h => by rw [we_v rfl]; exact h) hz (by decide) (by simp) (by simp) ?_
  obtain ⟨ps, hps⟩ : ∃ ps, ps = ms.map (·.1) := ⟨_, rfl⟩
  rw [← hps]
  rw [← hps] at hQ
  simp only [nx_nx, List.set]
  subst hr'
  refine ws_open fun r' hr' => ?_
  simp [newL]
  subst hr'
  refine ws_open fun r' hr' => ?_
  refine wx_forN (k := .sq) (ds := [vtT vs]) (xs := vs.map vtB) (fun Q h => by simpa using h) rfl (fun j σ1 S1 => S1 = S ++ [O.lst ((sgnL w msg ps (vs.take j)).map B.int)] ∧ ∃ x y z, σ1 = [some (.b (hsh w)), some (.b (.int msg)), some (.b (mbT ms)), some (.b (vtT vs)), some (.b (.lst (ps.map B.int))), some (.ref S.length), x, y, z]) ⟨rfl, _, _, _, rfl⟩ ?_ ?_
  · rintro j y σ1 S1 hy ⟨rfl, x, z, u, rfl⟩
    rw [List.getElem?_map] at hy
    obtain ⟨v, hv2, rfl⟩ := Option.map_eq_some_iff.mp hy
    have hvm := List.mem_of_getElem? hv2
    show Wo' (asg (.t [.n 6, .n 7]) (.tup [.int v.1, .tup (v.2.map B.int)]) _) _
    rw [asg2, wo_some]
    simp only [List.set]
    refine ws_open fun q' hq' => ?_
    have ht : vs.take (j + 1) = vs.take j ++ [v] := by rw [List.take_add_one, hv2]; rfl
    have hSt : sgnL w msg ps (vs.take (j + 1)) = sgnF w msg ps (sgnL w msg ps (vs.take j)) v := by
      unfold sgnL
      rw [ht, List.foldl_append]
      rfl
    obtain ⟨acc, hacc⟩ : ∃ acc, acc = sgnL w msg ps (vs.take j) := ⟨_, rfl⟩
    have hal : acc.length ≤ 1000 := by
      have := sgnL_len w msg ps (vs.take j) []
      rw [hacc]
      unfold sgnL
      have := List.length_take_le' j vs
      simp at *
      omega
    rw [hSt, ← hacc]
    have hS := last_at (S := S) (o := O.lst (acc.map B.int))
    rw [wx_iff, we_and, we_cmp, we_v rfl, we_v rfl, inn_l, wo_some]
    show Wo' (some (decide (v.1 ∈ ps))) _
    rw [wo_some]
    unfold sgnF
    cases e1 : decide (v.1 ∈ ps) with
    | false =>
      simp [ws_cons]
      subst hq'
      simp
    | true =>
    rw [if_pos rfl, we_and, we_cmp, we_v rfl, we_v rfl, nin_r hS, wo_some]
    show Wo' (some _) _
    rw [wo_some]
    cases e2 : decide (v.1 ∈ acc) with
    | true =>
      simp [ws_cons]
      subst hq'
      simp
    | false =>
    simp only [Bool.not_false, if_true]
    rw [we_call]
    simp only [wes_cons, wes_nil]
    rw [we_v rfl, we_v rfl, we_v rfl, we_v rfl]
    refine verify_w (k + 3) _ _ w v.1 msg v.2 h0 hw (hs v hvm) _ ?_
    cases e3 : vfy w v.1 msg v.2 with
    | false =>
      simp [ws_cons]
      subst hq'
      simp
    | true =>
    have happ := mt_app hS (by rw [List.length_map]; unfold SZ; omega) (.int v.1)
    simp [ws_cons, happ]
    subst hq'
    simp
  rintro σ1 S1 ⟨rfl, x, z, u, rfl⟩
  rw [nx_nx]
  subst hr'
  refine ws_open fun r' hr' => ?_
  rw [show vs.take (vs.map vtB).length = vs by rw [List.length_map, List.take_length]]
  have hsr := sorted_ref (xs := sgnL w msg ps vs) (last_at (S := S)) (by have := sgnL_len w msg ps vs []; unfold SZ sgnL; simp at this; omega)
  simp [hsr]
  show Wo' (some _) _
  rw [wo_some]
  simp
  exact hQ
end G
namespace G
open M
theorem number_w (k b : Nat) (S : Store) (c : Int) (i : Int) (hi : 0 ≤ i ∧ i ≤ 2) (Q : D → Store → Prop) (hQ : ∀ v, 0 ≤ v → Q (.b (.int v)) S) : Wc T (k + 1) b 1000 [.b (.int c), .b (.int i)] S Q := by
  refine wc_of (fd := f_l_law_number) rfl rfl ?_
  unfold f_l_law_number
  refine ws_open fun r' hr' => ?_
  simp [start]
  by_cases h : (1000000000000000000 : Int) ≤ c
  · rw [if_pos h]
    simp [ws_cons]
    exact hQ c (by omega)
  · rw [if_neg h]
    subst hr'
    refine ws_open fun r' hr' => ?_
    simp
    refine ⟨mulOk_sm (by decide), mulOk_sm (by decide), ?_⟩
    obtain ⟨m, hm⟩ : ∃ m, m = (c * 48271 + i * 69621 + 11) % 2147483647 := ⟨_, rfl⟩
    rw [← hm]
    subst hr'
    refine ws_open fun r' hr' => ?_
    simp
    refine ⟨mulOk_sm (by omega), mulOk_sm (by decide), ?_⟩
    exact hQ _ (Int.emod_nonneg _ (by decide))
theorem cells_w (k b : Nat) (S : Store) (ns : List Int) (hl : ns.length ≤ 63) (Q : D → Store → Prop) (hQ : ∀ cs : List Int, 3 ≤ cs.length → Q (.b (.lst (cs.map B.int))) S) : Wc T (k + 1) b 1001 [.b (.scr (ns.map B.int)), .b (.int 3)] S Q := by
  refine wc_of (fd := f_l_law_cells) rfl rfl ?_
  unfold f_l_law_cells
  refine ws_open fun r' hr' => ?_
  simp only [start, List.map_cons, List.map_nil, List.length_cons, List.length_nil]
  rw [wx_set]
  refine we_lcN (xs := ns.map B.int) (ds := [.scr (ns.map B.int)]) (fun Q h => by simp only [wes_cons, wes_nil]; rw [we_v rfl]; exact h) rfl (by rw [List.length_map]; unfold SZ; omega) (fun j ys S1 => S1 = S ∧ ∃ cs : List Int, ys = cs.map B.int ∧ cs.length = j) ⟨rfl, [], rfl, rfl⟩ ?_ ?_
  · rintro j x ys S1 hx ⟨rfl, cs, rfl, hj⟩
    rw [List.getElem?_map] at hx
    obtain ⟨v, hv, rfl⟩ := Option.map_eq_some_iff.mp hx
    show Wo' (some _) _
    rw [wo_some, we_k]
    refine ⟨true, rfl, ?_⟩
    simp [wipe]
    exact ⟨cs ++ [v], by simp, by simp; exact hj⟩
  rintro ys S1 ⟨rfl, cs, rfl, hj⟩
  show Wo' (if _ then some _ else none) _
  rw [if_pos (by rw [List.length_map]; unfold SZ; rw [hj, List.length_map]; omega), wo_some]
  simp only [nx_nx, List.set]
  rw [List.length_map] at hj
  subst hr'
  refine ws_open fun r' hr' => ?_
  refine wx_whl (fun m σ S2 => ∃ cs : List Int, [some (.b (.scr (ns.map B.int))), some (.b (.int 3)), some (.ref S1.length), none] = σ ∧ S1 ++ [O.lst (cs.map B.int)] = S2 ∧ cs.length ≤ 70 ∧ 100 ≤ m + cs.length) 100 ⟨cs, rfl, rfl, by omega, by omega⟩ (by unfold M.WF; omega) ?_
  rintro m σ _ ⟨cs, rfl, rfl, h1, h2⟩
  have hS := last_at (S := S1) (o := O.lst (cs.map B.int))
  have hlen : bi (S1 ++ [O.lst (cs.map B.int)]) .len false [.ref S1.length] = some (.b (.int cs.length), S1 ++ [O.lst (cs.map B.int)]) := by
    rw [len_ref hS, List.length_map]
  simp [hlen]
  by_cases h3 : cs.length < 3
  · have h3' : (cs.length : Int) < 3 := by omega
    rw [if_pos h3']
    have happ := mt_app hS (by rw [List.length_map]; unfold SZ; omega) (.int ((cs.length : Int) + 5))
    refine ⟨m - 1, by omega, ?_⟩
    simp [ws_cons, hlen, happ]
    exact ⟨cs ++ [(cs.length : Int) + 5], by simp, by simp; omega, by simp; omega⟩
  · have h3' : ¬ (cs.length : Int) < 3 := by omega
    rw [if_neg h3']
    subst hr'
    simp [ws_cons]
    rw [ret_last]
    exact hQ cs (by omega)
theorem is_w (k b : Nat) (S : Store) (x y : Int) (Q : D → Store → Prop) (hQ : Q (.b (.bl (decide (x = y)))) S) : Wc T (k + 1) b 1002 [.b (.int x), .b (.int y)] S Q := by
  refine wc_of (fd := f_l_law_is) rfl rfl ?_
  unfold f_l_law_is
  refine ws_open fun r' hr' => ?_
  have i1 : ∀ S, bi S (.isin .int) false [.b (.int x)] = some (.b (.bl true), S) := fun _ => rfl
  have i2 : ∀ S, bi S (.isin .bool) false [.b (.int x)] = some (.b (.bl false), S) := fun _ => rfl
  have e : (x == y) = decide (x = y) := rfl
  simp [start, i1, i2, e]
  exact hQ
def badK (ms : Mb) (k : Nat) : Bool := decide ((ms.map (·.1)).getD k 0 < 0) || (decide (0 < k) && decide ((ms.map (·.1)).getD k 0 ≤ (ms.map (·.1)).getD (k - 1) 0))
theorem bad_iff (ms : Mb) : (negM ms || disM ms) = (List.range ms.length).any (badK ms) := by
  rw [Bool.eq_iff_iff, Bool.or_eq_true]
  unfold negM disM
  rw [List.any_eq_true, List.any_eq_true, List.any_eq_true]
  constructor
  · rintro (⟨p, hp, h⟩ | ⟨j, hj, h⟩)
    · obtain ⟨j, hj⟩ := List.getElem?_of_mem hp
      have hl := (List.getElem?_eq_some_iff.mp hj).1
      refine ⟨j, List.mem_range.mpr hl, ?_⟩
      unfold badK
      have : (ms.map (·.1)).getD j 0 = p.1 := by
        rw [List.getD_eq_getElem?_getD, List.getElem?_map, hj]
        rfl
      rw [this, h]
      rfl
    · rw [List.mem_range] at hj
      refine ⟨j + 1, List.mem_range.mpr (by omega), ?_⟩
      unfold badK
      unfold disK at h
      rw [show j + 1 - 1 = j by omega]
      have h := of_decide_eq_true h
      rw [decide_eq_true h, decide_eq_true (show 0 < j + 1 by omega), Bool.and_self, Bool.or_true]
  · rintro ⟨j, hj, h⟩
    rw [List.mem_range] at hj
    unfold badK at h
    rw [Bool.or_eq_true, Bool.and_eq_true] at h
    rcases h with h | ⟨h1, h2⟩
    · left
      refine ⟨ms[j], List.getElem_mem hj, ?_⟩
      have : (ms.map (·.1)).getD j 0 = ms[j].1 := by
        rw [List.getD_eq_getElem?_getD, List.getElem?_map, List.getElem?_eq_getElem hj]
        rfl
      rw [this] at h
      exact h
    · right
      have h1 := of_decide_eq_true h1
      refine ⟨j - 1, List.mem_range.mpr (by omega), ?_⟩
      unfold disK
      rw [show j - 1 + 1 = j by omega]
      exact h2
theorem getD_fst (ms : Mb) (j : Nat) : (ms.getD j (0, 0)).1 = (ms.map (·.1)).getD j 0 := by
  rw [List.getD_eq_getElem?_getD, List.getD_eq_getElem?_getD, List.getElem?_map]
  cases ms[j]? <;> rfl
theorem idx_mb {S : Store} {ms : Mb} {j : Nat} (h : j < ms.length) : idx S (.b (mbT ms)) (.b (.int (j : Int))) = some (.b (mbB (ms.getD j (0, 0)))) := by
  have hj : (ms.map mbB)[j]? = some (mbB (ms.getD j (0, 0))) := by
    rw [List.getElem?_map, List.getElem?_eq_getElem h, List.getD_eq_getElem?_getD, List.getElem?_eq_getElem h]
    rfl
  unfold mbT
  rw [idx_tup, atI_get rfl hj]
  rfl
theorem law_fault_w (k b : Nat) (S : Store) (ms : Mb) (hl : ms.length ≤ 1000) (Q : D → Store → Prop) (hQ : Q (.b (mfault ms)) S) : Wc T (k + 1) b 1005 [.b (mbT ms)] S Q := by
  refine wc_of (fd := f_l_law_fault) rfl rfl ?_
  unfold f_l_law_fault
  have hz : ms.length ≤ SZ := by unfold SZ; omega
  unfold mfault at hQ
  refine ws_open fun r' hr' => ?_
  simp [start, len_mbT]
  by_cases c1 : 1 ≤ ms.length
  · by_cases c2 : ms.length ≤ 64
    · rw [if_pos ⟨c1, c2⟩] at hQ
      have c1' : (1 : Int) ≤ (ms.length : Int) := by omega
      have c2' : (ms.length : Int) ≤ 64 := by omega
      simp [c1', c2']
      subst hr'
      rw [bad_iff] at hQ
      refine ws_open fun r' hr' => ?_
      refine wx_forN (ds := [.int (ms.length : Int)]) (xs := rngB 0 ms.length) (fun Q h => by simp [len_mbT]; exact h) (items_r1 (by omega)) (fun j σ1 S1 => S1 = S ∧ (∀ i, i < j → badK ms i = false) ∧ ∃ x, σ1 = [some (.b (mbT ms)), x, none, none]) ⟨rfl, fun i h => by omega, none, rfl⟩ ?_ ?_
      · rintro j y σ1 S1 hy ⟨rfl, hb, x, rfl⟩
        obtain ⟨hj, rfl⟩ := rngB_at hy
        rw [Int.zero_add]
        show Wo' (some ([some (.b (mbT ms)), some (.b (.int (j : Int))), none, none] : Sl)) _
        rw [wo_some]
        refine ws_open fun q' hq' => ?_
        have i0 : ∀ (S : Store) (p : Int × Int), idx S (.b (mbB p)) (.b (.int 0)) = some (.b (.int p.1)) := fun _ _ => rfl
        have i1 : ∀ S : Store, idx S (.b (mbT ms)) (.b (.int (j : Int))) = some (.b (mbB (ms.getD j (0, 0)))) := fun S => idx_mb hj
        rw [wx_iff, we_or, we_cmp, we_idx, we_idx, we_v rfl, we_v rfl, i1, wo_some, we_k]
        try dsimp only
        rw [i0, wo_some, we_k]
        show Wo' (some (decide ((ms.getD j (0, 0)).1 < 0))) _
        rw [wo_some]
        show Wo' (some _) _
        rw [wo_some, getD_fst]
        cases e1 : decide ((ms.map (·.1)).getD j 0 < 0) with
        | true =>
          rw [if_pos rfl]
          have hbad : badK ms j = true := by unfold badK; rw [e1]; rfl
          rw [if_pos (List.any_eq_true.mpr ⟨j, List.mem_range.mpr hj, hbad⟩)] at hQ
          simp [ws_cons]
          exact hQ
        | false =>
        rw [if_neg Bool.false_ne_true, we_and, we_cmp, we_v rfl, we_k]
        show Wo' (some (decide ((0 : Int) < (j : Int)))) _
        rw [wo_some]
        show Wo' (some _) _
        rw [wo_some]
        by_cases h0 : 0 < j
        · rw [if_pos (decide_eq_true (by omega))]
          have i2 : ∀ S : Store, idx S (.b (mbT ms)) (.b (.int ((j : Int) - 1))) = some (.b (mbB (ms.getD (j - 1) (0, 0)))) := fun S => by
            rw [show (j : Int) - 1 = ((j - 1 : Nat) : Int) by omega]
            exact idx_mb (by omega)
          rw [we_cmp, we_idx, we_idx, we_v rfl, we_v rfl, i1, wo_some, we_k]
          try dsimp only
          rw [i0, wo_some, we_idx, we_idx, we_v rfl, we_bin, we_v rfl, we_k, wo_bin, wo_sub, i2, wo_some, we_k]
          try dsimp only
          rw [i0, wo_some]
          show Wo' (some (decide ((ms.getD j (0, 0)).1 ≤ (ms.getD (j - 1) (0, 0)).1))) _
          rw [wo_some]
          show Wo' (some _) _
          rw [wo_some, getD_fst, getD_fst]
          cases e2 : decide ((ms.map (·.1)).getD j 0 ≤ (ms.map (·.1)).getD (j - 1) 0) with
          | true =>
            rw [if_pos rfl]
            have hbad : badK ms j = true := by unfold badK; rw [e1, e2, decide_eq_true h0]; rfl
            rw [if_pos (List.any_eq_true.mpr ⟨j, List.mem_range.mpr hj, hbad⟩)] at hQ
            simp [ws_cons]
            exact hQ
          | false =>
            have hbad : badK ms j = false := by unfold badK; rw [e1, e2]; simp
            rw [if_neg Bool.false_ne_true]
            subst hq'
            simp
            exact fun i hi => (Nat.lt_succ_iff_lt_or_eq.mp hi).elim (hb i) (fun e => e ▸ hbad)
        · have hbad : badK ms j = false := by unfold badK; rw [e1, decide_eq_false h0]; rfl
          rw [decide_eq_false (show ¬ (0 : Int) < (j : Int) by omega), if_neg Bool.false_ne_true]
          show Wo' (some false) _
          rw [wo_some, if_neg Bool.false_ne_true]
          subst hq'
          simp
          exact fun i hi => (Nat.lt_succ_iff_lt_or_eq.mp hi).elim (hb i) (fun e => e ▸ hbad)
      rintro σ1 S1 ⟨rfl, hb, x, rfl⟩
      rw [rngB_len] at hb
      have hnb : (List.range ms.length).any (badK ms) = false := by
        rw [List.any_eq_false]
        intro i hi
        rw [hb i (List.mem_range.mp hi)]
        exact Bool.false_ne_true
      rw [hnb, if_neg Bool.false_ne_true] at hQ
      rw [nx_nx]
      subst hr'
      refine ws_open fun r' hr' => ?_
      refine wx_forN (k := .sq) (ds := [mbT ms]) (xs := ms.map mbB) (fun Q h => by simpa using h) rfl (fun j σ1 S2 => S2 = S1 ∧ (∀ p ∈ ms.take j, 1 ≤ p.2 ∧ p.2 ≤ 1000000) ∧ ∃ y z, σ1 = [some (.b (mbT ms)), x, y, z]) ⟨rfl, fun p h => by simp at h, none, none, rfl⟩ ?_ ?_
      · rintro j y σ1 S2 hy ⟨rfl, hb2, y1, z1, rfl⟩
        rw [List.getElem?_map] at hy
        obtain ⟨p, hp, rfl⟩ := Option.map_eq_some_iff.mp hy
        show Wo' (asg (.t [.n 2, .n 3]) (.tup [.int p.1, .int p.2]) _) _
        rw [asg2, wo_some]
        simp only [List.set]
        refine ws_open fun q' hq' => ?_
        have ht : ms.take (j + 1) = ms.take j ++ [p] := by rw [List.take_add_one, hp]; rfl
        by_cases q1 : 1 ≤ p.2
        · by_cases q2 : p.2 ≤ 1000000
          · simp [q1, q2]
            subst hq'
            simp
            rw [ht]
            intro a b' hab
            rcases List.mem_append.mp hab with h | h
            · exact hb2 _ h
            · rw [List.mem_singleton] at h
              rw [← h] at q1 q2
              exact ⟨q1, q2⟩
          · have hw : wtM ms = false := by
              unfold wtM
              rw [List.all_eq_false]
              exact ⟨p, List.mem_of_getElem? hp, by simp; omega⟩
            rw [hw, if_neg Bool.false_ne_true] at hQ
            simp [q1, q2, ws_cons]
            exact hQ
        · have hw : wtM ms = false := by
            unfold wtM
            rw [List.all_eq_false]
            exact ⟨p, List.mem_of_getElem? hp, by simp; omega⟩
          rw [hw, if_neg Bool.false_ne_true] at hQ
          simp [q1, ws_cons]
          exact hQ
      rintro σ1 S2 ⟨rfl, hb2, y1, z1, rfl⟩
      rw [List.length_map, List.take_length] at hb2
      have hw : wtM ms = true := by
        unfold wtM
        rw [List.all_eq_true]
        exact fun p hp => decide_eq_true (hb2 p hp)
      rw [hw, if_pos rfl] at hQ
      rw [nx_nx]
      subst hr'
      simp [ws_cons]
      exact hQ
    · rw [if_neg (fun h => c2 h.2)] at hQ
      have c1' : (1 : Int) ≤ (ms.length : Int) := by omega
      have c2' : ¬ (ms.length : Int) ≤ 64 := by omega
      simp [c1', c2', ws_cons]
      exact hQ
  · rw [if_neg (fun h => c1 h.1)] at hQ
    have c1' : ¬ (1 : Int) ≤ (ms.length : Int) := by omega
    simp [c1', ws_cons]
    exact hQ
end G
namespace G
open M
theorem tup_refV {S : Store} {n : Nat} {xs : List B} {m : Bool} (h : S[n]? = some (.lst xs)) : bi S .tuple m [.ref n] = some (.b (.tup xs), S) := by
  have e : seqD S (.ref n) = some xs := by
    unfold seqD
    dsimp only
    rw [h]
  show pure' S ((seqD S (.ref n)).map _) = _
  rw [e]
  rfl
theorem lstD_refV {S : Store} {n : Nat} {xs : List B} (h : S[n]? = some (.lst xs)) : lstD S (.ref n) = some xs := by
  unfold lstD
  simp [h]
theorem list_tupV {S : Store} {xs : List B} {m : Bool} : bi S .list m [.b (.tup xs)] = newL S m xs := rfl
theorem tup_lstV {S : Store} {xs : List B} {m : Bool} : bi S .tuple m [.b (.lst xs)] = some (.b (.tup xs), S) := rfl
theorem ixN_okV {n : Nat} {i : Int} (h : 0 ≤ i) (h2 : i < n) : L2.ixN n i = some i.toNat := by
  unfold L2.ixN
  rw [if_pos h, if_pos h2]
theorem atI_mapV {α : Type} {f : α → B} {xs : List α} {i : Int} (h : 0 ≤ i) (h2 : i < xs.length) : ∃ x, x ∈ xs ∧ L2.atI (xs.map f) i = some (f x) := by
  obtain ⟨x, h3, h4⟩ := atI_ok (xs := xs.map f) h (by rw [List.length_map]; exact h2)
  rw [List.getElem?_map] at h4
  obtain ⟨y, h5, h6⟩ := Option.map_eq_some_iff.mp h4
  exact ⟨y, List.mem_of_getElem? h5, by rw [h3, ← h6]⟩
theorem mb0 (S : Store) (p : Int × Int) : idx S (.b (mbB p)) (.b (.int 0)) = some (.b (.int p.1)) := rfl
theorem mb1 (S : Store) (p : Int × Int) : idx S (.b (mbB p)) (.b (.int 1)) = some (.b (.int p.2)) := rfl
theorem four_at {a b c d i : Int} (h : 0 ≤ i) (h2 : i < 4) : ∃ x, L2.atI [B.int a, B.int b, B.int c, B.int d] i = some (.int x) := by
  obtain ⟨x, h1, _⟩ := atI_int (xs := [a, b, c, d]) h h2
  exact ⟨x, h1⟩
theorem spoilt_w (k b : Nat) (S : Store) (ms : Mb) (y : Int) (hy : 0 ≤ y) (hl : ms.length ≤ 900) (hp : 1 ≤ ms.length) (Q : D → Store → Prop) (hQ : ∀ ms2 : Mb, ms2.length ≤ 1000 → Q (.b (mbT ms2)) S) : Wc T (k + 1) b 1004 [.b (mbT ms), .b (.int y)] S Q := by
  refine wc_of (fd := f_l_law_spoilt) rfl rfl ?_
  unfold f_l_law_spoilt
  have d12 : divOk 12 = true := by decide
  have d144 : divOk 144 = true := by decide
  obtain ⟨ki, hki⟩ : ∃ ki, ki = y % 12 := ⟨_, rfl⟩
  have k1 : 0 ≤ ki := by omega
  have k2 : ki < 12 := by omega
  obtain ⟨q, hq⟩ : ∃ q, q = y / 144 := ⟨_, rfl⟩
  have q1 : 0 ≤ q := by omega
  obtain ⟨at', hat⟩ : ∃ a, a = y / 12 % (ms.length : Int) := ⟨_, rfl⟩
  have a1 : 0 ≤ at' := by rw [hat]; exact Int.emod_nonneg _ (by omega)
  have a2 : at' < (ms.length : Int) := by rw [hat]; exact Int.emod_lt_of_pos _ (by omega)
  have hlt : ∀ S, bi S .list true [.b (mbT ms)] = some (.ref S.length, S ++ [.lst (ms.map mbB)]) := fun S => by
    unfold mbT
    rw [list_tupV]
    unfold newL
    rw [if_pos (by rw [List.length_map]; unfold SZ; omega), if_pos rfl]
  have hS := last_at (S := S) (o := O.lst (ms.map mbB))
  have hlen : bi (S ++ [O.lst (ms.map mbB)]) .len false [.ref S.length] = some (.b (.int ms.length), S ++ [O.lst (ms.map mbB)]) := by
    rw [len_ref hS, List.length_map]
  have hpos : (0 : Int) < (ms.length : Int) := by omega
  refine ws_open fun r' hr' => ?_
  simp [start, ← hki]
  subst hr'
  refine ws_open fun r' hr' => ?_
  simp [hlt]
  subst hr'
  refine ws_open fun r' hr' => ?_
  simp [hlen, d12]
  refine ⟨by omega, ?_⟩
  rw [← hat]
  subst hr'
  -- 0
  refine ws_open fun r' hr' => ?_
  simp
  by_cases c0 : ki = 0
  · simp [c0, ws_cons, mkTup, allB]
    exact hQ [] (by simp)
  simp [c0]
  subst hr'
  refine ws_open fun r' hr' => ?_
  simp
  by_cases c1 : ki = 1
  · have e1 : lstD (S ++ [O.lst (ms.map mbB)]) (.ref S.length) = some (ms.map mbB) := lstD_refV hS
    simp [c1, ws_cons, e1, tup_lstV]
    have := hQ ms.reverse (by simp; omega)
    unfold mbT at this
    simpa using this
  simp [c1]
  subst hr'
  refine ws_open fun r' hr' => ?_
  simp
  obtain ⟨p, hp1, hp2⟩ := atI_mapV (f := mbB) a1 a2
  have ia : idx (S ++ [O.lst (ms.map mbB)]) (.ref S.length) (.b (.int at')) = some (.b (mbB p)) := by
    rw [idx_st hS, hp2]
    rfl
  by_cases c2 : ki = 2
  · have hb := bin_rl (ys := [mbB p]) hS (by rw [List.length_map]; unfold SZ; simp; omega)
    simp [c2, ws_cons, ia, newL, allB, hb, tup_lstV]
    have := hQ (ms ++ [p]) (by simp; omega)
    unfold mbT at this
    simpa using this
  simp [c2]
  subst hr'
  -- 3
  have tail : ∀ (ms2 : Mb), ms2.length = ms.length → Ws (par T k S.length) [(.iff (.cmp .eq (.v 2) (.k (.int 4))) [(.seti (.v 3) (.k (.int 0)) (.tup [(.bin .sub (.neg (.k (.int 1))) (.bin .mod (.bin .fdiv (.v 1) (.k (.int 144))) (.k (.int 2)))), (.idx (.idx (.v 3) (.k (.int 0))) (.k (.int 1)))]))] []), (.iff (.cmp .eq (.v 2) (.k (.int 5))) [(.ret (.bi .tuple false [(.lc false (.n 5) .r1 [(.bin .add (.k (.int 63)) (.bin .mod (.bin .fdiv (.v 1) (.k (.int 144))) (.k (.int 4))))] (.k (.bl true)) (.tup [(.v 5), (.bin .add (.k (.int 1)) (.bin .mod (.bi .int false [(.v 5)]) (.k (.int 3))))]) [5])]))] []), (.ret (.bi .tuple false [(.v 3)]))]
      [some (.b (mbT ms)), some (.b (.int y)), some (.b (.int ki)), some (.ref S.length), some (.b (.int at')), none] (S ++ [O.lst (ms2.map mbB)]) (Ret true S.length Q) := by
    intro ms2 hl2
    have hS2 := last_at (S := S) (o := O.lst (ms2.map mbB))
    refine ws_open fun r' hr' => ?_
    simp
    by_cases c4 : ki = 4
    · obtain ⟨p, hp1, hp2⟩ := atI_mapV (f := mbB) (xs := ms2) (i := 0) (by decide) (by omega)
      have i0 : idx (S ++ [O.lst (ms2.map mbB)]) (.ref S.length) (.b (.int 0)) = some (.b (mbB p)) := by
        rw [idx_st hS2, hp2]
        rfl
      have st : ∀ v, seti (S ++ [O.lst (ms2.map mbB)]) (.ref S.length) (.b (.int 0)) (.b (mbB v)) = some (S ++ [O.lst ((ms2.set 0 v).map mbB)]) := fun v => by
        rw [seti_st hS2, ixN_okV (by decide) (by rw [List.length_map]; omega)]
        show some ((S ++ [O.lst (ms2.map mbB)]).set S.length (.lst _)) = _
        rw [last_set, List.map_set]
        rfl
      simp [c4, ws_cons, d144, i0, mb1, mkTup, allB, SZ, ← hq]
      rw [show B.tup [B.int (-1 - q % 2), B.int p.2] = mbB (-1 - q % 2, p.2) from rfl, st, wo_some]
      subst hr'
      have hS3 := last_at (S := S) (o := O.lst ((ms2.set 0 (-1 - q % 2, p.2)).map mbB))
      have hq2 := hQ (ms2.set 0 (-1 - q % 2, p.2)) (by rw [List.length_set]; omega)
      unfold mbT at hq2
      rw [List.map_set] at hS3 hq2
      have tr := tup_refV (m := false) hS3
      simp [ws_cons, tr]
      exact hq2
    simp [c4]
    subst hr'
    refine ws_open fun r' hr' => ?_
    simp
    by_cases c5 : ki = 5
    · rw [if_pos c5]
      refine ws_open fun r'' hr'' => ?_
      obtain ⟨n, hn⟩ : ∃ n : Nat, (n : Int) = 63 + q % 4 := ⟨(63 + q % 4).toNat, by omega⟩
      rw [wx_ret, we_bi, wes_cons]
      refine we_lcP (xs := rngB 0 n) (ds := [.int (n : Int)]) (fun _ => true) (fun x => (match x with
        | .int a => mbB (a, 1 + a % 3)
        | _ => .non)) (fun Q h => by simp [d144, ← hq, ← hn]; exact h) (items_r1 (by omega)) (by rw [rngB_len]; unfold SZ; omega) (fun z hz => ?_) ?_
      · obtain ⟨j, hj⟩ := List.getElem?_of_mem hz
        obtain ⟨hjn, rfl⟩ := rngB_at hj
        rw [Int.zero_add]
        show Wo' (some _) _
        rw [wo_some, we_k]
        refine ⟨rfl, rfl, fun _ => ?_⟩
        simp [wipe, mkTup, allB, SZ]
        rfl
      rw [rng_two (L := 0) (fun a : Nat => mbB ((a : Int), 1 + (a : Int) % 3)) _ (fun _ => rfl), wes_nil, tup_lstV, wo_some]
      have := hQ ((List.range n).map fun a : Nat => ((a : Int), 1 + (a : Int) % 3)) (by simp; omega)
      unfold mbT at this
      rw [List.map_map] at this
      simp
      exact this
    rw [if_neg c5]
    subst hr'
    have tr := tup_refV (m := false) hS2
    simp [ws_cons, tr]
    exact hQ ms2 (by omega)
  refine ws_open fun r' hr' => ?_
  simp
  by_cases c3 : ki = 3
  · obtain ⟨v, hv⟩ := four_at (a := 0) (b := 1000001) (c := -5) (d := 1000000) (i := q % 4) (by omega) (by omega)
    have iv : ∀ S : Store, idx S (.b (.lst [.int 0, .int 1000001, .int (-5), .int 1000000])) (.b (.int (q % 4))) = some (.b (.int v)) := fun S => by
      rw [idx_lst, hv]
      rfl
    have st : ∀ v, seti (S ++ [O.lst (ms.map mbB)]) (.ref S.length) (.b (.int at')) (.b (mbB v)) = some (S ++ [O.lst ((ms.set at'.toNat v).map mbB)]) := fun v => by
      rw [seti_st hS, ixN_okV a1 (by rw [List.length_map]; exact a2)]
      show some ((S ++ [O.lst (ms.map mbB)]).set S.length (.lst _)) = _
      rw [last_set, List.map_set]
    rw [if_pos c3]
    refine ws_open fun r'' hr'' => ?_
    simp [d144, ia, mb0, mkTup, allB, SZ, newL, ← hq, iv]
    rw [show B.tup [B.int p.1, B.int v] = mbB (p.1, v) from rfl, st, wo_some]
    subst hr'' hr'
    simp
    have t := tail (ms.set at'.toNat (p.1, v)) (by rw [List.length_set])
    rw [List.map_set] at t
    exact t
  · rw [if_neg c3]
    subst hr'
    exact tail ms rfl
end G
namespace G
open M
def keysB (w : Int) (L : Nat) (K : List Int) : List B := K.map fun s => signB w s L
def pubsK (w : Int) (L : Nat) (K : List Int) : List Int := K.map fun s => pubk w s L
structure KeysOk (w : Int) (L : Nat) (K : List Int) : Prop where
  pos : 1 ≤ K.length
  le : K.length ≤ 4
  lv : L ≤ 1
  sm : ∀ s ∈ K, Sm s
  nd : (pubsK w L K).Nodup
theorem keys_w (k b : Nat) (S : Store) (w x : Int) (h0 : 0 ≤ w) (hw : w ≤ 128) (hx : 0 ≤ x) (Q : D → Store → Prop) (hQ : ∀ (L : Nat) (K : List Int), KeysOk w L K → Q (.b (.lst (keysB w L K))) S) :
    Wc T (k + 8) b 1003 [.b (hsh w), .b (.int x)] S Q := by
  refine wc_of (fd := f_l_law_keys) rfl rfl ?_
  unfold f_l_law_keys
  have d16 : divOk 16 = true := by decide
  have d4 : divOk 4 = true := by decide
  obtain ⟨L, hL⟩ : ∃ L : Nat, (L : Int) = x / 4 % 2 := ⟨(x / 4 % 2).toNat, by omega⟩
  have hL1 : L ≤ 1 := by omega
  obtain ⟨c, hc⟩ : ∃ c : Int, c = x / 16 % 100003 := ⟨_, rfl⟩
  have c1 : 0 ≤ c := by omega
  have c2 : c < 100003 := by omega
  obtain ⟨n, hn⟩ : ∃ n : Nat, (n : Int) = 1 + x % 4 := ⟨(1 + x % 4).toNat, by omega⟩
  refine ws_open fun r' hr' => ?_
  simp [start, newL, allB]
  subst hr'
  refine ws_open fun r' hr' => ?_
  simp [newL, allB]
  subst hr'
  refine ws_open fun r' hr' => ?_
  refine wx_forN (k := .r1) (ds := [.int (n : Int)]) (xs := rngB 0 n) (fun Q h => by simp [← hn]; exact h) (items_r1 (by omega)) (fun j σ1 S1 => ∃ K : List Int, S1 = S ++ O.lst (keysB w L K) :: O.lst ((pubsK w L K).map B.int) :: [] ∧ K.length ≤ j ∧ (0 < j → 1 ≤ K.length) ∧ (∀ s ∈ K, Sm s) ∧ (pubsK w L K).Nodup ∧ ∃ x4 x5, σ1 = [some (.b (hsh w)), some (.b (.int x)), some (.ref S.length), some (.ref (S.length + 1)), x4, x5]) ⟨[], rfl, by simp, fun h => by omega, fun s h => by simp at h, by unfold pubsK; simp, none, none, rfl⟩ ?_ ?_
  · rintro j y σ1 S1 hy ⟨K, rfl, h1, h2, h3, h4, x4, x5, rfl⟩
    obtain ⟨hj, rfl⟩ := rngB_at hy
    rw [Int.zero_add]
    show Wo' (some ([some (.b (hsh w)), some (.b (.int x)), some (.ref S.length), some (.ref (S.length + 1)), some (.b (.int (j : Int))), x5] : Sl)) _
    rw [wo_some]
    refine ws_open fun q' hq' => ?_
    have hsm : Sm (c + 3 * (j : Int)) := by unfold Sm; omega
    rw [wx_set]
    refine make_signer (k := k) (w := w) (sec := c + 3 * (j : Int)) (L := L) (fun Q h => by rw [we_v rfl]; exact h) (fun Q h => ?_) (fun Q h => ?_) h0 hw hsm (by omega) ?_
    · simp [d16, ← hc]
      exact ⟨mulOk_sm (by omega), h⟩
    · simp [d4, ← hL]
      exact h
    subst hq'
    simp only [nx_nx, List.set]
    refine ws_open fun q' hq' => ?_
    have hS0 := at_mid (S := S) (o := O.lst (keysB w L K)) (J := [O.lst ((pubsK w L K).map B.int)])
    have hS1 := at_mid1 (S := S) (o := O.lst (keysB w L K)) (p := O.lst ((pubsK w L K).map B.int)) (J := [])
    have g25 : ∀ k b S, getf (par T k b).fo S (.b (signB w (c + 3 * (j : Int)) L)) 25 = some (.b (.int (pubk w (c + 3 * (j : Int)) L))) := fun _ _ _ => rfl
    rw [wx_iff, we_cmp, we_att, we_v rfl, g25, wo_some, we_v rfl, nin_r hS1, wo_some]
    show Wo' (some _) _
    rw [wo_some]
    cases e : decide (pubk w (c + 3 * (j : Int)) L ∈ pubsK w L K) with
    | true =>
      have hm := of_decide_eq_true e
      rw [if_neg (by decide)]
      subst hq'
      simp
      refine ⟨K, ⟨rfl, rfl⟩, by omega, ?_, h3, h4⟩
      cases K with
      | nil => simp [pubsK] at hm
      | cons s K => simp
    | false =>
      have hm := of_decide_eq_false e
      rw [if_pos (by decide)]
      have a0 := mt_app hS0 (by unfold keysB; rw [List.length_map]; unfold SZ; omega) (signB w (c + 3 * (j : Int)) L)
      rw [set_mid] at a0
      have hS1' := at_mid1 (S := S) (o := O.lst (keysB w L K ++ [signB w (c + 3 * (j : Int)) L])) (p := O.lst ((pubsK w L K).map B.int)) (J := [])
      have a1 := mt_app hS1' (by unfold pubsK; rw [List.length_map, List.length_map]; unfold SZ; omega) (.int (pubk w (c + 3 * (j : Int)) L))
      rw [set_mid1] at a1
      refine ws_open fun q2 hq2 => ?_
      rw [wx_ex, we_mt, we_v rfl]
      simp only [wes_cons, wes_nil]
      rw [we_v rfl]
      refine ⟨rfl, ?_⟩
      rw [a0, wo_some, nx_nx]
      subst hq2
      refine ws_open fun q2 hq2 => ?_
      rw [wx_ex, we_mt, we_v rfl]
      simp only [wes_cons, wes_nil]
      rw [we_att, we_v rfl, g25, wo_some]
      refine ⟨rfl, ?_⟩
      rw [a1, wo_some, nx_nx]
      subst hq2 hq'
      simp
      refine ⟨K ++ [c + 3 * (j : Int)], ⟨?_, ?_⟩, by simp; omega, by simp, ?_, ?_⟩
      · unfold keysB
        rw [List.map_append]
        rfl
      · unfold pubsK
        rw [List.map_append, List.map_append]
        rfl
      · intro s hs
        rcases List.mem_append.mp hs with h | h
        · exact h3 s h
        · rw [List.mem_singleton] at h
          exact h ▸ hsm
      · unfold pubsK at h4 hm ⊢
        rw [List.map_append, List.nodup_append]
        refine ⟨h4, by simp, fun a ha b hb => ?_⟩
        rw [List.map_singleton, List.mem_singleton] at hb
        rw [hb]
        intro he
        exact hm (he ▸ ha)
  rintro σ1 S1 ⟨K, rfl, h1, h2, h3, h4, x4, x5, rfl⟩
  rw [rngB_len] at h1 h2
  rw [nx_nx]
  subst hr'
  simp only [ws_cons, wx_ret]
  rw [we_v rfl]
  simp
  rw [ret_ref at_mid (Nat.le_refl _)]
  rw [List.take_left]
  exact hQ L K ⟨h2 (by omega), by omega, hL1, h3, h4⟩
end G
namespace G
open M
theorem sigOf_len (w sec : Int) (L i : Nat) (msg : Int) : (sigOf w sec L i msg).length = 1 + nch w + L := by
  unfold sigOf
  simp
  omega
theorem app_cons {S J : Store} {o x : O} : (S ++ o :: J) ++ [x] = S ++ o :: (J ++ [x]) := by simp
abbrev slV (ky msg z : D) (n : Nat) (r : Int) (x5 x6 x7 x8 x9 x10 : Option D) : Sl := [some ky, some msg, some z, some (.ref n), some (.b (.int r)), x5, x6, x7, x8, x9, x10]
theorem votes_w (k b : Nat) (S : Store) (w msg z : Int) (L : Nat) (K : List Int) (h0 : 0 ≤ w) (hw : w ≤ 128) (hK : KeysOk w L K) (hz : 0 ≤ z) (Q : D → Store → Prop)
    (hQ : ∀ vs : Vt, vs.length ≤ 100 → (∀ v ∈ vs, v.2.length ≤ 100) → Q (.b (vtT vs)) S) :
    Wc T (k + 4) b 1006 [.b (.lst (keysB w L K)), .b (.int msg), .b (.int z)] S Q := by
  refine wc_of (fd := f_l_law_votes) rfl rfl ?_
  unfold f_l_law_votes
  have d9 : divOk 9 = true := by decide
  have d99 : divOk 99 = true := by decide
  have d11 : divOk 11 = true := by decide
  have hKl := hK.pos
  have hKl4 := hK.le
  have hL1 := hK.lv
  have hn := nch_le hw
  have klen : (keysB w L K).length = K.length := by unfold keysB; rw [List.length_map]
  have kat : ∀ (S : Store) (i : Int), 0 ≤ i → i < (K.length : Int) → ∃ s, s ∈ K ∧ idx S (.b (.lst (keysB w L K))) (.b (.int i)) = some (.b (signB w s L)) := fun S i i1 i2 => by
    obtain ⟨s, hs, e⟩ := atI_mapV (f := fun s => signB w s L) i1 i2
    refine ⟨s, hs, ?_⟩
    unfold keysB
    rw [idx_lst, e]
    rfl
  have g25 : ∀ s k b S, getf (par T k b).fo S (.b (signB w s L)) 25 = some (.b (.int (pubk w s L))) := fun _ _ _ _ => rfl
  have c29 : ∀ s S, clsOf S 29 (.b (signB w s L)) = some 4 := fun _ _ => rfl
  have me58 : T.meth 4 29 = some 58 := rfl
  refine ws_open fun r' hr' => ?_
  simp [start, newL, allB]
  subst hr'
  refine ws_open fun r' hr' => ?_
  simp
  subst hr'
  refine ws_open fun r' hr' => ?_
  refine wx_forN (k := .r1) (ds := [.int ((K.length + 2 : Nat) : Int)]) (xs := rngB 0 (K.length + 2)) (fun Q h => by simp [klen]; exact h) (items_r1 (by omega)) (fun j σ1 S1 => ∃ (vs : Vt) (J : Store) (r : Int), S1 = S ++ O.lst (vs.map vtB) :: J ∧ 0 ≤ r ∧ vs.length ≤ j ∧ (∀ v ∈ vs, v.2.length ≤ 100) ∧ ∃ x5 x6 x7 x8 x9 x10, σ1 = slV (.b (.lst (keysB w L K))) (.b (.int msg)) (.b (.int z)) S.length r x5 x6 x7 x8 x9 x10) ⟨[], [], z, rfl, hz, by simp, fun v h => by simp at h, none, none, none, none, none, none, rfl⟩ ?_ ?_
  · rintro j y σ1 S1 hy ⟨vs, J, r, rfl, h1, h2, h3, x5, x6, x7, x8, x9, x10, rfl⟩
    obtain ⟨hj, rfl⟩ := rngB_at hy
    rw [Int.zero_add]
    show Wo' (some (slV (.b (.lst (keysB w L K))) (.b (.int msg)) (.b (.int z)) S.length r (some (.b (.int (j : Int)))) x6 x7 x8 x9 x10)) _
    rw [wo_some]
    obtain ⟨U, hU⟩ : ∃ U, U = S ++ O.lst (vs.map vtB) :: J := ⟨_, rfl⟩
    rw [← hU]
    have hkp : (0 : Int) < (K.length : Int) := by omega
    obtain ⟨s, hs, es⟩ := kat U ((j : Int) % (K.length : Int)) (Int.emod_nonneg _ (by omega)) (Int.emod_lt_of_pos _ hkp)
    refine ws_open fun q' hq' => ?_
    simp [klen, es]
    refine ⟨by omega, ?_⟩
    subst hq'
    refine ws_open fun q' hq' => ?_
    obtain ⟨ki, hki⟩ : ∃ ki, ki = r % 9 := ⟨_, rfl⟩
    simp [← hki]
    subst hq'
    refine ws_open fun q' hq' => ?_
    rw [wx_set, we_bi, wes_cons, we_meth, we_v rfl, c29, wo_some, me58, wo_some]
    simp only [wes_cons, wes_nil]
    rw [we_k]
    have hmsg : ∃ m2 : Int, idx U (.b (.lst [.int msg, .int msg, .int 3])) (.b (.int ((if decide (ki = 1) = true then 1 else 0) * 2))) = some (.b (.int m2)) := by
      rw [idx_lst]
      by_cases h : ki = 1
      · refine ⟨3, ?_⟩
        simp [h]
        rfl
      · refine ⟨msg, ?_⟩
        simp [h]
    obtain ⟨m2, hm2⟩ := hmsg
    have ms2 : mulOk (if decide (ki = 1) = true then 1 else 0) 2 = true := mulOk_sm (by decide)
    have im : ∀ {R : D → Store → Prop} {x8 x9 x10 : Option D} {r : Int} {x5 x6 : Option D}, R (.b (.int m2)) U → We (par T (k + 3) S.length) (.idx (.lst false [(.v 1), (.v 1), (.k (.int 3))]) (.bin .mul (.bi .int false [(.cmp .eq (.v 7) (.k (.int 1)))]) (.k (.int 2)))) (slV (.b (.lst (keysB w L K))) (.b (.int msg)) (.b (.int z)) S.length r x5 x6 (some (.b (.int ki))) x8 x9 x10) U R := fun {R x8 x9 x10 r x5 x6} h => by
      rw [we_idx, we_lst]
      simp only [wes_cons, wes_nil]
      rw [we_v rfl, we_v rfl, we_k]
      show Wo' (some [B.int msg, B.int msg, B.int 3]) _
      rw [wo_some]
      show Wo' (some _) _
      rw [wo_some, we_bin, we_bi]
      simp only [wes_cons, wes_nil]
      rw [we_cmp, we_v rfl, we_k]
      show Wo' (some (decide (ki = 1))) _
      rw [wo_some]
      show Wo' (some (D.b (.int (if decide (ki = 1) = true then 1 else 0)), U)) _
      rw [wo_some, we_k, wo_bin, wo_mul]
      refine ⟨ms2, ?_⟩
      try dsimp only
      rw [hm2, wo_some]
      exact h
    refine im ?_
    refine sign_w k _ _ w s m2 L 0 h0 hw (by omega) (Nat.pow_pos (by decide)) _ ?_
    obtain ⟨sg, hsg⟩ : ∃ sg, sg = sigOf w s L 0 m2 := ⟨_, rfl⟩
    have hsl : sg.length = 1 + nch w + L := by rw [hsg, sigOf_len]
    have hnp := nch_pos w
    rw [← hsg]
    rw [list_tupV]
    show Wo' (if (sg.map B.int).length ≤ SZ then (if true = true then some (D.ref U.length, U ++ [O.lst (sg.map B.int)]) else _) else none) _
    rw [if_pos (by rw [List.length_map]; unfold SZ; omega), if_pos rfl, wo_some]
    simp only [nx_nx, slV, List.set]
    subst hq'
    -- the name
    refine ws_open fun q' hq' => ?_
    rw [wx_set, we_att, we_v rfl, g25, wo_some]
    simp only [nx_nx, List.set]
    subst hq'
    refine ws_seq (fun σ2 S2 => S2 = U ++ [O.lst (sg.map B.int)] ∧ ∃ p : Int, σ2 = slV (.b (.lst (keysB w L K))) (.b (.int msg)) (.b (.int z)) S.length r (some (.b (.int (j : Int)))) (some (.b (signB w s L))) (some (.b (.int ki))) (some (.ref U.length)) (some (.b (.int p))) x10) ?_ ?_
    · obtain ⟨s2, _, es2⟩ := kat (U ++ [O.lst (sg.map B.int)]) (r / 9 % (K.length : Int)) (Int.emod_nonneg _ (by omega)) (Int.emod_lt_of_pos _ hkp)
      simp
      intro c
      simp [ws_cons, klen, d9, es2, g25]
      omega
    rintro σ2 S2 ⟨rfl, p, rfl⟩
    refine ws_seq (fun σ2 S2 => ∃ sg2 : List Int, sg2.length = sg.length ∧ S2 = U ++ [O.lst (sg2.map B.int)] ∧ ∃ x10, σ2 = slV (.b (.lst (keysB w L K))) (.b (.int msg)) (.b (.int z)) S.length r (some (.b (.int (j : Int)))) (some (.b (signB w s L))) (some (.b (.int ki))) (some (.ref U.length)) (some (.b (.int p))) x10) ?_ ?_
    · have hS := last_at (S := U) (o := O.lst (sg.map B.int))
      have hlen : bi (U ++ [O.lst (sg.map B.int)]) .len false [.ref U.length] = some (.b (.int sg.length), U ++ [O.lst (sg.map B.int)]) := by
        rw [len_ref hS, List.length_map]
      have hsp : (0 : Int) < (sg.length : Int) := by omega
      obtain ⟨a, ha⟩ : ∃ a, a = r / 9 % (sg.length : Int) := ⟨_, rfl⟩
      have ha1 : 0 ≤ a := by rw [ha]; exact Int.emod_nonneg _ (by omega)
      have ha2 : a < (sg.length : Int) := by rw [ha]; exact Int.emod_lt_of_pos _ hsp
      obtain ⟨v, hv1, hv2⟩ := atI_int (xs := sg) ha1 ha2
      have ia : idx (U ++ [O.lst (sg.map B.int)]) (.ref U.length) (.b (.int a)) = some (.b (.int v)) := by
        rw [idx_st hS, hv1]
        rfl
      obtain ⟨u, hu1, _⟩ := atI_int (xs := [1, -1, 70000]) (i := r / 99 % 3) (by omega) (by simp; omega)
      have iu : ∀ S : Store, idx S (.b (.lst [.int 1, .int (-1), .int 70000])) (.b (.int (r / 99 % 3))) = some (.b (.int u)) := fun S => by
        rw [idx_lst]
        show (L2.atI ([1, -1, 70000].map B.int) _).map _ = _
        rw [hu1]
        rfl
      have st : seti (U ++ [O.lst (sg.map B.int)]) (.ref U.length) (.b (.int a)) (.b (.int (v + u))) = some (U ++ [O.lst ((sg.set a.toNat (v + u)).map B.int)]) := by
        rw [seti_st hS, ixN_okV ha1 (by rw [List.length_map]; exact ha2)]
        show some ((U ++ [O.lst (sg.map B.int)]).set U.length (.lst _)) = _
        rw [last_set, List.map_set]
      simp
      by_cases c : ki = 3
      · rw [if_pos c]
        refine ws_open fun q2 hq2 => ?_
        simp [hlen, d9, ← ha]
        refine ⟨by omega, ?_⟩
        subst hq2
        refine ws_open fun q2 hq2 => ?_
        simp [ia, iu, newL, allB, d99, st]
        subst hq2
        simp
        exact ⟨sg.set a.toNat (v + u), by rw [List.length_set], by rw [List.map_set]⟩
      · rw [if_neg c]
        exact ⟨sg, rfl, rfl⟩
    rintro σ2 S2 ⟨sg2, hsg2, rfl, y10, rfl⟩
    refine ws_seq (fun σ2 S2 => ∃ sg3 : List Int, sg3.length ≤ 100 ∧ S2 = U ++ [O.lst (sg3.map B.int)] ∧ σ2 = slV (.b (.lst (keysB w L K))) (.b (.int msg)) (.b (.int z)) S.length r (some (.b (.int (j : Int)))) (some (.b (signB w s L))) (some (.b (.int ki))) (some (.ref U.length)) (some (.b (.int p))) y10) ?_ ?_
    · have hS := last_at (S := U) (o := O.lst (sg2.map B.int))
      simp
      by_cases c : ki = 4
      · rw [if_pos c]
        have hl2 : (sg2.map B.int).length - 1 < (sg2.map B.int).length := by rw [List.length_map]; omega
        have hp : M.mt (U ++ [O.lst (sg2.map B.int)]) .pop (.ref U.length) [] = some (.b ((sg2.map B.int)[(sg2.map B.int).length - 1]), U ++ [O.lst (sg2.dropLast.map B.int)]) := by
          unfold M.mt
          dsimp only
          rw [hS]
          dsimp only
          rw [List.getElem?_eq_getElem hl2, last_set, List.map_dropLast]
          rfl
        refine ws_open fun q2 hq2 => ?_
        rw [wx_ex, we_mt, we_v rfl, wes_nil]
        refine ⟨?_, ?_⟩
        · rfl
        rw [hp, wo_some, nx_nx]
        subst hq2
        simp
        exact ⟨sg2.dropLast, by rw [List.length_dropLast]; omega, by rw [List.map_dropLast]⟩
      · rw [if_neg c]
        exact ⟨sg2, by omega, rfl⟩
    rintro σ2 S2 ⟨sg3, hsg3, rfl, rfl⟩
    refine ws_seq (fun σ2 S2 => ∃ (vs2 : Vt) (J2 : Store), S2 = S ++ O.lst (vs2.map vtB) :: J2 ∧ vs2.length ≤ j + 1 ∧ (∀ v ∈ vs2, v.2.length ≤ 100) ∧ σ2 = slV (.b (.lst (keysB w L K))) (.b (.int msg)) (.b (.int z)) S.length r (some (.b (.int (j : Int)))) (some (.b (signB w s L))) (some (.b (.int ki))) (some (.ref U.length)) (some (.b (.int p))) y10) ?_ ?_
    · have hS := last_at (S := U) (o := O.lst (sg3.map B.int))
      have tr := tup_refV (m := false) hS
      simp
      by_cases c : ki < 8
      · rw [if_pos c]
        have hV : (U ++ [O.lst (sg3.map B.int)])[S.length]? = some (.lst (vs.map vtB)) := by
          rw [hU, app_cons]
          exact at_mid
        have ap := mt_app hV (by rw [List.length_map]; unfold SZ; omega) (vtB (p, sg3))
        rw [show (U ++ [O.lst (sg3.map B.int)]).set S.length (O.lst (vs.map vtB ++ [vtB (p, sg3)])) = S ++ O.lst (vs.map vtB ++ [vtB (p, sg3)]) :: (J ++ [O.lst (sg3.map B.int)]) by rw [hU, app_cons, set_mid]] at ap
        refine ws_open fun q2 hq2 => ?_
        rw [wx_ex, we_mt, we_v rfl]
        simp only [wes_cons, wes_nil]
        rw [we_tup]
        simp only [wes_cons, wes_nil]
        rw [we_v rfl, we_bi]
        simp only [wes_cons, wes_nil]
        rw [we_v rfl, tr, wo_some]
        refine ⟨by simp [SZ], rfl, ?_⟩
        show Wo' (M.mt (U ++ [O.lst (sg3.map B.int)]) .append (.ref S.length) [.b (vtB (p, sg3))]) _
        rw [ap, wo_some, nx_nx]
        subst hq2
        simp
        refine ⟨vs ++ [(p, sg3)], ?_, by simp; omega, ?_⟩
        · rw [List.map_append]
          rfl
        · intro a c' hv
          rcases List.mem_append.mp hv with h | h
          · exact h3 _ h
          · rw [List.mem_singleton] at h
            cases h
            exact hsg3
      · rw [if_neg c]
        refine ⟨vs, ⟨J ++ [O.lst (sg3.map B.int)], ?_⟩, by omega, fun a c' h => h3 _ h⟩
        rw [hU, app_cons]
    rintro σ2 S2 ⟨vs2, J2, rfl, g1, g2, rfl⟩
    refine ws_open fun q' hq' => ?_
    simp [d11]
    subst hq'
    simp
    exact ⟨vs2, rfl, r / 11, by omega, g1, fun a c h => g2 _ h, rfl⟩
  rintro σ1 S1 ⟨vs, J, r, rfl, h1, h2, h3, x5, x6, x7, x8, x9, x10, rfl⟩
  rw [rngB_len] at h2
  rw [nx_nx]
  subst hr'
  have tr := tup_refV (m := false) (at_mid (S := S) (o := O.lst (vs.map vtB)) (J := J))
  simp [ws_cons, tr]
  exact hQ vs (by omega) h3
end G
namespace G
open M
theorem hdsB_mb : ∀ ms : Mb, hdsB (ms.map mbB) = some (ms.map fun p => (p.1, mbB p))
  | [] => rfl
  | p :: ms => by
    rw [List.map_cons]
    show (hdB (mbB p)).bind (fun i => (hdsB (ms.map mbB)).map ((i, mbB p) :: ·)) = _
    rw [hdsB_mb ms]
    rfl
theorem sortp_mb {ms0 : Mb} (hn : (ms0.map (·.1)).Nodup) (hz : ms0.length ≤ SZ) : ∃ ms : Mb, ms.Perm ms0 ∧ (ms.map (·.1)).Pairwise (· < ·) ∧ ∀ S, bi S .sortp false [.b (.lst (ms0.map mbB))] = some (.b (.lst (ms.map mbB)), S) := by
  obtain ⟨l, hl⟩ : ∃ l : List (Int × (Int × Int)), l = ms0.map fun p => (p.1, p) := ⟨_, rfl⟩
  have hp := sortF_perm l
  have e1 : l.map (·.2) = ms0 := by
    rw [hl, List.map_map]
    exact List.map_id _
  have p2 : ((sortF l).map (·.2)).Perm ms0 := by
    have := hp.map (·.2)
    rw [e1] at this
    exact this
  have e3 : ((sortF l).map (·.2)).map (·.1) = (sortF l).map (·.1) := by
    rw [List.map_map]
    refine List.map_congr_left fun q hq => ?_
    have := hp.mem_iff.mp hq
    rw [hl] at this
    obtain ⟨p, _, rfl⟩ := List.mem_map.mp this
    rfl
  refine ⟨(sortF l).map (·.2), p2, ?_, fun S => ?_⟩
  · have s := List.Pairwise.map (R := fun x y : Int × (Int × Int) => x.1 ≤ y.1) (S := fun a b : Int => a ≤ b) (·.1) (fun a b h => h) (sortF_sorted l)
    rw [← e3] at s
    have nd : (((sortF l).map (·.2)).map (·.1)).Nodup := (p2.map (·.1)).nodup_iff.mpr hn
    exact (s.and nd).imp fun h => by have := h.1; have := h.2; omega
  · show (lsqD S (.b (.lst (ms0.map mbB)))).bind (fun xs => (hdsB xs).bind fun ps => if (ps.map (·.1)).Nodup then newL S false ((sortF ps).map (·.2)) else none) = _
    rw [show lsqD S (.b (.lst (ms0.map mbB))) = some (ms0.map mbB) from rfl, bind_some', hdsB_mb, bind_some']
    have e4 : (ms0.map fun p => (p.1, mbB p)) = l.map fun q => (q.1, mbB q.2) := by
      rw [hl, List.map_map]
      rfl
    have e5 : (ms0.map fun p => (p.1, mbB p)).map (·.1) = ms0.map (·.1) := by
      rw [List.map_map]
      rfl
    rw [e5, if_pos hn, e4, sortF_map]
    unfold newL
    rw [if_pos (by rw [List.length_map, List.length_map, hp.length_eq, hl, List.length_map]; exact hz), if_neg Bool.false_ne_true, List.map_map, List.map_map]
    rfl
theorem mfault_non {ms : Mb} (h1 : 1 ≤ ms.length) (h2 : ms.length ≤ 64) (hs : (ms.map (·.1)).Pairwise (· < ·)) (h0 : ∀ p ∈ ms, 0 ≤ p.1) (hw : ∀ p ∈ ms, 1 ≤ p.2 ∧ p.2 ≤ 1000000) : mfault ms = .non := by
  have e1 : negM ms = false := by
    unfold negM
    rw [List.any_eq_false]
    intro p hp
    have := h0 p hp
    simp
    omega
  have e2 : disM ms = false := by
    unfold disM
    rw [List.any_eq_false]
    intro j hj
    rw [List.mem_range] at hj
    unfold disK
    have hl : (ms.map (·.1)).length = ms.length := List.length_map _
    have := List.pairwise_iff_getElem.mp hs j (j + 1) (by omega) (by omega) (by omega)
    rw [List.getD_eq_getElem?_getD, List.getD_eq_getElem?_getD, List.getElem?_eq_getElem (by omega), List.getElem?_eq_getElem (by omega)]
    simp only [Option.getD_some, ge_iff_le, decide_eq_true_eq]
    omega
  have e3 : wtM ms = true := by
    unfold wtM
    rw [List.all_eq_true]
    exact fun p hp => decide_eq_true (hw p hp)
  unfold mfault
  rw [if_pos ⟨h1, h2⟩, e1, e2, Bool.or_false, if_neg Bool.false_ne_true, e3, if_pos rfl]
def dueF (w msg : Int) (vs : Vt) (x : Int) : Bool := vs.any fun v => decide (v.1 = x) && vfy w x msg v.2
def dueL (w msg : Int) (vs : Vt) (ms : Mb) : List Int := (ms.map (·.1)).filter (dueF w msg vs)
theorem sgn_mem {w msg : Int} {ps : List Int} {x : Int} : ∀ (vs : Vt) (acc : List Int), x ∈ vs.foldl (sgnF w msg ps) acc ↔ x ∈ acc ∨ (x ∈ ps ∧ dueF w msg vs x = true)
  | [], acc => by
    unfold dueF
    simp
  | v :: vs, acc => by
    rw [List.foldl_cons, sgn_mem vs]
    have e : x ∈ sgnF w msg ps acc v ↔ x ∈ acc ∨ (x ∈ ps ∧ (v.1 = x ∧ vfy w x msg v.2 = true)) := by
      unfold sgnF
      split
      · rename_i h
        simp only [Bool.and_eq_true, decide_eq_true_eq, Bool.not_eq_true'] at h
        obtain ⟨h1, h2, h3⟩ := h
        rw [List.mem_append, List.mem_singleton]
        constructor
        · rintro (g | rfl)
          · exact .inl g
          · exact .inr ⟨h1, rfl, h3⟩
        · rintro (g | ⟨_, rfl, _⟩)
          · exact .inl g
          · exact .inr rfl
      · rename_i h
        constructor
        · exact .inl
        · rintro (g | ⟨g1, rfl, g3⟩)
          · exact g
          · by_cases hm : v.1 ∈ acc
            · exact hm
            · exact (h (by rw [decide_eq_true g1, decide_eq_false hm, g3]; rfl)).elim
    rw [e]
    unfold dueF
    rw [List.any_cons, Bool.or_eq_true, Bool.and_eq_true, decide_eq_true_eq]
    constructor
    · rintro ((g | ⟨g1, g2⟩) | ⟨g1, g2⟩)
      · exact .inl g
      · exact .inr ⟨g1, .inl g2⟩
      · exact .inr ⟨g1, .inr g2⟩
    · rintro (g | ⟨g1, g2 | g2⟩)
      · exact .inl (.inl g)
      · exact .inl (.inr ⟨g1, g2⟩)
      · exact .inr ⟨g1, g2⟩
theorem sgn_nodup {w msg : Int} {ps : List Int} : ∀ (vs : Vt) (acc : List Int), acc.Nodup → (vs.foldl (sgnF w msg ps) acc).Nodup
  | [], acc, h => h
  | v :: vs, acc, h => by
    rw [List.foldl_cons]
    refine sgn_nodup vs _ ?_
    unfold sgnF
    split
    · rename_i h2
      simp only [Bool.and_eq_true, decide_eq_true_eq, Bool.not_eq_true', decide_eq_false_iff_not] at h2
      rw [List.nodup_append]
      refine ⟨h, by simp, fun a ha b hb => ?_⟩
      rw [List.mem_singleton] at hb
      rw [hb]
      intro he
      exact h2.2.1 (he ▸ ha)
    · exact h
theorem sgn_eq {w msg : Int} {ms : Mb} {vs : Vt} (hs : (ms.map (·.1)).Pairwise (· < ·)) : sortI (sgnL w msg (ms.map (·.1)) vs) = dueL w msg vs ms := by
  symm
  have hsf : (dueL w msg vs ms).Pairwise (· < ·) := List.Pairwise.filter _ hs
  refine sortI_eq ?_ (hsf.imp fun h => by omega)
  refine (List.perm_ext_iff_of_nodup (hsf.imp fun h => by omega) (sgn_nodup vs [] List.nodup_nil)).mpr fun x => ?_
  rw [sgn_mem]
  unfold dueL
  rw [List.mem_filter]
  simp
theorem sum_bd : ∀ (xs : List Int), (∀ x ∈ xs, 1 ≤ x ∧ x ≤ 9) → 0 ≤ xs.sum ∧ xs.sum ≤ 9 * (xs.length : Int)
  | [], _ => by simp
  | x :: xs, h => by
    have h1 := h x (List.mem_cons_self ..)
    have h2 := sum_bd xs fun y hy => h y (List.mem_cons_of_mem _ hy)
    simp only [List.sum_cons, List.length_cons]
    omega
theorem wgt_bd {ms : Mb} {xs : List Int} (hl : ms.length ≤ 4) (h : ∀ p ∈ ms, 1 ≤ p.2 ∧ p.2 ≤ 9) : 0 ≤ wgtM ms xs ∧ wgtM ms xs ≤ 36 := by
  unfold wgtM
  have h1 := sum_bd ((ms.filter fun p => decide (p.1 ∈ xs)).map (·.2)) fun x hx => by
    obtain ⟨p, hp, rfl⟩ := List.mem_map.mp hx
    exact h p (List.mem_filter.mp hp).1
  have h2 := List.length_filter_le (fun p : Int × Int => decide (p.1 ∈ xs)) ms
  rw [List.length_map] at h1
  omega
theorem tot_bd {ms : Mb} (hl : ms.length ≤ 4) (h : ∀ p ∈ ms, 1 ≤ p.2 ∧ p.2 ≤ 9) : 0 ≤ totM ms ∧ totM ms ≤ 36 := by
  unfold totM
  have h1 := sum_bd (ms.map (·.2)) fun x hx => by
    obtain ⟨p, hp, rfl⟩ := List.mem_map.mp hx
    exact h p hp
  rw [List.length_map] at h1
  omega
theorem eq_tintsV (S : Store) (xs ys : List Int) : eqD S (.b (.tup (xs.map B.int))) (.b (.tup (ys.map B.int))) = some (decide (xs = ys)) := by
  have ok : ∀ (a : List Int), eqOk 12 (.tup (a.map B.int)) = true := fun a => eqOk_ints 11 a
  show (if eqOk 12 (.tup (xs.map B.int)) && eqOk 12 (.tup (ys.map B.int)) then some (eqB (.tup (xs.map B.int)) (.tup (ys.map B.int))) else _) = _
  rw [ok, ok, Bool.and_self, if_pos rfl]
  show some (eqBs _ _) = _
  rw [eqB_ints]
theorem ne_self_t (S : Store) (xs : List Int) : cmp S .ne (.b (.tup (xs.map B.int))) (.b (.tup (xs.map B.int))) = some false := by
  rw [cmp_ne, eq_tintsV]
  simp
theorem ne_self_l (S : Store) (xs : List Int) : cmp S .ne (.b (.lst (xs.map B.int))) (.b (.lst (xs.map B.int))) = some false := by
  rw [cmp_ne, eq_ints]
  simp
theorem ne_self_f (S : Store) (ms : Mb) : cmp S .ne (.b (mfault ms)) (.b (mfault ms)) = some false := by
  unfold mfault
  split
  · split
    · rfl
    · split <;> rfl
  · rfl
end G
namespace G
open M
theorem make_hasher {k b : Nat} {σ : Sl} {S : Store} {e1 : E} {w : Int} {Q : D → Store → Prop} (h1 : ∀ Q : D → Store → Prop, Q (.b (.int w)) S → We (par T (k + 2) b) e1 σ S Q) (hQ : Q (.b (hsh w)) S) : We (par T (k + 2) b) (.make 0 [e1]) σ S Q := by
  rw [we_make (f := 3) (fz := true) rfl, wes_cons]
  refine h1 _ ?_
  rw [wes_nil, if_pos rfl]
  exact hasher_w k S w Q hQ
theorem five_at {i : Int} (h : 0 ≤ i) (h2 : i < 5) : ∃ x : Int, 4 ≤ x ∧ x ≤ 24 ∧ L2.atI [B.int 4, B.int 8, B.int 12, B.int 16, B.int 24] i = some (.int x) := by
  obtain ⟨x, h1, h3⟩ := atI_int (xs := [4, 8, 12, 16, 24]) h h2
  have hm := List.mem_of_getElem? h3
  simp only [List.mem_cons, List.not_mem_nil, or_false] at hm
  refine ⟨x, ?_, ?_, h1⟩ <;> omega
def memM (w x : Int) (L : Nat) (K : List Int) : Mb := K.map fun s => (pubk w s L, 1 + x / (7 + pubk w s L) % 9)
/-- the members of the law, of the signers -/
theorem mems_lc {P : Par} {σ : Sl} {S : Store} {w x : Int} {L : Nat} {K : List Int} (hP : ∀ s f, getf P.fo S (.b (signB w s L)) f = getf T.fo S (.b (signB w s L)) f) (h4 : σ[4]? = some (some (.b (.lst (keysB w L K))))) (h2 : σ[2]? = some (some (.b (.int x)))) (h21 : 21 < σ.length) (hl : K.length ≤ 4) (h0 : 0 ≤ w) (hw : w ≤ 24) {Q : D → Store → Prop} (hQ : Q (.b (.lst ((memM w x L K).map mbB))) S) :
    We P (.lc false (.n 21) .sq [(.v 4)] (.k (.bl true)) (.tup [(.att (.v 21) 25), (.bin .add (.k (.int 1)) (.bin .mod (.bin .fdiv (.v 2) (.bin .add (.k (.int 7)) (.att (.v 21) 25))) (.k (.int 9))))]) [21]) σ S Q := by
  have key : ∀ ys : List B, ys = keysB w L K → ∀ z ∈ ys, ∃ s, s ∈ K ∧ z = signB w s L := fun ys e z hz => by
    rw [e] at hz
    obtain ⟨s, h1, h2⟩ := List.mem_map.mp hz
    exact ⟨s, h1, h2.symm⟩
  refine we_lcP (xs := keysB w L K) (ds := [.lst (keysB w L K)]) (fun _ => true) (fun z => (match z with
    | .ins _ fs => (match fget (fs.map fun q => (q.1, D.b q.2)) 25 with
      | some (.b (.int p)) => mbB (p, 1 + x / (7 + p) % 9)
      | _ => .non)
    | _ => .non)) (fun Q h => by simp only [wes_cons, wes_nil]; rw [we_v h4]; exact h) rfl (by unfold keysB; rw [List.length_map]; unfold SZ; omega) (fun z hz => ?_) ?_
  · obtain ⟨s, hs, rfl⟩ := key _ rfl z hz
    obtain ⟨p, hp⟩ : ∃ p, p = pubk w s L := ⟨_, rfl⟩
    have hpb : 0 ≤ p ∧ p < 2 ^ w.toNat := by rw [hp]; exact dig_bd h0 (by omega) _ _
    have h24 : (2 : Int) ^ w.toNat ≤ 2 ^ 24 := by exact_mod_cast Nat.pow_le_pow_right (by decide) (show w.toNat ≤ 24 by omega)
    have dv : divOk (7 + p) = true := divOk_small (by omega) (Int.le_trans (show 7 + p ≤ 2 ^ 25 by omega) (by exact_mod_cast Nat.pow_le_pow_right (by decide : 2 > 0) (by omega : 25 ≤ 8000)))
    have g : getf P.fo S (.b (signB w s L)) 25 = some (.b (.int p)) := by rw [hP, hp]; rfl
    show Wo' (some _) _
    rw [wo_some, we_k]
    refine ⟨rfl, rfl, fun _ => ?_⟩
    have v21 : ((wipe σ [21]).set 21 (some (D.b (signB w s L))))[21]? = some (some (.b (signB w s L))) := by
      rw [List.getElem?_set_self]
      simp [wipe]
      exact h21
    have v2 : ((wipe σ [21]).set 21 (some (D.b (signB w s L))))[2]? = some (some (.b (.int x))) := by
      rw [List.getElem?_set_ne (by decide)]
      show (σ.set 21 none)[2]? = _
      rw [List.getElem?_set_ne (by decide)]
      exact h2
    rw [we_tup]
    simp only [wes_cons, wes_nil]
    rw [we_att, we_v v21, g, wo_some, we_bin, we_k, we_bin, we_bin, we_v v2, we_bin, we_k, we_att, we_v v21, g, wo_some, wo_bin, wo_add, wo_bin, wo_fdiv]
    refine ⟨dv, ?_⟩
    rw [we_k, wo_bin, wo_mod]
    refine ⟨by decide, ?_⟩
    rw [wo_bin, wo_add]
    refine ⟨by simp [SZ], rfl, ?_⟩
    rw [hp]
    rfl
  · rw [fil_true]
    unfold memM at hQ
    unfold keysB
    rw [List.map_map] at hQ ⊢
    exact hQ
theorem vt_ok (vs : List B) (h : ∀ z ∈ vs, ∃ v : Int × List Int, z = vtB v) : eqOk 12 (.lst vs) = true := by
  show vs.all (eqOk 11) = true
  rw [List.all_eq_true]
  intro z hz
  obtain ⟨v, rfl⟩ := h z hz
  show (eqOk 10 (.int v.1) && (eqOk 10 (.tup (v.2.map B.int)) && true)) = true
  have : eqOk 10 (.tup (v.2.map B.int)) = true := eqOk_ints 9 v.2
  rw [this]
  rfl
theorem ne_nil_vt (S : Store) (vs : List B) (h : ∀ z ∈ vs, ∃ v : Int × List Int, z = vtB v) : cmp S .ne (.b (.lst vs)) (.b (.lst [])) = some (!vs.isEmpty) := by
  rw [cmp_ne]
  have e : eqD S (.b (.lst vs)) (.b (.lst [])) = some vs.isEmpty := by
    show (if eqOk 12 (.lst vs) && eqOk 12 (.lst []) then some (eqB (.lst vs) (.lst [])) else none) = _
    rw [vt_ok vs h, show eqOk 12 (.lst []) = true from rfl, Bool.and_self, if_pos rfl]
    cases vs <;> rfl
  rw [e]
  rfl
def vp (w msg pub : Int) : B → Bool
  | .tup [.int a, .tup xs] => decide (a = pub) && (match intsB xs with
    | some sig => vfy w pub msg sig
    | none => false)
  | _ => false
theorem vp_vt (w msg pub : Int) (v : Int × List Int) : vp w msg pub (vtB v) = (decide (v.1 = pub) && vfy w pub msg v.2) := by
  unfold vtB vp
  simp only [intsB_map]
theorem due_iff (w msg pub : Int) (vs : Vt) : (!(((vs.map vtB).filter (vp w msg pub)).map id).isEmpty) = dueF w msg vs pub := by
  unfold dueF
  induction vs with
  | nil => rfl
  | cons v vs ih =>
    rw [List.map_cons, List.filter_cons, vp_vt, List.any_cons]
    cases decide (v.1 = pub) && vfy w pub msg v.2 with
    | true => rfl
    | false =>
      rw [if_neg Bool.false_ne_true, Bool.false_or]
      exact ih
end G
namespace G
open M
theorem law_w (ns : List Int) (hns : ns.length ≤ 63) : Wc T 100 0 1007 [.b (.scr (ns.map B.int))] [] fun d _ => d = .b (.bl true) := by
  refine wc_of (fd := f_l_law) rfl rfl ?_
  unfold f_l_law
  simp only [start, List.map_cons, List.map_nil, List.length_cons, List.length_nil, if_pos]
  have gw : ∀ w k b S, getf (par T k b).fo S (.b (hsh w)) 0 = some (.b (.int w)) := fun _ _ _ _ => rfl
  have cl2 : ∀ w S, clsOf S 2 (.b (hsh w)) = some 0 := fun _ _ => rfl
  have me4 : T.meth 0 2 = some 4 := rfl
  have d3 : divOk 3 = true := by decide
  have d15 : divOk 15 = true := by decide
  have d13 : divOk 13 = true := by decide
  refine ws_open fun r' hr' => ?_
  rw [wx_set, we_call]
  simp only [wes_cons, wes_nil]
  rw [we_v rfl, we_k]
  refine cells_w 98 _ _ ns hns _ fun cs hcs => ?_
  simp only [nx_nx]
  subst hr'
  have cat : ∀ (S : Store) (j : Nat), j < 3 → idx S (.b (.lst (cs.map B.int))) (.b (.int (j : Int))) = some (.b (.int (cs.getD j 0))) := fun S j hj => idx_lint (by omega)
  have cat0 : ∀ (S : Store), idx S (.b (.lst (cs.map B.int))) (.b (.int 0)) = some (.b (.int (cs.getD 0 0))) := fun S => cat S 0 (by decide)
  have cat1 : ∀ (S : Store), idx S (.b (.lst (cs.map B.int))) (.b (.int 1)) = some (.b (.int (cs.getD 1 0))) := fun S => cat S 1 (by decide)
  have cat2 : ∀ (S : Store), idx S (.b (.lst (cs.map B.int))) (.b (.int 2)) = some (.b (.int (cs.getD 2 0))) := fun S => cat S 2 (by decide)
  refine ws_open fun r' hr' => ?_
  rw [wx_set, we_call]
  simp only [wes_cons, wes_nil]
  rw [we_idx, we_v rfl, we_k]
  try dsimp only
  rw [cat0, wo_some, we_k]
  refine number_w 98 _ _ _ 0 (by decide) _ fun x hx => ?_
  simp only [nx_nx, List.set]
  subst hr'
  refine ws_open fun r' hr' => ?_
  obtain ⟨w, hw4, hw24, hwa⟩ := five_at (i := x / 3 % 5) (by omega) (by omega)
  have hwi : ∀ S : Store, idx S (.b (.lst [.int 4, .int 8, .int 12, .int 16, .int 24])) (.b (.int (x / 3 % 5))) = some (.b (.int w)) := fun S => by
    rw [idx_lst, hwa]
    rfl
  have hw0 : 0 ≤ w := by omega
  have hw128 : w ≤ 128 := by omega
  rw [wx_set]
  refine make_hasher (k := 97) (w := w) (fun Q h => ?_) ?_
  · simp [newL, allB, d3, hwi, SZ]
    exact h
  simp only [nx_nx, List.set]
  subst hr'
  refine ws_open fun r' hr' => ?_
  rw [wx_set, we_call]
  simp only [wes_cons, wes_nil]
  rw [we_v rfl, we_bin, we_v rfl, we_k, wo_bin, wo_fdiv]
  refine ⟨d15, ?_⟩
  refine keys_w 91 _ _ w (x / 15) hw0 hw128 (by omega) _ fun L K hK => ?_
  simp only [nx_nx, List.set]
  subst hr'
  refine ws_open fun r' hr' => ?_
  have hKp := hK.pos
  have hK4 := hK.le
  have m0f : (memM w x L K).map (·.1) = pubsK w L K := by
    unfold memM pubsK
    rw [List.map_map]
    rfl
  have m0l : (memM w x L K).length = K.length := by unfold memM; rw [List.length_map]
  obtain ⟨ms, mp, msrt, hsp⟩ := sortp_mb (ms0 := memM w x L K) (by rw [m0f]; exact hK.nd) (by rw [m0l]; unfold SZ; omega)
  have mlen : ms.length = K.length := by rw [mp.length_eq, m0l]
  have mfact : ∀ p ∈ ms, 0 ≤ p.1 ∧ p.1 < 2 ^ w.toNat ∧ 1 ≤ p.2 ∧ p.2 ≤ 9 := fun p hp => by
    have := mp.mem_iff.mp hp
    unfold memM at this
    obtain ⟨s, _, rfl⟩ := List.mem_map.mp this
    have hpb : 0 ≤ pubk w s L ∧ pubk w s L < 2 ^ w.toNat := dig_bd hw0 hw128 _ _
    refine ⟨hpb.1, hpb.2, ?_⟩
    show 1 ≤ 1 + x / (7 + pubk w s L) % 9 ∧ 1 + x / (7 + pubk w s L) % 9 ≤ 9
    omega
  rw [wx_set, we_bi, wes_cons, we_bi, wes_cons]
  refine mems_lc (w := w) (x := x) (L := L) (K := K) (fun _ _ => rfl) rfl rfl (by simp) hK4 hw0 hw24 ?_
  rw [wes_nil, hsp, wo_some, wes_nil, tup_lstV, wo_some]
  simp only [nx_nx, List.set]
  rw [show B.tup (ms.map mbB) = mbT ms from rfl]
  subst hr'
  refine ws_open fun r' hr' => ?_
  rw [wx_set, we_call]
  simp only [wes_cons, wes_nil]
  rw [we_v rfl, we_call]
  simp only [wes_cons, wes_nil]
  rw [we_idx, we_v rfl, we_k]
  try dsimp only
  rw [cat1, wo_some, we_k]
  refine number_w 98 _ _ _ 1 (by decide) _ fun y hy => ?_
  refine spoilt_w 98 _ _ ms y hy (by omega) (by omega) _ fun ms2 hms2 => ?_
  simp only [nx_nx, List.set]
  subst hr'
  refine ws_open fun r' hr' => ?_
  have hmf : mfault ms = .non := mfault_non (by omega) (by omega) msrt (fun p hp => (mfact p hp).1) fun p hp => by have := mfact p hp; omega
  rw [wx_iff, we_or, we_cmp, we_call]
  simp only [wes_cons, wes_nil]
  rw [we_v rfl]
  refine members_fault_w 98 _ _ ms (by omega) _ ?_
  rw [hmf, we_k]
  show Wo' (some false) _
  rw [wo_some]
  show Wo' (some false) _
  rw [wo_some, if_neg Bool.false_ne_true, we_cmp, we_call]
  simp only [wes_cons, wes_nil]
  rw [we_v rfl]
  refine members_fault_w 98 _ _ ms2 hms2 _ ?_
  rw [we_call]
  simp only [wes_cons, wes_nil]
  rw [we_v rfl]
  refine law_fault_w 98 _ _ ms2 hms2 _ ?_
  rw [ne_self_f, wo_some]
  show Wo' (some false) _
  rw [wo_some, if_neg Bool.false_ne_true]
  simp only [ws_nil, nx_nx]
  subst hr'
  refine ws_open fun r' hr' => ?_
  simp [len_mbT, newL, allB]
  subst hr'
  obtain ⟨A, hA⟩ : ∃ A : Sl, A = [some (.b (.scr (ns.map B.int))), some (.b (.lst (cs.map B.int))), some (.b (.int x)), some (.b (hsh w)), some (.b (.lst (keysB w L K))), some (.b (mbT ms)), some (.b (mbT ms2))] := ⟨_, rfl⟩
  have hAl : A.length = 7 := by rw [hA]; rfl
  refine ws_open fun r' hr' => ?_
  refine wx_forN (k := .sq) (ds := [mbT ms]) (xs := ms.map mbB) (fun Q h => by simpa using h) rfl (fun j σ1 S1 => S1 = [] ∧ ∃ v8 v9, σ1 = A ++ [some (.b (.lst ((mnumJ ms j).map B.int))), v8, v9, none, none, none, none, none, none, none, none, none, none, none, none, none]) ⟨rfl, none, none, by rw [hA]; rfl⟩ ?_ ?_
  · rintro j y σ1 S1 hy ⟨rfl, v8, v9, rfl⟩
    rw [List.getElem?_map] at hy
    obtain ⟨p, hp, rfl⟩ := Option.map_eq_some_iff.mp hy
    rw [hA]
    show Wo' (asg (.t [.n 8, .n 9]) (.tup [.int p.1, .int p.2]) _) _
    rw [asg2, wo_some]
    refine ws_open fun q' hq' => ?_
    have hb : ∀ S : Store, bin S .add (.b (.lst ((mnumJ ms j).map B.int))) (.b (.lst [.int p.1, .int p.2])) = some (.b (.lst ((mnumJ ms j).map B.int ++ [.int p.1, .int p.2]))) := fun S => bin_ll (by rw [List.length_map]; have := mnumJ_len ms j; unfold SZ; simp; omega)
    simp [newL, allB, SZ, hb]
    subst hq'
    simp
    unfold mnumJ
    rw [List.take_add_one, hp]
    simp
  rintro σ1 S1 ⟨rfl, v8, v9, rfl⟩
  have hmn : mnumJ ms ms.length = mnum ms := by unfold mnumJ; rw [List.take_length]; rfl
  rw [List.length_map, hmn, nx_nx]
  subst hr'
  refine ws_open fun r' hr' => ?_
  have hmsm : ∀ z ∈ mnum ms, Sm z := fun z hz => by
    unfold mnum at hz
    rcases List.mem_cons.mp hz with rfl | hz
    · exact Sm.nat (by omega)
    · obtain ⟨p, hp, hz⟩ := List.mem_flatMap.mp hz
      obtain ⟨f1, f2, f3, f4⟩ := mfact p hp
      simp only [List.mem_cons, List.not_mem_nil, or_false] at hz
      rcases hz with rfl | rfl
      · exact bd_sm hw128 f2
      · unfold Sm
        omega
  have hmnl : (mnum ms).length ≤ 1000 := by rw [mnum_len]; omega
  rw [hA, wx_iff, we_or, we_cmp, we_call]
  simp only [wes_cons, wes_nil, List.cons_append, List.nil_append]
  rw [we_v rfl]
  refine members_numbers_w 98 _ _ ms (by omega) _ ?_
  rw [we_v rfl, ne_self_l, wo_some]
  show Wo' (some false) _
  rw [wo_some, if_neg Bool.false_ne_true, we_or, we_cmp, we_k, we_k]
  show Wo' (some false) _
  rw [wo_some]
  show Wo' (some false) _
  rw [wo_some, if_neg Bool.false_ne_true, we_not, we_call]
  simp only [wes_cons, wes_nil]
  rw [we_call]
  simp only [wes_cons, wes_nil]
  rw [we_v rfl, we_v rfl]
  refine members_root_w 96 _ _ w ms hw128 (by omega) hmsm _ ?_
  rw [we_meth, we_v rfl, cl2, wo_some, me4, wo_some]
  simp only [wes_cons, wes_nil]
  rw [we_k, we_v rfl]
  refine digest_w 97 _ _ w 9 _ (mnum ms) (.inl rfl) hw128 (Sm.lim hmsm (by omega)) _ ?_
  refine is_w 98 _ _ _ _ _ ?_
  rw [decide_eq_true rfl]
  show Wo' (some true) _
  rw [wo_some]
  show Wo' (some false) _
  rw [wo_some, if_neg Bool.false_ne_true]
  simp only [ws_nil, nx_nx]
  subst hr'
  refine ws_open fun r' hr' => ?_
  rw [wx_set, we_call]
  simp only [wes_cons, wes_nil]
  rw [we_idx, we_v rfl, we_k]
  try dsimp only
  rw [cat2, wo_some, we_k]
  refine number_w 98 _ _ _ 2 (by decide) _ fun z hz => ?_
  simp only [nx_nx, List.set]
  subst hr'
  refine ws_open fun r' hr' => ?_
  have sh : shlOk 1 w = true := shlOk_small (by omega) (by omega) (by decide)
  have pw : (0 : Int) < 2 ^ w.toNat := Int.pow_pos (by decide)
  simp [d13, gw, sh]
  refine ⟨by omega, ?_⟩
  obtain ⟨msg, hmsg⟩ : ∃ msg, msg = z / 13 % 2 ^ w.toNat := ⟨_, rfl⟩
  rw [← hmsg]
  subst hr'
  refine ws_open fun r' hr' => ?_
  rw [wx_set, we_call]
  simp only [wes_cons, wes_nil]
  rw [we_v rfl, we_v rfl, we_v rfl]
  refine votes_w 95 _ _ w msg z L K hw0 hw128 hK hz _ fun vs hv1 hv2 => ?_
  simp only [nx_nx, List.set]
  subst hr'
  refine ws_open fun r' hr' => ?_
  have mbn : ∀ (p : Int × Int) (S : Store), idx S (.b (mbB p)) (.b (.int 0)) = some (.b (.int p.1)) := fun _ _ => rfl
  have mbn1 : ∀ (p : Int × Int) (S : Store), idx S (.b (mbB p)) (.b (.int 1)) = some (.b (.int p.2)) := fun _ _ => rfl
  obtain ⟨mk, hmk⟩ : ∃ mk : Mb, mk = ms.filter fun p => decide ((p.1 + z) % 5 > 0) := ⟨_, rfl⟩
  have hmkl : mk.length ≤ 4 := by rw [hmk]; have := List.length_filter_le (fun p : Int × Int => decide ((p.1 + z) % 5 > 0)) ms; omega
  rw [wx_set]
  refine we_lcP (xs := ms.map mbB) (ds := [mbT ms]) (fun x => (match x with
    | .tup [.int a, _] => decide ((a + z) % 5 > 0)
    | _ => false)) id (fun Q h => by simp only [wes_cons, wes_nil]; rw [we_v rfl]; exact h) rfl (by rw [List.length_map]; unfold SZ; omega) (fun y hy => ?_) ?_
  · obtain ⟨p, hp, rfl⟩ := List.mem_map.mp hy
    show Wo' (some _) _
    rw [wo_some]
    simp only [wipe, List.set]
    rw [we_cmp, we_bin, we_bi]
    simp only [wes_cons, wes_nil]
    rw [we_bin, we_idx, we_v rfl, we_k]
    try dsimp only
    rw [mbn, wo_some, we_v rfl, wo_bin, wo_add]
    show Wo' (some (D.b (.int (p.1 + z)), _)) _
    rw [wo_some, we_k, wo_bin, wo_mod]
    refine ⟨by decide, ?_⟩
    rw [we_k]
    show Wo' (some (decide ((p.1 + z) % 5 > 0))) _
    rw [wo_some]
    refine ⟨rfl, rfl, fun _ => ?_⟩
    rw [we_v rfl]
    exact ⟨rfl, rfl⟩
  rw [List.map_id, List.filter_map]
  rw [show List.filter ((fun x => (match x with
    | .tup [.int a, _] => decide ((a + z) % 5 > 0)
    | _ => false)) ∘ mbB) ms = mk by rw [hmk]; rfl]
  simp only [nx_nx, List.set]
  subst hr'
  have mks : (mk.map (·.1)).Pairwise (· < ·) := by
    rw [hmk]
    have h1 := List.pairwise_map.mp msrt
    exact List.pairwise_map.mpr (List.Pairwise.filter _ h1)
  refine ws_open fun r' hr' => ?_
  rw [wx_set, we_lst, wes_nil]
  show Wo' (some []) _
  rw [wo_some]
  show Wo' (some (D.ref 0, [O.lst []])) _
  rw [wo_some]
  simp only [nx_nx, List.set]
  subst hr'
  obtain ⟨C, hC⟩ : ∃ C : Sl, C = [some (.b (.scr (ns.map B.int))), some (.b (.lst (cs.map B.int))), some (.b (.int x)), some (.b (hsh w)), some (.b (.lst (keysB w L K))), some (.b (mbT ms)), some (.b (mbT ms2)), some (.b (.lst ((mnum ms).map B.int)))] := ⟨_, rfl⟩
  refine ws_open fun r' hr' => ?_
  refine wx_forN (k := .sq) (ds := [.lst (mk.map mbB)]) (xs := mk.map mbB) (fun Q h => by simpa using h) rfl (fun j σ1 S1 => S1 = [O.lst ((dueL w msg vs (mk.take j)).map B.int)] ∧ ∃ v8 v9, σ1 = C ++ [v8, v9, some (.b (.int z)), some (.b (.int msg)), some (.b (vtT vs)), some (.b (.lst (mk.map mbB))), some (.ref 0), none, none, none, none, none, none, none, none]) ⟨rfl, v8, v9, by rw [hC]; rfl⟩ ?_ ?_
  · rintro j y σ1 S1 hy ⟨rfl, v8, v9, rfl⟩
    rw [List.getElem?_map] at hy
    obtain ⟨p, hp, rfl⟩ := Option.map_eq_some_iff.mp hy
    rw [hC]
    show Wo' (asg (.t [.n 8, .n 9]) (.tup [.int p.1, .int p.2]) _) _
    rw [asg2, wo_some]
    simp only [List.cons_append, List.nil_append, List.set]
    obtain ⟨dl, hdl⟩ : ∃ dl, dl = dueL w msg vs (mk.take j) := ⟨_, rfl⟩
    have hnext : dueL w msg vs (mk.take (j + 1)) = dl ++ (if dueF w msg vs p.1 = true then [p.1] else []) := by
      rw [hdl]
      unfold dueL
      rw [List.take_add_one, hp]
      show ((mk.take j ++ [p]).map (·.1)).filter _ = _
      rw [List.map_append, List.filter_append, List.map_singleton, List.filter_cons, List.filter_nil]
    have hdll : dl.length ≤ 4 := by
      rw [hdl]
      unfold dueL
      have h1 := List.length_filter_le (dueF w msg vs) ((mk.take j).map (·.1))
      rw [List.length_map] at h1
      have := List.length_take_le' j mk
      omega
    rw [hnext, ← hdl]
    refine ws_open fun q' hq' => ?_
    rw [wx_iff, we_cmp]
    refine we_lcP (xs := vs.map vtB) (ds := [vtT vs]) (vp w msg p.1) id (fun Q h => by simp only [wes_cons, wes_nil]; rw [we_v rfl]; exact h) rfl (by rw [List.length_map]; unfold SZ; omega) (fun y hy => ?_) ?_
    · obtain ⟨v, hv, rfl⟩ := List.mem_map.mp hy
      have vt0 : ∀ S : Store, idx S (.b (vtB v)) (.b (.int 0)) = some (.b (.int v.1)) := fun _ => rfl
      have vt1 : ∀ S : Store, idx S (.b (vtB v)) (.b (.int 1)) = some (.b (.tup (v.2.map B.int))) := fun _ => rfl
      show Wo' (some _) _
      rw [wo_some]
      simp only [wipe, List.set]
      rw [we_and, we_cmp, we_idx, we_v rfl, we_k]
      try dsimp only
      rw [vt0, wo_some, we_v rfl]
      show Wo' (some (v.1 == p.1)) _
      rw [wo_some]
      show Wo' (some _) _
      rw [wo_some, vp_vt]
      have last : ∀ {c : Bool} {S : Store} {P : Par} {σ : Sl}, σ[22]? = some (some (.b (vtB v))) → c = true → We P (.v 22) σ S fun d S3 => S3 = S ∧ d = .b (id (vtB v)) := fun {c S P σ} h _ => by
        rw [we_v h]
        exact ⟨rfl, rfl⟩
      by_cases e : v.1 = p.1
      · rw [if_pos (by simp [e]), we_call]
        simp only [wes_cons, wes_nil]
        rw [we_v rfl, we_v rfl, we_v rfl, we_idx, we_v rfl, we_k]
        try dsimp only
        rw [vt1, wo_some]
        refine verify_w 94 _ _ w p.1 msg v.2 hw0 hw128 (by have := hv2 v hv; omega) _ ?_
        refine ⟨rfl, ?_, fun h => last rfl h⟩
        rw [decide_eq_true e, Bool.true_and]
      · rw [if_neg (by simp [e])]
        refine ⟨rfl, ?_, fun h => last rfl h⟩
        rw [decide_eq_false e, Bool.false_and, show (v.1 == p.1) = false by simp [e]]
    rw [we_lst, wes_nil]
    show Wo' (some []) _
    rw [wo_some]
    show Wo' (some (D.b (.lst []), _)) _
    rw [wo_some]
    dsimp only
    rw [ne_nil_vt, wo_some, due_iff]
    · show Wo' (some _) _
      rw [wo_some]
      cases e : dueF w msg vs p.1 with
      | true =>
        have happ := mt_app (S := [O.lst (dl.map B.int)]) (n := 0) rfl (by rw [List.length_map]; unfold SZ; omega) (.int p.1)
        rw [if_pos rfl, if_pos rfl]
        refine ws_open fun q2 hq2 => ?_
        rw [wx_ex, we_mt, we_v rfl]
        simp only [wes_cons, wes_nil]
        rw [we_v rfl]
        refine ⟨rfl, ?_⟩
        rw [happ, wo_some, nx_nx]
        subst hq2 hq'
        simp
      | false =>
        rw [if_neg Bool.false_ne_true, if_neg Bool.false_ne_true]
        subst hq'
        simp
    · intro z' hz'
      rw [List.map_id] at hz'
      obtain ⟨v, _, rfl⟩ := List.mem_map.mp (List.mem_filter.mp hz').1
      exact ⟨v, rfl⟩
  rintro σ1 S1 ⟨rfl, v8, v9, rfl⟩
  rw [List.length_map, List.take_length, nx_nx]
  obtain ⟨dl, hdl⟩ : ∃ dl, dl = dueL w msg vs mk := ⟨_, rfl⟩
  have hdll : dl.length ≤ 4 := by
    rw [hdl]
    unfold dueL
    have h1 := List.length_filter_le (dueF w msg vs) (mk.map (·.1))
    rw [List.length_map] at h1
    omega
  rw [← hdl, hC]
  subst hr'
  have h0 : ([O.lst (dl.map B.int)] : Store)[0]? = some (.lst (dl.map B.int)) := rfl
  simp only [List.cons_append, List.nil_append]
  refine ws_open fun r' hr' => ?_
  rw [wx_iff, we_cmp, we_call]
  simp only [wes_cons, wes_nil]
  rw [we_v rfl, we_v rfl, we_bi]
  simp only [wes_cons, wes_nil]
  rw [we_v rfl, tup_lstV, wo_some, we_v rfl]
  refine signers_w 90 _ _ w msg mk vs hw0 hw128 (by omega) (by omega) (fun v hv => by have := hv2 v hv; omega) _ ?_
  rw [sgn_eq mks, ← hdl, we_bi]
  simp only [wes_cons, wes_nil]
  rw [we_v rfl, tup_refV h0, wo_some, ne_self_t, wo_some]
  show Wo' (some false) _
  rw [wo_some, if_neg Bool.false_ne_true]
  simp only [ws_nil, nx_nx]
  subst hr'
  refine ws_open fun r' hr' => ?_
  obtain ⟨xs, hxs⟩ : ∃ xs : List Int, xs = dl ++ dl.take 1 ++ [z % 90, -4] := ⟨_, rfl⟩
  have s1 : slc [O.lst (dl.map B.int)] (.ref 0) (.b .non) (.b (.int 1)) = some (.b (.lst ((dl.map B.int).take 1))) := (slc_ref h0 1).1
  have b1 : bin [O.lst (dl.map B.int)] .add (.ref 0) (.b (.lst ((dl.map B.int).take 1))) = some (.b (.lst (dl.map B.int ++ (dl.map B.int).take 1))) := bin_rl h0 (by rw [List.length_take, List.length_map]; unfold SZ; omega)
  have b2 : bin [O.lst (dl.map B.int)] .add (.b (.lst (dl.map B.int ++ (dl.map B.int).take 1))) (.b (.lst [.int (z % 90), .int (-4)])) = some (.b (.lst (xs.map B.int))) := by
    rw [bin_ll (by rw [List.length_append, List.length_take, List.length_map]; unfold SZ; simp; omega), hxs]
    simp
  simp [s1, b1, newL, allB, SZ, b2]
  subst hr'
  refine ws_open fun r' hr' => ?_
  rw [wx_set, we_bi, wes_cons]
  refine we_lcP (xs := ms.map mbB) (ds := [mbT ms]) (fun x => (match x with
    | .tup [.int a, _] => decide (a ∈ xs)
    | _ => false)) (fun x => (match x with
    | .tup [_, .int a] => .int a
    | _ => .non)) (fun Q h => by simp only [wes_cons, wes_nil]; rw [we_v rfl]; exact h) rfl (by rw [List.length_map]; unfold SZ; omega) (fun y hy => ?_) ?_
  · obtain ⟨p, hp, rfl⟩ := List.mem_map.mp hy
    show Wo' (some _) _
    rw [wo_some]
    simp only [wipe, List.set]
    rw [we_cmp, we_idx, we_v rfl, we_k]
    try dsimp only
    rw [mbn, wo_some, we_v rfl, inn_l, wo_some]
    refine ⟨rfl, rfl, fun _ => ?_⟩
    rw [we_idx, we_v rfl, we_k]
    try dsimp only
    rw [mbn1, wo_some]
    exact ⟨rfl, rfl⟩
  rw [List.filter_map, List.map_map, wes_nil]
  rw [show List.map ((fun x => (match x with
        | .tup [_, .int a] => B.int a
        | _ => .non)) ∘ mbB) (List.filter ((fun x => (match x with
    | .tup [.int a, _] => decide (a ∈ xs)
    | _ => false)) ∘ mbB) ms) = ((ms.filter fun p => decide (p.1 ∈ xs)).map (·.2)).map B.int by rw [List.map_map]; rfl, bi_sum, wo_some]
  rw [show ((ms.filter fun p => decide (p.1 ∈ xs)).map (·.2)).sum = wgtM ms xs from rfl]
  simp only [nx_nx, List.set]
  subst hr'
  refine ws_open fun r' hr' => ?_
  rw [wx_set, we_bi, wes_cons]
  refine we_lcP (xs := ms.map mbB) (ds := [mbT ms]) (fun _ => true) (fun x => (match x with
    | .tup [_, .int a] => .int a
    | _ => .non)) (fun Q h => by simp only [wes_cons, wes_nil]; rw [we_v rfl]; exact h) rfl (by rw [List.length_map]; unfold SZ; omega) (fun y hy => ?_) ?_
  · obtain ⟨p, hp, rfl⟩ := List.mem_map.mp hy
    show Wo' (some _) _
    rw [wo_some, we_k]
    refine ⟨rfl, rfl, fun _ => ?_⟩
    simp only [wipe, List.set]
    rw [we_idx, we_v rfl, we_k]
    try dsimp only
    rw [mbn1, wo_some]
    exact ⟨rfl, rfl⟩
  rw [fil_true, List.map_map, wes_nil]
  rw [show List.map ((fun x => (match x with
        | .tup [_, .int a] => B.int a
        | _ => .non)) ∘ mbB) ms = (ms.map (·.2)).map B.int by rw [List.map_map]; rfl, bi_sum, wo_some]
  rw [show (ms.map (·.2)).sum = totM ms from rfl]
  simp only [nx_nx, List.set]
  subst hr'
  obtain ⟨wt1, wt2⟩ := wgt_bd (ms := ms) (xs := xs) (by omega) fun p hp => (mfact p hp).2.2
  obtain ⟨tt1, tt2⟩ := tot_bd (ms := ms) (by omega) fun p hp => (mfact p hp).2.2
  refine ws_open fun r' hr' => ?_
  rw [wx_iff, we_or, we_not, we_call]
  simp only [wes_cons, wes_nil]
  rw [we_call]
  simp only [wes_cons, wes_nil]
  rw [we_v rfl]
  refine total_w 98 _ _ ms (by omega) _ ?_
  rw [we_v rfl]
  refine is_w 98 _ _ _ _ _ ?_
  rw [decide_eq_true rfl]
  show Wo' (some true) _
  rw [wo_some]
  show Wo' (some false) _
  rw [wo_some, if_neg Bool.false_ne_true, we_not, we_call]
  simp only [wes_cons, wes_nil]
  rw [we_call]
  simp only [wes_cons, wes_nil]
  rw [we_v rfl, we_v rfl]
  refine weight_of_w 98 _ _ ms xs (by omega) _ ?_
  rw [we_v rfl]
  refine is_w 98 _ _ _ _ _ ?_
  rw [decide_eq_true rfl]
  show Wo' (some true) _
  rw [wo_some]
  show Wo' (some false) _
  rw [wo_some, if_neg Bool.false_ne_true]
  simp only [ws_nil, nx_nx]
  subst hr'
  obtain ⟨wt, hwt⟩ : ∃ wt, wt = wgtM ms xs := ⟨_, rfl⟩
  obtain ⟨tt, htt⟩ : ∃ tt, tt = totM ms := ⟨_, rfl⟩
  rw [← hwt] at wt1 wt2
  rw [← htt] at tt1 tt2
  rw [← hwt, ← htt]
  obtain ⟨E, hE⟩ : ∃ E : Sl, E = [some (.b (.scr (ns.map B.int))), some (.b (.lst (cs.map B.int))), some (.b (.int x)), some (.b (hsh w)), some (.b (.lst (keysB w L K))), some (.b (mbT ms)), some (.b (mbT ms2)), some (.b (.lst ((mnum ms).map B.int))), v8, some (.b (.int wt)), some (.b (.int z)), some (.b (.int msg)), some (.b (vtT vs)), some (.b (.lst (mk.map mbB))), some (.ref 0), some (.b (.lst (xs.map B.int))), some (.b (.int tt))] := ⟨_, rfl⟩
  refine ws_open fun r' hr' => ?_
  refine wx_forN (k := .sq) (ds := [.lst (([(1, 3), (2, 3), (wt, tt), (wt - 1, tt), (0, 1)] : Mb).map mbB)]) (xs := ([(1, 3), (2, 3), (wt, tt), (wt - 1, tt), (0, 1)] : Mb).map mbB) (fun Q h => ?_) rfl (fun j σ1 S1 => S1 = [O.lst (dl.map B.int)] ∧ ∃ v17 v18 v19, σ1 = E ++ [v17, v18, v19, none, none, none]) ⟨rfl, none, none, none, by rw [hE]; rfl⟩ ?_ ?_
  · simp [newL, allB, mkTup, SZ]
    exact h
  · rintro j y σ1 S1 hy ⟨rfl, v17, v18, v19, rfl⟩
    rw [List.getElem?_map] at hy
    obtain ⟨p, hp, rfl⟩ := Option.map_eq_some_iff.mp hy
    have hpm := List.mem_of_getElem? hp
    have hpb : (-1 ≤ p.1 ∧ p.1 ≤ 100) ∧ (0 ≤ p.2 ∧ p.2 ≤ 100) := by
      simp only [List.mem_cons, List.not_mem_nil, or_false] at hpm
      rcases hpm with rfl | rfl | rfl | rfl | rfl <;> refine ⟨⟨?_, ?_⟩, ⟨?_, ?_⟩⟩ <;> simp <;> omega
    rw [hE]
    show Wo' (asg (.t [.n 17, .n 18]) (.tup [.int p.1, .int p.2]) _) _
    rw [asg2, wo_some]
    simp only [List.cons_append, List.nil_append, List.set]
    refine ws_open fun q' hq' => ?_
    rw [wx_set, we_call]
    simp only [wes_cons, wes_nil]
    rw [we_v rfl, we_v rfl, we_v rfl, we_v rfl]
    refine more_than_w 97 _ _ ms xs p.1 p.2 (by omega) (by omega) (by omega) _ ?_
    rw [← hwt, ← htt]
    obtain ⟨c, hc⟩ : ∃ c : Bool, c = decide (tt * p.1 < wt * p.2) := ⟨_, rfl⟩
    rw [← hc]
    simp only [nx_nx, List.set]
    subst hq'
    refine ws_open fun q' hq' => ?_
    have ib : ∀ S, bi S (.isin .bool) false [.b (.bl c)] = some (.b (.bl true), S) := fun _ => rfl
    have neq : ∀ (S : Store) (c : Bool), M.cmp S .ne (.b (.bl c)) (.b (.bl c)) = some false := fun S c => by cases c <;> rfl
    rw [wx_iff, we_or, we_not, we_bi]
    simp only [wes_cons, wes_nil]
    rw [we_v rfl, ib, wo_some]
    show Wo' (some true) _
    rw [wo_some]
    show Wo' (some false) _
    rw [wo_some, if_neg Bool.false_ne_true, we_cmp, we_v rfl, we_cmp, we_bin, we_v rfl, we_v rfl, wo_bin, wo_mul]
    refine ⟨mulOk_sm (by omega), ?_⟩
    rw [we_bin, we_v rfl, we_v rfl, wo_bin, wo_mul]
    refine ⟨mulOk_sm (by omega), ?_⟩
    show Wo' (some (decide (tt * p.1 < wt * p.2))) _
    rw [wo_some, ← hc, neq, wo_some]
    show Wo' (some false) _
    rw [wo_some, if_neg Bool.false_ne_true]
    subst hq'
    simp only [ws_nil, nx_nx]
    exact ⟨trivial, _, _, _, rfl⟩
  rintro σ1 S1 ⟨rfl, v17, v18, v19, rfl⟩
  rw [nx_nx]
  subst hr'
  simp [ws_cons]
theorem LAW (ns : List Int) (h : ns.length ≤ 63) (_ : ∀ i ∈ ns, PySem.Builtin.Int.intBits i ≤ 1048576) : ∃ S', evC T 100 0 1007 [.b (.scr (ns.map B.int))] [] = some (.b (.bl true), S') := by
  obtain ⟨d, S', e, rfl⟩ := law_w ns h
  exact ⟨S', e⟩
end G
theorem PySem.Challenge.cw_offing_k30_validators_holds : PySem.Challenge.rw_offing_k30_validators.Holds :=
  G.law_ok 100 (by decide) G.LAW
