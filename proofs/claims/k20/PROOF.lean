import PyProof.Rows.All
import Wide.All
import OpenK.AllK
import Wide.FinOn
import HandS.ForMost
import HandS.Wide
import HandS.WideBits
import HandS.TupAny
import HandS.TupMul
import HandS.TupLe
import HandS.Deep
import HandS.Dict
import KE.KEqDict
import KE.KEqNest
import HandS.Flow
import HandS.More
import HandS.SortInts
import HandS.DictComp
import HandS.Style
import HandS.IsInst
import HandS.Finally
import KE.KTupSum
import HandS.Small
import HandS.NoneIn
import HandS.Iter
import HandS.RevRange
import HandS.Rev
import HandS.Zip
import HandS.Conv
import HandS.Comp
import HandS.Words
import HandS.Defaults
import HandS.Ends
import HandS.EndBits
import HandS.HeadEnd
import HandS.HeadHook1
import HandS.HeadHook2
import KE.KRevIter
import PyProof.ZipIter
import HandS.ClsMeth
import KE.DataMinMax
import PyProof.DictItems
import PyProof.SumAny
import HandS.Sort
import HandS.OwnEq
import PyProof.P3Eq
import HandS.SortOrd
import KE.BitLaws
import KE.KStateDown
import HandS.WordsExc
import HandS.Head0
import HandS.Head1
import HandS.Head2
import PySem.Challenge.RW_offing_k20_blocks_as_numbers
set_option Elab.async false
set_option linter.all false
set_option maxRecDepth 100000
set_option maxHeartbeats 0
/-! MC1: the small interpreter. -/
namespace M
/-! ### data -/
inductive Kd where
  | i (n : Int) | s (n : Nat)
  deriving DecidableEq
/-- a value that never changes -/
inductive B where
  | non | bl (b : Bool) | int (i : Int) | str (n : Nat)
  | tup (xs : List B) | lst (xs : List B) | scr (xs : List B)
  | dic (kvs : List (Kd × B)) | ins (c : Nat) (fs : List (Nat × B))
/-- a value: one that never changes, a reference to the store, a tuple with references -/
inductive D where
  | b (x : B) | ref (n : Nat) | mix (xs : List D)
/-- an object of the store -/
inductive O where
  | lst (xs : List B) | dic (kvs : List (Kd × B)) | ins (c : Nat) (fs : List (Nat × D))
  | lockl (xs : List B) | lockd (kvs : List (Kd × B))
abbrev Store := List O
abbrev Sl := List (Option D)
def SZ : Nat := 16777216
/-! ### syntax -/
inductive Op where
  | add | sub | mul | fdiv | mod | pow | shl | shr | band | bor | xor
  deriving DecidableEq
inductive Cm where
  | eq | ne | lt | le | gt | ge | is | isn | inn | nin
  deriving DecidableEq
inductive Ty where
  | int | bool | str | list | tuple | dict | cls (c : Nat)
  deriving DecidableEq
inductive Bi where
  | len | int | sum | sumv | min1 | max1 | min2 | max2 | sorted | tuple | list | dict | all | any | isin (t : Ty) | minit | sortp
  deriving DecidableEq
inductive Mt where
  | append | extend | pop | popi | popd | get1 | get2 | clear | update | index | tail
  deriving DecidableEq
/-- what is walked -/
inductive Ik where
  | sq | dv | r1 | r2 | r3 | zip | zr | rr | rs
  deriving DecidableEq
/-- a target -/
inductive Pt where
  | n (i : Nat) | t (ts : List Pt)
inductive E where
  | v (i : Nat) | k (x : B) | nop | nev
  | bin (o : Op) (a b : E) | cat (a b : E) | neg (a : E) | inv (a : E) | not (a : E)
  | cmp (o : Cm) (a b : E) | chn (o p : Cm) (a b c : E)
  | and (a b : E) | or (a b : E) | ite (t a b : E)
  | tup (es : List E) | lst (m : Bool) (es : List E) | dnew (m : Bool) | dic (es : List E)
  | idx (a i : E) | slc (a lo hi : E) | rev (a : E)
  | att (a : E) (f : Nat)
  | call (f : Nat) (es : List E) | meth (o : E) (m : Nat) (es : List E) | make (c : Nat) (es : List E)
  | bi (b : Bi) (m : Bool) (es : List E) | mt (b : Mt) (o : E) (es : List E)
  | lc (m : Bool) (g : Pt) (k : Ik) (es : List E) (t e : E) (w : List Nat)
  | dc (m : Bool) (g : Pt) (k : Ik) (es : List E) (t ke e : E) (w : List Nat)
  | lkd (i : Nat) (e : E)
  | pick (es : List E) (i : E)
  | fz (e : E)
  | eqo (a b : E) | isc (c : Nat) (e : E) | revt (a : E)
inductive St where
  | set (i : Nat) (e : E) | unp (is : List Nat) (e : E) | aug (i : Nat) (o : Op) (e : E)
  | seti (o i e : E) | augi (o i : E) (p : Op) (e : E) | setf (o : E) (f : Nat) (e : E) | augf (o : E) (f : Nat) (p : Op) (e : E)
  | iff (t : E) (a b : List St) | whl (t : E) (b : List St) | for (g : Pt) (k : Ik) (es : List E) (b : List St)
  | ret (e : E) | retn | ex (e : E) | cont
  | blk (i : Nat) (b : List St)
  | lks (i : Nat) (s : St)
/-! ### views -/
def seqB : B → Option (List B)
  | .tup xs => some xs
  | .lst xs => some xs
  | .scr xs => some xs
  | _ => none
def seqD (S : Store) : D → Option (List B)
  | .b x => seqB x
  | .ref n => match S[n]? with
    | some (.lst xs) => some xs
    | some (.lockl xs) => some xs
    | _ => none
  | .mix _ => none
/-- a list, no tuple -/
def lsqD (S : Store) : D → Option (List B)
  | .b (.tup _) => none
  | x => seqD S x
/-- 1: a list, 2: a dict -/
def kd (S : Store) : D → Nat
  | .b (.lst _) => 1
  | .b (.scr _) => 1
  | .b (.dic _) => 2
  | .ref n => match S[n]? with
    | some (.lst _) => 1
    | some (.lockl _) => 1
    | some (.dic _) => 2
    | some (.lockd _) => 2
    | _ => 0
  | _ => 0
/-- a list's items -/
def lstD (S : Store) : D → Option (List B)
  | .b (.lst xs) => some xs
  | .ref n => match S[n]? with
    | some (.lst xs) => some xs
    | _ => none
  | _ => none
def dicD (S : Store) : D → Option (List (Kd × B))
  | .b (.dic kvs) => some kvs
  | .ref n => match S[n]? with
    | some (.dic kvs) => some kvs
    | some (.lockd kvs) => some kvs
    | _ => none
  | _ => none
def viewD (S : Store) : D → Option B
  | .b x => some x
  | .ref n => match S[n]? with
    | some (.lst xs) => some (.lst xs)
    | some (.dic kvs) => some (.dic kvs)
    | _ => none
  | .mix _ => none
def allB : List D → Option (List B)
  | [] => some []
  | .b x :: r => (allB r).map (x :: ·)
  | _ :: _ => none
def mkTup (ds : List D) : D := match allB ds with
  | some xs => .b (.tup xs)
  | none => .mix ds
def keyB : B → Option Kd
  | .int i => some (.i i)
  | .str n => some (.s n)
  | _ => none
def keyD : D → Option Kd
  | .b x => keyB x
  | _ => none
def kB : Kd → B
  | .i n => .int n
  | .s n => .str n
def truth (S : Store) : D → Option Bool
  | .b .non => some false
  | .b (.bl x) => some x
  | .b (.int i) => some (i != 0)
  | .b (.tup xs) => some (!xs.isEmpty)
  | .b (.lst xs) => some (!xs.isEmpty)
  | .b (.scr xs) => some (!xs.isEmpty)
  | .b (.dic xs) => some (!xs.isEmpty)
  | .ref n => match S[n]? with
    | some (.lst xs) => some (!xs.isEmpty)
    | some (.dic xs) => some (!xs.isEmpty)
    | _ => none
  | .mix xs => some (!xs.isEmpty)
  | _ => none
/-! ### dicts -/
def dget (kvs : List (Kd × B)) (k : Kd) : Option B := (kvs.find? fun p => decide (p.1 = k)).map (·.2)
def dput (kvs : List (Kd × B)) (k : Kd) (v : B) : List (Kd × B) := if kvs.any fun p => decide (p.1 = k) then kvs.map fun p => if p.1 = k then (p.1, v) else p else kvs ++ [(k, v)]
def ddrop (kvs : List (Kd × B)) (k : Kd) : List (Kd × B) := kvs.filter fun p => decide (p.1 ≠ k)
def dmerge (kvs more : List (Kd × B)) : List (Kd × B) := more.foldl (fun a p => dput a p.1 p.2) kvs
/-! ### fields -/
def fget {α : Type} : List (Nat × α) → Nat → Option α
  | [], _ => none
  | (g, v) :: r, f => if f = g then some v else fget r f
def fput {α : Type} (f : Nat) (v : α) : List (Nat × α) → List (Nat × α)
  | [] => [(f, v)]
  | (g, w) :: r => if f = g then (f, v) :: r else (g, w) :: fput f v r
/-! ### numbers -/
def mulOk (i j : Int) : Bool := decide (-(2 ^ 64) < i ∧ i < 2 ^ 64) || decide (-(2 ^ 64) < j ∧ j < 2 ^ 64) || decide (PySem.Builtin.Int.intBits i + PySem.Builtin.Int.intBits j ≤ 134217728)
def divOk (j : Int) : Bool := decide (0 < j) && decide (j.natAbs.log2 < 9000)
def shlOk (i j : Int) : Bool := decide (0 ≤ j) && (decide (j ≤ 1000000 ∧ i.natAbs < 2 ^ 64) || decide ((PySem.Builtin.Int.intBits i : Int) + j ≤ 134217728))
def arith (o : Op) (i j : Int) : Option Int := match o with
  | .add => some (i + j)
  | .sub => some (i - j)
  | .mul => if mulOk i j then some (i * j) else none
  | .fdiv => if divOk j then some (i / j) else none
  | .mod => if 0 < j then some (i % j) else none
  | .pow => if 0 ≤ j ∧ j ≤ 1000000 ∧ i.natAbs < 2 ^ 64 then some (i ^ j.toNat) else none
  | .shl => if shlOk i j then some (i * 2 ^ j.toNat) else none
  | .shr => if 0 ≤ j then some (i / 2 ^ j.toNat) else none
  | .band => some (PySem.Builtin.bitAnd i j)
  | .bor => some (PySem.Builtin.bitOr i j)
  | .xor => some (PySem.Builtin.bitXor i j)
def szL (xs : List B) : Option D := if xs.length ≤ SZ then some (.b (.lst xs)) else none
def bin (S : Store) (o : Op) (x y : D) : Option D := match x, y with
  | .b (.int i), .b (.int j) => (arith o i j).map fun z => .b (.int z)
  | .b (.tup xs), .b (.tup ys) => (match o with
    | .add => if xs.length + ys.length ≤ SZ then some (.b (.tup (xs ++ ys))) else none
    | _ => none)
  | .b (.tup xs), .b (.int k) => (match o with
    | .mul => if 2 ≤ k ∧ k ≤ 1000 ∧ xs.length ≤ 1000 ∧ xs ≠ [] then some (.b (.tup (List.replicate k.toNat xs).flatten)) else none
    | _ => none)
  | x, y => (match o with
    | .add => (lstD S x).bind fun xs => (lstD S y).bind fun ys => szL (xs ++ ys)
    | .mul => (match y with
      | .b (.int k) => (lstD S x).bind fun xs => if -(2 ^ 63) ≤ k ∧ k < 2 ^ 63 ∧ xs.length * k.toNat ≤ SZ then some (.b (.lst (List.replicate k.toNat xs).flatten)) else none
      | _ => none)
    | _ => none)
/-! ### equality -/
mutual
def eqB : B → B → Bool
  | .non, .non => true
  | .bl a, .bl b => a == b
  | .bl a, .int j => (if a then 1 else 0) == j
  | .int i, .bl b => i == (if b then 1 else 0)
  | .int i, .int j => i == j
  | .str x, .str y => x == y
  | .tup xs, .tup ys => eqBs xs ys
  | .lst xs, .lst ys => eqBs xs ys
  | .scr xs, .lst ys => eqBs xs ys
  | .lst xs, .scr ys => eqBs xs ys
  | .scr xs, .scr ys => eqBs xs ys
  | .dic xs, .dic ys => xs.length == ys.length && eqKs xs ys
  | .ins _ fs, .ins _ gs => eqFs fs gs
  | _, _ => false
termination_by structural x => x
def eqFs : List (Nat × B) → List (Nat × B) → Bool
  | [], [] => true
  | p :: xs, q :: ys => eqFp p q.2 && eqFs xs ys
  | _, _ => false
termination_by structural x => x
def eqFp : Nat × B → B → Bool
  | (_, x), y => eqB x y
termination_by structural x => x
def eqBs : List B → List B → Bool
  | [], [] => true
  | x :: xs, y :: ys => eqB x y && eqBs xs ys
  | _, _ => false
termination_by structural x => x
def eqKs : List (Kd × B) → List (Kd × B) → Bool
  | [], _ => true
  | p :: xs, ys => eqKp p ys && eqKs xs ys
termination_by structural x => x
def eqKp : Kd × B → List (Kd × B) → Bool
  | (k, x), ys => (match dget ys k with
    | some y => eqB x y
    | none => false)
termination_by structural x => x
end
/-- data without dicts and instances, of small depth -/
def eqOk : Nat → B → Bool
  | _, .non => true
  | _, .bl _ => true
  | _, .int _ => true
  | _, .str _ => true
  | k + 1, .tup xs => xs.all (eqOk k)
  | k + 1, .lst xs => xs.all (eqOk k)
  | k + 1, .scr xs => xs.all (eqOk k)
  | _, _ => false
example : eqB (.dic [(.i 1, .int 2)]) (.dic [(.i 1, .int 2)]) = true := by rfl
/-- a dict without dicts -/
def dfree (kvs : List (Kd × B)) : Bool := kvs.all fun p => eqOk 12 p.2
def eqX : B → B → Option Bool
  | .dic xs, .dic ys => if dfree xs && dfree ys then some (xs.length == ys.length && eqKs xs ys) else none
  | _, _ => none
def eqD (S : Store) (x y : D) : Option Bool := (viewD S x).bind fun a => (viewD S y).bind fun b => if eqOk 12 a && eqOk 12 b then some (eqB a b) else eqX a b
/-- tuples that hold dicts -/
def eqTe (x y : B) : Option Bool := if eqOk 12 x && eqOk 12 y then some (eqB x y) else if eqX x y = some true then some true else none
def eqTs : List B → List B → Option (List Bool)
  | x :: xs, y :: ys => (eqTe x y).bind fun e => (eqTs xs ys).map (e :: ·)
  | _, _ => some []
def eqT : D → D → Option Bool
  | .b (.tup xs), .b (.tup ys) => (eqTs xs ys).map fun es => es.all id && xs.length == ys.length
  | _, _ => none
def isNon : D → Bool
  | .b .non => true
  | _ => false
def inD (S : Store) (x y : D) : Option Bool := match dicD S y with
  | some kvs => (keyD x).map fun k => (dget kvs k).isSome
  | none => (viewD S x).bind fun a => (seqD S y).bind fun ys => if eqOk 12 a && ys.all (eqOk 12) then some (ys.any fun z => eqB z a) else none
def int2 (f : Int → Int → Bool) : D → D → Option Bool
  | .b (.int i), .b (.int j) => some (f i j)
  | _, _ => none
def isD (x y : D) : Option Bool := match y with
  | .b .non => some (isNon x)
  | .b (.bl c) => (match x with
    | .b (.bl a) => some (a == c)
    | _ => none)
  | _ => none
def cmp (S : Store) (o : Cm) (x y : D) : Option Bool := match o with
  | .eq => (eqD S x y).or (eqT x y)
  | .ne => ((eqD S x y).or (eqT x y)).map (!·)
  | .lt => int2 (fun i j => decide (i < j)) x y
  | .le => int2 (fun i j => decide (i ≤ j)) x y
  | .gt => int2 (fun i j => decide (j < i)) x y
  | .ge => int2 (fun i j => decide (j ≤ i)) x y
  | .is => isD x y
  | .isn => (isD x y).map (!·)
  | .inn => inD S x y
  | .nin => (inD S x y).map (!·)
/-! ### items -/
def idx (S : Store) (x y : D) : Option D := match x with
  | .mix xs => (match y with
    | .b (.int i) => L2.atI xs i
    | _ => none)
  | x => (match dicD S x with
    | some kvs => (keyD y).bind fun k => (dget kvs k).map .b
    | none => (match y with
      | .b (.int i) => (seqD S x).bind fun xs => (L2.atI xs i).map .b
      | _ => none))
def cut {α : Type} (xs : List α) (lo hi : Option Int) : List α := (xs.drop (HT.sIx xs.length 0 lo)).take (HT.sIx xs.length xs.length hi - HT.sIx xs.length 0 lo)
def part : D → Option (Option Int)
  | .b .non => some none
  | .b (.int i) => some (some i)
  | _ => none
def slc (S : Store) (x l h : D) : Option D := (part l).bind fun lo => (part h).bind fun hi => match x with
  | .b (.tup xs) => some (.b (.tup (cut xs lo hi)))
  | x => (seqD S x).map fun xs => .b (.lst (cut xs lo hi))
/-! ### built-ins -/
def intsB : List B → Option (List Int)
  | [] => some []
  | .int i :: r => (intsB r).map (i :: ·)
  | _ :: _ => none
def boolsB : List B → Option (List Bool)
  | [] => some []
  | .bl i :: r => (boolsB r).map (i :: ·)
  | _ :: _ => none
def insI (x : Int) : List Int → List Int
  | [] => [x]
  | y :: r => if x ≤ y then x :: y :: r else y :: insI x r
def sortI : List Int → List Int
  | [] => []
  | x :: r => insI x (sortI r)
/-- by the first part -/
def insF {α : Type} (p : Int × α) : List (Int × α) → List (Int × α)
  | [] => [p]
  | q :: r => if p.1 ≤ q.1 then p :: q :: r else q :: insF p r
def sortF {α : Type} : List (Int × α) → List (Int × α)
  | [] => []
  | p :: r => insF p (sortF r)
/-- tuples that begin with a number -/
def hdB : B → Option Int
  | .tup (.int i :: _) => some i
  | _ => none
def hdsB : List B → Option (List (Int × B))
  | [] => some []
  | x :: r => (hdB x).bind fun i => (hdsB r).map ((i, x) :: ·)
def minI : Int → List Int → Int
  | x, [] => x
  | x, y :: r => minI (if y < x then y else x) r
def maxI : Int → List Int → Int
  | x, [] => x
  | x, y :: r => maxI (if x < y then y else x) r
def keysOf (kvs : List (Kd × B)) : List B := kvs.map fun p => kB p.1
/-- what iter(x) gives: a sequence's items, a dict's keys -/
def itD (S : Store) (x : D) : Option (List B) := match dicD S x with
  | some kvs => some (keysOf kvs)
  | none => seqD S x
def newL (S : Store) (m : Bool) (xs : List B) : Option (D × Store) := if xs.length ≤ SZ then (if m then some (.ref S.length, S ++ [.lst xs]) else some (.b (.lst xs), S)) else none
def newD (S : Store) (m : Bool) (kvs : List (Kd × B)) : Option (D × Store) := if kvs.length ≤ SZ then (if m then some (.ref S.length, S ++ [.dic kvs]) else some (.b (.dic kvs), S)) else none
def pairsB : List B → Option (List (Kd × B))
  | [] => some []
  | .tup [k, v] :: r => (keyB k).bind fun k => (pairsB r).map ((k, v) :: ·)
  | _ :: _ => none
/-- the class of an instance that has no attribute m of its own -/
def clsOf (S : Store) (m : Nat) : D → Option Nat
  | .b (.ins c fs) => if (fget fs m).isNone then some c else none
  | .ref n => match S[n]? with
    | some (.ins c fs) => if (fget fs m).isNone then some c else none
    | _ => none
  | _ => none
inductive Kn where
  | non | bl | int | str | tup | lst | dic
def kn (S : Store) : D → Option Kn
  | .mix _ => some .tup
  | .ref n => (match S[n]? with
    | some (.lst _) => some .lst
    | some (.dic _) => some .dic
    | some (.lockl _) => some .lst
    | some (.lockd _) => some .dic
    | _ => none)
  | .b .non => some .non
  | .b (.bl _) => some .bl
  | .b (.int _) => some .int
  | .b (.str _) => some .str
  | .b (.tup _) => some .tup
  | .b (.lst _) => some .lst
  | .b (.dic _) => some .dic
  | _ => none
def knTy : Kn → Ty → Option Bool
  | _, .cls _ => none
  | .bl, .int => some true
  | .bl, .bool => some true
  | .int, .int => some true
  | .str, .str => some true
  | .tup, .tuple => some true
  | .lst, .list => some true
  | .dic, .dict => some true
  | _, _ => some false
def isin (S : Store) (t : Ty) (x : D) : Option Bool := (kn S x).bind fun k => knTy k t
def pure' (S : Store) (x : Option D) : Option (D × Store) := x.map fun d => (d, S)
def bi (S : Store) (b : Bi) (m : Bool) (vs : List D) : Option (D × Store) := match b, vs with
  | .len, [x] => pure' S (match x with
    | .mix xs => some (.b (.int xs.length))
    | x => (match dicD S x with
      | some kvs => some (.b (.int kvs.length))
      | none => (seqD S x).map fun xs => .b (.int xs.length)))
  | .int, [.b (.int i)] => some (.b (.int i), S)
  | .int, [.b (.bl k)] => some (.b (.int (if k then 1 else 0)), S)
  | .sum, [x] => pure' S ((seqD S x).bind fun xs => (intsB xs).map fun ns => .b (.int ns.sum))
  | .sumv, [x] => pure' S ((dicD S x).bind fun kvs => (intsB (kvs.map (·.2))).map fun ns => .b (.int ns.sum))
  | .min1, [x] => pure' S (match dicD S x with
    | some kvs => (intsB (keysOf kvs)).bind fun ns => (match ns with
      | [] => none
      | n :: r => some (.b (.int (minI n r))))
    | none => (seqD S x).bind fun xs => (intsB xs).bind fun ns => (match ns with
      | [] => none
      | n :: r => some (.b (.int (minI n r)))))
  | .max1, [x] => pure' S ((lsqD S x).bind fun xs => (intsB xs).bind fun ns => match ns with
    | [] => none
    | n :: r => some (.b (.int (maxI n r))))
  | .min2, [.b (.int i), .b (.int j)] => some (.b (.int (if j < i then j else i)), S)
  | .max2, [.b (.int i), .b (.int j)] => some (.b (.int (if j > i then j else i)), S)
  | .sorted, [x] => (match dicD S x with
    | some kvs => if kvs.length ≤ SZ then (intsB (keysOf kvs)).bind fun ns => newL S m ((sortI ns).map .int) else none
    | none => (lsqD S x).bind fun xs => (intsB xs).bind fun ns => newL S m ((sortI ns).map .int))
  | .sortp, [x] => (lsqD S x).bind fun xs => (hdsB xs).bind fun ps => if (ps.map (·.1)).Nodup then newL S m ((sortF ps).map (·.2)) else none
  | .tuple, [.b (.tup xs)] => some (.b (.tup xs), S)
  | .tuple, [x] => pure' S ((seqD S x).map fun xs => .b (.tup xs))
  | .list, [x] => (itD S x).bind fun xs => newL S m xs
  | .dict, [x] => (match dicD S x with
    | some kvs => newD S m kvs
    | none => (lstD S x).bind fun xs => (pairsB xs).bind fun kvs => newD S m (dmerge [] kvs))
  | .all, [x] => pure' S ((lstD S x).bind fun xs => (boolsB xs).map fun bs => .b (.bl (bs.all id)))
  | .any, [x] => pure' S ((lstD S x).bind fun xs => (boolsB xs).map fun bs => .b (.bl (bs.any id)))
  | .isin t, [x] => pure' S ((isin S t x).map fun b => .b (.bl b))
  | .minit, [x] => pure' S ((dicD S x).bind fun kvs => match kvs with
    | [(k, v)] => some (.b (.tup [kB k, v]))
    | _ => none)
  | _, _ => none
def mt (S : Store) (b : Mt) (o : D) (vs : List D) : Option (D × Store) := match b, o, vs with
  | .append, .ref n, [.b y] => (match S[n]? with
    | some (.lst xs) => if xs.length < SZ then some (.b .non, S.set n (.lst (xs ++ [y]))) else none
    | _ => none)
  | .extend, .ref n, [y] => (match S[n]? with
    | some (.lst xs) => (lstD S y).bind fun ys => if xs.length + ys.length ≤ SZ then some (.b .non, S.set n (.lst (xs ++ ys))) else none
    | _ => none)
  | .pop, .ref n, [] => (match S[n]? with
    | some (.lst xs) => (xs[xs.length - 1]?).map fun y => (.b y, S.set n (.lst xs.dropLast))
    | _ => none)
  | .popi, .ref n, [.b y] => (match S[n]? with
    | some (.lst xs) => (match y with
      | .int i => if xs.length ≤ SZ then (L2.ixN xs.length i).bind fun j => (xs[j]?).map fun y => (.b y, S.set n (.lst (xs.eraseIdx j))) else none
      | _ => none)
    | some (.dic kvs) => (keyB y).bind fun k => (dget kvs k).map fun v => (.b v, S.set n (.dic (ddrop kvs k)))
    | _ => none)
  | .popd, .ref n, [.b y, z] => (match S[n]? with
    | some (.dic kvs) => (keyB y).map fun k => (match dget kvs k with
      | some v => (.b v, S.set n (.dic (ddrop kvs k)))
      | none => (z, S))
    | _ => none)
  | .get1, x, [y] => (dicD S x).bind fun kvs => (keyD y).map fun k => (match dget kvs k with
      | some v => (.b v, S)
      | none => (.b .non, S))
  | .get2, x, [y, z] => (dicD S x).bind fun kvs => (keyD y).map fun k => (match dget kvs k with
      | some v => (.b v, S)
      | none => (z, S))
  | .clear, .ref n, [] => (match S[n]? with
    | some (.lst _) => some (.b .non, S.set n (.lst []))
    | some (.dic _) => some (.b .non, S.set n (.dic []))
    | _ => none)
  | .update, .ref n, [y] => (match S[n]? with
    | some (.dic kvs) => (dicD S y).bind fun ks => if kvs.length + ks.length ≤ SZ then some (.b .non, S.set n (.dic (dmerge kvs ks))) else none
    | _ => none)
  | .tail, .ref n, [.b (.int k), .b (.lst ys)] => (match S[n]? with
    | some (.lst xs) => if 0 ≤ k ∧ k ≤ (xs.length : Int) ∧ xs.length + ys.length ≤ SZ then some (.b .non, S.set n (.lst (xs.take k.toNat ++ ys))) else none
    | _ => none)
  | _, _, _ => none
/-! ### stores -/
def isB : D → Bool
  | .b _ => true
  | _ => false
def getf (fo : Nat → Nat → Bool) (S : Store) (x : D) (f : Nat) : Option D := match x with
  | .b (.ins c fs) => if fo c f then (fget fs f).map .b else none
  | .ref n => (match S[n]? with
    | some (.ins c fs) => if fo c f then fget fs f else none
    | _ => none)
  | _ => none
def setf (fo : Nat → Nat → Bool) (base : Nat) (S : Store) (x : D) (f : Nat) (v : D) : Option Store := match x with
  | .ref n => (match S[n]? with
    | some (.ins c fs) => if fo c f && ((isB v || decide (base ≤ n)) && decide (fs.length < 1000)) then some (S.set n (.ins c (fput f v fs))) else none
    | _ => none)
  | _ => none
def insC (S : Store) : D → Option Nat
  | .ref n => (match S[n]? with
    | some (.ins c _) => some c
    | _ => none)
  | _ => none
def seti (S : Store) (x i : D) (v : D) : Option Store := match x, v with
  | .ref n, .b y => (match S[n]? with
    | some (.lst xs) => (match i with
      | .b (.int k) => (L2.ixN xs.length k).map fun j => S.set n (.lst (xs.set j y))
      | _ => none)
    | some (.dic kvs) => (keyD i).bind fun k => if kvs.length < SZ then some (S.set n (.dic (dput kvs k y))) else none
    | _ => none)
  | _, _ => none
/-- a value as one that never changes -/
def mapO {α β : Type} (f : α → Option β) : List α → Option (List β)
  | [] => some []
  | x :: r => (f x).bind fun y => (mapO f r).map (y :: ·)
def frz (S : Store) (base : Nat) : Nat → D → Option B
  | _, .b x => some x
  | 0, _ => none
  | k + 1, .ref n => if n < base then none else (match S[n]? with
    | some (.lst xs) => some (.lst xs)
    | some (.dic kvs) => some (.dic kvs)
    | some (.ins c fs) => (mapO (fun p => (frz S base k p.2).map fun x => (p.1, x)) fs).map (.ins c)
    | _ => none)
  | k + 1, .mix xs => (mapO (frz S base k) xs).map .tup
/-! ### targets -/
def putAll : List Nat → List D → Sl → Option Sl
  | [], [], σ => some σ
  | i :: is, x :: xs, σ => putAll is xs (σ.set i (some x))
  | _, _, _ => none
mutual
def asg : Pt → B → Sl → Option Sl
  | .n i, x, σ => some (σ.set i (some (.b x)))
  | .t ts, x, σ => (match x with
    | .tup xs => asgs ts xs σ
    | _ => none)
termination_by structural x => x
def asgs : List Pt → List B → Sl → Option Sl
  | [], [], σ => some σ
  | p :: ps, x :: xs, σ => (asg p x σ).bind fun σ2 => asgs ps xs σ2
  | _, _, _ => none
termination_by structural x => x
end
def asgD (is : List Nat) (x : D) (σ : Sl) : Option Sl := match x with
  | .b (.tup xs) => putAll is (xs.map .b) σ
  | .b (.lst xs) => putAll is (xs.map .b) σ
  | .mix xs => putAll is xs σ
  | _ => none
def zipB : List B → List B → List B
  | x :: xs, y :: ys => .tup [x, y] :: zipB xs ys
  | _, _ => []
def rngB (lo : Int) (n : Nat) : List B := (List.range n).map fun i => .int (lo + (i : Nat))
def rngC (lo c : Int) (n : Nat) : List B := (List.range n).map fun i => .int (lo + (i : Nat) * c)
def rOk (i : Int) : Bool := decide (-(2 ^ 62) ≤ i ∧ i < 2 ^ 62)
def tupD : D → Option (List B)
  | .b (.tup xs) => some xs
  | _ => none
/-- the items that are walked -/
def items (S : Store) (k : Ik) (vs : List D) : Option (List B) := match k, vs with
  | .sq, [.b (.dic kvs)] => some (keysOf kvs)
  | .sq, [x] => seqD S x
  | .dv, [.b (.dic kvs)] => some (keysOf kvs)
  | .dv, [.ref n] => (match S[n]? with
    | some (.lockd kvs) => some (keysOf kvs)
    | _ => none)
  | .r1, [.b (.int j)] => if rOk j then some (rngB 0 j.toNat) else none
  | .r2, [.b (.int i), .b (.int j)] => if rOk i && rOk j then some (rngB i (j - i).toNat) else none
  | .r3, [.b (.int i), .b (.int j), .b (.int c)] => if c ≠ 0 ∧ c.natAbs < 1073741824 ∧ PySem.Builtin.Range.small i j c = true ∧ 0 ≤ PySem.Builtin.Range.rangeSize i j c then some (rngC i c (PySem.Builtin.Range.rangeSize i j c).toNat) else none
  | .zip, [x, y] => (match tupD x, tupD y with
    | some xs, some ys => some (zipB xs ys)
    | _, _ => (lsqD S x).bind fun xs => (lsqD S y).map fun ys => zipB xs ys)
  | .zr, [x, y] => (lsqD S x).bind fun xs => (seqD S y).map fun ys => zipB xs.reverse ys
  | .rr, [.b (.int j)] => if rOk j then some (rngB 0 j.toNat).reverse else none
  | .rs, [x] => (seqD S x).map List.reverse
  | _, _ => none
def lock (S : Store) : D → Store
  | .ref n => (match S[n]? with
    | some (.lst xs) => S.set n (.lockl xs)
    | some (.dic kvs) => S.set n (.lockd kvs)
    | _ => S)
  | _ => S
/-- behind a walk: the locked object is as it was (S ahead, S' behind) -/
def unlock (S S' : Store) : D → Option Store
  | .ref n => (match S[n]? with
    | some (.lst xs) => (match S'[n]? with
      | some (.lockl ys) => some (S'.set n (.lst ys))
      | _ => none)
    | some (.dic kvs) => (match S'[n]? with
      | some (.lockd ys) => some (S'.set n (.dic ys))
      | _ => none)
    | _ => some S')
  | _ => some S'
def lockAll (S : Store) : List D → Store
  | [] => S
  | x :: r => lockAll (lock S x) r
def unlockAll (S S' : Store) : List D → Option Store
  | [] => some S'
  | x :: r => (unlock S S' x).bind fun S2 => unlockAll S S2 r
def wipe (σ : Sl) : List Nat → Sl
  | [] => σ
  | v :: vs => (wipe σ vs).set v none
/-! ### the machine -/
/-- the parts of the machine: what a call gives (one level lower; two levels lower), tables, where the function's own objects begin -/
structure Par where
  C : Nat → Nat → List D → Store → Option (D × Store)
  C2 : Nat → Nat → List D → Store → Option (D × Store)
  init : Nat → Option (Nat × Bool)
  meth : Nat → Nat → Option Nat
  fo : Nat → Nat → Bool
  base : Nat
  eqm : Nat → Option Nat
/-- fields that can be compared -/
def okF1 : B → Bool
  | .ins _ fs => fs.all fun p => eqOk 12 p.2
  | x => eqOk 12 x
def okF (fs : List (Nat × B)) : Bool := fs.all fun p => okF1 p.2
open Classical in
/-- == of two items inside a tuple: an own == is called -/
noncomputable def eqE (P : Par) (x y : B) (S : Store) : Option (Bool × Store) := if eqOk 12 x && eqOk 12 y then some (eqB x y, S) else match x, y with
  | .ins c fs, .ins d gs => if c = d ∧ okF fs = true ∧ okF gs = true then (P.eqm c).bind fun f => (P.C2 P.base f [.b x, .b y] S).bind fun r => (match r.1 with
      | .b (.bl z) => if z = eqFs fs gs ∧ r.2 = S then some (z, S) else none
      | _ => none) else none
  | _, _ => none
noncomputable def eqL (P : Par) : List B → List B → Store → Option (Bool × Store)
  | x :: xs, y :: ys, S => (eqE P x y S).bind fun r => if r.1 then eqL P xs ys r.2 else some (false, r.2)
  | [], [], S => some (true, S)
  | _, _, S => some (false, S)
/-- what an instance of class c may be compared with -/
def okY (S : Store) (c : Nat) : D → Bool
  | .b (.ins d _) => decide (d = c)
  | y => (kn S y).isSome
/-- == where an own == may be called -/
noncomputable def eqo (P : Par) (S : Store) (x y : D) : Option (Bool × Store) := match x with
  | .b (.ins c fs) => if okY S c y then (P.eqm c).bind fun f => (P.C P.base f [.b (.ins c fs), y] S).bind fun r => (match r.1 with
      | .b (.bl z) => some (z, r.2)
      | _ => none) else none
  | .b (.tup xs) => (match cmp S .eq (.b (.tup xs)) y with
    | some r => some (r, S)
    | none => (match y with
      | .b (.tup ys) => eqL P xs ys S
      | _ => none))
  | x => (cmp S .eq x y).map fun r => (r, S)
/-- isinstance of an own class -/
def isc (S : Store) (c : Nat) : D → Option Bool
  | .b (.ins d _) => if d = c then some true else none
  | x => (kn S x).map fun _ => false
def lcL (f : Sl → Store → Option (Option B × Store)) (g : Pt) : List B → Sl → Store → Option (List B × Store)
  | [], _, S => some ([], S)
  | x :: r, σ, S => (asg g x σ).bind fun σ2 => (f σ2 S).bind fun p => (lcL f g r σ p.2).map fun q => match p.1 with
    | some y => (y :: q.1, q.2)
    | none => q
def dcL (f : Sl → Store → Option (Option (Kd × B) × Store)) (g : Pt) : List B → Sl → Store → List (Kd × B) → Option (List (Kd × B) × Store)
  | [], _, S, a => some (a, S)
  | x :: r, σ, S, a => (asg g x σ).bind fun σ2 => (f σ2 S).bind fun p => dcL f g r σ p.2 (match p.1 with
    | some y => dput a y.1 y.2
    | none => a)
def asB : D × Store → Option (B × Store)
  | (.b x, S) => some (x, S)
  | _ => none
def flat2 : List D → Option (List (Kd × B))
  | [] => some []
  | .b k :: .b v :: r => (keyB k).bind fun k => (flat2 r).map ((k, v) :: ·)
  | _ => none
/-- a slot without anything at n or above -/
def low (n : Nat) : Option D → Bool
  | none => true
  | some (.b _) => true
  | some (.ref m) => decide (m < n)
  | some (.mix _) => false
def noIns : O → Bool
  | .ins _ _ => false
  | _ => true
/-- below, no instance was given anything -/
def keepIns (S S2 : Store) : Prop := (S2.take S.length).all noIns = true ∨ ∀ n, n < S.length → ∀ c fs, S2[n]? = some (.ins c fs) → S[n]? = some (.ins c fs)
noncomputable instance keepIns.dec (S S2 : Store) : Decidable (keepIns S S2) := Classical.propDecidable _
noncomputable section
mutual
def ev (P : Par) : E → Sl → Store → Option (D × Store)
  | .v i, σ, S => (match σ[i]? with
    | some (some d) => some (d, S)
    | _ => none)
  | .k x, _, S => some (.b x, S)
  | .nop, _, S => some (.b .non, S)
  | .nev, _, _ => none
  | .bin o a b, σ, S => (ev P a σ S).bind fun x => (ev P b σ x.2).bind fun y => (bin y.2 o x.1 y.1).map fun z => (z, y.2)
  | .neg a, σ, S => (ev P a σ S).bind fun x => match x.1 with
    | .b (.int i) => some (.b (.int (-i)), x.2)
    | _ => none
  | .inv a, σ, S => (ev P a σ S).bind fun x => match x.1 with
    | .b (.int i) => some (.b (.int (PySem.Builtin.bitNot i)), x.2)
    | _ => none
  | .not a, σ, S => (ev P a σ S).bind fun x => (truth x.2 x.1).map fun c => (.b (.bl !c), x.2)
  | .cmp o a b, σ, S => (ev P a σ S).bind fun x => (ev P b σ x.2).bind fun y => (cmp y.2 o x.1 y.1).map fun z => (.b (.bl z), y.2)
  | .chn o p a b c, σ, S => (ev P a σ S).bind fun x => (ev P b σ x.2).bind fun y => (cmp y.2 o x.1 y.1).bind fun r =>
    if r then (ev P c σ y.2).bind fun z => (cmp z.2 p y.1 z.1).map fun q => (.b (.bl q), z.2) else some (.b (.bl false), y.2)
  | .and a b, σ, S => (ev P a σ S).bind fun x => (truth x.2 x.1).bind fun c => if c then ev P b σ x.2 else some x
  | .or a b, σ, S => (ev P a σ S).bind fun x => (truth x.2 x.1).bind fun c => if c then some x else ev P b σ x.2
  | .ite t a b, σ, S => (ev P t σ S).bind fun x => (truth x.2 x.1).bind fun c => if c then ev P a σ x.2 else ev P b σ x.2
  | .tup es, σ, S => (evs P es σ S).bind fun p => if p.1.length ≤ SZ then some (mkTup p.1, p.2) else none
  | .lst m es, σ, S => (evs P es σ S).bind fun p => (allB p.1).bind fun xs => newL p.2 m xs
  | .dnew m, _, S => newD S m []
  | .dic es, σ, S => (evs P es σ (S ++ [.dic []])).bind fun p => match p.2[S.length]? with
    | some (.dic []) => (flat2 p.1).bind fun kvs => if kvs.length ≤ 15 then some (.ref S.length, p.2.set S.length (.dic (dmerge [] kvs))) else none
    | _ => none
  | .idx a i, σ, S => (ev P a σ S).bind fun x => (ev P i σ x.2).bind fun y => (idx y.2 x.1 y.1).map fun z => (z, y.2)
  | .slc a l h, σ, S => (ev P a σ S).bind fun x => (ev P l σ x.2).bind fun y => (ev P h σ y.2).bind fun z => (slc z.2 x.1 y.1 z.1).map fun r => (r, z.2)
  | .rev a, σ, S => (ev P a σ S).bind fun x => (lstD x.2 x.1).map fun xs => (.b (.lst xs.reverse), x.2)
  | .att a f, σ, S => (ev P a σ S).bind fun x => (getf P.fo x.2 x.1 f).map fun z => (z, x.2)
  | .call f es, σ, S => (evs P es σ S).bind fun p => P.C P.base f p.1 p.2
  | .meth o m es, σ, S => (ev P o σ S).bind fun x => (clsOf x.2 m x.1).bind fun c => (P.meth c m).bind fun f => (evs P es σ x.2).bind fun p => P.C P.base f (x.1 :: p.1) p.2
  | .make c es, σ, S => (evs P es σ S).bind fun p => (P.init c).bind fun q =>
    if q.2 then (P.C2 p.2.length q.1 (.ref p.2.length :: p.1) (p.2 ++ [.ins c []])).bind fun r => if isNon r.1 then (frz r.2 p.2.length 8 (.ref p.2.length)).map fun x => (.b x, r.2.take p.2.length) else none
    else (P.C2 P.base q.1 (.ref p.2.length :: p.1) (p.2 ++ [.ins c []])).bind fun r => if isNon r.1 then some (.ref p.2.length, r.2) else none
  | .bi b m es, σ, S => (evs P es σ S).bind fun p => bi p.2 b m p.1
  | .mt b o es, σ, S => (ev P o σ S).bind fun x => (evs P es σ x.2).bind fun p => if kd p.2 x.1 = kd x.2 x.1 then mt p.2 b x.1 p.1 else none
  | .cat a b, σ, S => (ev P a σ S).bind fun x => (ev P b σ x.2).bind fun y => (lstD y.2 x.1).bind fun xs => (lstD y.2 y.1).bind fun ys => newL y.2 true (xs ++ ys)
  | .lc m g k es t e w, σ, S => (evs P es σ S).bind fun p => (items p.2 k p.1).bind fun xs => if xs.length ≤ SZ then
      (lcL (fun σ2 S2 => (ev P t σ2 S2).bind fun c => (truth c.2 c.1).bind fun c1 => if c1 then (ev P e σ2 c.2).bind fun y => (asB y).map fun z => (some z.1, z.2) else some (none, c.2)) g xs (wipe σ w) (lockAll p.2 p.1)).bind fun q =>
        (unlockAll p.2 q.2 p.1).bind fun S3 => newL S3 m q.1 else none
  | .dc m g k es t ke e w, σ, S => (evs P es σ S).bind fun p => (items p.2 k p.1).bind fun xs => if xs.length ≤ SZ then
      (dcL (fun σ2 S2 => (ev P t σ2 S2).bind fun c => (truth c.2 c.1).bind fun c1 => if c1 then (ev P ke σ2 c.2).bind fun x => (keyD x.1).bind fun k => (ev P e σ2 x.2).bind fun y => (asB y).map fun z => (some (k, z.1), z.2) else some (none, c.2)) g xs (wipe σ w) (lockAll p.2 p.1) []).bind fun q =>
        (unlockAll p.2 q.2 p.1).bind fun S3 => newD S3 m q.1 else none
  | .pick es i, σ, S => (evs P es σ S).bind fun p => (ev P i σ p.2).bind fun y => match y.1 with
    | .b (.int k) => if p.1.length ≤ SZ then (L2.atI p.1 k).map fun z => (z, y.2) else none
    | _ => none
  | .lkd i e, σ, S => (match σ[i]? with
    | some (some (.ref n)) => (match S[n]? with
      | some (.dic _) => (ev P e σ (lockAll S [.ref n])).bind fun r => (unlockAll S r.2 [.ref n]).map fun S3 => (r.1, S3)
      | _ => ev P e σ S)
    | _ => ev P e σ S)
  | .fz e, σ, S => (ev P e σ S).bind fun r => if keepIns S r.2 then (frz r.2 S.length 8 r.1).map fun x => (.b x, r.2.take S.length) else none
  | .eqo a b, σ, S => (ev P a σ S).bind fun x => (ev P b σ x.2).bind fun y => (eqo P y.2 x.1 y.1).map fun r => (.b (.bl r.1), r.2)
  | .isc c a, σ, S => (ev P a σ S).bind fun x => (isc x.2 c x.1).map fun r => (.b (.bl r), x.2)
  | .revt a, σ, S => (ev P a σ S).bind fun x => match x.1 with
    | .b (.tup xs) => some (.b (.tup xs.reverse), x.2)
    | _ => none
def evs (P : Par) : List E → Sl → Store → Option (List D × Store)
  | [], _, S => some ([], S)
  | e :: r, σ, S => (ev P e σ S).bind fun x => (evs P r σ x.2).map fun y => (x.1 :: y.1, y.2)
end
inductive Fl where
  | nx | rt (d : D) | ct
abbrev Rs := Option (Fl × Sl × Store)
def whileL (t : Sl → Store → Option (Bool × Store)) (f : Sl → Store → Rs) : Nat → Sl → Store → Rs
  | 0, _, _ => none
  | n + 1, σ, S => (t σ S).bind fun c => if c.1 then (f σ c.2).bind fun r => match r with
      | (.rt d, σ2, S2) => some (.rt d, σ2, S2)
      | (_, σ2, S2) => whileL t f n σ2 S2
    else some (.nx, σ, c.2)
def forL (f : Sl → Store → Rs) (g : Pt) : List B → Sl → Store → Rs
  | [], σ, S => some (.nx, σ, S)
  | x :: r, σ, S => (asg g x σ).bind fun σ2 => (f σ2 S).bind fun q => match q with
      | (.rt d, σ3, S3) => some (.rt d, σ3, S3)
      | (_, σ3, S3) => forL f g r σ3 S3
def WF : Nat := 1000000000000
/-- the end of a def: val: the answer never changes, the def's own objects are forgotten -/
def fin (val : Bool) (base : Nat) (d : D) (S : Store) : Option (D × Store) := if val then (frz S base 8 d).map fun y => (.b y, S.take base) else some (d, S)
mutual
def exec (P : Par) : St → Sl → Store → Rs
  | .set i e, σ, S => (ev P e σ S).map fun x => (.nx, σ.set i (some x.1), x.2)
  | .unp is e, σ, S => (ev P e σ S).bind fun x => (asgD is x.1 σ).map fun σ2 => (.nx, σ2, x.2)
  | .aug i o e, σ, S => (match σ[i]? with
    | some (some (.b (.int a))) => (ev P e σ S).bind fun y => (match y.1 with
      | .b (.int c) => (arith o a c).map fun z => (.nx, σ.set i (some (.b (.int z))), y.2)
      | _ => none)
    | _ => none)
  | .seti o i e, σ, S => (ev P e σ S).bind fun v => (ev P o σ v.2).bind fun x => (ev P i σ x.2).bind fun y => (seti y.2 x.1 y.1 v.1).map fun S2 => (.nx, σ, S2)
  | .augi o i p e, σ, S => (ev P o σ S).bind fun x => (ev P i σ x.2).bind fun y => (idx y.2 x.1 y.1).bind fun old => (ev P e σ y.2).bind fun z => (match old, z.1 with
    | .b (.int a), .b (.int c) => (arith p a c).bind fun w => (seti z.2 x.1 y.1 (.b (.int w))).map fun S2 => (.nx, σ, S2)
    | _, _ => none)
  | .setf o f e, σ, S => (ev P e σ S).bind fun v => (ev P o σ v.2).bind fun x => (setf P.fo P.base x.2 x.1 f v.1).map fun S2 => (.nx, σ, S2)
  | .augf o f p e, σ, S => (ev P o σ S).bind fun x => (getf P.fo x.2 x.1 f).bind fun old => (ev P e σ x.2).bind fun z => (match old, z.1 with
    | .b (.int a), .b (.int c) => if insC z.2 x.1 = insC x.2 x.1 then (arith p a c).bind fun w => (setf P.fo P.base z.2 x.1 f (.b (.int w))).map fun S2 => (.nx, σ, S2) else none
    | _, _ => none)
  | .iff t a b, σ, S => (ev P t σ S).bind fun x => (truth x.2 x.1).bind fun c => if c then execs P a σ x.2 else execs P b σ x.2
  | .whl t b, σ, S => whileL (fun σ2 S2 => (ev P t σ2 S2).bind fun x => (truth x.2 x.1).map fun c => (c, x.2)) (fun σ2 S2 => execs P b σ2 S2) WF σ S
  | .for g k es b, σ, S => (evs P es σ S).bind fun p => (items p.2 k p.1).bind fun xs =>
      (forL (fun σ2 S2 => execs P b σ2 S2) g xs σ (lockAll p.2 p.1)).bind fun r => (unlockAll p.2 r.2.2 p.1).map fun S3 => (r.1, r.2.1, S3)
  | .ret e, σ, S => (ev P e σ S).map fun x => (.rt x.1, σ, x.2)
  | .retn, σ, S => some (.rt (.b .non), σ, S)
  | .ex e, σ, S => (ev P e σ S).map fun x => (.nx, σ, x.2)
  | .cont, σ, S => some (.ct, σ, S)
  | .blk i b, σ, S => (execs P b σ S).bind fun q => match q with
    | (.nx, σ2, S2) => if keepIns S S2 ∧ (σ2.set i none).all (low S.length) = true then (match σ2[i]? with
        | some (some d) => (frz S2 S.length 8 d).map fun y => (.nx, σ2.set i (some (.b y)), S2.take S.length)
        | _ => none) else none
    | _ => none
  | .lks i s, σ, S => (match σ[i]? with
    | some (some (.ref n)) => (match S[n]? with
      | some (.dic _) => (exec P s σ (lockAll S [.ref n])).bind fun r => (unlockAll S r.2.2 [.ref n]).map fun S3 => (r.1, r.2.1, S3)
      | _ => exec P s σ S)
    | _ => exec P s σ S)
def execs (P : Par) : List St → Sl → Store → Rs
  | [], σ, S => some (.nx, σ, S)
  | s :: r, σ, S => (exec P s σ S).bind fun q => match q with
    | (.nx, σ2, S2) => execs P r σ2 S2
    | q => some q
end
/-- a def: parameters, slots, whether its answer never changes, body -/
structure Fd where
  np : Nat
  ns : Nat
  val : Bool
  body : List St
structure Tab where
  fn : Nat → Option Fd
  init : Nat → Option (Nat × Bool)
  meth : Nat → Nat → Option Nat
  fo : Nat → Nat → Bool
  eqm : Nat → Option Nat
def start (n : Nat) (ds : List D) : Sl := ds.map some ++ List.replicate (n - ds.length) none
/-- a call: k levels, base: where the caller's own objects begin -/
def evC (T : Tab) : Nat → Nat → Nat → List D → Store → Option (D × Store)
  | 0, _, _, _, _ => none
  | k + 1, base, f, ds, S => (T.fn f).bind fun fd => if ds.length = fd.np then
      (execs ⟨evC T k, (match k with
        | 0 => fun _ _ _ _ => none
        | j + 1 => evC T j), T.init, T.meth, T.fo, if fd.val then S.length else base, T.eqm⟩ fd.body (start fd.ns ds) S).bind fun q => match q with
        | (.nx, _, S2) => fin fd.val S.length (.b .non) S2
        | (.rt d, _, S2) => fin fd.val S.length d S2
        | (.ct, _, _) => none
    else none
end
end M
/-! MC2: how the small interpreter's data lie in the abstract heap. -/
namespace M
open PySem PySem.Spec PyProof.Rows L2
/-- names: the texts, the attributes and methods, by number -/
structure Nms where
  txts : List PySem.Str
  snd : txts.Nodup
  sok : ∀ x ∈ txts, PySem.PyData.strOk x = true
  flds : List PySem.Str
  fnd : flds.Nodup
/-- what the data lean on: names, the written part, the classes' addresses -/
structure Ct where
  N : Nms
  K : PySem.W.Frag
  cl : Nat → Option Addr
  tp : Hp
/-- .. with other things that stand aside for a while -/
def Ct.w (C : Ct) (tp : Hp) : Ct := ⟨C.N, C.K, C.cl, tp⟩
def RelK (N : Nms) : Kd → L2.Key → Prop
  | .i n, k => k = .inl n
  | .s n, k => ∃ x, N.txts[n]? = some x ∧ k = .inr x
mutual
def RelB (C : Ct) (F : Hp) : B → V → Prop
  | .non, v => v = .non
  | .bl b, v => v = .bl b
  | .int i, v => v = .int i
  | .str n, v => ∃ x, C.N.txts[n]? = some x ∧ v = .str x
  | .tup xs, v => ∃ a vs, v = .ref a ∧ SqT C.K F a vs ∧ RelBs C F xs vs
  | .lst xs, v => ∃ a vs, v = .ref a ∧ F a = some (.lst vs) ∧ RelBs C F xs vs
  | .scr xs, v => ∃ a vs, v = .ref a ∧ SqL C.K F a vs ∧ RelBs C F xs vs
  | .dic kvs, v => ∃ a o ks, v = .ref a ∧ F a = some (.frz o (.dK ks)) ∧ RelBk C F kvs ks
  | .ins c fs, v => ∃ a D dx gs, v = .ref a ∧ C.cl c = some D ∧ F a = some (.ins D dx gs) ∧ F dx = some (.own a) ∧ RelBf C F fs gs
termination_by structural x => x
def RelBs (C : Ct) (F : Hp) : List B → List V → Prop
  | [], vs => vs = []
  | x :: xs, vs => ∃ v r, vs = v :: r ∧ RelB C F x v ∧ RelBs C F xs r
termination_by structural x => x
def RelBk (C : Ct) (F : Hp) : List (Kd × B) → List (L2.Key × V) → Prop
  | [], ks => ks = []
  | p :: xs, ks => ∃ q r, ks = q :: r ∧ RelKp C F p q ∧ RelBk C F xs r
termination_by structural x => x
def RelKp (C : Ct) (F : Hp) : Kd × B → L2.Key × V → Prop
  | (k, x), q => RelK C.N k q.1 ∧ RelB C F x q.2
termination_by structural x => x
def RelBf (C : Ct) (F : Hp) : List (Nat × B) → List (PySem.Str × V) → Prop
  | [], ks => ks = []
  | p :: xs, ks => ∃ q r, ks = q :: r ∧ RelFp C F p q ∧ RelBf C F xs r
termination_by structural x => x
def RelFp (C : Ct) (F : Hp) : Nat × B → PySem.Str × V → Prop
  | (k, x), q => C.N.flds[k]? = some q.1 ∧ RelB C F x q.2
termination_by structural x => x
end
mutual
def RelD (C : Ct) (F : Hp) (ι : List Addr) : D → V → Prop
  | .b x, v => RelB C F x v
  | .ref n, v => ∃ a, ι[n]? = some a ∧ v = .ref a
  | .mix xs, v => ∃ a vs, v = .ref a ∧ SqT C.K F a vs ∧ RelDs C F ι xs vs
termination_by structural x => x
def RelDs (C : Ct) (F : Hp) (ι : List Addr) : List D → List V → Prop
  | [], vs => vs = []
  | x :: xs, vs => ∃ v r, vs = v :: r ∧ RelD C F ι x v ∧ RelDs C F ι xs r
termination_by structural x => x
end
def RelDf (C : Ct) (F : Hp) (ι : List Addr) : List (Nat × D) → List (PySem.Str × V) → Prop
  | [], ks => ks = []
  | (k, x) :: xs, ks => ∃ j v r, ks = (j, v) :: r ∧ C.N.flds[k]? = some j ∧ RelD C F ι x v ∧ RelDf C F ι xs r
def RelO (C : Ct) (F : Hp) (ι : List Addr) (H : Hp) (a : Addr) : O → Prop
  | .lst xs => ∃ vs, H a = some (.lst vs) ∧ RelBs C F xs vs
  | .dic kvs => ∃ ks, H a = some (.dK ks) ∧ RelBk C F kvs ks
  | .ins c fs => ∃ D dx gs, C.cl c = some D ∧ H a = some (.ins D dx gs) ∧ H dx = some (.own a) ∧ RelDf C F ι fs gs
  | .lockl xs => ∃ vs, H a = some (.lst vs) ∧ RelBs C F xs vs
  | .lockd kvs => ∃ o ks, H a = some (.frz o (.dK ks)) ∧ RelBk C F kvs ks ∧ C.tp a = some (.frz o (.dK ks))
def Sub (F H : Hp) : Prop := ∀ a o, F a = some o → H a = some o
theorem Sub.refl (F : Hp) : Sub F F := fun _ _ h => h
theorem Sub.trans {F G H : Hp} (a : Sub F G) (b : Sub G H) : Sub F H := fun x o h => b x o (a x o h)
/-- a dict that is walked -/
def Fz (o : HO) : Prop := ∃ od ks, o = .frz od (.dK ks)
/-- the abstract heap holds the store -/
structure RH (C : Ct) (F : Hp) (ι : List Addr) (S : Store) (H : Hp) : Prop where
  fz : Sub F H
  len : ι.length = S.length
  nd : ι.Nodup
  ob : ∀ (n : Nat) a o, ι[n]? = some a → S[n]? = some o → RelO C F ι H a o
  tm : ∀ a o, C.tp a = some o → H a = some o ∧ F a = none ∧ (a ∉ ι ∨ Fz o) ∧ ∀ b, o ≠ .own b
/-- no object of the store is one that never changes -/
def Fre (F : Hp) (ι : List Addr) : Prop := ∀ a ∈ ι, F a = none
def Le (F : Hp) (ι : List Addr) (F' : Hp) (ι' : List Addr) : Prop := Sub F F' ∧ ∃ κ, ι' = ι ++ κ
theorem Le.refl (F : Hp) (ι : List Addr) : Le F ι F ι := ⟨Sub.refl F, [], by simp⟩
theorem Le.trans {F F1 F2 : Hp} {ι ι1 ι2 : List Addr} (a : Le F ι F1 ι1) (b : Le F1 ι1 F2 ι2) : Le F ι F2 ι2 := by
  obtain ⟨a1, κ, rfl⟩ := a
  obtain ⟨b1, κ2, rfl⟩ := b
  exact ⟨a1.trans b1, κ ++ κ2, by simp⟩
theorem Le.get {F F' : Hp} {ι ι' : List Addr} (l : Le F ι F' ι') {n : Nat} {a : Addr} (h : ι[n]? = some a) : ι'[n]? = some a := by
  obtain ⟨_, κ, rfl⟩ := l
  rw [List.getElem?_append_left (List.getElem?_eq_some_iff.mp h).1]
  exact h
def RelSl (C : Ct) (F : Hp) (ι : List Addr) (sl : Sl) (σ : L2.St) : Prop := sl.length = σ.length ∧ ∀ (i : Nat) d, sl[i]? = some (some d) → ∃ v, σ[i]? = some (some v) ∧ RelD C F ι d v
/-- the state: slots, heap -/
structure RS (C : Ct) (F : Hp) (ι : List Addr) (sl : Sl) (S : Store) (σ : L2.St) (H : Hp) : Prop where
  rh : RH C F ι S H
  fr : Fre F ι
  rs : RelSl C F ι sl σ
/-! ### more is known -/
theorem sqT_mono {K : PySem.W.Frag} {F G : Hp} (h : Sub F G) {a : Addr} {xs : List V} (q : SqT K F a xs) : SqT K G a xs := by
  rcases q with (q | ⟨o, q⟩) | q
  · exact .inl (.inl (h _ _ q))
  · exact .inl (.inr ⟨o, h _ _ q⟩)
  · exact .inr q
theorem sqL_mono {K : PySem.W.Frag} {F G : Hp} (h : Sub F G) {a : Addr} {xs : List V} (q : SqL K F a xs) : SqL K G a xs := by
  rcases q with (q | ⟨o, q⟩) | q
  · exact .inl (.inl (h _ _ q))
  · exact .inl (.inr ⟨o, h _ _ q⟩)
  · exact .inr q
section
variable {C : Ct} {F G : Hp} (h : Sub F G)
include h
mutual
theorem RelB.mono : ∀ (x : B) (v : V), RelB C F x v → RelB C G x v
  | .non, _, q => q
  | .bl _, _, q => q
  | .int _, _, q => q
  | .str _, _, q => q
  | .tup xs, v, q => by
    obtain ⟨a, vs, e, h1, h2⟩ := q
    exact ⟨a, vs, e, sqT_mono h h1, RelBs.mono xs vs h2⟩
  | .lst xs, v, q => by
    obtain ⟨a, vs, e, h1, h2⟩ := q
    exact ⟨a, vs, e, h _ _ h1, RelBs.mono xs vs h2⟩
  | .scr xs, v, q => by
    obtain ⟨a, vs, e, h1, h2⟩ := q
    exact ⟨a, vs, e, sqL_mono h h1, RelBs.mono xs vs h2⟩
  | .dic kvs, v, q => by
    obtain ⟨a, o, ks, e, h1, h2⟩ := q
    exact ⟨a, o, ks, e, h _ _ h1, RelBk.mono kvs ks h2⟩
  | .ins c fs, v, q => by
    obtain ⟨a, D, dx, gs, e, h0, h1, h2, h3⟩ := q
    exact ⟨a, D, dx, gs, e, h0, h _ _ h1, h _ _ h2, RelBf.mono fs gs h3⟩
theorem RelBs.mono : ∀ (xs : List B) (vs : List V), RelBs C F xs vs → RelBs C G xs vs
  | [], _, q => q
  | x :: xs, _, q => by
    obtain ⟨v, r, e, h1, h2⟩ := q
    exact ⟨v, r, e, RelB.mono x v h1, RelBs.mono xs r h2⟩
theorem RelBk.mono : ∀ (xs : List (Kd × B)) (vs : List (L2.Key × V)), RelBk C F xs vs → RelBk C G xs vs
  | [], _, q => q
  | p :: xs, _, q => by
    obtain ⟨j, r, e, h1, h2⟩ := q
    exact ⟨j, r, e, RelKp.mono p j h1, RelBk.mono xs r h2⟩
theorem RelKp.mono : ∀ (p : Kd × B) (q : L2.Key × V), RelKp C F p q → RelKp C G p q
  | (_, x), q, h => ⟨h.1, RelB.mono x q.2 h.2⟩
theorem RelBf.mono : ∀ (xs : List (Nat × B)) (vs : List (PySem.Str × V)), RelBf C F xs vs → RelBf C G xs vs
  | [], _, q => q
  | p :: xs, _, q => by
    obtain ⟨j, r, e, h1, h2⟩ := q
    exact ⟨j, r, e, RelFp.mono p j h1, RelBf.mono xs r h2⟩
theorem RelFp.mono : ∀ (p : Nat × B) (q : PySem.Str × V), RelFp C F p q → RelFp C G p q
  | (_, x), q, h => ⟨h.1, RelB.mono x q.2 h.2⟩
end
end
section
variable {C : Ct} {F G : Hp} {ι κ : List Addr} (h : Le F ι G κ)
include h
mutual
theorem RelD.mono : ∀ (x : D) (v : V), RelD C F ι x v → RelD C G κ x v
  | .b x, v, q => RelB.mono h.1 x v q
  | .ref n, v, q => by
    obtain ⟨a, e, ev⟩ := q
    exact ⟨a, h.get e, ev⟩
  | .mix xs, v, q => by
    obtain ⟨a, vs, e, h1, h2⟩ := q
    exact ⟨a, vs, e, sqT_mono h.1 h1, RelDs.mono xs vs h2⟩
theorem RelDs.mono : ∀ (xs : List D) (vs : List V), RelDs C F ι xs vs → RelDs C G κ xs vs
  | [], _, q => q
  | x :: xs, _, q => by
    obtain ⟨v, r, e, h1, h2⟩ := q
    exact ⟨v, r, e, RelD.mono x v h1, RelDs.mono xs r h2⟩
end
theorem RelDf.mono : ∀ (xs : List (Nat × D)) (vs : List (PySem.Str × V)), RelDf C F ι xs vs → RelDf C G κ xs vs
  | [], _, q => q
  | (k, x) :: xs, _, q => by
    obtain ⟨j, v, r, e, h0, h1, h2⟩ := q
    exact ⟨j, v, r, e, h0, RelD.mono h x v h1, RelDf.mono xs r h2⟩
theorem RelSl.mono {sl : Sl} {σ : L2.St} (q : RelSl C F ι sl σ) : RelSl C G κ sl σ := ⟨q.1, fun i d e => by
  obtain ⟨v, e1, r⟩ := q.2 i d e
  exact ⟨v, e1, RelD.mono h d v r⟩⟩
end
theorem RS.to {C : Ct} {F G : Hp} {ι κ : List Addr} {sl : Sl} {S S' : Store} {σ : L2.St} {H H' : Hp} (r : RS C F ι sl S σ H) (l : Le F ι G κ) (rh : RH C G κ S' H') (fr : Fre G κ) : RS C G κ sl S' σ H' := ⟨rh, fr, r.rs.mono l⟩
/-! ### the things aside are of no account to values -/
section
variable {C : Ct} {tp F : Hp} {ι : List Addr}
mutual
theorem RelB.w : ∀ (x : B) (v : V), RelB C F x v → RelB (C.w tp) F x v
  | .non, _, q => q
  | .bl _, _, q => q
  | .int _, _, q => q
  | .str _, _, q => q
  | .tup xs, v, q => by
    obtain ⟨a, vs, e, h1, h2⟩ := q
    exact ⟨a, vs, e, h1, RelBs.w xs vs h2⟩
  | .lst xs, v, q => by
    obtain ⟨a, vs, e, h1, h2⟩ := q
    exact ⟨a, vs, e, h1, RelBs.w xs vs h2⟩
  | .scr xs, v, q => by
    obtain ⟨a, vs, e, h1, h2⟩ := q
    exact ⟨a, vs, e, h1, RelBs.w xs vs h2⟩
  | .dic kvs, v, q => by
    obtain ⟨a, o, ks, e, h1, h2⟩ := q
    exact ⟨a, o, ks, e, h1, RelBk.w kvs ks h2⟩
  | .ins c fs, v, q => by
    obtain ⟨a, D, dx, gs, e, h0, h1, h2, h3⟩ := q
    exact ⟨a, D, dx, gs, e, h0, h1, h2, RelBf.w fs gs h3⟩
theorem RelBs.w : ∀ (xs : List B) (vs : List V), RelBs C F xs vs → RelBs (C.w tp) F xs vs
  | [], _, q => q
  | x :: xs, _, q => by
    obtain ⟨v, r, e, h1, h2⟩ := q
    exact ⟨v, r, e, RelB.w x v h1, RelBs.w xs r h2⟩
theorem RelBk.w : ∀ (xs : List (Kd × B)) (vs : List (L2.Key × V)), RelBk C F xs vs → RelBk (C.w tp) F xs vs
  | [], _, q => q
  | p :: xs, _, q => by
    obtain ⟨j, r, e, h1, h2⟩ := q
    exact ⟨j, r, e, RelKp.w p j h1, RelBk.w xs r h2⟩
theorem RelKp.w : ∀ (p : Kd × B) (q : L2.Key × V), RelKp C F p q → RelKp (C.w tp) F p q
  | (_, x), q, h => ⟨h.1, RelB.w x q.2 h.2⟩
theorem RelBf.w : ∀ (xs : List (Nat × B)) (vs : List (PySem.Str × V)), RelBf C F xs vs → RelBf (C.w tp) F xs vs
  | [], _, q => q
  | p :: xs, _, q => by
    obtain ⟨j, r, e, h1, h2⟩ := q
    exact ⟨j, r, e, RelFp.w p j h1, RelBf.w xs r h2⟩
theorem RelFp.w : ∀ (p : Nat × B) (q : PySem.Str × V), RelFp C F p q → RelFp (C.w tp) F p q
  | (_, x), q, h => ⟨h.1, RelB.w x q.2 h.2⟩
end
mutual
theorem RelD.w : ∀ (x : D) (v : V), RelD C F ι x v → RelD (C.w tp) F ι x v
  | .b x, v, q => RelB.w x v q
  | .ref n, v, q => q
  | .mix xs, v, q => by
    obtain ⟨a, vs, e, h1, h2⟩ := q
    exact ⟨a, vs, e, h1, RelDs.w xs vs h2⟩
theorem RelDs.w : ∀ (xs : List D) (vs : List V), RelDs C F ι xs vs → RelDs (C.w tp) F ι xs vs
  | [], _, q => q
  | x :: xs, _, q => by
    obtain ⟨v, r, e, h1, h2⟩ := q
    exact ⟨v, r, e, RelD.w x v h1, RelDs.w xs r h2⟩
end
theorem RelDf.w : ∀ (xs : List (Nat × D)) (vs : List (PySem.Str × V)), RelDf C F ι xs vs → RelDf (C.w tp) F ι xs vs
  | [], _, q => q
  | (k, x) :: xs, _, q => by
    obtain ⟨j, v, r, e, h0, h1, h2⟩ := q
    exact ⟨j, v, r, e, h0, RelD.w x v h1, RelDf.w xs r h2⟩
theorem RelO.w {H : Hp} {a : Addr} {o : O} (hk : ∀ od ks, C.tp a = some (.frz od (.dK ks)) → tp a = some (.frz od (.dK ks))) (r : RelO C F ι H a o) : RelO (C.w tp) F ι H a o := by
  cases o with
  | lst xs => obtain ⟨vs, e, q⟩ := r; exact ⟨vs, e, RelBs.w _ _ q⟩
  | dic xs => obtain ⟨vs, e, q⟩ := r; exact ⟨vs, e, RelBk.w _ _ q⟩
  | ins c fs => obtain ⟨D, dx, gs, e1, e2, e3, q⟩ := r; exact ⟨D, dx, gs, e1, e2, e3, RelDf.w _ _ q⟩
  | lockl xs => obtain ⟨vs, e, q⟩ := r; exact ⟨vs, e, RelBs.w _ _ q⟩
  | lockd xs => obtain ⟨o, vs, e, q⟩ := r; exact ⟨o, vs, e, RelBk.w _ _ q.1, hk _ _ q.2⟩
theorem RelSl.w {sl : Sl} {σ : L2.St} (q : RelSl C F ι sl σ) : RelSl (C.w tp) F ι sl σ := ⟨q.1, fun i d e => by
  obtain ⟨v, e1, r⟩ := q.2 i d e
  exact ⟨v, e1, RelD.w d v r⟩⟩
end
/-! ### lists of values -/
section
variable {C : Ct} {F : Hp} {ι : List Addr}
theorem RelBs.length : ∀ {xs : List B} {vs : List V}, RelBs C F xs vs → xs.length = vs.length
  | [], _, h => by
    cases (show _ = [] from h)
    rfl
  | x :: xs, _, h => by
    obtain ⟨v, r, rfl, _, h2⟩ := h
    rw [List.length_cons, List.length_cons, RelBs.length h2]
theorem RelBs.get : ∀ {xs : List B} {vs : List V} {i : Nat} {x : B}, RelBs C F xs vs → xs[i]? = some x → ∃ v, vs[i]? = some v ∧ RelB C F x v
  | [], _, _, _, _, e => by simp at e
  | y :: ys, _, 0, x, h, e => by
    obtain ⟨v, r, rfl, h1, h2⟩ := h
    simp at e
    subst e
    exact ⟨v, rfl, h1⟩
  | y :: ys, _, i + 1, x, h, e => by
    obtain ⟨v, r, rfl, h1, h2⟩ := h
    exact RelBs.get (i := i) h2 (by simpa using e)
theorem RelBs.append : ∀ {xs ys : List B} {vs ws : List V}, RelBs C F xs vs → RelBs C F ys ws → RelBs C F (xs ++ ys) (vs ++ ws)
  | [], _, _, _, h, h' => by
    cases (show _ = [] from h)
    exact h'
  | x :: xs, _, _, _, h, h' => by
    obtain ⟨v, r, rfl, h1, h2⟩ := h
    exact ⟨v, _, rfl, h1, RelBs.append h2 h'⟩
theorem RelBs.take : ∀ {xs : List B} {vs : List V} (n : Nat), RelBs C F xs vs → RelBs C F (xs.take n) (vs.take n)
  | _, _, 0, _ => by
    rw [List.take_zero, List.take_zero]
    rfl
  | [], _, n + 1, h => by
    cases (show _ = [] from h)
    rfl
  | x :: xs, _, n + 1, h => by
    obtain ⟨v, r, rfl, h1, h2⟩ := h
    exact ⟨v, _, rfl, h1, RelBs.take n h2⟩
theorem RelBs.drop : ∀ {xs : List B} {vs : List V} (n : Nat), RelBs C F xs vs → RelBs C F (xs.drop n) (vs.drop n)
  | _, _, 0, h => h
  | [], _, n + 1, h => by
    cases (show _ = [] from h)
    rfl
  | x :: xs, _, n + 1, h => by
    obtain ⟨v, r, rfl, h1, h2⟩ := h
    exact RelBs.drop n h2
theorem RelBs.one {x : B} {v : V} (h : RelB C F x v) : RelBs C F [x] [v] := ⟨v, [], rfl, h, rfl⟩
theorem RelBs.reverse : ∀ {xs : List B} {vs : List V}, RelBs C F xs vs → RelBs C F xs.reverse vs.reverse
  | [], _, h => by
    cases (show _ = [] from h)
    rfl
  | x :: xs, _, h => by
    obtain ⟨v, r, rfl, h1, h2⟩ := h
    rw [List.reverse_cons, List.reverse_cons]
    exact RelBs.append (RelBs.reverse h2) (RelBs.one h1)
theorem RelBs.flat {xs : List B} {vs : List V} (h : RelBs C F xs vs) : ∀ k : Nat, RelBs C F (List.replicate k xs).flatten (List.replicate k vs).flatten
  | 0 => rfl
  | k + 1 => by
    rw [List.replicate_succ, List.replicate_succ, List.flatten_cons, List.flatten_cons]
    exact RelBs.append h (RelBs.flat h k)
theorem RelBs.set : ∀ {xs : List B} {vs : List V} {y : B} {w : V} (i : Nat), RelBs C F xs vs → RelB C F y w → RelBs C F (xs.set i y) (vs.set i w)
  | [], _, _, _, _, h, _ => by
    cases (show _ = [] from h)
    rfl
  | x :: xs, _, y, w, 0, h, hw => by
    obtain ⟨v, r, rfl, h1, h2⟩ := h
    exact ⟨w, r, rfl, hw, h2⟩
  | x :: xs, _, y, w, i + 1, h, hw => by
    obtain ⟨v, r, rfl, h1, h2⟩ := h
    exact ⟨v, _, rfl, h1, RelBs.set i h2 hw⟩
theorem RelBs.erase : ∀ {xs : List B} {vs : List V} (i : Nat), RelBs C F xs vs → RelBs C F (xs.eraseIdx i) (vs.eraseIdx i)
  | [], _, _, h => by
    cases (show _ = [] from h)
    rfl
  | x :: xs, _, 0, h => by
    obtain ⟨v, r, rfl, h1, h2⟩ := h
    exact h2
  | x :: xs, _, i + 1, h => by
    obtain ⟨v, r, rfl, h1, h2⟩ := h
    exact ⟨v, _, rfl, h1, RelBs.erase i h2⟩
theorem RelBs.dropLast {xs : List B} {vs : List V} (h : RelBs C F xs vs) : RelBs C F xs.dropLast vs.dropLast := by
  rw [List.dropLast_eq_take, List.dropLast_eq_take, h.length]
  exact h.take _
theorem RelBs.ints : ∀ {xs : List B} {ns : List Int} {vs : List V}, RelBs C F xs vs → intsB xs = some ns → vs = ns.map V.int
  | [], ns, _, h, e => by
    cases (show _ = [] from h)
    cases e
    rfl
  | x :: xs, ns, _, h, e => by
    obtain ⟨v, r, rfl, h1, h2⟩ := h
    cases x <;> try (cases e; done)
    rename_i i
    have e' : (intsB xs).map (i :: ·) = some ns := e
    cases q : intsB xs with
    | none => rw [q] at e'; cases e'
    | some ms =>
      rw [q] at e'
      cases e'
      rw [RelBs.ints h2 q]
      cases (show v = .int i from h1)
      rfl
theorem RelBs.of_ints : ∀ {ns : List Int}, RelBs C F (ns.map B.int) (ns.map V.int)
  | [] => rfl
  | n :: ns => ⟨_, _, rfl, rfl, RelBs.of_ints⟩
theorem RelBs.bools : ∀ {xs : List B} {ns : List Bool} {vs : List V}, RelBs C F xs vs → boolsB xs = some ns → vs = ns.map V.bl
  | [], ns, _, h, e => by
    cases (show _ = [] from h)
    cases e
    rfl
  | x :: xs, ns, _, h, e => by
    obtain ⟨v, r, rfl, h1, h2⟩ := h
    cases x <;> try (cases e; done)
    rename_i i
    have e' : (boolsB xs).map (i :: ·) = some ns := e
    cases q : boolsB xs with
    | none => rw [q] at e'; cases e'
    | some ms =>
      rw [q] at e'
      cases e'
      rw [RelBs.bools h2 q]
      cases (show v = .bl i from h1)
      rfl
theorem RelDs.length : ∀ {xs : List D} {vs : List V}, RelDs C F ι xs vs → xs.length = vs.length
  | [], _, h => by
    cases (show _ = [] from h)
    rfl
  | x :: xs, _, h => by
    obtain ⟨v, r, rfl, _, h2⟩ := h
    rw [List.length_cons, List.length_cons, RelDs.length h2]
theorem RelDs.get : ∀ {xs : List D} {vs : List V} {i : Nat} {x : D}, RelDs C F ι xs vs → xs[i]? = some x → ∃ v, vs[i]? = some v ∧ RelD C F ι x v
  | [], _, _, _, _, e => by simp at e
  | y :: ys, _, 0, x, h, e => by
    obtain ⟨v, r, rfl, h1, h2⟩ := h
    simp at e
    subst e
    exact ⟨v, rfl, h1⟩
  | y :: ys, _, i + 1, x, h, e => by
    obtain ⟨v, r, rfl, h1, h2⟩ := h
    exact RelDs.get (i := i) h2 (by simpa using e)
theorem RelDs.all : ∀ {ds : List D} {xs : List B} {vs : List V}, RelDs C F ι ds vs → allB ds = some xs → RelBs C F xs vs
  | [], xs, _, h, e => by
    cases (show _ = [] from h)
    cases e
    rfl
  | d :: ds, xs, _, h, e => by
    obtain ⟨v, r, rfl, h1, h2⟩ := h
    cases d <;> try (cases e; done)
    rename_i x
    have e' : (allB ds).map (x :: ·) = some xs := e
    cases q : allB ds with
    | none => rw [q] at e'; cases e'
    | some ys =>
      rw [q] at e'
      cases e'
      exact ⟨v, r, rfl, h1, RelDs.all h2 q⟩
theorem RelBs.ds : ∀ {xs : List B} {vs : List V}, RelBs C F xs vs → RelDs C F ι (xs.map D.b) vs
  | [], _, h => h
  | x :: xs, _, h => by
    obtain ⟨v, r, rfl, h1, h2⟩ := h
    exact ⟨v, r, rfl, h1, RelBs.ds h2⟩
end
/-! ### the store changes -/
section
variable {C : Ct} {F : Hp} {ι : List Addr} {S : Store} {H : Hp}
/-- what an object's reading leans on, when another object changes -/
theorem RelO.at {H' : Hp} {a : Addr} {o : O} (r : RelO C F ι H a o) (k : H a = H' a) (ho : ∀ b, H b = some (.own a) → H' b = some (.own a)) : RelO C F ι H' a o := by
  cases o with
  | lst xs => obtain ⟨vs, e, q⟩ := r; exact ⟨vs, k ▸ e, q⟩
  | dic xs => obtain ⟨vs, e, q⟩ := r; exact ⟨vs, k ▸ e, q⟩
  | ins c fs => obtain ⟨D, dx, gs, e1, e2, e3, q⟩ := r; exact ⟨D, dx, gs, e1, k ▸ e2, ho _ e3, q⟩
  | lockl xs => obtain ⟨vs, e, q⟩ := r; exact ⟨vs, k ▸ e, q⟩
  | lockd xs => obtain ⟨o, vs, e, q⟩ := r; exact ⟨o, vs, k ▸ e, q⟩
theorem RelO.mono {G : Hp} {κ : List Addr} (h : Le F ι G κ) {a : Addr} {o : O} (r : RelO C F ι H a o) : RelO C G κ H a o := by
  cases o with
  | lst xs => obtain ⟨vs, e, q⟩ := r; exact ⟨vs, e, RelBs.mono h.1 _ _ q⟩
  | dic xs => obtain ⟨vs, e, q⟩ := r; exact ⟨vs, e, RelBk.mono h.1 _ _ q⟩
  | ins c fs => obtain ⟨D, dx, gs, e1, e2, e3, q⟩ := r; exact ⟨D, dx, gs, e1, e2, e3, RelDf.mono h _ _ q⟩
  | lockl xs => obtain ⟨vs, e, q⟩ := r; exact ⟨vs, e, RelBs.mono h.1 _ _ q⟩
  | lockd xs => obtain ⟨o, vs, e, q⟩ := r; exact ⟨o, vs, e, RelBk.mono h.1 _ _ q.1, q.2⟩
/-- an object that an address of the store has is not an instance's dict -/
theorem RelO.notOwn {a b : Addr} {o : O} (r : RelO C F ι H a o) : H a ≠ some (.own b) := by
  intro z
  cases o with
  | lst xs => obtain ⟨vs, e, q⟩ := r; rw [z] at e; cases e
  | dic xs => obtain ⟨vs, e, q⟩ := r; rw [z] at e; cases e
  | ins c fs => obtain ⟨D, dx, gs, e1, e2, e3, q⟩ := r; rw [z] at e2; cases e2
  | lockl xs => obtain ⟨vs, e, q⟩ := r; rw [z] at e; cases e
  | lockd xs => obtain ⟨o, vs, e, q⟩ := r; rw [z] at e; cases e
theorem RelO.there {a : Addr} {o : O} (r : RelO C F ι H a o) : ∃ u, H a = some u := by
  cases o with
  | lst xs => obtain ⟨vs, e, q⟩ := r; exact ⟨_, e⟩
  | dic xs => obtain ⟨vs, e, q⟩ := r; exact ⟨_, e⟩
  | ins c fs => obtain ⟨D, dx, gs, e1, e2, e3, q⟩ := r; exact ⟨_, e2⟩
  | lockl xs => obtain ⟨vs, e, q⟩ := r; exact ⟨_, e⟩
  | lockd xs => obtain ⟨o, vs, e, q⟩ := r; exact ⟨_, e⟩
theorem RH.obj (r : RH C F ι S H) {n : Nat} {a : Addr} (h : ι[n]? = some a) : ∃ o, S[n]? = some o ∧ RelO C F ι H a o := by
  have hn : n < S.length := by
    rw [← r.len]
    exact (List.getElem?_eq_some_iff.mp h).1
  exact ⟨S[n], List.getElem?_eq_getElem hn, r.ob n a _ h (List.getElem?_eq_getElem hn)⟩
theorem RH.addr (r : RH C F ι S H) {n : Nat} {o : O} (h : S[n]? = some o) : ∃ a, ι[n]? = some a ∧ RelO C F ι H a o := by
  have hn : n < ι.length := by
    rw [r.len]
    exact (List.getElem?_eq_some_iff.mp h).1
  exact ⟨ι[n], List.getElem?_eq_getElem hn, r.ob n _ o (List.getElem?_eq_getElem hn) h⟩
theorem nodup_get {ι : List Addr} (nd : ι.Nodup) {n m : Nat} {a : Addr} (h : ι[n]? = some a) (h' : ι[m]? = some a) : n = m := by
  obtain ⟨h1, e1⟩ := List.getElem?_eq_some_iff.mp h
  obtain ⟨h2, e2⟩ := List.getElem?_eq_some_iff.mp h'
  exact (List.getElem_inj nd).mp (e1.trans e2.symm)
theorem fz_l {H : Hp} {a : Addr} {ws : List V} (h : H a = some (.lst ws)) : ∀ z, H a = some z → ¬ Fz z := fun z e ⟨od, ks, q⟩ => by
  subst q
  rw [h] at e
  cases e
theorem fz_d {H : Hp} {a : Addr} {ws : List (L2.Key × V)} (h : H a = some (.dK ws)) : ∀ z, H a = some z → ¬ Fz z := fun z e ⟨od, ks, q⟩ => by
  subst q
  rw [h] at e
  cases e
theorem fz_i {H : Hp} {a D dx : Addr} {gs : List (PySem.Str × V)} (h : H a = some (.ins D dx gs)) : ∀ z, H a = some z → ¬ Fz z := fun z e ⟨od, ks, q⟩ => by
  subst q
  rw [h] at e
  cases e
/-- an object of the store is changed -/
theorem RH.set (r : RH C F ι S H) {n : Nat} {a : Addr} {o : O} {u : HO} (hn : ι[n]? = some a) (hF : F a = none) (hz : ∀ z, H a = some z → ¬ Fz z) (new : RelO C F ι (upd H a u) a o) : RH C F ι (S.set n o) (upd H a u) := by
  obtain ⟨o0, hS, r0⟩ := r.obj hn
  refine ⟨fun b x e => ?_, by rw [List.length_set]; exact r.len, r.nd, fun m b x hb hx => ?_, fun b x e => ?_⟩
  · have hb : b ≠ a := fun z => by
      rw [z, hF] at e
      cases e
    rw [upd_ne hb]
    exact r.fz b x e
  · by_cases hm : m = n
    · subst hm
      rw [hn] at hb
      cases hb
      rw [List.getElem?_set_self (List.getElem?_eq_some_iff.mp hS).1] at hx
      cases hx
      exact new
    · rw [List.getElem?_set_ne (Ne.symm hm)] at hx
      have hba : b ≠ a := fun z => hm (nodup_get r.nd hb (z ▸ hn))
      refine (r.ob m b x hb hx).at (by rw [upd_ne hba]) fun c hc => ?_
      rw [upd_ne fun z => r0.notOwn (z ▸ hc)]
      exact hc
  · obtain ⟨h1, h2, h3, h4⟩ := r.tm b x e
    exact ⟨by rw [upd_ne (fun z : b = a => h3.elim (fun h3 => h3 (by rw [z]; exact List.mem_of_getElem? hn)) (hz x (by rw [← z]; exact h1)))]; exact h1, h2, h3, h4⟩
/-- a new object that never changes -/
theorem RH.newF (r : RH C F ι S H) (fr : Fre F ι) {p : Addr} {u : HO} (hp : H p = none) : RH C (upd F p u) ι S (upd H p u) ∧ Fre (upd F p u) ι ∧ Le F ι (upd F p u) ι := by
  have hF : Sub F (upd F p u) := fun b x e => by
    rw [upd_ne fun z => ?_]
    · exact e
    · subst z
      rw [r.fz _ _ e] at hp
      cases hp
  have l : Le F ι (upd F p u) ι := ⟨hF, [], by simp⟩
  refine ⟨⟨fun b x e => ?_, r.len, r.nd, fun n a o ha ho => ?_, fun b x e => ?_⟩, fun a ha => ?_, l⟩
  · by_cases hb : b = p
    · subst hb
      rw [upd_same] at e ⊢
      exact e
    · rw [upd_ne hb] at e ⊢
      exact r.fz b x e
  · have q := r.ob n a o ha ho
    obtain ⟨w, hw⟩ := q.there
    refine (q.mono l).at (by rw [upd_ne (ne_of_none hw hp)]) fun c hc => by rw [upd_ne (ne_of_none hc hp)]; exact hc
  · obtain ⟨h1, h2, h3, h4⟩ := r.tm b x e
    exact ⟨by rw [upd_ne (ne_of_none h1 hp)]; exact h1, by rw [upd_ne (ne_of_none h1 hp)]; exact h2, h3, h4⟩
  · obtain ⟨n, hn, e⟩ := List.getElem_of_mem ha
    have ha' : ι[n]? = some a := by rw [← e]; exact List.getElem?_eq_getElem hn
    obtain ⟨o, ho, q⟩ := r.obj ha'
    obtain ⟨w, hw⟩ := q.there
    rw [upd_ne (ne_of_none hw hp)]
    exact fr a ha
/-- a new object of the store -/
theorem RH.newS (r : RH C F ι S H) (fr : Fre F ι) {p : Addr} {u : HO} {o : O} (hp : H p = none) (new : RelO C F (ι ++ [p]) (upd H p u) p o) : RH C F (ι ++ [p]) (S ++ [o]) (upd H p u) ∧ Fre F (ι ++ [p]) ∧ Le F ι F (ι ++ [p]) := by
  have hpι : p ∉ ι := fun hm => by
    obtain ⟨n, hn, e⟩ := List.getElem_of_mem hm
    obtain ⟨o, ho, q⟩ := r.obj (n := n) (a := p) (by rw [← e]; exact List.getElem?_eq_getElem hn)
    obtain ⟨w, hw⟩ := q.there
    rw [hp] at hw
    cases hw
  have hpF : F p = none := by
    cases e : F p with
    | none => rfl
    | some w =>
      rw [r.fz _ _ e] at hp
      cases hp
  have l : Le F ι F (ι ++ [p]) := ⟨Sub.refl F, [p], rfl⟩
  refine ⟨⟨fun b x e => ?_, ?_, ?_, fun n a x ha hx => ?_, fun b x e => ?_⟩, fun a ha => ?_, l⟩
  · rw [upd_ne (ne_of_none (r.fz b x e) hp)]
    exact r.fz b x e
  · rw [List.length_append, List.length_append, r.len]
    rfl
  · rw [List.nodup_append]
    refine ⟨r.nd, by simp, fun a ha b hb => ?_⟩
    rw [List.mem_singleton] at hb
    subst hb
    exact fun e => hpι (e ▸ ha)
  · by_cases hn : n < ι.length
    · rw [List.getElem?_append_left hn] at ha
      rw [List.getElem?_append_left (r.len ▸ hn)] at hx
      have q := r.ob n a x ha hx
      obtain ⟨w, hw⟩ := q.there
      exact (q.mono l).at (by rw [upd_ne (ne_of_none hw hp)]) fun c hc => by rw [upd_ne (ne_of_none hc hp)]; exact hc
    · rw [List.getElem?_append_right (by omega)] at ha
      rw [List.getElem?_append_right (by rw [← r.len]; omega)] at hx
      have e0 : n - ι.length = 0 := by
        have := (List.getElem?_eq_some_iff.mp ha).1
        simp at this
        omega
      rw [e0] at ha
      rw [← r.len, e0] at hx
      cases ha
      cases hx
      exact new
  · obtain ⟨h1, h2, h3, h4⟩ := r.tm b x e
    refine ⟨by rw [upd_ne (ne_of_none h1 hp)]; exact h1, h2, h3.imp (fun h3 z => ?_) id, h4⟩
    rcases List.mem_append.mp z with z | z
    · exact h3 z
    · rw [List.mem_singleton] at z
      exact ne_of_none h1 hp z
  · rcases List.mem_append.mp ha with h | h
    · exact fr a h
    · rw [List.mem_singleton] at h
      subst h
      exact hpF
/-! ### things that stand aside -/
theorem RH.tmNew (r : RH C F ι S H) {p : Addr} {u : HO} (hp : H p = none) (hu : ∀ b, u ≠ .own b) : RH (C.w (upd C.tp p u)) F ι S (upd H p u) := by
  have hpι : p ∉ ι := fun hm => by
    obtain ⟨n, hn, e⟩ := List.getElem_of_mem hm
    obtain ⟨o, ho, q⟩ := r.obj (n := n) (a := p) (by rw [← e]; exact List.getElem?_eq_getElem hn)
    obtain ⟨w, hw⟩ := q.there
    rw [hp] at hw
    cases hw
  have hpF : F p = none := by
    cases e : F p with
    | none => rfl
    | some w =>
      rw [r.fz _ _ e] at hp
      cases hp
  refine ⟨fun b x e => ?_, r.len, r.nd, fun n a o ha ho => RelO.w (fun od ks e => by
      obtain ⟨w, hw⟩ := (r.ob n a o ha ho).there
      exact (upd_ne (ne_of_none hw hp)).trans e) ?_, fun b x e => ?_⟩
  · rw [upd_ne (ne_of_none (r.fz b x e) hp)]
    exact r.fz b x e
  · have q := r.ob n a o ha ho
    obtain ⟨w, hw⟩ := q.there
    exact q.at (by rw [upd_ne (ne_of_none hw hp)]) fun c hc => by rw [upd_ne (ne_of_none hc hp)]; exact hc
  · by_cases hb : b = p
    · subst hb
      have e' : upd C.tp b u b = some x := e
      rw [upd_same] at e' ⊢
      cases e'
      exact ⟨rfl, hpF, .inl hpι, hu⟩
    · have e' : upd C.tp p u b = some x := e
      rw [upd_ne hb] at e' ⊢
      exact r.tm b x e'
theorem RH.tmSet {tp : Hp} {p : Addr} {u u' : HO} (r : RH (C.w (upd tp p u)) F ι S H) (hf : ¬ Fz u) (hu : ∀ b, u' ≠ .own b) : RH (C.w (upd tp p u')) F ι S (upd H p u') := by
  obtain ⟨h1, h2, h3, h4⟩ := r.tm p u (show upd tp p u p = some u from upd_same)
  refine ⟨fun b x e => ?_, r.len, r.nd, fun n a o ha ho => ?_, fun b x e => ?_⟩
  · rw [upd_ne fun z => by rw [z, h2] at e; cases e]
    exact r.fz b x e
  · have hap : a ≠ p := fun z => (h3.resolve_right hf) (z ▸ List.mem_of_getElem? ha)
    exact RelO.w (C := C.w (upd tp p u)) (tp := upd tp p u') (fun od ks e => (upd_ne hap).trans ((upd_ne hap).symm.trans e)) ((r.ob n a o ha ho).at (by rw [upd_ne hap]) fun c hc => by
      rw [upd_ne fun z => by rw [z, h1] at hc; cases hc; exact h4 _ rfl]
      exact hc)
  · by_cases hb : b = p
    · subst hb
      have e' : upd tp b u' b = some x := e
      rw [upd_same] at e' ⊢
      cases e'
      exact ⟨rfl, h2, .inl (h3.resolve_right hf), hu⟩
    · have e' : upd tp p u' b = some x := e
      rw [upd_ne hb] at e' ⊢
      exact r.tm b x (show upd tp p u b = some x by rw [upd_ne hb]; exact e')
/-- it becomes one that never changes -/
theorem RH.tmF {p : Addr} {u : HO} (r : RH (C.w (upd C.tp p u)) F ι S H) (hf : ¬ Fz u) (fr : Fre F ι) (hn : C.tp p = none) : RH C (upd F p u) ι S H ∧ Fre (upd F p u) ι ∧ Le F ι (upd F p u) ι := by
  obtain ⟨h1, h2, h3, h4⟩ := r.tm p u (show upd C.tp p u p = some u from upd_same)
  have hF : Sub F (upd F p u) := fun b x e => by
    rw [upd_ne fun z => by rw [z, h2] at e; cases e]
    exact e
  have l : Le F ι (upd F p u) ι := ⟨hF, [], by simp⟩
  refine ⟨⟨fun b x e => ?_, r.len, r.nd, fun n a o ha ho => (RelO.w (C := C.w (upd C.tp p u)) (tp := C.tp) (fun od ks e => (upd_ne (fun z : a = p => (h3.resolve_right hf) (z ▸ List.mem_of_getElem? ha))).symm.trans e) (r.ob n a o ha ho)).mono l, fun b x e => ?_⟩, fun a ha => ?_, l⟩
  · by_cases hb : b = p
    · subst hb
      rw [upd_same] at e
      cases e
      exact h1
    · rw [upd_ne hb] at e
      exact r.fz b x e
  · have hb : b ≠ p := fun z => by rw [z, hn] at e; cases e
    obtain ⟨g1, g2, g3, g4⟩ := r.tm b x (show upd C.tp p u b = some x by rw [upd_ne hb]; exact e)
    exact ⟨g1, by rw [upd_ne hb]; exact g2, g3, g4⟩
  · rw [upd_ne (fun z : a = p => (h3.resolve_right hf) (by rw [← z]; exact ha))]
    exact fr a ha
/-- it becomes an object of the store -/
theorem RH.tmS {p : Addr} {u : HO} {o : O} (r : RH (C.w (upd C.tp p u)) F ι S H) (hf : ¬ Fz u) (fr : Fre F ι) (hn : C.tp p = none) (new : RelO C F (ι ++ [p]) H p o) : RH C F (ι ++ [p]) (S ++ [o]) H ∧ Fre F (ι ++ [p]) ∧ Le F ι F (ι ++ [p]) := by
  obtain ⟨h1, h2, h3, h4⟩ := r.tm p u (show upd C.tp p u p = some u from upd_same)
  have l : Le F ι F (ι ++ [p]) := ⟨Sub.refl F, [p], rfl⟩
  refine ⟨⟨r.fz, ?_, ?_, fun n a x ha hx => ?_, fun b x e => ?_⟩, fun a ha => ?_, l⟩
  · rw [List.length_append, List.length_append, r.len]
    rfl
  · rw [List.nodup_append]
    refine ⟨r.nd, by simp, fun a ha b hb => ?_⟩
    rw [List.mem_singleton] at hb
    subst hb
    exact fun e => (h3.resolve_right hf) (e ▸ ha)
  · by_cases hl : n < ι.length
    · rw [List.getElem?_append_left hl] at ha
      rw [List.getElem?_append_left (r.len ▸ hl)] at hx
      exact (RelO.w (C := C.w (upd C.tp p u)) (tp := C.tp) (fun od ks e => (upd_ne (fun z : a = p => (h3.resolve_right hf) (z ▸ List.mem_of_getElem? ha))).symm.trans e) (r.ob n a x ha hx)).mono l
    · have hl' := r.len
      rw [List.getElem?_append_right (by omega)] at ha
      rw [List.getElem?_append_right (by omega)] at hx
      have e0 : n - ι.length = 0 := by
        have := (List.getElem?_eq_some_iff.mp ha).1
        simp at this
        omega
      rw [e0] at ha
      rw [← r.len, e0] at hx
      cases ha
      cases hx
      exact new
  · have hb : b ≠ p := fun z => by rw [z, hn] at e; cases e
    obtain ⟨g1, g2, g3, g4⟩ := r.tm b x (show upd C.tp p u b = some x by rw [upd_ne hb]; exact e)
    refine ⟨g1, g2, g3.imp (fun g3 z => ?_) id, g4⟩
    rcases List.mem_append.mp z with z | z
    · exact g3 z
    · rw [List.mem_singleton] at z
      exact hb z
  · rcases List.mem_append.mp ha with h | h
    · exact fr a h
    · rw [List.mem_singleton] at h
      subst h
      exact h2
theorem Fre.at {n : Nat} {a : Addr} (fr : Fre F ι) (h : ι[n]? = some a) : F a = none := fr a (List.mem_of_getElem? h)
end
end M
/-! MC3: operations on values. -/
namespace M
open PySem PySem.Spec PyProof.Rows L2
/-- what is shown of an answer -/
def Post (C : Ct) (F : Hp) (ι : List Addr) (S : Store) (d : D) (Q : VK) : Prop := ∀ F' ι' v H', Le F ι F' ι' → RH C F' ι' S H' → Fre F' ι' → RelD C F' ι' d v → Q v H'
theorem Post.here {C : Ct} {F : Hp} {ι : List Addr} {S : Store} {d : D} {Q : VK} {v : V} {H : Hp} (p : Post C F ι S d Q) (rh : RH C F ι S H) (fr : Fre F ι) (r : RelD C F ι d v) : Q v H := p F ι v H (Le.refl _ _) rh fr r
theorem Post.new {C : Ct} {F : Hp} {ι : List Addr} {S : Store} {d : D} {Q : VK} {H : Hp} (p : Post C F ι S d Q) (rh : RH C F ι S H) (fr : Fre F ι) {a : Addr} {u : HO} (hp : H a = none) (r : RelD C (upd F a u) ι d (.ref a)) : Q (.ref a) (upd H a u) := by
  obtain ⟨h1, h2, h3⟩ := rh.newF fr (u := u) hp
  exact p _ _ _ _ h3 h1 h2 r
theorem Post.newS {C : Ct} {F : Hp} {ι : List Addr} {S : Store} {d : D} {Q : VK} {H : Hp} {o : O} (p : Post C F ι (S ++ [o]) (.ref S.length) Q) (rh : RH C F ι S H) (fr : Fre F ι) {a : Addr} {u : HO} (hp : H a = none) (r : RelO C F (ι ++ [a]) (upd H a u) a o) : Q (.ref a) (upd H a u) := by
  obtain ⟨h1, h2, h3⟩ := rh.newS fr (u := u) hp r
  refine p _ _ _ _ h3 h1 h2 ⟨a, ?_, rfl⟩
  rw [List.getElem?_append_right (by rw [rh.len] <;> exact Nat.le_refl _), ← rh.len, Nat.sub_self]
  rfl
theorem Post.mono {C : Ct} {F F' : Hp} {ι ι' : List Addr} {S : Store} {d : D} {Q : VK} (p : Post C F ι S d Q) (l : Le F ι F' ι') : Post C F' ι' S d Q := fun F2 ι2 v H l2 rh fr r => p F2 ι2 v H (l.trans l2) rh fr r
/-! ### views -/
section
variable {C : Ct} {F : Hp} {ι : List Addr} {S : Store} {H : Hp} {d : D} {v : V}
theorem seqB_rel {x : B} {xs : List B} (r : RelB C F x v) (e : seqB x = some xs) : ∃ a vs, v = .ref a ∧ (SqL C.K F a vs ∨ SqT C.K F a vs) ∧ RelBs C F xs vs := by
  cases x <;> try (cases e; done)
  · cases e
    obtain ⟨a, vs, h1, h2, h3⟩ := r
    exact ⟨a, vs, h1, .inr h2, h3⟩
  · cases e
    obtain ⟨a, vs, h1, h2, h3⟩ := r
    exact ⟨a, vs, h1, .inl (.inl (.inl h2)), h3⟩
  · cases e
    obtain ⟨a, vs, h1, h2, h3⟩ := r
    exact ⟨a, vs, h1, .inl h2, h3⟩
theorem seqD_rel (rh : RH C F ι S H) {xs : List B} (r : RelD C F ι d v) (e : seqD S d = some xs) : ∃ a vs, v = .ref a ∧ (SqL C.K H a vs ∨ SqT C.K H a vs) ∧ RelBs C F xs vs := by
  cases d with
  | b x =>
    obtain ⟨a, vs, h1, h2, h3⟩ := seqB_rel (show RelB C F x v from r) e
    exact ⟨a, vs, h1, h2.elim (fun z => .inl (sqL_mono rh.fz z)) (fun z => .inr (sqT_mono rh.fz z)), h3⟩
  | mix xs => cases e
  | ref n =>
    obtain ⟨a, ha, rfl⟩ := r
    obtain ⟨o, ho, q⟩ := rh.obj ha
    unfold seqD at e
    dsimp only at e
    rw [ho] at e
    cases o <;> try (cases e; done)
    · cases e
      obtain ⟨vs, h1, h2⟩ := q
      exact ⟨a, vs, rfl, .inl (.inl (.inl h1)), h2⟩
    · cases e
      obtain ⟨vs, h1, h2⟩ := q
      exact ⟨a, vs, rfl, .inl (.inl (.inl h1)), h2⟩
theorem lstD_rel (rh : RH C F ι S H) {xs : List B} (r : RelD C F ι d v) (e : lstD S d = some xs) : ∃ a vs, v = .ref a ∧ H a = some (.lst vs) ∧ RelBs C F xs vs := by
  cases d with
  | b x =>
    cases x <;> try (cases e; done)
    cases e
    obtain ⟨a, vs, h1, h2, h3⟩ := (show RelB C F _ v from r)
    exact ⟨a, vs, h1, rh.fz _ _ h2, h3⟩
  | mix xs => cases e
  | ref n =>
    obtain ⟨a, ha, rfl⟩ := r
    obtain ⟨o, ho, q⟩ := rh.obj ha
    unfold lstD at e
    dsimp only at e
    rw [ho] at e
    cases o <;> try (cases e; done)
    cases e
    obtain ⟨vs, h1, h2⟩ := q
    exact ⟨a, vs, rfl, h1, h2⟩
theorem dicD_rel (rh : RH C F ι S H) {xs : List (Kd × B)} (r : RelD C F ι d v) (e : dicD S d = some xs) : ∃ a ks, v = .ref a ∧ Rd H a (.dK ks) ∧ RelBk C F xs ks := by
  cases d with
  | b x =>
    cases x <;> try (cases e; done)
    cases e
    obtain ⟨a, o, vs, h1, h2, h3⟩ := (show RelB C F _ v from r)
    exact ⟨a, vs, h1, .inr ⟨o, rh.fz _ _ h2⟩, h3⟩
  | mix xs => cases e
  | ref n =>
    obtain ⟨a, ha, rfl⟩ := r
    obtain ⟨o, ho, q⟩ := rh.obj ha
    unfold dicD at e
    dsimp only at e
    rw [ho] at e
    cases o <;> try (cases e; done)
    · cases e
      obtain ⟨vs, h1, h2⟩ := q
      exact ⟨a, vs, rfl, .inl h1, h2⟩
    · cases e
      obtain ⟨o, vs, h1, h2, _⟩ := q
      exact ⟨a, vs, rfl, .inr ⟨o, h1⟩, h2⟩
theorem RelD.int {i : Int} (r : RelD C F ι (.b (.int i)) v) : v = .int i := r
theorem RelD.bl {i : Bool} (r : RelD C F ι (.b (.bl i)) v) : v = .bl i := r
end
/-! ### two ints -/
section
variable {X : Cx}
theorem mulOk_ok {i j : Int} (h : mulOk i j = true) : IntMulOk i j := by
  unfold mulOk at h
  simp only [Bool.or_eq_true, decide_eq_true_eq] at h
  rcases h with (h | h) | h
  · exact CMul.ok (.inl h)
  · exact CMul.ok (.inr h)
  · exact CMulX.ok (by unfold CMulX; omega)
theorem op_mulM : OpR X (binaryOp .Mult) (rI (fun i j => mulOk i j = true) fun i j => .int (i * j)) := opI fun _ _ _ _ _ _ _ hc q => mul_int q (mulOk_ok hc)
theorem op_shlM : OpR X (binaryOp .LShift) (rI (fun i j => shlOk i j = true) fun i j => .int (i * 2 ^ j.toNat)) := opI fun i j _ _ _ _ _ hc q => by
  unfold shlOk at hc
  simp only [Bool.and_eq_true, Bool.or_eq_true, decide_eq_true_eq] at hc
  rcases hc with ⟨h0, h | h⟩
  · exact lshift_int_small h0 h.1 h.2 q
  · exact lshift_int h0 (by omega) q
theorem op_divM : OpR X (binaryOp .FloorDiv) (rI (fun _ j => divOk j = true) fun i j => .int (i / j)) := by
  intro pins s σ H x y v u Q I rx ry h
  obtain ⟨i, j, e1, e2, hc, q⟩ := h
  unfold divOk at hc
  simp only [Bool.and_eq_true, decide_eq_true_eq] at hc
  exact op_fdivW pins s σ H x y v u Q I rx ry ⟨i, j, e1, e2, hc, q⟩
/-- the machine's operators -/
def pop : Op → Operator
  | .add => .Add
  | .sub => .Sub
  | .mul => .Mult
  | .fdiv => .FloorDiv
  | .mod => .Mod
  | .pow => .Pow
  | .shl => .LShift
  | .shr => .RShift
  | .band => .BitAnd
  | .bor => .BitOr
  | .xor => .BitXor
def rAr (o : Op) : R2 := fun x y H Q => ∃ i j z, x = .int i ∧ y = .int j ∧ arith o i j = some z ∧ Q (.int z) H
theorem op_ar (o : Op) : OpR X (binaryOp (pop o)) (rAr o) := by
  intro pins s σ H x y v u Q I rx ry h
  obtain ⟨i, j, z, e1, e2, e, q⟩ := h
  cases o with
  | add => cases e; exact op_add pins s σ H x y v u Q I rx ry ⟨i, j, e1, e2, q⟩
  | sub => cases e; exact op_sub pins s σ H x y v u Q I rx ry ⟨i, j, e1, e2, q⟩
  | band => cases e; exact op_and pins s σ H x y v u Q I rx ry ⟨i, j, e1, e2, q⟩
  | bor => cases e; exact op_or pins s σ H x y v u Q I rx ry ⟨i, j, e1, e2, q⟩
  | xor => cases e; exact op_xor pins s σ H x y v u Q I rx ry ⟨i, j, e1, e2, q⟩
  | mul =>
    unfold arith at e
    dsimp only at e
    split at e
    · rename_i hc
      cases e
      exact op_mulM pins s σ H x y v u Q I rx ry ⟨i, j, e1, e2, hc, q⟩
    · cases e
  | fdiv =>
    unfold arith at e
    dsimp only at e
    split at e
    · rename_i hc
      cases e
      exact op_divM pins s σ H x y v u Q I rx ry ⟨i, j, e1, e2, hc, q⟩
    · cases e
  | mod =>
    unfold arith at e
    dsimp only at e
    split at e
    · rename_i hc
      cases e
      exact op_mod pins s σ H x y v u Q I rx ry ⟨i, j, e1, e2, hc, q⟩
    · cases e
  | pow =>
    unfold arith at e
    dsimp only at e
    split at e
    · rename_i hc
      cases e
      exact op_pow pins s σ H x y v u Q I rx ry ⟨i, j, e1, e2, hc, q⟩
    · cases e
  | shl =>
    unfold arith at e
    dsimp only at e
    split at e
    · rename_i hc
      cases e
      exact op_shlM pins s σ H x y v u Q I rx ry ⟨i, j, e1, e2, hc, q⟩
    · cases e
  | shr =>
    unfold arith at e
    dsimp only at e
    split at e
    · rename_i hc
      cases e
      exact op_shr pins s σ H x y v u Q I rx ry ⟨i, j, e1, e2, hc, q⟩
    · cases e
/-- op= on ints: +, - -/
def ipo : Op → Bool
  | .add => true
  | .sub => true
  | _ => false
theorem iop_ar (o : Op) (ho : ipo o = true) : OpR X (inplaceOp (pop o)) (rAr o) := by
  intro pins s σ H x y v u Q I rx ry h
  obtain ⟨i, j, z, e1, e2, e, q⟩ := h
  cases o with
  | add => cases e; exact iop_add pins s σ H x y v u Q I rx ry ⟨i, j, e1, e2, q⟩
  | sub => cases e; exact iop_sub pins s σ H x y v u Q I rx ry ⟨i, j, e1, e2, q⟩
  | _ => cases ho
end
/-! ### two values -/
section
variable {X : Cx} {C : Ct}
def rB (C : Ct) (o : Op) : R2 := fun x y H Q => ∃ F ι S dx dy z, RH C F ι S H ∧ Fre F ι ∧ RelD C F ι dx x ∧ RelD C F ι dy y ∧ bin S o dx dy = some z ∧ Post C F ι S z Q
theorem SZ_le {n : Nat} (h : n ≤ SZ) : n ≤ sizeLine := by
  rw [sizeLine_eq]
  exact h
theorem bin_lists {S : Store} {x y z : D} (e : ((lstD S x).bind fun xs => (lstD S y).bind fun ys => szL (xs ++ ys)) = some z) : ∃ xs ys, lstD S x = some xs ∧ lstD S y = some ys ∧ xs.length + ys.length ≤ SZ ∧ z = .b (.lst (xs ++ ys)) := by
  obtain ⟨xs, e1, e⟩ := Option.bind_eq_some_iff.mp e
  obtain ⟨ys, e2, e⟩ := Option.bind_eq_some_iff.mp e
  unfold szL at e
  split at e
  · rename_i h
    rw [List.length_append] at h
    cases e
    exact ⟨xs, ys, e1, e2, h, rfl⟩
  · cases e
theorem op_bin (hK : C.K = X.K) (o : Op) : OpR X (binaryOp (pop o)) (rB C o) := by
  intro pins s σ H x y v u Q I rx ry h
  obtain ⟨F, ι, S, dx, dy, z, rh, fr, hx, hy, e, post⟩ := h
  unfold bin at e
  split at e
  · rename_i i j
    obtain ⟨k, e1, e2⟩ := Option.map_eq_some_iff.mp e
    subst e2
    exact op_ar o pins s σ H x y v u Q I rx ry ⟨i, j, k, hx, hy, e1, post.here rh fr rfl⟩
  · rename_i xs ys
    cases o <;> try (cases e; done)
    dsimp only at e
    split at e
    · rename_i hz
      cases e
      obtain ⟨a, vs, rfl, h1, h2⟩ := (show RelB C F (.tup xs) x from hx)
      obtain ⟨b, ws, rfl, h3, h4⟩ := (show RelB C F (.tup ys) y from hy)
      refine op_catA pins s σ H _ _ v u Q I rx ry ⟨a, b, vs, ws, rfl, rfl, hK ▸ sqT_mono rh.fz h1, hK ▸ sqT_mono rh.fz h3, SZ_le (by rw [← h2.length, ← h4.length]; exact hz), fun e0 => ?_, fun _ e0 => ?_, fun _ _ p hp => ?_⟩
      · have e1 : xs = [] := List.eq_nil_of_length_eq_zero (by rw [h2.length, e0] <;> rfl)
        subst e1
        exact post.here rh fr (show RelB C F (.tup ([] ++ ys)) _ from ⟨b, ws, rfl, h3, h4⟩)
      · have e1 : ys = [] := List.eq_nil_of_length_eq_zero (by rw [h4.length, e0] <;> rfl)
        subst e1
        refine post.here rh fr (show RelB C F (.tup (xs ++ [])) _ from ⟨a, vs, rfl, h1, ?_⟩)
        rw [List.append_nil]
        exact h2
      · refine post.new rh fr hp (show RelB C _ (.tup (xs ++ ys)) _ from ⟨p, vs ++ ws, rfl, .inl (.inl upd_same), ?_⟩)
        have l := (rh.newF fr (u := .tup (vs ++ ws)) hp).2.2
        exact RelBs.append (RelBs.mono l.1 _ _ h2) (RelBs.mono l.1 _ _ h4)
    · cases e
  · rename_i xs k
    cases o <;> try (cases e; done)
    dsimp only at e
    split at e
    · rename_i hz
      cases e
      obtain ⟨a, vs, rfl, h1, h2⟩ := (show RelB C F (.tup xs) x from hx)
      refine op_repT pins s σ H _ _ v u Q I rx ry ⟨a, k, vs, rfl, hy, hK ▸ sqT_mono rh.fz h1, fun e0 => hz.2.2.2 (List.eq_nil_of_length_eq_zero (by rw [h2.length, e0] <;> rfl)), hz.1, hz.2.1, by rw [← h2.length]; exact hz.2.2.1, fun p hp => ?_⟩
      refine post.new rh fr hp (show RelB C _ (.tup _) _ from ⟨p, _, rfl, .inl (.inl upd_same), ?_⟩)
      have l := (rh.newF fr (u := .tup (List.replicate k.toNat vs).flatten) hp).2.2
      exact RelBs.mono l.1 _ _ (h2.flat _)
    · cases e
  · cases o <;> try (cases e; done)
    · obtain ⟨xs, ys, e1, e2, hz, rfl⟩ := bin_lists e
      obtain ⟨a, vs, rfl, h1, h2⟩ := lstD_rel rh hx e1
      obtain ⟨b, ws, rfl, h3, h4⟩ := lstD_rel rh hy e2
      refine op_cat pins s σ H _ _ v u Q I rx ry ⟨a, b, vs, ws, rfl, rfl, h1, h3, SZ_le (by rw [← h2.length, ← h4.length]; exact hz), fun p hp => ?_⟩
      refine post.new rh fr hp (show RelB C _ (.lst (xs ++ ys)) _ from ⟨p, vs ++ ws, rfl, upd_same, ?_⟩)
      have l := (rh.newF fr (u := .lst (vs ++ ws)) hp).2.2
      exact RelBs.append (RelBs.mono l.1 _ _ h2) (RelBs.mono l.1 _ _ h4)
    · dsimp only at e
      split at e
      · rename_i k _ _ _
        obtain ⟨xs, e1, e⟩ := Option.bind_eq_some_iff.mp e
        split at e
        · rename_i hz
          cases e
          obtain ⟨a, vs, rfl, h1, h2⟩ := lstD_rel rh hx e1
          refine op_rep pins s σ H _ _ v u Q I rx ry ⟨a, k, vs, rfl, hy, h1, hz.1, hz.2.1, SZ_le (by rw [← h2.length]; exact hz.2.2), fun p hp => ?_⟩
          refine post.new rh fr hp (show RelB C _ (.lst _) _ from ⟨p, _, rfl, upd_same, ?_⟩)
          have l := (rh.newF fr (u := .lst (List.replicate k.toNat vs).flatten) hp).2.2
          exact RelBs.mono l.1 _ _ (h2.flat _)
        · cases e
      · cases e
end
end M
/-! MC4: comparisons, truth. -/
namespace M
open PySem PySem.Spec PyProof.Rows L2
/-! ### data of the library -/
mutual
def toPy (N : Nms) : B → PyData
  | .non => .none
  | .bl b => .bool b
  | .int i => .int i
  | .str n => .str (N.txts.getD n ⟨#[]⟩)
  | .tup xs => .tuple (toPys N xs)
  | .lst xs => .list (toPys N xs)
  | .scr xs => .list (toPys N xs)
  | .dic _ => .none
  | .ins _ _ => .none
def toPys (N : Nms) : List B → List PyData
  | [] => []
  | x :: xs => toPy N x :: toPys N xs
end
theorem toPys_eq (N : Nms) : ∀ xs : List B, toPys N xs = xs.map (toPy N)
  | [] => rfl
  | x :: xs => by
    rw [toPys, toPys_eq N xs]
    rfl
section
variable {C : Ct} {F H : Hp} (hs : Sub F H)
include hs
mutual
theorem toDp : ∀ (k : Nat) (x : B) (v : V), eqOk k x = true → RelB C F x v → Dp C.K H v (toPy C.N x)
  | _, .non, _, _, r => by
    cases (show _ = V.non from r)
    exact .non
  | _, .bl b, _, _, r => by
    cases (show _ = V.bl b from r)
    exact .bl b
  | _, .int i, _, _, r => by
    cases (show _ = V.int i from r)
    exact .int i
  | _, .str n, _, _, r => by
    obtain ⟨x, e, rfl⟩ := r
    show Dp C.K H (.str x) (.str (C.N.txts.getD n ⟨#[]⟩))
    rw [List.getD_eq_getElem?_getD, e]
    exact .str x
  | 0, .tup _, _, e, _ => by cases e
  | 0, .lst _, _, e, _ => by cases e
  | 0, .scr _, _, e, _ => by cases e
  | k + 1, .tup xs, _, e, r => by
    obtain ⟨a, vs, rfl, h1, h2⟩ := r
    exact .tup (sqT_mono hs h1) (toDpAll k xs vs e h2)
  | k + 1, .lst xs, _, e, r => by
    obtain ⟨a, vs, rfl, h1, h2⟩ := r
    exact .lst (.inl (.inl (hs _ _ h1))) (toDpAll k xs vs e h2)
  | k + 1, .scr xs, _, e, r => by
    obtain ⟨a, vs, rfl, h1, h2⟩ := r
    exact .lst (sqL_mono hs h1) (toDpAll k xs vs e h2)
  | 0, .dic _, _, e, _ => by cases e
  | k + 1, .dic _, _, e, _ => by cases e
  | 0, .ins _ _, _, e, _ => by cases e
  | k + 1, .ins _ _, _, e, _ => by cases e
theorem toDpAll : ∀ (k : Nat) (xs : List B) (vs : List V), xs.all (eqOk k) = true → RelBs C F xs vs → DpAll C.K H vs (toPys C.N xs)
  | _, [], _, _, r => by
    cases (show _ = [] from r)
    exact .nil
  | k, x :: xs, _, e, r => by
    obtain ⟨v, q, rfl, h1, h2⟩ := r
    have e' : (eqOk k x && xs.all (eqOk k)) = true := e
    rw [Bool.and_eq_true] at e'
    exact .cons (toDp k x v e'.1 h1) (toDpAll k xs q e'.2 h2)
end
end
section
variable {N : Nms}
mutual
theorem lay_py : ∀ (k : Nat) (x : B), eqOk k x = true → (toPy N x).canLay0 = true ∧ (toPy N x).depth ≤ k
  | _, .non, _ => ⟨rfl, Nat.zero_le _⟩
  | _, .bl b, _ => ⟨rfl, Nat.zero_le _⟩
  | _, .int i, _ => ⟨rfl, Nat.zero_le _⟩
  | _, .str n, _ => by
    refine ⟨?_, Nat.zero_le _⟩
    show PyData.strOk (N.txts.getD n ⟨#[]⟩) = true
    rw [List.getD_eq_getElem?_getD]
    cases e : N.txts[n]? with
    | none => simp [PyData.strOk]
    | some x => exact N.sok x (List.mem_of_getElem? e)
  | 0, .tup _, e => by cases e
  | 0, .lst _, e => by cases e
  | 0, .scr _, e => by cases e
  | k + 1, .tup xs, e => by
    obtain ⟨h1, h2⟩ := lay_pys k xs e
    refine ⟨h1, ?_⟩
    show PyData.depthAll _ + 1 ≤ k + 1
    omega
  | k + 1, .lst xs, e => by
    obtain ⟨h1, h2⟩ := lay_pys k xs e
    refine ⟨h1, ?_⟩
    show PyData.depthAll _ + 1 ≤ k + 1
    omega
  | k + 1, .scr xs, e => by
    obtain ⟨h1, h2⟩ := lay_pys k xs e
    refine ⟨h1, ?_⟩
    show PyData.depthAll _ + 1 ≤ k + 1
    omega
  | 0, .dic _, e => by cases e
  | k + 1, .dic _, e => by cases e
  | 0, .ins _ _, e => by cases e
  | k + 1, .ins _ _, e => by cases e
theorem lay_pys : ∀ (k : Nat) (xs : List B), xs.all (eqOk k) = true → PyData.canLayAll0 (toPys N xs) = true ∧ PyData.depthAll (toPys N xs) ≤ k
  | _, [], _ => ⟨rfl, Nat.zero_le _⟩
  | k, x :: xs, e => by
    have e' : (eqOk k x && xs.all (eqOk k)) = true := e
    rw [Bool.and_eq_true] at e'
    obtain ⟨h1, h2⟩ := lay_py k x e'.1
    obtain ⟨h3, h4⟩ := lay_pys k xs e'.2
    refine ⟨?_, ?_⟩
    · show ((toPy N x).canLay0 && PyData.canLayAll0 (toPys N xs)) = true
      rw [h1, h3]
      rfl
    · show max (toPy N x).depth (PyData.depthAll (toPys N xs)) ≤ k
      omega
end
theorem shaped_py {x : B} (e : eqOk 12 x = true) : SeqAt.shaped (toPy N x) = true := by
  obtain ⟨h1, h2⟩ := lay_py (N := N) 12 x e
  unfold SeqAt.shaped
  rw [h1]
  simp only [Bool.true_and, decide_eq_true_eq]
  omega
theorem getD_inj {n m : Nat} (hn : n < N.txts.length) (hm : m < N.txts.length) : (N.txts.getD n ⟨#[]⟩ == N.txts.getD m ⟨#[]⟩) = (n == m) := by
  rw [Bool.eq_iff_iff, beq_iff_eq, beq_iff_eq]
  constructor
  · intro h
    rw [List.getD_eq_getElem?_getD, List.getD_eq_getElem?_getD, List.getElem?_eq_getElem hn, List.getElem?_eq_getElem hm] at h
    exact (List.getElem_inj N.snd).mp h
  · intro h
    rw [h]
end
section
variable {C : Ct} {F G : Hp}
mutual
theorem eq_py : ∀ (k : Nat) (x y : B) (v w : V), eqOk k x = true → eqOk k y = true → RelB C F x v → RelB C G y w → eqB x y = PyData.eqv (toPy C.N x) (toPy C.N y)
  | k, .non, y, v, w, e1, e2, r1, r2 => by cases y <;> first | rfl | (cases k <;> cases e2)
  | k, .bl _, y, v, w, e1, e2, r1, r2 => by cases y <;> first | rfl | (cases k <;> cases e2)
  | k, .int _, y, v, w, e1, e2, r1, r2 => by cases y <;> first | rfl | (cases k <;> cases e2)
  | k, .str n, y, v, w, e1, e2, r1, r2 => by
    cases y <;> first | rfl | (cases k <;> cases e2; done) | skip
    rename_i m
    obtain ⟨x, h1, _⟩ := r1
    obtain ⟨z, h2, _⟩ := r2
    exact (getD_inj (List.getElem?_eq_some_iff.mp h1).1 (List.getElem?_eq_some_iff.mp h2).1).symm
  | 0, .tup _, _, _, _, e, _, _, _ => by cases e
  | 0, .lst _, _, _, _, e, _, _, _ => by cases e
  | 0, .scr _, _, _, _, e, _, _, _ => by cases e
  | k + 1, .tup xs, y, v, w, e1, e2, r1, r2 => by
    cases y <;> first | rfl | (cases e2; done) | skip
    obtain ⟨a, vs, _, _, h1⟩ := r1
    obtain ⟨b, ws, _, _, h2⟩ := r2
    exact eq_pys k xs _ vs ws e1 e2 h1 h2
  | k + 1, .lst xs, y, v, w, e1, e2, r1, r2 => by
    cases y <;> first | rfl | (cases e2; done) | skip
    · obtain ⟨a, vs, _, _, h1⟩ := r1
      obtain ⟨b, ws, _, _, h2⟩ := r2
      exact eq_pys k xs _ vs ws e1 e2 h1 h2
    · obtain ⟨a, vs, _, _, h1⟩ := r1
      obtain ⟨b, ws, _, _, h2⟩ := r2
      exact eq_pys k xs _ vs ws e1 e2 h1 h2
  | k + 1, .scr xs, y, v, w, e1, e2, r1, r2 => by
    cases y <;> first | rfl | (cases e2; done) | skip
    · obtain ⟨a, vs, _, _, h1⟩ := r1
      obtain ⟨b, ws, _, _, h2⟩ := r2
      exact eq_pys k xs _ vs ws e1 e2 h1 h2
    · obtain ⟨a, vs, _, _, h1⟩ := r1
      obtain ⟨b, ws, _, _, h2⟩ := r2
      exact eq_pys k xs _ vs ws e1 e2 h1 h2
  | 0, .dic _, _, _, _, e, _, _, _ => by cases e
  | k + 1, .dic _, _, _, _, e, _, _, _ => by cases e
  | 0, .ins _ _, _, _, _, e, _, _, _ => by cases e
  | k + 1, .ins _ _, _, _, _, e, _, _, _ => by cases e
theorem eq_pys : ∀ (k : Nat) (xs ys : List B) (vs ws : List V), xs.all (eqOk k) = true → ys.all (eqOk k) = true → RelBs C F xs vs → RelBs C G ys ws → eqBs xs ys = PyData.eqvAll (toPys C.N xs) (toPys C.N ys)
  | _, [], [], _, _, _, _, _, _ => rfl
  | _, [], _ :: _, _, _, _, _, _, _ => rfl
  | _, _ :: _, [], _, _, _, _, _, _ => rfl
  | k, x :: xs, y :: ys, _, _, e1, e2, r1, r2 => by
    obtain ⟨v, q, rfl, h1, h2⟩ := r1
    obtain ⟨w, q', rfl, h3, h4⟩ := r2
    have e1' : (eqOk k x && xs.all (eqOk k)) = true := e1
    have e2' : (eqOk k y && ys.all (eqOk k)) = true := e2
    rw [Bool.and_eq_true] at e1' e2'
    show (eqB x y && eqBs xs ys) = (PyData.eqv (toPy C.N x) (toPy C.N y) && PyData.eqvAll (toPys C.N xs) (toPys C.N ys))
    rw [eq_py k x y v w e1'.1 e2'.1 h1 h3, eq_pys k xs ys q q' e1'.2 e2'.2 h2 h4]
end
end
/-! ### dicts -/
section
variable {C : Ct} {F : Hp}
theorem RelK.inj {N : Nms} {k k' : Kd} {j : L2.Key} (r : RelK N k j) (r' : RelK N k' j) : k = k' := by
  cases k with
  | i n =>
    cases (show j = Sum.inl n from r)
    cases k' with
    | i m => cases (show (Sum.inl n : L2.Key) = Sum.inl m from r'); rfl
    | s m => obtain ⟨x, _, e⟩ := r'; cases e
  | s n =>
    obtain ⟨x, e, rfl⟩ := r
    cases k' with
    | i m => cases (show (Sum.inr x : L2.Key) = Sum.inl m from r')
    | s m =>
      obtain ⟨y, e', q⟩ := r'
      cases q
      have h1 := (List.getElem?_eq_some_iff.mp e)
      have h2 := (List.getElem?_eq_some_iff.mp e')
      have : n = m := (List.getElem_inj N.snd).mp (h1.2.trans h2.2.symm)
      rw [this]
theorem RelK.fn {N : Nms} {k : Kd} {j j' : L2.Key} (r : RelK N k j) (r' : RelK N k j') : j = j' := by
  cases k with
  | i n => exact (show j = _ from r).trans (show j' = _ from r').symm
  | s n =>
    obtain ⟨x, e, rfl⟩ := r
    obtain ⟨y, e', rfl⟩ := r'
    rw [e] at e'
    cases e'
    rfl
theorem RelK.dec {N : Nms} {k k' : Kd} {j j' : L2.Key} (r : RelK N k j) (r' : RelK N k' j') : decide (k = k') = decide (j = j') := by
  by_cases h : k = k'
  · subst h
    rw [decide_eq_true rfl, decide_eq_true (r.fn r')]
  · rw [decide_eq_false h, decide_eq_false fun e => h ?_]
    subst e
    exact r.inj r'
theorem keyB_rel {x : B} {k : Kd} {v : V} (e : keyB x = some k) (r : RelB C F x v) : ∃ j, RelK C.N k j ∧ v = kV j := by
  cases x <;> try (cases e; done)
  · cases e
    exact ⟨.inl _, rfl, r⟩
  · cases e
    obtain ⟨x, h, rfl⟩ := r
    exact ⟨.inr x, ⟨x, h, rfl⟩, rfl⟩
theorem kB_rel {k : Kd} {j : L2.Key} (r : RelK C.N k j) : RelB C F (kB k) (kV j) := by
  cases k with
  | i n =>
    cases (show j = Sum.inl n from r)
    rfl
  | s n =>
    obtain ⟨x, h, rfl⟩ := r
    exact ⟨x, h, rfl⟩
theorem relKp {p : Kd × B} {q : L2.Key × V} : RelKp C F p q ↔ RelK C.N p.1 q.1 ∧ RelB C F p.2 q.2 := by
  cases p
  exact Iff.rfl
def RelOb (C : Ct) (F : Hp) : Option B → Option V → Prop
  | some x, some v => RelB C F x v
  | none, none => True
  | _, _ => False
theorem dget_rel : ∀ {kvs : List (Kd × B)} {ks : List (L2.Key × V)} {k : Kd} {j : L2.Key}, RelBk C F kvs ks → RelK C.N k j → RelOb C F (dget kvs k) (valV ks j)
  | [], _, k, j, r, rk => by
    cases (show _ = [] from r)
    exact trivial
  | p :: kvs, _, k, j, r, rk => by
    obtain ⟨q, rest, rfl, hp, h3⟩ := r
    obtain ⟨h1, h2⟩ := relKp.mp hp
    have d := h1.dec rk
    by_cases h : p.1 = k
    · rw [decide_eq_true h] at d
      have hj : q.1 = j := of_decide_eq_true d.symm
      have e1 : dget (p :: kvs) k = some p.2 := by simp [dget, List.find?_cons, h]
      rw [e1, valV_pos hj]
      exact h2
    · rw [decide_eq_false h] at d
      have hj : ¬ q.1 = j := of_decide_eq_false d.symm
      have e1 : dget (p :: kvs) k = dget kvs k := by simp [dget, List.find?_cons, h]
      rw [e1, valV_neg hj]
      exact dget_rel h3 rk
theorem RelBk.length : ∀ {kvs : List (Kd × B)} {ks : List (L2.Key × V)}, RelBk C F kvs ks → kvs.length = ks.length
  | [], _, r => by
    cases (show _ = [] from r)
    rfl
  | p :: kvs, _, r => by
    obtain ⟨q, rest, rfl, _, h3⟩ := r
    rw [List.length_cons, List.length_cons, RelBk.length h3]
theorem any_rel : ∀ {kvs : List (Kd × B)} {ks : List (L2.Key × V)} {k : Kd} {j : L2.Key}, RelBk C F kvs ks → RelK C.N k j → (kvs.any fun p => decide (p.1 = k)) = ks.any fun p => decide (p.1 = j)
  | [], _, k, j, r, rk => by
    cases (show _ = [] from r)
    rfl
  | p :: kvs, _, k, j, r, rk => by
    obtain ⟨q, rest, rfl, hp, h3⟩ := r
    obtain ⟨h1, h2⟩ := relKp.mp hp
    rw [List.any_cons, List.any_cons, any_rel h3 rk, h1.dec rk]
theorem repl_rel : ∀ {kvs : List (Kd × B)} {ks : List (L2.Key × V)} {k : Kd} {j : L2.Key} {y : B} {v : V}, RelBk C F kvs ks → RelK C.N k j → RelB C F y v →
    RelBk C F (kvs.map fun p => if p.1 = k then (p.1, y) else p) (ks.map fun p => if p.1 = j then (p.1, v) else p)
  | [], _, k, j, y, v, r, rk, ry => by
    cases (show _ = [] from r)
    rfl
  | p :: kvs, _, k, j, y, v, r, rk, ry => by
    obtain ⟨q, rest, rfl, hp, h3⟩ := r
    obtain ⟨h1, h2⟩ := relKp.mp hp
    have d := h1.dec rk
    refine ⟨_, _, rfl, ?_, repl_rel h3 rk ry⟩
    by_cases h : p.1 = k
    · rw [decide_eq_true h] at d
      have hj : q.1 = j := of_decide_eq_true d.symm
      dsimp only
      rw [if_pos h, if_pos hj]
      exact relKp.mpr ⟨h1, ry⟩
    · rw [decide_eq_false h] at d
      have hj : ¬ q.1 = j := of_decide_eq_false d.symm
      dsimp only
      rw [if_neg h, if_neg hj]
      exact relKp.mpr ⟨h1, h2⟩
theorem RelBk.append : ∀ {xs ys : List (Kd × B)} {vs ws : List (L2.Key × V)}, RelBk C F xs vs → RelBk C F ys ws → RelBk C F (xs ++ ys) (vs ++ ws)
  | [], _, _, _, h, h' => by
    cases (show _ = [] from h)
    exact h'
  | x :: xs, _, _, _, h, h' => by
    obtain ⟨v, r, rfl, h1, h2⟩ := h
    exact ⟨v, _, rfl, h1, RelBk.append h2 h'⟩
theorem dput_rel {kvs : List (Kd × B)} {ks : List (L2.Key × V)} {k : Kd} {j : L2.Key} {y : B} {v : V} (r : RelBk C F kvs ks) (rk : RelK C.N k j) (ry : RelB C F y v) : RelBk C F (dput kvs k y) (putK ks j v) := by
  unfold dput putK
  rw [any_rel r rk]
  split
  · exact repl_rel r rk ry
  · exact r.append ⟨(j, v), [], rfl, relKp.mpr ⟨rk, ry⟩, rfl⟩
theorem ddrop_rel : ∀ {kvs : List (Kd × B)} {ks : List (L2.Key × V)} {k : Kd} {j : L2.Key}, RelBk C F kvs ks → RelK C.N k j → RelBk C F (ddrop kvs k) (dropK ks j)
  | [], _, k, j, r, rk => by
    cases (show _ = [] from r)
    rfl
  | p :: kvs, _, k, j, r, rk => by
    obtain ⟨q, rest, rfl, hp, h3⟩ := r
    obtain ⟨h1, h2⟩ := relKp.mp hp
    have d := h1.dec rk
    have ih := ddrop_rel h3 rk
    unfold ddrop dropK at ih ⊢
    rw [List.filter_cons, List.filter_cons]
    by_cases h : p.1 = k
    · rw [decide_eq_true h] at d
      have hj : q.1 = j := of_decide_eq_true d.symm
      rw [if_neg (by simp [h]), if_neg (by simp [hj])]
      exact ih
    · rw [decide_eq_false h] at d
      have hj : ¬ q.1 = j := of_decide_eq_false d.symm
      rw [if_pos (by simp [h]), if_pos (by simp [hj])]
      exact ⟨_, _, rfl, relKp.mpr ⟨h1, h2⟩, ih⟩
theorem dmerge_rel : ∀ {more kvs : List (Kd × B)} {ms ks : List (L2.Key × V)}, RelBk C F more ms → RelBk C F kvs ks → RelBk C F (dmerge kvs more) (mergeK ks ms)
  | [], _, _, _, r, r' => by
    cases (show _ = [] from r)
    exact r'
  | p :: more, _, _, _, r, r' => by
    obtain ⟨q, rest, rfl, hp, h3⟩ := r
    obtain ⟨h1, h2⟩ := relKp.mp hp
    show RelBk C F (dmerge (dput _ p.1 p.2) more) (mergeK (putK _ q.1 q.2) rest)
    exact dmerge_rel h3 (dput_rel r' h1 h2)
theorem keys_rel : ∀ {kvs : List (Kd × B)} {ks : List (L2.Key × V)}, RelBk C F kvs ks → RelBs C F (keysOf kvs) (ks.map fun p => kV p.1)
  | [], _, r => by
    cases (show _ = [] from r)
    rfl
  | p :: kvs, _, r => by
    obtain ⟨q, rest, rfl, hp, h3⟩ := r
    obtain ⟨h1, h2⟩ := relKp.mp hp
    exact ⟨_, _, rfl, kB_rel h1, keys_rel h3⟩
theorem vals_rel : ∀ {kvs : List (Kd × B)} {ks : List (L2.Key × V)}, RelBk C F kvs ks → RelBs C F (kvs.map (·.2)) (ks.map (·.2))
  | [], _, r => by
    cases (show _ = [] from r)
    rfl
  | p :: kvs, _, r => by
    obtain ⟨q, rest, rfl, hp, h3⟩ := r
    obtain ⟨h1, h2⟩ := relKp.mp hp
    exact ⟨_, _, rfl, h2, vals_rel h3⟩
end
/-! ### == of views -/
section
variable {X : Cx} {C : Ct} {F : Hp} {ι : List Addr} {S : Store} {H : Hp} {d : D} {v : V}
theorem view_dp (rh : RH C F ι S H) (fr : Fre F ι) {x : B} (r : RelD C F ι d v) (e : viewD S d = some x) (ok : eqOk 12 x = true) : Dp C.K H v (toPy C.N x) ∧ ∃ G w, RelB C G x w := by
  cases d with
  | b y =>
    cases e
    exact ⟨toDp rh.fz 12 x v ok r, F, v, r⟩
  | mix xs => cases e
  | ref n =>
    obtain ⟨a, ha, rfl⟩ := r
    obtain ⟨o, ho, q⟩ := rh.obj ha
    unfold viewD at e
    dsimp only at e
    rw [ho] at e
    cases o <;> try (cases e; done)
    · cases e
      obtain ⟨vs, h1, h2⟩ := q
      refine ⟨.lst (.inl (.inl h1)) (toDpAll rh.fz 11 _ _ ok h2), upd F a (.lst vs), .ref a, a, vs, rfl, upd_same, RelBs.mono (fun b o e => ?_) _ _ h2⟩
      rw [upd_ne (ne_of_none e (fr.at ha))]
      exact e
    · cases e
      cases ok
/-- the machine's comparisons -/
def pcm : Cm → CmpOp
  | .eq => .Eq
  | .ne => .NotEq
  | .lt => .Lt
  | .le => .LtE
  | .gt => .Gt
  | .ge => .GtE
  | .is => .Is
  | .isn => .IsNot
  | .inn => .In
  | .nin => .NotIn
def rC (C : Ct) (o : Cm) : R2 := fun x y H Q => ∃ F ι S dx dy z, RH C F ι S H ∧ Fre F ι ∧ RelD C F ι dx x ∧ RelD C F ι dy y ∧ cmp S o dx dy = some z ∧ Q (.bl z) H
theorem RelBk.len : ∀ {xs : List (Kd × B)} {ks : List (L2.Key × V)}, RelBk C F xs ks → xs.length = ks.length
  | [], _, r => by
    cases (show _ = [] from r)
    rfl
  | p :: xs, _, r => by
    obtain ⟨q, rest, rfl, _, h3⟩ := r
    rw [List.length_cons, List.length_cons, RelBk.len h3]
theorem eqD_dp (rh : RH C F ι S H) (fr : Fre F ι) {dx dy : D} {x y : V} {z : Bool} (rx : RelD C F ι dx x) (ry : RelD C F ι dy y) (e : eqD S dx dy = some z) :
    (∃ a b, Dp C.K H x a ∧ Dp C.K H y b ∧ SeqAt.shaped a = true ∧ SeqAt.shaped b = true ∧ z = PyData.eqv a b) ∨
    ∃ (a b : Addr) (xs ys : List (Kd × B)) (ks ls : List (L2.Key × V)), x = .ref a ∧ y = .ref b ∧ Rd H a (.dK ks) ∧ Rd H b (.dK ls) ∧ RelBk C F xs ks ∧ RelBk C F ys ls ∧ dfree xs = true ∧ dfree ys = true ∧ z = (xs.length == ys.length && eqKs xs ys) := by
  unfold eqD at e
  obtain ⟨a, e1, e⟩ := Option.bind_eq_some_iff.mp e
  obtain ⟨b, e2, e⟩ := Option.bind_eq_some_iff.mp e
  split at e
  · rename_i h
    rw [Bool.and_eq_true] at h
    cases e
    obtain ⟨h1, G, w, h2⟩ := view_dp rh fr rx e1 h.1
    obtain ⟨h3, G', w', h4⟩ := view_dp rh fr ry e2 h.2
    exact .inl ⟨_, _, h1, h3, shaped_py h.1, shaped_py h.2, eq_py 12 a b w w' h.1 h.2 h2 h4⟩
  · unfold eqX at e
    split at e
    · rename_i xs ys _ _
      split at e
      · rename_i h
        rw [Bool.and_eq_true] at h
        cases e
        have vd : ∀ {d : D} {kvs : List (Kd × B)}, viewD S d = some (.dic kvs) → dicD S d = some kvs := fun {d kvs} v => by
          cases d with
          | b x => cases v; rfl
          | mix x => cases v
          | ref n =>
            unfold viewD at v
            unfold dicD
            dsimp only at v ⊢
            cases hS : S[n]? with
            | none => rw [hS] at v; cases v
            | some o =>
              rw [hS] at v
              cases o <;> cases v
              rfl
        obtain ⟨a, ks, rfl, h1, h2⟩ := dicD_rel rh rx (vd e1)
        obtain ⟨b, ls, rfl, h3, h4⟩ := dicD_rel rh ry (vd e2)
        exact .inr ⟨a, b, xs, ys, ks, ls, rfl, rfl, h1, h3, h2, h4, h.1, h.2, rfl⟩
      · cases e
    · cases e
theorem keq_hits {X : Cx} {pins : List (Addr × Obj)} {σ : L2.St} {s : Shared} {A : Around} (hK : C.K = X.K) (I : Inv X pins σ H s) (hs : Sub F H) (hu : A.in1.units + 64 < cLine) {ys : List (Kd × B)} {ls : List (L2.Key × V)} {vb : List (L2.Key × Value)} (rb : KV ls vb) (r2 : RelBk C F ys ls) (ok2 : dfree ys = true) :
    ∀ {xs : List (Kd × B)} {ks : List (L2.Key × V)} {va : List (L2.Key × Value)}, RelBk C F xs ks → dfree xs = true → KV ks va → PySem.W.KeqHits A.in1 s vb va (eqKs xs ys)
  | [], ks, va, r, _, ra => by
    cases (show ks = [] from r)
    unfold KV at ra
    cases ra
    exact .nil
  | p :: xs, ks, va, r, ok, ra => by
    obtain ⟨q, rest, rfl, hp, h3⟩ := r
    obtain ⟨hk, hv⟩ := relKp.mp hp
    unfold KV at ra
    cases ra with
    | cons hq hr =>
    rename_i kv va'
    obtain ⟨k', u⟩ := kv
    obtain ⟨hk1, hv1⟩ := hq
    have hk1' : q.1 = k' := hk1
    have ok' : (eqOk 12 p.2 && dfree xs) = true := ok
    rw [Bool.and_eq_true] at ok'
    have ih := keq_hits hK I hs hu rb r2 ok2 h3 ok'.2 hr
    have g := dget_rel r2 hk
    have gv := rb.val q.1
    show PySem.W.KeqHits A.in1 s vb ((k', u) :: va') (eqKp p ys && eqKs xs ys)
    have ekp : eqKp p ys = (match dget ys p.1 with
      | some y => eqB p.2 y
      | none => false) := by cases p; rfl
    rw [ekp]
    cases hd : dget ys p.1 with
    | none =>
      rw [hd] at g
      cases hw : valV ls q.1 with
      | none =>
        rw [hw] at gv
        cases hz : valueAt vb q.1 with
        | none =>
          rw [hk1'] at hz
          exact .miss hz
        | some z => rw [hz] at gv; exact gv.elim
      | some w => rw [hw] at g; exact g.elim
    | some y =>
      rw [hd] at g
      cases hw : valV ls q.1 with
      | none => rw [hw] at g; exact g.elim
      | some w =>
        rw [hw] at g gv
        obtain ⟨z, hz, rz⟩ := gv.some_of
        rw [hk1'] at hz
        have oky : eqOk 12 y = true := by
          unfold dget at hd
          obtain ⟨pr, hf, he⟩ := Option.map_eq_some_iff.mp hd
          rw [← he]
          exact List.all_eq_true.mp ok2 pr (List.mem_of_find?_eq_some hf)
        have d1 := hK ▸ toDp hs 12 p.2 q.2 ok'.1 hv
        have d2 := hK ▸ toDp hs 12 y w oky g
        obtain ⟨as, rd1⟩ := Dp.reads I _ _ _ d1 hv1
        obtain ⟨bs, rd2⟩ := Dp.reads I _ _ _ d2 rz
        refine .hit hz ?_ ih
        show SeqAt.EqAt A.in1 s u z (eqB p.2 y)
        rw [eq_py 12 p.2 y q.2 w ok'.1 oky hv g]
        exact PySem.W.keq_at rd1 rd2 (shaped_py ok'.1) (shaped_py oky) hu
theorem eqTe_in {X : Cx} {pins : List (Addr × Obj)} {σ : L2.St} {s : Shared} {A : Around} (hK : C.K = X.K) (I : Inv X pins σ H s) (hs : Sub F H) (hu : A.units + 66 < cLine) {x y : B} {v w : V} {u z : Value} {e : Bool} (r1 : RelB C F x v) (r2 : RelB C F y w) (q1 : L2.RelV v u) (q2 : L2.RelV w z) (h : eqTe x y = some e) : SeqAt.EqIn X.prog X.w A.in1 s u z e := by
  unfold eqTe at h
  split at h
  · rename_i ok
    rw [Bool.and_eq_true] at ok
    cases h
    have d1 := hK ▸ toDp hs 12 x v ok.1 r1
    have d2 := hK ▸ toDp hs 12 y w ok.2 r2
    obtain ⟨as, rd1⟩ := Dp.reads I _ _ _ d1 q1
    obtain ⟨bs, rd2⟩ := Dp.reads I _ _ _ d2 q2
    rw [eq_py 12 x y v w ok.1 ok.2 r1 r2]
    exact (PySem.W.keq_at rd1 rd2 (shaped_py ok.1) (shaped_py ok.2) (by show A.units + 1 + 64 < cLine; omega)).inModel _ _
  · split at h
    · rename_i hx
      cases h
      unfold eqX at hx
      split at hx
      · rename_i xs ys _
        split at hx
        · rename_i ok
          rw [Bool.and_eq_true] at ok
          have hx := Option.some.inj hx
          obtain ⟨a, o1, ks, rfl, f1, k1⟩ := r1
          obtain ⟨b, o2, ls, rfl, f2, k2⟩ := r2
          cases (show u = Value.ref a from q1)
          cases (show z = Value.ref b from q2)
          by_cases hab : a = b
          · subst hab
            exact (SeqAt.EqAt.same _).inModel _ _
          · refine SeqAt.EqIn.of_refs hab fun E Q hq => ?_
            obtain ⟨_, sa, va, ka, da⟩ := dk_rd I.hok (.inr ⟨o1, hs _ _ f1⟩)
            obtain ⟨_, sb, vb, kb, db⟩ := dk_rd I.hok (.inr ⟨o2, hs _ _ f2⟩)
            have la : xs.length = va.length := (RelBk.len k1).trans (Paired.length ka)
            have lb : ys.length = vb.length := (RelBk.len k2).trans (Paired.length kb)
            rw [la, lb] at hx
            refine PySem.W.keq_eq (knd := mixKind X.prog X.w) (A := A.in1) sa sb da db (by show A.units + 1 < cLine; omega) (fun _ => keq_hits hK I hs (A := A.in1) (by show A.units + 1 + 1 + 64 < cLine; omega) kb k2 ok.2 k1 ok.1 ka) ?_
            rw [hx]
            exact hq
        · cases hx
      · cases hx
    · cases h
theorem eqTs_get : ∀ {xs ys : List B} {es : List Bool}, eqTs xs ys = some es → es.length = min xs.length ys.length ∧ ∀ (j : Nat) x y, xs[j]? = some x → ys[j]? = some y → ∃ e, es[j]? = some e ∧ eqTe x y = some e
  | [], ys, es, h => by
    cases h
    exact ⟨by simp, fun j x y h => by simp at h⟩
  | _ :: _, [], es, h => by
    cases h
    exact ⟨by simp, fun j x y _ h => by simp at h⟩
  | x :: xs, y :: ys, es, h => by
    unfold eqTs at h
    obtain ⟨e, h1, h⟩ := Option.bind_eq_some_iff.mp h
    obtain ⟨es', h2, rfl⟩ := Option.map_eq_some_iff.mp h
    obtain ⟨l, g⟩ := eqTs_get h2
    refine ⟨by simp [l], fun j x' y' hx hy => ?_⟩
    cases j with
    | zero =>
      cases hx
      cases hy
      exact ⟨e, rfl, h1⟩
    | succ j => exact g j x' y' (by simpa using hx) (by simpa using hy)
theorem int2_rel {f : Int → Int → Bool} {dx dy : D} {x y : V} {z : Bool} (rx : RelD C F ι dx x) (ry : RelD C F ι dy y) (e : int2 f dx dy = some z) : ∃ i j, x = .int i ∧ y = .int j ∧ z = f i j := by
  unfold int2 at e
  split at e
  · cases e
    exact ⟨_, _, rx, ry, rfl⟩
  · cases e
theorem isD_rel {dx dy : D} {x y : V} {z : Bool} (rx : RelD C F ι dx x) (ry : RelD C F ι dy y) (e : isD dx dy = some z) : (y = .non ∧ z = decide (x = .non)) ∨ ∃ a b, x = .bl a ∧ y = .bl b ∧ z = decide (a = b) := by
  unfold isD at e
  split at e
  · cases e
    refine .inl ⟨ry, ?_⟩
    unfold isNon
    split
    · rw [show x = .non from rx]
      simp
    · rename_i h
      symm
      refine decide_eq_false fun z => ?_
      subst z
      cases dx with
      | ref n => obtain ⟨a, _, q⟩ := rx; cases q
      | mix xs => obtain ⟨a, _, q, _⟩ := rx; cases q
      | b w =>
        cases w with
        | non => exact h rfl
        | bl b => cases (show V.non = V.bl b from rx)
        | int b => cases (show V.non = V.int b from rx)
        | str n => obtain ⟨a, _, q⟩ := rx; cases q
        | tup n => obtain ⟨a, _, q, _⟩ := rx; cases q
        | lst n => obtain ⟨a, _, q, _⟩ := rx; cases q
        | scr n => obtain ⟨a, _, q, _⟩ := rx; cases q
        | dic n => obtain ⟨a, _, _, q, _⟩ := rx; cases q
        | ins n m => obtain ⟨a, _, _, _, q, _⟩ := rx; cases q
  · split at e
    · rename_i c _ a
      cases e
      refine .inr ⟨a, c, rx, ry, ?_⟩
      cases a <;> cases c <;> rfl
    · cases e
  · cases e
theorem any_py {a : B} {w : V} {G : Hp} (ha : eqOk 12 a = true) (hr : RelB C G a w) : ∀ (ys : List B) (vs : List V), ys.all (eqOk 12) = true → RelBs C F ys vs → (ys.any fun z => eqB z a) = (toPys C.N ys).any fun z => PyData.eqv z (toPy C.N a)
  | [], _, _, _ => rfl
  | y :: ys, _, e, r => by
    obtain ⟨v, q, rfl, h5, h6⟩ := r
    have e' : (eqOk 12 y && ys.all (eqOk 12)) = true := e
    rw [Bool.and_eq_true] at e'
    show ((y :: ys).any fun z => eqB z a) = (toPy C.N y :: toPys C.N ys).any fun z => PyData.eqv z (toPy C.N a)
    rw [List.any_cons, List.any_cons, any_py ha hr ys q e'.2 h6, eq_py 12 y a v w e'.1 ha h5 hr]
theorem inD_rel (rh : RH C F ι S H) (fr : Fre F ι) {dx dy : D} {x y : V} {z : Bool} (rx : RelD C F ι dx x) (ry : RelD C F ι dy y) (e : inD S dx dy = some z) :
    (∃ a o, y = .ref a ∧ DGet H a x o ∧ z = o.isSome) ∨ ∃ d ds, Dp C.K H x d ∧ (Dp C.K H y (.list ds) ∨ Dp C.K H y (.tuple ds)) ∧ SeqAt.shaped d = true ∧ PyData.canLayAll0 ds = true ∧ z = ds.any fun w => PyData.eqv w d := by
  unfold inD at e
  split at e
  · rename_i kvs hd
    obtain ⟨k, e1, e2⟩ := Option.map_eq_some_iff.mp e
    obtain ⟨a, ks, rfl, h1, h2⟩ := dicD_rel rh ry hd
    cases dx with
    | b w =>
      obtain ⟨j, rk, rfl⟩ := keyB_rel (C := C) (F := F) e1 rx
      have q := dget_rel h2 rk
      refine .inl ⟨a, valV ks j, rfl, .inl ⟨ks, j, h1, rfl, rfl⟩, ?_⟩
      rw [← e2]
      cases h3 : dget kvs k <;> cases h4 : valV ks j <;> rw [h3, h4] at q <;> first | rfl | exact q.elim
    | ref n => cases e1
    | mix n => cases e1
  · obtain ⟨a, e1, e⟩ := Option.bind_eq_some_iff.mp e
    obtain ⟨ys, e2, e⟩ := Option.bind_eq_some_iff.mp e
    split at e
    · rename_i h
      rw [Bool.and_eq_true] at h
      cases e
      obtain ⟨h1, G, w, h2⟩ := view_dp rh fr rx e1 h.1
      obtain ⟨b, vs, rfl, h3, h4⟩ := seqD_rel rh ry e2
      refine .inr ⟨_, toPys C.N ys, h1, ?_, shaped_py h.1, (lay_pys 12 ys h.2).1, ?_⟩
      · have q := toDpAll rh.fz 12 ys vs h.2 h4
        exact h3.elim (fun z => .inl (.lst z q)) (fun z => .inr (.tup z q))
      · exact any_py h.1 h2 ys vs h.2 h4
    · cases e
/-! tuples that differ, with dicts in them -/
section
open AutoSeq1 (wpAny_loadPart')
open MeetsSeq MeetsSeq2 MeetsSeq3 SeqRoads2
open PySem.SeqAt (EqIn)
theorem tuple_neIn {prog : Program} {w : World} (l b : Addr) (xs ys : Array Value) (n n2 : Nat) (dd dd2 : Option Addr) (sl sl2 : Array (Option Value)) (e : Nat → Bool) :
    MeetsIn prog w (Builtin.«tuple.__ne__» ⟨[.ref l, .ref b], []⟩)
      (fun A R s => s.heap.get? l = some { cls := .type "tuple", dict := dd, data := .seq xs n, slots := sl } ∧ s.heap.get? b = some { cls := .type "tuple", dict := dd2, data := .seq ys n2, slots := sl2 } ∧
        (∀ j (h1 : j < xs.size) (h2 : j < ys.size), EqIn prog w A.in1 s xs[j] ys[j] (e j)) ∧
        R (.ok (.ret (.bool (!((List.range (min xs.size ys.size)).all e && xs.size == ys.size))))) s) :=
  .of_wp fun A R s h => by
    obtain ⟨hp, g, d, tk, os⟩ := s
    obtain ⟨hl, hb, he, h⟩ := h
    have sub := AutoSeq1.sub_tuple_tuple
    have hZ : (xs.toList.zip ys.toList).length = min xs.size ys.size := by simp
    wp_walk using wpAny_loadPart' hl, wpAny_loadPart' hb, wpAny_forIn_list _ (fun rest b s' => b.1 = none ∧ s' = ⟨hp, g, d, tk, os⟩ ∧ ∃ i, rest = (xs.toList.zip ys.toList).drop i ∧
      R (.ok (.ret (.bool (!(((List.range (min xs.size ys.size)).drop i).all e && xs.size == ys.size))))) ⟨hp, g, d, tk, os⟩) _
    case turn =>
      rintro ⟨y, x⟩ rest b s' ⟨hb', rfl, i, hz, hR⟩
      have hlt : i < (xs.toList.zip ys.toList).length := by
        rcases Nat.lt_or_ge i (xs.toList.zip ys.toList).length with h' | h'
        · exact h'
        · rw [List.drop_of_length_le h'] at hz
          cases hz
      have hm : i < min xs.size ys.size := hZ ▸ hlt
      have h1 : i < xs.size := Nat.lt_of_lt_of_le hm (Nat.min_le_left _ _)
      have h2 : i < ys.size := Nat.lt_of_lt_of_le hm (Nat.min_le_right _ _)
      rw [List.drop_eq_getElem_cons hlt] at hz
      injection hz with hyx hrest
      have hy : y = xs[i] := by
        have := congrArg Prod.fst hyx
        simpa using this
      have hx : x = ys[i] := by
        have := congrArg Prod.snd hyx
        simpa using this
      subst hy hx
      have hd : (List.range (min xs.size ys.size)).drop i = i :: (List.range (min xs.size ys.size)).drop (i + 1) := by simp [List.drop_eq_getElem_cons, hm]
      rw [hd, List.all_cons] at hR
      refine wpAny_bind (he i h1 h2 _ _ ?_)
      cases hy : e i with
      | true =>
        rw [hy] at hR
        wp_walk
        exact ⟨rfl, rfl, i + 1, hrest, by simpa using hR⟩
      | false =>
        rw [hy] at hR
        wp_walk
        exact ⟨_, rfl, by simpa using hR⟩
    case fin =>
      rintro ⟨b1, b2⟩ s' ⟨hb', rfl, i, hz, hR⟩
      simp only at hb'
      subst hb'
      have hge : min xs.size ys.size ≤ i := by
        rcases Nat.lt_or_ge i (xs.toList.zip ys.toList).length with h' | h'
        · rw [List.drop_eq_getElem_cons h'] at hz
          cases hz
        · exact hZ ▸ h'
      rw [List.drop_of_length_le (by simpa using hge)] at hR
      wp_walk
      exact ⟨_, rfl, by simpa [Builtin.Tuple.tupleCompareSizes, bne] using hR⟩
    case h =>
      exact ⟨rfl, rfl, 0, rfl, by simpa using h⟩
theorem rcIn_netuples {prog : Program} {w : World} {A : Around} {s : Shared} {E : Value → Shared → Prop} {l b : Addr} {xs ys : Array Value} {e : Nat → Bool} {Q : Value → Shared → Prop} (hl : s.heap.IsTuple l xs) (hb : s.heap.IsTuple b ys) (hu : A.units < cLine)
    (he : ∀ j (h1 : j < xs.size) (h2 : j < ys.size), EqIn prog w A.in1 s xs[j] ys[j] (e j)) (h : Q (.bool (!((List.range (min xs.size ys.size)).all e && xs.size == ys.size))) s) :
    wpAny (model prog w) A (richCompare .NotEq (.ref l) (.ref b)) Q E s := by
  obtain ⟨⟨cls, dd, data, sl⟩, ho, hc, n, hd⟩ := id hl
  obtain ⟨⟨cls2, dd2, data2, sl2⟩, ho2, hc2, n2, hd2⟩ := id hb
  simp only at hc hd hc2 hd2
  subst hc hd hc2 hd2
  exact wpAny_richCompare_same_room (T := "tuple") (op := .NotEq) ⟨_, ho, rfl⟩ ⟨_, ho2, rfl⟩ F.slot_tuple_ne (call_meetsIn F.slot_tuple_ne ⟨_, ho, rfl⟩ F.entry_tuple_ne (F.args_tuple_ne_2 _ _) (tuple_neIn l b xs ys n n2 dd dd2 sl sl2 e)
    ⟨ho, ho2, he, show Value.bool (!((List.range (min xs.size ys.size)).all e && xs.size == ys.size)) ≠ Value.notImplemented ∧ Q (.bool (!((List.range (min xs.size ys.size)).all e && xs.size == ys.size))) s from ⟨(fun x => nomatch x), h⟩⟩) hu
end
theorem op_cmpM (hK : C.K = X.K) (hu : X.A.units + 66 < cLine) (o : Cm) : OpR X (compareOp (pcm o)) (rC C o) := by
  intro pins s σ H x y v u Q I rx ry h
  obtain ⟨F, ι, S, dx, dy, z, rh, fr, hx, hy, e, q⟩ := h
  cases o with
  | eq =>
    have e0 : (eqD S dx dy).or (eqT dx dy) = some z := e
    cases hd : eqD S dx dy with
    | none =>
      rw [hd] at e0
      have e0 : eqT dx dy = some z := e0
      unfold eqT at e0
      split at e0
      · rename_i xs ys _
        obtain ⟨es, he, rfl⟩ := Option.map_eq_some_iff.mp e0
        obtain ⟨a, vs, rfl, h1, h2⟩ := hx
        obtain ⟨b, ws, rfl, h3, h4⟩ := hy
        cases (show v = Value.ref a from rx)
        cases (show u = Value.ref b from ry)
        obtain ⟨i1, r1, p1, _⟩ := I.tuple (hK ▸ sqT_mono rh.fz h1)
        obtain ⟨i2, r2, p2, _⟩ := I.tuple (hK ▸ sqT_mono rh.fz h3)
        obtain ⟨hl, hg⟩ := eqTs_get he
        have n1 : xs.length = i1.length := h2.length.trans r1.length
        have n2 : ys.length = i2.length := h4.length.trans r2.length
        refine SeqAt.rcIn_tuples (e := fun j => es.getD j true) p1 p2 (by omega) (fun j j1 j2 => ?_) ?_
        · have j1' : j < xs.length := by rw [n1]; simpa using j1
          have j2' : j < ys.length := by rw [n2]; simpa using j2
          obtain ⟨e', g1, g2⟩ := hg j _ _ (List.getElem?_eq_getElem j1') (List.getElem?_eq_getElem j2')
          obtain ⟨v', hv', rv'⟩ := h2.get (List.getElem?_eq_getElem j1')
          obtain ⟨w', hw', rw'⟩ := h4.get (List.getElem?_eq_getElem j2')
          obtain ⟨u1, hu1, ru1⟩ := r1.get hv'
          obtain ⟨u2, hu2, ru2⟩ := r2.get hw'
          have := eqTe_in (A := X.A) hK I rh.fz (by omega) rv' rw' ru1 ru2 g2
          have e1 : i1.toArray[j] = u1 := by
            have := (List.getElem?_eq_some_iff.mp hu1).2
            simpa using this
          have e2 : i2.toArray[j] = u2 := by
            have := (List.getElem?_eq_some_iff.mp hu2).2
            simpa using this
          rw [e1, e2, List.getD_eq_getElem?_getD, g1]
          exact this
        · have e3 : ((List.range (min i1.toArray.size i2.toArray.size)).all fun j => es.getD j true) = es.all id := by
            have : min i1.toArray.size i2.toArray.size = es.length := by rw [hl, n1, n2]; simp
            rw [this]
            have e4 : es = (List.range es.length).map fun j => es.getD j true := by
              refine List.ext_getElem? fun j => ?_
              rw [List.getElem?_map]
              by_cases hj : j < es.length
              · rw [List.getElem?_range hj, List.getElem?_eq_getElem hj]
                simp [hj]
              · rw [List.getElem?_eq_none (by omega), List.getElem?_eq_none (by rw [List.length_range]; omega)]
                rfl
            conv => rhs; rw [e4, List.all_map]
            rfl
          have e5 : (i1.toArray.size == i2.toArray.size) = (xs.length == ys.length) := by rw [n1, n2]; simp
          rw [e3, e5]
          exact ⟨.bl _, H, I, rfl, q⟩
      · cases e0
    | some z' =>
    rw [hd] at e0
    cases e0
    have e := hd
    rcases eqD_dp rh fr hx hy e with ⟨a, b, h1, h2, h3, h4, rfl⟩ | ⟨a, b, xs, ys, ks, ls, rfl, rfl, h1, h2, h3, h4, h5, h6, rfl⟩
    · exact op_eqD (by omega) pins s σ H x y v u Q I rx ry ⟨a, b, hK ▸ h1, hK ▸ h2, h3, h4, q⟩
    · cases (show v = Value.ref a from rx)
      cases (show u = Value.ref b from ry)
      obtain ⟨_, sa, va, ka, da⟩ := dk_rd I.hok h1
      obtain ⟨_, sb, vb, kb, db⟩ := dk_rd I.hok h2
      have la : xs.length = va.length := (RelBk.len h3).trans (Paired.length ka)
      have lb : ys.length = vb.length := (RelBk.len h4).trans (Paired.length kb)
      rw [la, lb] at q
      exact PySem.W.keq_eq (knd := mixKind X.prog X.w) sa sb da db (by omega) (fun _ => keq_hits hK I rh.fz (by show X.A.units + 1 + 64 < cLine; omega) kb h4 h6 h3 h5 ka) ⟨.bl _, H, I, rfl, q⟩
  | ne =>
    obtain ⟨z', e0, rfl⟩ := Option.map_eq_some_iff.mp e
    cases hd : eqD S dx dy with
    | none =>
      rw [hd] at e0
      have e0 : eqT dx dy = some z' := e0
      unfold eqT at e0
      split at e0
      · rename_i xs ys _
        obtain ⟨es, he, rfl⟩ := Option.map_eq_some_iff.mp e0
        obtain ⟨a, vs, rfl, h1, h2⟩ := hx
        obtain ⟨b, ws, rfl, h3, h4⟩ := hy
        cases (show v = Value.ref a from rx)
        cases (show u = Value.ref b from ry)
        obtain ⟨i1, r1, p1, _⟩ := I.tuple (hK ▸ sqT_mono rh.fz h1)
        obtain ⟨i2, r2, p2, _⟩ := I.tuple (hK ▸ sqT_mono rh.fz h3)
        obtain ⟨hl, hg⟩ := eqTs_get he
        have n1 : xs.length = i1.length := h2.length.trans r1.length
        have n2 : ys.length = i2.length := h4.length.trans r2.length
        refine rcIn_netuples (e := fun j => es.getD j true) p1 p2 (by omega) (fun j j1 j2 => ?_) ?_
        · have j1' : j < xs.length := by rw [n1]; simpa using j1
          have j2' : j < ys.length := by rw [n2]; simpa using j2
          obtain ⟨e', g1, g2⟩ := hg j _ _ (List.getElem?_eq_getElem j1') (List.getElem?_eq_getElem j2')
          obtain ⟨v', hv', rv'⟩ := h2.get (List.getElem?_eq_getElem j1')
          obtain ⟨w', hw', rw'⟩ := h4.get (List.getElem?_eq_getElem j2')
          obtain ⟨u1, hu1, ru1⟩ := r1.get hv'
          obtain ⟨u2, hu2, ru2⟩ := r2.get hw'
          have := eqTe_in (A := X.A) hK I rh.fz (by omega) rv' rw' ru1 ru2 g2
          have e1 : i1.toArray[j] = u1 := by
            have := (List.getElem?_eq_some_iff.mp hu1).2
            simpa using this
          have e2 : i2.toArray[j] = u2 := by
            have := (List.getElem?_eq_some_iff.mp hu2).2
            simpa using this
          rw [e1, e2, List.getD_eq_getElem?_getD, g1]
          exact this
        · have e3 : ((List.range (min i1.toArray.size i2.toArray.size)).all fun j => es.getD j true) = es.all id := by
            have : min i1.toArray.size i2.toArray.size = es.length := by rw [hl, n1, n2]; simp
            rw [this]
            have e4 : es = (List.range es.length).map fun j => es.getD j true := by
              refine List.ext_getElem? fun j => ?_
              rw [List.getElem?_map]
              by_cases hj : j < es.length
              · rw [List.getElem?_range hj, List.getElem?_eq_getElem hj]
                simp [hj]
              · rw [List.getElem?_eq_none (by omega), List.getElem?_eq_none (by rw [List.length_range]; omega)]
                rfl
            conv => rhs; rw [e4, List.all_map]
            rfl
          have e5 : (i1.toArray.size == i2.toArray.size) = (xs.length == ys.length) := by rw [n1, n2]; simp
          rw [e3, e5]
          exact ⟨.bl _, H, I, rfl, q⟩
      · cases e0
    | some z2 =>
    rw [hd] at e0
    cases e0
    have e1 := hd
    rcases eqD_dp rh fr hx hy e1 with ⟨a, b, h1, h2, h3, h4, rfl⟩ | ⟨a, b, xs, ys, ks, ls, rfl, rfl, h1, h2, h3, h4, h5, h6, rfl⟩
    · exact op_neD (by omega) pins s σ H x y v u Q I rx ry ⟨a, b, hK ▸ h1, hK ▸ h2, h3, h4, q⟩
    · cases (show v = Value.ref a from rx)
      cases (show u = Value.ref b from ry)
      obtain ⟨_, sa, va, ka, da⟩ := dk_rd I.hok h1
      obtain ⟨_, sb, vb, kb, db⟩ := dk_rd I.hok h2
      have la : xs.length = va.length := (RelBk.len h3).trans (Paired.length ka)
      have lb : ys.length = vb.length := (RelBk.len h4).trans (Paired.length kb)
      rw [la, lb] at q
      exact PySem.W.keq_ne (knd := mixKind X.prog X.w) sa sb da db (by omega) (fun _ => keq_hits hK I rh.fz (by show X.A.units + 1 + 64 < cLine; omega) kb h4 h6 h3 h5 ka) ⟨.bl _, H, I, rfl, q⟩
  | lt =>
    obtain ⟨i, j, rfl, rfl, rfl⟩ := int2_rel hx hy e
    exact op_lt pins s σ H _ _ v u Q I rx ry ⟨i, j, rfl, rfl, q⟩
  | le =>
    obtain ⟨i, j, rfl, rfl, rfl⟩ := int2_rel hx hy e
    exact op_le pins s σ H _ _ v u Q I rx ry ⟨i, j, rfl, rfl, q⟩
  | gt =>
    obtain ⟨i, j, rfl, rfl, rfl⟩ := int2_rel hx hy e
    exact op_gt pins s σ H _ _ v u Q I rx ry ⟨i, j, rfl, rfl, q⟩
  | ge =>
    obtain ⟨i, j, rfl, rfl, rfl⟩ := int2_rel hx hy e
    exact op_ge pins s σ H _ _ v u Q I rx ry ⟨i, j, rfl, rfl, q⟩
  | is =>
    rcases isD_rel hx hy e with ⟨rfl, rfl⟩ | ⟨a, b, rfl, rfl, rfl⟩
    · exact op_isN pins s σ H x _ v u Q I rx ry ⟨rfl, q⟩
    · exact op_is_bl pins s σ H _ _ v u Q I rx ry ⟨a, b, rfl, rfl, q⟩
  | isn =>
    obtain ⟨z', e1, rfl⟩ := Option.map_eq_some_iff.mp e
    rcases isD_rel hx hy e1 with ⟨rfl, rfl⟩ | ⟨a, b, rfl, rfl, rfl⟩
    · exact op_notN pins s σ H x _ v u Q I rx ry ⟨rfl, q⟩
    · exact op_isnot_bl pins s σ H _ _ v u Q I rx ry ⟨a, b, rfl, rfl, q⟩
  | inn =>
    rcases inD_rel rh fr hx hy e with ⟨a, o, rfl, h1, rfl⟩ | ⟨d, ds, h1, h2, h3, h4, rfl⟩
    · cases (show u = Value.ref a from ry)
      exact d_in (by omega) I h1 rx fun s' I' => ⟨.bl _, H, I', rfl, q⟩
    · obtain ⟨as, r1⟩ := Dp.reads I d x v (hK ▸ h1) rx
      rcases h2 with h2 | h2
      · obtain ⟨bs, r2⟩ := Dp.reads I (.list ds) y u (hK ▸ h2) ry
        exact SeqAt.in_list_reads r2 r1 h4 (SeqAt.canLay_of_shaped h3) (room_in_shaped h3 (Nat.lt_of_succ_lt hu)) ⟨.bl _, H, I, rfl, q⟩
      · obtain ⟨bs, r2⟩ := Dp.reads I (.tuple ds) y u (hK ▸ h2) ry
        exact SeqAt.in_tuple_reads r2 r1 h4 (SeqAt.canLay_of_shaped h3) (room_in_shaped h3 (Nat.lt_of_succ_lt hu)) ⟨.bl _, H, I, rfl, q⟩
  | nin =>
    obtain ⟨z', e1, rfl⟩ := Option.map_eq_some_iff.mp e
    rcases inD_rel rh fr hx hy e1 with ⟨a, o, rfl, h1, rfl⟩ | ⟨d, ds, h1, h2, h3, h4, rfl⟩
    · cases (show u = Value.ref a from ry)
      exact d_notIn (by omega) I h1 rx fun s' I' => ⟨.bl _, H, I', rfl, q⟩
    · obtain ⟨as, r1⟩ := Dp.reads I d x v (hK ▸ h1) rx
      rcases h2 with h2 | h2
      · obtain ⟨bs, r2⟩ := Dp.reads I (.list ds) y u (hK ▸ h2) ry
        exact SeqAt.notIn_list_reads r2 r1 h4 (SeqAt.canLay_of_shaped h3) (room_in_shaped h3 (Nat.lt_of_succ_lt hu)) ⟨.bl _, H, I, rfl, q⟩
      · obtain ⟨bs, r2⟩ := Dp.reads I (.tuple ds) y u (hK ▸ h2) ry
        exact SeqAt.notIn_tuple_reads r2 r1 h4 (SeqAt.canLay_of_shaped h3) (room_in_shaped h3 (Nat.lt_of_succ_lt hu)) ⟨.bl _, H, I, rfl, q⟩
/-! ### truth -/
def rT (C : Ct) : V → Hp → (Bool → Hp → Prop) → Prop := fun x H Q => ∃ F ι S d z, RH C F ι S H ∧ RelD C F ι d x ∧ truth S d = some z ∧ Q z H
theorem RelBs.emp {xs : List B} {vs : List V} (r : RelBs C F xs vs) : xs.isEmpty = vs.isEmpty := by
  have := r.length
  cases xs <;> cases vs <;> first | rfl | (simp at this)
theorem RelDs.emp {xs : List D} {vs : List V} (r : RelDs C F ι xs vs) : xs.isEmpty = vs.isEmpty := by
  have := r.length
  cases xs <;> cases vs <;> first | rfl | (simp at this)
theorem RelBk.emp {xs : List (Kd × B)} {vs : List (L2.Key × V)} (r : RelBk C F xs vs) : xs.isEmpty = vs.isEmpty := by
  have := r.length
  cases xs <;> cases vs <;> first | rfl | (simp at this)
theorem tru_M (hK : C.K = X.K) : TruR X (rT C) := by
  intro pins s σ H x v Q I rx h
  obtain ⟨F, ι, S, d, z, rh, r, e, q⟩ := h
  cases d with
  | b w =>
    cases w <;> try (cases e; done)
    · cases e
      exact tru_ok pins s σ H x v Q I rx ⟨false, by cases (show x = .non from r); exact rfl, q⟩
    · rename_i b
      cases e
      exact tru_ok pins s σ H x v Q I rx ⟨_, by cases (show x = .bl _ from r); exact rfl, q⟩
    · rename_i i
      cases e
      exact tru_ok pins s σ H x v Q I rx ⟨_, by cases (show x = .int _ from r); exact rfl, q⟩
    · cases e
      obtain ⟨a, vs, rfl, h1, h2⟩ := (show RelB C F _ x from r)
      exact tru_ok pins s σ H _ v Q I rx ⟨_, .inr (.inl ⟨vs, hK ▸ sqT_mono rh.fz h1, by rw [h2.emp]⟩), q⟩
    · cases e
      obtain ⟨a, vs, rfl, h1, h2⟩ := (show RelB C F _ x from r)
      exact tru_ok pins s σ H _ v Q I rx ⟨_, .inl ⟨vs, .inl (.inl (rh.fz _ _ h1)), by rw [h2.emp]⟩, q⟩
    · cases e
      obtain ⟨a, vs, rfl, h1, h2⟩ := (show RelB C F _ x from r)
      exact tru_ok pins s σ H _ v Q I rx ⟨_, .inl ⟨vs, hK ▸ sqL_mono rh.fz h1, by rw [h2.emp]⟩, q⟩
    · cases e
      obtain ⟨a, o, ks, rfl, h1, h2⟩ := (show RelB C F _ x from r)
      cases (show v = Value.ref a from rx)
      exact d_truth I (.inr ⟨o, rh.fz _ _ h1⟩) fun s' I' => ⟨H, I', by rw [← h2.emp]; exact q⟩
  | mix xs =>
    cases e
    obtain ⟨a, vs, rfl, h1, h2⟩ := r
    exact tru_ok pins s σ H _ v Q I rx ⟨_, .inr (.inl ⟨vs, hK ▸ sqT_mono rh.fz h1, by rw [h2.emp]⟩), q⟩
  | ref n =>
    obtain ⟨a, ha, rfl⟩ := r
    obtain ⟨o, ho, r⟩ := rh.obj ha
    unfold truth at e
    dsimp only at e
    rw [ho] at e
    cases o <;> try (cases e; done)
    · cases e
      obtain ⟨vs, h1, h2⟩ := r
      exact tru_ok pins s σ H _ v Q I rx ⟨_, .inl ⟨vs, .inl (.inl h1), by rw [h2.emp]⟩, q⟩
    · cases e
      obtain ⟨vs, h1, h2⟩ := r
      cases (show v = Value.ref a from rx)
      exact d_truth I (.inl h1) fun s' I' => ⟨H, I', by rw [← h2.emp]; exact q⟩
end
end M
/-! MC5: rules of expressions. -/
namespace M
open PySem PySem.Spec PyProof.Rows L2
/-! ### readings by the small interpreter -/
def rdE (C : Ct) (P : Par) (e : E) : TE := fun σ H Q => ∃ F ι S sl d S', RS C F ι sl S σ H ∧ ev P e sl S = some (d, S') ∧ Post C F ι S' d Q
def rdT (C : Ct) (P : Par) (e : E) : TT := fun σ H Q => ∃ F ι S sl d S' c, RS C F ι sl S σ H ∧ ev P e sl S = some (d, S') ∧ truth S' d = some c ∧ ∀ F' ι' H', Le F ι F' ι' → RH C F' ι' S' H' → Fre F' ι' → Q c H'
def rdA (C : Ct) (P : Par) (es : List E) : TA := fun σ H Q => ∃ F ι S sl ds S', RS C F ι sl S σ H ∧ evs P es sl S = some (ds, S') ∧ ∀ F' ι' vs H', Le F ι F' ι' → RH C F' ι' S' H' → Fre F' ι' → RelDs C F' ι' ds vs → Q vs H'
theorem _root_.L2.PE.imp {X : Cx} {e : Expr} {t t' : TE} (h : PE X e t) (k : ∀ σ H Q, t' σ H Q → t σ H Q) : PE X e t' := ⟨fun pins s σ H Q I q => h.run pins s σ H Q I (k σ H Q q)⟩
theorem _root_.L2.PT.imp {X : Cx} {e : Expr} {t t' : TT} (h : PT X e t) (k : ∀ σ H Q, t' σ H Q → t σ H Q) : PT X e t' := ⟨fun pins s σ H Q I q => h.run pins s σ H Q I (k σ H Q q)⟩
theorem _root_.L2.PW.imp {X : Cx} {e : Expr} {t t' : TT} (h : PW X e t) (k : ∀ σ H Q, t' σ H Q → t σ H Q) : PW X e t' := ⟨fun wh pins s σ H Q I q => h.run wh pins s σ H Q I (k σ H Q q)⟩
theorem _root_.L2.PA.imp {X : Cx} {e : List Expr} {t t' : TA} (h : PA X e t) (k : ∀ σ H Q, t' σ H Q → t σ H Q) : PA X e t' := ⟨fun pos pins s σ H Q I q => h.run pos pins s σ H Q I (k σ H Q q)⟩
theorem _root_.L2.PE.or {X : Cx} {e : Expr} {t t' : TE} (h : PE X e t) (h' : PE X e t') : PE X e (fun σ H Q => t σ H Q ∨ t' σ H Q) := ⟨fun pins s σ H Q I q => q.elim (h.run pins s σ H Q I) (h'.run pins s σ H Q I)⟩
/-- dicts are laid down for good -/
inductive Gh : Hp → (Hp → Prop) → Prop where
  | here {H Q} : Q H → Gh H Q
  | lock {H Q} (d : Addr) (u : HO) : H d = some u → Mut (some u) → (∀ od, Gh (upd H d (.frz od u)) Q) → Gh H Q
theorem Gh.run {X : Cx} {pins : List (Addr × Obj)} {σ : L2.St} {s : Shared} : ∀ {H : Hp} {Q : Hp → Prop}, Gh H Q → Inv X pins σ H s → ∃ H', Inv X pins σ H' s ∧ Q H' := by
  intro H Q g
  induction g with
  | here q => exact fun I => ⟨_, I, q⟩
  | lock d u h mu _ ih =>
    intro I
    obtain ⟨od, I2⟩ := I.lock h mu
    exact ih od I2
theorem pe_gh {X : Cx} {e : Expr} {t : TE} (h : PE X e t) : PE X e (fun σ H Q => t σ H fun v H' => Gh H' (Q v)) := ⟨fun pins s σ H Q I q => by
  refine thn (h.run pins s σ H _ I q) fun u s1 ⟨x, H1, I1, r1, g⟩ => ?_
  obtain ⟨H2, I2, q2⟩ := g.run I1
  exact ⟨x, H2, I2, r1, q2⟩⟩
section
variable {X : Cx} {C : Ct} {P : Par} {F : Hp} {ι : List Addr} {S : Store} {sl : Sl} {σ : L2.St} {H : Hp}
theorem RS.one {a : E} {x : D} {S1 : Store} {Q : VK} (rs : RS C F ι sl S σ H) (e : ev P a sl S = some (x, S1)) (k : ∀ F' ι' v H', Le F ι F' ι' → RS C F' ι' sl S1 σ H' → RelD C F' ι' x v → Q v H') : rdE C P a σ H Q :=
  ⟨F, ι, S, sl, x, S1, rs, e, fun F' ι' v H' l rh fr r => k F' ι' v H' l (rs.to l rh fr) r⟩
theorem RS.oneT {a : E} {x : D} {S1 : Store} {c : Bool} {Q : Bool → Hp → Prop} (rs : RS C F ι sl S σ H) (e : ev P a sl S = some (x, S1)) (t : truth S1 x = some c) (k : ∀ F' ι' H', Le F ι F' ι' → RS C F' ι' sl S1 σ H' → Q c H') : rdT C P a σ H Q :=
  ⟨F, ι, S, sl, x, S1, c, rs, e, t, fun F' ι' H' l rh fr => k F' ι' H' l (rs.to l rh fr)⟩
theorem RS.args {a : List E} {x : List D} {S1 : Store} {Q : List V → Hp → Prop} (rs : RS C F ι sl S σ H) (e : evs P a sl S = some (x, S1)) (k : ∀ F' ι' v H', Le F ι F' ι' → RS C F' ι' sl S1 σ H' → RelDs C F' ι' x v → Q v H') : rdA C P a σ H Q :=
  ⟨F, ι, S, sl, x, S1, rs, e, fun F' ι' v H' l rh fr r => k F' ι' v H' l (rs.to l rh fr) r⟩
end
abbrev ME (X : Cx) (C : Ct) (P : Par) (e : Expr) (m : E) : Prop := PE X e (rdE C P m)
abbrev MT (X : Cx) (C : Ct) (P : Par) (e : Expr) (m : E) : Prop := PT X e (rdT C P m)
abbrev MA (X : Cx) (C : Ct) (P : Par) (e : List Expr) (m : List E) : Prop := PA X e (rdA C P m)
section
variable {X : Cx} {C : Ct} {P : Par} {pos : Pos} {a b c : Expr} {ma mb mc : E}
/-! ### names, constants -/
theorem me_v (i : Nat) {x : PySem.Str} (hN : X.N[i]? = some x := by rfl) (hv : Vis X.env.scope x := by first | exact Or.inl rfl | exact Or.inr (Or.inl rfl) | exact Or.inr (Or.inr rfl)) (hd : (x == ("__debug__" : PySem.Str)) = false := by decide)
    (hcd : (x == ("__classdict__" : PySem.Str)) = false := by decide) : ME X C P (.Name x pos) (.v i) := by
  refine (pe_var (i := i) hN hv hd hcd).imp fun σ H Q h => ?_
  obtain ⟨F, ι, S, sl, d, S', rs, e, post⟩ := h
  unfold ev at e
  split at e
  · rename_i d' h
    cases e
    obtain ⟨v, h1, h2⟩ := rs.rs.2 i _ h
    exact ⟨v, h1, post.here rs.rh rs.fr h2⟩
  · cases e
theorem me_k {x : B} {v : V} (h : PE X a (tC v)) (r : ∀ F, RelB C F x v) : ME X C P a (.k x) := by
  refine h.imp fun σ H Q q => ?_
  obtain ⟨F, ι, S, sl, d, S', rs, e, post⟩ := q
  cases e
  exact post.here rs.rh rs.fr (r F)
theorem me_int {i : Int} {j} : ME X C P (.Constant (.int i) j pos) (.k (.int i)) := me_k pe_int fun _ => rfl
theorem me_bl {i : Bool} {j} : ME X C P (.Constant (.bool i) j pos) (.k (.bl i)) := me_k pe_bl fun _ => rfl
theorem me_non {j} : ME X C P (.Constant .none j pos) (.k .non) := me_k pe_non fun _ => rfl
theorem me_str (n : Nat) {x : PySem.Str} {j} (h : C.N.txts[n]? = some x := by rfl) : ME X C P (.Constant (.str x) j pos) (.k (.str n)) := me_k pe_str fun _ => ⟨x, h, rfl⟩
theorem me_gint {x : PySem.Str} {i : Int} {t : Tok} (hg : Gl X x) (hm : X.mg x = some (.int i t)) (hd : (x == ("__debug__" : PySem.Str)) = false := by decide) : ME X C P (.Name x pos) (.k (.int i)) := me_k (v := .int i) (pe_glob hg hm ⟨t, rfl⟩ hd) fun _ => rfl
theorem me_gstr (n : Nat) {x y : PySem.Str} {t : Tok} (hg : Gl X x) (hm : X.mg x = some (.str y t)) (h : C.N.txts[n]? = some y := by rfl) (hd : (x == ("__debug__" : PySem.Str)) = false := by decide) : ME X C P (.Name x pos) (.k (.str n)) := me_k (v := .str y) (pe_glob hg hm ⟨t, rfl⟩ hd) fun _ => ⟨y, h, rfl⟩
theorem me_gtup {x : PySem.Str} {q : Addr} {xs : List B} {vs : List V} (hK : C.K = X.K) (hg : Gl X x) (hm : X.mg x = some (.ref q)) (ht : ∀ F : Hp, SqT X.K F q vs) (hr : ∀ F, RelBs C F xs vs) (hd : (x == ("__debug__" : PySem.Str)) = false := by decide) : ME X C P (.Name x pos) (.k (.tup xs)) :=
  me_k (v := .ref q) (pe_glob hg hm rfl hd) fun F => ⟨q, vs, rfl, hK ▸ ht F, hr F⟩
/-! ### operators -/
theorem me_bin (hK : C.K = X.K) (o : Op) (ha : ME X C P a ma) (hb : ME X C P b mb) : ME X C P (.BinOp a (pop o) b pos) (.bin o ma mb) := by
  refine (pe_op (op_bin hK o) ha hb).imp fun σ H Q h => ?_
  obtain ⟨F, ι, S, sl, d, S', rs, e, post⟩ := h
  unfold ev at e
  obtain ⟨⟨x, S1⟩, e1, e⟩ := Option.bind_eq_some_iff.mp e
  obtain ⟨⟨y, S2⟩, e2, e⟩ := Option.bind_eq_some_iff.mp e
  obtain ⟨z, e3, e⟩ := Option.map_eq_some_iff.mp e
  cases e
  refine rs.one e1 fun F1 ι1 v H1 l1 r1 q1 => r1.one e2 fun F2 ι2 w H2 l2 r2 q2 => ?_
  exact ⟨F2, ι2, S2, x, y, _, r2.rh, r2.fr, q1.mono l2, q2, e3, post.mono (l1.trans l2)⟩
theorem me_neg (ha : ME X C P a ma) : ME X C P (.UnaryOp .USub a pos) (.neg ma) := by
  refine (pe_un un_neg ha).imp fun σ H Q h => ?_
  obtain ⟨F, ι, S, sl, d, S', rs, e, post⟩ := h
  unfold ev at e
  obtain ⟨⟨x, S1⟩, e1, e⟩ := Option.bind_eq_some_iff.mp e
  dsimp only at e
  split at e
  · cases e
    refine rs.one e1 fun F1 ι1 v H1 l1 r1 q1 => ?_
    exact ⟨_, q1, (post.mono l1).here r1.rh r1.fr rfl⟩
  · cases e
theorem me_inv (ha : ME X C P a ma) : ME X C P (.UnaryOp .Invert a pos) (.inv ma) := by
  refine (pe_un un_inv ha).imp fun σ H Q h => ?_
  obtain ⟨F, ι, S, sl, d, S', rs, e, post⟩ := h
  unfold ev at e
  obtain ⟨⟨x, S1⟩, e1, e⟩ := Option.bind_eq_some_iff.mp e
  dsimp only at e
  split at e
  · cases e
    refine rs.one e1 fun F1 ι1 v H1 l1 r1 q1 => ?_
    exact ⟨_, q1, (post.mono l1).here r1.rh r1.fr rfl⟩
  · cases e
theorem me_cmp (hK : C.K = X.K) (hu : X.A.units + 66 < cLine) (o : Cm) (ha : ME X C P a ma) (hb : ME X C P b mb) (hm : behindInMarks (pcm o) b = false := by rfl) : ME X C P (.Compare a [pcm o] [b] pos) (.cmp o ma mb) := by
  refine (pe_cmpR (op_cmpM hK hu o) ha hb hm).imp fun σ H Q h => ?_
  obtain ⟨F, ι, S, sl, d, S', rs, e, post⟩ := h
  unfold ev at e
  obtain ⟨⟨x, S1⟩, e1, e⟩ := Option.bind_eq_some_iff.mp e
  obtain ⟨⟨y, S2⟩, e2, e⟩ := Option.bind_eq_some_iff.mp e
  obtain ⟨z, e3, e⟩ := Option.map_eq_some_iff.mp e
  cases e
  refine rs.one e1 fun F1 ι1 v H1 l1 r1 q1 => r1.one e2 fun F2 ι2 w H2 l2 r2 q2 => ?_
  exact ⟨F2, ι2, S2, x, y, _, r2.rh, r2.fr, q1.mono l2, q2, e3, (post.mono (l1.trans l2)).here r2.rh r2.fr rfl⟩
theorem mt_cmp (hK : C.K = X.K) (hu : X.A.units + 66 < cLine) (o : Cm) (ha : ME X C P a ma) (hb : ME X C P b mb) (hm : behindInMarks (pcm o) b = false := by rfl) : MT X C P (.Compare a [pcm o] [b] pos) (.cmp o ma mb) := by
  refine (pt_cmpR (op_cmpM hK hu o) ha hb hm).imp fun σ H Q h => ?_
  obtain ⟨F, ι, S, sl, d, S', k, rs, e, t, post⟩ := h
  unfold ev at e
  obtain ⟨⟨x, S1⟩, e1, e⟩ := Option.bind_eq_some_iff.mp e
  obtain ⟨⟨y, S2⟩, e2, e⟩ := Option.bind_eq_some_iff.mp e
  obtain ⟨z, e3, e⟩ := Option.map_eq_some_iff.mp e
  cases e
  cases t
  refine rs.one e1 fun F1 ι1 v H1 l1 r1 q1 => r1.one e2 fun F2 ι2 w H2 l2 r2 q2 => ?_
  exact ⟨F2, ι2, S2, x, y, _, r2.rh, r2.fr, q1.mono l2, q2, e3, _, rfl, post F2 ι2 H2 (l1.trans l2) r2.rh r2.fr⟩
theorem chn_rd {o p : Cm} {σ : L2.St} {H : Hp} {Q : V → Hp → Prop} {F ι S sl S'} {z : Bool} (rs : RS C F ι sl S σ H) (e : ev P (.chn o p ma mb mc) sl S = some (.b (.bl z), S')) (post : ∀ F' ι' H', Le F ι F' ι' → RH C F' ι' S' H' → Fre F' ι' → Q (.bl z) H') :
    tChain (rC C o) (rC C p) (rdE C P ma) (rdE C P mb) (rdE C P mc) σ H Q := by
  unfold ev at e
  obtain ⟨⟨x, S1⟩, e1, e⟩ := Option.bind_eq_some_iff.mp e
  obtain ⟨⟨y, S2⟩, e2, e⟩ := Option.bind_eq_some_iff.mp e
  obtain ⟨r, e3, e⟩ := Option.bind_eq_some_iff.mp e
  refine rs.one e1 fun F1 ι1 v H1 l1 r1 q1 => r1.one e2 fun F2 ι2 w H2 l2 r2 q2 => ?_
  refine ⟨F2, ι2, S2, x, y, r, r2.rh, r2.fr, q1.mono l2, q2, e3, r, rfl, ?_⟩
  cases r with
  | true =>
    rw [if_pos rfl] at e ⊢
    obtain ⟨⟨u, S3⟩, e4, e⟩ := Option.bind_eq_some_iff.mp e
    obtain ⟨k, e5, e⟩ := Option.map_eq_some_iff.mp e
    cases e
    refine r2.one e4 fun F3 ι3 u' H3 l3 r3 q3 => ?_
    exact ⟨F3, ι3, S3, y, u, _, r3.rh, r3.fr, q2.mono l3, q3, e5, post F3 ι3 H3 ((l1.trans l2).trans l3) r3.rh r3.fr⟩
  | false =>
    rw [if_neg Bool.false_ne_true] at e ⊢
    cases e
    exact post F2 ι2 H2 (l1.trans l2) r2.rh r2.fr
theorem chn_bl {o p : Cm} {sl : Sl} {S S' : Store} {d : D} (e : ev P (.chn o p ma mb mc) sl S = some (d, S')) : ∃ z, d = .b (.bl z) := by
  unfold ev at e
  obtain ⟨⟨x, S1⟩, e1, e⟩ := Option.bind_eq_some_iff.mp e
  obtain ⟨⟨y, S2⟩, e2, e⟩ := Option.bind_eq_some_iff.mp e
  obtain ⟨r, e3, e⟩ := Option.bind_eq_some_iff.mp e
  split at e
  · obtain ⟨⟨u, S3⟩, e4, e⟩ := Option.bind_eq_some_iff.mp e
    obtain ⟨k, e5, e⟩ := Option.map_eq_some_iff.mp e
    cases e
    exact ⟨_, rfl⟩
  · cases e
    exact ⟨_, rfl⟩
theorem me_chn (hK : C.K = X.K) (hu : X.A.units + 66 < cLine) (o p : Cm) (ha : ME X C P a ma) (hb : ME X C P b mb) (hc : ME X C P c mc) (hm : lastMarks [pcm o, pcm p] [b, c] = false := by with_unfolding_all rfl) :
    ME X C P (.Compare a [pcm o, pcm p] [b, c] pos) (.chn o p ma mb mc) := by
  refine (pe_chain (op_cmpM hK hu o) (op_cmpM hK hu p) ha hb hc hm).imp fun σ H Q h => ?_
  obtain ⟨F, ι, S, sl, d, S', rs, e, post⟩ := h
  obtain ⟨z, rfl⟩ := chn_bl e
  exact chn_rd rs e fun F' ι' H' l rh fr => post F' ι' _ H' l rh fr rfl
theorem mt_chn (hK : C.K = X.K) (hu : X.A.units + 66 < cLine) (o p : Cm) (ha : ME X C P a ma) (hb : ME X C P b mb) (hc : ME X C P c mc) (hm : lastMarks [pcm o, pcm p] [b, c] = false := by with_unfolding_all rfl) :
    MT X C P (.Compare a [pcm o, pcm p] [b, c] pos) (.chn o p ma mb mc) := by
  refine (pt_chain (op_cmpM hK hu o) (op_cmpM hK hu p) ha hb hc hm).imp fun σ H Q h => ?_
  obtain ⟨F, ι, S, sl, d, S', k, rs, e, t, post⟩ := h
  obtain ⟨z, rfl⟩ := chn_bl e
  cases t
  exact chn_rd rs e fun F' ι' H' l rh fr => ⟨_, rfl, post F' ι' H' l rh fr⟩
end
end M
/-! MC6: more rules of expressions. -/
namespace M
open PySem PySem.Spec PyProof.Rows L2
section
variable {X : Cx} {a b c : Expr} {rest : List Expr} {ta tb : TE} {rt : V → Hp → (Bool → Hp → Prop) → Prop} {pos : Pos}
theorem pe_orG (tr : TruR X rt) (ha : PE X a ta) (hb : PE X (.BoolOp .Or (b :: rest) pos) tb) :
    PE X (.BoolOp .Or (a :: b :: rest) pos) (fun σ H Q => ta σ H fun x H1 => ∃ k, rt x H1 (fun c H2 => c = k ∧ H2 = H1) ∧ if k = true then Q x H1 else tb σ H1 Q) := by
  refine ⟨fun pins s σ H Q I h => ?_⟩
  refine BoolOp_or (thn (ha.run pins s σ H _ I h) fun v s1 ⟨x, H1, I1, r1, q1⟩ => ?_)
  obtain ⟨k, e, q1⟩ := q1
  refine thn (tr pins s1 σ H1 x v (fun c H2 => c = k ∧ H2 = H1) I1 r1 e) fun c s2 hc => ?_
  obtain ⟨H2, I2, e1, e2⟩ := hc
  rw [e2] at I2
  rw [← e1] at q1
  cases c with
  | true => exact ⟨x, H1, I2, r1, q1⟩
  | false => exact hb.run pins s2 σ H1 Q I2 q1
theorem pe_andG (tr : TruR X rt) (ha : PE X a ta) (hb : PE X (.BoolOp .And (b :: rest) pos) tb) :
    PE X (.BoolOp .And (a :: b :: rest) pos) (fun σ H Q => ta σ H fun x H1 => ∃ k, rt x H1 (fun c H2 => c = k ∧ H2 = H1) ∧ if k = true then tb σ H1 Q else Q x H1) := by
  refine ⟨fun pins s σ H Q I h => ?_⟩
  refine BoolOp_and (thn (ha.run pins s σ H _ I h) fun v s1 ⟨x, H1, I1, r1, q1⟩ => ?_)
  obtain ⟨k, e, q1⟩ := q1
  refine thn (tr pins s1 σ H1 x v (fun c H2 => c = k ∧ H2 = H1) I1 r1 e) fun c s2 hc => ?_
  obtain ⟨H2, I2, e1, e2⟩ := hc
  rw [e2] at I2
  rw [← e1] at q1
  cases c with
  | true => exact hb.run pins s2 σ H1 Q I2 q1
  | false => exact ⟨x, H1, I2, r1, q1⟩
theorem pe_notG (tr : TruR X rt) (ha : PE X a ta) : PE X (.UnaryOp .Not a pos) (fun σ H Q => ta σ H fun x H1 => rt x H1 fun c H2 => Q (.bl (!c)) H2) := by
  refine ⟨fun pins s σ H Q I h => ?_⟩
  refine UnaryOp_ (thn (ha.run pins s σ H _ I h) fun v s1 ⟨x, H1, I1, r1, q1⟩ => ?_)
  exact not_of (thn (tr pins s1 σ H1 x v (fun c H2 => Q (.bl (!c)) H2) I1 r1 q1) fun c s2 ⟨H2, I2, q2⟩ => ⟨.bl (!c), H2, I2, rfl, q2⟩)
theorem pt_tru (tr : TruR X rt) (ha : PE X a ta) (he : ∀ whole, isTrue a X.env whole = (do let v ← whole; standAt a.pos; holding [v] (truthy v))) : PT X a (fun σ H Q => ta σ H fun x H' => rt x H' Q) := by
  refine ⟨fun pins s σ H Q I h => ?_⟩
  exact isTrue_plain (thn (ha.run pins s σ H _ I h) fun v s1 ⟨x, H1, I1, r1, q1⟩ => tr pins s1 σ H1 x v Q I1 r1 q1) (he _)
end
section
variable {X : Cx} {C : Ct} {P : Par} {pos : Pos} {a b c : Expr} {ma mb mc : E} {rest : List Expr}
/-! ### truth -/
theorem rT_one {F ι S sl σ H} {d : D} {c : Bool} {x : V} (r : RS C F ι sl S σ H) (q : RelD C F ι d x) (t : truth S d = some c) : rT C x H (fun k H2 => k = c ∧ H2 = H) := ⟨F, ι, S, d, c, r.rh, q, t, rfl, rfl⟩
/-- any expression that is no comparison, and | or | not, conditional expression -/
theorem mt_v (hK : C.K = X.K) (ha : ME X C P a ma) (he : ∀ whole, isTrue a X.env whole = (do let v ← whole; standAt a.pos; holding [v] (truthy v)) := by intro _; rfl) : MT X C P a ma := by
  refine (pt_tru (tru_M (C := C) hK) ha he).imp fun σ H Q h => ?_
  obtain ⟨F, ι, S, sl, d, S', k, rs, e, t, post⟩ := h
  exact rs.one e fun F1 ι1 v H1 l1 r1 q1 => ⟨F1, ι1, S', d, k, r1.rh, q1, t, post F1 ι1 H1 l1 r1.rh r1.fr⟩
theorem mt_not (ha : MT X C P a ma) : MT X C P (.UnaryOp .Not a pos) (.not ma) := by
  refine (pt_not ha).imp fun σ H Q h => ?_
  obtain ⟨F, ι, S, sl, d, S', k, rs, e, t, post⟩ := h
  unfold ev at e
  obtain ⟨⟨x, S1⟩, e1, e⟩ := Option.bind_eq_some_iff.mp e
  obtain ⟨c, e2, e⟩ := Option.map_eq_some_iff.mp e
  cases e
  cases t
  exact rs.oneT e1 e2 fun F1 ι1 H1 l1 r1 => post F1 ι1 H1 l1 r1.rh r1.fr
theorem me_not (hK : C.K = X.K) (ha : ME X C P a ma) : ME X C P (.UnaryOp .Not a pos) (.not ma) := by
  refine (pe_notG (tru_M (C := C) hK) ha).imp fun σ H Q h => ?_
  obtain ⟨F, ι, S, sl, d, S', rs, e, post⟩ := h
  unfold ev at e
  obtain ⟨⟨x, S1⟩, e1, e⟩ := Option.bind_eq_some_iff.mp e
  obtain ⟨c, e2, e⟩ := Option.map_eq_some_iff.mp e
  cases e
  exact rs.one e1 fun F1 ι1 v H1 l1 r1 q1 => ⟨F1, ι1, S1, x, c, r1.rh, q1, e2, (post.mono l1).here r1.rh r1.fr rfl⟩
/-- and, or: the last part -/
def MW (X : Cx) (C : Ct) (P : Par) (op : BoolOp) (es : List Expr) (pos : Pos) (m : E) : Prop := PW X (.BoolOp op es pos) (rdT C P m) ∧ PE X (.BoolOp op es pos) (rdE C P m)
theorem mw_and1 (ha : MT X C P a ma) (h : ME X C P a ma) : MW X C P .And [a] pos ma := ⟨pw_and1 ha, pe_one h⟩
theorem mw_or1 (ha : MT X C P a ma) (h : ME X C P a ma) : MW X C P .Or [a] pos ma := ⟨pw_or1 ha, pe_one h⟩
theorem mw_and (hK : C.K = X.K) (ha : MT X C P a ma) (he : ME X C P a ma) (hb : MW X C P .And (b :: rest) pos mb) : MW X C P .And (a :: b :: rest) pos (.and ma mb) := by
  refine ⟨(pw_and ha hb.1).imp fun σ H Q h => ?_, (pe_andG (tru_M (C := C) hK) he hb.2).imp fun σ H Q h => ?_⟩
  · obtain ⟨F, ι, S, sl, d, S', k, rs, e, t, post⟩ := h
    unfold ev at e
    obtain ⟨⟨x, S1⟩, e1, e⟩ := Option.bind_eq_some_iff.mp e
    obtain ⟨c, e2, e⟩ := Option.bind_eq_some_iff.mp e
    refine rs.oneT e1 e2 fun F1 ι1 H1 l1 r1 => ?_
    cases c with
    | true =>
      rw [if_pos rfl] at e ⊢
      exact r1.oneT e t fun F2 ι2 H2 l2 r2 => post F2 ι2 H2 (l1.trans l2) r2.rh r2.fr
    | false =>
      rw [if_neg Bool.false_ne_true] at e ⊢
      cases e
      cases e2.symm.trans t
      exact post F1 ι1 H1 l1 r1.rh r1.fr
  · obtain ⟨F, ι, S, sl, d, S', rs, e, post⟩ := h
    unfold ev at e
    obtain ⟨⟨x, S1⟩, e1, e⟩ := Option.bind_eq_some_iff.mp e
    obtain ⟨c, e2, e⟩ := Option.bind_eq_some_iff.mp e
    refine rs.one e1 fun F1 ι1 v H1 l1 r1 q1 => ⟨c, rT_one r1 q1 e2, ?_⟩
    cases c with
    | true =>
      rw [if_pos rfl] at e ⊢
      exact r1.one e fun F2 ι2 w H2 l2 r2 q2 => (post.mono (l1.trans l2)).here r2.rh r2.fr q2
    | false =>
      rw [if_neg Bool.false_ne_true] at e ⊢
      cases e
      exact (post.mono l1).here r1.rh r1.fr q1
theorem mw_or (hK : C.K = X.K) (ha : MT X C P a ma) (he : ME X C P a ma) (hb : MW X C P .Or (b :: rest) pos mb) : MW X C P .Or (a :: b :: rest) pos (.or ma mb) := by
  refine ⟨(pw_or ha hb.1).imp fun σ H Q h => ?_, (pe_orG (tru_M (C := C) hK) he hb.2).imp fun σ H Q h => ?_⟩
  · obtain ⟨F, ι, S, sl, d, S', k, rs, e, t, post⟩ := h
    unfold ev at e
    obtain ⟨⟨x, S1⟩, e1, e⟩ := Option.bind_eq_some_iff.mp e
    obtain ⟨c, e2, e⟩ := Option.bind_eq_some_iff.mp e
    refine rs.oneT e1 e2 fun F1 ι1 H1 l1 r1 => ?_
    cases c with
    | false =>
      rw [if_neg Bool.false_ne_true] at e ⊢
      exact r1.oneT e t fun F2 ι2 H2 l2 r2 => post F2 ι2 H2 (l1.trans l2) r2.rh r2.fr
    | true =>
      rw [if_pos rfl] at e ⊢
      cases e
      cases e2.symm.trans t
      exact post F1 ι1 H1 l1 r1.rh r1.fr
  · obtain ⟨F, ι, S, sl, d, S', rs, e, post⟩ := h
    unfold ev at e
    obtain ⟨⟨x, S1⟩, e1, e⟩ := Option.bind_eq_some_iff.mp e
    obtain ⟨c, e2, e⟩ := Option.bind_eq_some_iff.mp e
    refine rs.one e1 fun F1 ι1 v H1 l1 r1 q1 => ⟨c, rT_one r1 q1 e2, ?_⟩
    cases c with
    | false =>
      rw [if_neg Bool.false_ne_true] at e ⊢
      exact r1.one e fun F2 ι2 w H2 l2 r2 q2 => (post.mono (l1.trans l2)).here r2.rh r2.fr q2
    | true =>
      rw [if_pos rfl] at e ⊢
      cases e
      exact (post.mono l1).here r1.rh r1.fr q1
theorem MW.t {op : BoolOp} {es : List Expr} {m : E} (h : MW X C P op es pos m) : MT X C P (.BoolOp op es pos) m := h.1.pt
theorem MW.e {op : BoolOp} {es : List Expr} {m : E} (h : MW X C P op es pos m) : ME X C P (.BoolOp op es pos) m := h.2
theorem me_ite {mt : E} (ht : MT X C P c mt) (ha : ME X C P a ma) (hb : ME X C P b mb) : ME X C P (.IfExp c a b pos) (.ite mt ma mb) := by
  refine (pe_ifExp ht ha hb).imp fun σ H Q h => ?_
  obtain ⟨F, ι, S, sl, d, S', rs, e, post⟩ := h
  unfold ev at e
  obtain ⟨⟨x, S1⟩, e1, e⟩ := Option.bind_eq_some_iff.mp e
  obtain ⟨k, e2, e⟩ := Option.bind_eq_some_iff.mp e
  refine rs.oneT e1 e2 fun F1 ι1 H1 l1 r1 => ?_
  cases k with
  | true =>
    rw [if_pos rfl] at e ⊢
    exact r1.one e fun F2 ι2 w H2 l2 r2 q2 => (post.mono (l1.trans l2)).here r2.rh r2.fr q2
  | false =>
    rw [if_neg Bool.false_ne_true] at e ⊢
    exact r1.one e fun F2 ι2 w H2 l2 r2 q2 => (post.mono (l1.trans l2)).here r2.rh r2.fr q2
/-! ### arguments, displays -/
variable {es : List Expr} {ms : List E}
theorem ma_nil : MA X C P [] [] := by
  refine (pa_nil (X := X)).imp fun σ H Q h => ?_
  obtain ⟨F, ι, S, sl, d, S', rs, e, post⟩ := h
  cases e
  exact post F ι [] H (Le.refl _ _) rs.rh rs.fr rfl
theorem ma_cons (ha : ME X C P a ma) (hr : MA X C P es ms) (hs : starEach (a :: es) X.env = (false, eval a X.env) :: starEach es X.env := by rfl) : MA X C P (a :: es) (ma :: ms) := by
  refine (pa_cons ha hr hs).imp fun σ H Q h => ?_
  obtain ⟨F, ι, S, sl, d, S', rs, e, post⟩ := h
  unfold evs at e
  obtain ⟨⟨x, S1⟩, e1, e⟩ := Option.bind_eq_some_iff.mp e
  obtain ⟨⟨y, S2⟩, e2, e⟩ := Option.map_eq_some_iff.mp e
  cases e
  exact rs.one e1 fun F1 ι1 v H1 l1 r1 q1 => r1.args e2 fun F2 ι2 w H2 l2 r2 q2 => post F2 ι2 _ H2 (l1.trans l2) r2.rh r2.fr ⟨v, w, rfl, q1.mono l2, q2⟩
theorem mkTup_rel {F G : Hp} {ι : List Addr} {ds : List D} {vs : List V} {p : Addr} (l : Le F ι G ι) (hp : G p = some (.tup vs)) (r : RelDs C F ι ds vs) : RelD C G ι (mkTup ds) (.ref p) := by
  unfold mkTup
  split
  · rename_i xs h
    exact ⟨p, vs, rfl, .inl (.inl hp), RelBs.mono l.1 _ _ (r.all h)⟩
  · exact ⟨p, vs, rfl, .inl (.inl hp), r.mono l⟩
theorem me_tup {k} (h : MA X C P es ms) : ME X C P (.Tuple es k pos) (.tup ms) := by
  refine (pe_tup h).imp fun σ H Q h => ?_
  obtain ⟨F, ι, S, sl, d, S', rs, e, post⟩ := h
  unfold ev at e
  obtain ⟨⟨x, S1⟩, e1, e⟩ := Option.bind_eq_some_iff.mp e
  split at e
  · rename_i hz
    cases e
    refine rs.args e1 fun F1 ι1 vs H1 l1 r1 q1 => ⟨SZ_le (by rw [← q1.length]; exact hz), fun p hp => ?_⟩
    exact (post.mono l1).new r1.rh r1.fr hp (mkTup_rel (r1.rh.newF r1.fr (u := .tup vs) hp).2.2 upd_same q1)
  · cases e
theorem newL_post {F ι S H} {m : Bool} {xs : List B} {vs : List V} {d : D} {S' : Store} {Q : VK} {p : Addr} (e : newL S m xs = some (d, S')) (rh : RH C F ι S H) (fr : Fre F ι) (post : Post C F ι S' d Q) (r : RelBs C F xs vs) (hp : H p = none) : Q (.ref p) (upd H p (.lst vs)) := by
  unfold newL at e
  split at e
  · split at e
    · cases e
      exact post.newS (d := .b .non) rh fr hp ⟨vs, upd_same, r⟩
    · cases e
      exact post.new rh fr hp ⟨p, vs, rfl, upd_same, RelBs.mono (rh.newF fr (u := .lst vs) hp).2.2.1 _ _ r⟩
  · cases e
theorem newL_len {S : Store} {m : Bool} {xs : List B} {d : D} {S' : Store} (e : newL S m xs = some (d, S')) : xs.length ≤ SZ := by
  unfold newL at e
  split at e
  · assumption
  · cases e
theorem me_lst (m : Bool) (h : MA X C P es ms) : ME X C P (.List es pos) (.lst m ms) := by
  refine (pe_lst h).imp fun σ H Q h => ?_
  obtain ⟨F, ι, S, sl, d, S', rs, e, post⟩ := h
  unfold ev at e
  obtain ⟨⟨x, S1⟩, e1, e⟩ := Option.bind_eq_some_iff.mp e
  obtain ⟨xs, e2, e⟩ := Option.bind_eq_some_iff.mp e
  refine rs.args e1 fun F1 ι1 vs H1 l1 r1 q1 => ?_
  have q := q1.all e2
  exact ⟨SZ_le (by rw [← q.length]; exact newL_len e), fun p hp => newL_post e r1.rh r1.fr (post.mono l1) q hp⟩
/-- a new dict: laid down for good, or of the store -/
theorem newD_post {F ι S H} {m : Bool} {xs : List (Kd × B)} {vs : List (L2.Key × V)} {d : D} {S' : Store} {Q : VK} {p : Addr} (e : newD S m xs = some (d, S')) (rh : RH C F ι S H) (fr : Fre F ι) (post : Post C F ι S' d Q) (r : RelBk C F xs vs) (hp : H p = none) :
    Gh (upd H p (.dK vs)) (Q (.ref p)) := by
  unfold newD at e
  split at e
  · split at e
    · cases e
      exact .here (post.newS (d := .b .non) rh fr hp ⟨vs, upd_same, r⟩)
    · cases e
      refine .lock p (.dK vs) upd_same trivial fun od => .here ?_
      rw [upd_upd]
      exact post.new rh fr hp ⟨p, od, vs, rfl, upd_same, RelBk.mono (rh.newF fr (u := .frz od (.dK vs)) hp).2.2.1 _ _ r⟩
  · cases e
theorem me_dnew (m : Bool) : ME X C P (.Dict [] [] pos) (.dnew m) := by
  refine (pe_gh pe_dnewK).imp fun σ H Q h => ?_
  obtain ⟨F, ι, S, sl, d, S', rs, e, post⟩ := h
  intro p hp
  exact newD_post (e : newD S m [] = some (d, S')) rs.rh rs.fr post rfl hp
/-- the pairs of a display -/
structure MPs (X : Cx) (C : Ct) (P : Par) (pos : Pos) (ks : List (Option Expr)) (vs : List Expr) (ms : List E) (trs : List (TE × TE)) : Prop where
  ps : PPs X pos ks vs trs
  rd : ∀ (σ : L2.St) (H : Hp) (Q : List (V × V) → Hp → Prop) F ι S sl ds S', RS C F ι sl S σ H → evs P ms sl S = some (ds, S') →
    (∀ F' ι' vs H', Le F ι F' ι' → RH C F' ι' S' H' → Fre F' ι' → ∀ us : List (V × V), RelDs C F' ι' ds vs → vs = us.flatMap (fun u => [u.1, u.2]) → Q us H') → tPairs trs σ H Q
theorem mps_nil : MPs X C P pos [] [] [] [] := ⟨pps_nil, fun σ H Q F ι S sl ds S' rs e k => by
  cases e
  exact k F ι [] H (Le.refl _ _) rs.rh rs.fr [] rfl rfl⟩
theorem mps_cons {kk v : Expr} {ks : List (Option Expr)} {vs : List Expr} {mk mv : E} {trs : List (TE × TE)} (hk : ME X C P kk mk) (hv : ME X C P v mv) (hr : MPs X C P pos ks vs ms trs) : MPs X C P pos (some kk :: ks) (v :: vs) (mk :: mv :: ms) ((rdE C P mk, rdE C P mv) :: trs) := by
  refine ⟨pps_cons hk hv hr.ps, fun σ H Q F ι S sl ds S' rs e k => ?_⟩
  unfold evs at e
  obtain ⟨⟨x, S1⟩, e1, e⟩ := Option.bind_eq_some_iff.mp e
  obtain ⟨⟨y, S2⟩, e2, e⟩ := Option.map_eq_some_iff.mp e
  cases e
  unfold evs at e2
  obtain ⟨⟨z, S3⟩, e3, e2⟩ := Option.bind_eq_some_iff.mp e2
  obtain ⟨⟨w, S4⟩, e4, e2⟩ := Option.map_eq_some_iff.mp e2
  cases e2
  refine rs.one e1 fun F1 ι1 v1 H1 l1 r1 q1 => r1.one e3 fun F2 ι2 v2 H2 l2 r2 q2 => hr.rd σ H2 _ F2 ι2 _ sl _ _ r2 e4 fun F3 ι3 vs3 H3 l3 rh3 fr3 us q3 h3 => ?_
  exact k F3 ι3 (v1 :: v2 :: vs3) H3 ((l1.trans l2).trans l3) rh3 fr3 ((v1, v2) :: us) ⟨v1, _, rfl, (q1.mono l2).mono l3, v2, _, rfl, q2.mono l3, q3⟩ (by rw [h3] <;> rfl)
theorem flat2_rel {F : Hp} {ι : List Addr} : ∀ {ds : List D} {kvs : List (Kd × B)} {us : List (V × V)}, flat2 ds = some kvs → RelDs C F ι ds (us.flatMap fun u => [u.1, u.2]) → ∃ ks : List (L2.Key × V), us = ks.map (fun kv => (kV kv.1, kv.2)) ∧ RelBk C F kvs ks
  | [], _, us, e, r => by
    cases e
    cases us with
    | nil => exact ⟨[], rfl, rfl⟩
    | cons u us => cases (show _ :: _ = [] from r)
  | [.b _], _, _, e, _ => by cases e
  | [.ref _], _, _, e, _ => by cases e
  | [.mix _], _, _, e, _ => by cases e
  | .b k :: .b v :: r, kvs, us, e, q => by
    cases us with
    | nil =>
      obtain ⟨_, _, e0, _⟩ := q
      cases e0
    | cons u us =>
      obtain ⟨w1, r1, e1, q1, w2, r2, e2, q2, q3⟩ := q
      cases e1
      cases e2
      have e' : ((keyB k).bind fun k => (flat2 r).map ((k, v) :: ·)) = some kvs := e
      obtain ⟨kk, h1, e'⟩ := Option.bind_eq_some_iff.mp e'
      obtain ⟨rest, h2, e'⟩ := Option.map_eq_some_iff.mp e'
      cases e'
      obtain ⟨j, rk, ej⟩ := keyB_rel h1 q1
      obtain ⟨ks, h3, h4⟩ := flat2_rel h2 q3
      refine ⟨(j, u.2) :: ks, ?_, (j, u.2), ks, rfl, ⟨rk, q2⟩, h4⟩
      rw [h3, List.map_cons, ← ej]
  | .ref _ :: _ :: _, _, _, e, _ => by cases e
  | .mix _ :: _ :: _, _, _, e, _ => by cases e
  | .b _ :: .ref _ :: _, _, _, e, _ => by cases e
  | .b _ :: .mix _ :: _, _, _, e, _ => by cases e
theorem me_dic {ks : List (Option Expr)} {vs : List Expr} {trs : List (TE × TE)} (h : MPs X C P pos ks vs ms trs) (hall : ks.all (·.isSome) = true := by rfl) (hl : ks.length = vs.length := by rfl) (h0 : ks ≠ [] := by (intro z; cases z)) (h15 : ks.length ≤ 15 := by decide) : ME X C P (.Dict ks vs pos) (.dic ms) := by
  refine (pe_disp h.ps hall hl h0 h15).imp fun σ H Q q => ?_
  obtain ⟨F, ι, S, sl, d, S', rs, e, post⟩ := q
  intro p hp
  unfold ev at e
  obtain ⟨⟨ds, S2⟩, e1, e⟩ := Option.bind_eq_some_iff.mp e
  obtain ⟨n1, n2, n3⟩ := rs.rh.newS rs.fr (o := .dic []) (u := .dK []) hp ⟨[], upd_same, rfl⟩
  have rs1 : RS C F (ι ++ [p]) sl (S ++ [.dic []]) σ (upd H p (.dK [])) := rs.to n3 n1 n2
  refine h.rd σ _ _ F (ι ++ [p]) _ sl ds S2 rs1 e1 fun F2 ι2 vs2 H2 l2 rh2 fr2 us q2 hus => ?_
  subst hus
  dsimp only at e
  split at e
  · rename_i hS
    obtain ⟨kvs, e2, e⟩ := Option.bind_eq_some_iff.mp e
    split at e
    · rename_i hz
      cases e
      obtain ⟨ks2, h3, h4⟩ := flat2_rel e2 q2
      have hι : ι2[S.length]? = some p := l2.get (by rw [List.getElem?_append_right (by rw [rs.rh.len] <;> exact Nat.le_refl _), ← rs.rh.len, Nat.sub_self] <;> rfl)
      obtain ⟨vv, h5, h6⟩ := rh2.ob _ _ _ hι hS
      cases (show vv = [] from h6)
      refine ⟨h5, ks2, h3, by rw [← h4.length]; exact hz, ?_⟩
      have rr := rh2.set (o := .dic (dmerge [] kvs)) (u := .dK (mergeK [] ks2)) hι (fr2.at hι) (fz_d h5) ⟨_, upd_same, dmerge_rel h4 (show RelBk C F2 [] [] from rfl)⟩
      exact post F2 ι2 (.ref p) _ (n3.trans l2) rr fr2 ⟨p, hι, rfl⟩
    · cases e
  · cases e
/-! ### items -/
theorem atI_rel {F : Hp} {xs : List B} {vs : List V} {i : Int} {x : B} (r : RelBs C F xs vs) (e : L2.atI xs i = some x) : ∃ v, L2.atI vs i = some v ∧ RelB C F x v := by
  unfold L2.atI at e ⊢
  obtain ⟨j, e1, e2⟩ := Option.bind_eq_some_iff.mp e
  obtain ⟨v, h1, h2⟩ := r.get e2
  rw [← r.length, e1]
  exact ⟨v, h1, h2⟩
theorem atI_relD {F : Hp} {ι : List Addr} {xs : List D} {vs : List V} {i : Int} {x : D} (r : RelDs C F ι xs vs) (e : L2.atI xs i = some x) : ∃ v, L2.atI vs i = some v ∧ RelD C F ι x v := by
  unfold L2.atI at e ⊢
  obtain ⟨j, e1, e2⟩ := Option.bind_eq_some_iff.mp e
  obtain ⟨v, h1, h2⟩ := r.get e2
  rw [← r.length, e1]
  exact ⟨v, h1, h2⟩
/-- what idx says of two values -/
theorem idx_rel {F ι S H} {x y z : D} {v w : V} (hK : C.K = X.K) (rh : RH C F ι S H) (rx : RelD C F ι x v) (ry : RelD C F ι y w) (e : idx S x y = some z) :
    (∃ u, RelD C F ι z u ∧ ∀ Q : VK, Q u H → rIx X.K v w H Q) ∨ ∃ a u, v = .ref a ∧ DGet H a w (some u) ∧ RelD C F ι z u := by
  unfold idx at e
  split at e
  · split at e
    · rename_i xs _ i
      obtain ⟨a, vs, rfl, h1, h2⟩ := rx
      obtain ⟨u, h3, h4⟩ := atI_relD h2 e
      exact .inl ⟨u, h4, fun Q q => .inr (.inl ⟨a, vs, i, u, rfl, ry, hK ▸ sqT_mono rh.fz h1, h3, q⟩)⟩
    · cases e
  · split at e
    · rename_i kvs hd
      obtain ⟨k, e1, e⟩ := Option.bind_eq_some_iff.mp e
      obtain ⟨x', e2, e⟩ := Option.map_eq_some_iff.mp e
      cases e
      obtain ⟨a, ks, rfl, h1, h2⟩ := dicD_rel rh rx hd
      cases y with
      | b yy =>
        obtain ⟨j, rk, rfl⟩ := keyB_rel (C := C) (F := F) e1 ry
        have q := dget_rel h2 rk
        rw [e2] at q
        cases h4 : valV ks j with
        | none => rw [h4] at q; exact q.elim
        | some u =>
          rw [h4] at q
          exact .inr ⟨a, u, rfl, .inl ⟨ks, j, h1, rfl, h4.symm⟩, q⟩
      | ref n => cases e1
      | mix n => cases e1
    · split at e
      · rename_i i
        obtain ⟨xs, e1, e⟩ := Option.bind_eq_some_iff.mp e
        obtain ⟨x', e2, e⟩ := Option.map_eq_some_iff.mp e
        cases e
        obtain ⟨a, vs, rfl, h1, h2⟩ := seqD_rel rh rx e1
        obtain ⟨u, h3, h4⟩ := atI_rel h2 e2
        refine .inl ⟨u, h4, fun Q q => ?_⟩
        rcases h1 with h1 | h1
        · exact .inl ⟨a, vs, i, u, rfl, ry, hK ▸ h1, h3, q⟩
        · exact .inr (.inl ⟨a, vs, i, u, rfl, ry, hK ▸ h1, h3, q⟩)
      · cases e
def rIxD : R2 := fun x y H Q => ∃ a v, x = .ref a ∧ DGet H a y (some v) ∧ Q v H
theorem ix_dic (hu : X.A.units + 1 < cLine) : IxR X rIxD := by
  intro value slice pins s σ H x y v u Q I rx ry h hs
  obtain ⟨a, w, rfl, g, q⟩ := h
  obtain rfl : v = Value.ref a := rx
  exact tail_any (dict_typeIs I g) PySem.F.slot_dict_getitem.lookup (d_getItem hu I g ry fun w' s3 I3 rw' => ⟨w, H, I3, rw', q⟩) hs
theorem me_idx (hK : C.K = X.K) (hu : X.A.units + 66 < cLine) (ha : ME X C P a ma) (hb : ME X C P b mb) (hs : PlainIx b := by intro _ _; rfl) : ME X C P (.Subscript a b pos) (.idx ma mb) := by
  refine (pe_ix (ix_seq.or (ix_dic (by omega))) ha hb hs).imp fun σ H Q h => ?_
  obtain ⟨F, ι, S, sl, d, S', rs, e, post⟩ := h
  unfold ev at e
  obtain ⟨⟨x, S1⟩, e1, e⟩ := Option.bind_eq_some_iff.mp e
  obtain ⟨⟨y, S2⟩, e2, e⟩ := Option.bind_eq_some_iff.mp e
  obtain ⟨z, e3, e⟩ := Option.map_eq_some_iff.mp e
  cases e
  refine rs.one e1 fun F1 ι1 v H1 l1 r1 q1 => r1.one e2 fun F2 ι2 w H2 l2 r2 q2 => ?_
  have p2 := post.mono (l1.trans l2)
  rcases idx_rel hK r2.rh (q1.mono l2) q2 e3 with ⟨u, h1, h2⟩ | ⟨a', u, h1, h2, h3⟩
  · exact .inl (h2 Q (p2.here r2.rh r2.fr h1))
  · exact .inr ⟨a', u, h1, h2, p2.here r2.rh r2.fr h3⟩
end
end M
/-! MC7: slices, attributes, built-ins, methods of built-ins. -/
namespace M
open PySem PySem.Spec PyProof.Rows L2
/-- the world: classes, fields -/
structure Wd (X : Cx) (C : Ct) (fo : Nat → Nat → Bool) : Prop where
  hK : C.K = X.K
  hu : X.A.units + 66 < cLine
  calm : X.calm = true
  cls : ∀ c D, C.cl c = some D → Cls X.K D
  noat : ∀ c D f x, C.cl c = some D → fo c f = true → C.N.flds[f]? = some x → NoAttr X.K D x
section
variable {X : Cx} {C : Ct} {P : Par} {pos : Pos} {a b c e : Expr} {ma mb mc : E} {rest es : List Expr} {ms : List E}
/-! ### slices -/
def rdO (C : Ct) (P : Par) (e : E) : TO := fun σ H Q => ∃ F ι S sl d S' i, RS C F ι sl S σ H ∧ ev P e sl S = some (d, S') ∧ part d = some i ∧ ∀ F' ι' H', Le F ι F' ι' → RH C F' ι' S' H' → Fre F' ι' → Q i H'
abbrev MO (X : Cx) (C : Ct) (P : Par) (e : Option Expr) (m : E) : Prop := PO X e (rdO C P m)
theorem mo_none : MO X C P none .nop := by
  refine ⟨fun pins s σ H Q I h => po_none.run pins s σ H Q I ?_⟩
  obtain ⟨F, ι, S, sl, d, S', i, rs, e, p, k⟩ := h
  cases e
  cases p
  exact k F ι H (Le.refl _ _) rs.rh rs.fr
theorem mo_some (ha : ME X C P a ma) : MO X C P (some a) ma := by
  refine ⟨fun pins s σ H Q I h => ?_⟩
  obtain ⟨F, ι, S, sl, d, S', i, rs, e, p, k⟩ := h
  rw [evalPart_some]
  refine thn (ha.run pins s σ H (fun v H' => (v = .non ∧ i = none ∨ ∃ j, v = .int j ∧ i = some j) ∧ Q i H') I ?_) fun u s1 ⟨x, H1, I1, r1, q1, q⟩ => ?_
  · refine rs.one e fun F1 ι1 v H1 l1 r1 q1 => ⟨?_, k F1 ι1 H1 l1 r1.rh r1.fr⟩
    unfold part at p
    split at p
    · cases p
      exact .inl ⟨q1, rfl⟩
    · cases p
      exact .inr ⟨_, q1, rfl⟩
    · cases p
  · rcases q1 with ⟨rfl, rfl⟩ | ⟨j, rfl, rfl⟩
    · cases (show u = Value.none from r1)
      exact ⟨none, H1, I1, .none, q⟩
    · obtain ⟨t, rfl⟩ := r1
      exact ⟨some j, H1, I1, .int j t, q⟩
theorem cut_rel {F : Hp} {xs : List B} {vs : List V} (lo hi : Option Int) (r : RelBs C F xs vs) : RelBs C F (cut xs lo hi) (cutV vs lo hi) := by
  unfold cut cutV
  rw [r.length]
  exact (r.drop _).take _
theorem lsq_rel {F ι S H} {d : D} {v : V} (rh : RH C F ι S H) {xs : List B} (r : RelD C F ι d v) (e : lsqD S d = some xs) : ∃ a vs, v = .ref a ∧ SqL C.K H a vs ∧ RelBs C F xs vs := by
  cases d with
  | b x =>
    cases x <;> try (cases e; done)
    · cases e
      obtain ⟨a, vs, h1, h2, h3⟩ := r
      exact ⟨a, vs, h1, .inl (.inl (rh.fz _ _ h2)), h3⟩
    · cases e
      obtain ⟨a, vs, h1, h2, h3⟩ := r
      exact ⟨a, vs, h1, sqL_mono rh.fz h2, h3⟩
  | mix xs => cases e
  | ref n =>
    obtain ⟨a, ha, rfl⟩ := r
    obtain ⟨o, ho, q⟩ := rh.obj ha
    unfold lsqD seqD at e
    dsimp only at e
    rw [ho] at e
    cases o <;> try (cases e; done)
    · cases e
      obtain ⟨vs, h1, h2⟩ := q
      exact ⟨a, vs, rfl, .inl (.inl h1), h2⟩
    · cases e
      obtain ⟨vs, h1, h2⟩ := q
      exact ⟨a, vs, rfl, .inl (.inl h1), h2⟩
theorem slc_rel {F ι S H} {x : D} {l h : D} {z : D} {v : V} {lo hi : Option Int} (hK : C.K = X.K) (rh : RH C F ι S H) (fr : Fre F ι) (rx : RelD C F ι x v) (el : part l = some lo) (eh : part h = some hi) (e : slc S x l h = some z) {Q : VK} (post : Post C F ι S z Q) :
    rSlL X.K v lo hi H Q ∨ rSlA X.K v lo hi H Q := by
  unfold slc at e
  rw [el, eh] at e
  dsimp only [Option.bind_some] at e
  split at e
  · rename_i xs
    cases e
    obtain ⟨a, vs, rfl, h1, h2⟩ := rx
    refine .inr ⟨a, vs, rfl, hK ▸ sqT_mono rh.fz h1, fun ⟨w1, w2⟩ => post.here rh fr ⟨a, vs, rfl, h1, ?_⟩, fun _ p hp => post.new rh fr hp ⟨p, _, rfl, .inl (.inl upd_same), RelBs.mono (rh.newF fr (u := .tup (cutV vs lo hi)) hp).2.2.1 _ _ (cut_rel lo hi h2)⟩⟩
    have : cut xs lo hi = xs := by
      unfold cut
      rw [h2.length, w1, w2, List.drop_zero, Nat.sub_zero, ← h2.length, List.take_length]
    rw [this]
    exact h2
  · rename_i hx
    obtain ⟨xs, e1, e⟩ := Option.map_eq_some_iff.mp e
    cases e
    have e1' : lsqD S x = some xs := by
      unfold lsqD
      split
      · exact (hx _ rfl).elim
      · exact e1
    obtain ⟨a, vs, rfl, h1, h2⟩ := lsq_rel rh rx e1'
    exact .inl ⟨a, vs, rfl, hK ▸ h1, fun p hp => post.new rh fr hp ⟨p, _, rfl, upd_same, RelBs.mono (rh.newF fr (u := .lst (cutV vs lo hi)) hp).2.2.1 _ _ (cut_rel lo hi h2)⟩⟩
theorem me_slc {lo hi : Option Expr} {ml mh : E} {p2 : Pos} (hK : C.K = X.K) (ha : ME X C P a ma) (hl : MO X C P lo ml) (hh : MO X C P hi mh) : ME X C P (.Subscript a (.Slice lo hi none p2) pos) (.slc ma ml mh) := by
  refine (pe_slice (sl_list.or sl_tupA) ha hl hh).imp fun σ H Q h => ?_
  obtain ⟨F, ι, S, sl, d, S', rs, e, post⟩ := h
  unfold ev at e
  obtain ⟨⟨x, S1⟩, e1, e⟩ := Option.bind_eq_some_iff.mp e
  obtain ⟨⟨y, S2⟩, e2, e⟩ := Option.bind_eq_some_iff.mp e
  obtain ⟨⟨z, S3⟩, e3, e⟩ := Option.bind_eq_some_iff.mp e
  obtain ⟨w, e4, e⟩ := Option.map_eq_some_iff.mp e
  cases e
  have hy : ∃ lo, part y = some lo := by
    cases q : part y with
    | some i => exact ⟨i, rfl⟩
    | none =>
      unfold slc at e4
      rw [q] at e4
      cases e4
  have hz : ∃ lo, part z = some lo := by
    cases q : part z with
    | some i => exact ⟨i, rfl⟩
    | none =>
      unfold slc at e4
      rw [q] at e4
      cases hy' : part y <;> rw [hy'] at e4 <;> cases e4
  obtain ⟨lo', hy⟩ := hy
  obtain ⟨hi', hz⟩ := hz
  refine rs.one e1 fun F1 ι1 v H1 l1 r1 q1 => ⟨F1, ι1, S1, sl, y, S2, lo', r1, e2, hy, fun F2 ι2 H2 l2 rh2 fr2 => ⟨F2, ι2, S2, sl, z, S3, hi', r1.to l2 rh2 fr2, e3, hz, fun F3 ι3 H3 l3 rh3 fr3 => ?_⟩⟩
  exact slc_rel hK rh3 fr3 ((q1.mono l2).mono l3) hy hz e4 (post.mono ((l1.trans l2).trans l3))
theorem me_rev {k : Nat} {p1 p2 p3 : Pos} (hK : C.K = X.K) (ha : ME X C P a ma) : ME X C P (.Subscript a (.Slice none none (some (.UnaryOp .USub (.Constant (.int 1) k p1) p2)) p3) pos) (.rev ma) := by
  refine (pe_revL ha).imp fun σ H Q h => ?_
  obtain ⟨F, ι, S, sl, d, S', rs, e, post⟩ := h
  unfold ev at e
  obtain ⟨⟨x, S1⟩, e1, e⟩ := Option.bind_eq_some_iff.mp e
  obtain ⟨xs, e2, e⟩ := Option.map_eq_some_iff.mp e
  cases e
  refine rs.one e1 fun F1 ι1 v H1 l1 r1 q1 => ?_
  obtain ⟨a, vs, rfl, h1, h2⟩ := lstD_rel r1.rh q1 e2
  exact ⟨a, vs, rfl, .inl (.inl h1), fun p hp => (post.mono l1).new r1.rh r1.fr hp ⟨p, _, rfl, upd_same, RelBs.mono (r1.rh.newF r1.fr (u := .lst vs.reverse) hp).2.2.1 _ _ h2.reverse⟩⟩
theorem me_cat (ha : ME X C P a ma) (hb : ME X C P b mb) : ME X C P (.BinOp a .Add b pos) (.cat ma mb) := by
  refine (pe_op op_cat ha hb).imp fun σ H Q h => ?_
  obtain ⟨F, ι, S, sl, d, S', rs, e, post⟩ := h
  unfold ev at e
  obtain ⟨⟨x, S1⟩, e1, e⟩ := Option.bind_eq_some_iff.mp e
  obtain ⟨⟨y, S2⟩, e2, e⟩ := Option.bind_eq_some_iff.mp e
  obtain ⟨xs, e3, e⟩ := Option.bind_eq_some_iff.mp e
  obtain ⟨ys, e4, e⟩ := Option.bind_eq_some_iff.mp e
  refine rs.one e1 fun F1 ι1 v H1 l1 r1 q1 => r1.one e2 fun F2 ι2 w H2 l2 r2 q2 => ?_
  obtain ⟨p, vs, rfl, h1, h2⟩ := lstD_rel r2.rh (q1.mono l2) e3
  obtain ⟨q, ws, rfl, h3, h4⟩ := lstD_rel r2.rh q2 e4
  have hl := newL_len e
  refine ⟨p, q, vs, ws, rfl, rfl, h1, h3, SZ_le (by rw [← h2.length, ← h4.length, ← List.length_append]; exact hl), fun p hp => newL_post e r2.rh r2.fr (post.mono (l1.trans l2)) (h2.append h4) hp⟩
/-! ### attributes -/
theorem flds_inj {f g : Nat} {x : PySem.Str} (h : C.N.flds[f]? = some x) (h' : C.N.flds[g]? = some x) : f = g := by
  obtain ⟨h1, e1⟩ := List.getElem?_eq_some_iff.mp h
  obtain ⟨h2, e2⟩ := List.getElem?_eq_some_iff.mp h'
  exact (List.getElem_inj C.N.fnd).mp (e1.trans e2.symm)
theorem look_cons {α : Type} {j x : PySem.Str} {v : α} {r : List (PySem.Str × α)} : List.lookup x ((j, v) :: r) = if x = j then some v else r.lookup x := by
  rw [List.lookup_cons]
  by_cases h : x = j
  · subst h
    simp
  · have : (x == j) = false := by simp [h]
    rw [this, if_neg h]
theorem fget_relf {F : Hp} {f : Nat} {x : PySem.Str} (hf : C.N.flds[f]? = some x) : ∀ {fs : List (Nat × B)} {gs : List (PySem.Str × V)} {y : B}, RelBf C F fs gs → fget fs f = some y → ∃ v, gs.lookup x = some v ∧ RelB C F y v
  | [], _, _, _, e => by cases e
  | (g, w) :: r, _, y, q, e => by
    obtain ⟨⟨j, v⟩, rr, rfl, ⟨hj, h2⟩, h3⟩ := q
    unfold fget at e
    rw [look_cons]
    split at e
    · rename_i hg
      cases e
      subst hg
      cases hf.symm.trans hj
      exact ⟨v, if_pos rfl, h2⟩
    · rename_i hg
      rw [if_neg (fun z : x = j => hg (flds_inj hf (by rw [z]; exact hj)))]
      exact fget_relf hf h3 e
theorem fget_relD {F : Hp} {ι : List Addr} {f : Nat} {x : PySem.Str} (hf : C.N.flds[f]? = some x) : ∀ {fs : List (Nat × D)} {gs : List (PySem.Str × V)} {y : D}, RelDf C F ι fs gs → fget fs f = some y → ∃ v, gs.lookup x = some v ∧ RelD C F ι y v
  | [], _, _, _, e => by cases e
  | (g, w) :: r, _, y, q, e => by
    obtain ⟨j, v, rr, rfl, hj, h2, h3⟩ := q
    unfold fget at e
    rw [look_cons]
    split at e
    · rename_i hg
      cases e
      subst hg
      cases hf.symm.trans hj
      exact ⟨v, if_pos rfl, h2⟩
    · rename_i hg
      rw [if_neg (fun z : x = j => hg (flds_inj hf (by rw [z]; exact hj)))]
      exact fget_relD hf h3 e
theorem getf_rel {fo : Nat → Nat → Bool} (W : Wd X C fo) {F ι S H} {x z : D} {v : V} {f : Nat} {nm : PySem.Str} (hf : C.N.flds[f]? = some nm) (rh : RH C F ι S H) (rx : RelD C F ι x v) (e : getf fo S x f = some z) :
    ∃ a D dx fs u, v = .ref a ∧ H a = some (.ins D dx fs) ∧ Cls X.K D ∧ NoAttr X.K D nm ∧ fs.lookup nm = some u ∧ RelD C F ι z u := by
  unfold getf at e
  split at e
  · rename_i c fs
    split at e
    · rename_i ho
      obtain ⟨y, e1, e⟩ := Option.map_eq_some_iff.mp e
      cases e
      obtain ⟨a, D, dx, gs, rfl, hc, h1, h2, h3⟩ := rx
      obtain ⟨u, h4, h5⟩ := fget_relf hf h3 e1
      exact ⟨a, D, dx, gs, u, rfl, rh.fz _ _ h1, W.cls c D hc, W.noat c D f nm hc ho hf, h4, h5⟩
    · cases e
  · rename_i n
    obtain ⟨a, ha, rfl⟩ := rx
    obtain ⟨o, ho, q⟩ := rh.obj ha
    rw [ho] at e
    cases o <;> try (cases e; done)
    rename_i c fs
    dsimp only at e
    split at e
    · rename_i hO
      obtain ⟨D, dx, gs, hc, h1, h2, h3⟩ := q
      obtain ⟨u, h4, h5⟩ := fget_relD hf h3 e
      exact ⟨a, D, dx, gs, u, rfl, h1, W.cls c D hc, W.noat c D f nm hc hO hf, h4, h5⟩
    · cases e
  · cases e
theorem me_att (W : Wd X C P.fo) (f : Nat) {nm : PySem.Str} (ha : ME X C P a ma) (hf : C.N.flds[f]? = some nm := by rfl) (hb : attributeBase a nm X.env (eval a X.env) = eval a X.env := by rfl) : ME X C P (.Attribute a nm pos) (.att ma f) := by
  refine (pe_fld ha hb).imp fun σ H Q h => ?_
  obtain ⟨F, ι, S, sl, d, S', rs, e, post⟩ := h
  unfold ev at e
  obtain ⟨⟨x, S1⟩, e1, e⟩ := Option.bind_eq_some_iff.mp e
  obtain ⟨z, e2, e⟩ := Option.map_eq_some_iff.mp e
  cases e
  refine rs.one e1 fun F1 ι1 v H1 l1 r1 q1 => ?_
  obtain ⟨a, D, dx, fs, u, h1, h2, h3, h4, h5, h6⟩ := getf_rel W hf r1.rh q1 e2
  exact ⟨a, D, dx, fs, u, h1, h2, h3, h4, h5, (post.mono l1).here r1.rh r1.fr h6⟩
end
end M
/-! MC8: built-in functions, methods of built-ins. -/
namespace M
open PySem PySem.Spec PyProof.Rows L2
/-- what a built-in's call says -/
def BiR (C : Ct) (b : Bi) (m : Bool) (r : List V → Hp → VK → Prop) : Prop :=
  ∀ F ι S H ds vs d S' Q, RH C F ι S H → Fre F ι → RelDs C F ι ds vs → bi S b m ds = some (d, S') → Post C F ι S' d Q → r vs H fun v H' => Gh H' (Q v)
theorem pure_of {S S' : Store} {x : Option D} {d : D} (e : pure' S x = some (d, S')) : x = some d ∧ S' = S := by
  unfold pure' at e
  obtain ⟨y, h, e⟩ := Option.map_eq_some_iff.mp e
  cases e
  exact ⟨h, rfl⟩
theorem RelDs.one {C : Ct} {F : Hp} {ι : List Addr} {x : D} {vs : List V} (r : RelDs C F ι [x] vs) : ∃ v, vs = [v] ∧ RelD C F ι x v := by
  obtain ⟨v, r, rfl, h, h2⟩ := r
  cases h2
  exact ⟨v, rfl, h⟩
theorem RelDs.two {C : Ct} {F : Hp} {ι : List Addr} {x y : D} {vs : List V} (r : RelDs C F ι [x, y] vs) : ∃ v w, vs = [v, w] ∧ RelD C F ι x v ∧ RelD C F ι y w := by
  obtain ⟨v, r, rfl, h, h2⟩ := r
  obtain ⟨w, rfl, q⟩ := h2.one
  exact ⟨v, w, rfl, h, q⟩
/-! ### the sorted list is one alone -/
theorem insI_perm (x : Int) : ∀ l, (insI x l).Perm (x :: l)
  | [] => List.Perm.refl _
  | y :: r => by
    unfold insI
    split
    · exact List.Perm.refl _
    · exact ((insI_perm x r).cons y).trans (List.Perm.swap x y r)
theorem sortI_perm : ∀ l, (sortI l).Perm l
  | [] => List.Perm.refl _
  | x :: r => (insI_perm x _).trans ((sortI_perm r).cons x)
theorem insI_sorted (x : Int) : ∀ l, l.Pairwise (· ≤ ·) → (insI x l).Pairwise (· ≤ ·)
  | [], _ => by simp [insI]
  | y :: r, h => by
    unfold insI
    obtain ⟨h1, h2⟩ := List.pairwise_cons.mp h
    split
    · rename_i hx
      exact List.pairwise_cons.mpr ⟨fun z hz => by
        rcases List.mem_cons.mp hz with e | e
        · rw [e]; exact hx
        · exact Int.le_trans hx (h1 z e), h⟩
    · rename_i hx
      refine List.pairwise_cons.mpr ⟨fun z hz => ?_, insI_sorted x r h2⟩
      rcases List.mem_cons.mp ((insI_perm x r).mem_iff.mp hz) with e | e
      · rw [e]; omega
      · exact h1 z e
theorem sortI_sorted : ∀ l, (sortI l).Pairwise (· ≤ ·)
  | [] => List.Pairwise.nil
  | x :: r => insI_sorted x _ (sortI_sorted r)
theorem sortI_eq {l ns : List Int} (p : ns.Perm l) (s : ns.Pairwise (· ≤ ·)) : ns = sortI l :=
  List.Perm.eq_of_pairwise (le := (· ≤ ·)) (fun a b _ _ h1 h2 => Int.le_antisymm h1 h2) s (sortI_sorted l) (p.trans (sortI_perm l).symm)
theorem minI_spec : ∀ (r : List Int) (x : Int), minI x r ∈ x :: r ∧ ∀ y ∈ x :: r, minI x r ≤ y
  | [], x => ⟨by simp [minI], fun y hy => by simp at hy; simp [minI, hy]⟩
  | z :: r, x => by
    unfold minI
    obtain ⟨h1, h2⟩ := minI_spec r (if z < x then z else x)
    refine ⟨?_, fun y hy => ?_⟩
    · rcases List.mem_cons.mp h1 with e | e
      · rw [e]
        split <;> simp
      · exact List.mem_cons_of_mem _ (List.mem_cons_of_mem _ e)
    · have k := h2 _ List.mem_cons_self
      rcases List.mem_cons.mp hy with e | e
      · rw [e]
        split at k <;> rename_i hh
        · rw [if_pos hh]; omega
        · rw [if_neg hh]; exact k
      · rcases List.mem_cons.mp e with e | e
        · rw [e]
          split at k <;> rename_i hh
          · rw [if_pos hh]; exact k
          · rw [if_neg hh]; omega
        · exact h2 y (List.mem_cons_of_mem _ e)
theorem maxI_spec : ∀ (r : List Int) (x : Int), maxI x r ∈ x :: r ∧ ∀ y ∈ x :: r, y ≤ maxI x r
  | [], x => ⟨by simp [maxI], fun y hy => by simp at hy; simp [maxI, hy]⟩
  | z :: r, x => by
    unfold maxI
    obtain ⟨h1, h2⟩ := maxI_spec r (if x < z then z else x)
    refine ⟨?_, fun y hy => ?_⟩
    · rcases List.mem_cons.mp h1 with e | e
      · rw [e]
        split <;> simp
      · exact List.mem_cons_of_mem _ (List.mem_cons_of_mem _ e)
    · have k := h2 _ List.mem_cons_self
      rcases List.mem_cons.mp hy with e | e
      · rw [e]
        split at k <;> rename_i hh
        · rw [if_pos hh]; omega
        · rw [if_neg hh]; exact k
      · rcases List.mem_cons.mp e with e | e
        · rw [e]
          split at k <;> rename_i hh
          · rw [if_pos hh]; exact k
          · rw [if_neg hh]; omega
        · exact h2 y (List.mem_cons_of_mem _ e)
section
variable {X : Cx} {C : Ct} {P : Par} {pos p : Pos} {a b c e : Expr} {ma mb mc : E} {rest es : List Expr} {ms : List E} {x : PySem.Str} {m : Bool}
theorem me_cb {id : String} (B : Bi) {r : List V → Hp → VK → Prop} (br : BiR C B m r) (hc : CallR X (.builtin id) r) (hg : Gl X x) (hm : X.mg x = none) (hv : bootBuiltins x = some (.builtin id)) (ha : MA X C P (e :: es) ms) (hn : x ≠ "__name__" := by decide) (hdb : (x == ("__debug__" : PySem.Str)) = false := by decide)
    (he : starEach (e :: es) X.env = (false, eval e X.env) :: starEach es X.env := by rfl) (hpl : (backTo pos (starEach es X.env)).any (·.1) = false := by rfl) : ME X C P (.Call (.Name x p) (e :: es) [] pos) (.bi B m ms) := by
  refine (pe_gh (pe_callB hc hg hm hv ha hn hdb he hpl)).imp fun σ H Q h => ?_
  obtain ⟨F, ι, S, sl, d, S', rs, e, post⟩ := h
  unfold ev at e
  obtain ⟨⟨ds, S1⟩, e1, e⟩ := Option.bind_eq_some_iff.mp e
  exact rs.args e1 fun F1 ι1 vs H1 l1 r1 q1 => br F1 ι1 S1 H1 ds vs d S' Q r1.rh r1.fr q1 e (post.mono l1)
theorem me_ct {T : String} (B : Bi) {r : List V → Hp → VK → Prop} (br : BiR C B m r) (hc : CallR X (.type T) r) (hg : Gl X x) (hm : X.mg x = none) (hv : bootBuiltins x = some (.type T)) (ha : MA X C P (e :: es) ms) (hn : x ≠ "__name__" := by decide) (hdb : (x == ("__debug__" : PySem.Str)) = false := by decide)
    (he : starEach (e :: es) X.env = (false, eval e X.env) :: starEach es X.env := by rfl) (hpl : (backTo pos (starEach es X.env)).any (·.1) = false := by rfl) : ME X C P (.Call (.Name x p) (e :: es) [] pos) (.bi B m ms) := by
  refine (pe_gh (pe_callTy hc hg hm hv ha hn hdb he hpl)).imp fun σ H Q h => ?_
  obtain ⟨F, ι, S, sl, d, S', rs, e, post⟩ := h
  unfold ev at e
  obtain ⟨⟨ds, S1⟩, e1, e⟩ := Option.bind_eq_some_iff.mp e
  exact rs.args e1 fun F1 ι1 vs H1 l1 r1 q1 => br F1 ι1 S1 H1 ds vs d S' Q r1.rh r1.fr q1 e (post.mono l1)
/-! ### the built-ins -/
def rLenD : List V → Hp → VK → Prop := fun xs H Q => ∃ a kvs, xs = [V.ref a] ∧ Rd H a (.dK kvs) ∧ Q (.int kvs.length) H
theorem call_lenR : CallR X (.builtin "len") rLenD := by
  intro pins s σ H xs us Q I r h
  obtain ⟨a, kvs, rfl, ha, q⟩ := h
  rw [Vals.ref1 r]
  exact d_len I ha fun t s' I' => ⟨.int kvs.length, H, I', ⟨t, rfl⟩, q⟩
def rLenA (K : PySem.W.Frag) : List V → Hp → VK → Prop := fun xs H Q => (∃ p ys, xs = [.ref p] ∧ (SqL K H p ys ∨ SqT K H p ys) ∧ Q (.int ys.length) H) ∨ rLenD xs H Q
theorem cr_len : CallR X (.builtin "len") (rLenA X.K) := call_len_seq.or call_lenR
theorem br_len (hK : C.K = X.K) : BiR C .len m (rLenA X.K) := by
  intro F ι S H ds vs d S' Q rh fr rds e post
  unfold bi at e
  split at e <;> rename_i he <;> try (cases he; done)
  obtain ⟨v, rfl, rx⟩ := rds.one
  obtain ⟨e, rfl⟩ := pure_of e
  split at e
  · cases e
    obtain ⟨a, vs, rfl, h1, h2⟩ := rx
    refine .inl ⟨a, vs, rfl, .inr (hK ▸ sqT_mono rh.fz h1), .here (post.here rh fr ?_)⟩
    show V.int _ = _
    rw [h2.length]
  · split at e
    · rename_i hd
      cases e
      obtain ⟨a, ks, rfl, h1, h2⟩ := dicD_rel rh rx hd
      refine .inr ⟨a, ks, rfl, h1, .here (post.here rh fr ?_)⟩
      show V.int _ = _
      rw [h2.length]
    · obtain ⟨xs, e1, e⟩ := Option.map_eq_some_iff.mp e
      cases e
      obtain ⟨a, vs, rfl, h1, h2⟩ := seqD_rel rh rx e1
      refine .inl ⟨a, vs, rfl, hK ▸ h1, .here (post.here rh fr ?_)⟩
      show V.int _ = _
      rw [h2.length]
  · cases e
theorem br_int : BiR C .int m (fun xs H Q => (∃ i, xs = [.int i] ∧ Q (.int i) H) ∨ ∃ k, xs = [.bl k] ∧ Q (.int (if k then 1 else 0)) H) := by
  intro F ι S H ds vs d S' Q rh fr rds e post
  unfold bi at e
  split at e <;> rename_i he <;> try (cases he; done)
  · cases e
    obtain ⟨v, rfl, rx⟩ := rds.one
    cases (show v = _ from rx)
    exact .inl ⟨_, rfl, .here (post.here rh fr rfl)⟩
  · cases e
    obtain ⟨v, rfl, rx⟩ := rds.one
    cases (show v = _ from rx)
    exact .inr ⟨_, rfl, .here (post.here rh fr rfl)⟩
  · cases e
/-- sum(t) of a tuple of numbers -/
def rSumT (K : PySem.W.Frag) : List V → Hp → VK → Prop := fun vs H Q => ∃ (a : Addr) (ns : List Int), vs = [V.ref a] ∧ SqT K H a (ns.map V.int) ∧ Q (.int ns.sum) H
theorem cr_sumT (hc : X.calm = true) : CallR X (.builtin "sum") (rSumT X.K) := by
  intro pins s σ H vs us Q I r h
  obtain ⟨a, ns, rfl, hs, q⟩ := h
  rw [Vals.ref1 r]
  obtain ⟨its, rv, ht, _⟩ := I.tuple hs
  have hi := Vals.ints rv
  obtain ⟨xs, hx⟩ := hi.allInts.items
  have hn : numsOf its.toArray.toList = ns := by rw [show its.toArray.toList = its from rfl, hi.numsOf]
  rw [hx] at ht hn
  rw [nums_intItems] at hn
  refine PySem.W.ktm_sumG (I.ok.hd hc) ht fun h' tk t' hk => ?_
  rw [preSum_eq, List.take_of_length_le (by simp), hn]
  exact ⟨.int _, H, I.kept hk, ⟨_, rfl⟩, q⟩
def rSumA (K : PySem.W.Frag) : List V → Hp → VK → Prop := fun vs H Q => rSum K vs H Q ∨ rSumT K vs H Q
theorem cr_sumA (hc : X.calm = true) : CallR X (.builtin "sum") (rSumA X.K) := (cr_sum hc).or (cr_sumT hc)
theorem br_sum (hK : C.K = X.K) : BiR C .sum m (rSumA X.K) := by
  intro F ι S H ds vs d S' Q rh fr rds e post
  unfold bi at e
  split at e <;> rename_i he <;> try (cases he; done)
  · obtain ⟨v, rfl, rx⟩ := rds.one
    obtain ⟨e, rfl⟩ := pure_of e
    obtain ⟨xs, e1, e⟩ := Option.bind_eq_some_iff.mp e
    obtain ⟨ns, e2, e⟩ := Option.map_eq_some_iff.mp e
    cases e
    obtain ⟨a, vs, rfl, h1, h2⟩ := seqD_rel rh rx e1
    cases h2.ints e2
    rcases h1 with h1 | h1
    · exact .inl ⟨a, ns, rfl, hK ▸ h1, .here (post.here rh fr rfl)⟩
    · exact .inr ⟨a, ns, rfl, hK ▸ h1, .here (post.here rh fr rfl)⟩
  · cases e
/-- min(d), a dict with int keys -/
def rMinK : List V → Hp → VK → Prop := fun vs H Q => ∃ (a : Addr) (kvs : List (L2.Key × V)) (ns : List Int), vs = [V.ref a] ∧ Rd H a (.dK kvs) ∧ kvs.map (·.1) = ns.map Sum.inl ∧ 0 < ns.length ∧ ∀ m, m ∈ ns → (∀ y, y ∈ ns → m ≤ y) → Q (.int m) H
theorem cr_minK (hc : X.calm = true) : CallR X (.builtin "min") rMinK := by
  intro pins s σ H xs us Q I r h
  obtain ⟨a, kvs, ns, rfl, ha, hk, hne, q⟩ := h
  rw [Vals.ref1 r]
  obtain ⟨_, hsys, vs, rel, dof⟩ := dk_rd I.hok ha
  obtain ⟨ep, dat⟩ := dof.dictAt
  have hlv : vs.length = ns.length := by
    have e1 := congrArg List.length hk
    rw [List.length_map, List.length_map] at e1
    rw [← e1]
    exact (KV.length rel).symm
  have hkey : ∀ {kvs : List (L2.Key × V)} {vs : List (L2.Key × Value)}, KV kvs vs → kvs.map (·.1) = vs.map (·.1) := fun r => by
    unfold KV at r
    induction r with
    | nil => rfl
    | cons h t ih => rw [List.map_cons, List.map_cons, ih, h.1]
  have hkv := (hkey rel).symm.trans hk
  have hval : ∀ (i : Nat) (v : Value), (∃ k x, vs[i]? = some (k, x) ∧ (mixKind X.prog X.w).is k v = true) → ∃ t, v = Value.int (ns.getD i 0) t := fun i v ⟨k, x, hi, hv⟩ => by
    have e1 : (vs.map (·.1))[i]? = some k := by rw [List.getElem?_map, hi]; rfl
    rw [hkv, List.getElem?_map] at e1
    obtain ⟨j, hj, e2⟩ := Option.map_eq_some_iff.mp e1
    subst e2
    obtain ⟨t, e3⟩ := relV_key (show keyIs (Sum.inl j) v = true from hv)
    refine ⟨t, ?_⟩
    rw [e3, List.getD_eq_getElem?_getD, hj] <;> rfl
  have hlt : a < s.heap.objs.size := by
    obtain ⟨ob, es, ho, _⟩ := id dat
    exact Heap.lt_size ho
  refine call_min_walk (wpAny_pyIter_dict hsys dat ?_)
  refine ⟨_, _, _, _, _, _, _, rfl, Walks.dictKeys (knd := mixKind X.prog X.w) (A := X.A.in1) (I.ok.hd hc) s.heap.objs.size a (Nat.ne_of_lt hlt) vs ep,
    ⟨⟨_, Heap.get?_push_size _ rfl, rfl, rfl⟩, dat.keep fun b u e => Heap.get?_push_of_some _ e⟩, fun b hb => ?_, by rw [hlv]; exact hne, CmpOf.ints_lt (fun i => ns.getD i 0) hval, fun v h' tk hP hk => ?_⟩
  · show b < (s.heap.push _).objs.size
    rw [Heap.size_push]
    rcases List.mem_cons.mp hb with e | hb
    · rw [e]
      exact Nat.lt_succ_self _
    · have e : b = a := List.mem_singleton.mp hb
      rw [e]
      exact Nat.lt_succ_of_lt hlt
  · obtain ⟨t, rfl⟩ := hval _ v hP
    obtain ⟨b1, b2⟩ := argBest_lt (fun i => ns.getD i 0) (vs.length - 1)
    refine ⟨.int _, H, I.kept (t' := tk) fun b u e => hk b u (fun hmem => ?_) (Heap.get?_push_of_some _ e), ⟨t, rfl⟩, q _ ?_ fun y hy => ?_⟩
    · have e1 : b = s.heap.objs.size := List.mem_singleton.mp hmem
      have e2 := Heap.lt_size e
      rw [e1] at e2
      exact absurd e2 (Nat.lt_irrefl _)
    · exact PySem.getD_mem (by omega)
    · obtain ⟨j, hj, rfl⟩ := PySem.mem_getD hy
      exact b2 j (by omega)
/-- min(t) of a tuple of numbers -/
def rMinT (K : PySem.W.Frag) : List V → Hp → VK → Prop := fun vs H Q => ∃ (a : Addr) (is : List Int), vs = [V.ref a] ∧ SqT K H a (is.map V.int) ∧ 0 < is.length ∧ ∀ m, m ∈ is → (∀ j ∈ is, m ≤ j) → Q (.int m) H
theorem cr_minT (hc : X.calm = true) : CallR X (.builtin "min") (rMinT X.K) := by
  intro pins s σ H vs us Q I r h
  obtain ⟨a, is, rfl, hs, hne, q⟩ := h
  rw [Vals.ref1 r]
  obtain ⟨its, rv, ht, _⟩ := I.tuple hs
  have hlt : a < s.heap.objs.size := by
    obtain ⟨_, e, _⟩ := id ht
    exact Heap.lt_size e
  have hlen : its.length = is.length := by
    have := rv.length
    rw [List.length_map] at this
    exact this.symm
  have hval : ∀ (i : Nat) (v : Value), its.toArray[i]? = some v → ∃ t, v = Value.int (is.getD i 0) t := fun i v hv => by
    have hv' : its[i]? = some v := by simpa using hv
    have hi : i < is.length := by
      have := (List.getElem?_eq_some_iff.mp hv').1
      omega
    obtain ⟨u, hu, ru⟩ := rv.get (i := i) (x := V.int (is.getD i 0)) (by rw [List.getElem?_map, List.getD_eq_getElem?_getD, List.getElem?_eq_getElem hi] <;> rfl)
    rw [hv'] at hu
    cases hu
    exact ru
  refine call_min_walk (wpAny_pyIter_tuple ht ?_)
  refine ⟨_, _, _, _, _, _, _, rfl, Walks.tuple (A := X.A.in1) (I.ok.hd hc) s.heap.objs.size a (Nat.ne_of_lt hlt) its.toArray,
    ⟨⟨_, Heap.get?_push_size _ rfl, rfl, rfl⟩, ht.push _⟩, fun b hb => ?_, by rw [List.size_toArray]; omega, CmpOf.ints_lt (fun i => is.getD i 0) hval, fun v h' tk hP hk => ?_⟩
  · show b < (s.heap.push _).objs.size
    rw [Heap.size_push]
    rcases List.mem_cons.mp hb with e | hb
    · rw [e]
      exact Nat.lt_succ_self _
    · rw [List.mem_singleton.mp hb]
      exact Nat.lt_succ_of_lt hlt
  · obtain ⟨t, rfl⟩ := hval _ v hP
    obtain ⟨b1, b2⟩ := argBest_lt (fun i => is.getD i 0) (its.toArray.size - 1)
    rw [List.size_toArray, hlen] at b1 b2
    refine ⟨.int _, H, I.kept (t' := tk) fun b u e => hk b u (fun hmem => ?_) (Heap.get?_push_of_some _ e), ⟨t, rfl⟩, q _ ?_ fun j hj => ?_⟩
    · have e1 : b = s.heap.objs.size := List.mem_singleton.mp hmem
      have e2 := Heap.lt_size e
      rw [e1] at e2
      exact absurd e2 (Nat.lt_irrefl _)
    · rw [List.size_toArray, hlen]
      have hb : argBest (fun i j => decide (is.getD i 0 < is.getD j 0)) (is.length - 1) < is.length := by omega
      rw [List.getD_eq_getElem?_getD, List.getElem?_eq_getElem hb]
      exact List.getElem_mem hb
    · obtain ⟨i, hi, e⟩ := List.mem_iff_getElem.mp hj
      have e2 : is.getD i 0 = j := by rw [List.getD_eq_getElem?_getD, List.getElem?_eq_getElem hi, ← e] <;> rfl
      rw [← e2, List.size_toArray, hlen]
      exact b2 i (by omega)
def rMinA (K : PySem.W.Frag) : List V → Hp → VK → Prop := fun vs H Q => (rMin K vs H Q ∨ rMinK vs H Q) ∨ rMinT K vs H Q
theorem cr_minA (hc : X.calm = true) : CallR X (.builtin "min") (rMinA X.K) := ((cr_min hc).or (cr_minK hc)).or (cr_minT hc)
theorem br_max (hK : C.K = X.K) : BiR C .max1 m (rMax X.K) := by
  intro F ι S H ds vs d S' Q rh fr rds e post
  unfold bi at e
  split at e <;> rename_i he <;> try (cases he; done)
  · obtain ⟨v, rfl, rx⟩ := rds.one
    obtain ⟨e, rfl⟩ := pure_of e
    obtain ⟨xs, e1, e⟩ := Option.bind_eq_some_iff.mp e
    obtain ⟨ns, e2, e⟩ := Option.bind_eq_some_iff.mp e
    obtain ⟨a, vs, rfl, h1, h2⟩ := lsq_rel rh rx e1
    cases h2.ints e2
    split at e
    · cases e
    · rename_i n r
      cases e
      refine ⟨a, n :: r, rfl, hK ▸ h1, by simp, fun k hk hm => .here (post.here rh fr ?_)⟩
      obtain ⟨g1, g2⟩ := maxI_spec r n
      show V.int _ = _
      rw [show k = maxI n r from Int.le_antisymm (g2 _ hk) (hm _ g1)]
  · cases e
theorem br_min2 : BiR C .min2 m (fun xs H Q => ∃ i j, xs = [.int i, .int j] ∧ Q (.int (if j < i then j else i)) H) := by
  intro F ι S H ds vs d S' Q rh fr rds e post
  unfold bi at e
  split at e <;> rename_i he <;> try (cases he; done)
  · cases e
    obtain ⟨v, w, rfl, rx, ry⟩ := rds.two
    cases (show v = _ from rx)
    cases (show w = _ from ry)
    exact ⟨_, _, rfl, .here (post.here rh fr rfl)⟩
  · cases e
theorem br_max2 : BiR C .max2 m (fun xs H Q => ∃ i j, xs = [.int i, .int j] ∧ Q (.int (if j > i then j else i)) H) := by
  intro F ι S H ds vs d S' Q rh fr rds e post
  unfold bi at e
  split at e <;> rename_i he <;> try (cases he; done)
  · cases e
    obtain ⟨v, w, rfl, rx, ry⟩ := rds.two
    cases (show v = _ from rx)
    cases (show w = _ from ry)
    exact ⟨_, _, rfl, .here (post.here rh fr rfl)⟩
  · cases e
theorem newL_gh {F ι S H} {m : Bool} {xs : List B} {vs : List V} {d : D} {S' : Store} {Q : VK} (e : newL S m xs = some (d, S')) (rh : RH C F ι S H) (fr : Fre F ι) (post : Post C F ι S' d Q) (r : RelBs C F xs vs) : ∀ p, H p = none → Gh (upd H p (.lst vs)) (Q (.ref p)) :=
  fun p hp => .here (newL_post e rh fr post r hp)
def rSortedA (K : PySem.W.Frag) : List V → Hp → VK → Prop := fun xs H Q => rSortedI K xs H Q ∨ (∃ (a : Addr) (kvs : List (L2.Key × V)) (ks : List Int), xs = [V.ref a] ∧ Rd H a (.dK kvs) ∧ kvs.map (·.1) = ks.map Sum.inl ∧
    ∀ (ys : List Int) (p : Addr), ys.Perm ks → ys.Pairwise (· ≤ ·) → H p = none → Q (.ref p) (upd H p (.lst (ys.map V.int))))
theorem call_sortedDA (hcalm : X.calm = true) : CallR X (.builtin "sorted") (fun xs H Q => ∃ (a : Addr) (kvs : List (L2.Key × V)) (ks : List Int), xs = [V.ref a] ∧ Rd H a (.dK kvs) ∧ kvs.map (·.1) = ks.map Sum.inl ∧
    ∀ (ys : List Int) (p : Addr), ys.Perm ks → ys.Pairwise (· ≤ ·) → H p = none → Q (.ref p) (upd H p (.lst (ys.map V.int)))) := by
  intro pins s σ H xs us Q I r q
  obtain ⟨a, kvs, ks, ex, hd, hks, q⟩ := q
  subst ex
  obtain ⟨u, eu, rx⟩ := vals1 r
  subst eu
  cases rx
  obtain ⟨z, lo, vs, rel, dd⟩ := dk_rd I.hok hd
  obtain ⟨ep, hat⟩ := dd.dictAt
  have hkeys : vs.map (·.1) = ks.map Sum.inl := rel.keys.symm.trans hks
  have hl : vs.length = ks.length := by
    have e := congrArg List.length hkeys
    rw [List.length_map, List.length_map] at e
    exact e
  have h16 : vs.length ≤ sizeLine := by rw [← rel.length]; exact z
  refine Calls.call_function_entry PyProof.Rows.kind_sorted PyProof.Rows.plain_sorted PyProof.Rows.entry_sorted (PyProof.Rows.args_sorted1 _) ?_
  unfold Builtin.«sorted»
  refine wpAny_bind (m := checkCount "sorted" 1 1 _) (wpAny_pure ?_)
  refine wpAny_bind (PySem.W.kdu_collect (A := X.A.in1) (PySem.W.kdl_dict (knd := mixKind X.prog X.w) (kvs := vs) (ep := ep) lo) (I.ok.hd hcalm) hat h16 fun h' tk acc hk hacc => ?_)
  have hal : acc.toList.length = ks.length := by rw [Array.length_toList, hacc.1, hl]
  have hS : IntsAre acc.toList ks := ints_each hal fun j v e => by
    obtain ⟨k, x, e1, e2⟩ := hacc.2 j v (by rw [← Array.getElem?_toList]; exact e)
    have e3 : (vs.map (·.1))[j]? = some k := by rw [List.getElem?_map, e1]; rfl
    rw [hkeys, List.getElem?_map] at e3
    cases e4 : ks[j]? with
    | none => rw [e4] at e3; cases e3
    | some y =>
      rw [e4] at e3
      have e5 : Sum.inl y = k := Option.some.inj e3
      subst e5
      rcases keyIs_shape (show keyIs (Sum.inl y) v = true from e2) with ⟨i, t, ek, ev⟩ | ⟨z, t, ek, ev⟩
      · cases ek
        exact ⟨y, t, rfl, ev⟩
      · cases ek
  have I1 : Inv X pins σ H { s with heap := h', toks := tk } := I.kept hk
  refine wpAny_bind (wpAny_newList ?_ (by rw [hal, ← hl]; exact h16))
  have hoL : (h'.push (seqObj "list" acc.toList.toArray 0)).get? h'.objs.size = some (seqObj "list" acc.toList.toArray 0) := Heap.get?_push_size _ rfl
  show wpAny _ _ _ _ _ { s with heap := h'.push (seqObj "list" acc.toList.toArray 0), toks := tk }
  refine wpAny_bind (wpAny_holding (wpAny_call_entry PyProof.Rows.slot_list_sort ⟨_, hoL, rfl⟩ PyProof.Rows.entry_list_sort
    (SrtO.list_sort_ord (s := { s with heap := h'.push (seqObj "list" acc.toList.toArray 0), toks := tk }) SrtO.swo_int hoL (by rw [hal, ← hl]; exact h16) (fun h2 => SrtO.ints_sortable hS h2) fun out h1 h2 => ⟨_, rfl, ?_⟩) (PyProof.Rows.args_list_sort _)))
  obtain ⟨k1, k2, k3⟩ := SrtO.ints_out hS h1 h2
  obtain ⟨e', he'⟩ := PyProof.Rows.sortedHeap_at (vs := acc.toList) (out := out.toArray) hoL
  have hlen : ((out.map SrtO.iv).map V.int).length ≤ sizeLine := by
    rw [List.length_map, k2.length_eq, ← hl]
    exact h16
  refine wpAny_pure ⟨_, rfl, .ref h'.objs.size, upd H h'.objs.size (.lst ((out.map SrtO.iv).map V.int)), I1.laid (t' := tk) (fun b u e => ?_) (Nat.le_refl _)
    (show ObjOk X.prog X.w _ _ _ (.lst ((out.map SrtO.iv).map V.int)) from ⟨hlen, out, e', vals_of_ints k1, he'⟩), rfl, q _ _ k2 k3 (I1.hok.fresh (Nat.le_refl _))⟩
  have hb : b < h'.objs.size := Heap.lt_size e
  rw [PyProof.Rows.sortedHeap_old (Nat.ne_of_lt hb) (by rw [size_push']; exact Nat.lt_succ_of_lt hb)]
  exact Heap.get?_push_of_some _ e
theorem cr_sortedA (hc : X.calm = true) : CallR X (.builtin "sorted") (rSortedA X.K) := cr_sortedI.or (call_sortedDA hc)
theorem int_keys {F : Hp} : ∀ {kvs : List (Kd × B)} {ks : List (L2.Key × V)} {ns : List Int}, RelBk C F kvs ks → intsB (keysOf kvs) = some ns → ks.map (·.1) = ns.map Sum.inl
  | [], _, ns, r, e => by
    cases (show _ = [] from r)
    cases e
    rfl
  | (k, x) :: xs, _, ns, r, e => by
    obtain ⟨q, r, rfl, h1, h2⟩ := r
    obtain ⟨h1, _⟩ := relKp.mp h1
    cases k with
    | s n => cases e
    | i n =>
      have e' : (intsB (keysOf xs)).map (n :: ·) = some ns := e
      obtain ⟨ns', e1, e'⟩ := Option.map_eq_some_iff.mp e'
      cases e'
      rw [List.map_cons, List.map_cons, int_keys h2 e1]
      rw [show q.1 = .inl n from h1]
theorem br_min (hK : C.K = X.K) : BiR C .min1 m (rMinA X.K) := by
  intro F ι S H ds vs d S' Q rh fr rds e post
  unfold bi at e
  split at e <;> rename_i he <;> try (cases he; done)
  · obtain ⟨v, rfl, rx⟩ := rds.one
    obtain ⟨e, rfl⟩ := pure_of e
    split at e
    · rename_i kvs hd
      obtain ⟨ns, e2, e⟩ := Option.bind_eq_some_iff.mp e
      obtain ⟨a, ks, rfl, h1, h2⟩ := dicD_rel rh rx hd
      split at e
      · cases e
      · rename_i n r
        cases e
        refine .inl (.inr ⟨a, ks, n :: r, rfl, h1, int_keys h2 e2, by simp, fun k hk hm => .here (post.here rh fr ?_)⟩)
        obtain ⟨g1, g2⟩ := minI_spec r n
        show V.int _ = _
        rw [show k = minI n r from Int.le_antisymm (hm _ g1) (g2 _ hk)]
    · obtain ⟨xs, e1, e⟩ := Option.bind_eq_some_iff.mp e
      obtain ⟨ns, e2, e⟩ := Option.bind_eq_some_iff.mp e
      obtain ⟨a, vs, rfl, h1, h2⟩ := seqD_rel rh rx e1
      cases h2.ints e2
      split at e
      · cases e
      · rename_i n r
        cases e
        have last : ∀ k, k ∈ n :: r → (∀ y, y ∈ n :: r → k ≤ y) → Gh H (Q (V.int k)) := fun k hk hm => .here (post.here rh fr (by
          obtain ⟨g1, g2⟩ := minI_spec r n
          show V.int _ = _
          rw [show k = minI n r from Int.le_antisymm (hm _ g1) (g2 _ hk)]))
        rcases h1 with h1 | h1
        · exact .inl (.inl ⟨a, n :: r, rfl, hK ▸ h1, by simp, last⟩)
        · exact .inr ⟨a, n :: r, rfl, hK ▸ h1, by simp, last⟩
  · cases e
theorem br_sorted (hK : C.K = X.K) : BiR C .sorted m (rSortedA X.K) := by
  intro F ι S H ds vs d S' Q rh fr rds e post
  unfold bi at e
  split at e <;> rename_i he <;> try (cases he; done)
  · obtain ⟨v, rfl, rx⟩ := rds.one
    split at e
    · rename_i kvs hd
      split at e
      · rename_i h64
        obtain ⟨ns, e1, e⟩ := Option.bind_eq_some_iff.mp e
        obtain ⟨a, ks, rfl, h1, h2⟩ := dicD_rel rh rx hd
        have hk := int_keys h2 e1
        refine .inr ⟨a, ks, ns, rfl, h1, hk, fun ys p hp hs hn => ?_⟩
        rw [sortI_eq hp hs]
        exact newL_gh e rh fr post RelBs.of_ints p hn
      · cases e
    · obtain ⟨xs, e1, e⟩ := Option.bind_eq_some_iff.mp e
      obtain ⟨ns, e2, e⟩ := Option.bind_eq_some_iff.mp e
      obtain ⟨a, vs, rfl, h1, h2⟩ := lsq_rel rh rx e1
      cases h2.ints e2
      refine .inl ⟨a, ns, rfl, hK ▸ h1, fun ys p hp hs hn => ?_⟩
      rw [sortI_eq hp hs]
      exact newL_gh e rh fr post RelBs.of_ints p hn
  · cases e
theorem br_tuple (hK : C.K = X.K) : BiR C .tuple m (fun xs H Q => ∃ p ys, xs = [.ref p] ∧ ((SqL X.K H p ys ∧ ∀ l, H l = none → Q (.ref l) (upd H l (.tup ys))) ∨ (SqT X.K H p ys ∧ Q (.ref p) H))) := by
  intro F ι S H ds vs d S' Q rh fr rds e post
  unfold bi at e
  split at e <;> rename_i he <;> try (cases he; done)
  · cases e
    obtain ⟨v, rfl, rx⟩ := rds.one
    have rx' := rx
    obtain ⟨a, vs, rfl, h1, h2⟩ := rx
    exact ⟨a, vs, rfl, .inr ⟨hK ▸ sqT_mono rh.fz h1, .here (post.here rh fr rx')⟩⟩
  · rename_i x hx
    obtain ⟨v, rfl, rx⟩ := rds.one
    obtain ⟨e, rfl⟩ := pure_of e
    obtain ⟨xs, e1, e⟩ := Option.map_eq_some_iff.mp e
    cases e
    have e1' : lsqD S' x = some xs := by
      unfold lsqD
      split
      · exact (hx _ rfl).elim
      · exact e1
    obtain ⟨a, vs, rfl, h1, h2⟩ := lsq_rel rh rx e1'
    exact ⟨a, vs, rfl, .inl ⟨hK ▸ h1, fun p hp => .here (post.new rh fr hp ⟨p, _, rfl, .inl (.inl upd_same), RelBs.mono (rh.newF fr (u := .tup vs) hp).2.2.1 _ _ h2⟩)⟩⟩
  · cases e
def rListA (K : PySem.W.Frag) : List V → Hp → VK → Prop := fun xs H Q => (∃ p ys, xs = [.ref p] ∧ (SqL K H p ys ∨ SqT K H p ys) ∧ ∀ l, H l = none → Q (.ref l) (upd H l (.lst ys))) ∨
  (∃ (a : Addr) (kvs : List (L2.Key × V)), xs = [.ref a] ∧ Rd H a (.dK kvs) ∧ ∀ p, H p = none → Q (.ref p) (upd H p (.lst (kvs.map fun kv => kV kv.1))))
theorem cr_listA (hc : X.calm = true) : CallR X (.type "list") (rListA X.K) := call_list_of.or (call_listD hc)
theorem br_list (hK : C.K = X.K) : BiR C .list m (rListA X.K) := by
  intro F ι S H ds vs d S' Q rh fr rds e post
  unfold bi at e
  split at e <;> rename_i he <;> try (cases he; done)
  · obtain ⟨v, rfl, rx⟩ := rds.one
    obtain ⟨xs, e1, e⟩ := Option.bind_eq_some_iff.mp e
    unfold itD at e1
    split at e1
    · rename_i hd
      cases e1
      obtain ⟨a, ks, rfl, h1, h2⟩ := dicD_rel rh rx hd
      exact .inr ⟨a, ks, rfl, h1, newL_gh e rh fr post (keys_rel h2)⟩
    · obtain ⟨a, vs, rfl, h1, h2⟩ := seqD_rel rh rx e1
      exact .inl ⟨a, vs, rfl, hK ▸ h1, newL_gh e rh fr post h2⟩
  · cases e
def rDictA (K : PySem.W.Frag) : List V → Hp → VK → Prop := fun xs H Q => (∃ (a : Addr) (kvs : List (L2.Key × V)), xs = [.ref a] ∧ Rd H a (.dK kvs) ∧ ∀ p, H p = none → Q (.ref p) (upd H p (.dK kvs))) ∨
  (∃ (a : Addr) (ps : List Addr) (kvs : List (L2.Key × V)), xs = [.ref a] ∧ SqL K H a (ps.map V.ref) ∧ Paired (fun p kv => SqT K H p [kV kv.1, kv.2]) ps kvs ∧
    ∀ p, H p = none → Q (.ref p) (upd H p (.dK (mergeK [] kvs))))
theorem cr_dictA (hc : X.calm = true) : CallR X (.type "dict") (rDictA X.K) := call_dictD.or (call_dictP hc)
theorem pairs_rel {F : Hp} {H : Hp} (hs : Sub F H) : ∀ {xs : List B} {kvs : List (Kd × B)} {vs : List V}, RelBs C F xs vs → pairsB xs = some kvs → ∃ (ps : List Addr) (ks : List (L2.Key × V)), vs = ps.map V.ref ∧ Paired (fun p kv => SqT C.K H p [kV kv.1, kv.2]) ps ks ∧ RelBk C F kvs ks
  | [], kvs, _, r, e => by
    cases (show _ = [] from r)
    cases e
    exact ⟨[], [], rfl, .nil, rfl⟩
  | x :: xs, kvs, _, r, e => by
    obtain ⟨v, rr, rfl, h1, h2⟩ := r
    unfold pairsB at e
    split at e <;> rename_i he
    · cases he
    · cases he
      obtain ⟨k, e1, e⟩ := Option.bind_eq_some_iff.mp e
      obtain ⟨kvs', e2, e⟩ := Option.map_eq_some_iff.mp e
      cases e
      obtain ⟨ps, ks, q1, q2, q3⟩ := pairs_rel hs h2 e2
      obtain ⟨a, vs2, rfl, h3, v1, r1, rfl, h4, v2, r2, rfl, h5, h6⟩ := h1
      cases (show r2 = [] from h6)
      obtain ⟨j, rk, rfl⟩ := keyB_rel e1 h4
      exact ⟨a :: ps, (j, v2) :: ks, by rw [q1] <;> rfl, .cons (sqT_mono hs h3) q2, _, _, rfl, relKp.mpr ⟨rk, h5⟩, q3⟩
    · cases e
theorem br_dict (hK : C.K = X.K) : BiR C .dict m (rDictA X.K) := by
  intro F ι S H ds vs d S' Q rh fr rds e post
  unfold bi at e
  split at e <;> rename_i he <;> try (cases he; done)
  · obtain ⟨v, rfl, rx⟩ := rds.one
    split at e
    · rename_i hd
      obtain ⟨a, ks, rfl, h1, h2⟩ := dicD_rel rh rx hd
      exact .inl ⟨a, ks, rfl, h1, fun p hp => newD_post e rh fr post h2 hp⟩
    · obtain ⟨xs, e1, e⟩ := Option.bind_eq_some_iff.mp e
      obtain ⟨kvs, e2, e⟩ := Option.bind_eq_some_iff.mp e
      obtain ⟨a, vs, rfl, h1, h2⟩ := lstD_rel rh rx e1
      obtain ⟨ps, ks, rfl, q2, q3⟩ := pairs_rel rh.fz h2 e2
      exact .inr ⟨a, ps, ks, rfl, .inl (.inl h1), hK ▸ q2, fun p hp => newD_post e rh fr post (dmerge_rel q3 (show RelBk C F [] [] from rfl)) hp⟩
  · cases e
theorem br_all (hK : C.K = X.K) : BiR C .all m (rAll X.K) := by
  intro F ι S H ds vs d S' Q rh fr rds e post
  unfold bi at e
  split at e <;> rename_i he <;> try (cases he; done)
  · obtain ⟨v, rfl, rx⟩ := rds.one
    obtain ⟨e, rfl⟩ := pure_of e
    obtain ⟨xs, e1, e⟩ := Option.bind_eq_some_iff.mp e
    obtain ⟨ns, e2, e⟩ := Option.map_eq_some_iff.mp e
    cases e
    obtain ⟨a, vs, rfl, h1, h2⟩ := lstD_rel rh rx e1
    cases h2.bools e2
    exact ⟨a, ns, rfl, .inl (.inl h1), .here (post.here rh fr rfl)⟩
  · cases e
theorem br_any (hK : C.K = X.K) : BiR C .any m (rAny X.K) := by
  intro F ι S H ds vs d S' Q rh fr rds e post
  unfold bi at e
  split at e <;> rename_i he <;> try (cases he; done)
  · obtain ⟨v, rfl, rx⟩ := rds.one
    obtain ⟨e, rfl⟩ := pure_of e
    obtain ⟨xs, e1, e⟩ := Option.bind_eq_some_iff.mp e
    obtain ⟨ns, e2, e⟩ := Option.map_eq_some_iff.mp e
    cases e
    obtain ⟨a, vs, rfl, h1, h2⟩ := lstD_rel rh rx e1
    cases h2.bools e2
    exact ⟨a, ns, rfl, .inl (.inl h1), .here (post.here rh fr rfl)⟩
  · cases e
/-! ### isinstance -/
def knN : Kn → String
  | .non => "NoneType"
  | .bl => "bool"
  | .int => "int"
  | .str => "str"
  | .tup => "tuple"
  | .lst => "list"
  | .dic => "dict"
def tyN : Ty → String
  | .int => "int"
  | .bool => "bool"
  | .str => "str"
  | .list => "list"
  | .tuple => "tuple"
  | .dict => "dict"
  | .cls _ => "object"
theorem kn_kit (k : Kn) (t : Ty) (b : Bool) (e : knTy k t = some b) : kitB (knN k) (tyN t) = some b := by
  cases t with
  | cls c => cases k <;> cases e
  | _ => cases k <;> cases e <;> decide +kernel
theorem sqT_ty {K : PySem.W.Frag} {H : Hp} {a : Addr} {vs : List V} (h : SqT K H a vs) : TyX K H (.ref a) (.type "tuple") := by
  rcases h with (h | ⟨o, h⟩) | h
  · exact .base (.tup h)
  · exact .fTuple h
  · obtain ⟨o, _, _, h1, h2, _⟩ := h
    exact .kTuple h1 h2
theorem kn_ty (hK : C.K = X.K) {F ι S H} {d : D} {v : V} {k : Kn} (rh : RH C F ι S H) (rx : RelD C F ι d v) (e : kn S d = some k) : TyX X.K H v (.type (knN k)) := by
  cases d with
  | mix xs =>
    cases e
    obtain ⟨a, vs, rfl, h1, h2⟩ := rx
    exact sqT_ty (hK ▸ sqT_mono rh.fz h1)
  | ref n =>
    obtain ⟨a, ha, rfl⟩ := rx
    obtain ⟨o, ho, q⟩ := rh.obj ha
    unfold kn at e
    dsimp only at e
    rw [ho] at e
    cases o with
    | lst xs => cases e; obtain ⟨vs, h1, _⟩ := q; exact .base (.lst h1)
    | dic xs => cases e; obtain ⟨vs, h1, _⟩ := q; exact .base (.dK h1)
    | ins c fs => cases e
    | lockl xs => cases e; obtain ⟨vs, h1, _⟩ := q; exact .base (.lst h1)
    | lockd xs => cases e; obtain ⟨o, vs, h1, _⟩ := q; exact .fDict h1
  | b x =>
    cases x with
    | non => cases e; cases (show v = _ from rx); exact .base .non
    | bl y => cases e; cases (show v = _ from rx); exact .base (.bl _)
    | int y => cases e; cases (show v = _ from rx); exact .base (.int _)
    | str n => cases e; obtain ⟨y, _, rfl⟩ := rx; exact .base (.str _)
    | tup xs => cases e; obtain ⟨a, vs, rfl, h1, h2⟩ := rx; exact sqT_ty (hK ▸ sqT_mono rh.fz h1)
    | lst xs => cases e; obtain ⟨a, vs, rfl, h1, h2⟩ := rx; exact .base (.lst (rh.fz _ _ h1))
    | scr xs => cases e
    | dic xs => cases e; obtain ⟨a, o, vs, rfl, h1, h2⟩ := rx; exact .fDict (rh.fz _ _ h1)
    | ins c fs => cases e
theorem me_isi (hK : C.K = X.K) (t : Ty) {y : PySem.Str} {p2 : Pos} (hg : Gl X "isinstance") (hm : X.mg "isinstance" = none) (hv : bootBuiltins "isinstance" = some (.builtin "isinstance")) (ha : ME X C P a ma)
    (hg2 : Gl X y) (hm2 : X.mg y = none) (hv2 : bootBuiltins y = some (.type (tyN t))) (hn2 : y ≠ "__name__" := by decide) (hdb2 : (y == ("__debug__" : PySem.Str)) = false := by decide)
    (he : starEach [a, .Name y p2] X.env = (false, eval a X.env) :: starEach [.Name y p2] X.env := by rfl) (he2 : starEach [.Name y p2] X.env = (false, eval (.Name y p2) X.env) :: starEach [] X.env := by rfl) (hpl : (backTo pos (starEach [.Name y p2] X.env)).any (·.1) = false := by rfl) : ME X C P (.Call (.Name "isinstance" p) [a, .Name y p2] [] pos) (.bi (.isin t) m [ma]) := by
  refine (pe_callB call_isi hg hm hv (pa_cons ha (pa_cons (pe_bltn (v := .ty (tyN t)) hg2 hm2 hv2 rfl hn2 hdb2) pa_nil he2) he) (by decide) (by decide) he hpl).imp fun σ H Q h => ?_
  obtain ⟨F, ι, S, sl, d, S', rs, e, post⟩ := h
  unfold ev evs evs at e
  obtain ⟨⟨ds, S1⟩, e1, e⟩ := Option.bind_eq_some_iff.mp e
  obtain ⟨⟨x, S2⟩, e2, e1⟩ := Option.bind_eq_some_iff.mp e1
  cases e1
  obtain ⟨e, rfl⟩ := pure_of (show pure' S2 ((isin S2 t x).map fun b => .b (.bl b)) = some (d, S') from e)
  obtain ⟨b, e3, e⟩ := Option.map_eq_some_iff.mp e
  cases e
  obtain ⟨k, e4, e5⟩ := Option.bind_eq_some_iff.mp e3
  refine rs.one e2 fun F1 ι1 v H1 l1 r1 q1 => ?_
  exact ⟨v, .ty (tyN t), .type (knN k), .type (tyN t), b, rfl, .ty _, kn_ty hK r1.rh q1 e4, kit_ty (kn_kit k t b e5), (post.mono l1).here r1.rh r1.fr rfl⟩
end
end M
/-! MC9: methods of built-ins. -/
namespace M
open PySem PySem.Spec PyProof.Rows L2
theorem kd_list {C : Ct} {F : Hp} {ι : List Addr} {S : Store} {H : Hp} {K : PySem.W.Frag} (hK : C.K = K) {d : D} {v : V} (rh : RH C F ι S H) (r : RelD C F ι d v) (e : kd S d = 1) : tyV K "list" v H := by
  unfold kd at e
  split at e
  · obtain ⟨a, vs, rfl, h1, _⟩ := r
    exact .inl ⟨rfl, vs, .inl (.inl (rh.fz _ _ h1))⟩
  · obtain ⟨a, vs, rfl, h1, _⟩ := r
    exact .inl ⟨rfl, vs, hK ▸ sqL_mono rh.fz h1⟩
  · cases e
  · obtain ⟨a, ha, rfl⟩ := r
    obtain ⟨o, ho, q⟩ := rh.obj ha
    rw [ho] at e
    cases o with
    | lst xs => obtain ⟨vs, h1, _⟩ := q; exact .inl ⟨rfl, vs, .inl (.inl h1)⟩
    | dic xs => cases e
    | ins c fs => cases e
    | lockl xs => obtain ⟨vs, h1, _⟩ := q; exact .inl ⟨rfl, vs, .inl (.inl h1)⟩
    | lockd xs => cases e
  · cases e
theorem kd_dict {C : Ct} {F : Hp} {ι : List Addr} {S : Store} {H : Hp} {d : D} {v : V} (rh : RH C F ι S H) (r : RelD C F ι d v) (e : kd S d = 2) : ∃ a, v = .ref a ∧ IsD H a := by
  unfold kd at e
  split at e
  · cases e
  · cases e
  · obtain ⟨a, o, vs, rfl, h1, _⟩ := r
    exact ⟨a, rfl, .inl ⟨vs, .inr ⟨o, rh.fz _ _ h1⟩⟩⟩
  · obtain ⟨a, ha, rfl⟩ := r
    obtain ⟨o, ho, q⟩ := rh.obj ha
    rw [ho] at e
    cases o with
    | lst xs => cases e
    | dic xs => obtain ⟨vs, h1, _⟩ := q; exact ⟨a, rfl, .inl ⟨vs, .inl h1⟩⟩
    | ins c fs => cases e
    | lockl xs => cases e
    | lockd xs => obtain ⟨o, vs, h1, _⟩ := q; exact ⟨a, rfl, .inl ⟨vs, .inr ⟨o, h1⟩⟩⟩
  · cases e
theorem dicD_kd {S : Store} {d : D} {kvs : List (Kd × B)} (e : dicD S d = some kvs) : kd S d = 2 := by
  unfold dicD at e
  split at e
  · rfl
  · rename_i n
    unfold kd
    dsimp only
    split at e
    · rename_i h
      rw [h]
    · rename_i h
      rw [h]
    · cases e
  · cases e
def MtRel (C : Ct) (b : Mt) (r : V → List V → Hp → VK → Prop) : Prop :=
  ∀ F ι S H x v ds vs d S' Q, RH C F ι S H → Fre F ι → RelD C F ι x v → RelDs C F ι ds vs → mt S b x ds = some (d, S') → Post C F ι S' d Q → r v vs H Q
theorem kd_ref {S : Store} {n : Nat} {xs : List B} (h : S[n]? = some (.lst xs)) : kd S (.ref n) = 1 := by
  unfold kd
  dsimp only
  rw [h]
theorem kd_refd {S : Store} {n : Nat} {xs : List (Kd × B)} (h : S[n]? = some (.dic xs)) : kd S (.ref n) = 2 := by
  unfold kd
  dsimp only
  rw [h]
/-- a list of the store changes, the answer is None -/
theorem set_post {C F ι S H} {n : Nat} {a : Addr} {xs ys : List B} {vs : List V} {Q : VK} {d : D} {w : V} {ws0 : List V} (rh : RH C F ι S H) (fr : Fre F ι) (ha : ι[n]? = some a) (r : RelBs C F ys vs) (rd : RelD C F ι d w) (post : Post C F ι (S.set n (.lst ys)) d Q) (h0 : H a = some (.lst ws0) := by assumption) : Q w (upd H a (.lst vs)) :=
  post.here (rh.set ha (fr.at ha) (fz_l h0) ⟨vs, upd_same, r⟩) fr rd
theorem setd_post {C F ι S H} {n : Nat} {a : Addr} {ys : List (Kd × B)} {vs : List (L2.Key × V)} {Q : VK} {d : D} {w : V} (rh : RH C F ι S H) (fr : Fre F ι) (ha : ι[n]? = some a) (r : RelBk C F ys vs) (rd : RelD C F ι d w) (post : Post C F ι (S.set n (.dic ys)) d Q) {ws0 : List (L2.Key × V)} (h0 : H a = some (.dK ws0) := by assumption) : Q w (upd H a (.dK vs)) :=
  post.here (rh.set ha (fr.at ha) (fz_d h0) ⟨vs, upd_same, r⟩) fr rd
section
variable {C : Ct}
theorem lst_of {F ι S H} {n : Nat} {a : Addr} {xs : List B} (rh : RH C F ι S H) (ha : ι[n]? = some a) (h : S[n]? = some (.lst xs)) : ∃ vs, H a = some (.lst vs) ∧ RelBs C F xs vs := by
  obtain ⟨o, ho, q⟩ := rh.obj ha
  rw [h] at ho
  cases ho
  exact q
theorem dic_of {F ι S H} {n : Nat} {a : Addr} {xs : List (Kd × B)} (rh : RH C F ι S H) (ha : ι[n]? = some a) (h : S[n]? = some (.dic xs)) : ∃ vs, H a = some (.dK vs) ∧ RelBk C F xs vs := by
  obtain ⟨o, ho, q⟩ := rh.obj ha
  rw [h] at ho
  cases ho
  exact q
/-- the method is one of lists -/
def MtK (b : Mt) : Prop := ∀ S x ds r, mt S b x ds = some r → kd S x = 1
theorem mk_append : MtK .append := by
  intro S x ds r e
  unfold mt at e
  split at e <;> rename_i he <;> try (cases he; done)
  · split at e
    · rename_i h
      exact kd_ref h
    · cases e
  · cases e
theorem mk_extend : MtK .extend := by
  intro S x ds r e
  unfold mt at e
  split at e <;> rename_i he <;> try (cases he; done)
  · split at e
    · rename_i h
      exact kd_ref h
    · cases e
  · cases e
theorem mk_pop : MtK .pop := by
  intro S x ds r e
  unfold mt at e
  split at e <;> rename_i he <;> try (cases he; done)
  · split at e
    · rename_i h
      exact kd_ref h
    · cases e
  · cases e
theorem mr_append : MtRel C .append rAppend := by
  intro F ι S H x v ds vs d S' Q rh fr rx rds e post
  unfold mt at e
  split at e <;> rename_i he <;> try (cases he; done)
  · split at e
    · rename_i xs h
      split at e
      · rename_i hz
        cases e
        obtain ⟨a, ha, rfl⟩ := rx
        obtain ⟨w, rfl, rw'⟩ := rds.one
        obtain ⟨ws, h1, h2⟩ := lst_of rh ha h
        refine ⟨a, ws, w, rfl, rfl, h1, ?_, set_post (xs := xs) rh fr ha (h2.append (RelBs.one rw')) (d := .b .non) rfl post⟩
        rw [← h2.length]
        exact Nat.lt_of_lt_of_le hz (SZ_le (Nat.le_refl _))
      · cases e
    · cases e
  · cases e
theorem mr_extend : MtRel C .extend rExtend := by
  intro F ι S H x v ds vs d S' Q rh fr rx rds e post
  unfold mt at e
  split at e <;> rename_i he <;> try (cases he; done)
  · split at e
    · rename_i xs h
      obtain ⟨ys, e1, e⟩ := Option.bind_eq_some_iff.mp e
      split at e
      · rename_i hz
        cases e
        obtain ⟨a, ha, rfl⟩ := rx
        obtain ⟨w, rfl, rw'⟩ := rds.one
        obtain ⟨ws, h1, h2⟩ := lst_of rh ha h
        obtain ⟨b, us, rfl, h3, h4⟩ := lstD_rel rh rw' e1
        refine ⟨a, b, ws, us, rfl, rfl, h1, h3, SZ_le (by rw [← h2.length, ← h4.length]; exact hz), set_post (xs := xs) rh fr ha (h2.append h4) (d := .b .non) rfl post⟩
      · cases e
    · cases e
  · cases e
theorem mr_pop : MtRel C .pop rPop := by
  intro F ι S H x v ds vs d S' Q rh fr rx rds e post
  unfold mt at e
  split at e <;> rename_i he <;> try (cases he; done)
  · split at e
    · rename_i xs h
      obtain ⟨y, e1, e⟩ := Option.map_eq_some_iff.mp e
      cases e
      obtain ⟨a, ha, rfl⟩ := rx
      cases (show vs = [] from rds)
      obtain ⟨ws, h1, h2⟩ := lst_of rh ha h
      obtain ⟨u, h3, h4⟩ := h2.get e1
      exact ⟨a, ws, u, rfl, rfl, h1, by rw [← h2.length]; exact h3, set_post (xs := xs) rh fr ha h2.dropLast (d := .b y) h4 post⟩
    · cases e
  · cases e
end
section
variable {X : Cx} {C : Ct} {P : Par} {cpos apos p : Pos} {o e f : Expr} {mo me' mf : E} {es : List Expr} {ms : List E} {name : PySem.Str} {id : String} {r : V → List V → Hp → VK → Prop}
theorem me_mtL (hK : C.K = X.K) (B : Mt) (mr : MtRel C B r) (mk : MtK B) (slot : Slot "list" name id) (hty : typeOf (.builtin id) = pure (.type "method_descriptor")) (hm : MtR X id r) (ho : ME X C P o mo) (ha : MA X C P (e :: es) ms)
    (hbase : attributeBase o name X.env (eval o X.env) = eval o X.env := by rfl)
    (hfew : ((backTo cpos (starEach (e :: es) X.env)).all (fun x => !x.1) && (backToKw cpos (keywordEach [] X.env)).all (fun x => x.1.isSome)
      && decide ((e :: es).length + ([] : List Keyword).length + (if ([] : List Keyword).isEmpty then 0 else 1) < 30)) = true := by rfl)
    (hline : (apos.endLine == cpos.line) = true := by rfl) (hs : starEach (e :: es) X.env = (false, eval e X.env) :: starEach es X.env := by rfl) (hplain : (backTo cpos (starEach es X.env)).any (·.1) = false := by rfl) :
    ME X C P (.Call (.Attribute o name apos) (e :: es) [] cpos) (.mt B mo ms) := by
  refine (pe_bm PySem.F.plainAttrs_list slot hty hm ho ha hbase hfew hline hs hplain).imp fun σ H Q h => ?_
  obtain ⟨F, ι, S, sl, d, S', rs, e, post⟩ := h
  unfold ev at e
  obtain ⟨⟨x, S1⟩, e1, e⟩ := Option.bind_eq_some_iff.mp e
  obtain ⟨⟨ds, S2⟩, e2, e⟩ := Option.bind_eq_some_iff.mp e
  dsimp only at e
  split at e
  · rename_i hk
    refine rs.one e1 fun F1 ι1 v H1 l1 r1 q1 => ⟨?_, r1.args e2 fun F2 ι2 vs H2 l2 r2 q2 => mr F2 ι2 S2 H2 x v ds vs d S' Q r2.rh r2.fr (q1.mono l2) q2 e (post.mono (l1.trans l2))⟩
    refine kd_list hK r1.rh q1 ?_
    rw [← hk]
    exact mk _ _ _ _ e
  · cases e
theorem me_append (hK : C.K = X.K) (ho : ME X C P o mo) (he : ME X C P e me')
    (hbase : attributeBase o "append" X.env (eval o X.env) = eval o X.env := by rfl)
    (hfew : ((backTo cpos (starEach [e] X.env)).all (fun x => !x.1) && (backToKw cpos (keywordEach [] X.env)).all (fun x => x.1.isSome)
      && decide ([e].length + ([] : List Keyword).length + (if ([] : List Keyword).isEmpty then 0 else 1) < 30)) = true := by rfl)
    (hline : (apos.endLine == cpos.line) = true := by rfl) (hs : starEach [e] X.env = (false, eval e X.env) :: starEach [] X.env := by rfl) : ME X C P (.Call (.Attribute o "append" apos) [e] [] cpos) (.mt .append mo [me']) :=
  me_mtL hK .append mr_append mk_append PySem.F.slot_list_append PySem.F.type_list_append mt_append ho (ma_cons he ma_nil hs) hbase hfew hline hs rfl
theorem me_extend (hK : C.K = X.K) (ho : ME X C P o mo) (he : ME X C P e me')
    (hbase : attributeBase o "extend" X.env (eval o X.env) = eval o X.env := by rfl)
    (hfew : ((backTo cpos (starEach [e] X.env)).all (fun x => !x.1) && (backToKw cpos (keywordEach [] X.env)).all (fun x => x.1.isSome)
      && decide ([e].length + ([] : List Keyword).length + (if ([] : List Keyword).isEmpty then 0 else 1) < 30)) = true := by rfl)
    (hline : (apos.endLine == cpos.line) = true := by rfl) (hs : starEach [e] X.env = (false, eval e X.env) :: starEach [] X.env := by rfl) : ME X C P (.Call (.Attribute o "extend" apos) [e] [] cpos) (.mt .extend mo [me']) :=
  me_mtL hK .extend mr_extend mk_extend PySem.F.slot_list_extend PySem.F.type_list_extend mt_extend ho (ma_cons he ma_nil hs) hbase hfew hline hs rfl
theorem me_pop (hK : C.K = X.K) (ho : ME X C P o mo) (hbase : attributeBase o "pop" X.env (eval o X.env) = eval o X.env := by rfl) (hline : (apos.endLine == cpos.line) = true := by rfl) : ME X C P (.Call (.Attribute o "pop" apos) [] [] cpos) (.mt .pop mo []) := by
  refine (pe_bm0 PySem.F.plainAttrs_list PySem.F.slot_list_pop PySem.F.type_list_pop mt_pop ho hbase hline).imp fun σ H Q h => ?_
  obtain ⟨F, ι, S, sl, d, S', rs, e, post⟩ := h
  unfold ev evs at e
  obtain ⟨⟨x, S1⟩, e1, e⟩ := Option.bind_eq_some_iff.mp e
  dsimp only [Option.bind_some] at e
  split at e
  · refine rs.one e1 fun F1 ι1 v H1 l1 r1 q1 => ⟨kd_list hK r1.rh q1 (mk_pop _ _ _ _ e), mr_pop F1 ι1 S1 H1 x v [] [] d S' Q r1.rh r1.fr q1 rfl e (post.mono l1)⟩
  · cases e
theorem clear_inv {S S' : Store} {x d : D} (e : mt S .clear x [] = some (d, S')) : ∃ n, x = .ref n ∧ d = .b .non ∧ ((∃ xs, S[n]? = some (.lst xs) ∧ S' = S.set n (.lst [])) ∨ ∃ xs, S[n]? = some (.dic xs) ∧ S' = S.set n (.dic [])) := by
  unfold mt at e
  split at e <;> try contradiction
  rename_i n _ _
  split at e
  · rename_i xs h
    cases e
    exact ⟨n, rfl, rfl, .inl ⟨xs, h, rfl⟩⟩
  · rename_i xs h
    cases e
    exact ⟨n, rfl, rfl, .inr ⟨xs, h, rfl⟩⟩
  · cases e
theorem me_clear (hK : C.K = X.K) (ho : ME X C P o mo) (hbase : attributeBase o "clear" X.env (eval o X.env) = eval o X.env := by rfl) (hline : (apos.endLine == cpos.line) = true := by rfl) : ME X C P (.Call (.Attribute o "clear" apos) [] [] cpos) (.mt .clear mo []) := by
  refine ((pe_bm0 PySem.F.plainAttrs_list PySem.F.slot_list_clear PySem.F.type_list_clear mt_clear ho hbase hline).or (pe_dclear ho hbase hline)).imp fun σ H Q h => ?_
  obtain ⟨F, ι, S, sl, d, S', rs, e, post⟩ := h
  unfold ev evs at e
  obtain ⟨⟨x, S1⟩, e1, e⟩ := Option.bind_eq_some_iff.mp e
  dsimp only [Option.bind_some] at e
  split at e
  · obtain ⟨n, rfl, rfl, ⟨xs, h, rfl⟩ | ⟨xs, h, rfl⟩⟩ := clear_inv e
    · refine .inl (rs.one e1 fun F1 ι1 v H1 l1 r1 q1 => ⟨kd_list hK r1.rh q1 (kd_ref h), ?_⟩)
      obtain ⟨a, ha, rfl⟩ := q1
      obtain ⟨ws, h1, h2⟩ := lst_of r1.rh ha h
      exact ⟨a, ws, rfl, rfl, h1, set_post (xs := xs) (ys := []) (d := .b .non) r1.rh r1.fr ha rfl rfl (post.mono l1)⟩
    · refine .inr (rs.one e1 fun F1 ι1 v H1 l1 r1 q1 => ?_)
      obtain ⟨a, ha, rfl⟩ := q1
      obtain ⟨ws, h1, h2⟩ := dic_of r1.rh ha h
      exact ⟨.inr (.inr (.inl ⟨rfl, .inl ⟨ws, h1⟩⟩)), a, ws, rfl, rfl, h1, setd_post (ys := []) (d := .b .non) r1.rh r1.fr ha rfl rfl (post.mono l1)⟩
  · cases e
/-! ### dicts -/
theorem dget_of {F ι S H} {x y : D} {v w : V} {kvs : List (Kd × B)} {k : Kd} (rh : RH C F ι S H) (rx : RelD C F ι x v) (ry : RelD C F ι y w) (e1 : dicD S x = some kvs) (e2 : keyD y = some k) :
    ∃ a ks j, v = .ref a ∧ Rd H a (.dK ks) ∧ w = kV j ∧ RelK C.N k j ∧ RelBk C F kvs ks := by
  obtain ⟨a, ks, rfl, h1, h2⟩ := dicD_rel rh rx e1
  cases y with
  | b yy =>
    obtain ⟨j, rk, rfl⟩ := keyB_rel (C := C) (F := F) e2 ry
    exact ⟨a, ks, j, rfl, h1, rfl, rk, h2⟩
  | ref n => cases e2
  | mix n => cases e2
theorem me_get1 (hu : X.A.units + 66 < cLine) (ho : ME X C P o mo) (he : ME X C P e me') (m : M1 X o "get" apos e cpos) : ME X C P (.Call (.Attribute o "get" apos) [e] [] cpos) (.mt .get1 mo [me']) := by
  refine (pe_dget1 (by omega) ho he m).imp fun σ H Q h => ?_
  obtain ⟨F, ι, S, sl, d, S', rs, e, post⟩ := h
  unfold ev evs evs at e
  obtain ⟨⟨x, S1⟩, e1, e⟩ := Option.bind_eq_some_iff.mp e
  obtain ⟨⟨ds, S2⟩, e2, e⟩ := Option.bind_eq_some_iff.mp e
  obtain ⟨⟨y, S3⟩, e3, e2⟩ := Option.bind_eq_some_iff.mp e2
  cases e2
  dsimp only at e
  split at e
  · rename_i hk
    have e' : ((dicD S3 x).bind fun kvs => (keyD y).map fun k => (match dget kvs k with
      | some v => (.b v, S3)
      | none => (.b .non, S3))) = some (d, S') := e
    obtain ⟨kvs, h1, e'⟩ := Option.bind_eq_some_iff.mp e'
    obtain ⟨k, h2, e'⟩ := Option.map_eq_some_iff.mp e'
    refine rs.one e1 fun F1 ι1 v H1 l1 r1 q1 => ?_
    obtain ⟨a, rfl, hd⟩ := kd_dict r1.rh q1 (by rw [← hk]; exact dicD_kd h1)
    refine ⟨a, rfl, hd, r1.one e3 fun F2 ι2 w H2 l2 r2 q2 => ?_⟩
    obtain ⟨a', ks, j, h3, h4, h5, h6, h7⟩ := dget_of r2.rh (q1.mono l2) q2 h1 h2
    cases h3
    have g := dget_rel h7 h6
    refine ⟨valV ks j, .inl ⟨ks, j, h4, h5, rfl⟩, ?_⟩
    cases hg : dget kvs k with
    | some b =>
      rw [hg] at g e'
      cases hv : valV ks j with
      | none => rw [hv] at g; exact g.elim
      | some u =>
        rw [hv] at g
        cases e'
        exact (post.mono (l1.trans l2)).here r2.rh r2.fr (d := .b b) g
    | none =>
      rw [hg] at g e'
      cases hv : valV ks j with
      | some u => rw [hv] at g; exact g.elim
      | none =>
        cases e'
        exact (post.mono (l1.trans l2)).here r2.rh r2.fr (d := .b .non) rfl
  · cases e
theorem me_get2 (hu : X.A.units + 66 < cLine) (ho : ME X C P o mo) (he : ME X C P e me') (hf : ME X C P f mf) (m : M2 X o "get" apos e f cpos) : ME X C P (.Call (.Attribute o "get" apos) [e, f] [] cpos) (.mt .get2 mo [me', mf]) := by
  refine (pe_dget2 (by omega) ho he hf m).imp fun σ H Q h => ?_
  obtain ⟨F, ι, S, sl, d, S', rs, e, post⟩ := h
  unfold ev evs evs evs at e
  obtain ⟨⟨x, S1⟩, e1, e⟩ := Option.bind_eq_some_iff.mp e
  obtain ⟨⟨ds, S2⟩, e2, e⟩ := Option.bind_eq_some_iff.mp e
  obtain ⟨⟨y, S3⟩, e3, e2⟩ := Option.bind_eq_some_iff.mp e2
  obtain ⟨⟨u, S4⟩, e4, e2⟩ := Option.map_eq_some_iff.mp e2
  obtain ⟨⟨z, S5⟩, e5, e4⟩ := Option.bind_eq_some_iff.mp e4
  cases e4
  cases e2
  dsimp only at e
  split at e
  · rename_i hk
    have e' : ((dicD S5 x).bind fun kvs => (keyD y).map fun k => (match dget kvs k with
      | some v => (.b v, S5)
      | none => (z, S5))) = some (d, S') := e
    obtain ⟨kvs, h1, e'⟩ := Option.bind_eq_some_iff.mp e'
    obtain ⟨k, h2, e'⟩ := Option.map_eq_some_iff.mp e'
    refine rs.one e1 fun F1 ι1 v H1 l1 r1 q1 => ?_
    obtain ⟨a, rfl, hd⟩ := kd_dict r1.rh q1 (by rw [← hk]; exact dicD_kd h1)
    refine ⟨a, rfl, hd, r1.one e3 fun F2 ι2 w H2 l2 r2 q2 => r2.one e5 fun F3 ι3 w3 H3 l3 r3 q3 => ?_⟩
    obtain ⟨a', ks, j, h3, h4, h5, h6, h7⟩ := dget_of r3.rh ((q1.mono l2).mono l3) (q2.mono l3) h1 h2
    cases h3
    have g := dget_rel h7 h6
    refine ⟨valV ks j, .inl ⟨ks, j, h4, h5, rfl⟩, ?_⟩
    cases hg : dget kvs k with
    | some b =>
      rw [hg] at g e'
      cases hv : valV ks j with
      | none => rw [hv] at g; exact g.elim
      | some u =>
        rw [hv] at g
        cases e'
        exact (post.mono ((l1.trans l2).trans l3)).here r3.rh r3.fr (d := .b b) g
    | none =>
      rw [hg] at g e'
      cases hv : valV ks j with
      | some u => rw [hv] at g; exact g.elim
      | none =>
        cases e'
        exact (post.mono ((l1.trans l2).trans l3)).here r3.rh r3.fr q3
  · cases e
theorem popi_inv {S S' : Store} {x y d : D} (e : mt S .popi x [y] = some (d, S')) : ∃ n b, x = .ref n ∧ y = .b b ∧ ((∃ xs i j z, S[n]? = some (.lst xs) ∧ b = .int i ∧ xs.length ≤ SZ ∧ ixN xs.length i = some j ∧ xs[j]? = some z ∧ d = .b z ∧ S' = S.set n (.lst (xs.eraseIdx j))) ∨
    ∃ kvs k z, S[n]? = some (.dic kvs) ∧ keyB b = some k ∧ dget kvs k = some z ∧ d = .b z ∧ S' = S.set n (.dic (ddrop kvs k))) := by
  unfold mt at e
  split at e <;> try contradiction
  rename_i n y _ hy
  cases hy
  split at e
  · rename_i xs h
    split at e
    · rename_i i
      split at e
      · rename_i hz
        obtain ⟨j, h1, e⟩ := Option.bind_eq_some_iff.mp e
        obtain ⟨y', h2, e⟩ := Option.map_eq_some_iff.mp e
        cases e
        exact ⟨n, _, rfl, rfl, .inl ⟨xs, i, j, y', h, rfl, hz, h1, h2, rfl, rfl⟩⟩
      · cases e
    · cases e
  · rename_i kvs h
    obtain ⟨k, h1, e⟩ := Option.bind_eq_some_iff.mp e
    obtain ⟨y', h2, e⟩ := Option.map_eq_some_iff.mp e
    cases e
    exact ⟨n, _, rfl, rfl, .inr ⟨kvs, k, y', h, h1, h2, rfl, rfl⟩⟩
  · cases e
theorem dget_at {F : Hp} {kvs : List (Kd × B)} {ks : List (L2.Key × V)} {k : Kd} {j : L2.Key} {b : B} (r : RelBk C F kvs ks) (rk : RelK C.N k j) (e : dget kvs k = some b) : ∃ v, valV ks j = some v ∧ RelB C F b v := by
  have g := dget_rel r rk
  rw [e] at g
  cases hv : valV ks j with
  | none => rw [hv] at g; exact g.elim
  | some u => rw [hv] at g; exact ⟨u, rfl, g⟩
theorem dget_no {F : Hp} {kvs : List (Kd × B)} {ks : List (L2.Key × V)} {k : Kd} {j : L2.Key} (r : RelBk C F kvs ks) (rk : RelK C.N k j) (e : dget kvs k = none) : valV ks j = none := by
  have g := dget_rel r rk
  rw [e] at g
  cases hv : valV ks j with
  | none => rfl
  | some u => rw [hv] at g; exact g.elim
theorem me_popi (hK : C.K = X.K) (ho : ME X C P o mo) (he : ME X C P e me') (m : M1 X o "pop" apos e cpos)
    (hs : starEach [e] X.env = (false, eval e X.env) :: starEach [] X.env := by rfl) : ME X C P (.Call (.Attribute o "pop" apos) [e] [] cpos) (.mt .popi mo [me']) := by
  refine ((pe_bm PySem.F.plainAttrs_list PySem.F.slot_list_pop PySem.F.type_list_pop mt_popAt ho (ma_cons he ma_nil hs) m.base m.few m.line hs rfl).or (pe_dpop1 ho he m)).imp fun σ H Q h => ?_
  obtain ⟨F, ι, S, sl, d, S', rs, e, post⟩ := h
  unfold ev at e
  obtain ⟨⟨x, S1⟩, e1, e⟩ := Option.bind_eq_some_iff.mp e
  obtain ⟨⟨ds, S2⟩, e2, e⟩ := Option.bind_eq_some_iff.mp e
  have e2' := e2
  unfold evs evs at e2'
  obtain ⟨⟨y, S3⟩, e3, e2'⟩ := Option.bind_eq_some_iff.mp e2'
  cases e2'
  dsimp only at e
  split at e
  · rename_i hk
    obtain ⟨n, b, rfl, rfl, ⟨xs, i, j, z, h, rfl, hz, h1, h2, rfl, rfl⟩ | ⟨kvs, k, z, h, h1, h2, rfl, rfl⟩⟩ := popi_inv e
    · refine .inl (rs.one e1 fun F1 ι1 v H1 l1 r1 q1 => ⟨kd_list hK r1.rh q1 (by rw [← hk]; exact kd_ref h), r1.args e2 fun F2 ι2 vs H2 l2 r2 q2 => ?_⟩)
      obtain ⟨a, ha, rfl⟩ := q1.mono l2
      obtain ⟨w, rfl, rw'⟩ := q2.one
      cases (show w = _ from rw')
      obtain ⟨ws, h3, h4⟩ := lst_of r2.rh ha h
      obtain ⟨u, h5, h6⟩ := h4.get h2
      obtain ⟨k1, k2, k3, k4⟩ := ixN_seq h1
      have hS : SZ = 16777216 := rfl
      exact ⟨a, ws, i, j, u, rfl, rfl, h3, by omega, by omega, by rw [← h4.length]; exact k1, h5, set_post (xs := xs) (d := .b z) r2.rh r2.fr ha (h4.erase j) h6 (post.mono (l1.trans l2))⟩
    · refine .inr (rs.one e1 fun F1 ι1 v H1 l1 r1 q1 => ?_)
      obtain ⟨a, rfl, hd⟩ := kd_dict r1.rh q1 (by rw [← hk]; exact kd_refd h)
      refine ⟨a, rfl, hd, r1.one e3 fun F2 ι2 w H2 l2 r2 q2 => ?_⟩
      obtain ⟨a', ha, ea⟩ := q1.mono l2
      cases ea
      obtain ⟨ws, h3, h4⟩ := dic_of r2.rh ha h
      obtain ⟨jj, rk, rfl⟩ := keyB_rel (C := C) (F := F2) h1 q2
      obtain ⟨u, h5, h6⟩ := dget_at h4 rk h2
      exact ⟨ws, jj, u, h3, rfl, h5, setd_post (d := .b z) r2.rh r2.fr ha (ddrop_rel h4 rk) h6 (post.mono (l1.trans l2))⟩
  · cases e
theorem popd_inv {S S' : Store} {x y w d : D} (e : mt S .popd x [y, w] = some (d, S')) : ∃ n b kvs k, x = .ref n ∧ y = .b b ∧ S[n]? = some (.dic kvs) ∧ keyB b = some k ∧ ((∃ z, dget kvs k = some z ∧ d = .b z ∧ S' = S.set n (.dic (ddrop kvs k))) ∨ (dget kvs k = none ∧ d = w ∧ S' = S)) := by
  unfold mt at e
  split at e <;> try contradiction
  rename_i n y z _ hy
  cases hy
  split at e
  · rename_i kvs h
    obtain ⟨k, h1, e⟩ := Option.map_eq_some_iff.mp e
    refine ⟨n, _, kvs, k, rfl, rfl, h, h1, ?_⟩
    split at e
    · rename_i v h2
      cases e
      exact .inl ⟨v, h2, rfl, rfl⟩
    · rename_i h2
      cases e
      exact .inr ⟨h2, rfl, rfl⟩
  · cases e
theorem me_popd (ho : ME X C P o mo) (he : ME X C P e me') (hf : ME X C P f mf) (m : M2 X o "pop" apos e f cpos) : ME X C P (.Call (.Attribute o "pop" apos) [e, f] [] cpos) (.mt .popd mo [me', mf]) := by
  refine (pe_dpop2 ho he hf m).imp fun σ H Q h => ?_
  obtain ⟨F, ι, S, sl, d, S', rs, e, post⟩ := h
  unfold ev evs evs evs at e
  obtain ⟨⟨x, S1⟩, e1, e⟩ := Option.bind_eq_some_iff.mp e
  obtain ⟨⟨ds, S2⟩, e2, e⟩ := Option.bind_eq_some_iff.mp e
  obtain ⟨⟨y, S3⟩, e3, e2⟩ := Option.bind_eq_some_iff.mp e2
  obtain ⟨⟨u, S4⟩, e4, e2⟩ := Option.map_eq_some_iff.mp e2
  obtain ⟨⟨z, S5⟩, e5, e4⟩ := Option.bind_eq_some_iff.mp e4
  cases e4
  cases e2
  dsimp only at e
  split at e
  · rename_i hk
    obtain ⟨n, b, kvs, k, rfl, rfl, h, h1, h2⟩ := popd_inv e
    refine rs.one e1 fun F1 ι1 v H1 l1 r1 q1 => ?_
    obtain ⟨a, rfl, hd⟩ := kd_dict r1.rh q1 (by rw [← hk]; exact kd_refd h)
    refine ⟨a, rfl, hd, r1.one e3 fun F2 ι2 w H2 l2 r2 q2 => r2.one e5 fun F3 ι3 w3 H3 l3 r3 q3 => ?_⟩
    obtain ⟨a', ha, ea⟩ := (q1.mono l2).mono l3
    cases ea
    obtain ⟨ws, h3, h4⟩ := dic_of r3.rh ha h
    obtain ⟨jj, rk, rfl⟩ := keyB_rel (C := C) (F := F3) h1 (RelB.mono l3.1 _ _ q2)
    refine ⟨ws, jj, h3, rfl, fun v hv => ?_, fun hv => ?_⟩
    · rcases h2 with ⟨z, h2, rfl, rfl⟩ | ⟨h2, rfl, rfl⟩
      · obtain ⟨u, h5, h6⟩ := dget_at h4 rk h2
        cases hv.symm.trans h5
        exact setd_post (d := .b z) r3.rh r3.fr ha (ddrop_rel h4 rk) h6 (post.mono ((l1.trans l2).trans l3))
      · rw [dget_no h4 rk h2] at hv
        cases hv
    · rcases h2 with ⟨z, h2, rfl, rfl⟩ | ⟨h2, rfl, rfl⟩
      · obtain ⟨u, h5, h6⟩ := dget_at h4 rk h2
        rw [h5] at hv
        cases hv
      · exact (post.mono ((l1.trans l2).trans l3)).here r3.rh r3.fr q3
  · cases e
end
end M
/-! MC10: what every step keeps: locked objects, no new references in old instances. -/
namespace M
structure Stp (b : Nat) (S S' : Store) : Prop where
  len : S.length ≤ S'.length
  lkl : ∀ (n : Nat) xs, S[n]? = some (O.lockl xs) → S'[n]? = some (O.lockl xs)
  lkd : ∀ (n : Nat) xs, S[n]? = some (O.lockd xs) → S'[n]? = some (O.lockd xs)
  cls : ∀ n, n < b → ∀ c fs, S'[n]? = some (O.ins c fs) → ∃ fs0, S[n]? = some (O.ins c fs0) ∧ ∀ p ∈ fs, p ∈ fs0 ∨ isB p.2 = true
section
variable {b : Nat} {S S' S2 : Store}
theorem Stp.refl : Stp b S S := ⟨Nat.le_refl _, fun _ _ h => h, fun _ _ h => h, fun n _ c fs h => ⟨fs, h, fun p hp => .inl hp⟩⟩
theorem Stp.trans (h : Stp b S S') (h' : Stp b S' S2) : Stp b S S2 := by
  refine ⟨Nat.le_trans h.len h'.len, fun n xs e => h'.lkl n xs (h.lkl n xs e), fun n xs e => h'.lkd n xs (h.lkd n xs e), fun n hn c fs e => ?_⟩
  obtain ⟨f1, e1, q1⟩ := h'.cls n hn c fs e
  obtain ⟨f0, e0, q0⟩ := h.cls n hn c f1 e1
  exact ⟨f0, e0, fun p hp => (q1 p hp).elim (q0 p) .inr⟩
theorem Stp.push (hb : b ≤ S.length) (o : O) : Stp b S (S ++ [o]) := by
  refine ⟨by simp, fun n xs e => ?_, fun n xs e => ?_, fun n hn c fs e => ?_⟩
  · rw [List.getElem?_append_left (List.getElem?_eq_some_iff.mp e).1]; exact e
  · rw [List.getElem?_append_left (List.getElem?_eq_some_iff.mp e).1]; exact e
  · rw [List.getElem?_append_left (by omega)] at e
    exact ⟨fs, e, fun p hp => .inl hp⟩
theorem Stp.set {n : Nat} {o o0 : O} (h0 : S[n]? = some o0) (h1 : ∀ xs, o0 ≠ .lockl xs) (h2 : ∀ xs, o0 ≠ .lockd xs) (h3 : n < b → ∀ c fs, o = .ins c fs → ∃ fs0, o0 = .ins c fs0 ∧ ∀ p ∈ fs, p ∈ fs0 ∨ isB p.2 = true) : Stp b S (S.set n o) := by
  refine ⟨by simp, fun m xs e => ?_, fun m xs e => ?_, fun m hm c fs e => ?_⟩
  · by_cases hn : n = m
    · subst hn
      rw [h0] at e
      cases e
      exact (h1 xs rfl).elim
    · rw [List.getElem?_set_ne hn]; exact e
  · by_cases hn : n = m
    · subst hn
      rw [h0] at e
      cases e
      exact (h2 xs rfl).elim
    · rw [List.getElem?_set_ne hn]; exact e
  · by_cases hn : n = m
    · subst hn
      rw [List.getElem?_set_self (List.getElem?_eq_some_iff.mp h0).1] at e
      cases e
      obtain ⟨f0, e1, q⟩ := h3 hm c fs rfl
      exact ⟨f0, e1 ▸ h0, q⟩
    · rw [List.getElem?_set_ne hn] at e
      exact ⟨fs, e, fun p hp => .inl hp⟩
theorem Stp.setl {n : Nat} {xs ys : List B} (h : S[n]? = some (.lst xs)) : Stp b S (S.set n (.lst ys)) := Stp.set h (fun _ z => nomatch z) (fun _ z => nomatch z) (fun _ _ _ z => nomatch z)
theorem Stp.setd {n : Nat} {xs ys : List (Kd × B)} (h : S[n]? = some (.dic xs)) : Stp b S (S.set n (.dic ys)) := Stp.set h (fun _ z => nomatch z) (fun _ z => nomatch z) (fun _ _ _ z => nomatch z)
theorem Stp.take (h : Stp b S S') : Stp b S (S'.take S.length) := by
  have hl := h.len
  refine ⟨by rw [List.length_take]; omega, fun n xs e => ?_, fun n xs e => ?_, fun n hn c fs e => ?_⟩
  · have := (List.getElem?_eq_some_iff.mp e).1
    rw [List.getElem?_take_of_lt this]; exact h.lkl n xs e
  · have := (List.getElem?_eq_some_iff.mp e).1
    rw [List.getElem?_take_of_lt this]; exact h.lkd n xs e
  · have := (List.getElem?_eq_some_iff.mp e).1
    rw [List.length_take] at this
    rw [List.getElem?_take_of_lt (by omega)] at e
    exact h.cls n hn c fs e
theorem Stp.newL {m : Bool} {xs : List B} {r : D × Store} (hb : b ≤ S.length) (e : newL S m xs = some r) : Stp b S r.2 := by
  unfold M.newL at e
  split at e
  · split at e <;> cases e
    · exact .push hb _
    · exact .refl
  · cases e
theorem Stp.newD {m : Bool} {xs : List (Kd × B)} {r : D × Store} (hb : b ≤ S.length) (e : newD S m xs = some r) : Stp b S r.2 := by
  unfold M.newD at e
  split at e
  · split at e <;> cases e
    · exact .push hb _
    · exact .refl
  · cases e
theorem Stp.pure {x : Option D} {r : D × Store} (e : pure' S x = some r) : Stp b S r.2 := by
  obtain ⟨d, h, e⟩ := Option.map_eq_some_iff.mp e
  cases e
  exact .refl
theorem Stp.bi {B : Bi} {m : Bool} {vs : List D} {r : D × Store} (hb : b ≤ S.length) (e : bi S B m vs = some r) : Stp b S r.2 := by
  unfold M.bi at e
  split at e
  all_goals try exact .pure e
  all_goals try (cases e; exact .refl)
  · split at e
    · split at e
      · obtain ⟨ns, e1, e⟩ := Option.bind_eq_some_iff.mp e
        exact .newL hb e
      · cases e
    · obtain ⟨ns, e1, e⟩ := Option.bind_eq_some_iff.mp e
      obtain ⟨ns, e1, e⟩ := Option.bind_eq_some_iff.mp e
      exact .newL hb e
  · obtain ⟨ns, e1, e⟩ := Option.bind_eq_some_iff.mp e
    obtain ⟨ns, e1, e⟩ := Option.bind_eq_some_iff.mp e
    split at e
    · exact .newL hb e
    · cases e
  · obtain ⟨ns, e1, e⟩ := Option.bind_eq_some_iff.mp e
    exact .newL hb e
  · split at e
    · exact .newD hb e
    · obtain ⟨ns, e1, e⟩ := Option.bind_eq_some_iff.mp e
      obtain ⟨ns, e1, e⟩ := Option.bind_eq_some_iff.mp e
      exact .newD hb e
  · cases e
theorem Stp.mt {B : Mt} {x : D} {vs : List D} {r : D × Store} (e : mt S B x vs = some r) : Stp b S r.2 := by
  unfold M.mt at e
  split at e
  · split at e
    · split at e
      · cases e; exact .setl ‹_›
      · cases e
    · cases e
  · split at e
    · obtain ⟨ys, e1, e⟩ := Option.bind_eq_some_iff.mp e
      split at e
      · cases e; exact .setl ‹_›
      · cases e
    · cases e
  · split at e
    · obtain ⟨y, e1, e⟩ := Option.map_eq_some_iff.mp e
      cases e
      exact .setl ‹_›
    · cases e
  · split at e
    · split at e
      · split at e
        · obtain ⟨y, e1, e⟩ := Option.bind_eq_some_iff.mp e
          obtain ⟨y, e1, e⟩ := Option.map_eq_some_iff.mp e
          cases e
          exact .setl ‹_›
        · cases e
      · cases e
    · obtain ⟨y, e1, e⟩ := Option.bind_eq_some_iff.mp e
      obtain ⟨y, e1, e⟩ := Option.map_eq_some_iff.mp e
      cases e
      exact .setd ‹_›
    · cases e
  · split at e
    · obtain ⟨y, e1, e⟩ := Option.map_eq_some_iff.mp e
      split at e
      · cases e; exact .setd ‹_›
      · cases e; exact .refl
    · cases e
  · obtain ⟨y, e1, e⟩ := Option.bind_eq_some_iff.mp e
    obtain ⟨y, e1, e⟩ := Option.map_eq_some_iff.mp e
    split at e <;> (cases e; exact .refl)
  · obtain ⟨y, e1, e⟩ := Option.bind_eq_some_iff.mp e
    obtain ⟨y, e1, e⟩ := Option.map_eq_some_iff.mp e
    split at e <;> (cases e; exact .refl)
  · split at e
    · cases e; exact .setl ‹_›
    · cases e; exact .setd ‹_›
    · cases e
  · split at e
    · obtain ⟨y, e1, e⟩ := Option.bind_eq_some_iff.mp e
      split at e
      · cases e; exact .setd ‹_›
      · cases e
    · cases e
  · split at e
    · split at e
      · cases e; exact .setl ‹_›
      · cases e
    · cases e
  · cases e
theorem fput_mem {f : Nat} {v : D} : ∀ {fs : List (Nat × D)} {p : Nat × D}, p ∈ fput f v fs → p ∈ fs ∨ p.2 = v
  | [], p, h => by
    unfold fput at h
    rw [List.mem_singleton] at h
    exact .inr (by rw [h])
  | (g, w) :: r, p, h => by
    unfold fput at h
    split at h
    · rcases List.mem_cons.mp h with h | h
      · exact .inr (by rw [h])
      · exact .inl (List.mem_cons_of_mem _ h)
    · rcases List.mem_cons.mp h with h | h
      · exact .inl (h ▸ List.mem_cons_self)
      · exact (fput_mem h).imp (List.mem_cons_of_mem _) id
theorem Stp.setf {fo : Nat → Nat → Bool} {base : Nat} {x : D} {f : Nat} {v : D} (hb : b ≤ base) (e : setf fo base S x f v = some S') : Stp b S S' := by
  unfold M.setf at e
  split at e
  · rename_i n
    split at e
    · rename_i c fs h
      split at e
      · rename_i hc
        cases e
        refine Stp.set h (fun _ z => nomatch z) (fun _ z => nomatch z) fun hn c' fs' ez => ?_
        cases ez
        refine ⟨fs, rfl, fun p hp => (fput_mem hp).imp id fun hv => ?_⟩
        rw [hv]
        simp at hc
        rcases hc.2.1 with h1 | h1
        · exact h1
        · omega
      · cases e
    · cases e
  · cases e
theorem Stp.seti {x i v : D} (e : seti S x i v = some S') : Stp b S S' := by
  unfold M.seti at e
  split at e
  · split at e
    · split at e
      · obtain ⟨y, e1, e⟩ := Option.map_eq_some_iff.mp e
        cases e
        exact .setl ‹_›
      · cases e
    · obtain ⟨y, e1, e⟩ := Option.bind_eq_some_iff.mp e
      split at e
      · cases e
        exact .setd ‹_›
      · cases e
    · cases e
  · cases e
/-! ### locks -/
theorem lock_at {x : D} (n : Nat) : (lock S x)[n]? = S[n]? ∨ (∃ xs, S[n]? = some (.lst xs) ∧ (lock S x)[n]? = some (.lockl xs)) ∨ ∃ xs, S[n]? = some (.dic xs) ∧ (lock S x)[n]? = some (.lockd xs) := by
  unfold lock
  split
  · rename_i m
    split
    · rename_i xs h
      by_cases hm : m = n
      · subst hm
        exact .inr (.inl ⟨xs, h, List.getElem?_set_self (List.getElem?_eq_some_iff.mp h).1⟩)
      · exact .inl (List.getElem?_set_ne hm)
    · rename_i xs h
      by_cases hm : m = n
      · subst hm
        exact .inr (.inr ⟨xs, h, List.getElem?_set_self (List.getElem?_eq_some_iff.mp h).1⟩)
      · exact .inl (List.getElem?_set_ne hm)
    · exact .inl rfl
  · exact .inl rfl
theorem lock_len (x : D) : (lock S x).length = S.length := by
  unfold lock
  split
  · split <;> simp
  · rfl
theorem lockAll_len : ∀ (ds : List D) (S : Store), (lockAll S ds).length = S.length
  | [], _ => rfl
  | x :: r, S => by
    unfold lockAll
    rw [lockAll_len r, lock_len]
theorem lockAll_at : ∀ (ds : List D) (S : Store) (n : Nat), (lockAll S ds)[n]? = S[n]? ∨ (∃ xs, S[n]? = some (.lst xs) ∧ (lockAll S ds)[n]? = some (.lockl xs)) ∨ ∃ xs, S[n]? = some (.dic xs) ∧ (lockAll S ds)[n]? = some (.lockd xs)
  | [], _, _ => .inl rfl
  | x :: r, S, n => by
    unfold lockAll
    rcases lockAll_at r (lock S x) n with h | ⟨xs, h, h2⟩ | ⟨xs, h, h2⟩
    · rw [h]; exact lock_at n
    · rcases lock_at (S := S) (x := x) n with g | ⟨ys, g, g2⟩ | ⟨ys, g, g2⟩
      · rw [g] at h; exact .inr (.inl ⟨xs, h, h2⟩)
      · rw [g2] at h; cases h
      · rw [g2] at h; cases h
    · rcases lock_at (S := S) (x := x) n with g | ⟨ys, g, g2⟩ | ⟨ys, g, g2⟩
      · rw [g] at h; exact .inr (.inr ⟨xs, h, h2⟩)
      · rw [g2] at h; cases h
      · rw [g2] at h; cases h
theorem unlock_stp {x : D} (hs : Stp b S S') (e : unlock S S' x = some S2) : Stp b S S2 := by
  unfold unlock at e
  split at e
  · rename_i m
    split at e
    · rename_i xs h
      split at e
      · rename_i ys h2
        cases e
        refine ⟨by rw [List.length_set]; exact hs.len, fun n zs g => ?_, fun n zs g => ?_, fun n hn c fs g => ?_⟩
        · have : m ≠ n := fun z => by subst z; rw [h] at g; cases g
          rw [List.getElem?_set_ne this]; exact hs.lkl n zs g
        · have : m ≠ n := fun z => by subst z; rw [h] at g; cases g
          rw [List.getElem?_set_ne this]; exact hs.lkd n zs g
        · by_cases hm : m = n
          · subst hm
            rw [List.getElem?_set_self (List.getElem?_eq_some_iff.mp h2).1] at g
            cases g
          · rw [List.getElem?_set_ne hm] at g
            exact hs.cls n hn c fs g
      · cases e
    · rename_i xs h
      split at e
      · rename_i ys h2
        cases e
        refine ⟨by rw [List.length_set]; exact hs.len, fun n zs g => ?_, fun n zs g => ?_, fun n hn c fs g => ?_⟩
        · have : m ≠ n := fun z => by subst z; rw [h] at g; cases g
          rw [List.getElem?_set_ne this]; exact hs.lkl n zs g
        · have : m ≠ n := fun z => by subst z; rw [h] at g; cases g
          rw [List.getElem?_set_ne this]; exact hs.lkd n zs g
        · by_cases hm : m = n
          · subst hm
            rw [List.getElem?_set_self (List.getElem?_eq_some_iff.mp h2).1] at g
            cases g
          · rw [List.getElem?_set_ne hm] at g
            exact hs.cls n hn c fs g
      · cases e
    · cases e
      exact hs
  · cases e
    exact hs
theorem unlockAll_stp : ∀ {ds : List D} {S' : Store}, Stp b S S' → unlockAll S S' ds = some S2 → Stp b S S2
  | [], _, hs, e => by
    cases e
    exact hs
  | x :: r, _, hs, e => by
    obtain ⟨S3, e1, e2⟩ := Option.bind_eq_some_iff.mp e
    exact unlockAll_stp (unlock_stp hs e1) e2
/-- what a walk keeps, from what its body keeps of the locked store -/
theorem Stp.walk {ds : List D} {S3 : Store} (h : Stp b (lockAll S ds) S') (e : unlockAll S S' ds = some S3) : Stp b S S3 := by
  refine unlockAll_stp ⟨by rw [← lockAll_len ds S]; exact h.len, fun n xs g => h.lkl n xs ?_, fun n xs g => h.lkd n xs ?_, fun n hn c fs g => ?_⟩ e
  · rcases lockAll_at ds S n with q | ⟨ys, q, _⟩ | ⟨ys, q, _⟩
    · rw [q]; exact g
    · rw [q] at g; cases g
    · rw [q] at g; cases g
  · rcases lockAll_at ds S n with q | ⟨ys, q, _⟩ | ⟨ys, q, _⟩
    · rw [q]; exact g
    · rw [q] at g; cases g
    · rw [q] at g; cases g
  · obtain ⟨f0, e0, q0⟩ := h.cls n hn c fs g
    rcases lockAll_at ds S n with q | ⟨ys, _, q⟩ | ⟨ys, _, q⟩
    · exact ⟨f0, q ▸ e0, q0⟩
    · rw [q] at e0; cases e0
    · rw [q] at e0; cases e0
end
/-! ### the machine -/
/-- what a call's function keeps -/
def CStp (C : Nat → Nat → List D → Store → Option (D × Store)) : Prop := ∀ base f ds S r, C base f ds S = some r → ∀ b, b ≤ base → b ≤ S.length → Stp b S r.2
theorem lcL_stp {b : Nat} {f : Sl → Store → Option (Option B × Store)} (hf : ∀ σ S r, f σ S = some r → b ≤ S.length → Stp b S r.2) (g : Pt) : ∀ (xs : List B) (σ : Sl) (S : Store) (r : List B × Store), lcL f g xs σ S = some r → b ≤ S.length → Stp b S r.2
  | [], _, _, _, e, _ => by
    cases e
    exact .refl
  | x :: xs, σ, S, r, e, hb => by
    obtain ⟨σ2, e1, e⟩ := Option.bind_eq_some_iff.mp e
    obtain ⟨p, e2, e⟩ := Option.bind_eq_some_iff.mp e
    obtain ⟨q, e3, e⟩ := Option.map_eq_some_iff.mp e
    have h1 := hf _ _ _ e2 hb
    have h2 := lcL_stp hf g xs σ _ q e3 (Nat.le_trans hb h1.len)
    have : r.2 = q.2 := by
      cases e
      split <;> rfl
    rw [this]
    exact h1.trans h2
theorem dcL_stp {b : Nat} {f : Sl → Store → Option (Option (Kd × B) × Store)} (hf : ∀ σ S r, f σ S = some r → b ≤ S.length → Stp b S r.2) (g : Pt) : ∀ (xs : List B) (σ : Sl) (S : Store) (a) (r : List (Kd × B) × Store), dcL f g xs σ S a = some r → b ≤ S.length → Stp b S r.2
  | [], _, _, _, _, e, _ => by
    cases e
    exact .refl
  | x :: xs, σ, S, a, r, e, hb => by
    obtain ⟨σ2, e1, e⟩ := Option.bind_eq_some_iff.mp e
    obtain ⟨p, e2, e⟩ := Option.bind_eq_some_iff.mp e
    have h1 := hf _ _ _ e2 hb
    exact h1.trans (dcL_stp hf g xs σ _ _ r e (Nat.le_trans hb h1.len))
section
variable {P : Par} (hC : CStp P.C) (hC2 : CStp P.C2)
include hC hC2
omit hC in
theorem eqE_stp {x y : B} {S : Store} {r : Bool × Store} (e : eqE P x y S = some r) (b : Nat) (h : b ≤ P.base) (hb : b ≤ S.length) : Stp b S r.2 := by
  unfold eqE at e
  split at e
  · cases e; exact .refl
  · split at e
    · split at e
      · obtain ⟨f, _, e⟩ := Option.bind_eq_some_iff.mp e
        obtain ⟨q, e2, e⟩ := Option.bind_eq_some_iff.mp e
        split at e
        · split at e
          · cases e; exact .refl
          · cases e
        · cases e
      · cases e
    · cases e
omit hC in
theorem eqL_stp : ∀ (xs ys : List B) (S : Store) (r : Bool × Store), eqL P xs ys S = some r → ∀ b, b ≤ P.base → b ≤ S.length → Stp b S r.2
  | [], [], S, r, e, b, h, hb => by cases e; exact .refl
  | [], _ :: _, S, r, e, b, h, hb => by cases e; exact .refl
  | _ :: _, [], S, r, e, b, h, hb => by cases e; exact .refl
  | x :: xs, y :: ys, S, r, e, b, h, hb => by
    unfold eqL at e
    obtain ⟨q, e1, e⟩ := Option.bind_eq_some_iff.mp e
    have h1 := eqE_stp hC2 e1 b h hb
    split at e
    · exact h1.trans (eqL_stp xs ys _ r e b h (Nat.le_trans hb h1.len))
    · cases e; exact h1
theorem eqo_stp {x y : D} {S : Store} {r : Bool × Store} (e : eqo P S x y = some r) (b : Nat) (h : b ≤ P.base) (hb : b ≤ S.length) : Stp b S r.2 := by
  unfold eqo at e
  split at e
  · split at e
    · obtain ⟨f, _, e⟩ := Option.bind_eq_some_iff.mp e
      obtain ⟨q, e2, e⟩ := Option.bind_eq_some_iff.mp e
      have h1 := hC _ _ _ _ _ e2 b h hb
      split at e
      · cases e; exact h1
      · cases e
    · cases e
  · split at e
    · cases e; exact .refl
    · split at e
      · exact eqL_stp hC2 _ _ _ _ e b h hb
      · cases e
  · obtain ⟨q, _, e⟩ := Option.map_eq_some_iff.mp e
    cases e
    exact .refl
mutual
theorem ev_stp : ∀ (m : E) (σ : Sl) (S : Store) (r : D × Store), ev P m σ S = some r → ∀ b, b ≤ P.base → b ≤ S.length → Stp b S r.2
  | .v i, σ, S, r, e, b, h, hb => by
    unfold ev at e
    split at e <;> cases e
    exact .refl
  | .k x, σ, S, r, e, b, h, hb => by cases e; exact .refl
  | .nop, σ, S, r, e, b, h, hb => by cases e; exact .refl
  | .nev, σ, S, r, e, b, h, hb => by cases e
  | .bin o a c, σ, S, r, e, b, h, hb => by
    unfold ev at e
    obtain ⟨x, e1, e⟩ := Option.bind_eq_some_iff.mp e
    obtain ⟨y, e2, e⟩ := Option.bind_eq_some_iff.mp e
    obtain ⟨z, e3, e⟩ := Option.map_eq_some_iff.mp e
    cases e
    have h1 := ev_stp a σ S x e1 b h hb
    exact h1.trans (ev_stp c σ _ y e2 b h (Nat.le_trans hb h1.len))
  | .cat a c, σ, S, r, e, b, h, hb => by
    unfold ev at e
    obtain ⟨x, e1, e⟩ := Option.bind_eq_some_iff.mp e
    obtain ⟨y, e2, e⟩ := Option.bind_eq_some_iff.mp e
    obtain ⟨z, e3, e⟩ := Option.bind_eq_some_iff.mp e
    obtain ⟨w, e4, e⟩ := Option.bind_eq_some_iff.mp e
    have h1 := ev_stp a σ S x e1 b h hb
    have h2 := ev_stp c σ _ y e2 b h (Nat.le_trans hb h1.len)
    exact h1.trans (h2.trans (.newL (Nat.le_trans hb (h1.trans h2).len) e))
  | .neg a, σ, S, r, e, b, h, hb => by
    unfold ev at e
    obtain ⟨x, e1, e⟩ := Option.bind_eq_some_iff.mp e
    split at e <;> cases e
    exact ev_stp a σ S x e1 b h hb
  | .inv a, σ, S, r, e, b, h, hb => by
    unfold ev at e
    obtain ⟨x, e1, e⟩ := Option.bind_eq_some_iff.mp e
    split at e <;> cases e
    exact ev_stp a σ S x e1 b h hb
  | .not a, σ, S, r, e, b, h, hb => by
    unfold ev at e
    obtain ⟨x, e1, e⟩ := Option.bind_eq_some_iff.mp e
    obtain ⟨c, e2, e⟩ := Option.map_eq_some_iff.mp e
    cases e
    exact ev_stp a σ S x e1 b h hb
  | .cmp o a c, σ, S, r, e, b, h, hb => by
    unfold ev at e
    obtain ⟨x, e1, e⟩ := Option.bind_eq_some_iff.mp e
    obtain ⟨y, e2, e⟩ := Option.bind_eq_some_iff.mp e
    obtain ⟨z, e3, e⟩ := Option.map_eq_some_iff.mp e
    cases e
    have h1 := ev_stp a σ S x e1 b h hb
    exact h1.trans (ev_stp c σ _ y e2 b h (Nat.le_trans hb h1.len))
  | .chn o p a c d, σ, S, r, e, b, h, hb => by
    unfold ev at e
    obtain ⟨x, e1, e⟩ := Option.bind_eq_some_iff.mp e
    obtain ⟨y, e2, e⟩ := Option.bind_eq_some_iff.mp e
    obtain ⟨z, e3, e⟩ := Option.bind_eq_some_iff.mp e
    have h1 := ev_stp a σ S x e1 b h hb
    have h2 := ev_stp c σ _ y e2 b h (Nat.le_trans hb h1.len)
    split at e
    · obtain ⟨w, e4, e⟩ := Option.bind_eq_some_iff.mp e
      obtain ⟨q, e5, e⟩ := Option.map_eq_some_iff.mp e
      cases e
      exact h1.trans (h2.trans (ev_stp d σ _ w e4 b h (Nat.le_trans hb (h1.trans h2).len)))
    · cases e
      exact h1.trans h2
  | .and a c, σ, S, r, e, b, h, hb => by
    unfold ev at e
    obtain ⟨x, e1, e⟩ := Option.bind_eq_some_iff.mp e
    obtain ⟨z, e3, e⟩ := Option.bind_eq_some_iff.mp e
    have h1 := ev_stp a σ S x e1 b h hb
    split at e
    · exact h1.trans (ev_stp c σ _ r e b h (Nat.le_trans hb h1.len))
    · cases e
      exact h1
  | .or a c, σ, S, r, e, b, h, hb => by
    unfold ev at e
    obtain ⟨x, e1, e⟩ := Option.bind_eq_some_iff.mp e
    obtain ⟨z, e3, e⟩ := Option.bind_eq_some_iff.mp e
    have h1 := ev_stp a σ S x e1 b h hb
    split at e
    · cases e
      exact h1
    · exact h1.trans (ev_stp c σ _ r e b h (Nat.le_trans hb h1.len))
  | .ite t a c, σ, S, r, e, b, h, hb => by
    unfold ev at e
    obtain ⟨x, e1, e⟩ := Option.bind_eq_some_iff.mp e
    obtain ⟨z, e3, e⟩ := Option.bind_eq_some_iff.mp e
    have h1 := ev_stp t σ S x e1 b h hb
    split at e
    · exact h1.trans (ev_stp a σ _ r e b h (Nat.le_trans hb h1.len))
    · exact h1.trans (ev_stp c σ _ r e b h (Nat.le_trans hb h1.len))
  | .tup es, σ, S, r, e, b, h, hb => by
    unfold ev at e
    obtain ⟨x, e1, e⟩ := Option.bind_eq_some_iff.mp e
    split at e <;> cases e
    exact evs_stp es σ S x e1 b h hb
  | .lst m es, σ, S, r, e, b, h, hb => by
    unfold ev at e
    obtain ⟨x, e1, e⟩ := Option.bind_eq_some_iff.mp e
    obtain ⟨z, e3, e⟩ := Option.bind_eq_some_iff.mp e
    have h1 := evs_stp es σ S x e1 b h hb
    exact h1.trans (.newL (Nat.le_trans hb h1.len) e)
  | .dnew m, σ, S, r, e, b, h, hb => .newD hb e
  | .dic es, σ, S, r, e, b, h, hb => by
    unfold ev at e
    obtain ⟨x, e1, e⟩ := Option.bind_eq_some_iff.mp e
    have h0 : Stp b S (S ++ [.dic []]) := .push hb _
    have h1 := evs_stp es σ _ x e1 b h (Nat.le_trans hb h0.len)
    split at e
    · rename_i hS
      obtain ⟨z, e3, e⟩ := Option.bind_eq_some_iff.mp e
      split at e <;> cases e
      exact h0.trans (h1.trans (.setd hS))
    · cases e
  | .idx a i, σ, S, r, e, b, h, hb => by
    unfold ev at e
    obtain ⟨x, e1, e⟩ := Option.bind_eq_some_iff.mp e
    obtain ⟨y, e2, e⟩ := Option.bind_eq_some_iff.mp e
    obtain ⟨z, e3, e⟩ := Option.map_eq_some_iff.mp e
    cases e
    have h1 := ev_stp a σ S x e1 b h hb
    exact h1.trans (ev_stp i σ _ y e2 b h (Nat.le_trans hb h1.len))
  | .slc a l u, σ, S, r, e, b, h, hb => by
    unfold ev at e
    obtain ⟨x, e1, e⟩ := Option.bind_eq_some_iff.mp e
    obtain ⟨y, e2, e⟩ := Option.bind_eq_some_iff.mp e
    obtain ⟨z, e3, e⟩ := Option.bind_eq_some_iff.mp e
    obtain ⟨w, e4, e⟩ := Option.map_eq_some_iff.mp e
    cases e
    have h1 := ev_stp a σ S x e1 b h hb
    have h2 := h1.trans (ev_stp l σ _ y e2 b h (Nat.le_trans hb h1.len))
    exact h2.trans (ev_stp u σ _ z e3 b h (Nat.le_trans hb h2.len))
  | .rev a, σ, S, r, e, b, h, hb => by
    unfold ev at e
    obtain ⟨x, e1, e⟩ := Option.bind_eq_some_iff.mp e
    obtain ⟨c, e2, e⟩ := Option.map_eq_some_iff.mp e
    cases e
    exact ev_stp a σ S x e1 b h hb
  | .att a f, σ, S, r, e, b, h, hb => by
    unfold ev at e
    obtain ⟨x, e1, e⟩ := Option.bind_eq_some_iff.mp e
    obtain ⟨c, e2, e⟩ := Option.map_eq_some_iff.mp e
    cases e
    exact ev_stp a σ S x e1 b h hb
  | .call f es, σ, S, r, e, b, h, hb => by
    unfold ev at e
    obtain ⟨x, e1, e⟩ := Option.bind_eq_some_iff.mp e
    have h1 := evs_stp es σ S x e1 b h hb
    exact h1.trans (hC _ _ _ _ _ e b h (Nat.le_trans hb h1.len))
  | .meth o m es, σ, S, r, e, b, h, hb => by
    unfold ev at e
    obtain ⟨x, e1, e⟩ := Option.bind_eq_some_iff.mp e
    obtain ⟨c, e3, e⟩ := Option.bind_eq_some_iff.mp e
    obtain ⟨f, e4, e⟩ := Option.bind_eq_some_iff.mp e
    obtain ⟨y, e2, e⟩ := Option.bind_eq_some_iff.mp e
    have h1 := ev_stp o σ S x e1 b h hb
    have h2 := h1.trans (evs_stp es σ _ y e2 b h (Nat.le_trans hb h1.len))
    exact h2.trans (hC _ _ _ _ _ e b h (Nat.le_trans hb h2.len))
  | .make c es, σ, S, r, e, b, h, hb => by
    unfold ev at e
    obtain ⟨x, e1, e⟩ := Option.bind_eq_some_iff.mp e
    obtain ⟨q, e2, e⟩ := Option.bind_eq_some_iff.mp e
    have h1 := evs_stp es σ S x e1 b h hb
    have hl := Nat.le_trans hb h1.len
    have h2 : Stp b x.2 (x.2 ++ [.ins c []]) := .push hl _
    split at e
    · obtain ⟨y, e3, e⟩ := Option.bind_eq_some_iff.mp e
      split at e
      · obtain ⟨z, e4, e⟩ := Option.map_eq_some_iff.mp e
        cases e
        exact h1.trans (h2.trans (hC2 _ _ _ _ _ e3 b hl (Nat.le_trans hl h2.len))).take
      · cases e
    · obtain ⟨y, e3, e⟩ := Option.bind_eq_some_iff.mp e
      split at e <;> cases e
      exact h1.trans (h2.trans (hC2 _ _ _ _ _ e3 b h (Nat.le_trans hl h2.len)))
  | .bi B m es, σ, S, r, e, b, h, hb => by
    unfold ev at e
    obtain ⟨x, e1, e⟩ := Option.bind_eq_some_iff.mp e
    have h1 := evs_stp es σ S x e1 b h hb
    exact h1.trans (.bi (Nat.le_trans hb h1.len) e)
  | .mt B o es, σ, S, r, e, b, h, hb => by
    unfold ev at e
    obtain ⟨x, e1, e⟩ := Option.bind_eq_some_iff.mp e
    obtain ⟨y, e2, e⟩ := Option.bind_eq_some_iff.mp e
    have h1 := ev_stp o σ S x e1 b h hb
    have h2 := h1.trans (evs_stp es σ _ y e2 b h (Nat.le_trans hb h1.len))
    split at e
    · exact h2.trans (.mt e)
    · cases e
  | .lc m g k es t a w, σ, S, r, e, b, h, hb => by
    unfold ev at e
    obtain ⟨x, e1, e⟩ := Option.bind_eq_some_iff.mp e
    obtain ⟨xs, e2, e⟩ := Option.bind_eq_some_iff.mp e
    have h1 := evs_stp es σ S x e1 b h hb
    have hl := Nat.le_trans hb h1.len
    split at e
    · obtain ⟨q, e3, e⟩ := Option.bind_eq_some_iff.mp e
      obtain ⟨S3, e4, e⟩ := Option.bind_eq_some_iff.mp e
      have h2 := lcL_stp (b := b) (fun σ2 S2 r2 e hb2 => by
        obtain ⟨c, e1, e⟩ := Option.bind_eq_some_iff.mp e
        obtain ⟨c1, e2, e⟩ := Option.bind_eq_some_iff.mp e
        have g1 := ev_stp t σ2 S2 c e1 b h hb2
        split at e
        · obtain ⟨y, e3, e⟩ := Option.bind_eq_some_iff.mp e
          obtain ⟨z, e4, e⟩ := Option.map_eq_some_iff.mp e
          cases e
          have g2 := g1.trans (ev_stp a σ2 _ y e3 b h (Nat.le_trans hb2 g1.len))
          obtain ⟨d, S4⟩ := y
          cases d <;> try (cases e4; done)
          cases e4
          exact g2
        · cases e
          exact g1) g xs _ _ q e3 (by rw [lockAll_len]; exact hl)
      have h3 := h1.trans (Stp.walk h2 e4)
      exact h3.trans (.newL (Nat.le_trans hb h3.len) e)
    · cases e
  | .dc m g k es t ke a w, σ, S, r, e, b, h, hb => by
    unfold ev at e
    obtain ⟨x, e1, e⟩ := Option.bind_eq_some_iff.mp e
    obtain ⟨xs, e2, e⟩ := Option.bind_eq_some_iff.mp e
    have h1 := evs_stp es σ S x e1 b h hb
    have hl := Nat.le_trans hb h1.len
    split at e
    · obtain ⟨q, e3, e⟩ := Option.bind_eq_some_iff.mp e
      obtain ⟨S3, e4, e⟩ := Option.bind_eq_some_iff.mp e
      have h2 := dcL_stp (b := b) (fun σ2 S2 r2 e hb2 => by
        obtain ⟨c, e1, e⟩ := Option.bind_eq_some_iff.mp e
        obtain ⟨c1, e2, e⟩ := Option.bind_eq_some_iff.mp e
        have g1 := ev_stp t σ2 S2 c e1 b h hb2
        split at e
        · obtain ⟨u, e5, e⟩ := Option.bind_eq_some_iff.mp e
          obtain ⟨kk, e6, e⟩ := Option.bind_eq_some_iff.mp e
          obtain ⟨y, e3, e⟩ := Option.bind_eq_some_iff.mp e
          obtain ⟨z, e4, e⟩ := Option.map_eq_some_iff.mp e
          cases e
          have g2 := g1.trans (ev_stp ke σ2 _ u e5 b h (Nat.le_trans hb2 g1.len))
          have g3 := g2.trans (ev_stp a σ2 _ y e3 b h (Nat.le_trans hb2 g2.len))
          obtain ⟨d, S4⟩ := y
          cases d <;> try (cases e4; done)
          cases e4
          exact g3
        · cases e
          exact g1) g xs _ _ _ q e3 (by rw [lockAll_len]; exact hl)
      have h3 := h1.trans (Stp.walk h2 e4)
      exact h3.trans (.newD (Nat.le_trans hb h3.len) e)
    · cases e
  | .pick es i, σ, S, r, e, b, h, hb => by
    unfold ev at e
    obtain ⟨x, e1, e⟩ := Option.bind_eq_some_iff.mp e
    obtain ⟨y, e2, e⟩ := Option.bind_eq_some_iff.mp e
    have h1 := evs_stp es σ S x e1 b h hb
    have h2 := h1.trans (ev_stp i σ _ y e2 b h (Nat.le_trans hb h1.len))
    split at e
    · split at e
      · obtain ⟨z, e3, e⟩ := Option.map_eq_some_iff.mp e
        cases e
        exact h2
      · cases e
    · cases e
  | .lkd i a, σ, S, r, e, b, h, hb => by
    unfold ev at e
    split at e
    · split at e
      · obtain ⟨q, e1, e⟩ := Option.bind_eq_some_iff.mp e
        obtain ⟨S3, e2, e⟩ := Option.map_eq_some_iff.mp e
        cases e
        exact Stp.walk (ev_stp a σ _ q e1 b h (by rw [lockAll_len]; exact hb)) e2
      · exact ev_stp a σ S r e b h hb
    · exact ev_stp a σ S r e b h hb
  | .fz a, σ, S, r, e, b, h, hb => by
    unfold ev at e
    obtain ⟨q, e1, e⟩ := Option.bind_eq_some_iff.mp e
    split at e
    · obtain ⟨z, e2, e⟩ := Option.map_eq_some_iff.mp e
      cases e
      exact (ev_stp a σ S q e1 b h hb).take
    · cases e
  | .eqo x y, σ, S, r, e, b, h, hb => by
    unfold ev at e
    obtain ⟨p, e1, e⟩ := Option.bind_eq_some_iff.mp e
    obtain ⟨q, e2, e⟩ := Option.bind_eq_some_iff.mp e
    obtain ⟨z, e3, e⟩ := Option.map_eq_some_iff.mp e
    cases e
    have h1 := ev_stp x σ S p e1 b h hb
    have h2 := h1.trans (ev_stp y σ _ q e2 b h (Nat.le_trans hb h1.len))
    exact h2.trans (eqo_stp hC hC2 e3 b h (Nat.le_trans hb h2.len))
  | .isc c x, σ, S, r, e, b, h, hb => by
    unfold ev at e
    obtain ⟨p, e1, e⟩ := Option.bind_eq_some_iff.mp e
    obtain ⟨z, e3, e⟩ := Option.map_eq_some_iff.mp e
    cases e
    exact ev_stp x σ S p e1 b h hb
  | .revt x, σ, S, r, e, b, h, hb => by
    unfold ev at e
    obtain ⟨p, e1, e⟩ := Option.bind_eq_some_iff.mp e
    split at e
    · cases e
      exact ev_stp x σ S p e1 b h hb
    · cases e
termination_by structural x => x
theorem evs_stp : ∀ (m : List E) (σ : Sl) (S : Store) (r : List D × Store), evs P m σ S = some r → ∀ b, b ≤ P.base → b ≤ S.length → Stp b S r.2
  | [], σ, S, r, e, b, h, hb => by cases e; exact .refl
  | m :: ms, σ, S, r, e, b, h, hb => by
    unfold evs at e
    obtain ⟨x, e1, e⟩ := Option.bind_eq_some_iff.mp e
    obtain ⟨y, e2, e⟩ := Option.map_eq_some_iff.mp e
    cases e
    have h1 := ev_stp m σ S x e1 b h hb
    exact h1.trans (evs_stp ms σ _ y e2 b h (Nat.le_trans hb h1.len))
termination_by structural x => x
end
/-! ### statements -/
omit hC hC2 in
theorem whileL_stp {b : Nat} {t : Sl → Store → Option (Bool × Store)} {f : Sl → Store → Rs} (ht : ∀ σ S r, t σ S = some r → b ≤ S.length → Stp b S r.2) (hf : ∀ σ S r, f σ S = some r → b ≤ S.length → Stp b S r.2.2) :
    ∀ (n : Nat) (σ : Sl) (S : Store) r, whileL t f n σ S = some r → b ≤ S.length → Stp b S r.2.2
  | 0, _, _, _, e, _ => by cases e
  | n + 1, σ, S, r, e, hb => by
    obtain ⟨c, e1, e⟩ := Option.bind_eq_some_iff.mp e
    have h1 := ht _ _ _ e1 hb
    split at e
    · obtain ⟨q, e2, e⟩ := Option.bind_eq_some_iff.mp e
      have h2 := h1.trans (hf _ _ _ e2 (Nat.le_trans hb h1.len))
      split at e
      · cases e
        exact h2
      · exact h2.trans (whileL_stp ht hf n _ _ r e (Nat.le_trans hb h2.len))
    · cases e
      exact h1
omit hC hC2 in
theorem forL_stp {b : Nat} {f : Sl → Store → Rs} (hf : ∀ σ S r, f σ S = some r → b ≤ S.length → Stp b S r.2.2) (g : Pt) : ∀ (xs : List B) (σ : Sl) (S : Store) r, forL f g xs σ S = some r → b ≤ S.length → Stp b S r.2.2
  | [], _, _, _, e, _ => by
    cases e
    exact .refl
  | x :: xs, σ, S, r, e, hb => by
    obtain ⟨σ2, e1, e⟩ := Option.bind_eq_some_iff.mp e
    obtain ⟨q, e2, e⟩ := Option.bind_eq_some_iff.mp e
    have h1 := hf _ _ _ e2 hb
    split at e
    · cases e
      exact h1
    · exact h1.trans (forL_stp hf g xs _ _ r e (Nat.le_trans hb h1.len))
mutual
theorem exec_stp : ∀ (m : St) (σ : Sl) (S : Store) r, exec P m σ S = some r → ∀ b, b ≤ P.base → b ≤ S.length → Stp b S r.2.2
  | .set i a, σ, S, r, e, b, h, hb => by
    unfold exec at e
    obtain ⟨x, e1, e⟩ := Option.map_eq_some_iff.mp e
    cases e
    exact ev_stp hC hC2 a σ S x e1 b h hb
  | .unp is a, σ, S, r, e, b, h, hb => by
    unfold exec at e
    obtain ⟨x, e1, e⟩ := Option.bind_eq_some_iff.mp e
    obtain ⟨y, e2, e⟩ := Option.map_eq_some_iff.mp e
    cases e
    exact ev_stp hC hC2 a σ S x e1 b h hb
  | .aug i o a, σ, S, r, e, b, h, hb => by
    unfold exec at e
    split at e
    · obtain ⟨x, e1, e⟩ := Option.bind_eq_some_iff.mp e
      split at e
      · obtain ⟨y, e2, e⟩ := Option.map_eq_some_iff.mp e
        cases e
        exact ev_stp hC hC2 a σ S x e1 b h hb
      · cases e
    · cases e
  | .seti o i a, σ, S, r, e, b, h, hb => by
    unfold exec at e
    obtain ⟨x, e1, e⟩ := Option.bind_eq_some_iff.mp e
    obtain ⟨y, e2, e⟩ := Option.bind_eq_some_iff.mp e
    obtain ⟨z, e3, e⟩ := Option.bind_eq_some_iff.mp e
    obtain ⟨w, e4, e⟩ := Option.map_eq_some_iff.mp e
    cases e
    have h1 := ev_stp hC hC2 a σ S x e1 b h hb
    have h2 := h1.trans (ev_stp hC hC2 o σ _ y e2 b h (Nat.le_trans hb h1.len))
    have h3 := h2.trans (ev_stp hC hC2 i σ _ z e3 b h (Nat.le_trans hb h2.len))
    exact h3.trans (.seti e4)
  | .augi o i p a, σ, S, r, e, b, h, hb => by
    unfold exec at e
    obtain ⟨x, e1, e⟩ := Option.bind_eq_some_iff.mp e
    obtain ⟨y, e2, e⟩ := Option.bind_eq_some_iff.mp e
    obtain ⟨z, e3, e⟩ := Option.bind_eq_some_iff.mp e
    obtain ⟨w, e4, e⟩ := Option.bind_eq_some_iff.mp e
    have h1 := ev_stp hC hC2 o σ S x e1 b h hb
    have h2 := h1.trans (ev_stp hC hC2 i σ _ y e2 b h (Nat.le_trans hb h1.len))
    have h3 := h2.trans (ev_stp hC hC2 a σ _ w e4 b h (Nat.le_trans hb h2.len))
    split at e
    · obtain ⟨q, e5, e⟩ := Option.bind_eq_some_iff.mp e
      obtain ⟨q2, e6, e⟩ := Option.map_eq_some_iff.mp e
      cases e
      exact h3.trans (.seti e6)
    · cases e
  | .setf o f a, σ, S, r, e, b, h, hb => by
    unfold exec at e
    obtain ⟨x, e1, e⟩ := Option.bind_eq_some_iff.mp e
    obtain ⟨y, e2, e⟩ := Option.bind_eq_some_iff.mp e
    obtain ⟨z, e3, e⟩ := Option.map_eq_some_iff.mp e
    cases e
    have h1 := ev_stp hC hC2 a σ S x e1 b h hb
    have h2 := h1.trans (ev_stp hC hC2 o σ _ y e2 b h (Nat.le_trans hb h1.len))
    exact h2.trans (.setf h e3)
  | .augf o f p a, σ, S, r, e, b, h, hb => by
    unfold exec at e
    obtain ⟨x, e1, e⟩ := Option.bind_eq_some_iff.mp e
    obtain ⟨y, e2, e⟩ := Option.bind_eq_some_iff.mp e
    obtain ⟨z, e3, e⟩ := Option.bind_eq_some_iff.mp e
    have h1 := ev_stp hC hC2 o σ S x e1 b h hb
    have h2 := h1.trans (ev_stp hC hC2 a σ _ z e3 b h (Nat.le_trans hb h1.len))
    split at e
    · split at e
      · obtain ⟨q, e5, e⟩ := Option.bind_eq_some_iff.mp e
        obtain ⟨q2, e6, e⟩ := Option.map_eq_some_iff.mp e
        cases e
        exact h2.trans (.setf h e6)
      · cases e
    · cases e
  | .iff t a c, σ, S, r, e, b, h, hb => by
    unfold exec at e
    obtain ⟨x, e1, e⟩ := Option.bind_eq_some_iff.mp e
    obtain ⟨y, e2, e⟩ := Option.bind_eq_some_iff.mp e
    have h1 := ev_stp hC hC2 t σ S x e1 b h hb
    split at e
    · exact h1.trans (execs_stp a σ _ r e b h (Nat.le_trans hb h1.len))
    · exact h1.trans (execs_stp c σ _ r e b h (Nat.le_trans hb h1.len))
  | .whl t a, σ, S, r, e, b, h, hb => by
    unfold exec at e
    refine whileL_stp (fun σ2 S2 r2 e hb2 => ?_) (fun σ2 S2 r2 e hb2 => execs_stp a σ2 S2 r2 e b h hb2) WF σ S r e hb
    obtain ⟨x, e1, e⟩ := Option.bind_eq_some_iff.mp e
    obtain ⟨y, e2, e⟩ := Option.map_eq_some_iff.mp e
    cases e
    exact ev_stp hC hC2 t σ2 S2 x e1 b h hb2
  | .for g k es a, σ, S, r, e, b, h, hb => by
    unfold exec at e
    obtain ⟨x, e1, e⟩ := Option.bind_eq_some_iff.mp e
    obtain ⟨y, e2, e⟩ := Option.bind_eq_some_iff.mp e
    obtain ⟨z, e3, e⟩ := Option.bind_eq_some_iff.mp e
    obtain ⟨w, e4, e⟩ := Option.map_eq_some_iff.mp e
    cases e
    have h1 := evs_stp hC hC2 es σ S x e1 b h hb
    have h2 := forL_stp (b := b) (fun σ2 S2 r2 e hb2 => execs_stp a σ2 S2 r2 e b h hb2) g _ _ _ z e3 (by rw [lockAll_len]; exact Nat.le_trans hb h1.len)
    exact h1.trans (Stp.walk h2 e4)
  | .ret a, σ, S, r, e, b, h, hb => by
    unfold exec at e
    obtain ⟨x, e1, e⟩ := Option.map_eq_some_iff.mp e
    cases e
    exact ev_stp hC hC2 a σ S x e1 b h hb
  | .retn, σ, S, r, e, b, h, hb => by cases e; exact .refl
  | .ex a, σ, S, r, e, b, h, hb => by
    unfold exec at e
    obtain ⟨x, e1, e⟩ := Option.map_eq_some_iff.mp e
    cases e
    exact ev_stp hC hC2 a σ S x e1 b h hb
  | .cont, σ, S, r, e, b, h, hb => by cases e; exact .refl
  | .blk i c, σ, S, r, e, b, h, hb => by
    unfold exec at e
    obtain ⟨⟨f, σ2, S2⟩, e1, e⟩ := Option.bind_eq_some_iff.mp e
    have hs := execs_stp c σ S _ e1 b h hb
    cases f <;> try (cases e; done)
    dsimp only at e
    split at e
    · split at e
      · obtain ⟨y, e2, e⟩ := Option.map_eq_some_iff.mp e
        cases e
        exact hs.take
      · cases e
    · cases e
  | .lks i m, σ, S, r, e, b, h, hb => by
    unfold exec at e
    split at e
    · split at e
      · obtain ⟨q, e1, e⟩ := Option.bind_eq_some_iff.mp e
        obtain ⟨S3, e2, e⟩ := Option.map_eq_some_iff.mp e
        cases e
        exact Stp.walk (exec_stp m σ _ q e1 b h (by rw [lockAll_len]; exact hb)) e2
      · exact exec_stp m σ S r e b h hb
    · exact exec_stp m σ S r e b h hb
termination_by structural x => x
theorem execs_stp : ∀ (m : List St) (σ : Sl) (S : Store) r, execs P m σ S = some r → ∀ b, b ≤ P.base → b ≤ S.length → Stp b S r.2.2
  | [], σ, S, r, e, b, h, hb => by cases e; exact .refl
  | m :: ms, σ, S, r, e, b, h, hb => by
    unfold execs at e
    obtain ⟨x, e1, e⟩ := Option.bind_eq_some_iff.mp e
    have h1 := exec_stp m σ S x e1 b h hb
    split at e
    · exact h1.trans (execs_stp ms _ _ r e b h (Nat.le_trans hb h1.len))
    · cases e
      exact h1
termination_by structural x => x
end
end
theorem fin_stp {val : Bool} {b base : Nat} {d : D} {S S' : Store} {r : D × Store} (hs : Stp b S S') (e : fin val S.length d S' = some r) : Stp b S r.2 := by
  unfold fin at e
  split at e
  · obtain ⟨y, e1, e⟩ := Option.map_eq_some_iff.mp e
    cases e
    exact hs.take
  · cases e
    exact hs
theorem evC_stp (T : Tab) : ∀ k, CStp (evC T k)
  | 0 => fun _ _ _ _ _ e => by cases e
  | 1 => fun base f ds S r e b h hb => by
    unfold evC at e
    obtain ⟨fd, e1, e⟩ := Option.bind_eq_some_iff.mp e
    split at e
    · obtain ⟨q, e2, e⟩ := Option.bind_eq_some_iff.mp e
      have hs := execs_stp (P := ⟨evC T 0, fun _ _ _ _ => none, T.init, T.meth, T.fo, if fd.val then S.length else base, T.eqm⟩) (evC_stp T 0) (fun _ _ _ _ _ e => by cases e) fd.body _ S q e2 b (by dsimp only; split <;> omega) hb
      split at e
      · exact fin_stp (base := base) hs e
      · exact fin_stp (base := base) hs e
      · cases e
    · cases e
  | k + 2 => fun base f ds S r e b h hb => by
    unfold evC at e
    obtain ⟨fd, e1, e⟩ := Option.bind_eq_some_iff.mp e
    split at e
    · obtain ⟨q, e2, e⟩ := Option.bind_eq_some_iff.mp e
      have hs := execs_stp (P := ⟨evC T (k + 1), evC T k, T.init, T.meth, T.fo, if fd.val then S.length else base, T.eqm⟩) (evC_stp T (k + 1)) (evC_stp T k) fd.body _ S q e2 b (by dsimp only; split <;> omega) hb
      split at e
      · exact fin_stp (base := base) hs e
      · exact fin_stp (base := base) hs e
      · cases e
    · cases e
end M
/-! MC11: rules of statements. -/
namespace M
open PySem PySem.Spec PyProof.Rows L2
def SPost (C : Ct) (F : Hp) (ι : List Addr) (r : Fl × Sl × Store) (D : Ends) : Prop := match r with
  | (.nx, sl, S) => ∀ F' ι' σ' H', Le F ι F' ι' → RS C F' ι' sl S σ' H' → D.nx σ' H'
  | (.ct, sl, S) => ∀ F' ι' σ' H', Le F ι F' ι' → RS C F' ι' sl S σ' H' → D.ct σ' H'
  | (.rt d, _, S) => Post C F ι S d D.rt
theorem SPost.mono {C : Ct} {F F' : Hp} {ι ι' : List Addr} {r : Fl × Sl × Store} {D : Ends} (p : SPost C F ι r D) (l : Le F ι F' ι') : SPost C F' ι' r D := by
  obtain ⟨f, sl, S⟩ := r
  cases f with
  | nx => exact fun F2 ι2 σ2 H2 l2 rs => p F2 ι2 σ2 H2 (l.trans l2) rs
  | ct => exact fun F2 ι2 σ2 H2 l2 rs => p F2 ι2 σ2 H2 (l.trans l2) rs
  | rt d => exact Post.mono p l
def sdS (C : Ct) (P : Par) (m : St) : TS := fun D σ H => ∃ F ι S sl r, RS C F ι sl S σ H ∧ exec P m sl S = some r ∧ SPost C F ι r D
def sdSs (C : Ct) (P : Par) (m : List St) : TS := fun D σ H => ∃ F ι S sl r, RS C F ι sl S σ H ∧ execs P m sl S = some r ∧ SPost C F ι r D
theorem _root_.L2.PS.imp {X : Cx} {e : Stmt} {t t' : TS} (h : PS X e t) (k : ∀ D σ H, t' D σ H → t D σ H) : PS X e t' := ⟨fun pins s σ H D I q => h.run pins s σ H D I (k D σ H q)⟩
theorem _root_.L2.PSs.imp {X : Cx} {e : List Stmt} {t t' : TS} (h : PSs X e t) (k : ∀ D σ H, t' D σ H → t D σ H) : PSs X e t' := ⟨fun pins s σ H D I q => h.run pins s σ H D I (k D σ H q)⟩
theorem _root_.L2.PS.or {X : Cx} {e : Stmt} {t t' : TS} (h : PS X e t) (h' : PS X e t') : PS X e (fun D σ H => t D σ H ∨ t' D σ H) := ⟨fun pins s σ H D I q => q.elim (h.run pins s σ H D I) (h'.run pins s σ H D I)⟩
abbrev MS (X : Cx) (C : Ct) (P : Par) (e : Stmt) (m : St) : Prop := PS X e (sdS C P m)
abbrev MSs (X : Cx) (C : Ct) (P : Par) (e : List Stmt) (m : List St) : Prop := PSs X e (sdSs C P m)
section
variable {X : Cx} {C : Ct} {P : Par} {F : Hp} {ι : List Addr} {S : Store} {sl : Sl} {σ : L2.St} {H : Hp} {Dn : Ends}
theorem RS.st {m : St} {r : Fl × Sl × Store} (rs : RS C F ι sl S σ H) (e : exec P m sl S = some r) (k : SPost C F ι r Dn) : sdS C P m Dn σ H := ⟨F, ι, S, sl, r, rs, e, k⟩
theorem RS.sts {m : List St} {r : Fl × Sl × Store} (rs : RS C F ι sl S σ H) (e : execs P m sl S = some r) (k : SPost C F ι r Dn) : sdSs C P m Dn σ H := ⟨F, ι, S, sl, r, rs, e, k⟩
theorem RelSl.set {i : Nat} {d : D} {v : V} (r : RelSl C F ι sl σ) (q : RelD C F ι d v) : RelSl C F ι (sl.set i (some d)) (σ.set i (some v)) := by
  refine ⟨by rw [List.length_set, List.length_set]; exact r.1, fun j e h => ?_⟩
  by_cases hj : i = j
  · subst hj
    have hl : i < sl.length := by
      have := (List.getElem?_eq_some_iff.mp h).1
      rwa [List.length_set] at this
    rw [List.getElem?_set_self hl] at h
    cases h
    exact ⟨v, List.getElem?_set_self (by rw [← r.1]; exact hl), q⟩
  · rw [List.getElem?_set_ne hj] at h
    rw [List.getElem?_set_ne hj]
    exact r.2 j e h
theorem RS.slot {i : Nat} {d : D} {v : V} (r : RS C F ι sl S σ H) (q : RelD C F ι d v) : RS C F ι (sl.set i (some d)) S (σ.set i (some v)) H := ⟨r.rh, r.fr, r.rs.set q⟩
end
section
variable {X : Cx} {C : Ct} {P : Par} {pos pos' tpos : Pos} {st : Stmt} {sts : List Stmt} {m : St} {ms na nb : List St} {e o i : Expr} {me' mo mi : E} {x : PySem.Str}
theorem mss_nil : MSs X C P [] [] := (pss_nil (X := X)).imp fun D σ H h => by
  obtain ⟨F, ι, S, sl, r, rs, e, post⟩ := h
  cases e
  exact post F ι σ H (Le.refl _ _) rs
theorem mss_cons (h1 : MS X C P st m) (h2 : MSs X C P sts ms) : MSs X C P (st :: sts) (m :: ms) := (pss_cons h1 h2).imp fun D σ H h => by
  obtain ⟨F, ι, S, sl, r, rs, e, post⟩ := h
  unfold execs at e
  obtain ⟨⟨f, sl2, S2⟩, e1, e⟩ := Option.bind_eq_some_iff.mp e
  refine rs.st e1 ?_
  cases f with
  | nx => exact fun F' ι' σ' H' l rs' => rs'.sts e (post.mono l)
  | ct => cases e; exact post
  | rt d => cases e; exact post
/-! ### plain ones -/
theorem ms_set {k : Nat} (hN : X.N.Nodup) (hi : X.N[k]? = some x) (hx : Loc X.env.scope x) (he : ME X C P e me') (hs : swapsWith e (some (.Name x pos')) pos.line X.env = pure false := by rfl) (hf : X.fn x = true ∨ X.env.scope.names.lookup x = some .local := by first | exact .inl rfl | exact .inr rfl | assumption) :
    MS X C P (.Assign [.Name x pos'] e pos) (.set k me') := (ps_set hN hi hx he hs hf).imp fun D σ H h => by
  obtain ⟨F, ι, S, sl, r, rs, e, post⟩ := h
  unfold exec at e
  obtain ⟨⟨d, S1⟩, e1, e⟩ := Option.map_eq_some_iff.mp e
  cases e
  exact rs.one e1 fun F1 ι1 v H1 l1 r1 q1 => post F1 ι1 _ H1 l1 (r1.slot q1)
def gNames : List Nat → TGs
  | [] => gNil
  | k :: ks => gCons (gName k) (gNames ks)
theorem putAll_rel {F : Hp} {ι : List Addr} {S : Store} {H : Hp} : ∀ {is : List Nat} {ds : List D} {vs : List V} {sl sl2 : Sl} {σ : L2.St} {Q : L2.St → Hp → Prop}, putAll is ds sl = some sl2 → RelDs C F ι ds vs → RS C F ι sl S σ H → (∀ σ2, RS C F ι sl2 S σ2 H → Q σ2 H) → gNames is vs σ H Q
  | [], [], vs, _, _, σ, _, e, r, rs, k => by
    cases (show vs = [] from r)
    cases e
    exact ⟨rfl, k σ rs⟩
  | j :: js, d :: ds, vs, sl, sl2, σ, Q, e, r, rs, k => by
    obtain ⟨v, r2, rfl, h1, h2⟩ := r
    exact ⟨v, r2, rfl, putAll_rel (is := js) (ds := ds) e h2 (rs.slot h1) k⟩
  | [], _ :: _, _, _, _, _, _, e, _, _, _ => by cases e
  | _ :: _, [], _, _, _, _, _, e, _, _, _ => by cases e
theorem pgs_nil' : PGs X [] (gNames []) := pgs_nil
theorem pgs_cons' {k : Nat} {ks : List Nat} {es : List Expr} (hN : X.N.Nodup) (hi : X.N[k]? = some x) (hx : Loc X.env.scope x) (h2 : PGs X es (gNames ks))
    (hs : (assignEach (.Name x pos :: es) X.env).map (·.2) = assign (.Name x pos) X.env :: (assignEach es X.env).map (·.2) := by rfl) (hf : X.fn x = true ∨ X.env.scope.names.lookup x = some .local := by first | exact .inl rfl | exact .inr rfl | assumption) : PGs X (.Name x pos :: es) (gNames (k :: ks)) := pgs_cons (pg_name hN hi hx hf) h2 hs
theorem putAll_len : ∀ {is : List Nat} {ds : List D} {sl sl2 : Sl}, putAll is ds sl = some sl2 → ds.length = is.length
  | [], [], _, _, _ => rfl
  | _ :: js, _ :: ds, _, _, e => by rw [List.length_cons, List.length_cons, putAll_len (is := js) (ds := ds) e]
  | [], _ :: _, _, _, e => by cases e
  | _ :: _, [], _, _, e => by cases e
/-- names take the items of a tuple or of a list -/
def gTL (K : PySem.W.Frag) (n : Nat) (t : TGs) : TG := fun v σ H Q => gTup K n t v σ H Q ∨ gUnl K n t v σ H Q
theorem pg_tl {tpos : Pos} {es : List Expr} {k : Nat} {t : TGs} {n : Nat} (hc : X.calm = true) (hg : PGs X es t) (hn : (assignEach es X.env).length = n) (hst : (assignEach es X.env).findIdx? (·.1) = none) : PG X (.Tuple es k tpos) (gTL X.K n t) :=
  ⟨fun p s σ H v u Q I r w => w.elim (fun w => (pg_tup hc hg hn hst).run p s σ H v u Q I r w) fun w => (pg_unl hc hg hn hst).run p s σ H v u Q I r w⟩
/-- the relation of a tuple's items and a target's reading -/
theorem asgD_rel {K : PySem.W.Frag} (hK : C.K = K) {F : Hp} {ι : List Addr} {S : Store} {H : Hp} {is : List Nat} {d : D} {v : V} {sl sl2 : Sl} {σ : L2.St} {Q : L2.St → Hp → Prop} (e : asgD is d sl = some sl2) (r : RelD C F ι d v) (rs : RS C F ι sl S σ H) (k : ∀ σ2, RS C F ι sl2 S σ2 H → Q σ2 H) : gTL K is.length (gNames is) v σ H Q := by
  unfold asgD at e
  split at e
  · obtain ⟨a, vs, rfl, h1, h2⟩ := r
    refine .inl ⟨a, vs, rfl, hK ▸ sqT_mono rs.rh.fz h1, ?_, putAll_rel e h2.ds rs k⟩
    rw [← h2.length]
    have := putAll_len e
    rwa [List.length_map] at this
  · obtain ⟨a, vs, rfl, h1, h2⟩ := r
    refine .inr ⟨a, vs, rfl, .inl (.inl (rs.rh.fz _ _ h1)), ?_, putAll_rel e h2.ds rs k⟩
    rw [← h2.length]
    have := putAll_len e
    rwa [List.length_map] at this
  · obtain ⟨a, vs, rfl, h1, h2⟩ := r
    exact .inl ⟨a, vs, rfl, hK ▸ sqT_mono rs.rh.fz h1, by rw [← h2.length]; exact putAll_len e, putAll_rel e h2 rs k⟩
  · cases e
theorem ms_unp {es : List Expr} {kk : Nat} {is : List Nat} (hK : C.K = X.K) (hc : X.calm = true) (he : ME X C P e me') (hg : PGs X es (gNames is)) (hn : (assignEach es X.env).length = is.length := by rfl) (hst : (assignEach es X.env).findIdx? (·.1) = none := by rfl)
    (hs : swapsWithSole [.Tuple es kk tpos] e pos.line X.env = pure false := by rfl) (hw : swappedStores [.Tuple es kk tpos] e X.env = pure none := by rfl)
    (h1 : (assignEach [.Tuple es kk tpos] X.env).map (·.2) = [assign (.Tuple es kk tpos) X.env] := by rfl) : MS X C P (.Assign [.Tuple es kk tpos] e pos) (.unp is me') := (ps_asg he (pg_tl hc hg hn hst) hs hw h1).imp fun D σ H h => by
  obtain ⟨F, ι, S, sl, r, rs, e, post⟩ := h
  unfold exec at e
  obtain ⟨⟨d, S1⟩, e1, e⟩ := Option.bind_eq_some_iff.mp e
  obtain ⟨sl2, e2, e⟩ := Option.map_eq_some_iff.mp e
  cases e
  exact rs.one e1 fun F1 ι1 v H1 l1 r1 q1 => asgD_rel hK e2 q1 r1 fun σ2 rs2 => post F1 ι1 σ2 H1 l1 rs2
theorem ms_aug {k : Nat} (o : Op) (ho : ipo o = true) (hN : X.N.Nodup) (hi : X.N[k]? = some x) (hx : Loc X.env.scope x) (he : ME X C P e me') (hf : X.fn x = true ∨ X.env.scope.names.lookup x = some .local := by first | exact .inl rfl | exact .inr rfl | assumption) :
    MS X C P (.AugAssign (.Name x pos') (pop o) e pos) (.aug k o me') := (ps_aug hN hi hx he (iop_ar o ho) hf).imp fun D σ H h => by
  obtain ⟨F, ι, S, sl, r, rs, e, post⟩ := h
  unfold exec at e
  split at e
  · rename_i a h
    obtain ⟨⟨y, S1⟩, e1, e⟩ := Option.bind_eq_some_iff.mp e
    dsimp only at e
    split at e
    · obtain ⟨z, e2, e⟩ := Option.map_eq_some_iff.mp e
      cases e
      obtain ⟨v, hv, rv⟩ := rs.rs.2 k _ h
      cases (show v = _ from rv)
      refine ⟨_, hv, rs.one e1 fun F1 ι1 w H1 l1 r1 q1 => ?_⟩
      exact ⟨_, _, z, rfl, q1, e2, post F1 ι1 _ H1 l1 (r1.slot (d := .b (.int z)) rfl)⟩
    · cases e
  · cases e
/-! ### o[i] = v -/
theorem seti_rel {F ι S S' H} {x i : D} {y : D} {v w u : V} (rh : RH C F ι S H) (fr : Fre F ι) (rx : RelD C F ι x v) (ri : RelD C F ι i w) (ry : RelD C F ι y u) (e : seti S x i y = some S') {Q : Hp → Prop} (k : ∀ H', RH C F ι S' H' → Q H') : rSetL v w u H Q ∨ rSetD v w u H Q := by
  unfold seti at e
  split at e
  · rename_i n yy
    obtain ⟨a, ha, rfl⟩ := rx
    split at e
    · rename_i xs h
      split at e
      · rename_i kk
        obtain ⟨j, e1, e⟩ := Option.map_eq_some_iff.mp e
        cases e
        obtain ⟨ws, h1, h2⟩ := lst_of rh ha h
        exact .inl ⟨a, ws, kk, j, rfl, ri, h1, by rw [← h2.length]; exact e1, k _ (rh.set ha (fr.at ha) (fz_l h1) ⟨_, upd_same, h2.set j ry⟩)⟩
      · cases e
    · rename_i kvs h
      obtain ⟨kk, e1, e⟩ := Option.bind_eq_some_iff.mp e
      split at e
      · rename_i hz
        cases e
        obtain ⟨ws, h1, h2⟩ := dic_of rh ha h
        cases i with
        | b ii =>
          obtain ⟨j, rk, rfl⟩ := keyB_rel (C := C) (F := F) e1 ri
          refine .inr ⟨a, _, rfl, .inl ⟨ws, j, h1, rfl, ?_, rfl⟩, k _ (rh.set ha (fr.at ha) (fz_d h1) ⟨_, upd_same, dput_rel h2 rk ry⟩)⟩
          rw [← h2.length]
          exact Nat.lt_of_lt_of_le hz (SZ_le (Nat.le_refl _))
        | ref n => cases e1
        | mix n => cases e1
      · cases e
    · cases e
  · cases e
theorem set_both (hu : X.A.units + 66 < cLine) : PSet X (fun o i v H Q => rSetL o i v H Q ∨ rSetD o i v H Q) := by
  intro pins s σ H o i v ov iv u Q I ro ri rv h
  rcases h with h | h
  · exact set_list pins s σ H o i v ov iv u Q I ro ri rv h
  · exact set_dict (by omega) pins s σ H o i v ov iv u Q I ro ri rv h
theorem ms_seti (hu : X.A.units + 66 < cLine) (he : ME X C P e me') (ho : ME X C P o mo) (hi : ME X C P i mi)
    (ha : ∀ v, assign (.Subscript o i tpos) X.env v = (do
      let ov ← holding [v] (eval o X.env)
      let iv ← holding [v, ov] (eval i X.env)
      standAt tpos
      holding [v, ov, iv] (setItem ov iv v)
      release [v, ov, iv] []) := by intro _; rfl)
    (hs : swapsWithSole [.Subscript o i tpos] e pos.line X.env = pure false := by rfl) (hw : swappedStores [.Subscript o i tpos] e X.env = pure none := by rfl)
    (h1 : (assignEach [.Subscript o i tpos] X.env).map (·.2) = [assign (.Subscript o i tpos) X.env] := by rfl) : MS X C P (.Assign [.Subscript o i tpos] e pos) (.seti mo mi me') := (ps_asg he (pg_sub ho hi (set_both hu) ha) hs hw h1).imp fun D σ H h => by
  obtain ⟨F, ι, S, sl, r, rs, e, post⟩ := h
  unfold exec at e
  obtain ⟨⟨v, S1⟩, e1, e⟩ := Option.bind_eq_some_iff.mp e
  obtain ⟨⟨x, S2⟩, e2, e⟩ := Option.bind_eq_some_iff.mp e
  obtain ⟨⟨y, S3⟩, e3, e⟩ := Option.bind_eq_some_iff.mp e
  obtain ⟨S4, e4, e⟩ := Option.map_eq_some_iff.mp e
  cases e
  refine rs.one e1 fun F1 ι1 w1 H1 l1 r1 q1 => r1.one e2 fun F2 ι2 w2 H2 l2 r2 q2 => r2.one e3 fun F3 ι3 w3 H3 l3 r3 q3 => ?_
  exact seti_rel r3.rh r3.fr (q2.mono l3) q3 ((q1.mono l2).mono l3) e4 fun H' rh' => post F3 ι3 σ H' ((l1.trans l2).trans l3) ⟨rh', r3.fr, r3.rs⟩
def rGetL (K : PySem.W.Frag) : V → V → Hp → VK → Prop := fun x y H Q => ∃ p xs i v, x = .ref p ∧ y = .int i ∧ SqL K H p xs ∧ L2.atI xs i = some v ∧ Q v H
theorem get_both (hu : X.A.units + 66 < cLine) : PGet X (fun x y H Q => rIxL X.K x y H Q ∨ rIxD x y H Q) := by
  intro pins s σ H x y v u Q I rx ry h
  rcases h with h | h
  · obtain ⟨p, xs, i, z, rfl, rfl, hq, he, q⟩ := h
    cases rx
    obtain ⟨t, rfl⟩ := ry
    obtain ⟨its, r, pl, hz⟩ := I.list hq
    obtain ⟨j, h1, h2, h3, h4, h5⟩ := atI_get he
    obtain ⟨w, ew, rw'⟩ := r.get h2
    have hl := r.length
    have hn := line63
    have fin : EP X pins σ Q w s := ⟨z, H, I, rw', q⟩
    by_cases h0 : 0 ≤ i
    · have hj : i.toNat = j := by
        rw [seqIndex_of h0 h5] at h1
        exact Option.some.inj h1
      exact wpAny_getItem_list pl.isList h0 (by omega) (by rw [hj]; simpa using ew) fin
    · have hj : (i + (its.toArray.size : Int)).toNat = j := by
        rw [seqIndex_neg (by omega) h4] at h1
        rw [List.size_toArray, ← hl]
        exact Option.some.inj h1
      exact wpAny_getItem_list_neg pl.isList (by omega) (by rw [List.size_toArray] <;> omega) (by omega) (by rw [hj]; simpa using ew) fin
  · obtain ⟨a, w, rfl, g, q⟩ := h
    obtain rfl : v = Value.ref a := rx
    exact d_getItem (by omega) I g ry fun w' s3 I3 rw' => ⟨w, H, I3, rw', q⟩
theorem idx_relL {F ι S H} {x y z : D} {v w : V} (hK : C.K = X.K) (rh : RH C F ι S H) (rx : RelD C F ι x v) (ry : RelD C F ι y w) (hx : ∃ n, x = .ref n) (e : idx S x y = some z) {Q : VK} (k : ∀ u, RelD C F ι z u → Q u H) : rIxL X.K v w H Q ∨ rIxD v w H Q := by
  obtain ⟨n, rfl⟩ := hx
  obtain ⟨a, ha, rfl⟩ := rx
  unfold idx at e
  dsimp only at e
  split at e
  · rename_i kvs hd
    obtain ⟨kk, e1, e⟩ := Option.bind_eq_some_iff.mp e
    obtain ⟨x', e2, e⟩ := Option.map_eq_some_iff.mp e
    cases e
    obtain ⟨a', ks, ea, h1, h2⟩ := dicD_rel rh (show RelD C F ι (.ref n) (.ref a) from ⟨a, ha, rfl⟩) hd
    cases ea
    cases y with
    | b yy =>
      obtain ⟨j, rk, rfl⟩ := keyB_rel (C := C) (F := F) e1 ry
      obtain ⟨u, h4, h5⟩ := dget_at h2 rk e2
      exact .inr ⟨a, u, rfl, .inl ⟨ks, j, h1, rfl, h4.symm⟩, k u h5⟩
    | ref n => cases e1
    | mix n => cases e1
  · split at e
    · rename_i i
      obtain ⟨xs, e1, e⟩ := Option.bind_eq_some_iff.mp e
      obtain ⟨x', e2, e⟩ := Option.map_eq_some_iff.mp e
      cases e
      obtain ⟨a', vs, ea, h1, h2⟩ := lsq_rel rh (show RelD C F ι (.ref n) (.ref a) from ⟨a, ha, rfl⟩) (show lsqD S (.ref n) = some xs from e1)
      cases ea
      obtain ⟨u, h3, h4⟩ := atI_rel h2 e2
      exact .inl ⟨a, vs, i, u, rfl, ry, hK ▸ h1, h3, k u h4⟩
    · cases e
theorem seti_ref {S S' : Store} {x i y : D} (e : seti S x i y = some S') : ∃ n, x = .ref n := by
  unfold seti at e
  split at e
  · exact ⟨_, rfl⟩
  · cases e
theorem ms_augi (op : Op) (hop : ipo op = true) (hK : C.K = X.K) (hu : X.A.units + 66 < cLine) (he : ME X C P e me') (ho : ME X C P o mo) (hi : ME X C P i mi)
    (ha : ∀ ov iv new, augStore i ov iv new = (do holding [new, ov, iv] (setItem ov iv new); release [new, ov, iv] []; pure .next) := by intros; rfl) : MS X C P (.AugAssign (.Subscript o i tpos) (pop op) e pos) (.augi mo mi op me') := (ps_augS ho hi (get_both hu) he (iop_ar op hop) (set_both hu) ha).imp fun D σ H h => by
  obtain ⟨F, ι, S, sl, r, rs, e, post⟩ := h
  unfold exec at e
  obtain ⟨⟨x, S1⟩, e1, e⟩ := Option.bind_eq_some_iff.mp e
  obtain ⟨⟨y, S2⟩, e2, e⟩ := Option.bind_eq_some_iff.mp e
  obtain ⟨old, e3, e⟩ := Option.bind_eq_some_iff.mp e
  obtain ⟨⟨z, S3⟩, e4, e⟩ := Option.bind_eq_some_iff.mp e
  dsimp only at e
  split at e
  · rename_i a c hz
    obtain ⟨w, e5, e⟩ := Option.bind_eq_some_iff.mp e
    obtain ⟨S4, e6, e⟩ := Option.map_eq_some_iff.mp e
    cases e
    refine rs.one e1 fun F1 ι1 w1 H1 l1 r1 q1 => r1.one e2 fun F2 ι2 w2 H2 l2 r2 q2 => ?_
    refine idx_relL hK r2.rh (q1.mono l2) q2 (seti_ref e6) e3 fun u qu => ?_
    refine r2.one e4 fun F3 ι3 w3 H3 l3 r3 q3 => ?_
    exact ⟨a, c, w, qu, q3, e5, seti_rel r3.rh r3.fr ((q1.mono l2).mono l3) (q2.mono l3) (y := .b (.int w)) rfl e6 fun H' rh' => post F3 ι3 σ H' ((l1.trans l2).trans l3) ⟨rh', r3.fr, r3.rs⟩⟩
  · cases e
/-! ### fields -/
theorem fput_rel {F : Hp} {ι : List Addr} {f : Nat} {nm : PySem.Str} {y : D} {v : V} (hf : C.N.flds[f]? = some nm) (ry : RelD C F ι y v) : ∀ {fs : List (Nat × D)} {gs : List (PySem.Str × V)}, RelDf C F ι fs gs → RelDf C F ι (fput f y fs) (putF nm v gs)
  | [], _, r => by
    cases (show _ = [] from r)
    exact ⟨nm, v, [], rfl, hf, ry, rfl⟩
  | (g, w) :: r, _, q => by
    obtain ⟨j, u, rr, rfl, hj, h2, h3⟩ := q
    unfold fput putF
    by_cases h : f = g
    · subst h
      cases hf.symm.trans hj
      rw [if_pos rfl, if_pos rfl]
      exact ⟨nm, v, rr, rfl, hf, ry, h3⟩
    · rw [if_neg h, if_neg (fun z : j = nm => h (flds_inj hf (by rw [← z]; exact hj)))]
      exact ⟨j, u, _, rfl, hj, h2, fput_rel hf ry h3⟩
theorem RelDf.length {F : Hp} {ι : List Addr} : ∀ {fs : List (Nat × D)} {gs : List (PySem.Str × V)}, RelDf C F ι fs gs → fs.length = gs.length
  | [], _, r => by
    cases (show _ = [] from r)
    rfl
  | (g, w) :: r, _, q => by
    obtain ⟨j, u, rr, rfl, hj, h2, h3⟩ := q
    rw [List.length_cons, List.length_cons, RelDf.length h3]
theorem setf_rel {fo : Nat → Nat → Bool} (W : Wd X C fo) {base : Nat} {F ι S S' H} {x y : D} {v u : V} {f : Nat} {nm : PySem.Str} (hf : C.N.flds[f]? = some nm) (rh : RH C F ι S H) (fr : Fre F ι) (rx : RelD C F ι x v) (ry : RelD C F ι y u) (e : setf fo base S x f y = some S') :
    ∃ a D dx fs, v = .ref a ∧ H a = some (.ins D dx fs) ∧ Cls X.K D ∧ NoAttr X.K D nm ∧ fs.length < 1000 ∧ RH C F ι S' (upd H a (.ins D dx (putF nm u fs))) := by
  unfold setf at e
  split at e
  · rename_i n
    split at e
    · rename_i c fs h
      split at e
      · rename_i hc
        cases e
        simp at hc
        obtain ⟨a, ha, rfl⟩ := rx
        obtain ⟨o, ho, q⟩ := rh.obj ha
        rw [h] at ho
        cases ho
        obtain ⟨D, dx, gs, h0, h1, h2, h3⟩ := q
        have hda : dx ≠ a := fun z => by rw [z, h1] at h2; cases h2
        refine ⟨a, D, dx, gs, rfl, h1, W.cls c D h0, W.noat c D f nm h0 hc.1 hf, by rw [← h3.length]; exact hc.2.2, rh.set ha (fr.at ha) (fz_i h1) ⟨D, dx, _, h0, upd_same, by rw [upd_ne hda]; exact h2, fput_rel hf ry h3⟩⟩
      · cases e
    · cases e
  · cases e
theorem ms_setf (W : Wd X C P.fo) (f : Nat) {nm : PySem.Str} (he : ME X C P e me') (ho : ME X C P o mo) (hf : C.N.flds[f]? = some nm := by rfl) (hs : swapsWith e (some (.Attribute o nm pos')) pos.line X.env = pure false := by rfl) : MS X C P (.Assign [.Attribute o nm pos'] e pos) (.setf mo f me') := (ps_fld ho he hs).imp fun D σ H h => by
  obtain ⟨F, ι, S, sl, r, rs, e, post⟩ := h
  unfold exec at e
  obtain ⟨⟨v, S1⟩, e1, e⟩ := Option.bind_eq_some_iff.mp e
  obtain ⟨⟨x, S2⟩, e2, e⟩ := Option.bind_eq_some_iff.mp e
  obtain ⟨S4, e4, e⟩ := Option.map_eq_some_iff.mp e
  cases e
  refine rs.one e1 fun F1 ι1 w1 H1 l1 r1 q1 => r1.one e2 fun F2 ι2 w2 H2 l2 r2 q2 => ?_
  obtain ⟨a, D', dx, fs, h1, h2, h3, h4, h5, h6⟩ := setf_rel W hf r2.rh r2.fr q2 (q1.mono l2) e4
  exact ⟨a, D', dx, fs, h1, h2, h3, h4, h5, post F2 ι2 σ _ (l1.trans l2) ⟨h6, r2.fr, r2.rs⟩⟩
theorem ins_cls {F ι S H} {n : Nat} {a D dx : Addr} {fs : List (PySem.Str × V)} {c : Nat} (rh : RH C F ι S H) (ha : ι[n]? = some a) (h : H a = some (.ins D dx fs)) (hc : insC S (.ref n) = some c) : C.cl c = some D := by
  obtain ⟨o, ho, q⟩ := rh.obj ha
  unfold insC at hc
  dsimp only at hc
  rw [ho] at hc
  cases o <;> try (cases hc; done)
  cases hc
  obtain ⟨D', dx', gs, h0, h1, h2, h3⟩ := q
  rw [h] at h1
  cases h1
  exact h0
theorem setf_insC {fo : Nat → Nat → Bool} {base : Nat} {S S' : Store} {x y : D} {f : Nat} (e : setf fo base S x f y = some S') : ∃ n c, x = .ref n ∧ insC S (.ref n) = some c := by
  unfold setf at e
  split at e
  · rename_i n
    split at e
    · rename_i c fs' hn
      refine ⟨n, c, rfl, ?_⟩
      unfold insC
      dsimp only
      rw [hn]
    · cases e
  · cases e
theorem ms_augf (W : Wd X C P.fo) (op : Op) (hop : ipo op = true) (f : Nat) {nm : PySem.Str} (he : ME X C P e me') (ho : ME X C P o mo) (hf : C.N.flds[f]? = some nm := by rfl) : MS X C P (.AugAssign (.Attribute o nm tpos) (pop op) e pos) (.augf mo f op me') := (ps_fldaug ho he (fun pins s σ H x y u v Q I rx ry q => iop_ar op hop pins s σ H x y u v Q I rx ry q)).imp fun D σ H h => by
  obtain ⟨F, ι, S, sl, r, rs, e, post⟩ := h
  unfold exec at e
  obtain ⟨⟨x, S1⟩, e1, e⟩ := Option.bind_eq_some_iff.mp e
  obtain ⟨old, e3, e⟩ := Option.bind_eq_some_iff.mp e
  obtain ⟨⟨z, S3⟩, e4, e⟩ := Option.bind_eq_some_iff.mp e
  dsimp only at e
  split at e
  · rename_i a c hz
    split at e
    · rename_i hic
      obtain ⟨w, e5, e⟩ := Option.bind_eq_some_iff.mp e
      obtain ⟨S4, e6, e⟩ := Option.map_eq_some_iff.mp e
      cases e
      refine rs.one e1 fun F1 ι1 w1 H1 l1 r1 q1 => ?_
      obtain ⟨a1, D', dx, fs, u, h1, h2, h3, h4, h5, h6⟩ := getf_rel W hf r1.rh q1 e3
      refine ⟨a1, D', dx, fs, u, h1, h2, h3, h4, h5, r1.one e4 fun F3 ι3 w3 H3 l3 r3 q3 => ⟨a, c, w, h6, q3, e5, ?_⟩⟩
      obtain ⟨a2, D2, dx2, fs2, g1, g2, g3, g4, g5, g6⟩ := setf_rel W hf r3.rh r3.fr (q1.mono l3) (y := .b (.int w)) (u := .int w) rfl e6
      rw [h1] at g1
      cases g1
      obtain ⟨n, cc, rfl, hc⟩ := setf_insC e6
      obtain ⟨a3, k1, k2⟩ := q1
      rw [h1] at k2
      cases k2
      have c3 := ins_cls r3.rh (l3.get k1) g2 hc
      have c1 := ins_cls r1.rh k1 h2 (hic ▸ hc)
      cases c3.symm.trans c1
      exact ⟨dx2, fs2, g2, g5, post F3 ι3 σ _ (l1.trans l3) ⟨g6, r3.fr, r3.rs⟩⟩
    · cases e
  · cases e
/-! ### flow -/
theorem ms_iff {c : Expr} {mc : E} {a b : List Stmt} (hc : MT X C P c mc) (ha : MSs X C P a na) (hb : MSs X C P b nb) : MS X C P (.If c a b pos) (.iff mc na nb) := (ps_if hc ha hb).imp fun D σ H h => by
  obtain ⟨F, ι, S, sl, r, rs, e, post⟩ := h
  unfold exec at e
  obtain ⟨⟨x, S1⟩, e1, e⟩ := Option.bind_eq_some_iff.mp e
  obtain ⟨k, e2, e⟩ := Option.bind_eq_some_iff.mp e
  refine rs.oneT e1 e2 fun F1 ι1 H1 l1 r1 => ?_
  cases k with
  | true =>
    rw [if_pos rfl] at e ⊢
    exact r1.sts e (post.mono l1)
  | false =>
    rw [if_neg Bool.false_ne_true] at e ⊢
    exact r1.sts e (post.mono l1)
theorem ms_ret (he : ME X C P e me') : MS X C P (.Return (some e) pos) (.ret me') := (ps_ret he).imp fun D σ H h => by
  obtain ⟨F, ι, S, sl, r, rs, e, post⟩ := h
  unfold exec at e
  obtain ⟨⟨x, S1⟩, e1, e⟩ := Option.map_eq_some_iff.mp e
  cases e
  exact ⟨F, ι, S, sl, x, S1, rs, e1, post⟩
theorem ms_retn : MS X C P (.Return none pos) .retn := (ps_retN (X := X) (pos := pos)).imp fun D σ H h => by
  obtain ⟨F, ι, S, sl, r, rs, e, post⟩ := h
  cases e
  exact post F ι .non H (Le.refl _ _) rs.rh rs.fr rfl
theorem ms_ex (he : ME X C P e me') (hs : swapsWith e none pos.line X.env = pure false := by rfl) : MS X C P (.Expr e pos) (.ex me') := (ps_expr he hs).imp fun D σ H h => by
  obtain ⟨F, ι, S, sl, r, rs, e, post⟩ := h
  unfold exec at e
  obtain ⟨⟨x, S1⟩, e1, e⟩ := Option.map_eq_some_iff.mp e
  cases e
  exact rs.one e1 fun F1 ι1 v H1 l1 r1 q1 => post F1 ι1 σ H1 l1 r1
theorem ms_doc {j} : MS X C P (.Expr (.Constant (.str x) j pos) pos') (.ex .nop) := (ps_doc (X := X) (x := x) (j := j) (pos := pos) (pos' := pos')).imp fun D σ H h => by
  obtain ⟨F, ι, S, sl, r, rs, e, post⟩ := h
  cases e
  exact post F ι σ H (Le.refl _ _) rs
theorem ms_pass : MS X C P (.Pass pos) (.ex .nop) := (ps_pass (X := X) (pos := pos)).imp fun D σ H h => by
  obtain ⟨F, ι, S, sl, r, rs, e, post⟩ := h
  cases e
  exact post F ι σ H (Le.refl _ _) rs
theorem ms_cont : MS X C P (.Continue pos) .cont := (ps_continue (X := X) (pos := pos)).imp fun D σ H h => by
  obtain ⟨F, ι, S, sl, r, rs, e, post⟩ := h
  cases e
  exact post F ι σ H (Le.refl _ _) rs
theorem ms_whl {c : Expr} {mc : E} {a : List Stmt} (hp : PassesOwn (model X.prog X.w) X.A X.env X.xe) (hc : MT X C P c mc) (ha : MSs X C P a na) : MS X C P (.While c a [] pos) (.whl mc na) := (ps_while hp hc ha).imp fun D σ H h => by
  obtain ⟨F, ι, S, sl, r, rs, e, post⟩ := h
  unfold exec at e
  refine ⟨fun n σ H => ∃ F' ι' S' sl', Le F ι F' ι' ∧ RS C F' ι' sl' S' σ H ∧ whileL (fun σ2 S2 => (ev P mc σ2 S2).bind fun x => (truth x.2 x.1).map fun c => (c, x.2)) (fun σ2 S2 => execs P na σ2 S2) n sl' S' = some r, ⟨WF, F, ι, S, sl, Le.refl _ _, rs, e⟩, ?_⟩
  rintro n σ1 H1 ⟨F1, ι1, S1, sl1, l1, r1, e1⟩
  cases n with
  | zero => cases e1
  | succ n =>
    obtain ⟨⟨c, S2⟩, e2, e1⟩ := Option.bind_eq_some_iff.mp e1
    obtain ⟨⟨x, S3⟩, e3, e2⟩ := Option.bind_eq_some_iff.mp e2
    obtain ⟨c', e4, e2⟩ := Option.map_eq_some_iff.mp e2
    cases e2
    refine r1.oneT e3 e4 fun F2 ι2 H2 l2 r2 => ?_
    dsimp only at e1
    cases c with
    | true =>
      rw [if_pos rfl] at e1 ⊢
      obtain ⟨⟨f, sl3, S4⟩, e5, e1⟩ := Option.bind_eq_some_iff.mp e1
      refine ⟨fun σ' H' => ∃ F' ι' S' sl', Le F ι F' ι' ∧ RS C F' ι' sl' S' σ' H' ∧ whileL (fun σ2 S2 => (ev P mc σ2 S2).bind fun x => (truth x.2 x.1).map fun c => (c, x.2)) (fun σ2 S2 => execs P na σ2 S2) n sl' S' = some r, fun σ' H' h => ⟨n, Nat.lt_succ_self _, h⟩, r2.sts e5 ?_⟩
      cases f with
      | nx => exact fun F' ι' σ' H' l rs' => ⟨F', ι', S4, sl3, (l1.trans l2).trans l, rs', e1⟩
      | ct => exact fun F' ι' σ' H' l rs' => ⟨F', ι', S4, sl3, (l1.trans l2).trans l, rs', e1⟩
      | rt d =>
        cases e1
        exact Post.mono post (l1.trans l2)
    | false =>
      rw [if_neg Bool.false_ne_true] at e1 ⊢
      cases e1
      exact post F2 ι2 σ1 H2 (l1.trans l2) r2
end
end M
/-! MC12: walks. -/
namespace M
open PySem PySem.Spec PyProof.Rows L2
/-- locked objects stay -/
def LK (S S' : Store) : Prop := (∀ (n : Nat) xs, S[n]? = some (O.lockl xs) → S'[n]? = some (O.lockl xs)) ∧ ∀ (n : Nat) xs, S[n]? = some (O.lockd xs) → S'[n]? = some (O.lockd xs)
theorem LK.refl {S : Store} : LK S S := ⟨fun _ _ h => h, fun _ _ h => h⟩
theorem LK.trans {S S1 S2 : Store} (h : LK S S1) (h' : LK S1 S2) : LK S S2 := ⟨fun n xs e => h'.1 n xs (h.1 n xs e), fun n xs e => h'.2 n xs (h.2 n xs e)⟩
theorem Stp.lk {b : Nat} {S S' : Store} (h : Stp b S S') : LK S S' := ⟨h.lkl, h.lkd⟩
/-- an iterator that yields these items, as long as what is locked stays -/
def ItOk (C : Ct) (F : Hp) (ι : List Addr) (S0 : Store) (J : It) (xs : List B) : Prop := ∀ tp F' ι' S' H', Sub C.tp tp → Le F ι F' ι' → RH (C.w tp) F' ι' S' H' → Fre F' ι' → LK S0 S' →
  (∀ i x, xs[i]? = some x → J.go i H' ∧ ∀ v H2, J.yld i H' v H2 → ∃ F2, Le F' ι' F2 ι' ∧ RH (C.w tp) F2 ι' S' H2 ∧ Fre F2 ι' ∧ RelB C F2 x v) ∧ J.stop xs.length H'
/-- no dict is walked -/
def NoDic (S : Store) (ds : List D) : Prop := ∀ n, .ref n ∈ ds → ∀ kvs, S[n]? ≠ some (.dic kvs)
def rdI (C : Ct) (P : Par) (k : Ik) (es : List E) : TI := fun σ H R => ∃ F ι S sl ds S1 xs, RS C F ι sl S σ H ∧ evs P es sl S = some (ds, S1) ∧ items S1 k ds = some xs ∧ NoDic S1 ds ∧
  ∀ F1 ι1 H1 J, Le F ι F1 ι1 → RH C F1 ι1 (lockAll S1 ds) H1 → Fre F1 ι1 → ItOk C F1 ι1 (lockAll S1 ds) J xs → R J H1
abbrev MI (X : Cx) (C : Ct) (P : Par) (tg iter : Expr) (k : Ik) (es : List E) : Prop := PI X tg iter (rdI C P k es)
theorem _root_.L2.PI.imp {X : Cx} {tg e : Expr} {t t' : TI} (h : PI X tg e t) (k : ∀ σ H R, t' σ H R → t σ H R) : PI X tg e t' := ⟨fun pins s σ H R I q => h.run pins s σ H R I (k σ H R q)⟩
theorem _root_.L2.PI.or {X : Cx} {tg e : Expr} {t t' : TI} (h : PI X tg e t) (h' : PI X tg e t') : PI X tg e (fun σ H R => t σ H R ∨ t' σ H R) := ⟨fun pins s σ H R I q => q.elim (h.run pins s σ H R I) (h'.run pins s σ H R I)⟩
section
variable {C : Ct} {F : Hp} {ι : List Addr} {S S' : Store} {H : Hp}
theorem RH.same (r : RH C F ι S H) (hl : S'.length = S.length) (h : ∀ (n : Nat) a o, ι[n]? = some a → S'[n]? = some o → ∃ o0, S[n]? = some o0 ∧ (RelO C F ι H a o0 → RelO C F ι H a o)) : RH C F ι S' H :=
  ⟨r.fz, by rw [hl]; exact r.len, r.nd, fun n a o ha ho => by
    obtain ⟨o0, h0, k⟩ := h n a o ha ho
    exact k (r.ob n a o0 ha h0), r.tm⟩
theorem lock_nd {x : D} (h : ∀ n, x = .ref n → ∀ kvs, S[n]? ≠ some (.dic kvs)) (n : Nat) : (lock S x)[n]? = S[n]? ∨ ∃ xs, S[n]? = some (.lst xs) ∧ (lock S x)[n]? = some (.lockl xs) := by
  unfold lock
  split
  · rename_i m
    split
    · rename_i xs hm
      by_cases e : m = n
      · subst e
        exact .inr ⟨xs, hm, List.getElem?_set_self (List.getElem?_eq_some_iff.mp hm).1⟩
      · exact .inl (List.getElem?_set_ne e)
    · rename_i xs hm
      exact (h m rfl xs hm).elim
    · exact .inl rfl
  · exact .inl rfl
theorem RH.lock {x : D} (r : RH C F ι S H) (h : ∀ n, x = .ref n → ∀ kvs, S[n]? ≠ some (.dic kvs)) : RH C F ι (lock S x) H := by
  refine r.same (lock_len x) fun n a o ha ho => ?_
  rcases lock_nd h n with q | ⟨xs, q, q2⟩
  · rw [q] at ho; exact ⟨o, ho, id⟩
  · rw [q2] at ho
    cases ho
    exact ⟨_, q, id⟩
theorem NoDic.tail {x : D} {ds : List D} (h : NoDic S (x :: ds)) : NoDic (M.lock S x) ds := fun n hn kvs e => by
  rcases lock_nd (x := x) (fun m em => h m (em ▸ List.mem_cons_self)) n with q | ⟨xs, q, q2⟩
  · rw [q] at e
    exact h n (List.mem_cons_of_mem _ hn) kvs e
  · rw [q2] at e; cases e
theorem RH.lockAll : ∀ {ds : List D} {S : Store}, RH C F ι S H → NoDic S ds → RH C F ι (lockAll S ds) H
  | [], _, r, _ => r
  | x :: ds, S, r, h => by
    unfold M.lockAll
    exact RH.lockAll (r.lock fun n e => h n (e ▸ List.mem_cons_self)) h.tail
theorem RH.unlock {x : D} {S1 S2 : Store} (r : RH C F ι S1 H) (h : ∀ n, x = .ref n → ∀ kvs, S[n]? ≠ some (.dic kvs)) (e : unlock S S1 x = some S2) : RH C F ι S2 H := by
  unfold M.unlock at e
  split at e
  · rename_i m
    split at e
    · split at e
      · rename_i ys h2
        cases e
        refine r.same (by rw [List.length_set]) fun n a o ha ho => ?_
        by_cases hm : m = n
        · subst hm
          rw [List.getElem?_set_self (List.getElem?_eq_some_iff.mp h2).1] at ho
          cases ho
          exact ⟨_, h2, id⟩
        · rw [List.getElem?_set_ne hm] at ho
          exact ⟨o, ho, id⟩
      · cases e
    · rename_i xs hm
      exact (h m rfl xs hm).elim
    · cases e
      exact r
  · cases e
    exact r
theorem RH.unlockAll : ∀ {ds : List D} {S1 S2 : Store}, RH C F ι S1 H → NoDic S ds → unlockAll S S1 ds = some S2 → RH C F ι S2 H
  | [], _, _, r, _, e => by
    cases e
    exact r
  | x :: ds, S1, S2, r, h, e => by
    obtain ⟨S3, e1, e2⟩ := Option.bind_eq_some_iff.mp e
    exact RH.unlockAll (r.unlock (fun n z => h n (z ▸ List.mem_cons_self)) e1) (fun n hn => h n (List.mem_cons_of_mem _ hn)) e2
end
/-! ### targets -/
mutual
def gPt (K : PySem.W.Frag) : Pt → TG
  | .n i => gName i
  | .t ts => gTup K ts.length (gPts K ts)
termination_by structural x => x
def gPts (K : PySem.W.Frag) : List Pt → TGs
  | [] => gNil
  | p :: ps => gCons (gPt K p) (gPts K ps)
termination_by structural x => x
end
mutual
/-- the slots of a target -/
def slots : Pt → List Nat
  | .n i => [i]
  | .t ts => slotss ts
termination_by structural x => x
def slotss : List Pt → List Nat
  | [] => []
  | p :: ps => slots p ++ slotss ps
termination_by structural x => x
end
/-- only these slots turned -/
def Only (ks : List Nat) (σ σ2 : L2.St) : Prop := σ2.length = σ.length ∧ ∀ j, j ∉ ks → σ2[j]? = σ[j]?
theorem Only.refl {ks : List Nat} {σ : L2.St} : Only ks σ σ := ⟨rfl, fun _ _ => rfl⟩
theorem Only.trans {ks js : List Nat} {σ σ1 σ2 : L2.St} (h : Only ks σ σ1) (h' : Only js σ1 σ2) : Only (ks ++ js) σ σ2 := ⟨h'.1.trans h.1, fun j hj => by
  rw [h'.2 j fun z => hj (List.mem_append_right _ z), h.2 j fun z => hj (List.mem_append_left _ z)]⟩
section
variable {C : Ct} {K : PySem.W.Frag} (hK : C.K = K) {F : Hp} {ι : List Addr} {S : Store} {H : Hp}
theorem asgs_len : ∀ {ts : List Pt} {xs : List B} {sl sl2 : Sl}, asgs ts xs sl = some sl2 → xs.length = ts.length
  | [], [], _, _, _ => rfl
  | p :: ps, x :: xs, _, _, e => by
    unfold asgs at e
    obtain ⟨s1, e1, e2⟩ := Option.bind_eq_some_iff.mp e
    rw [List.length_cons, List.length_cons, asgs_len e2]
  | [], _ :: _, _, _, e => by cases e
  | _ :: _, [], _, _, e => by cases e
include hK
mutual
theorem asg_relO : ∀ (g : Pt) {x : B} {v : V} {sl sl2 : Sl} {σ : L2.St} {Q : L2.St → Hp → Prop}, asg g x sl = some sl2 → RelB C F x v → RS C F ι sl S σ H → (∀ σ2, Only (slots g) σ σ2 → RS C F ι sl2 S σ2 H → Q σ2 H) → gPt K g v σ H Q
  | .n i, x, v, sl, sl2, σ, Q, e, r, rs, k => by
    cases e
    refine k _ ⟨List.length_set, fun j hj => List.getElem?_set_ne fun z => hj ?_⟩ (rs.slot r)
    rw [← z]
    exact List.mem_singleton.mpr rfl
  | .t ts, x, v, sl, sl2, σ, Q, e, r, rs, k => by
    unfold asg at e
    split at e
    · obtain ⟨a, vs, rfl, h1, h2⟩ := r
      exact ⟨a, vs, rfl, hK ▸ sqT_mono rs.rh.fz h1, by rw [← h2.length]; exact asgs_len e, asgs_relO ts e h2 rs k⟩
    · cases e
termination_by structural x => x
theorem asgs_relO : ∀ (ts : List Pt) {xs : List B} {vs : List V} {sl sl2 : Sl} {σ : L2.St} {Q : L2.St → Hp → Prop}, asgs ts xs sl = some sl2 → RelBs C F xs vs → RS C F ι sl S σ H → (∀ σ2, Only (slotss ts) σ σ2 → RS C F ι sl2 S σ2 H → Q σ2 H) → gPts K ts vs σ H Q
  | [], [], vs, _, _, σ, _, e, r, rs, k => by
    cases (show vs = [] from r)
    cases e
    exact ⟨rfl, k σ .refl rs⟩
  | p :: ps, x :: xs, vs, sl, sl2, σ, Q, e, r, rs, k => by
    obtain ⟨v, r2, rfl, h1, h2⟩ := r
    unfold asgs at e
    obtain ⟨s1, e1, e2⟩ := Option.bind_eq_some_iff.mp e
    exact ⟨v, r2, rfl, asg_relO p e1 h1 rs fun σ2 o2 rs2 => asgs_relO ps e2 h2 rs2 fun σ3 o3 rs3 => k σ3 (o2.trans o3) rs3⟩
  | [], _ :: _, _, _, _, _, _, e, _, _, _ => by cases e
  | _ :: _, [], _, _, _, _, _, e, _, _, _ => by cases e
termination_by structural x => x
end
theorem asg_rel (g : Pt) {x : B} {v : V} {sl sl2 : Sl} {σ : L2.St} {Q : L2.St → Hp → Prop} (e : asg g x sl = some sl2) (r : RelB C F x v) (rs : RS C F ι sl S σ H) (k : ∀ σ2, RS C F ι sl2 S σ2 H → Q σ2 H) : gPt K g v σ H Q := asg_relO hK g e r rs fun σ2 _ h => k σ2 h
end
section
variable {X : Cx} {pos tpos : Pos} {x : PySem.Str} {e : Expr} {es : List Expr}
theorem mg_n {k : Nat} (hN : X.N.Nodup) (hi : X.N[k]? = some x) (hx : Loc X.env.scope x) (hf : X.fn x = true ∨ X.env.scope.names.lookup x = some .local := by first | exact .inl rfl | exact .inr rfl | assumption) : PG X (.Name x pos) (gPt X.K (.n k)) := pg_name hN hi hx hf
theorem mg_t {kk : Nat} {ts : List Pt} (hc : X.calm = true) (h : PGs X es (gPts X.K ts)) (hn : (assignEach es X.env).length = ts.length := by rfl) (hst : (assignEach es X.env).findIdx? (·.1) = none := by rfl) : PG X (.Tuple es kk tpos) (gPt X.K (.t ts)) := pg_tup hc h hn hst
theorem mgs_nil : PGs X [] (gPts X.K []) := pgs_nil
theorem mgs_cons {p : Pt} {ps : List Pt} (h1 : PG X e (gPt X.K p)) (h2 : PGs X es (gPts X.K ps)) (hs : (assignEach (e :: es) X.env).map (·.2) = assign e X.env :: (assignEach es X.env).map (·.2) := by rfl) : PGs X (e :: es) (gPts X.K (p :: ps)) := pgs_cons h1 h2 hs
end
/-! ### the walk of a statement -/
section
variable {X : Cx} {C : Ct} {P : Par} {pos : Pos} {tg iter : Expr} {body : List Stmt} {nb : List St} {k : Ik} {g : Pt} {es : List E}
theorem ms_for (hS : CStp P.C ∧ CStp P.C2) (hK : C.K = X.K) (hp : PassesOwn (model X.prog X.w) X.A X.env X.xe) (hc : X.calm = true) (hi : MI X C P tg iter k es) (hg : PG X tg (gPt X.K g)) (hb : MSs X C P body nb) (hnd : ∀ S ds xs, items S k ds = some xs → NoDic S ds)
    (hs : ∀ x, foldedSetIterable iter X.env x = pure x := by intro _; rfl) : MS X C P (.For tg iter body [] pos) (.for g k es nb) := (ps_for hp hc hi hg hb hs).imp fun D σ H h => by
  obtain ⟨F, ι, S, sl, r, rs, e, post⟩ := h
  unfold exec at e
  obtain ⟨⟨ds, S1⟩, e1, e⟩ := Option.bind_eq_some_iff.mp e
  obtain ⟨xs, e2, e⟩ := Option.bind_eq_some_iff.mp e
  obtain ⟨r3, e3, e⟩ := Option.bind_eq_some_iff.mp e
  obtain ⟨S4, e4, e⟩ := Option.map_eq_some_iff.mp e
  have nd := hnd _ _ _ e2
  refine ⟨F, ι, S, sl, ds, S1, xs, rs, e1, e2, nd, fun F1 ι1 H1 J l1 rh1 fr1 it => ?_⟩
  let body := fun σ2 S2 => execs P nb σ2 S2
  refine ⟨fun i m σ H => m = xs.length - i ∧ i ≤ xs.length ∧ ∃ F' ι' S' sl', Le F1 ι1 F' ι' ∧ RS C F' ι' sl' S' σ H ∧ LK (lockAll S1 ds) S' ∧ forL (fun σ2 S2 => execs P nb σ2 S2) g (xs.drop i) sl' S' = some r3, ⟨xs.length, by simp, Nat.zero_le _, F1, ι1, _, sl, Le.refl _ _, ⟨rh1, fr1, rs.rs.mono l1⟩, LK.refl, by rw [List.drop_zero]; exact e3⟩, ?_⟩
  rintro i m σ2 H2 ⟨hm, hi', F2, ι2, S2, sl2, l2, rs2, lk2, e5⟩
  obtain ⟨go, stop⟩ := it C.tp F2 ι2 S2 H2 (Sub.refl _) l2 rs2.rh rs2.fr lk2
  by_cases hlt : i < xs.length
  · obtain ⟨x, hx⟩ : ∃ x, xs[i]? = some x := ⟨_, List.getElem?_eq_getElem hlt⟩
    rw [List.drop_eq_getElem_cons hlt] at e5
    rw [List.getElem?_eq_getElem hlt] at hx
    cases hx
    unfold forL at e5
    obtain ⟨sl3, e6, e5⟩ := Option.bind_eq_some_iff.mp e5
    obtain ⟨⟨f, sl4, S5⟩, e7, e5⟩ := Option.bind_eq_some_iff.mp e5
    obtain ⟨go1, yld⟩ := go i _ (List.getElem?_eq_getElem hlt)
    refine .inr ⟨go1, fun σ' H' => ∃ F' ι' S' sl', Le F1 ι1 F' ι' ∧ RS C F' ι' sl' S' σ' H' ∧ LK (lockAll S1 ds) S' ∧ forL (fun σ2 S2 => execs P nb σ2 S2) g (xs.drop (i + 1)) sl' S' = some r3, fun σ' H' q => ⟨xs.length - (i + 1), by omega, rfl, hlt, q⟩, fun v H3 hy => ?_⟩
    obtain ⟨F3, l3, rh3, fr3, rv⟩ := yld v H3 hy
    refine asg_rel hK g e6 rv ⟨rh3, fr3, rs2.rs.mono l3⟩ fun σ4 rs4 => rs4.sts e7 ?_
    have lk : LK (lockAll S1 ds) S5 := lk2.trans (execs_stp hS.1 hS.2 nb sl3 S2 _ e7 0 (Nat.zero_le _) (Nat.zero_le _)).lk
    cases f with
    | nx => exact fun F' ι' σ' H' l rs' => ⟨F', ι', S5, sl4, (l2.trans l3).trans l, rs', lk, e5⟩
    | ct => exact fun F' ι' σ' H' l rs' => ⟨F', ι', S5, sl4, (l2.trans l3).trans l, rs', lk, e5⟩
    | rt d =>
      cases e5
      cases e
      exact fun F' ι' v H' l rh' fr' rv' => post F' ι' v H' (l1.trans ((l2.trans l3).trans l)) (rh'.unlockAll nd e4) fr' rv'
  · have hi2 : i = xs.length := by omega
    subst hi2
    rw [List.drop_length] at e5
    cases e5
    cases e
    refine .inl ⟨stop, ?_⟩
    exact post F2 ι2 σ2 H2 (l1.trans l2) ⟨rs2.rh.unlockAll nd e4, rs2.fr, rs2.rs⟩

/-! ### the iterators -/
theorem ItOk.mono {F F1 : Hp} {ι ι1 : List Addr} {S0 : Store} {J : It} {xs : List B} (h : ItOk C F ι S0 J xs) (l : Le F ι F1 ι1) : ItOk C F1 ι1 S0 J xs := fun tp F' ι' S' H' sb l' rh fr lk => h tp F' ι' S' H' sb (l.trans l') rh fr lk
theorem same_go {tp : Hp} {F' : Hp} {ι' : List Addr} {S' : Store} {H' : Hp} {x : B} {v : V} (rh : RH (C.w tp) F' ι' S' H') (fr : Fre F' ι') (r : RelB C F' x v) : ∃ F2, Le F' ι' F2 ι' ∧ RH (C.w tp) F2 ι' S' H' ∧ Fre F2 ι' ∧ RelB C F2 x v := ⟨F', Le.refl _ _, rh, fr, r⟩
/-- over ints -/
theorem it_rng (F ι S0) (i : Int) (n : Nat) : ItOk C F ι S0 (Itr i n) (rngB i n) := by
  refine fun tp F' ι' S' H' sb l rh fr lk => ⟨fun j x hx => ?_, ?_⟩
  · unfold rngB at hx
    rw [List.getElem?_map] at hx
    obtain ⟨j', h1, h2⟩ := Option.map_eq_some_iff.mp hx
    have hj := (List.getElem?_eq_some_iff.mp h1).1
    rw [List.length_range] at hj
    rw [List.getElem?_range hj] at h1
    cases h1
    refine ⟨hj, fun v H2 ⟨e1, e2⟩ => ?_⟩
    rw [e1]
    exact same_go rh fr (by rw [← h2, e2] <;> rfl)
  · show n ≤ (rngB i n).length
    unfold rngB
    rw [List.length_map, List.length_range]
    exact Nat.le_refl _
theorem it_rngC (F ι S0) (i c : Int) (n : Nat) : ItOk C F ι S0 (Itc i c n) (rngC i c n) := by
  refine fun tp F' ι' S' H' sb l rh fr lk => ⟨fun j x hx => ?_, ?_⟩
  · unfold rngC at hx
    rw [List.getElem?_map] at hx
    obtain ⟨j', h1, h2⟩ := Option.map_eq_some_iff.mp hx
    have hj := (List.getElem?_eq_some_iff.mp h1).1
    rw [List.length_range] at hj
    rw [List.getElem?_range hj] at h1
    cases h1
    refine ⟨hj, fun v H2 ⟨e1, e2⟩ => ?_⟩
    rw [e1]
    exact same_go rh fr (by rw [← h2, e2] <;> rfl)
  · show n ≤ (rngC i c n).length
    unfold rngC
    rw [List.length_map, List.length_range]
    exact Nat.le_refl _
/-- a list's items: it stands locked, or never changes -/
theorem lsq_keep {F ι H} {S1 : Store} {ds : List D} {d : D} {v : V} {xs : List B} (rh : RH C F ι S1 H) (rx : RelD C F ι d v) (hd : d ∈ ds) (e : lsqD S1 d = some xs) :
    ∃ a, v = .ref a ∧ ∀ tp F' ι' S' H', Le F ι F' ι' → RH (C.w tp) F' ι' S' H' → LK (lockAll S1 ds) S' → ∃ vs, SqL C.K H' a vs ∧ RelBs C F' xs vs := by
  cases d with
  | b x =>
    obtain ⟨a, vs, rfl, h1, h2⟩ := lsq_rel rh rx e
    refine ⟨a, rfl, fun tp F' ι' S' H' l rh' _ => ?_⟩
    have rx' : RelD (C.w tp) F' ι' (.b x) (.ref a) := RelD.w _ _ (RelD.mono l _ _ rx)
    obtain ⟨a', vs', ea, h1', h2'⟩ := lsq_rel rh' rx' (show lsqD S' (.b x) = some xs by cases x <;> first | exact e | cases e)
    cases ea
    exact ⟨vs', h1', RelBs.w (C := C.w tp) (tp := C.tp) _ _ h2'⟩
  | mix ys => cases e
  | ref n =>
    obtain ⟨a, ha, rfl⟩ := rx
    refine ⟨a, rfl, fun tp F' ι' S' H' l rh' lk => ?_⟩
    have hl : (lockAll S1 ds)[n]? = some (.lockl xs) := by
      rcases lockAll_at ds S1 n with q | ⟨ys, q, q2⟩ | ⟨ys, q, q2⟩
      · unfold lsqD seqD at e
        dsimp only at e
        split at e
        · rename_i ys hn
          cases e
          exfalso
          have : ∀ (ds : List D) (S : Store), S[n]? = some (.lst xs) → .ref n ∈ ds → (lockAll S ds)[n]? = some (.lockl xs) := by
            intro ds
            induction ds with
            | nil => intro S _ h; cases h
            | cons d ds ih =>
              intro S hS h
              unfold lockAll
              by_cases hd : d = .ref n
              · subst hd
                have h1 : (lock S (.ref n))[n]? = some (.lockl xs) := by
                  unfold lock
                  dsimp only
                  rw [hS]
                  exact List.getElem?_set_self (List.getElem?_eq_some_iff.mp hS).1
                rcases lockAll_at ds (lock S (.ref n)) n with q | ⟨ys, q, _⟩ | ⟨ys, q, _⟩
                · rw [q]; exact h1
                · rw [h1] at q; cases q
                · rw [h1] at q; cases q
              · rcases List.mem_cons.mp h with h | h
                · exact (hd h.symm).elim
                · refine ih _ ?_ h
                  rcases lock_at (S := S) (x := d) n with q | ⟨ys, q, q2⟩ | ⟨ys, q, q2⟩
                  · rw [q]; exact hS
                  · unfold lock at q2
                    split at q2
                    · rename_i m
                      have hm : m ≠ n := fun z => hd (by rw [z])
                      split at q2
                      · rw [List.getElem?_set_ne hm, hS] at q2; cases q2
                      · rw [List.getElem?_set_ne hm, hS] at q2; cases q2
                      · rw [hS] at q2; cases q2
                    · rw [hS] at q2; cases q2
                  · rw [hS] at q; cases q
          have := this ds S1 hn hd
          rw [q, hn] at this
          cases this
        · rename_i ys hn
          cases e
          rw [q]; exact hn
        · cases e
      · unfold lsqD seqD at e
        dsimp only at e
        rw [q] at e
        cases e
        exact q2
      · unfold lsqD seqD at e
        dsimp only at e
        rw [q] at e
        cases e
    obtain ⟨o, ho, q⟩ := rh'.obj (l.get ha)
    rw [lk.1 n xs hl] at ho
    cases ho
    obtain ⟨vs, h1, h2⟩ := q
    exact ⟨vs, .inl (.inl h1), RelBs.w (C := C.w tp) (tp := C.tp) _ _ h2⟩
theorem it_list {F ι} {S0 : Store} {a : Addr} {xs : List B} (h : ∀ tp F' ι' S' H', Le F ι F' ι' → RH (C.w tp) F' ι' S' H' → LK S0 S' → ∃ vs, SqL C.K H' a vs ∧ RelBs C F' xs vs) : ItOk C F ι S0 (Itl C.K a) xs := by
  refine fun tp F' ι' S' H' sb l rh fr lk => ?_
  obtain ⟨vs, h1, h2⟩ := h tp F' ι' S' H' l rh lk
  refine ⟨fun i x hx => ?_, vs, h1, by rw [h2.length] <;> exact Nat.le_refl _⟩
  obtain ⟨v, hv, rv⟩ := h2.get hx
  refine ⟨⟨vs, v, h1, hv⟩, fun w H2 ⟨e1, e2⟩ => ?_⟩
  rw [e1]
  have := e2 vs h1
  rw [hv] at this
  cases this
  exact same_go rh fr rv
theorem it_tup {F ι} {S0 : Store} {a : Addr} {xs : List B} {vs : List V} (h1 : SqT C.K F a vs) (h2 : RelBs C F xs vs) : ItOk C F ι S0 (Itt C.K a) xs := by
  refine fun tp F' ι' S' H' sb l rh fr lk => ?_
  have h1' := sqT_mono (l.1.trans rh.fz) h1
  refine ⟨fun i x hx => ?_, vs, h1', by rw [h2.length] <;> exact Nat.le_refl _⟩
  obtain ⟨v, hv, rv⟩ := h2.get hx
  refine ⟨⟨vs, v, h1', hv⟩, fun w H2 ⟨e1, e2⟩ => ?_⟩
  rw [e1]
  have := e2 vs h1'
  rw [hv] at this
  cases this
  exact same_go rh fr (RelB.mono l.1 _ _ rv)
theorem it_keys {F ι} {S0 : Store} {a : Addr} {o : Obj} {kvs : List (Kd × B)} {ks : List (L2.Key × V)} (h1 : F a = some (.frz o (.dK ks))) (h2 : RelBk C F kvs ks) : ItOk C F ι S0 (Itk a o ks) (keysOf kvs) := by
  refine fun tp F' ι' S' H' sb l rh fr lk => ?_
  have h1' := rh.fz _ _ (l.1 _ _ h1)
  have kr := keys_rel h2
  have hlen : (keysOf kvs).length = ks.length := by rw [kr.length, List.length_map]
  refine ⟨fun i x hx => ?_, h1', by rw [hlen] <;> exact Nat.le_refl _⟩
  obtain ⟨v, hv, rv⟩ := kr.get hx
  have hi := (List.getElem?_eq_some_iff.mp hx).1
  refine ⟨⟨h1', by omega⟩, fun w H2 ⟨e1, k, u, e2, e3⟩ => ?_⟩
  rw [e1]
  rw [List.getElem?_map, e2] at hv
  cases hv
  rw [e3]
  exact same_go rh fr (RelB.mono l.1 _ _ rv)
theorem it_dv {F ι} {S0 : Store} {a : Addr} {o : Obj} {kvs : List (Kd × B)} {ks : List (L2.Key × V)} (h1 : C.tp a = some (.frz o (.dK ks))) (h2 : RelBk C F kvs ks) : ItOk C F ι S0 (Itk a o ks) (keysOf kvs) := by
  refine fun tp F' ι' S' H' sb l rh fr lk => ?_
  have h1' := (rh.tm a _ (sb _ _ h1)).1
  have kr := keys_rel h2
  have hlen : (keysOf kvs).length = ks.length := by rw [kr.length, List.length_map]
  refine ⟨fun i x hx => ?_, h1', by rw [hlen] <;> exact Nat.le_refl _⟩
  obtain ⟨v, hv, rv⟩ := kr.get hx
  have hi := (List.getElem?_eq_some_iff.mp hx).1
  refine ⟨⟨h1', by omega⟩, fun w H2 ⟨e1, k, u, e2, e3⟩ => ?_⟩
  rw [e1]
  rw [List.getElem?_map, e2] at hv
  cases hv
  rw [e3]
  exact same_go rh fr (RelB.mono l.1 _ _ rv)
theorem nd_ints (k : Ik) (hk : k = .r1 ∨ k = .r2 ∨ k = .r3 ∨ k = .rr) (S ds xs) (e : items S k ds = some xs) : NoDic S ds := by
  intro n hn
  rcases hk with rfl | rfl | rfl | rfl <;> unfold items at e <;> split at e <;> first | contradiction | (simp at hn)
section
variable {a b : Expr} {ma mb : E} {p : Pos}
theorem mi_r1 (hg : Gl X "range") (hm : X.mg "range" = none) (ha : ME X C P a ma) (hs : starEach [a] X.env = [(false, eval a X.env)] := by rfl) : MI X C P tg (.Call (.Name "range" p) [a] [] pos) .r1 [ma] := (pi_range1 hg hm (ma_cons ha ma_nil hs) hs).imp fun σ H R h => by
  obtain ⟨F, ι, S, sl, ds, S1, xs, rs, e1, e2, nd, k⟩ := h
  refine rs.args e1 fun F1 ι1 vs H1 l1 r1 q1 => ?_
  unfold items at e2
  split at e2 <;> try contradiction
  split at e2
  · rename_i j _ hj
    cases e2
    obtain ⟨v, rfl, rv⟩ := q1.one
    cases (show v = _ from rv)
    obtain ⟨h1, h2⟩ := of_decide_eq_true hj
    exact ⟨j, rfl, h1, h2, k F1 ι1 H1 _ l1 (r1.rh.lockAll nd) r1.fr (it_rng _ _ _ _ _)⟩
  · cases e2
theorem mi_r2 (hg : Gl X "range") (hm : X.mg "range" = none) (ha : ME X C P a ma) (hb : ME X C P b mb) (hs : starEach [a, b] X.env = [(false, eval a X.env), (false, eval b X.env)] := by rfl) (hs2 : starEach [b] X.env = [(false, eval b X.env)] := by rfl) : MI X C P tg (.Call (.Name "range" p) [a, b] [] pos) .r2 [ma, mb] := (pi_range2 hg hm (ma_cons ha (ma_cons hb ma_nil hs2) (by rw [hs, hs2])) hs hs2).imp fun σ H R h => by
  obtain ⟨F, ι, S, sl, ds, S1, xs, rs, e1, e2, nd, k⟩ := h
  refine rs.args e1 fun F1 ι1 vs H1 l1 r1 q1 => ?_
  unfold items at e2
  split at e2 <;> try contradiction
  split at e2
  · rename_i i j _ hj
    cases e2
    obtain ⟨v, w, rfl, rv, rw'⟩ := q1.two
    cases (show v = _ from rv)
    cases (show w = _ from rw')
    obtain ⟨hi, hj⟩ := Bool.and_eq_true_iff.mp hj
    obtain ⟨h1, h2⟩ := of_decide_eq_true hi
    obtain ⟨h3, h4⟩ := of_decide_eq_true hj
    exact ⟨i, j, rfl, ⟨h1, h2, h3, h4⟩, k F1 ι1 H1 _ l1 (r1.rh.lockAll nd) r1.fr (it_rng _ _ _ _ _)⟩
  · cases e2
theorem mi_rr {p2 pos2 : Pos} (hg0 : Gl X "reversed") (hm0 : X.mg "reversed" = none) (hg : Gl X "range") (hm : X.mg "range" = none) (ha : ME X C P a ma) (hs : starEach [a] X.env = (false, eval a X.env) :: starEach [] X.env := by rfl)
    (hs2 : starEach [.Call (.Name "range" p) [a] [] pos] X.env = (false, eval (.Call (.Name "range" p) [a] [] pos) X.env) :: starEach [] X.env := by rfl) : MI X C P tg (.Call (.Name "reversed" p2) [.Call (.Name "range" p) [a] [] pos] [] pos2) .rr [ma] := (pi_revR hg0 hm0 (prg_1 hg hm ha hs) hs2).imp fun σ H R h => by
  obtain ⟨F, ι, S, sl, ds, S1, xs, rs, e1, e2, nd, k⟩ := h
  unfold evs evs at e1
  obtain ⟨⟨d, S2⟩, e3, e1⟩ := Option.bind_eq_some_iff.mp e1
  cases e1
  refine rs.one e3 fun F1 ι1 v H1 l1 r1 q1 => ?_
  unfold items at e2
  split at e2 <;> try contradiction
  rename_i hds
  cases hds
  split at e2
  · rename_i j _ hj
    cases e2
    cases (show v = _ from q1)
    obtain ⟨h1, h2⟩ := of_decide_eq_true hj
    refine ⟨j, rfl, by omega, by omega, h1, h2, k F1 ι1 H1 _ l1 (r1.rh.lockAll nd) r1.fr ?_⟩
    have : (rngB 0 j.toNat).reverse = rngC (0 + (((j - 0).toNat : Nat) : Int) - 1) (-1) (j - 0).toNat := by
      rw [Int.sub_zero]
      generalize j.toNat = n
      unfold rngB rngC
      refine List.ext_getElem? fun i => ?_
      by_cases hi : i < n
      · rw [List.getElem?_reverse (by rw [List.length_map, List.length_range]; exact hi)]
        rw [List.getElem?_map, List.getElem?_map, List.length_map, List.length_range, List.getElem?_range (by omega), List.getElem?_range hi]
        show some (B.int _) = some (B.int _)
        congr 2
        omega
      · rw [List.getElem?_eq_none (by rw [List.length_reverse, List.length_map, List.length_range]; omega), List.getElem?_eq_none (by rw [List.length_map, List.length_range]; omega)]
    rw [this]
    exact it_rngC _ _ _ _ _ _
  · cases e2
theorem mi_sq (hK : C.K = X.K) (ha : ME X C P iter ma) : MI X C P tg iter .sq [ma] := (((pi_list ha).or (pi_tup ha)).or (pi_keys ha)).imp fun σ H R h => by
  obtain ⟨F, ι, S, sl, ds, S1, xs, rs, e1, e2, nd, k⟩ := h
  have e1' := e1
  unfold evs evs at e1
  obtain ⟨⟨d, S2⟩, e3, e1⟩ := Option.bind_eq_some_iff.mp e1
  cases e1
  unfold items at e2
  split at e2 <;> try contradiction
  · rename_i kvs hds
    cases hds
    cases e2
    refine .inr (rs.one e3 fun F1 ι1 v H1 l1 r1 q1 => ?_)
    obtain ⟨a, o, ks, rfl, h1, h2⟩ := q1
    exact ⟨a, o, rfl, .inl ⟨ks, r1.rh.fz _ _ h1, k F1 ι1 H1 _ l1 (r1.rh.lockAll nd) r1.fr (it_keys h1 h2)⟩⟩
  · rename_i x _ _ hds
    cases hds
    refine .inl ?_
    by_cases ht : ∃ ys, d = .b (.tup ys)
    · obtain ⟨ys, rfl⟩ := ht
      cases e2
      refine .inr (rs.one e3 fun F1 ι1 v H1 l1 r1 q1 => ?_)
      obtain ⟨a, vs, rfl, h1, h2⟩ := q1
      exact ⟨a, rfl, ⟨vs, hK ▸ sqT_mono r1.rh.fz h1⟩, k F1 ι1 H1 _ l1 (r1.rh.lockAll nd) r1.fr (hK ▸ it_tup h1 h2)⟩
    · refine .inl (rs.one e3 fun F1 ι1 v H1 l1 r1 q1 => ?_)
      have e2' : lsqD S2 d = some xs := by
        unfold lsqD
        split
        · exact (ht ⟨_, rfl⟩).elim
        · exact e2
      obtain ⟨a, rfl, kp⟩ := lsq_keep (ds := [d]) r1.rh q1 (List.mem_singleton.mpr rfl) e2'
      obtain ⟨a', vs, ea, h1, h2⟩ := lsq_rel r1.rh q1 e2'
      cases ea
      exact ⟨a, rfl, ⟨vs, hK ▸ h1⟩, k F1 ι1 H1 _ l1 (r1.rh.lockAll nd) r1.fr (hK ▸ it_list kp)⟩
theorem mi_dv (ha : ME X C P iter ma) : MI X C P tg iter .dv [ma] := (pi_keys ha).imp fun σ H R h => by
  obtain ⟨F, ι, S, sl, ds, S1, xs, rs, e1, e2, nd, k⟩ := h
  unfold evs evs at e1
  obtain ⟨⟨d, S2⟩, e3, e1⟩ := Option.bind_eq_some_iff.mp e1
  cases e1
  unfold items at e2
  split at e2 <;> try contradiction
  · rename_i kvs _ hds
    cases hds
    cases e2
    refine rs.one e3 fun F1 ι1 v H1 l1 r1 q1 => ?_
    obtain ⟨a, o, ks, rfl, h1, h2⟩ := q1
    exact ⟨a, o, rfl, .inl ⟨ks, r1.rh.fz _ _ h1, k F1 ι1 H1 _ l1 (r1.rh.lockAll nd) r1.fr (it_keys h1 h2)⟩⟩
  rename_i n _ hds
  split at e2 <;> try contradiction
  rename_i kvs hS
  cases hds
  cases e2
  refine rs.one e3 fun F1 ι1 v H1 l1 r1 q1 => ?_
  obtain ⟨a, ha2, rfl⟩ := q1
  obtain ⟨o, ks, h1, h2, h3⟩ := r1.rh.ob n a _ ha2 hS
  exact ⟨a, o, rfl, .inl ⟨ks, h1, k F1 ι1 H1 _ l1 (r1.rh.lockAll nd) r1.fr (it_dv h3 h2)⟩⟩
theorem nd_dv (S ds xs) (e : items S .dv ds = some xs) : NoDic S ds := by
  intro n hn kvs hk
  unfold items at e
  split at e <;> try contradiction
  rename_i m _
  simp at hn
  subst hn
  rw [hk] at e
  cases e
theorem nd_sq (S ds xs) (e : items S .sq ds = some xs) : NoDic S ds := by
  intro n hn kvs hk
  unfold items at e
  split at e <;> try contradiction
  · simp at hn
    subst hn
    unfold seqD at e
    dsimp only at e
    rw [hk] at e
    cases e
end
end
end M
/-! MC13: comprehensions. -/
namespace M
open PySem PySem.Spec PyProof.Rows L2
theorem wipeS_length (σ : Sl) : ∀ vs : List Nat, (M.wipe σ vs).length = σ.length
  | [] => rfl
  | v :: vs => by unfold M.wipe; rw [List.length_set, wipeS_length σ vs]
theorem wipe_out (σ : L2.St) : ∀ (vs : List Nat) (j : Nat), j ∉ vs → (L2.wipe σ vs)[j]? = σ[j]?
  | [], _, _ => rfl
  | v :: vs, j, h => by
    unfold L2.wipe
    rw [List.getElem?_set_ne fun z => h (by rw [z]; exact List.mem_cons_self), wipe_out σ vs j fun z => h (List.mem_cons_of_mem _ z)]
theorem wipe_in (σ : L2.St) : ∀ (vs : List Nat) (j : Nat), j ∈ vs → j < σ.length → (L2.wipe σ vs)[j]? = some none
  | v :: vs, j, h, hl => by
    unfold L2.wipe
    by_cases hv : v = j
    · subst hv
      exact List.getElem?_set_self (by rw [wipe_length]; exact hl)
    · rw [List.getElem?_set_ne hv]
      rcases List.mem_cons.mp h with h | h
      · exact (hv h.symm).elim
      · exact wipe_in σ vs j h hl
theorem wipe_ext {σ σ2 : L2.St} {vs : List Nat} (hl : σ2.length = σ.length) (h : ∀ j, j ∉ vs → σ2[j]? = σ[j]?) : L2.wipe σ2 vs = L2.wipe σ vs := by
  refine List.ext_getElem? fun j => ?_
  by_cases hj : j ∈ vs
  · by_cases hh : j < σ.length
    · rw [wipe_in σ vs j hj hh, wipe_in σ2 vs j hj (hl ▸ hh)]
    · rw [List.getElem?_eq_none (by rw [wipe_length]; omega), List.getElem?_eq_none (by rw [wipe_length]; omega)]
  · rw [wipe_out σ vs j hj, wipe_out σ2 vs j hj, h j hj]
theorem wipe_only {σ σ2 : L2.St} {vs ks : List Nat} (h : Only ks (L2.wipe σ vs) σ2) (hk : ∀ k ∈ ks, k ∈ vs) : L2.wipe σ2 vs = L2.wipe σ vs := by
  refine wipe_ext (by rw [h.1, wipe_length]) fun j hj => ?_
  rw [h.2 j fun z => hj (hk j z), wipe_out σ vs j hj]
theorem RelSl.wipe {C : Ct} {F : Hp} {ι : List Addr} {sl : Sl} {σ : L2.St} (r : RelSl C F ι sl σ) : ∀ vs, RelSl C F ι (M.wipe sl vs) (L2.wipe σ vs)
  | [] => r
  | v :: vs => by
    have q := RelSl.wipe r vs
    refine ⟨by unfold M.wipe L2.wipe; rw [List.length_set, List.length_set]; exact q.1, fun j d h => ?_⟩
    unfold M.wipe at h
    unfold L2.wipe
    by_cases hv : v = j
    · subst hv
      have hl := (List.getElem?_eq_some_iff.mp h).1
      rw [List.length_set] at hl
      rw [List.getElem?_set_self hl] at h
      cases h
    · rw [List.getElem?_set_ne hv] at h
      rw [List.getElem?_set_ne hv]
      exact q.2 j d h
section
variable {X : Cx} {C : Ct} {P : Par} {F : Hp} {ι : List Addr} {S : Store} {sl : Sl} {σ : L2.St} {H : Hp}
theorem RS.w {tp : Hp} (rh : RH (C.w tp) F ι S H) (fr : Fre F ι) (r : RelSl C F ι sl σ) : RS (C.w tp) F ι sl S σ H := ⟨rh, fr, r.w⟩
theorem RelB.v {tp : Hp} {x : B} {v : V} (r : RelB (C.w tp) F x v) : RelB C F x v := RelB.w (C := C.w tp) (tp := C.tp) _ _ r
theorem RelBs.v {tp : Hp} {x : List B} {v : List V} (r : RelBs (C.w tp) F x v) : RelBs C F x v := RelBs.w (C := C.w tp) (tp := C.tp) _ _ r
end
/-- a step of the comprehension -/
noncomputable def lcF (P : Par) (t e : E) : Sl → Store → Option (Option B × Store) := fun σ2 S2 => (ev P t σ2 S2).bind fun c => (truth c.2 c.1).bind fun c1 => if c1 then (ev P e σ2 c.2).bind fun y => (asB y).map fun z => (some z.1, z.2) else some (none, c.2)
theorem lcF_stp {P : Par} (hS : CStp P.C ∧ CStp P.C2) {t e : E} {σ : Sl} {S : Store} {r : Option B × Store} (h : lcF P t e σ S = some r) : LK S r.2 := by
  unfold lcF at h
  obtain ⟨c, e1, h⟩ := Option.bind_eq_some_iff.mp h
  obtain ⟨c1, e2, h⟩ := Option.bind_eq_some_iff.mp h
  have g1 := ev_stp hS.1 hS.2 t σ S c e1 0 (Nat.zero_le _) (Nat.zero_le _)
  split at h
  · obtain ⟨y, e3, h⟩ := Option.bind_eq_some_iff.mp h
    obtain ⟨z, e4, h⟩ := Option.map_eq_some_iff.mp h
    cases h
    have g2 := g1.trans (ev_stp hS.1 hS.2 e σ _ y e3 0 (Nat.zero_le _) (Nat.zero_le _))
    obtain ⟨d, S4⟩ := y
    cases d <;> try (cases e4; done)
    cases e4
    exact g2.lk
  · cases h
    exact g1.lk

section
variable {X : Cx} {C : Ct} {P : Par} {pos spos : Pos} {elt tg iter : Expr} {ifs : List Expr} {scope : Scope} {own : List (PySem.Str × Nat)} {k : Ik} {g : Pt} {es : List E} {mt me' : E} {w : List Nat}
theorem lc_rd (hS : CStp P.C ∧ CStp P.C2) (hK : C.K = X.K) (m : Bool) (hnd : ∀ S ds xs, items S k ds = some xs → NoDic S ds) (hw : ∀ j ∈ slots g, j ∈ w) {σ : L2.St} {H : Hp} {Q : VK} (hT : ∀ p u, H p = some u → True)
    (h : rdE C P (.lc m g k es mt me' w) σ H Q) {wi : TI} (hwi : ∀ σ H R, rdI C P k es σ H R → wi σ H R) {tt : TT} (htt : ∀ tp σ H Q, rdT (C.w tp) P mt σ H Q → tt σ H Q) {te : TE} (hte : ∀ tp σ H Q, rdE (C.w tp) P me' σ H Q → te σ H Q) :
    tLc wi (gPt X.K g) tt te w σ H Q := by
  obtain ⟨F, ι, S, sl, d, S', rs, e, post⟩ := h
  unfold ev at e
  obtain ⟨⟨ds, S1⟩, e1, e⟩ := Option.bind_eq_some_iff.mp e
  obtain ⟨xs, e2, e⟩ := Option.bind_eq_some_iff.mp e
  dsimp only at e
  split at e
  · rename_i hz
    obtain ⟨⟨ys, S2⟩, e3, e⟩ := Option.bind_eq_some_iff.mp e
    obtain ⟨S3, e4, e⟩ := Option.bind_eq_some_iff.mp e
    have nd := hnd _ _ _ e2
    refine hwi _ _ _ ⟨F, ι, S, sl, ds, S1, xs, rs, e1, e2, nd, fun F1 ι1 H1 J l1 rh1 fr1 it D hD => ?_⟩
    have hDt : C.tp D = none := by
      cases q : C.tp D with
      | none => rfl
      | some u =>
        rw [(rh1.tm D u q).1] at hD
        cases hD
    have hnown : ∀ vs : List V, ∀ b, HO.lst vs ≠ .own b := fun _ _ z => nomatch z
    have hnfz : ∀ vs : List V, ¬ Fz (HO.lst vs) := fun _ ⟨_, _, z⟩ => nomatch z
    refine ⟨fun i n H => n = xs.length - i ∧ i ≤ xs.length ∧ ∃ F' ι' S' acc vacc rest, Le F1 ι1 F' ι' ∧ RH (C.w (upd C.tp D (.lst vacc))) F' ι' S' H ∧ Fre F' ι' ∧ RelBs C F' acc vacc ∧ acc.length ≤ i ∧ LK (lockAll S1 ds) S' ∧
      lcL (lcF P mt me') g (xs.drop i) (M.wipe sl w) S' = some (rest, S2) ∧ ys = acc ++ rest, ⟨xs.length, by simp, Nat.zero_le _, F1, ι1, _, [], [], ys, Le.refl _ _, rh1.tmNew hD (hnown _), fr1, rfl, Nat.le_refl _, LK.refl, by rw [List.drop_zero]; exact e3, rfl⟩, ?_⟩
    rintro i n H2 ⟨hm, hi', F2, ι2, S4, acc, vacc, rest, l2, rh2, fr2, ra, hal, lk2, e5, ey⟩
    have rsw := rs.rs.wipe w
    have hsl2 := rsw.mono (l1.trans l2)
    obtain ⟨go, stop⟩ := it _ F2 ι2 S4 H2 (fun b o e => (upd_ne (fun z => by rw [z, hDt] at e; cases e)).trans e) l2 rh2 fr2 lk2
    by_cases hlt : i < xs.length
    · rw [List.drop_eq_getElem_cons hlt] at e5
      unfold lcL at e5
      obtain ⟨sl3, e6, e5⟩ := Option.bind_eq_some_iff.mp e5
      obtain ⟨⟨oy, S5⟩, e7, e5⟩ := Option.bind_eq_some_iff.mp e5
      obtain ⟨⟨rest2, S6⟩, e8, e5⟩ := Option.map_eq_some_iff.mp e5
      obtain ⟨go1, yld⟩ := go i _ (List.getElem?_eq_getElem hlt)
      have lk5 := lk2.trans (lcF_stp hS e7)
      let Nx : Hp → Prop := fun H => ∃ F' ι' S' acc vacc rest, Le F1 ι1 F' ι' ∧ RH (C.w (upd C.tp D (.lst vacc))) F' ι' S' H ∧ Fre F' ι' ∧ RelBs C F' acc vacc ∧ acc.length ≤ i + 1 ∧ LK (lockAll S1 ds) S' ∧
        lcL (lcF P mt me') g (xs.drop (i + 1)) (M.wipe sl w) S' = some (rest, S2) ∧ ys = acc ++ rest
      refine .inr ⟨go1, Nx, fun H' q => ⟨xs.length - (i + 1), by omega, rfl, hlt, q⟩, fun v H3 hy => ?_⟩
      obtain ⟨F3, l3, rh3, fr3, rv⟩ := yld v H3 hy
      have rs3 : RS (C.w (upd C.tp D (.lst vacc))) F3 ι2 (M.wipe sl w) S4 (L2.wipe σ w) H3 := ⟨rh3, fr3, (hsl2.mono l3).w⟩
      refine asg_relO (C := C.w (upd C.tp D (.lst vacc))) hK g e6 (RelB.w _ _ rv) rs3 fun σ4 o4 rs4 => ⟨wipe_only o4 hw, ?_⟩
      unfold lcF at e7
      obtain ⟨⟨c, S7⟩, e9, e7⟩ := Option.bind_eq_some_iff.mp e7
      obtain ⟨c1, e10, e7⟩ := Option.bind_eq_some_iff.mp e7
      refine htt _ _ _ _ (rs4.oneT e9 e10 fun F5 ι5 H5 l5 r5 => ?_)
      cases c1 with
      | true =>
        rw [if_pos rfl] at e7 ⊢
        obtain ⟨⟨y, S8⟩, e11, e7⟩ := Option.bind_eq_some_iff.mp e7
        obtain ⟨z, e12, e7⟩ := Option.map_eq_some_iff.mp e7
        cases e7
        refine hte _ _ _ _ (r5.one e11 fun F6 ι6 u H6 l6 r6 q6 => ?_)
        cases y with
        | b yy =>
          cases e12
          cases e5
          obtain ⟨h1, h2, h3, h4⟩ := r6.rh.tm D (.lst vacc) (show upd C.tp D (.lst vacc) D = some _ from upd_same)
          have l26 : Le F2 ι2 F6 ι6 := l3.trans (l5.trans l6)
          have ra6 := RelBs.mono l26.1 _ _ ra
          refine ⟨vacc, h1, ?_, F6, ι6, _, acc ++ [yy], vacc ++ [u], rest2, l2.trans l26, r6.rh.tmSet (hnfz _) (hnown _), r6.fr, ra6.append (RelBs.one (RelB.v q6)), by rw [List.length_append, List.length_singleton]; omega, lk5, e8, by rw [ey, List.append_assoc] <;> rfl⟩
          rw [← ra6.length]
          exact Nat.lt_of_lt_of_le (by omega) (SZ_le hz)
        | ref n => cases e12
        | mix n => cases e12
      | false =>
        rw [if_neg Bool.false_ne_true] at e7 ⊢
        cases e7
        cases e5
        have l25 : Le F2 ι2 F5 ι5 := l3.trans l5
        exact ⟨F5, ι5, _, acc, vacc, _, l2.trans l25, r5.rh, r5.fr, RelBs.mono l25.1 _ _ ra, by omega, lk5, e8, ey⟩
    · have hi2 : i = xs.length := by omega
      subst hi2
      rw [List.drop_length] at e5
      cases e5
      rw [List.append_nil] at ey
      subst ey
      refine .inl ⟨stop, ?_⟩
      have p2 := post.mono (l1.trans l2)
      have rh3 : RH (C.w (upd C.tp D (.lst vacc))) F2 ι2 S3 H2 := rh2.unlockAll nd e4
      obtain ⟨h1, h2, h3, h4⟩ := rh3.tm D (.lst vacc) (show upd C.tp D (.lst vacc) D = some _ from upd_same)
      unfold newL at e
      split at e
      · split at e
        · cases e
          obtain ⟨n1, n2, n3⟩ := rh3.tmS (o := .lst ys) (hnfz _) fr2 hDt ⟨vacc, h1, ra⟩
          exact p2 _ _ _ _ n3 n1 n2 ⟨D, by rw [List.getElem?_append_right (by rw [rh3.len] <;> exact Nat.le_refl _), ← rh3.len, Nat.sub_self] <;> rfl, rfl⟩
        · cases e
          obtain ⟨n1, n2, n3⟩ := rh3.tmF (hnfz _) fr2 hDt
          exact p2 _ _ _ _ n3 n1 n2 ⟨D, vacc, rfl, upd_same, RelBs.mono n3.1 _ _ ra⟩
      · cases e
  · cases e
theorem mts_nil : PTs X [] (rdT C P (.k (.bl true))) := ⟨fun pins s σ H Q I h => pts_nil.run pins s σ H Q I (by
  obtain ⟨F, ι, S, sl, d, S', c, rs, e, t, post⟩ := h
  cases e
  cases t
  exact post F ι H (Le.refl _ _) rs.rh rs.fr)⟩
theorem mts_one {c : Expr} {mc : E} (h : MT X C P c mc) : PTs X [c] (rdT C P mc) := pts_one h
/-- [elt for target in iter if ..] -/
theorem me_lc (m : Bool) (hS : CStp P.C ∧ CStp P.C2) (hK : C.K = X.K) (hc : X.calm = true) (hN : X.N.Nodup) (hnd : ∀ S ds xs, items S k ds = some xs → NoDic S ds) (hi : MI X C P tg iter k es) (ok : BlkOk X.N X.env.scope scope own) (hww : own.map (·.2) = w)
    (hg : ∀ (s : Shared) (H : Hp) (Cc : Addr) (cl : List (PySem.Str × Addr)) (fp : List Addr), PG (X.blk s H scope (compEnvC scope cl Cc X.env) fp) tg (gPt X.K g))
    (ht : ∀ (tp : Hp) (s : Shared) (H : Hp) (Cc : Addr) (cl : List (PySem.Str × Addr)) (fp : List Addr), PTs (X.blk s H scope (compEnvC scope cl Cc X.env) fp) ifs (rdT (C.w tp) P mt))
    (he : ∀ (tp : Hp) (s : Shared) (H : Hp) (Cc : Addr) (cl : List (PySem.Str × Addr)) (fp : List Addr), ME (X.blk s H scope (compEnvC scope cl Cc X.env) fp) (C.w tp) P elt me')
    (hw : ∀ j ∈ slots g, j ∈ w := by decide) (hs : ∀ x, foldedSetIterable iter X.env x = pure x := by intro _; rfl) : ME X C P (.ListComp elt [⟨tg, iter, ifs, 0⟩] scope pos) (.lc m g k es mt me' w) := by
  refine (pe_lc (tt := fun σ H Q => ∃ tp, rdT (C.w tp) P mt σ H Q) (te := fun σ H Q => ∃ tp, rdE (C.w tp) P me' σ H Q) hc hN hi ok hg (fun s H Cc cl fp => ⟨fun pins s2 σ H Q I ⟨tp, h⟩ => (ht tp s _ Cc cl fp).run pins s2 σ H Q I h⟩) (fun s H Cc cl fp => ⟨fun pins s2 σ H Q I ⟨tp, h⟩ => (he tp s _ Cc cl fp).run pins s2 σ H Q I h⟩) hs).imp fun σ H Q h => ?_
  rw [hww]
  exact lc_rd hS hK m hnd hw (fun _ _ _ => trivial) h (fun _ _ _ h => h) (fun tp _ _ _ h => ⟨tp, h⟩) (fun tp _ _ _ h => ⟨tp, h⟩)
/-- name = [..] on one line -/
theorem ms_setlc {y : PySem.Str} {py : Pos} {i : Nat} (m : Bool) (hS : CStp P.C ∧ CStp P.C2) (hK : C.K = X.K) (hc : X.calm = true) (hN : X.N.Nodup) (hy : X.N[i]? = some y) (hyl : X.env.scope.names.lookup y = some .local)
    (hnd : ∀ S ds xs, items S k ds = some xs → NoDic S ds) (hi : MI X C P tg iter k es) (ok : BlkOk X.N X.env.scope scope own) (hww : own.map (·.2) = w)
    (hg : ∀ (s : Shared) (H : Hp) (Cc : Addr) (cl : List (PySem.Str × Addr)) (fp : List Addr), PG (X.blk s H scope (compEnvC scope cl Cc X.env) fp) tg (gPt X.K g))
    (ht : ∀ (tp : Hp) (s : Shared) (H : Hp) (Cc : Addr) (cl : List (PySem.Str × Addr)) (fp : List Addr), PTs (X.blk s H scope (compEnvC scope cl Cc X.env) fp) ifs (rdT (C.w tp) P mt))
    (he : ∀ (tp : Hp) (s : Shared) (H : Hp) (Cc : Addr) (cl : List (PySem.Str × Addr)) (fp : List Addr), ME (X.blk s H scope (compEnvC scope cl Cc X.env) fp) (C.w tp) P elt me')
    (hsw : swapsWith (.ListComp elt [⟨tg, iter, ifs, 0⟩] scope pos) (some (.Name y py)) spos.line X.env = pure true := by rfl)
    (hw : ∀ j ∈ slots g, j ∈ w := by decide) (hs : ∀ x, foldedSetIterable iter X.env x = pure x := by intro _; rfl) : MS X C P (.Assign [.Name y py] (.ListComp elt [⟨tg, iter, ifs, 0⟩] scope pos) spos) (.set i (.lc m g k es mt me' w)) := by
  refine (ps_setLc (tt := fun σ H Q => ∃ tp, rdT (C.w tp) P mt σ H Q) (te := fun σ H Q => ∃ tp, rdE (C.w tp) P me' σ H Q) hc hN hy hyl hsw hi ok hg (fun s H Cc cl fp => ⟨fun pins s2 σ H Q I ⟨tp, h⟩ => (ht tp s _ Cc cl fp).run pins s2 σ H Q I h⟩) (fun s H Cc cl fp => ⟨fun pins s2 σ H Q I ⟨tp, h⟩ => (he tp s _ Cc cl fp).run pins s2 σ H Q I h⟩) hs).imp fun D σ H h => ?_
  obtain ⟨F, ι, S, sl, r, rs, e, post⟩ := h
  unfold exec at e
  obtain ⟨⟨d, S1⟩, e1, e⟩ := Option.map_eq_some_iff.mp e
  cases e
  rw [hww]
  exact lc_rd hS hK m hnd hw (fun _ _ _ => trivial) (rs.one e1 fun F1 ι1 v H1 l1 r1 q1 => post F1 ι1 _ H1 l1 (r1.slot q1)) (fun _ _ _ h => h) (fun tp _ _ _ h => ⟨tp, h⟩) (fun tp _ _ _ h => ⟨tp, h⟩)
end
end M
/-! MC14: an answer that never changes is laid down for good. -/
namespace M
open PySem PySem.Spec PyProof.Rows L2
/-- references below n alone -/
def blD (n : Nat) : D → Prop
  | .b _ => True
  | .ref m => m < n
  | .mix xs => ∀ x ∈ xs, blD n x
theorem blD_b {n : Nat} {d : D} (h : isB d = true) : blD n d := by
  cases d with
  | b x => unfold blD; trivial
  | ref m => cases h
  | mix xs => cases h
section
variable {C : Ct} {F : Hp} {ι κ : List Addr}
mutual
theorem RelD.blD : ∀ (x : D) (v : V), RelD C F ι x v → M.blD ι.length x
  | .b x, v, _ => by unfold M.blD; trivial
  | .ref n, v, q => by
    obtain ⟨a, e, _⟩ := q
    unfold M.blD
    exact (List.getElem?_eq_some_iff.mp e).1
  | .mix xs, v, q => by
    obtain ⟨a, vs, e, h1, h2⟩ := q
    unfold M.blD
    exact RelDs.blD xs vs h2
termination_by structural x => x
theorem RelDs.blD : ∀ (xs : List D) (vs : List V), RelDs C F ι xs vs → ∀ x ∈ xs, M.blD ι.length x
  | [], _, _ => fun _ h => by cases h
  | x :: xs, _, q => by
    obtain ⟨v, r, e, h1, h2⟩ := q
    intro y hy
    rcases List.mem_cons.mp hy with h | h
    · rw [h]; exact RelD.blD x v h1
    · exact RelDs.blD xs r h2 y h
termination_by structural x => x
end
mutual
theorem RelD.cut : ∀ (x : D) (v : V), RelD C F (ι ++ κ) x v → M.blD ι.length x → RelD C F ι x v
  | .b x, v, q, _ => q
  | .ref n, v, q, h => by
    obtain ⟨a, e, ev⟩ := q
    unfold M.blD at h
    rw [List.getElem?_append_left h] at e
    exact ⟨a, e, ev⟩
  | .mix xs, v, q, h => by
    obtain ⟨a, vs, e, h1, h2⟩ := q
    unfold M.blD at h
    exact ⟨a, vs, e, h1, RelDs.cut xs vs h2 h⟩
termination_by structural x => x
theorem RelDs.cut : ∀ (xs : List D) (vs : List V), RelDs C F (ι ++ κ) xs vs → (∀ x ∈ xs, M.blD ι.length x) → RelDs C F ι xs vs
  | [], _, q, _ => q
  | x :: xs, _, q, h => by
    obtain ⟨v, r, e, h1, h2⟩ := q
    exact ⟨v, r, e, RelD.cut x v h1 (h x List.mem_cons_self), RelDs.cut xs r h2 fun y hy => h y (List.mem_cons_of_mem _ hy)⟩
termination_by structural x => x
end
theorem RelDf.blD : ∀ {fs : List (Nat × D)} {gs : List (PySem.Str × V)}, RelDf C F ι fs gs → ∀ p ∈ fs, M.blD ι.length p.2
  | [], _, _ => fun _ h => by cases h
  | (k, x) :: xs, _, q => by
    obtain ⟨j, v, r, e, h0, h1, h2⟩ := q
    intro y hy
    rcases List.mem_cons.mp hy with h | h
    · rw [h]; exact RelD.blD x v h1
    · exact RelDf.blD h2 y h
theorem RelDf.cut : ∀ {fs : List (Nat × D)} {gs : List (PySem.Str × V)}, RelDf C F (ι ++ κ) fs gs → (∀ p ∈ fs, M.blD ι.length p.2) → RelDf C F ι fs gs
  | [], _, q, _ => q
  | (k, x) :: xs, _, q, h => by
    obtain ⟨j, v, r, e, h0, h1, h2⟩ := q
    exact ⟨j, v, r, e, h0, RelD.cut x v h1 (h _ List.mem_cons_self), RelDf.cut h2 fun y hy => h y (List.mem_cons_of_mem _ hy)⟩
end
/-- what stays of the heap while dicts are laid down -/
def Hx (H H' : Hp) : Prop := ∀ a o, H a = some o → (∀ ks, o ≠ .dK ks) → H' a = some o
theorem Hx.refl {H : Hp} : Hx H H := fun _ _ h _ => h
theorem Hx.trans {H H1 H2 : Hp} (h : Hx H H1) (h' : Hx H1 H2) : Hx H H2 := fun a o e n => h' a o (h a o e n) n
structure Wk (C : Ct) (F : Hp) (ι : List Addr) (base : Nat) (S : Store) (H : Hp) : Prop where
  fz : Sub F H
  len : ι.length = S.length
  nd : ι.Nodup
  lo : ∀ (n : Nat) a o, n < base → ι[n]? = some a → S[n]? = some o → RelO C F ι H a o ∧ F a = none
  hi : ∀ (n : Nat) a o, base ≤ n → ι[n]? = some a → S[n]? = some o → (RelO C F ι H a o ∧ ∀ ks, F a ≠ some (.dK ks)) ∨ ∃ kvs od ks, o = .dic kvs ∧ F a = some (.frz od (.dK ks)) ∧ RelBk C F kvs ks
  tm : ∀ a o, C.tp a = some o → H a = some o ∧ F a = none ∧ (a ∉ ι ∨ Fz o) ∧ ∀ b, o ≠ .own b
theorem RH.wk {C : Ct} {F : Hp} {ι : List Addr} {S : Store} {H : Hp} (r : RH C F ι S H) (fr : Fre F ι) (base : Nat) : Wk C F ι base S H :=
  ⟨r.fz, r.len, r.nd, fun n a o _ ha ho => ⟨r.ob n a o ha ho, fr.at ha⟩, fun n a o _ ha ho => .inl ⟨r.ob n a o ha ho, fun ks z => by rw [fr.at ha] at z; cases z⟩, r.tm⟩
section
variable {C : Ct} {F : Hp} {ι : List Addr} {base : Nat} {S : Store} {H : Hp}
/-- more is known to stand for good: at addresses of objects of one's own, or at an instance's dict -/
theorem Wk.more (r : Wk C F ι base S H) {F' : Hp} (l : Sub F F') (h : Sub F' H) (hn : ∀ b o, F' b = some o → F b = some o ∨ ((∃ n, base ≤ n ∧ ι[n]? = some b) ∨ ∃ c, o = .own c) ∧ (∀ ks, o ≠ .dK ks) ∧ ¬ Fz o) : Wk C F' ι base S H := by
  have le : Le F ι F' ι := ⟨l, [], by simp⟩
  refine ⟨h, r.len, r.nd, fun n a o hb ha ho => ?_, fun n a o hb ha ho => ?_, fun a o e => ?_⟩
  · obtain ⟨q, q2⟩ := r.lo n a o hb ha ho
    refine ⟨q.mono le, ?_⟩
    cases e : F' a with
    | none => rfl
    | some u =>
      rcases hn a u e with z | ⟨⟨m, hm, hm2⟩ | ⟨c, hc⟩, _⟩
      · rw [q2] at z; cases z
      · have := nodup_get r.nd ha hm2
        omega
      · subst hc
        exact (q.notOwn (h a _ e)).elim
  · rcases r.hi n a o hb ha ho with ⟨q, q2⟩ | ⟨kvs, od, ks, q1, q2, q3⟩
    · refine .inl ⟨q.mono le, fun ks z => ?_⟩
      rcases hn a _ z with z | ⟨_, z, _⟩
      · exact q2 ks z
      · exact z ks rfl
    · exact .inr ⟨kvs, od, ks, q1, l _ _ q2, RelBk.mono l _ _ q3⟩
  · obtain ⟨h1, h2, h3, h4⟩ := r.tm a o e
    refine ⟨h1, ?_, h3, h4⟩
    cases e : F' a with
    | none => rfl
    | some u =>
      rcases hn a u e with z | ⟨⟨m, hm, hm2⟩ | ⟨c, hc⟩, _, hnz⟩
      · rw [h2] at z; cases z
      · have h5 := h a u e
        rw [h1] at h5
        cases h5
        exact ((h3.resolve_right hnz) (List.mem_of_getElem? hm2)).elim
      · subst hc
        have := h a _ e
        rw [h1] at this
        cases this
        exact (h4 c rfl).elim
/-- a dict of one's own is laid down -/
theorem Wk.lockd (r : Wk C F ι base S H) {n : Nat} {a : Addr} {kvs : List (Kd × B)} {ks : List (L2.Key × V)} {od : Obj} (hb : base ≤ n) (ha : ι[n]? = some a) (hS : S[n]? = some (.dic kvs)) (hH : H a = some (.dK ks)) (hr : RelBk C F kvs ks) (hF : F a = none) :
    Wk C (upd F a (.frz od (.dK ks))) ι base S (upd H a (.frz od (.dK ks))) := by
  have l : Sub F (upd F a (.frz od (.dK ks))) := fun b o e => by
    rw [upd_ne fun z => by rw [z, hF] at e; cases e]
    exact e
  have le : Le F ι (upd F a (.frz od (.dK ks))) ι := ⟨l, [], by simp⟩
  have hown : ∀ b c, H b = some (.own c) → upd H a (.frz od (.dK ks)) b = some (.own c) := fun b c e => by
    rw [upd_ne fun z => by rw [z, hH] at e; cases e]
    exact e
  refine ⟨fun b o e => ?_, r.len, r.nd, fun m b o hm hb' ho => ?_, fun m b o hm hb' ho => ?_, fun b o e => ?_⟩
  · by_cases h : b = a
    · subst h
      rw [upd_same] at e ⊢
      exact e
    · rw [upd_ne h] at e ⊢
      exact r.fz b o e
  · have hne : b ≠ a := fun z => by
      subst z
      have := nodup_get r.nd ha hb'
      omega
    obtain ⟨q, q2⟩ := r.lo m b o hm hb' ho
    exact ⟨(q.mono le).at (by rw [upd_ne hne]) fun c hc => hown c _ hc, by rw [upd_ne hne]; exact q2⟩
  · by_cases h : m = n
    · subst h
      rw [ha] at hb'
      cases hb'
      rw [hS] at ho
      cases ho
      exact .inr ⟨kvs, od, ks, rfl, upd_same, RelBk.mono l _ _ hr⟩
    · have hne : b ≠ a := fun z => by
        subst z
        exact h (nodup_get r.nd hb' ha)
      rcases r.hi m b o hm hb' ho with ⟨q, q2⟩ | ⟨kvs', od', ks', q1, q2, q3⟩
      · exact .inl ⟨(q.mono le).at (by rw [upd_ne hne]) fun c hc => hown c _ hc, fun ks => by rw [upd_ne hne]; exact q2 ks⟩
      · exact .inr ⟨kvs', od', ks', q1, by rw [upd_ne hne]; exact q2, RelBk.mono l _ _ q3⟩
  · obtain ⟨h1, h2, h3, h4⟩ := r.tm b o e
    have hne : b ≠ a := fun z => (h3.resolve_right (fz_d hH o (by rw [← z]; exact h1))) (by rw [z]; exact List.mem_of_getElem? ha)
    exact ⟨by rw [upd_ne hne]; exact h1, by rw [upd_ne hne]; exact h2, h3, h4⟩
end
section
variable {C : Ct} {ι : List Addr} {base : Nat} {S : Store} {Q : Hp → Prop}
/-- what the walk through a value says -/
def FrzP (C : Ct) (ι : List Addr) (base : Nat) (S : Store) (Q : Hp → Prop) (k : Nat) : Prop := ∀ (d : D) (y : B) (v : V) (F H : Hp), Wk C F ι base S H → RelD C F ι d v → frz S base k d = some y →
  (∀ F' H', Sub F F' → Hx H H' → Wk C F' ι base S H' → RelB C F' y v → Gh H' Q) → Gh H Q
theorem frz_list {k : Nat} (ih : FrzP C ι base S Q k) : ∀ (ds : List D) (ys : List B) (vs : List V) (F H : Hp), Wk C F ι base S H → RelDs C F ι ds vs → mapO (frz S base k) ds = some ys →
    (∀ F' H', Sub F F' → Hx H H' → Wk C F' ι base S H' → RelBs C F' ys vs → Gh H' Q) → Gh H Q
  | [], ys, vs, F, H, w, r, e, K => by
    cases e
    exact K F H (Sub.refl F) .refl w r
  | d :: ds, ys, vs, F, H, w, r, e, K => by
    unfold mapO at e
    obtain ⟨y, e1, e⟩ := Option.bind_eq_some_iff.mp e
    obtain ⟨zs, e2, e⟩ := Option.map_eq_some_iff.mp e
    cases e
    obtain ⟨v, vr, rfl, h1, h2⟩ := r
    refine ih d y v F H w h1 e1 fun F1 H1 l1 x1 w1 r1 => ?_
    refine frz_list ih ds zs vr F1 H1 w1 (RelDs.mono ⟨l1, [], by simp⟩ _ _ h2) e2 fun F2 H2 l2 x2 w2 r2 => ?_
    exact K F2 H2 (l1.trans l2) (x1.trans x2) w2 ⟨v, vr, rfl, RelB.mono l2 _ _ r1, r2⟩
theorem frz_flds {k : Nat} (ih : FrzP C ι base S Q k) : ∀ (ds : List (Nat × D)) (ys : List (Nat × B)) (vs : List (PySem.Str × V)) (F H : Hp), Wk C F ι base S H → RelDf C F ι ds vs → mapO (fun p => (frz S base k p.2).map fun x => (p.1, x)) ds = some ys →
    (∀ F' H', Sub F F' → Hx H H' → Wk C F' ι base S H' → RelBf C F' ys vs → Gh H' Q) → Gh H Q
  | [], ys, vs, F, H, w, r, e, K => by
    cases e
    exact K F H (Sub.refl F) .refl w r
  | (j, d) :: ds, ys, vs, F, H, w, r, e, K => by
    unfold mapO at e
    obtain ⟨y, e1, e⟩ := Option.bind_eq_some_iff.mp e
    obtain ⟨zs, e2, e⟩ := Option.map_eq_some_iff.mp e
    obtain ⟨y1, e3, e4⟩ := Option.map_eq_some_iff.mp e1
    cases e
    cases e4
    obtain ⟨nm, v, vr, rfl, h0, h1, h2⟩ := r
    refine ih d y1 v F H w h1 e3 fun F1 H1 l1 x1 w1 r1 => ?_
    refine frz_flds ih ds zs vr F1 H1 w1 (RelDf.mono ⟨l1, [], by simp⟩ _ _ h2) e2 fun F2 H2 l2 x2 w2 r2 => ?_
    exact K F2 H2 (l1.trans l2) (x1.trans x2) w2 ⟨(nm, v), vr, rfl, ⟨h0, RelB.mono l2 _ _ r1⟩, r2⟩
theorem frz_go : ∀ k, FrzP C ι base S Q k
  | 0 => fun d y v F H w r e K => by
    cases d with
    | b x =>
      cases e
      exact K F H (Sub.refl F) .refl w r
    | ref n => cases e
    | mix xs => cases e
  | k + 1 => fun d y v F H w r e K => by
    cases d with
    | b x =>
      cases e
      exact K F H (Sub.refl F) .refl w r
    | mix xs =>
      obtain ⟨ys, e1, e⟩ := Option.map_eq_some_iff.mp e
      cases e
      obtain ⟨a, vs, rfl, h1, h2⟩ := r
      exact frz_list (frz_go k) xs ys vs F H w h2 e1 fun F' H' l x w' r' => K F' H' l x w' ⟨a, vs, rfl, sqT_mono l h1, r'⟩
    | ref n =>
      unfold frz at e
      split at e
      · cases e
      · rename_i hn
        obtain ⟨a, ha, rfl⟩ := r
        split at e
        · rename_i xs hS
          cases e
          rcases w.hi n a _ (by omega) ha hS with ⟨⟨vs, h1, h2⟩, h3⟩ | ⟨kvs, od, ks, q, _⟩
          · have l : Sub F (upd F a (.lst vs)) := fun b o e => by
              by_cases hb : b = a
              · subst hb
                have := w.fz _ _ e
                rw [h1] at this
                cases this
                exact upd_same
              · rw [upd_ne hb]; exact e
            refine K (upd F a (.lst vs)) H l .refl (w.more l (fun b o e => ?_) fun b o e => ?_) ⟨a, vs, rfl, upd_same, RelBs.mono l _ _ h2⟩
            · by_cases hb : b = a
              · subst hb
                rw [upd_same] at e
                cases e
                exact h1
              · rw [upd_ne hb] at e
                exact w.fz b o e
            · by_cases hb : b = a
              · subst hb
                rw [upd_same] at e
                cases e
                exact .inr ⟨.inl ⟨n, by omega, ha⟩, (fun _ z => nomatch z), fun ⟨_, _, z⟩ => nomatch z⟩
              · rw [upd_ne hb] at e
                exact .inl e
          · cases q
        · rename_i kvs hS
          cases e
          rcases w.hi n a _ (by omega) ha hS with ⟨⟨ks, h1, h2⟩, h3⟩ | ⟨kvs', od, ks, q, q2, q3⟩
          · have hF : F a = none := by
              cases e : F a with
              | none => rfl
              | some u =>
                have := w.fz _ _ e
                rw [h1] at this
                cases this
                exact (h3 ks e).elim
            refine .lock a (.dK ks) h1 trivial fun od => ?_
            have l : Sub F (upd F a (.frz od (.dK ks))) := fun b o e => by
              rw [upd_ne fun z => by rw [z, hF] at e; cases e]
              exact e
            refine K (upd F a (.frz od (.dK ks))) _ l (fun b o e no => ?_) (w.lockd (by omega) ha hS h1 h2 hF) ⟨a, od, ks, rfl, upd_same, RelBk.mono l _ _ h2⟩
            rw [upd_ne fun z => by rw [z, h1] at e; cases e; exact no ks rfl]
            exact e
          · cases q
            exact K F H (Sub.refl F) .refl w ⟨a, od, ks, rfl, q2, q3⟩
        · rename_i c fs hS
          obtain ⟨ys, e1, e⟩ := Option.map_eq_some_iff.mp e
          cases e
          rcases w.hi n a _ (by omega) ha hS with ⟨⟨Da, dx, gs, h0, h1, h2, h3⟩, _⟩ | ⟨kvs', od, ks, q, q2, q3⟩
          · refine frz_flds (frz_go k) fs ys gs F H w h3 e1 fun F1 H1 l1 x1 w1 r1 => ?_
            have g1 := x1 _ _ h1 (fun _ z => nomatch z)
            have g2 := x1 _ _ h2 (fun _ z => nomatch z)
            have hda : dx ≠ a := fun z => by rw [z, g1] at g2; cases g2
            have l : Sub F1 (upd (upd F1 dx (.own a)) a (.ins Da dx gs)) := fun b o e => by
              by_cases hb : b = a
              · subst hb
                have := w1.fz _ _ e
                rw [g1] at this
                cases this
                exact upd_same
              · rw [upd_ne hb]
                by_cases hb2 : b = dx
                · subst hb2
                  have := w1.fz _ _ e
                  rw [g2] at this
                  cases this
                  exact upd_same
                · rw [upd_ne hb2]; exact e
            refine K _ H1 (l1.trans l) x1 (w1.more l (fun b o e => ?_) fun b o e => ?_) ⟨a, Da, dx, gs, rfl, h0, upd_same, by rw [upd_ne hda]; exact upd_same, RelBf.mono l _ _ r1⟩
            · by_cases hb : b = a
              · subst hb
                rw [upd_same] at e
                cases e
                exact g1
              · rw [upd_ne hb] at e
                by_cases hb2 : b = dx
                · subst hb2
                  rw [upd_same] at e
                  cases e
                  exact g2
                · rw [upd_ne hb2] at e
                  exact w1.fz b o e
            · by_cases hb : b = a
              · subst hb
                rw [upd_same] at e
                cases e
                exact .inr ⟨.inl ⟨n, by omega, ha⟩, (fun _ z => nomatch z), fun ⟨_, _, z⟩ => nomatch z⟩
              · rw [upd_ne hb] at e
                by_cases hb2 : b = dx
                · subst hb2
                  rw [upd_same] at e
                  cases e
                  exact .inr ⟨.inr ⟨a, rfl⟩, (fun _ z => nomatch z), fun ⟨_, _, z⟩ => nomatch z⟩
                · rw [upd_ne hb2] at e
                  exact .inl e
          · cases q
        · cases e
end
/-- the end of a def whose answer never changes -/
theorem frz_end {C : Ct} {F F2 : Hp} {ι ι2 : List Addr} {S S2 : Store} {H H2 : Hp} {d : D} {y : B} {v : V} {Q : Hp → Prop} (rh0 : RH C F ι S H) (l : Le F ι F2 ι2) (rh : RH C F2 ι2 S2 H2) (fr : Fre F2 ι2) (st : Stp S.length S S2) (r : RelD C F2 ι2 d v) (e : frz S2 S.length 8 d = some y)
    (K : ∀ F' H', Le F ι F' ι → RH C F' ι (S2.take S.length) H' → Fre F' ι → RelB C F' y v → Q H') : Gh H2 Q := by
  refine frz_go 8 d y v F2 H2 (rh.wk fr S.length) r e fun F' H' l2 _ w r' => .here ?_
  obtain ⟨l1, κ, rfl⟩ := l
  have hl := rh0.len
  have hs := st.len
  refine K F' H' ⟨l1.trans l2, [], by simp⟩ ⟨w.fz, by rw [List.length_take, hl]; omega, (List.nodup_append.mp rh.nd).1, fun n a o ha ho => ?_, fun a o e => ?_⟩ (fun a ha => ?_) r'
  · have hn : n < S.length := by
      rw [← hl]
      exact (List.getElem?_eq_some_iff.mp ha).1
    rw [List.getElem?_take_of_lt hn] at ho
    have ha2 : (ι ++ κ)[n]? = some a := by
      rw [List.getElem?_append_left (by omega)]
      exact ha
    obtain ⟨q, _⟩ := w.lo n a o hn ha2 ho
    cases o with
    | lst xs => exact q
    | dic xs => exact q
    | lockl xs => exact q
    | lockd xs => exact q
    | ins c fs =>
      obtain ⟨Da, dx, gs, h0, h1, h2, h3⟩ := q
      refine ⟨Da, dx, gs, h0, h1, h2, h3.cut fun p hp => ?_⟩
      obtain ⟨fs0, e0, q0⟩ := st.cls n hn c fs ho
      rcases q0 p hp with hp | hp
      · obtain ⟨_, _, _, _, _, _, z⟩ := rh0.ob n a _ ha e0
        exact z.blD p hp
      · exact blD_b hp
  · obtain ⟨h1, h2, h3, h4⟩ := w.tm a o e
    exact ⟨h1, h2, h3.imp (fun h3 z => h3 (List.mem_append_left _ z)) id, h4⟩
  · obtain ⟨n, hn, e⟩ := List.getElem_of_mem ha
    have ha' : ι[n]? = some a := by rw [← e]; exact List.getElem?_eq_getElem hn
    have ha2 : (ι ++ κ)[n]? = some a := by
      rw [List.getElem?_append_left hn]
      exact ha'
    have hS : n < S2.length := by omega
    exact (w.lo n a _ (by omega) ha2 (List.getElem?_eq_getElem hS)).2
end M
/-! MC15: calls, defs. -/
namespace M
open PySem PySem.Spec PyProof.Rows L2
/-- what a def of the text does: what the small interpreter says -/
def spE (T : Tab) (C : Ct) (k f : Nat) : Sp := fun vs H Q _ => ∃ tp F ι S base ds d S', RH (C.w tp) F ι S H ∧ Fre F ι ∧ RelDs (C.w tp) F ι ds vs ∧ evC T k base f ds S = some (d, S') ∧
  ∀ F' ι' v H', Le F ι F' ι' → RH (C.w tp) F' ι' S' H' → Fre F' ι' → RelD (C.w tp) F' ι' d v → Q v H'
/-- the machine's parts in a body at level k -/
noncomputable def par (T : Tab) (k b : Nat) : Par := ⟨evC T k, (match k with
  | 0 => fun _ _ _ _ => none
  | j + 1 => evC T j), T.init, T.meth, T.fo, b, T.eqm⟩
theorem par_stp (T : Tab) (k b : Nat) : CStp (par T k b).C ∧ CStp (par T k b).C2 := by
  refine ⟨evC_stp T k, ?_⟩
  cases k with
  | zero => exact fun _ _ _ _ _ e => by cases e
  | succ j => exact evC_stp T j
/-- the def with number f stands at the global x -/
def Gf (P : Program) (w : World) (K : PySem.W.Frag) (mg : PySem.Str → Option Value) (base : Heap) (T : Tab) (C : Ct) (k f : Nat) (x : PySem.Str) : Prop :=
  ∃ (fa : Addr) (fd : FuncData) (ps : List PySem.Str), FnOk P w K mg base CX0 k fa fd ps (spE T C k f) ∧ mg x = some (.ref fa) ∧ PySem.W.keepIn K (.ref fa) = true ∧ Binds K fd ps []
/-- .. is the method m of class c -/
def Gm (P : Program) (w : World) (K : PySem.W.Frag) (mg : PySem.Str → Option Value) (base : Heap) (T : Tab) (C : Ct) (k f c : Nat) (m : PySem.Str) : Prop :=
  ∃ (fa D : Addr) (fd : FuncData) (ps : List PySem.Str), FnOk P w K mg base CX0 k fa fd ps (spE T C k f) ∧ C.cl c = some D ∧ Cls K D ∧ Meth K D m fa ∧ Binds K fd ps []
/-- .. is what the class c, at the global x, is made by -/
def Gc (P : Program) (w : World) (K : PySem.W.Frag) (mg : PySem.Str → Option Value) (base : Heap) (T : Tab) (C : Ct) (k f c : Nat) (x : PySem.Str) : Prop :=
  ∃ (fa D : Addr) (fd : FuncData) (ps : List PySem.Str), FnOk P w K mg base CX0 k fa fd ps (spE T C k f) ∧ C.cl c = some D ∧ Mk K D fa ∧ mg x = some (.ref D) ∧ Binds K fd ps []
section
variable {X : Cx} {C : Ct} {T : Tab} {k b f : Nat} {pos p apos : Pos} {e o : Expr} {es : List Expr} {ms : List E} {mo : E} {x : PySem.Str}
theorem sp_call {F : Hp} {ι : List Addr} {S S' : Store} {H : Hp} {ds : List D} {vs : List V} {d : D} {Q : VK} {j base : Nat} (rh : RH C F ι S H) (fr : Fre F ι) (r : RelDs C F ι ds vs) (e : evC T j base f ds S = some (d, S')) (post : Post C F ι S' d Q) : spE T C j f (vs ++ []) H Q E0 := by
  rw [List.append_nil]
  exact ⟨C.tp, F, ι, S, base, ds, d, S', rh, fr, r, e, post⟩
theorem me_call (G : Gf X.prog X.w X.K X.mg X.base T C k f x) (hr : Room k X.A) (hg : Gl X x) (ha : MA X C (par T k b) (e :: es) ms) (hdb : (x == ("__debug__" : PySem.Str)) = false := by decide) (he : starEach (e :: es) X.env = (false, eval e X.env) :: starEach es X.env := by rfl) (hpl : (backTo pos (starEach es X.env)).any (·.1) = false := by rfl) :
    ME X C (par T k b) (.Call (.Name x p) (e :: es) [] pos) (.call f ms) := by
  obtain ⟨fa, fd, ps, hF, hm, hk, hb⟩ := G
  refine (pe_call hF hr hg hm hk hb .nil pass0 ha hdb he hpl).imp fun σ H Q h => ?_
  obtain ⟨F, ι, S, sl, d, S', rs, e, post⟩ := h
  unfold ev at e
  obtain ⟨⟨ds, S1⟩, e1, e⟩ := Option.bind_eq_some_iff.mp e
  exact rs.args e1 fun F1 ι1 vs H1 l1 r1 q1 => sp_call r1.rh r1.fr q1 e (post.mono l1)
theorem me_call0 (G : Gf X.prog X.w X.K X.mg X.base T C k f x) (hr : Room k X.A) (hg : Gl X x) (hdb : (x == ("__debug__" : PySem.Str)) = false := by decide) :
    ME X C (par T k b) (.Call (.Name x p) [] [] pos) (.call f []) := by
  obtain ⟨fa, fd, ps, hF, hm, hk, hb⟩ := G
  refine (pe_call0 hF hr hg hm hk hb .nil pass0 hdb).imp fun σ H Q h => ?_
  obtain ⟨F, ι, S, sl, d, S', rs, e, post⟩ := h
  unfold ev at e
  obtain ⟨⟨ds, S1⟩, e1, e⟩ := Option.bind_eq_some_iff.mp e
  cases e1
  exact sp_call (ds := []) (vs := []) rs.rh rs.fr rfl e post
/-! ### methods -/
theorem _root_.L2.PE.ex {X : Cx} {e : Expr} {α : Type} {t : α → TE} (h : ∀ a, PE X e (t a)) : PE X e (fun σ H Q => ∃ a, t a σ H Q) := ⟨fun pins s σ H Q I ⟨a, q⟩ => (h a).run pins s σ H Q I q⟩
theorem _root_.L2.PE.exP {X : Cx} {e : Expr} {A : Prop} {t : TE} (h : A → PE X e t) : PE X e (fun σ H Q => A ∧ t σ H Q) := ⟨fun pins s σ H Q I ⟨a, q⟩ => (h a).run pins s σ H Q I q⟩
theorem noB {F : Hp} {m : Nat} {nm : PySem.Str} (hm : C.N.flds[m]? = some nm) : ∀ {fs : List (Nat × B)} {gs : List (PySem.Str × V)}, RelBf C F fs gs → fget fs m = none → gs.lookup nm = none
  | [], _, q, _ => by
    cases (show _ = [] from q)
    rfl
  | (g, w) :: r, _, q, e => by
    obtain ⟨⟨j, v⟩, rr, rfl, ⟨hj, h2⟩, h3⟩ := q
    unfold fget at e
    rw [look_cons]
    split at e
    · cases e
    · rename_i hg
      rw [if_neg (fun z : nm = j => hg (flds_inj hm (by rw [z]; exact hj)))]
      exact noB hm h3 e
theorem noD {F : Hp} {ι : List Addr} {m : Nat} {nm : PySem.Str} (hm : C.N.flds[m]? = some nm) : ∀ {fs : List (Nat × D)} {gs : List (PySem.Str × V)}, RelDf C F ι fs gs → fget fs m = none → gs.lookup nm = none
  | [], _, q, _ => by
    cases (show _ = [] from q)
    rfl
  | (g, w) :: r, _, q, e => by
    obtain ⟨j, v, rr, rfl, hj, h2, h3⟩ := q
    unfold fget at e
    rw [look_cons]
    split at e
    · cases e
    · rename_i hg
      rw [if_neg (fun z : nm = j => hg (flds_inj hm (by rw [z]; exact hj)))]
      exact noD hm h3 e
theorem clsOf_rel {F ι S H} {m : Nat} {nm : PySem.Str} (hm : C.N.flds[m]? = some nm) {x : D} {v : V} {c : Nat} (rh : RH C F ι S H) (rx : RelD C F ι x v) (e : clsOf S m x = some c) : ∃ a D dx fs, v = .ref a ∧ C.cl c = some D ∧ H a = some (.ins D dx fs) ∧ fs.lookup nm = none := by
  unfold clsOf at e
  split at e
  · split at e
    · rename_i h
      cases e
      obtain ⟨a, D, dx, gs, rfl, hc, h1, h2, h3⟩ := rx
      exact ⟨a, D, dx, gs, rfl, hc, rh.fz _ _ h1, noB hm h3 (Option.isNone_iff_eq_none.mp h)⟩
    · cases e
  · rename_i n
    obtain ⟨a, ha, rfl⟩ := rx
    obtain ⟨o, ho, q⟩ := rh.obj ha
    rw [ho] at e
    cases o <;> try (cases e; done)
    dsimp only at e
    split at e
    · rename_i h
      cases e
      obtain ⟨D, dx, gs, hc, h1, h2, h3⟩ := q
      exact ⟨a, D, dx, gs, rfl, hc, h1, noD hm h3 (Option.isNone_iff_eq_none.mp h)⟩
    · cases e
  · cases e
theorem me_meth {pl : Sem Bool} (m : Nat) {nm : PySem.Str} (G : ∀ c f, T.meth c m = some f → Gm X.prog X.w X.K X.mg X.base T C k f c nm) (hr : Room k X.A) (ho : ME X C (par T k b) o mo) (ha : MA X C (par T k b) (e :: es) ms) (hf : C.N.flds[m]? = some nm := by rfl)
    (hst : starEach (e :: es) X.env = (false, eval e X.env) :: starEach es X.env := by rfl) (hpl : (backTo pos (starEach es X.env)).any (·.1) = false := by rfl)
    (ht : eval (.Call (.Attribute o nm apos) (e :: es) [] pos) X.env = (do
      let ov ← eval o X.env
      standAt apos.atName
      let (f, first) ← holding [ov] (getMethod ov nm pl)
      callWith pos f first (backTo pos (starEach (e :: es) X.env)) (backToKw pos (keywordEach [] X.env))) := by rfl) : ME X C (par T k b) (.Call (.Attribute o nm apos) (e :: es) [] pos) (.meth mo m ms) := by
  refine (PE.ex fun c => PE.ex fun f => PE.ex fun D => PE.exP (A := T.meth c m = some f ∧ C.cl c = some D) fun ⟨h, hD⟩ => (?_ : PE X _ (tMeth D nm (spE T C k f) [] E0 (rdE C (par T k b) mo) (rdA C (par T k b) ms)))).imp fun σ H Q h => ?_
  · obtain ⟨fa, D', fd, ps, hF, hc, hcl, hme, hb⟩ := G c f h
    cases hD.symm.trans hc
    exact pe_meth ho hcl hme hF hr hb .nil pass0 ha hst hpl ht
  · obtain ⟨F, ι, S, sl, d, S', rs, e, post⟩ := h
    unfold ev at e
    obtain ⟨⟨y, S1⟩, e1, e⟩ := Option.bind_eq_some_iff.mp e
    obtain ⟨c, e2, e⟩ := Option.bind_eq_some_iff.mp e
    obtain ⟨f, e3, e⟩ := Option.bind_eq_some_iff.mp e
    obtain ⟨⟨ds, S2⟩, e4, e⟩ := Option.bind_eq_some_iff.mp e
    obtain ⟨fa, D', fd, ps, hF, hc, hcl, hme, hb⟩ := G c f e3
    refine ⟨c, f, D', ⟨e3, hc⟩, rs.one e1 fun F1 ι1 v H1 l1 r1 q1 => ?_⟩
    obtain ⟨a, D2, dx, fs, rfl, h1, h2, h3⟩ := clsOf_rel hf r1.rh q1 e2
    cases hc.symm.trans h1
    refine ⟨a, dx, fs, rfl, h2, h3, r1.args e4 fun F2 ι2 vs H2 l2 r2 q2 => ?_⟩
    exact sp_call (ds := y :: ds) (vs := .ref a :: vs) r2.rh r2.fr ⟨_, _, rfl, q1.mono l2, q2⟩ e (post.mono (l1.trans l2))
theorem me_meth0 {pl : Sem Bool} (m : Nat) {nm : PySem.Str} (G : ∀ c f, T.meth c m = some f → Gm X.prog X.w X.K X.mg X.base T C k f c nm) (hr : Room k X.A) (ho : ME X C (par T k b) o mo) (hf : C.N.flds[m]? = some nm := by rfl)
    (ht : eval (.Call (.Attribute o nm apos) [] [] pos) X.env = (do
      let ov ← eval o X.env
      standAt apos.atName
      let (f, first) ← holding [ov] (getMethod ov nm pl)
      callWith pos f first (backTo pos (starEach [] X.env)) (backToKw pos (keywordEach [] X.env))) := by rfl) : ME X C (par T k b) (.Call (.Attribute o nm apos) [] [] pos) (.meth mo m []) := by
  refine (PE.ex fun c => PE.ex fun f => PE.ex fun D => PE.exP (A := T.meth c m = some f ∧ C.cl c = some D) fun ⟨h, hD⟩ => (?_ : PE X _ (tMeth D nm (spE T C k f) [] E0 (rdE C (par T k b) mo) tNil))).imp fun σ H Q h => ?_
  · obtain ⟨fa, D', fd, ps, hF, hc, hcl, hme, hb⟩ := G c f h
    cases hD.symm.trans hc
    exact pe_meth0 ho hcl hme hF hr hb .nil pass0 ht
  · obtain ⟨F, ι, S, sl, d, S', rs, e, post⟩ := h
    unfold ev evs at e
    obtain ⟨⟨y, S1⟩, e1, e⟩ := Option.bind_eq_some_iff.mp e
    obtain ⟨c, e2, e⟩ := Option.bind_eq_some_iff.mp e
    obtain ⟨f, e3, e⟩ := Option.bind_eq_some_iff.mp e
    obtain ⟨fa, D', fd, ps, hF, hc, hcl, hme, hb⟩ := G c f e3
    refine ⟨c, f, D', ⟨e3, hc⟩, rs.one e1 fun F1 ι1 v H1 l1 r1 q1 => ?_⟩
    obtain ⟨a, D2, dx, fs, rfl, h1, h2, h3⟩ := clsOf_rel hf r1.rh q1 e2
    cases hc.symm.trans h1
    exact ⟨a, dx, fs, rfl, h2, h3, sp_call (ds := [y]) (vs := [.ref a]) r1.rh r1.fr ⟨_, _, rfl, q1, rfl⟩ e (post.mono l1)⟩
/-! ### a class is made -/
theorem RH.newI {F : Hp} {ι : List Addr} {S : Store} {H : Hp} (r : RH C F ι S H) (fr : Fre F ι) {a dx D : Addr} {c : Nat} (ha : H a = none) (hd : H dx = none) (hne : dx ≠ a) (hc : C.cl c = some D) :
    RH C F (ι ++ [a]) (S ++ [.ins c []]) (upd (upd H dx (.own a)) a (.ins D dx [])) ∧ Fre F (ι ++ [a]) ∧ Le F ι F (ι ++ [a]) := by
  have r1 : RH C F ι S (upd H dx (.own a)) := by
    refine ⟨fun b o e => ?_, r.len, r.nd, fun n b o hb ho => ?_, fun b o e => ?_⟩
    · rw [upd_ne (ne_of_none (r.fz b o e) hd)]
      exact r.fz b o e
    · have q := r.ob n b o hb ho
      obtain ⟨w, hw⟩ := q.there
      exact q.at (by rw [upd_ne (ne_of_none hw hd)]) fun c hc => by rw [upd_ne (ne_of_none hc hd)]; exact hc
    · obtain ⟨h1, h2, h3, h4⟩ := r.tm b o e
      exact ⟨by rw [upd_ne (ne_of_none h1 hd)]; exact h1, h2, h3, h4⟩
  exact r1.newS fr (o := .ins c []) (u := .ins D dx []) (by rw [upd_ne hne.symm]; exact ha) ⟨D, dx, [], hc, upd_same, by rw [upd_ne hne]; exact upd_same, rfl⟩
theorem isNon_rel {F : Hp} {ι : List Addr} {d : D} {v : V} (h : isNon d = true) (r : RelD C F ι d v) : v = .non := by
  unfold isNon at h
  split at h
  · exact r
  · cases h
theorem make_end {F : Hp} {ι : List Addr} {S S' : Store} {H : Hp} {ds : List D} {vs : List V} {d : D} {Q : VK} {c j bb : Nat} {q : Nat × Bool} {D0 : Addr} (hc : C.cl c = some D0) (rh : RH C F ι S H) (fr : Fre F ι) (r : RelDs C F ι ds vs)
    (e : (if q.2 then (evC T j S.length q.1 (.ref S.length :: ds) (S ++ [.ins c []])).bind fun r => if isNon r.1 then (frz r.2 S.length 8 (.ref S.length)).map fun x => (.b x, r.2.take S.length) else none
      else (evC T j bb q.1 (.ref S.length :: ds) (S ++ [.ins c []])).bind fun r => if isNon r.1 then some (.ref S.length, r.2) else none) = some (d, S')) (post : Post C F ι S' d Q) :
    ∀ x dx, H x = none → H dx = none → dx ≠ x → spE T C j q.1 (.ref x :: (vs ++ [])) (upd (upd H dx (.own x)) x (.ins D0 dx [])) (fun v H2 => v = .non ∧ Gh H2 (Q (.ref x))) E0 := by
  intro x dx hx hdx hne
  obtain ⟨n1, n2, n3⟩ := rh.newI fr hx hdx hne hc
  have hι : (ι ++ [x])[S.length]? = some x := by rw [List.getElem?_append_right (by rw [rh.len] <;> exact Nat.le_refl _), ← rh.len, Nat.sub_self] <;> rfl
  have hargs : RelDs C F (ι ++ [x]) (.ref S.length :: ds) (.ref x :: vs) := ⟨.ref x, vs, rfl, ⟨x, hι, rfl⟩, r.mono n3⟩
  rw [List.append_nil]
  split at e
  · obtain ⟨⟨d2, S2⟩, e1, e⟩ := Option.bind_eq_some_iff.mp e
    dsimp only at e
    split at e
    · rename_i hn
      obtain ⟨y, e2, e⟩ := Option.map_eq_some_iff.mp e
      cases e
      refine ⟨C.tp, F, ι ++ [x], _, _, _, d2, S2, n1, n2, hargs, e1, fun F2 ι2 v H2 l2 rh2 fr2 rv => ⟨isNon_rel (C := C.w C.tp) hn rv, ?_⟩⟩
      have st : Stp S.length S S2 := (Stp.push (Nat.le_refl _) _).trans (evC_stp T j _ _ _ _ _ e1 S.length (Nat.le_refl _) (by rw [List.length_append]; omega))
      exact frz_end (C := C) rh (n3.trans l2) rh2 fr2 st (d := .ref S.length) (v := .ref x) ⟨x, l2.get hι, rfl⟩ e2 fun F' H' l' rh' fr' r' => post F' ι _ H' l' rh' fr' r'
    · cases e
  · obtain ⟨⟨d2, S2⟩, e1, e⟩ := Option.bind_eq_some_iff.mp e
    dsimp only at e
    split at e
    · rename_i hn
      cases e
      refine ⟨C.tp, F, ι ++ [x], _, _, _, d2, S', n1, n2, hargs, e1, fun F2 ι2 v H2 l2 rh2 fr2 rv => ⟨isNon_rel (C := C.w C.tp) hn rv, .here ?_⟩⟩
      exact post F2 ι2 _ H2 (n3.trans l2) rh2 fr2 ⟨x, l2.get hι, rfl⟩
    · cases e
theorem me_make {c : Nat} {fr0 : Bool} (G : ∀ j, k = j + 1 → Gc X.prog X.w X.K X.mg X.base T C j f c x) (hi : T.init c = some (f, fr0)) (hr : Room k X.A) (hg : Gl X x) (ha : MA X C (par T k b) (e :: es) ms) (hdb : (x == ("__debug__" : PySem.Str)) = false := by decide)
    (he : starEach (e :: es) X.env = (false, eval e X.env) :: starEach es X.env := by rfl) (hpl : (backTo pos (starEach es X.env)).any (·.1) = false := by rfl) : ME X C (par T k b) (.Call (.Name x p) (e :: es) [] pos) (.make c ms) := by
  cases k with
  | zero =>
    refine ⟨fun pins s σ H Q I h => ?_⟩
    obtain ⟨F, ι, S, sl, d, S', rs, e, post⟩ := h
    unfold ev at e
    obtain ⟨⟨ds, S1⟩, e1, e⟩ := Option.bind_eq_some_iff.mp e
    obtain ⟨q, e2, e⟩ := Option.bind_eq_some_iff.mp e
    exfalso
    split at e
    · obtain ⟨_, e3, _⟩ := Option.bind_eq_some_iff.mp e
      cases e3
    · obtain ⟨_, e3, _⟩ := Option.bind_eq_some_iff.mp e
      cases e3
  | succ j =>
    obtain ⟨fa, D, fd, ps, hF, hc, hM, hm, hb⟩ := G j rfl
    refine (pe_gh (pe_make hM hF hr hg hm hb .nil pass0 ha hdb he hpl)).imp fun σ H Q h => ?_
    obtain ⟨F, ι, S, sl, d, S', rs, e, post⟩ := h
    unfold ev at e
    obtain ⟨⟨ds, S1⟩, e1, e⟩ := Option.bind_eq_some_iff.mp e
    obtain ⟨q, e2, e⟩ := Option.bind_eq_some_iff.mp e
    have hq : q = (f, fr0) := Option.some.inj (e2.symm.trans hi)
    subst hq
    exact rs.args e1 fun F1 ι1 vs H1 l1 r1 q1 => make_end (q := (f, fr0)) hc r1.rh r1.fr q1 e (post.mono l1)
theorem me_make0 {c : Nat} {fr0 : Bool} (G : ∀ j, k = j + 1 → Gc X.prog X.w X.K X.mg X.base T C j f c x) (hi : T.init c = some (f, fr0)) (hr : Room k X.A) (hg : Gl X x) (hdb : (x == ("__debug__" : PySem.Str)) = false := by decide) : ME X C (par T k b) (.Call (.Name x p) [] [] pos) (.make c []) := by
  cases k with
  | zero =>
    refine ⟨fun pins s σ H Q I h => ?_⟩
    obtain ⟨F, ι, S, sl, d, S', rs, e, post⟩ := h
    unfold ev at e
    obtain ⟨⟨ds, S1⟩, e1, e⟩ := Option.bind_eq_some_iff.mp e
    obtain ⟨q, e2, e⟩ := Option.bind_eq_some_iff.mp e
    exfalso
    split at e
    · obtain ⟨_, e3, _⟩ := Option.bind_eq_some_iff.mp e
      cases e3
    · obtain ⟨_, e3, _⟩ := Option.bind_eq_some_iff.mp e
      cases e3
  | succ j =>
    obtain ⟨fa, D, fd, ps, hF, hc, hM, hm, hb⟩ := G j rfl
    refine (pe_gh (pe_make0 hM hF hr hg hm hb .nil pass0 hdb)).imp fun σ H Q h => ?_
    obtain ⟨F, ι, S, sl, d, S', rs, e, post⟩ := h
    unfold ev evs at e
    obtain ⟨⟨ds, S1⟩, e1, e⟩ := Option.bind_eq_some_iff.mp e
    obtain ⟨q, e2, e⟩ := Option.bind_eq_some_iff.mp e
    have hq : q = (f, fr0) := Option.some.inj (e2.symm.trans hi)
    subst hq
    cases e1
    exact make_end (q := (f, fr0)) (ds := []) (vs := []) hc rs.rh rs.fr rfl e post
end
/-! ### defs -/
theorem pss_gh {X : Cx} {sts : List Stmt} {t : TS} (h : PSs X sts t) : PSs X sts (fun D σ H => t { D with nx := fun σ' H' => Gh H' (D.nx σ'), rt := fun v H' => Gh H' (D.rt v) } σ H) := ⟨fun pins s σ H D I q => by
  refine thn (h.run pins s σ H _ I q) fun f s1 sp => ?_
  cases f with
  | next =>
    obtain ⟨σ', H1, I1, g⟩ := sp
    obtain ⟨H2, I2, q2⟩ := g.run I1
    exact ⟨σ', H2, I2, q2⟩
  | brk => exact sp
  | cont => exact sp
  | ret u =>
    obtain ⟨v, σ', H1, I1, r1, g⟩ := sp
    obtain ⟨H2, I2, q2⟩ := g.run I1
    exact ⟨v, σ', H2, I2, r1, q2⟩⟩
theorem start_rel {C : Ct} {F : Hp} {ι : List Addr} {N : List PySem.Str} {ns : Nat} (hn : ns = N.length) : ∀ {ds : List D} {vs : List V}, RelDs C F ι ds vs → ds.length ≤ N.length → RelSl C F ι (M.start ns ds) (L2.start N vs) := by
  intro ds vs r hl
  have hlen := r.length
  unfold M.start L2.start
  refine ⟨by simp; omega, fun i d h => ?_⟩
  by_cases hi : i < ds.length
  · rw [List.getElem?_append_left (by rw [List.length_map]; exact hi), List.getElem?_map] at h
    obtain ⟨d', h1, h2⟩ := Option.map_eq_some_iff.mp h
    cases h2
    obtain ⟨v, h3, h4⟩ := r.get h1
    exact ⟨v, by rw [List.getElem?_append_left (by rw [List.length_map]; omega), List.getElem?_map, h3] <;> rfl, h4⟩
  · rw [List.getElem?_append_right (by rw [List.length_map]; omega), List.getElem?_replicate] at h
    split at h <;> cases h
theorem fin_gh {C : Ct} {F F2 : Hp} {ι ι2 : List Addr} {S S2 S' : Store} {H H2 : Hp} {d d' : D} {v : V} {Q : VK} {val : Bool} (rh0 : RH C F ι S H) (l : Le F ι F2 ι2) (rh : RH C F2 ι2 S2 H2) (fr : Fre F2 ι2) (st : val = true → Stp S.length S S2) (r : RelD C F2 ι2 d v) (e : fin val S.length d S2 = some (d', S')) (post : Post C F ι S' d' Q) : Gh H2 (Q v) := by
  unfold fin at e
  split at e
  · rename_i hv
    obtain ⟨y, e1, e⟩ := Option.map_eq_some_iff.mp e
    cases e
    exact frz_end rh0 l rh fr (st hv) r e1 fun F' H' l' rh' fr' r' => post F' ι v H' l' rh' fr' r'
  · cases e
    exact .here (post F2 ι2 v H2 l rh fr r)
/-- a def with number f keeps the small interpreter's promise at level k + 1, if its body follows at level k -/
theorem fn_ok {P : Program} {w : World} {K : PySem.W.Frag} {mg : PySem.Str → Option Value} {base : Heap} {T : Tab} {C : Ct} {k f : Nat} {x qual : PySem.Str} {params : Arguments} {body : List Stmt} {scope : Scope} {fa : Addr} {fdt : FuncData} {N ps : List PySem.Str} {fd : Fd}
    (F : FunD K x qual params body scope [] [] fa fdt) (Sc : FnScope N ps scope) (hT : T.fn f = some fd) (hnp : fd.np = ps.length) (hns : fd.ns = N.length) (hle : ps.length ≤ N.length)
    (hbody : ∀ (tp : Hp) (b : Nat) (cdv : Value) (A : Around) (outer : List Env) (s : Shared) (H : Hp) (E : XK), Room k (A.deeper (envOfC qual scope s.heap.objs.size fa cdv)) →
      MSs (cxOf CX0 P w K mg base N qual scope fa cdv A outer s H E).nox (C.w tp) (par T k b) body fd.body) : FnOk P w K mg base CX0 (k + 1) fa fdt ps (spE T C (k + 1) f) := by
  refine F.ok Sc (fun vs H Q E h => ?_) (fun cdv A outer s H vs Q E hr h => ?_)
  · obtain ⟨tp, Ff, ι, S, base, ds, d, S', rh, fr, r, e, post⟩ := h
    unfold evC at e
    obtain ⟨fd', e1, e⟩ := Option.bind_eq_some_iff.mp e
    cases hT.symm.trans e1
    split at e
    · rename_i hl
      rw [← r.length, hl, hnp]
    · cases e
  · obtain ⟨tp, Ff, ι, S, bs, ds, d, S', rh, fr, r, e, post⟩ := h
    unfold evC at e
    obtain ⟨fd', e1, e⟩ := Option.bind_eq_some_iff.mp e
    cases hT.symm.trans e1
    split at e
    · rename_i hl
      obtain ⟨⟨fl, sl2, S2⟩, e2, e⟩ := Option.bind_eq_some_iff.mp e
      have rD : RelDs (C.w tp) Ff ι ds vs := r
      have rs : RS (C.w tp) Ff ι (M.start fd.ns ds) S (L2.start N vs) H := ⟨rh, fr, start_rel hns rD (by rw [hl, hnp]; exact hle)⟩
      have post' : Post (C.w tp) Ff ι S' d Q := fun F' ι' v H' l rh' fr' r' => post F' ι' v H' l rh' fr' r'
      have st : fd.val = true → Stp S.length S S2 := fun hv => execs_stp (P := par T k (if fd.val then S.length else bs)) (par_stp T k _).1 (par_stp T k _).2 fd.body _ S _ e2 S.length (by
        show S.length ≤ (if fd.val then S.length else bs)
        rw [if_pos hv] <;> exact Nat.le_refl _) (Nat.le_refl _)
      refine ⟨_, PSs.nox (pss_gh (hbody tp (if fd.val then S.length else bs) cdv A outer s H E hr)), rs.sts e2 ?_⟩
      cases fl with
      | nx => exact fun F' ι' σ' H' l rs' => fin_gh (d := .b .non) rh l rs'.rh rs'.fr st rfl e post'
      | ct => cases e
      | rt d2 => exact fun F' ι' v H' l rh' fr' r' => fin_gh rh l rh' fr' st r' e post'
    · cases e
/-- level 0: nothing is asked -/
theorem fn_zero {P : Program} {w : World} {K : PySem.W.Frag} {mg : PySem.Str → Option Value} {base : Heap} {T : Tab} {C : Ct} {f : Nat} {fa : Addr} {fdt : FuncData} {ps : List PySem.Str} : FnOk P w K mg base CX0 0 fa fdt ps (spE T C 0 f) := by
  refine ⟨fun vs H Q E h => ?_, fun A outer s H args us vs Q E hr he hb hv h => ?_⟩
  · obtain ⟨tp, Ff, ι, S, bs, ds, d, S', rh, fr, r, e, post⟩ := h
    cases e
  · obtain ⟨tp, Ff, ι, S, bs, ds, d, S', rh, fr, r, e, post⟩ := h
    cases e
end M
/-! MC16: rules in short; the law's end. -/
namespace M
open PySem PySem.Spec PyProof.Rows L2
/-- names of built-ins that the module leaves alone -/
structure Fr (mg : PySem.Str → Option Value) : Prop where
  range : mg "range" = none
  len : mg "len" = none
  sum : mg "sum" = none
  int : mg "int" = none
  sorted : mg "sorted" = none
  tuple : mg "tuple" = none
  list : mg "list" = none
  dict : mg "dict" = none
  min : mg "min" = none
  max : mg "max" = none
  all : mg "all" = none
  any : mg "any" = none
  isinstance : mg "isinstance" = none
  reversed : mg "reversed" = none
  zip : mg "zip" = none
  bool : mg "bool" = none
section
variable {X : Cx} {C : Ct} {P : Par} {pos p : Pos} {a b e : Expr} {ma mb me' : E} {x : PySem.Str} {m : Bool}
theorem me_gint' {i : Int} (hm : ∃ t, X.mg x = some (.int i t)) (hg : Gl X x := by rfl) (hd : (x == ("__debug__" : PySem.Str)) = false := by decide) : ME X C P (.Name x pos) (.k (.int i)) := by
  obtain ⟨t, h⟩ := hm
  exact me_gint hg h hd
theorem me_gstr' (n : Nat) {y : PySem.Str} (hm : ∃ t, X.mg x = some (.str y t)) (h : C.N.txts[n]? = some y := by rfl) (hg : Gl X x := by rfl) (hd : (x == ("__debug__" : PySem.Str)) = false := by decide) : ME X C P (.Name x pos) (.k (.str n)) := by
  obtain ⟨t, h'⟩ := hm
  exact me_gstr n hg h' h hd
section
variable (hK : C.K = X.K) (fr : Fr X.mg) (hc : X.calm = true)
theorem me_len (hK : C.K = X.K) (fr : Fr X.mg) (ha : ME X C P a ma) (hg : Gl X "len" := by rfl) (hs : starEach [a] X.env = (false, eval a X.env) :: starEach [] X.env := by rfl) : ME X C P (.Call (.Name "len" p) [a] [] pos) (.bi .len false [ma]) :=
  me_cb .len (br_len hK) cr_len hg fr.len boot_len (ma_cons ha ma_nil hs) (by decide) (by decide) hs rfl
theorem me_toint (fr : Fr X.mg) (ha : ME X C P a ma) (hg : Gl X "int" := by rfl) (hs : starEach [a] X.env = (false, eval a X.env) :: starEach [] X.env := by rfl) : ME X C P (.Call (.Name "int" p) [a] [] pos) (.bi .int false [ma]) :=
  me_ct .int br_int call_int1 hg fr.int boot_int (ma_cons ha ma_nil hs) (by decide) (by decide) hs rfl
theorem me_sum (hK : C.K = X.K) (fr : Fr X.mg) (hc : X.calm = true) (ha : ME X C P a ma) (hg : Gl X "sum" := by rfl) (hs : starEach [a] X.env = (false, eval a X.env) :: starEach [] X.env := by rfl) : ME X C P (.Call (.Name "sum" p) [a] [] pos) (.bi .sum false [ma]) :=
  me_cb .sum (br_sum hK) (cr_sumA hc) hg fr.sum boot_sum (ma_cons ha ma_nil hs) (by decide) (by decide) hs rfl
theorem me_min1 (hK : C.K = X.K) (fr : Fr X.mg) (hc : X.calm = true) (ha : ME X C P a ma) (hg : Gl X "min" := by rfl) (hs : starEach [a] X.env = (false, eval a X.env) :: starEach [] X.env := by rfl) : ME X C P (.Call (.Name "min" p) [a] [] pos) (.bi .min1 false [ma]) :=
  me_cb .min1 (br_min hK) (cr_minA hc) hg fr.min boot_min (ma_cons ha ma_nil hs) (by decide) (by decide) hs rfl
theorem me_max1 (hK : C.K = X.K) (fr : Fr X.mg) (hc : X.calm = true) (ha : ME X C P a ma) (hg : Gl X "max" := by rfl) (hs : starEach [a] X.env = (false, eval a X.env) :: starEach [] X.env := by rfl) : ME X C P (.Call (.Name "max" p) [a] [] pos) (.bi .max1 false [ma]) :=
  me_cb .max1 (br_max hK) (cr_max hc) hg fr.max boot_max (ma_cons ha ma_nil hs) (by decide) (by decide) hs rfl
theorem me_min2 (fr : Fr X.mg) (hc : X.calm = true) (ha : ME X C P a ma) (hb : ME X C P b mb) (hg : Gl X "min" := by rfl) (hs : starEach [a, b] X.env = (false, eval a X.env) :: starEach [b] X.env := by rfl) (hs2 : starEach [b] X.env = (false, eval b X.env) :: starEach [] X.env := by rfl) (hpl : (backTo pos (starEach [b] X.env)).any (·.1) = false := by rfl) : ME X C P (.Call (.Name "min" p) [a, b] [] pos) (.bi .min2 false [ma, mb]) :=
  me_cb .min2 br_min2 (call_min2 hc) hg fr.min boot_min (ma_cons ha (ma_cons hb ma_nil hs2) hs) (by decide) (by decide) hs hpl
theorem me_max2 (fr : Fr X.mg) (hc : X.calm = true) (ha : ME X C P a ma) (hb : ME X C P b mb) (hg : Gl X "max" := by rfl) (hs : starEach [a, b] X.env = (false, eval a X.env) :: starEach [b] X.env := by rfl) (hs2 : starEach [b] X.env = (false, eval b X.env) :: starEach [] X.env := by rfl) (hpl : (backTo pos (starEach [b] X.env)).any (·.1) = false := by rfl) : ME X C P (.Call (.Name "max" p) [a, b] [] pos) (.bi .max2 false [ma, mb]) :=
  me_cb .max2 br_max2 (call_max2 hc) hg fr.max boot_max (ma_cons ha (ma_cons hb ma_nil hs2) hs) (by decide) (by decide) hs hpl
theorem me_sorted (m : Bool) (hK : C.K = X.K) (fr : Fr X.mg) (hc : X.calm = true) (ha : ME X C P a ma) (hg : Gl X "sorted" := by rfl) (hs : starEach [a] X.env = (false, eval a X.env) :: starEach [] X.env := by rfl) : ME X C P (.Call (.Name "sorted" p) [a] [] pos) (.bi .sorted m [ma]) :=
  me_cb .sorted (br_sorted hK) (cr_sortedA hc) hg fr.sorted boot_sorted (ma_cons ha ma_nil hs) (by decide) (by decide) hs rfl
theorem me_tuple (hK : C.K = X.K) (fr : Fr X.mg) (ha : ME X C P a ma) (hg : Gl X "tuple" := by rfl) (hs : starEach [a] X.env = (false, eval a X.env) :: starEach [] X.env := by rfl) : ME X C P (.Call (.Name "tuple" p) [a] [] pos) (.bi .tuple false [ma]) :=
  me_ct .tuple (br_tuple hK) call_tuple_of hg fr.tuple boot_tuple (ma_cons ha ma_nil hs) (by decide) (by decide) hs rfl
theorem me_list (m : Bool) (hK : C.K = X.K) (fr : Fr X.mg) (hc : X.calm = true) (ha : ME X C P a ma) (hg : Gl X "list" := by rfl) (hs : starEach [a] X.env = (false, eval a X.env) :: starEach [] X.env := by rfl) : ME X C P (.Call (.Name "list" p) [a] [] pos) (.bi .list m [ma]) :=
  me_ct .list (br_list hK) (cr_listA hc) hg fr.list boot_list (ma_cons ha ma_nil hs) (by decide) (by decide) hs rfl
theorem me_dict (m : Bool) (hK : C.K = X.K) (fr : Fr X.mg) (hc : X.calm = true) (ha : ME X C P a ma) (hg : Gl X "dict" := by rfl) (hs : starEach [a] X.env = (false, eval a X.env) :: starEach [] X.env := by rfl) : ME X C P (.Call (.Name "dict" p) [a] [] pos) (.bi .dict m [ma]) :=
  me_ct .dict (br_dict hK) (cr_dictA hc) hg fr.dict boot_dict (ma_cons ha ma_nil hs) (by decide) (by decide) hs rfl
theorem me_all (hK : C.K = X.K) (fr : Fr X.mg) (hc : X.calm = true) (ha : ME X C P a ma) (hg : Gl X "all" := by rfl) (hs : starEach [a] X.env = (false, eval a X.env) :: starEach [] X.env := by rfl) : ME X C P (.Call (.Name "all" p) [a] [] pos) (.bi .all false [ma]) :=
  me_cb .all (br_all hK) (cr_all hc) hg fr.all boot_all (ma_cons ha ma_nil hs) (by decide) (by decide) hs rfl
theorem me_any (hK : C.K = X.K) (fr : Fr X.mg) (hc : X.calm = true) (ha : ME X C P a ma) (hg : Gl X "any" := by rfl) (hs : starEach [a] X.env = (false, eval a X.env) :: starEach [] X.env := by rfl) : ME X C P (.Call (.Name "any" p) [a] [] pos) (.bi .any false [ma]) :=
  me_cb .any (br_any hK) (cr_any hc) hg fr.any boot_any (ma_cons ha ma_nil hs) (by decide) (by decide) hs rfl
end
end
/-- what is never reached -/
theorem me_nev {X : Cx} {C : Ct} {P : Par} {e : Expr} : ME X C P e .nev := ⟨fun pins s σ H Q I h => by
  obtain ⟨F, ι, S, sl, d, S', rs, e, post⟩ := h
  cases e⟩
theorem ms_nev {X : Cx} {C : Ct} {P : Par} {st : Stmt} : MS X C P st (.ex .nev) := ⟨fun pins s σ H D I h => by
  obtain ⟨F, ι, S, sl, r, rs, e, post⟩ := h
  cases e⟩
/-- the world of a def's body -/
structure Wo (K : PySem.W.Frag) (C : Ct) (fo : Nat → Nat → Bool) : Prop where
  hK : C.K = K
  cls : ∀ c D, C.cl c = some D → Cls K D
  noat : ∀ c D f x, C.cl c = some D → fo c f = true → C.N.flds[f]? = some x → NoAttr K D x
theorem Wo.wd {X : Cx} {C : Ct} {fo : Nat → Nat → Bool} (w : Wo X.K C fo) {k : Nat} (hr : Room k X.A) (hc : X.calm = true) : Wd X C fo := ⟨w.hK, by have := hr.un; omega, hc, w.cls, w.noat⟩
theorem hu_room {X : Cx} {k : Nat} (hr : Room k X.A) : X.A.units + 66 < cLine := by have := hr.un; omega
/-! ### the law's end -/
theorem sp_law {T : Tab} {C : Ct} {k f : Nat} {a : Addr} {ns : List Int} {H : Hp} (hO : L2.Only H) (hS : SqL C.K H a (ns.map V.int)) {d : D} {S' : Store} (e : evC T k 0 f [.b (.scr (ns.map B.int))] [] = some (d, S')) (hd : d = .b (.bl true)) : spE T C k f [.ref a] H (fun v _ => v = .bl true) fun _ _ _ => False := by
  refine ⟨fun _ => none, H, [], [], 0, [.b (.scr (ns.map B.int))], d, S', ⟨fun _ _ h => h, rfl, List.nodup_nil, fun n a o h => by simp at h, fun _ _ h => by cases h⟩, fun a h => (nomatch h), ⟨.ref a, [], rfl, ⟨a, _, rfl, hS, RelBs.of_ints⟩, rfl⟩, e, fun F' ι' v H' _ _ _ r => ?_⟩
  rw [hd] at r
  exact r
theorem walk_law {l : PySem.W.OpenLaw} {n k : Nat} {q : Program} {loose : List PySem.Str} {XP : (PySem.Str → Option Value) → Heap → Prop} {YP : World → Heap → Prop} {d : DefRec} {x : PySem.Str} {T : Tab} {Cf : PySem.W.Frag → Ct} {f : Nat}
    (hn : l.most = some n) (hn2 : n ≤ sizeLine) (hdf : d.params.defaults = []) (hr : Room k callerA) (hCf : ∀ K, (Cf K).K = K)
    (F : ∀ (w : World) (mg : PySem.Str → Option Value) (fa : Addr) (h : Heap), YP w h → h.Ns mainGlobals mg → mg d.name = some (.ref fa) →
      ∃ (K : PySem.W.Frag) (fd : FuncData), K.In h ∧ (∀ (s : Shared) (u : Value), BindsTo s fd ⟨[u], []⟩ [(x, u)]) ∧
        ∀ base : Heap, K.In base → base.Ns mainGlobals mg → FnOk l.prog w K mg base CX0 k fa fd [x] (spE T (Cf K) k f))
    (law : ∀ ns : List Int, ns.length ≤ n → (∀ i ∈ ns, PySem.Builtin.Int.intBits i ≤ 1048576) → ∃ S', evC T k 0 f [.b (.scr (ns.map B.int))] [] = some (.b (.bl true), S')) :
    PySem.W.WalkO q loose XP YP l.row.toRowW d [] (fun f vs => PySem.call f vs) := by
  refine Att.attach_callB hn hdf fun w s₀ s₁ mg mb fa o pm cd doc a vs ns G Y ho hd hcd hmg hobj hints hlen hbits hg => ?_
  obtain ⟨K, fd, KX, hb, hF⟩ := F w mg fa _ Y G.T.g hmg
  obtain ⟨S', e⟩ := law ns hlen hbits
  exact law_call KX G.T.g G.T.b G.T.builtins G.T.nolimit hg hobj hints (Nat.le_trans hlen hn2) hr hF hb (fun H hO hS => sp_law hO ((hCf K).symm ▸ hS) e rfl) fun _ _ _ z => z
end M
namespace M
theorem Wo.w {K : PySem.W.Frag} {C : Ct} {fo : Nat → Nat → Bool} (h : Wo K C fo) (tp : L2.Hp) : Wo K (C.w tp) fo := ⟨h.hK, h.cls, h.noat⟩
end M
/-! MCZ: zip of a reversed list and a list or a tuple. -/
namespace M
open PySem PySem.Spec PyProof.Rows L2
open PySem.Sem (wp)
/-- what is walked inside a zip: a list, a tuple, a list of n items from its end -/
inductive Sd
  | l
  | t
  | r (n : Nat)
namespace Sd
def sq (K : PySem.W.Frag) : Sd → Hp → Addr → List V → Prop
  | .t, H, a, xs => SqT K H a xs
  | _, H, a, xs => SqL K H a xs
def ix {α : Type} : Sd → List α → Nat → Option α
  | .r n, xs, i => if i < n then xs[n - 1 - i]? else none
  | _, xs, i => xs[i]?
def en {α : Type} : Sd → List α → Nat → Prop
  | .r n, _, i => n ≤ i
  | _, xs, i => xs.length ≤ i
/-- the iterator's state ahead of turn i -/
def st : Sd → Addr → Addr → Nat → Heap → Prop
  | .l, it, a, i, h => h.IsListIter it a i
  | .t, it, a, i, h => h.IsTupleIter it a i
  | .r n, it, a, i, h => i ≤ n ∧ h.IsRevIter it a ((n : Int) - 1 - (i : Nat))
def src : Sd → Heap → Addr → List Value → Prop
  | .t, h, a, xs => h.IsTuple a xs.toArray
  | _, h, a, xs => h.IsList a xs.toArray
theorem st_keep {k : Sd} {it a : Addr} {i : Nat} {h h' : Heap} (s : k.st it a i h) (e : ∀ o, h.get? it = some o → h'.get? it = some o) : k.st it a i h' := by
  cases k with
  | l => exact s.at e
  | t => exact s.at e
  | r n => exact ⟨s.1, s.2.at e⟩
theorem src_keep {k : Sd} {a : Addr} {xs : List Value} {h h' : Heap} (s : k.src h a xs) (e : ∀ o, h.get? a = some o → h'.get? a = some o) : k.src h' a xs := by
  cases k with
  | l => obtain ⟨o, q, r⟩ := s; exact ⟨o, e _ q, r⟩
  | t => obtain ⟨o, q, r⟩ := s; exact ⟨o, e _ q, r⟩
  | r n => obtain ⟨o, q, r⟩ := s; exact ⟨o, e _ q, r⟩
theorem st_obj {k : Sd} {it a : Addr} {i : Nat} {h : Heap} (s : k.st it a i h) : ∃ o, h.get? it = some o ∧ ∀ v, o.data ≠ .cell v := by
  cases k with
  | l => obtain ⟨o, e, _, d⟩ := s; exact ⟨o, e, fun v q => by rw [d] at q; cases q⟩
  | t => obtain ⟨o, e, _, d⟩ := s; exact ⟨o, e, fun v q => by rw [d] at q; cases q⟩
  | r n => obtain ⟨_, o, e, _, d⟩ := s; exact ⟨o, e, fun v q => by rw [d] at q; cases q⟩
end Sd
section
variable {prog : Program} {w : World} {A : Around} {E : Value → Shared → Prop} {s : Shared}
theorem rvn_item {it l : Addr} {i : Nat} {items : Array Value} {x : Value} {Q : Value → Shared → Prop} (hit : s.heap.IsRevIter it l (i : Int)) (hl : s.heap.IsList l items) (hx : items[i]? = some x)
    (hQ : ∀ h', h'.IsRevIter it l ((i : Int) - 1) → Heap.SameBut it s.heap h' → Q x { s with heap := h' }) : wpAny (model prog w) A (Builtin.SmallTypes.nextOf (.ref it)) Q E s := by
  obtain ⟨oI, hI, kI, dI⟩ := id hit
  obtain ⟨oL, hL, _, nL, dL⟩ := hl
  unfold Builtin.SmallTypes.nextOf
  refine wpAny_bind (wpAny_callSpecial?_slot (name := Str.ofString "__next__") hit.typeIs F.slot_lri_next
    (wpAny_call_entry F.slot_lri_next hit.typeIs F.entry_lri_next ?_ (F.args_lri_next_1 _)))
  unfold Builtin.«list_reverseiterator.__next__»
  refine wpAny_bind (wpAny_of_eq (a := (Value.ref it, [])) rfl ?_)
  try dsimp only
  refine wpAny_bind (wpAny_field hI dI (x := rawInt (i : Int)) rfl ?_)
  show wpAny _ _ (if (i : Int) < 0 then _ else _) _ _ s
  rw [if_neg (by omega)]
  show wpAny _ _ (field (.ref it) 0 >>= _) _ _ s
  refine wpAny_bind (wpAny_field hI dI (x := .ref l) rfl ?_)
  show wpAny _ _ (seqItems? (.ref l) >>= _) _ _ s
  refine wpAny_bind (wpAny_seqItems hL dL ?_)
  simp only [Int.toNat_natCast, hx]
  refine wpAny_bind (wpAny_setField hI dI (by simp) ?_)
  refine wpAny_pure ⟨x, rfl, wpAny_pure (hQ _ ?_ (Heap.SameBut.update ..))⟩
  exact ⟨_, Heap.get?_update_self _ hI (Obj.isFreed_of_fields (Obj.data_mapFields dI _)), (Obj.cls_mapFields ..).trans kI, by
    rw [Obj.data_mapFields dI]; simp⟩
theorem rvn_end {it l : Addr} {Q : Value → Shared → Prop} (hh : A.handled = none) (hit : s.heap.IsRevIter it l (-1))
    (hE : ∀ h' e, Heap.ExtBut it s.heap h' → (∃ o, h'.get? e = some o ∧ o.cls = .type "StopIteration") → E (.ref e) { s with heap := h' }) : wpAny (model prog w) A (Builtin.SmallTypes.nextOf (.ref it)) Q E s := by
  obtain ⟨oI, hI, kI, dI⟩ := id hit
  unfold Builtin.SmallTypes.nextOf
  refine wpAny_bind (wpAny_callSpecial?_slot (name := Str.ofString "__next__") hit.typeIs F.slot_lri_next
    (wpAny_call_entry F.slot_lri_next hit.typeIs F.entry_lri_next ?_ (F.args_lri_next_1 _)))
  unfold Builtin.«list_reverseiterator.__next__»
  refine wpAny_bind (wpAny_of_eq (a := (Value.ref it, [])) rfl ?_)
  try dsimp only
  refine wpAny_bind (wpAny_field hI dI (x := rawInt (-1)) rfl ?_)
  show wpAny _ _ (if (-1 : Int) < 0 then _ else _) _ _ s
  rw [if_pos (by decide)]
  refine wpAny_bind (wpAny_rule ?_)
  first
  | show wpAny _ _ (newExc (.type "StopIteration") [] >>= _) _ _ _
  | (refine wpAny_bind ?_; show wpAny _ _ (newExc (.type "StopIteration") [] >>= _) _ _ _)
  refine wpAny_bind ?_
  simp only [newExc, newTuple]
  refine wpAny_bind (wpAny_newObj_type ?_ (by size_fits))
  refine wpAny_bind (m := firstArgMember _ _) (wpAny_of_eq (a := Value.none) (by first | rfl | (simp only [firstArgMember]; rfl)) ?_)
  refine wpAny_newObj_type ?_ (by size_fits)
  simp only [raiseNew]
  refine wpAny_bind (wpAny_handled ?_)
  first | rw [show A.in1.handled = none from hh] | rw [hh]
  refine wpAny_bind (wpAny_pure (wpAny_throw ?_))
  exact hE _ _ (((Heap.ExtBut.refl _ _).push _).push _) ⟨_, Heap.get?_push_size _ rfl, rfl⟩
theorem Sd.item {k : Sd} {it a : Addr} {i : Nat} {xs : List Value} {x : Value} {Q : Value → Shared → Prop} (st : k.st it a i s.heap) (sr : k.src s.heap a xs) (hx : k.ix xs i = some x)
    (hQ : ∀ h', k.st it a (i + 1) h' → Heap.SameBut it s.heap h' → Q x { s with heap := h' }) : wpAny (model prog w) A (Builtin.SmallTypes.nextOf (.ref it)) Q E s := by
  cases k with
  | l => exact wpAny_nextOf_list_item st sr (by simpa [Sd.ix] using hx) hQ
  | t => exact RZ.nextOf_tuple_item st sr (by simpa [Sd.ix] using hx) hQ
  | r n =>
    obtain ⟨hi, st⟩ := st
    have hx : (if i < n then xs[n - 1 - i]? else none) = some x := hx
    split at hx
    · rename_i hin
      have e1 : (n : Int) - 1 - ((i : Nat) : Int) = ((n - 1 - i : Nat) : Int) := by omega
      rw [e1] at st
      refine rvn_item st sr (by simpa using hx) fun h' st' sb => hQ h' ⟨hin, ?_⟩ sb
      have e2 : ((n - 1 - i : Nat) : Int) - 1 = (n : Int) - 1 - ((i + 1 : Nat) : Int) := by omega
      rw [e2] at st'
      exact st'
    · cases hx
theorem Sd.done {k : Sd} {it a : Addr} {i : Nat} {xs : List Value} {Q : Value → Shared → Prop} (hh : A.handled = none) (st : k.st it a i s.heap) (sr : k.src s.heap a xs) (hx : k.en xs i)
    (hE : ∀ h' e, Heap.ExtBut it s.heap h' → (∃ o, h'.get? e = some o ∧ o.cls = .type "StopIteration") → E (.ref e) { s with heap := h' }) : wpAny (model prog w) A (Builtin.SmallTypes.nextOf (.ref it)) Q E s := by
  cases k with
  | l => exact wpAny_nextOf_list_end hh st sr (by simpa [Sd.en] using hx) hE
  | t => exact RZ.nextOf_tuple_end hh st sr (by simpa [Sd.en] using hx) hE
  | r n =>
    obtain ⟨hi, st⟩ := st
    have hx : n ≤ i := hx
    have e1 : (n : Int) - 1 - ((i : Nat) : Int) = -1 := by omega
    rw [e1] at st
    exact rvn_end hh st hE
theorem zpg_item {k1 k2 : Sd} {z TI TO i1 i2 l1 l2 : Addr} {i : Nat} {xs ys : List Value} {x y a b : Value} {Q : Value → Shared → Prop} (D : ZipApart z TI TO i1 i2 l1 l2)
    (oZ : IsZip s.heap z TI TO .none) (oI : IsPair s.heap TI (.ref i1) (.ref i2)) (oO : IsPair s.heap TO a b)
    (t1 : k1.st i1 l1 i s.heap) (t2 : k2.st i2 l2 i s.heap) (r1 : k1.src s.heap l1 xs) (r2 : k2.src s.heap l2 ys) (hx : k1.ix xs i = some x) (hy : k2.ix ys i = some y)
    (hQ : ∀ h', IsZip h' z TI TO (rawInt s.heap.objs.size) → IsPair h' TO x y → k1.st i1 l1 (i + 1) h' → k2.st i2 l2 (i + 1) h' → IsPair h' s.heap.objs.size x y → h'.objs.size = s.heap.objs.size + 1 →
      (∀ c o, c ≠ z → c ≠ TO → c ≠ i1 → c ≠ i2 → s.heap.get? c = some o → h'.get? c = some o) → Q (.ref s.heap.objs.size) { s with heap := h' }) :
    wpAny (model prog w) A (Builtin.«zip.__next__» ⟨[.ref z], []⟩) (fun fin s' => ∃ v, fin = .done (.ret v) ∧ Q v s') E s := by
  show wpAny _ _ (field (.ref z) 2 >>= _) _ _ _
  refine wpAny_bind (wpAny_field oZ rfl (x := .bool false) rfl ?_)
  show wpAny _ _ (field (.ref z) 3 >>= _) _ _ _
  refine wpAny_bind (wpAny_field oZ rfl (x := .ref TI) rfl ?_)
  refine wpAny_bind (wpAny_seqItems oI rfl ?_)
  show wpAny _ _ (Builtin.SmallTypes.ownedTupleIsFree (.ref z) >>= _) _ _ _
  refine wpAny_bind ?_
  unfold Builtin.SmallTypes.ownedTupleIsFree
  refine wpAny_bind (wpAny_field oZ rfl (x := .none) rfl (wpAny_pure ?_))
  simp only [if_true]
  refine wpAny_bind (wpAny_rule ?_)
  refine wpAny_bind (wpAny_field oZ rfl (x := .ref TO) rfl ?_)
  refine wpAny_bind (wpAny_setField_rec oZ (by simp) fun h₁ oZ1 s1 => ?_)
  replace oZ1 : IsZip h₁ z TI TO .ellipsis := oZ1
  refine wpAny_bind ?_
  simp only [List.zipIdx_cons, List.zipIdx_nil, List.forIn_cons, List.forIn_nil]

  refine wpAny_bind (wpAny_bind (wpAny_onRaise ?_))
  show wpAny _ _ (Builtin.SmallTypes.nextOf (.ref i1) >>= _) _ _ _
  refine wpAny_bind (Sd.item (k := k1) (Sd.st_keep t1 fun o e => s1.extBut _ _ D.i1z e) (Sd.src_keep r1 fun o e => s1.extBut _ _ D.l1z e) hx fun h₂ t12 s2 => wpAny_pure ?_)
  have oO2 : IsPair h₂ TO a b := s2.extBut _ _ D.TOi1 (s1.extBut _ _ D.TOz oO)
  refine wpAny_bind (wpAny_seqItems oO2 rfl ?_)
  refine wpAny_bind (wpAny_updateSeq_pair oO2 fun h₃ oO3 s3 => ?_)
  replace oO3 : IsPair h₃ TO x b := oO3
  refine wpAny_bind (wpAny_letGo (wpAny_pure ?_))

  refine wpAny_bind (wpAny_bind (wpAny_onRaise ?_))
  show wpAny _ _ (Builtin.SmallTypes.nextOf (.ref i2) >>= _) _ _ _
  refine wpAny_bind (Sd.item (k := k2) (Sd.st_keep t2 fun o e => s3.extBut _ _ D.TOi2.symm (s2.extBut _ _ D.i12.symm (s1.extBut _ _ D.i2z e)))
    (Sd.src_keep r2 fun o e => s3.extBut _ _ D.l2TO (s2.extBut _ _ D.l2i1 (s1.extBut _ _ D.l2z e))) hy fun h₄ t24 s4 => wpAny_pure ?_)
  have oO4 : IsPair h₄ TO x b := s4.extBut _ _ D.TOi2 oO3
  refine wpAny_bind (wpAny_seqItems oO4 rfl ?_)
  refine wpAny_bind (wpAny_updateSeq_pair oO4 fun h₅ oO5 s5 => ?_)
  replace oO5 : IsPair h₅ TO x y := oO5
  refine wpAny_bind (wpAny_letGo (wpAny_pure (wpAny_pure ?_)))

  refine wpAny_bind (wpAny_seqItems oO5 rfl ?_)
  refine wpAny_bind (wpAny_newTuple ?_)
  have zz : h₅.objs.size = s.heap.objs.size := by rw [s5.1, s4.1, s3.1, s2.1, s1.1]
  have oZ5 : IsZip h₅ z TI TO .ellipsis := s5.extBut _ _ D.TOz.symm (s4.extBut _ _ D.i2z.symm (s3.extBut _ _ D.TOz.symm (s2.extBut _ _ D.i1z.symm oZ1)))
  have keep5 : ∀ c o, c ≠ z → c ≠ TO → c ≠ i1 → c ≠ i2 → s.heap.get? c = some o → h₅.get? c = some o := fun c o c1 c2 c3 c4 e =>
    s5.extBut _ _ c2 (s4.extBut _ _ c4 (s3.extBut _ _ c2 (s2.extBut _ _ c3 (s1.extBut _ _ c1 e))))
  have t15 : k1.st i1 l1 (i + 1) h₅ := Sd.st_keep t12 fun o e => s5.extBut _ _ D.TOi1.symm (s4.extBut _ _ D.i12 (s3.extBut _ _ D.TOi1.symm e))
  have t25 : k2.st i2 l2 (i + 1) h₅ := Sd.st_keep t24 fun o e => s5.extBut _ _ D.TOi2.symm e
  have zlt : z < h₅.objs.size := Heap.lt_size oZ5
  show wpAny _ _ (Builtin.SmallTypes.ownedTupleHandOut (.ref z) (.ref h₅.objs.size) >>= _) _ _ _
  refine wpAny_bind ?_
  unfold Builtin.SmallTypes.ownedTupleHandOut
  have oZ6 : IsZip (h₅.push { cls := .type "tuple", data := .seq #[x, y] }) z TI TO .ellipsis := Heap.get?_push_of_some _ oZ5
  refine wpAny_bind (wpAny_setField_rec oZ6 (by simp) fun h₇ oZ7 s7 => ?_)
  replace oZ7 : IsZip h₇ z TI TO (rawInt h₅.objs.size) := oZ7
  refine wpAny_setField_rec oZ7 (by simp) fun h₈ oZ8 s8 => ?_
  replace oZ8 : IsZip h₈ z TI TO (rawInt h₅.objs.size) := oZ8
  have up : ∀ c o, c ≠ z → h₅.get? c = some o → h₈.get? c = some o := fun c o c1 e => s8.extBut _ _ c1 (s7.extBut _ _ c1 (Heap.get?_push_of_some _ e))
  have new8 : IsPair h₈ h₅.objs.size x y := s8.extBut _ _ (Nat.ne_of_gt zlt) (s7.extBut _ _ (Nat.ne_of_gt zlt) (Heap.get?_push_size _ rfl))
  have zz8 : h₈.objs.size = h₅.objs.size + 1 := by rw [s8.1, s7.1, Heap.size_push]
  rw [zz] at oZ8 new8 zz8
  refine wpAny_pure ⟨_, rfl, ?_⟩
  show Q (.ref h₅.objs.size) _
  rw [zz]
  exact hQ h₈ oZ8 (up _ _ D.TOz oO5) (Sd.st_keep t15 fun o e => up _ o D.i1z e) (Sd.st_keep t25 fun o e => up _ o D.i2z e) new8 zz8 fun c o c1 c2 c3 c4 e => up c o c1 (keep5 c o c1 c2 c3 c4 e)
theorem zpg_end {k1 k2 : Sd} {z TI TO i1 i2 l1 l2 : Addr} {i : Nat} {xs ys : List Value} {a b : Value} {Q : Fin → Shared → Prop} (hh : A.handled = none) (D : ZipApart z TI TO i1 i2 l1 l2)
    (oZ : IsZip s.heap z TI TO .none) (oI : IsPair s.heap TI (.ref i1) (.ref i2)) (oO : IsPair s.heap TO a b)
    (t1 : k1.st i1 l1 i s.heap) (t2 : k2.st i2 l2 i s.heap) (r1 : k1.src s.heap l1 xs) (r2 : k2.src s.heap l2 ys) (hend : k1.en xs i ∨ ((∃ x, k1.ix xs i = some x) ∧ k2.en ys i))
    (hE : ∀ h' e, (∀ c o, c ≠ z → c ≠ TO → c ≠ i1 → c ≠ i2 → s.heap.get? c = some o → h'.get? c = some o) → (∃ o, h'.get? e = some o ∧ o.cls = .type "StopIteration") → E (.ref e) { s with heap := h' }) :
    wpAny (model prog w) A (Builtin.«zip.__next__» ⟨[.ref z], []⟩) Q E s := by
  show wpAny _ _ (field (.ref z) 2 >>= _) _ _ _
  refine wpAny_bind (wpAny_field oZ rfl (x := .bool false) rfl ?_)
  show wpAny _ _ (field (.ref z) 3 >>= _) _ _ _
  refine wpAny_bind (wpAny_field oZ rfl (x := .ref TI) rfl ?_)
  refine wpAny_bind (wpAny_seqItems oI rfl ?_)
  show wpAny _ _ (Builtin.SmallTypes.ownedTupleIsFree (.ref z) >>= _) _ _ _
  refine wpAny_bind ?_
  unfold Builtin.SmallTypes.ownedTupleIsFree
  refine wpAny_bind (wpAny_field oZ rfl (x := .none) rfl (wpAny_pure ?_))
  simp only [if_true]
  refine wpAny_bind (wpAny_rule ?_)
  refine wpAny_bind (wpAny_field oZ rfl (x := .ref TO) rfl ?_)
  refine wpAny_bind (wpAny_setField_rec oZ (by simp) fun h₁ oZ1 s1 => ?_)
  replace oZ1 : IsZip h₁ z TI TO .ellipsis := oZ1
  refine wpAny_bind ?_
  simp only [List.zipIdx_cons, List.zipIdx_nil, List.forIn_cons, List.forIn_nil]
  refine wpAny_bind (wpAny_bind (wpAny_onRaise ?_))
  show wpAny _ _ (Builtin.SmallTypes.nextOf (.ref i1) >>= _) _ _ _
  have t1' := Sd.st_keep t1 fun o e => s1.extBut _ _ D.i1z e
  have r1' := Sd.src_keep r1 fun o e => s1.extBut _ _ D.l1z e
  rcases hend with hend | ⟨⟨x, hx⟩, hend⟩
  · refine wpAny_bind (Sd.done (k := k1) hh t1' r1' hend fun h₂ e s2 he => ?_)
    obtain ⟨oe, hoe, ke⟩ := he
    have oZ2 : IsZip h₂ z TI TO .ellipsis := s2 _ _ D.i1z.symm oZ1
    have hez : e ≠ z := fun x => by subst x; rw [oZ2] at hoe; cases hoe; simp at ke
    refine wpAny_setField_rec oZ2 (by simp) fun h₃ _ s3 => hE h₃ e (fun c o c1 _ c3 _ x => s3.extBut _ _ c1 (s2 _ _ c3 (s1.extBut _ _ c1 x))) ⟨oe, s3.extBut _ _ hez hoe, ke⟩
  · refine wpAny_bind (Sd.item (k := k1) t1' r1' hx fun h₂ t12 s2 => wpAny_pure ?_)
    have oO2 : IsPair h₂ TO a b := s2.extBut _ _ D.TOi1 (s1.extBut _ _ D.TOz oO)
    refine wpAny_bind (wpAny_seqItems oO2 rfl ?_)
    refine wpAny_bind (wpAny_updateSeq_pair oO2 fun h₃ oO3 s3 => ?_)
    refine wpAny_bind (wpAny_letGo (wpAny_pure ?_))
    refine wpAny_bind (wpAny_bind (wpAny_onRaise ?_))
    show wpAny _ _ (Builtin.SmallTypes.nextOf (.ref i2) >>= _) _ _ _
    refine wpAny_bind (Sd.done (k := k2) hh (Sd.st_keep t2 fun o e => s3.extBut _ _ D.TOi2.symm (s2.extBut _ _ D.i12.symm (s1.extBut _ _ D.i2z e)))
      (Sd.src_keep r2 fun o e => s3.extBut _ _ D.l2TO (s2.extBut _ _ D.l2i1 (s1.extBut _ _ D.l2z e))) hend fun h₄ e s4 he => ?_)
    obtain ⟨oe, hoe, ke⟩ := he
    have oZ4 : IsZip h₄ z TI TO .ellipsis := s4 _ _ D.i2z.symm (s3.extBut _ _ D.TOz.symm (s2.extBut _ _ D.i1z.symm oZ1))
    have hez : e ≠ z := fun x => by subst x; rw [oZ4] at hoe; cases hoe; simp at ke
    refine wpAny_setField_rec oZ4 (by simp) fun h₅ _ s5 => hE h₅ e (fun c o c1 c2 c3 c4 x => s5.extBut _ _ c1 (s4 _ _ c4 (s3.extBut _ _ c2 (s2.extBut _ _ c3 (s1.extBut _ _ c1 x))))) ⟨oe, s5.extBut _ _ hez hoe, ke⟩
theorem pyn_item {k1 k2 : Sd} {z TI TO i1 i2 l1 l2 : Addr} {i : Nat} {xs ys : List Value} {x y a b : Value} {Q : Option Value → Shared → Prop} (D : ZipApart z TI TO i1 i2 l1 l2)
    (oZ : IsZip s.heap z TI TO .none) (oI : IsPair s.heap TI (.ref i1) (.ref i2)) (oO : IsPair s.heap TO a b)
    (t1 : k1.st i1 l1 i s.heap) (t2 : k2.st i2 l2 i s.heap) (r1 : k1.src s.heap l1 xs) (r2 : k2.src s.heap l2 ys) (hx : k1.ix xs i = some x) (hy : k2.ix ys i = some y)
    (hQ : ∀ h', IsZip h' z TI TO (rawInt s.heap.objs.size) → IsPair h' TO x y → k1.st i1 l1 (i + 1) h' → k2.st i2 l2 (i + 1) h' → IsPair h' s.heap.objs.size x y → h'.objs.size = s.heap.objs.size + 1 →
      (∀ c o, c ≠ z → c ≠ TO → c ≠ i1 → c ≠ i2 → s.heap.get? c = some o → h'.get? c = some o) → Q (some (.ref s.heap.objs.size)) { s with heap := h' }) : wpAny (model prog w) A (pyNext (.ref z)) Q E s := by
  have ty : s.TypeIs (.ref z) "zip" := ⟨_, oZ, rfl⟩
  unfold pyNext
  exact wpAny_bind (wpAny_attempt (wpAny_callSpecial?_slot (name := Str.ofString "__next__") ty F.slot_zip_next
    (wpAny_call_entry F.slot_zip_next ty F.entry_zip_next
      (zpg_item D oZ oI oO t1 t2 r1 r2 hx hy fun h' a1 a2 a3 a4 a5 a6 a7 => wpAny_pure (hQ h' a1 a2 a3 a4 a5 a6 a7)) (F.args_zip_next_1 _))))
theorem pyn_end {k1 k2 : Sd} {z TI TO i1 i2 l1 l2 : Addr} {i : Nat} {xs ys : List Value} {a b : Value} {Q : Option Value → Shared → Prop} (hh : A.handled = none) (D : ZipApart z TI TO i1 i2 l1 l2)
    (oZ : IsZip s.heap z TI TO .none) (oI : IsPair s.heap TI (.ref i1) (.ref i2)) (oO : IsPair s.heap TO a b)
    (t1 : k1.st i1 l1 i s.heap) (t2 : k2.st i2 l2 i s.heap) (r1 : k1.src s.heap l1 xs) (r2 : k2.src s.heap l2 ys) (hend : k1.en xs i ∨ ((∃ x, k1.ix xs i = some x) ∧ k2.en ys i))
    (hQ : ∀ h', (∀ c o, c ≠ z → c ≠ TO → c ≠ i1 → c ≠ i2 → s.heap.get? c = some o → h'.get? c = some o) → Q none { s with heap := h' }) : wpAny (model prog w) A (pyNext (.ref z)) Q E s := by
  have ty : s.TypeIs (.ref z) "zip" := ⟨_, oZ, rfl⟩
  unfold pyNext
  refine wpAny_bind (wpAny_attempt (wpAny_callSpecial?_slot (name := Str.ofString "__next__") ty F.slot_zip_next
    (wpAny_call_entry F.slot_zip_next ty F.entry_zip_next (zpg_end hh D oZ oI oO t1 t2 r1 r2 hend fun h' e hk he => ?_) (F.args_zip_next_1 _))))
  obtain ⟨o, ho, hc⟩ := he
  refine wpAny_bind (wpAny_isInstance (T := "StopIteration") (b := true) ⟨o, ho, hc⟩ isSubtype_stop ?_)
  exact wpAny_pure (hQ _ hk)
end
abbrev zT1 (h : Heap) (b : Addr) : Heap := h.push { cls := .type "tuple_iterator", data := .fields #[.ref b, .int 0 0] }
abbrev zT2 (h : Heap) (j b : Addr) : Heap := (zT1 h b).push { cls := .type "tuple", data := .seq #[.ref j, .ref h.objs.size] }
abbrev zT3 (h : Heap) (j b : Addr) : Heap := (zT2 h j b).push { cls := .type "tuple", data := .seq #[.none, .none] }
abbrev zT4 (h : Heap) (j b : Addr) : Heap := (zT3 h j b).push { cls := .type "zip", data := .fields #[.none, .bool false, .bool false, .ref (zT1 h b).objs.size, .ref (zT2 h j b).objs.size] }
theorem meetsZT (j a b : Addr) (q : Int) (ys : Array Value) :
    Meets (Builtin.«zip.__new__» ⟨[.type "zip", .ref j, .ref b], []⟩) (fun _ R s => s.heap.IsRevIter j a q ∧ s.heap.IsTuple b ys ∧
      R (.ok (.ret (.ref (zT3 s.heap j b).objs.size))) { s with heap := zT4 s.heap j b }) :=
  .of_wp fun prog w A R s h => by
    obtain ⟨hp, g, d, tk, os⟩ := s; obtain ⟨w1, w2, h⟩ := h
    have hsub := sub_zip
    have W1 : Heap.IsRevIter (Shared.heap ⟨hp, g, d, tk, os⟩) j a q := w1
    have W2 : Heap.IsTuple (Shared.heap ⟨hp, g, d, tk, os⟩) b ys := w2
    wp_walk using wpAny_pyIter_revIter W1, wpAny_pyIter_tuple W2
    exact ⟨_, rfl, h⟩
section
variable {prog : Program} {w : World} {A : Around} {E : Value → Shared → Prop} {s : Shared}
theorem call_zRT {j a b : Addr} {q : Int} {ys : Array Value} {Q : Value → Shared → Prop} (w1 : s.heap.IsRevIter j a q) (w2 : s.heap.IsTuple b ys)
    (h : ∀ h', IsZip h' (s.heap.objs.size + 3) (s.heap.objs.size + 1) (s.heap.objs.size + 2) .none → IsPair h' (s.heap.objs.size + 1) (.ref j) (.ref s.heap.objs.size) →
      IsPair h' (s.heap.objs.size + 2) .none .none → h'.IsRevIter j a q → h'.IsTupleIter s.heap.objs.size b 0 →
      (∀ c o, s.heap.get? c = some o → h'.get? c = some o) → Q (.ref (s.heap.objs.size + 3)) { s with heap := h' }) :
    wpAny (model prog w) A (call (.type "zip") [.ref j, .ref b]) Q E s := by
  refine callType_new F.called_zip (by decide) (F.typeCall_zip_2 _ _) (F.newCall_zip_2 _ _) (fun obj => F.args_object_init_3 obj _ _) F.entry_zip_new
    (meetsZT j a b q ys) ⟨w1, w2, ?_⟩
  have n1 : (zT1 s.heap b).objs.size = s.heap.objs.size + 1 := Heap.size_push ..
  have n2 : (zT2 s.heap j b).objs.size = s.heap.objs.size + 2 := by rw [Heap.size_push, n1]
  have n3 : (zT3 s.heap j b).objs.size = s.heap.objs.size + 3 := by rw [Heap.size_push, n2]
  have g4 : (zT4 s.heap j b).get? (zT3 s.heap j b).objs.size = some _ := Heap.get?_push_size _ rfl
  have g3 : (zT4 s.heap j b).get? (zT2 s.heap j b).objs.size = some _ := Heap.get?_push_of_some _ (Heap.get?_push_size _ rfl)
  have g2 : (zT4 s.heap j b).get? (zT1 s.heap b).objs.size = some _ := Heap.get?_push_of_some _ (Heap.get?_push_of_some _ (Heap.get?_push_size _ rfl))
  have g1 : (zT4 s.heap j b).get? s.heap.objs.size = some _ := Heap.get?_push_of_some _ (Heap.get?_push_of_some _ (Heap.get?_push_of_some _ (Heap.get?_push_size _ rfl)))
  have up : ∀ c o, s.heap.get? c = some o → (zT4 s.heap j b).get? c = some o := fun c o x =>
    Heap.get?_push_of_some _ (Heap.get?_push_of_some _ (Heap.get?_push_of_some _ (Heap.get?_push_of_some _ x)))
  show _ ∧ _
  rw [n1, n2, n3] at g4
  rw [n2] at g3
  rw [n1] at g2
  rw [n3]
  exact ⟨⟨_, g4, rfl⟩, h _ g4 g2 g3 (w1.at fun o e => up _ o e) ⟨_, g1, rfl, rfl⟩ up⟩
end
abbrev zL1 (h : Heap) (b : Addr) : Heap := h.push { cls := .type "list_iterator", data := .fields #[.ref b, .int 0 0] }
abbrev zL2 (h : Heap) (j b : Addr) : Heap := (zL1 h b).push { cls := .type "tuple", data := .seq #[.ref j, .ref h.objs.size] }
abbrev zL3 (h : Heap) (j b : Addr) : Heap := (zL2 h j b).push { cls := .type "tuple", data := .seq #[.none, .none] }
abbrev zL4 (h : Heap) (j b : Addr) : Heap := (zL3 h j b).push { cls := .type "zip", data := .fields #[.none, .bool false, .bool false, .ref (zL1 h b).objs.size, .ref (zL2 h j b).objs.size] }
theorem meetsZL (j a b : Addr) (q : Int) (ys : Array Value) :
    Meets (Builtin.«zip.__new__» ⟨[.type "zip", .ref j, .ref b], []⟩) (fun _ R s => s.heap.IsRevIter j a q ∧ s.heap.IsList b ys ∧
      R (.ok (.ret (.ref (zL3 s.heap j b).objs.size))) { s with heap := zL4 s.heap j b }) :=
  .of_wp fun prog w A R s h => by
    obtain ⟨hp, g, d, tk, os⟩ := s; obtain ⟨w1, w2, h⟩ := h
    have hsub := sub_zip
    have W1 : Heap.IsRevIter (Shared.heap ⟨hp, g, d, tk, os⟩) j a q := w1
    have W2 : Heap.IsList (Shared.heap ⟨hp, g, d, tk, os⟩) b ys := w2
    wp_walk using wpAny_pyIter_revIter W1, wpAny_pyIter_list W2
    exact ⟨_, rfl, h⟩
section
variable {prog : Program} {w : World} {A : Around} {E : Value → Shared → Prop} {s : Shared}
theorem call_zRL {j a b : Addr} {q : Int} {ys : Array Value} {Q : Value → Shared → Prop} (w1 : s.heap.IsRevIter j a q) (w2 : s.heap.IsList b ys)
    (h : ∀ h', IsZip h' (s.heap.objs.size + 3) (s.heap.objs.size + 1) (s.heap.objs.size + 2) .none → IsPair h' (s.heap.objs.size + 1) (.ref j) (.ref s.heap.objs.size) →
      IsPair h' (s.heap.objs.size + 2) .none .none → h'.IsRevIter j a q → h'.IsListIter s.heap.objs.size b 0 →
      (∀ c o, s.heap.get? c = some o → h'.get? c = some o) → Q (.ref (s.heap.objs.size + 3)) { s with heap := h' }) :
    wpAny (model prog w) A (call (.type "zip") [.ref j, .ref b]) Q E s := by
  refine callType_new F.called_zip (by decide) (F.typeCall_zip_2 _ _) (F.newCall_zip_2 _ _) (fun obj => F.args_object_init_3 obj _ _) F.entry_zip_new
    (meetsZL j a b q ys) ⟨w1, w2, ?_⟩
  have n1 : (zL1 s.heap b).objs.size = s.heap.objs.size + 1 := Heap.size_push ..
  have n2 : (zL2 s.heap j b).objs.size = s.heap.objs.size + 2 := by rw [Heap.size_push, n1]
  have n3 : (zL3 s.heap j b).objs.size = s.heap.objs.size + 3 := by rw [Heap.size_push, n2]
  have g4 : (zL4 s.heap j b).get? (zL3 s.heap j b).objs.size = some _ := Heap.get?_push_size _ rfl
  have g3 : (zL4 s.heap j b).get? (zL2 s.heap j b).objs.size = some _ := Heap.get?_push_of_some _ (Heap.get?_push_size _ rfl)
  have g2 : (zL4 s.heap j b).get? (zL1 s.heap b).objs.size = some _ := Heap.get?_push_of_some _ (Heap.get?_push_of_some _ (Heap.get?_push_size _ rfl))
  have g1 : (zL4 s.heap j b).get? s.heap.objs.size = some _ := Heap.get?_push_of_some _ (Heap.get?_push_of_some _ (Heap.get?_push_of_some _ (Heap.get?_push_size _ rfl)))
  have up : ∀ c o, s.heap.get? c = some o → (zL4 s.heap j b).get? c = some o := fun c o x =>
    Heap.get?_push_of_some _ (Heap.get?_push_of_some _ (Heap.get?_push_of_some _ (Heap.get?_push_of_some _ x)))
  show _ ∧ _
  rw [n1, n2, n3] at g4
  rw [n2] at g3
  rw [n1] at g2
  rw [n3]
  exact ⟨⟨_, g4, rfl⟩, h _ g4 g2 g3 (w1.at fun o e => up _ o e) ⟨_, g1, rfl, rfl⟩ up⟩
end
end M
namespace M
open PySem PySem.Spec PyProof.Rows L2
open PySem.Sem (wp)
/-- the things at a and b, the items in new pairs -/
def ItZ (K : PySem.W.Frag) (k1 k2 : Sd) (a b : Addr) : It :=
  ⟨fun i H => ∃ (xs ys : List V) (x y : V), k1.sq K H a xs ∧ k2.sq K H b ys ∧ k1.ix xs i = some x ∧ k2.ix ys i = some y,
    fun i H v H' => ∃ T x y, v = .ref T ∧ H T = none ∧ H' = upd H T (.tup [x, y]) ∧ (∀ xs, k1.sq K H a xs → k1.ix xs i = some x) ∧ ∀ ys, k2.sq K H b ys → k2.ix ys i = some y,
    fun i H => ∃ xs ys : List V, k1.sq K H a xs ∧ k2.sq K H b ys ∧ (k1.en xs i ∨ ((∃ x, k1.ix xs i = some x) ∧ k2.en ys i))⟩
section
variable {X : Cx} {pins : List (Addr × Obj)} {σ : L2.St} {H : Hp} {s : Shared}
theorem Sd.inv {k : Sd} {a : Addr} {xs : List V} (I : Inv X pins σ H s) (h : k.sq X.K H a xs) : ∃ its, Vals xs its ∧ k.src s.heap a its := by
  cases k with
  | l => obtain ⟨its, rv, p, _⟩ := I.list h; exact ⟨its, rv, p.isList⟩
  | t => obtain ⟨its, rv, p, _⟩ := I.tuple h; exact ⟨its, rv, p⟩
  | r n => obtain ⟨its, rv, p, _⟩ := I.list h; exact ⟨its, rv, p.isList⟩
theorem Sd.inj {k : Sd} {a : Addr} {xs ys : List V} (I : Inv X pins σ H s) (h : k.sq X.K H a xs) (h' : k.sq X.K H a ys) : xs = ys := by
  cases k with
  | l => exact I.list_inj h h'
  | t => exact I.tuple_inj h h'
  | r n => exact I.list_inj h h'
theorem Sd.get {k : Sd} {xs : List V} {its : List Value} {i : Nat} {x : V} (r : Vals xs its) (h : k.ix xs i = some x) : ∃ u, k.ix its i = some u ∧ RelV x u := by
  cases k with
  | l => obtain ⟨u, hu, ru⟩ := r.get h; exact ⟨u, hu, ru⟩
  | t => obtain ⟨u, hu, ru⟩ := r.get h; exact ⟨u, hu, ru⟩
  | r n =>
    have h : (if i < n then xs[n - 1 - i]? else none) = some x := h
    split at h
    · rename_i hi
      obtain ⟨u, hu, ru⟩ := r.get h
      refine ⟨u, ?_, ru⟩
      show (if i < n then its[n - 1 - i]? else none) = some u
      rw [if_pos hi]
      exact hu
    · cases h
theorem Sd.enV {k : Sd} {xs : List V} {its : List Value} {i : Nat} (r : Vals xs its) (h : k.en xs i) : k.en its i := by
  have l := r.length
  cases k with
  | l => show its.length ≤ i; rw [← l]; exact h
  | t => show its.length ≤ i; rw [← l]; exact h
  | r n => exact h
end
theorem turn_zg {P : Program} {w : World} {K : PySem.W.Frag} {elts : List Expr} {kk : Nat} {tpos : Pos} {k1 k2 : Sd} {a b z TI TO i1 i2 : Addr} (D : ZipApart z TI TO i1 i2 a b) :
    Turn P w K (.Tuple elts kk tpos) (ItZ K k1 k2 a b) [z, TI, TO, i1, i2] z (fun i h => IsZip h z TI TO .none ∧ IsPair h TI (.ref i1) (.ref i2) ∧ (∃ x y, IsPair h TO x y) ∧ k1.st i1 a i h ∧ k2.st i2 b i h) where
  mem := by simp
  obj := fun i h st c hc => by
    obtain ⟨hz, hTI, ⟨x, y, hTO⟩, t1, t2⟩ := st
    have cs : c = z ∨ c = TI ∨ c = TO ∨ c = i1 ∨ c = i2 := by simpa using hc
    rcases cs with q | q | q | q | q
    · rw [q]; exact ⟨_, hz, fun v q => nomatch q⟩
    · rw [q]; exact ⟨_, hTI, fun v q => nomatch q⟩
    · rw [q]; exact ⟨_, hTO, fun v q => nomatch q⟩
    · rw [q]; exact Sd.st_obj t1
    · rw [q]; exact Sd.st_obj t2
  keep := fun i h h' st k => by
    obtain ⟨hz, hTI, ⟨x, y, hTO⟩, t1, t2⟩ := st
    exact ⟨k z (by simp) _ hz, k TI (by simp) _ hTI, ⟨x, y, k TO (by simp) _ hTO⟩, Sd.st_keep t1 fun o q => k i1 (by simp) o q, Sd.st_keep t2 fun o q => k i2 (by simp) o q⟩
  item := by
    intro X hP hw hK hc i pins s σ H E I hf st hg
    subst hP hw hK
    obtain ⟨hz, hTI, ⟨x0, y0, hTO⟩, t1, t2⟩ := st
    obtain ⟨xs, ys, x, y, hqx, hqy, hx, hy⟩ := hg
    obtain ⟨its, rv, p⟩ := Sd.inv I hqx
    obtain ⟨its2, rv2, p2⟩ := Sd.inv I hqy
    obtain ⟨u, hu, ru⟩ := Sd.get rv hx
    obtain ⟨u2, hu2, ru2⟩ := Sd.get rv2 hy
    have zl : z < s.heap.objs.size := Heap.lt_size hz
    refine pyn_item D hz hTI hTO t1 t2 p p2 hu hu2 fun h' z' TO' t1' t2' hT hsz hk => ?_
    refine ⟨_, rfl, wpAny_letOwnedTupleGo_zip (s := { s with heap := h' }) z' fun h'' z'' sb => ?_⟩
    have oT : h''.get? s.heap.objs.size = some { cls := .type "tuple", data := .seq #[u, u2] } := (sb.2 _ (Nat.ne_of_gt zl)).trans hT
    have new : ObjOk X.prog X.w (upd H s.heap.objs.size (.tup [x, y])) h'' s.heap.objs.size (.tup [x, y]) :=
      ⟨by show 2 ≤ sizeLine; decide, [u, u2], .cons ru (.cons ru2 .nil), ⟨_, oT, rfl, _, rfl⟩⟩
    have I1 : Inv X pins σ (upd H s.heap.objs.size (.tup [x, y])) { s with heap := h'' } := by
      refine I.turnedNew (t' := s.toks) (ch := [z, TI, TO, i1, i2]) (fun c o hb q => ?_) hf (Nat.le_refl _) new
      have no : c ≠ z ∧ c ≠ TI ∧ c ≠ TO ∧ c ≠ i1 ∧ c ≠ i2 := by simpa using hb
      exact (sb.2 c no.1).trans (hk c o no.1 no.2.2.1 no.2.2.2.1 no.2.2.2.2 q)
    refine ⟨.ref s.heap.objs.size, _, I1, rfl, ⟨_, x, y, rfl, I.hok.fresh (Nat.le_refl _), rfl, fun l hl => by rw [Sd.inj I hl hqx]; exact hx, fun l hl => by rw [Sd.inj I hl hqy]; exact hy⟩, ⟨z'', ?_, ⟨u, u2, ?_⟩, ?_, ?_⟩, fun c hcm => ?_⟩
    · exact (sb.2 _ D.TIz).trans (hk _ _ D.TIz D.TITO D.TIi1 D.TIi2 hTI)
    · exact (sb.2 _ D.TOz).trans TO'
    · exact Sd.st_keep t1' fun o q => (sb.2 _ D.i1z).trans q
    · exact Sd.st_keep t2' fun o q => (sb.2 _ D.i2z).trans q
    · have hlt : c < s.heap.objs.size := by
        have cs : c = z ∨ c = TI ∨ c = TO ∨ c = i1 ∨ c = i2 := by simpa using hcm
        obtain ⟨o1, e1, _⟩ := Sd.st_obj t1
        obtain ⟨o2, e2, _⟩ := Sd.st_obj t2
        rcases cs with q | q | q | q | q
        · rw [q]; exact zl
        · rw [q]; exact Heap.lt_size hTI
        · rw [q]; exact Heap.lt_size hTO
        · rw [q]; exact Heap.lt_size e1
        · rw [q]; exact Heap.lt_size e2
      rw [upd_ne (Nat.ne_of_lt hlt)]
      exact (hf c hcm).1
  done := by
    intro X hP hw hK hc i pins s σ H E I hf st hg
    subst hP hw hK
    obtain ⟨hz, hTI, ⟨x0, y0, hTO⟩, t1, t2⟩ := st
    obtain ⟨xs, ys, hqx, hqy, hend⟩ := hg
    obtain ⟨its, rv, p⟩ := Sd.inv I hqx
    obtain ⟨its2, rv2, p2⟩ := Sd.inv I hqy
    refine pyn_end (I.ok.hd hc) D hz hTI hTO t1 t2 p p2 (hend.imp (fun q => Sd.enV rv q) fun ⟨⟨x, q⟩, q2⟩ => ⟨let ⟨u, hu, _⟩ := Sd.get rv q; ⟨u, hu⟩, Sd.enV rv2 q2⟩) fun h' hk => ⟨rfl, ?_⟩
    refine I.turnedL (t' := s.toks) (ch := [z, TI, TO, i1, i2]) (fun c o hb q => ?_) hf
    have no : c ≠ z ∧ c ≠ TI ∧ c ≠ TO ∧ c ≠ i1 ∧ c ≠ i2 := by simpa using hb
    exact hk c o no.1 no.2.2.1 no.2.2.2.1 no.2.2.2.2 q
  self := fun A i s Q E st h => wpAny_pyIter_zip st.1 h
theorem apart_zr (n j a b : Nat) (lj : j < n) (la : a < n) (lb : b < n) (h1 : a ≠ j) (h2 : b ≠ j) : ZipApart (n + 3) (n + 1) (n + 2) j n a b := by
  constructor <;> first | (show ¬ ((_ : Nat) = _); omega) | assumption
/-- zip(reversed(x), y) -/
def iZr (K : PySem.W.Frag) (te tf : TE) : TI := fun σ H R => te σ H fun v H1 => ∃ (a : Addr) (xs : List V), v = .ref a ∧ SqL K H1 a xs ∧ tf σ H1 fun u H2 => ∃ (b : Addr) (ys zs : List V), u = .ref b ∧ SqL K H2 a zs ∧
  ((SqT K H2 b ys ∧ R (ItZ K (.r xs.length) .t a b) H2) ∨ (SqL K H2 b ys ∧ R (ItZ K (.r xs.length) .l a b) H2))
theorem pi_zr {X : Cx} {e e2 : Expr} {te tf : TE} {p p2 pos pos2 tpos : Pos} {elts : List Expr} {kk : Nat} (hgz : Gl X "zip") (hmz : X.mg "zip" = none) (hg : Gl X "reversed") (hm : X.mg "reversed" = none) (he : PE X e te) (hf : PE X e2 tf)
    (hs0 : starEach [e] X.env = (false, eval e X.env) :: starEach [] X.env := by rfl)
    (hs : starEach [.Call (.Name "reversed" p2) [e] [] pos2, e2] X.env = (false, eval (.Call (.Name "reversed" p2) [e] [] pos2) X.env) :: (false, eval e2 X.env) :: starEach [] X.env := by rfl)
    (hs2 : starEach [e2] X.env = (false, eval e2 X.env) :: starEach [] X.env := by rfl) (hpl : (backTo pos (starEach [e2] X.env)).any (·.1) = false := by rfl) :
    PI X (.Tuple elts kk tpos) (.Call (.Name "zip" p) [.Call (.Name "reversed" p2) [e] [] pos2, e2] [] pos) (iZr X.K te tf) := by
  refine ⟨fun pins s σ H R I h => ?_⟩
  refine Call_ (ld_blt I hgz hmz PyProof.Rows.boot_zip (PyProof.Rows.callWith_type1 (args_cons ?_ (hs.trans (by rw [hs2]))) (hs.trans (by rw [hs2])) hpl))
  refine Call_ (ld_blt I hg hm PyProof.Rows.boot_reversed (PyProof.Rows.callWith_type1 (args_cons (thn (he.run pins s σ H _ I h) fun u s1 ⟨v, H1, I1, r1, q1⟩ => args_nil ?_) hs0) hs0 rfl))
  obtain ⟨a, xs, ev, hq, q⟩ := q1
  subst ev
  obtain rfl : u = Value.ref a := r1
  obtain ⟨its, rv, p', hz⟩ := I1.list hq
  have hl := rv.length
  refine call_reversed_list p'.isList ?_
  have J1 : Inv X ((s1.heap.objs.size, revObj a (its.toArray.size - 1)) :: pins) σ H1 { s1 with heap := s1.heap.push (revObj a (its.toArray.size - 1)) } :=
    ClX.pin_new (t' := s1.toks) I1 (fun b u e => Heap.get?_push_of_some _ e) (Nat.le_refl _) (Heap.get?_push_size _ rfl) (fun v q => nomatch q)
  have fp : FpOk X pins H1 s1.heap.objs.size := I1.fpOk (Nat.le_refl _) (I1.hok.fresh (Nat.le_refl _))
  refine args_cons (thn (hf.run _ _ σ H1 _ J1 q) fun u2 s2 ⟨v2, H2, I2, r2, q2⟩ => args_nil ?_) hs2
  obtain ⟨b, ys, zs, ev, hqa, q2⟩ := q2
  subst ev
  obtain rfl : u2 = Value.ref b := r2
  have hp := ClX.pin_at I2
  have hn := ClX.pin_un I2
  have J2 := ClX.unpin I2
  dsimp only at hp hn
  generalize s1.heap.objs.size = j at hp hn fp
  have w1 : s2.heap.IsRevIter j a ((xs.length : Int) - 1 - ((0 : Nat) : Int)) := by
    have e1 : ((its.toArray.size : Nat) : Int) - 1 = (xs.length : Int) - 1 - ((0 : Nat) : Int) := by simp only [List.size_toArray]; omega
    exact ⟨_, hp, rfl, by rw [← e1]; rfl⟩
  have lj : j < s2.heap.objs.size := Heap.lt_size hp
  obtain ⟨itsa, rva, pa, _⟩ := J2.list hqa
  have la : a < s2.heap.objs.size := pa.lt
  have naj : a ≠ j := fun z => by
    obtain ⟨o, ho, ho2, _⟩ := pa.isList
    rw [z, hp] at ho
    cases ho
    exact absurd (show Value.type "list_reverseiterator" = Value.type "list" from ho2) (by decide)
  have fresh : ∀ c ∈ [s2.heap.objs.size + 3, s2.heap.objs.size + 1, s2.heap.objs.size + 2, j, s2.heap.objs.size], FpOk X pins H2 c := fun c hc => by
    have cs : c = s2.heap.objs.size + 3 ∨ c = s2.heap.objs.size + 1 ∨ c = s2.heap.objs.size + 2 ∨ c = j ∨ c = s2.heap.objs.size := by simpa using hc
    have big : s2.heap.objs.size ≤ c → FpOk X pins H2 c := fun le => J2.fpOk le (J2.hok.fresh le)
    rcases cs with z | z | z | z | z
    · exact big (by rw [z]; exact Nat.le_add_right _ _)
    · exact big (by rw [z]; exact Nat.le_add_right _ _)
    · exact big (by rw [z]; exact Nat.le_add_right _ _)
    · rw [z]; exact ⟨hn, fp.2⟩
    · exact big (by rw [z]; exact Nat.le_refl _)
  have apart : ∀ b, b < s2.heap.objs.size → b ≠ j → ZipApart (s2.heap.objs.size + 3) (s2.heap.objs.size + 1) (s2.heap.objs.size + 2) j s2.heap.objs.size a b :=
    fun b lb nbj => apart_zr _ _ _ _ lj la lb naj nbj
  rcases q2 with ⟨hb, q2⟩ | ⟨hb, q2⟩
  · obtain ⟨its2, rv2, pb, _⟩ := J2.tuple hb
    have nbj : b ≠ j := fun z => by
      obtain ⟨o, ho, ho2, _⟩ := id pb
      rw [z, hp] at ho
      cases ho
      exact absurd (show Value.type "list_reverseiterator" = Value.type "tuple" from ho2) (by decide)
    have lb : b < s2.heap.objs.size := by
      obtain ⟨o, ho, _⟩ := id pb
      exact Heap.lt_size ho
    refine call_zRT w1 (show s2.heap.IsTuple b its2.toArray from pb) fun h' oZ oI oO t1 t2 hk => wpAny_pyIter_zip oZ ?_
    exact ⟨_, _, _, _, H2, rfl, J2.kept (t' := s2.toks) hk, turn_zg (k1 := .r xs.length) (k2 := .t) (apart b lb nbj), ⟨oZ, oI, ⟨_, _, oO⟩, ⟨Nat.zero_le _, t1⟩, t2⟩, fresh, q2⟩
  · obtain ⟨its2, rv2, pb, _⟩ := J2.list hb
    have nbj : b ≠ j := fun z => by
      obtain ⟨o, ho, ho2, _⟩ := pb.isList
      rw [z, hp] at ho
      cases ho
      exact absurd (show Value.type "list_reverseiterator" = Value.type "list" from ho2) (by decide)
    refine call_zRL w1 pb.isList fun h' oZ oI oO t1 t2 hk => wpAny_pyIter_zip oZ ?_
    exact ⟨_, _, _, _, H2, rfl, J2.kept (t' := s2.toks) hk, turn_zg (k1 := .r xs.length) (k2 := .l) (apart b pb.lt nbj), ⟨oZ, oI, ⟨_, _, oO⟩, ⟨Nat.zero_le _, t1⟩, t2⟩, fresh, q2⟩
/-! ### in the small machine -/
theorem zipB_get : ∀ {xs ys : List B} {i : Nat} {x : B}, (zipB xs ys)[i]? = some x → ∃ a b, xs[i]? = some a ∧ ys[i]? = some b ∧ x = .tup [a, b]
  | [], _, _, _, h => by simp [zipB] at h
  | _ :: _, [], _, _, h => by simp [zipB] at h
  | a :: xs, b :: ys, 0, x, h => by
    simp [zipB] at h
    exact ⟨a, b, rfl, rfl, h.symm⟩
  | a :: xs, b :: ys, i + 1, x, h => by
    obtain ⟨p, q, h1, h2, h3⟩ := zipB_get (xs := xs) (ys := ys) (i := i) (by simpa [zipB] using h)
    exact ⟨p, q, by simpa using h1, by simpa using h2, h3⟩
theorem zipB_len : ∀ (xs ys : List B), (zipB xs ys).length = min xs.length ys.length
  | [], ys => by simp [zipB]
  | _ :: _, [] => by simp [zipB]
  | a :: xs, b :: ys => by
    simp only [zipB, List.length_cons, zipB_len xs ys]
    omega
theorem sd_rev {α : Type} {zs : List α} {i : Nat} (h : i < zs.length) : zs.reverse[i]? = zs[zs.length - 1 - i]? := by
  rw [List.getElem?_reverse h]
section
variable {C : Ct}
theorem it_zr {F ι} {S0 : Store} {k2 : Sd} {a b : Addr} {n : Nat} {zs ys : List B} (hk : k2 = .l ∨ k2 = .t) (hn : zs.length = n)
    (hA : ∀ tp F' ι' S' H', Le F ι F' ι' → RH (C.w tp) F' ι' S' H' → LK S0 S' → ∃ vs, SqL C.K H' a vs ∧ RelBs C F' zs vs)
    (hB : ∀ tp F' ι' S' H', Le F ι F' ι' → RH (C.w tp) F' ι' S' H' → LK S0 S' → ∃ us, k2.sq C.K H' b us ∧ RelBs C F' ys us) : ItOk C F ι S0 (ItZ C.K (.r n) k2 a b) (zipB zs.reverse ys) := by
  refine fun tp F' ι' S' H' sb l rh fr lk => ?_
  obtain ⟨vs, a1, a2⟩ := hA tp F' ι' S' H' l rh lk
  obtain ⟨us, b1, b2⟩ := hB tp F' ι' S' H' l rh lk
  have lv : vs.length = n := by rw [← a2.length, hn]
  have k2ix : ∀ (us : List V) i, k2.ix us i = us[i]? := fun us i => by rcases hk with rfl | rfl <;> rfl
  have k2en : ∀ (us : List V) i, k2.en us i = (us.length ≤ i) := fun us i => by rcases hk with rfl | rfl <;> rfl
  have ix1 : ∀ i, i < n → (Sd.r n).ix vs i = vs.reverse[i]? := fun i hi => by
    show (if i < n then vs[n - 1 - i]? else none) = _
    rw [if_pos hi, sd_rev (by omega), lv]
  refine ⟨fun i x hx => ?_, ?_⟩
  · obtain ⟨p, q, h1, h2, rfl⟩ := zipB_get hx
    have hi : i < n := by
      have := (List.getElem?_eq_some_iff.mp h1).1
      rw [List.length_reverse] at this
      omega
    obtain ⟨v, hv, rv⟩ := a2.reverse.get h1
    obtain ⟨u, hu, ru⟩ := b2.get h2
    refine ⟨⟨vs, us, v, u, a1, b1, by rw [ix1 i hi]; exact hv, by rw [k2ix]; exact hu⟩, ?_⟩
    rintro w H2 ⟨T, x', y', rfl, hT, rfl, f1, f2⟩
    have e1 := f1 vs a1
    rw [ix1 i hi, hv] at e1
    cases e1
    have e2 := f2 us b1
    rw [k2ix, hu] at e2
    cases e2
    obtain ⟨r1, r2, r3⟩ := rh.newF fr (u := .tup [v, u]) hT
    refine ⟨_, r3, r1, r2, T, [v, u], rfl, .inl (.inl upd_same), ?_⟩
    exact ⟨v, [u], rfl, RelB.mono r3.1 _ _ rv, u, [], rfl, RelB.mono r3.1 _ _ ru, rfl⟩
  · refine ⟨vs, us, a1, b1, ?_⟩
    rw [zipB_len, List.length_reverse, hn]
    by_cases h : n ≤ ys.length
    · left
      show n ≤ min n ys.length
      omega
    · right
      refine ⟨?_, ?_⟩
      · have hi : min n ys.length < n := by omega
        rw [ix1 _ hi]
        exact ⟨_, List.getElem?_eq_getElem (by rw [List.length_reverse]; omega)⟩
      · rw [k2en, ← b2.length]
        omega
theorem mi_zr {X : Cx} {P : Par} {a b : Expr} {ma mb : E} {j : Nat} {p p2 pos pos2 tpos : Pos} {elts : List Expr} {kk : Nat} (hK : C.K = X.K) (hgz : Gl X "zip") (hmz : X.mg "zip" = none) (hg : Gl X "reversed") (hm : X.mg "reversed" = none) (ha : ME X C P a ma) (hb : ME X C P b mb) (hj : mb = .v j := by rfl)
    (hs0 : starEach [a] X.env = (false, eval a X.env) :: starEach [] X.env := by rfl)
    (hs : starEach [.Call (.Name "reversed" p2) [a] [] pos2, b] X.env = (false, eval (.Call (.Name "reversed" p2) [a] [] pos2) X.env) :: (false, eval b X.env) :: starEach [] X.env := by rfl)
    (hs2 : starEach [b] X.env = (false, eval b X.env) :: starEach [] X.env := by rfl) (hpl : (backTo pos (starEach [b] X.env)).any (·.1) = false := by rfl) :
    MI X C P (.Tuple elts kk tpos) (.Call (.Name "zip" p) [.Call (.Name "reversed" p2) [a] [] pos2, b] [] pos) .zr [ma, mb] := (pi_zr hgz hmz hg hm ha hb hs0 hs hs2 hpl).imp fun σ H R h => by
  obtain ⟨F, ι, S, sl, ds, S1, xs, rs, e1, e2, nd, k⟩ := h
  subst hj
  unfold evs at e1
  obtain ⟨⟨d, S2⟩, e3, e1⟩ := Option.bind_eq_some_iff.mp e1
  obtain ⟨⟨ds2, S3⟩, e4, e1⟩ := Option.map_eq_some_iff.mp e1
  cases e1
  unfold evs evs at e4
  obtain ⟨⟨d2, S4⟩, e5, e4⟩ := Option.bind_eq_some_iff.mp e4
  cases e4
  have hS : S4 = S2 := by
    unfold ev at e5
    split at e5
    · cases e5; rfl
    · cases e5
  subst hS
  dsimp only at *
  obtain ⟨zs, hz, e2⟩ := Option.bind_eq_some_iff.mp (show ((lsqD S4 d).bind fun xs => (seqD S4 d2).map fun ys => zipB xs.reverse ys) = some xs from e2)
  obtain ⟨ys, hy, rfl⟩ := Option.map_eq_some_iff.mp e2
  refine rs.one e3 fun F1 ι1 v H1 l1 r1 q1 => ?_
  obtain ⟨a0, vs, rfl, h1, h2⟩ := lsq_rel r1.rh q1 hz
  refine ⟨a0, vs, rfl, hK ▸ h1, ?_⟩
  refine r1.one e5 fun F2 ι2 u H2 l2 r2 q2 => ?_
  have q1' : RelD C F2 ι2 d (.ref a0) := RelD.mono l2 _ _ q1
  obtain ⟨a1, ea, kpA⟩ := lsq_keep (ds := [d, d2]) r2.rh q1' (List.mem_cons_self ..) hz
  cases ea
  obtain ⟨a1, vs2, ea, g1, g2⟩ := lsq_rel r2.rh q1' hz
  cases ea
  have hn : zs.length = vs.length := h2.length
  by_cases ht : ∃ ws, d2 = .b (.tup ws)
  · obtain ⟨ws, rfl⟩ := ht
    cases hy
    obtain ⟨b0, us, rfl, t1, t2⟩ := q2
    refine ⟨b0, us, vs2, rfl, hK ▸ g1, .inl ⟨hK ▸ sqT_mono r2.rh.fz t1, ?_⟩⟩
    refine k F2 ι2 H2 _ (l1.trans l2) (r2.rh.lockAll nd) r2.fr (hK ▸ it_zr (.inr rfl) hn kpA fun tp F' ι' S' H' l rh lk => ?_)
    exact ⟨us, sqT_mono (l.1.trans rh.fz) t1, RelBs.mono l.1 _ _ t2⟩
  · have hy' : lsqD S4 d2 = some ys := by
      unfold lsqD
      split
      · exact (ht ⟨_, rfl⟩).elim
      · exact hy
    obtain ⟨b0, rfl, kpB⟩ := lsq_keep (ds := [d, d2]) r2.rh q2 (List.mem_cons_of_mem _ (List.mem_cons_self ..)) hy'
    obtain ⟨b1, us, eb, t1, t2⟩ := lsq_rel r2.rh q2 hy'
    cases eb
    refine ⟨b0, us, vs2, rfl, hK ▸ g1, .inr ⟨hK ▸ t1, ?_⟩⟩
    exact k F2 ι2 H2 _ (l1.trans l2) (r2.rh.lockAll nd) r2.fr (hK ▸ it_zr (.inl rfl) hn kpA kpB)
theorem nd_zr (S ds xs) (e : items S .zr ds = some xs) : NoDic S ds := by
  intro n hn kvs hk
  unfold items at e
  split at e <;> try contradiction
  rename_i x y _ _
  obtain ⟨zs, hz, e2⟩ := Option.bind_eq_some_iff.mp e
  obtain ⟨ys, hy, _⟩ := Option.map_eq_some_iff.mp e2
  simp at hn
  rcases hn with rfl | rfl
  · unfold lsqD seqD at hz
    dsimp only at hz
    rw [hk] at hz
    cases hz
  · unfold seqD at hy
    dsimp only at hy
    rw [hk] at hy
    cases hy
end
end M
/-! MCX: min(d.items()) of a dict of one entry. -/
namespace M
open PySem PySem.Spec PyProof.Rows L2
open PySem.Sem (wp)
section
variable {prog : Program} {w : World} {K : Type} [DecidableEq K] {knd : KeyKind prog w K} {A : Around} {E : Value → Shared → Prop} {s : Shared}
theorem items_endO {it d a : Addr} {i ep : Nat} {kvs : List (K × Value)} {ok ov : Value} {Q : Option Value → Shared → Prop} (hh : A.handled = none) (hit : IsItemIterOut s.heap it d i kvs.length ep ok ov a)
    (hm : s.heap.DictAt knd d kvs ep) (hx : kvs[i]? = none)
    (hQ : ∀ h', Heap.ExtBut it s.heap h' → Q none { s with heap := h' }) : wpAny (model prog w) A (pyNext (.ref it)) Q E s := by
  obtain ⟨oD, eD, hD, kD, dD, hk, hpr, hn⟩ := id hm
  have ty : s.TypeIs (.ref it) "dict_itemiterator" := ⟨_, hit, rfl⟩
  unfold pyNext
  refine wpAny_bind (wpAny_attempt (wpAny_callSpecial?_slot (name := Str.ofString "__next__") ty F.slot_dict_itemiterator_next
    (wpAny_call_entry F.slot_dict_itemiterator_next ty F.entry_dict_itemiterator_next ?_ (F.args_dict_itemiterator_next_1 _))))
  refine wpAny_bind (wpAny_pure ?_)
  refine wpAny_bind ?_
  refine wpAny_bind ?_
  first | refine wpAny_bind (wpAny_typeNameOfWhole_itemiter ty (wpAny_pure ?_)) | refine wpAny_bind (wpAny_typeNameOf_itemiter ty (wpAny_pure ?_))
  refine wpAny_bind (wpAny_fieldsOf hit rfl ?_)
  have own : Builtin.Dict_items.ownsTuple "dict_itemiterator" = true := by decide
  simp only [own, if_true]
  show wpAny _ _ (if (Value.ref d == Value.none) = true then _ else _) _ _ s
  rw [if_neg (show ¬ ((Value.ref d == Value.none) = true) from Bool.false_ne_true)]
  refine wpAny_bind (wpAny_pure ?_)
  refine wpAny_bind (wpAny_dictEntries hD dD ?_)
  have sz : eD.size = kvs.length := by rw [← hpr.length]; simp
  rw [if_neg (by rw [sz]; simp)]
  refine wpAny_bind (wpAny_pure ?_)
  refine wpAny_bind (wpAny_dictEpoch hD dD ?_)
  rw [if_neg (by simp)]
  refine wpAny_pure ?_
  have ge : eD.size ≤ i := by rw [sz]; simpa using hx
  simp only [show ¬ ((i : Int) < 0) from by omega, if_false, Int.toNat_natCast, Array.getElem?_eq_none ge]
  refine wpAny_bind ?_
  first | refine wpAny_bind (wpAny_typeNameOfWhole_itemiter ty (wpAny_pure ?_)) | refine wpAny_bind (wpAny_typeNameOf_itemiter ty (wpAny_pure ?_))
  show wpAny _ _ (setField (.ref it) 2 .none >>= _) _ _ s
  refine wpAny_bind (wpAny_setField hit rfl (by simp) ?_)
  show wpAny _ _ (newExc (.type "StopIteration") [] >>= _) _ _ _
  refine wpAny_bind ?_
  simp only [newExc, newTuple]
  refine wpAny_bind (wpAny_newObj_type ?_ (by size_fits))
  refine wpAny_bind (m := firstArgMember _ _) (wpAny_of_eq (a := Value.none) (by first | rfl | (simp only [firstArgMember]; rfl)) ?_)
  refine wpAny_newObj_type ?_ (by size_fits)
  simp only [raiseNew]
  refine wpAny_bind (wpAny_handled ?_)
  rw [show A.in1.handled = none from hh]
  refine wpAny_bind (wpAny_pure (wpAny_throw ?_))
  refine wpAny_bind (wpAny_isInstance (T := "StopIteration") (b := true) ⟨_, Heap.get?_push_size _ rfl, rfl⟩ isSubtype_stop ?_)
  exact wpAny_pure (hQ _ (((Heap.SameBut.update ..).extBut.push _).push _))
theorem min_items1 {v d : Addr} {k : K} {x : Value} {ep : Nat} {Q : Value → Shared → Prop} (hh : A.handled = none) (hv : s.heap.IsItemsView v d) (hm : s.heap.DictAt knd d [(k, x)] ep)
    (hQ : ∀ key T h' tk, knd.is k key = true → s.heap.objs.size ≤ T → h'.get? T = some { cls := .type "tuple", data := .seq #[key, x] } → (∀ b o, s.heap.get? b = some o → h'.get? b = some o) → Q (.ref T) { s with heap := h', toks := tk }) :
    wpAny (model prog w) A (call (.builtin "min") [.ref v]) Q E s := by
  have nm : (toString "min" ++ toString ".loop" : String) = "min.loop" := by decide
  refine call_function_tree F.kind_min F.plain_min F.entry_min (F.args_min1 _) ?_
  show wpAny _ A.in1 (Builtin.Builtins.bindParams "min" ["key", "default"] 0 ⟨[], []⟩ >>= _) _ _ s
  refine wpAny_bind (wpAny_of_eq (show Builtin.Builtins.bindParams "min" ["key", "default"] 0 ⟨[], []⟩ = pure [none, none] from rfl) ?_)
  refine wpAny_bind (wpAny_pure ?_)
  refine wpAny_bind (wpAny_pyIter_items hv hm ?_)
  refine wpAny_bind (wpAny_newObj_type ?_)
  rw [nm]
  refine wpAny_pure ⟨plainId_quiet F.plain_min_loop _, ?_⟩
  refine codeAny_builtin F.entry_min_loop ?_
  rw [Around.under_plainId F.plain_min_loop _]
  have hSz : (s.heap.push { cls := .type "dict_itemiterator", data := .fields #[.none, .bool false, .ref d, .int 0 0, .int ([(k, x)] : List (K × Value)).length 0, .int ep 0, .none, .none] }).objs.size = s.heap.objs.size + 1 := Heap.size_push _ _
  have hit : IsItemIter ((s.heap.push { cls := .type "dict_itemiterator", data := .fields #[.none, .bool false, .ref d, .int 0 0, .int ([(k, x)] : List (K × Value)).length 0, .int ep 0, .none, .none] }).push { cls := .type "list", data := .seq #[] }) s.heap.objs.size d 0 ([(k, x)] : List (K × Value)).length ep .none .none := Heap.get?_push_of_some _ (Heap.get?_push_size _ rfl)
  have hm1 := (hm.push { cls := .type "dict_itemiterator", data := .fields #[.none, .bool false, .ref d, .int 0 0, .int ([(k, x)] : List (K × Value)).length 0, .int ep 0, .none, .none] }).push { cls := .type "list", data := .seq #[] }
  have hS : ((s.heap.push { cls := .type "dict_itemiterator", data := .fields #[.none, .bool false, .ref d, .int 0 0, .int ([(k, x)] : List (K × Value)).length 0, .int ep 0, .none, .none] }).push { cls := .type "list", data := .seq #[] }).get? (s.heap.objs.size + 1) = some { cls := .type "list", data := .seq #[] } := by
    rw [← hSz]
    exact Heap.get?_push_size _ rfl
  have up1 : ∀ b o, s.heap.get? b = some o → ((s.heap.push { cls := .type "dict_itemiterator", data := .fields #[.none, .bool false, .ref d, .int 0 0, .int ([(k, x)] : List (K × Value)).length 0, .int ep 0, .none, .none] }).push { cls := .type "list", data := .seq #[] }).get? b = some o := fun b o e => Heap.get?_push_of_some _ (Heap.get?_push_of_some _ e)
  rw [hSz]
  revert hit hm1 hS up1
  generalize (s.heap.push { cls := .type "dict_itemiterator", data := .fields #[.none, .bool false, .ref d, .int 0 0, .int ([(k, x)] : List (K × Value)).length 0, .int ep 0, .none, .none] }).push { cls := .type "list", data := .seq #[] } = h1
  intro hit hm1 hS up1
  have hlt := Heap.lt_size hS
  show wpAny _ A.in1 (seqItems? (.ref (s.heap.objs.size + 1)) >>= _) _ _ _
  refine wpAny_bind (wpAny_seqItems hS rfl ?_)
  show wpAny _ A.in1 (tryCatch (pyNext (.ref s.heap.objs.size)) _ >>= _) _ _ _
  refine wpAny_bind (wpAny_tryCatch (wpAny_pyNext_items_item (knd := knd) (i := 0) (d := d) (kvs := [(k, x)]) (k := k) (v := x) hit hm1 rfl fun key h' hk hout hT hsz hkp => ?_))
  dsimp only at hT hout hsz hkp
  have ne1 : s.heap.objs.size + 1 ≠ s.heap.objs.size := Nat.succ_ne_self _
  have hS' := hkp (s.heap.objs.size + 1) _ ne1 hS
  show wpAny _ A.in1 (updateSeq (s.heap.objs.size + 1) (fun _ => #[.ref h1.objs.size, .ref h1.objs.size]) >>= _) _ _ _
  refine wpAny_bind ?_
  refine wpAny_updateSeq hS' rfl ?_
  rw [nm]
  refine wpAny_pure ⟨plainId_quiet F.plain_min_loop _, ?_⟩
  refine codeAny_builtin F.entry_min_loop ?_
  rw [Around.under_plainId F.plain_min_loop _]
  show wpAny _ A.in1 (seqItems? (.ref (s.heap.objs.size + 1)) >>= _) _ _ _
  refine wpAny_bind (wpAny_seqItems (Heap.get?_update_self _ hS' rfl) rfl ?_)
  show wpAny _ A.in1 (tryCatch (pyNext (.ref s.heap.objs.size)) _ >>= _) _ _ _
  have dlt : d < s.heap.objs.size := by
    obtain ⟨oD, eD, hD, _⟩ := id hm
    exact Heap.lt_size hD
  have nS : ∀ {b : Addr}, b < s.heap.objs.size → s.heap.objs.size + 1 ≠ b := fun h e => by
    rw [← e] at h
    exact absurd h (Nat.not_lt.mpr (Nat.le_succ _))
  have hm2 := hm1
  obtain ⟨oD, eD, hD, kD, dD, hk2, hpr, hn⟩ := hm2
  have hD' := hkp d oD (Nat.ne_of_lt dlt) hD
  have out2 := (Heap.get?_update_other (h := h') (a := s.heap.objs.size + 1) (fun ob => ob.mapSeq fun _ => #[.ref h1.objs.size, .ref h1.objs.size]) ne1).trans hout
  refine wpAny_bind (wpAny_tryCatch (items_endO (knd := knd) (A := A.in1) (kvs := [(k, x)]) (i := 1) (a := h1.objs.size) (ok := key) (ov := x) (d := d) (ep := ep) hh ?_ ⟨oD, eD, (Heap.get?_update_other _ _ (nS dlt)).trans hD', kD, dD, hk2, hpr, hn⟩ rfl fun h2 ext => ?_))
  · exact out2
  have hS3 := ext (s.heap.objs.size + 1) _ ne1 (Heap.get?_update_self _ hS' rfl)
  show wpAny _ A.in1 (updateSeq (s.heap.objs.size + 1) (fun _ => #[]) >>= _) _ _ _
  refine wpAny_bind ?_
  refine wpAny_updateSeq hS3 rfl (wpAny_bind (wpAny_letGo (wpAny_pure ?_)))
  have nT1 : s.heap.objs.size + 1 ≠ h1.objs.size := Nat.ne_of_lt hlt
  have nT2 : h1.objs.size ≠ s.heap.objs.size := Nat.ne_of_gt (Nat.lt_of_succ_lt hlt)
  refine hQ key h1.objs.size _ _ hk (Nat.le_of_lt (Nat.lt_of_succ_lt hlt)) ?_ fun b o e => ?_
  · exact (Heap.get?_update_other _ _ nT1).trans (ext _ _ nT2 ((Heap.get?_update_other _ _ nT1).trans hT))
  · have blt := Heap.lt_size e
    exact (Heap.get?_update_other _ _ (nS blt)).trans (ext _ _ (Nat.ne_of_lt blt) ((Heap.get?_update_other _ _ (nS blt)).trans (hkp _ _ (Nat.ne_of_lt blt) (up1 _ _ e))))
end
/-- min(x.items()), x of one entry -/
def tMinI1 (td : TE) : TE := fun σ H Q => td σ H fun x H1 => ∃ (d : Addr) (k : L2.Key) (v : V), x = .ref d ∧ Rd H1 d (.dK [(k, v)]) ∧ ∀ T, H1 T = none → Q (.ref T) (upd H1 T (.tup [kV k, v]))
section
variable {X : Cx} {o : Expr} {p pos apos mpos : Pos} {td : TE}
theorem pe_minI1 (hc : X.calm = true) (hg : Gl X "min") (hm : X.mg "min" = none) (hd : PE X o td) (hbase : attributeBase o "items" X.env (eval o X.env) = eval o X.env := by rfl) (hline : (apos.endLine == mpos.line) = true := by rfl)
    (hse : starEach [Expr.Call (.Attribute o "items" apos) [] [] mpos] X.env = [(false, eval (Expr.Call (.Attribute o "items" apos) [] [] mpos) X.env)] := by rfl) :
    PE X (.Call (.Name "min" p) [.Call (.Attribute o "items" apos) [] [] mpos] [] pos) (tMinI1 td) := by
  refine ⟨fun pins s σ H Q I h => ?_⟩
  refine wpAny_Call_Name_kw (ld_blt I hg hm (u := .builtin "min") (by first | rfl | decide +kernel) ?_ (by first | decide +kernel | decide) (by first | decide +kernel | decide))
  rw [hse]
  refine PySem.callWith_builtin1 (wpAny_Call_method0_late hbase hline (thn (hd.run pins s σ H _ I h) fun v s1 ⟨x, H1, I1, r1, d, k, xv, ex, ha, q⟩ => ?_))
  subst ex
  obtain rfl : v = Value.ref d := r1
  obtain ⟨_, hsys, vs, rel, dof⟩ := dk_rd I1.hok ha
  obtain ⟨ep, dat⟩ := dof.dictAt
  obtain ⟨u, hu, ru⟩ := kv_get rel (i := 0) (k := k) (v := xv) rfl
  have hvl : ([(k, xv)] : List (L2.Key × V)).length = vs.length := Paired.length rel
  have evs : vs = [(k, u)] := by
    cases vs with
    | nil => cases hu
    | cons a r =>
      cases hu
      cases r with
      | nil => rfl
      | cons b r => simp at hvl
  subst evs
  have dat' := dat
  obtain ⟨ob, es, ho, ex, hdat, hko, hpr, hnd⟩ := dat'
  refine ⟨"dict", "dict.items", F.plainAttrs_dict, F.slot_dict_items, F.type_dict_items, ⟨ob, ho, ex.1⟩, fun b e => ?_, Calls.callWith_builtin rfl (PySem.evalArgs_none ?_)⟩
  · cases e
    exact ⟨ob, ho, ex.2.1⟩
  refine call_meetsIn F.slot_dict_items ⟨ob, ho, ex.1⟩ F.entry_dict_items (F.args_dict_items_1 _) (meets_dict_items (mixKind X.prog X.w) d hsys) ⟨⟨_, dof⟩, ?_⟩
  refine min_items1 (knd := mixKind X.prog X.w) (I.ok.hd hc) ⟨_, Heap.get?_push_size _ rfl, rfl, rfl⟩ (dat.push _) fun key T h' tk hk hle hT hkp => ?_
  have hle' : s1.heap.objs.size ≤ T := Nat.le_trans (by rw [Heap.size_push] <;> exact Nat.le_succ _) hle
  have new : ObjOk X.prog X.w (upd H1 T (.tup [kV k, xv])) h' T (.tup [kV k, xv]) :=
    ⟨by show 2 ≤ sizeLine; decide, [key, u], .cons (relV_key (show keyIs k key = true from hk)) (.cons ru .nil), ⟨_, hT, rfl, _, rfl⟩⟩
  exact ⟨.ref T, _, I1.laid (t' := tk) (fun b ob e => hkp b ob (Heap.get?_push_of_some _ e)) hle' new, rfl, q T (I1.hok.fresh hle')⟩
theorem me_minit {C : Ct} {P : Par} {mo : E} (hc : X.calm = true) (hm : X.mg "min" = none) (hd : ME X C P o mo) (hg : Gl X "min" := by rfl) (hbase : attributeBase o "items" X.env (eval o X.env) = eval o X.env := by rfl) (hline : (apos.endLine == mpos.line) = true := by rfl)
    (hse : starEach [Expr.Call (.Attribute o "items" apos) [] [] mpos] X.env = [(false, eval (Expr.Call (.Attribute o "items" apos) [] [] mpos) X.env)] := by rfl) :
    ME X C P (.Call (.Name "min" p) [.Call (.Attribute o "items" apos) [] [] mpos] [] pos) (.bi .minit false [mo]) := (pe_minI1 hc hg hm hd hbase hline hse).imp fun σ H Q h => by
  obtain ⟨F, ι, S, sl, d, S', rs, e, post⟩ := h
  unfold ev at e
  obtain ⟨⟨ds, S1⟩, e1, e⟩ := Option.bind_eq_some_iff.mp e
  unfold evs at e1
  obtain ⟨⟨d1, S2⟩, e2, e1⟩ := Option.bind_eq_some_iff.mp e1
  cases e1
  have e' : pure' S2 ((dicD S2 d1).bind fun kvs => match kvs with
    | [(k, v)] => some (D.b (.tup [kB k, v]))
    | _ => none) = some (d, S') := e
  unfold pure' at e'
  obtain ⟨y, e3, e4⟩ := Option.map_eq_some_iff.mp e'
  cases e4
  obtain ⟨kvs, e5, e6⟩ := Option.bind_eq_some_iff.mp e3
  refine rs.one e2 fun F1 ι1 v H1 l1 r1 q1 => ?_
  obtain ⟨a, ks, rfl, h1, h2⟩ := dicD_rel r1.rh q1 e5
  split at e6
  · rename_i k x
    cases e6
    obtain ⟨q, rest, rfl, hp, h3⟩ := h2
    cases (show rest = [] from h3)
    obtain ⟨h4, h5⟩ := relKp.mp hp
    refine ⟨a, q.1, q.2, rfl, h1, fun T hT => ?_⟩
    obtain ⟨n1, n2, n3⟩ := r1.rh.newF r1.fr (u := .tup [kV q.1, q.2]) hT
    refine (post.mono l1).new r1.rh r1.fr hT ?_
    exact ⟨T, [kV q.1, q.2], rfl, .inl (.inl upd_same), kV q.1, [q.2], rfl, RelB.mono n3.1 _ _ (kB_rel h4), q.2, [], rfl, RelB.mono n3.1 _ _ h5, rfl⟩
  · cases e6
end
end M
namespace M
open PySem PySem.Spec PyProof.Rows L2
theorem preSum_getD {is : List Int} : ∀ n : Nat, preSum (fun i => is.getD i 0) n = (is.take n).sum
  | 0 => by simp [preSum]
  | n + 1 => by
    rw [preSum, preSum_getD n, List.take_add_one, List.sum_append, List.getD_eq_getElem?_getD]
    cases is[n]? <;> simp
/-- sum(o.values()), a dict with int values -/
def tSumVals (td : TE) : TE := fun σ H Q => td σ H fun x H1 => ∃ (a : Addr) (kvs : List (L2.Key × V)) (is : List Int), x = V.ref a ∧ Rd H1 a (.dK kvs) ∧ kvs.map (·.2) = is.map V.int ∧ Q (.int is.sum) H1
section
variable {X : Cx} {o : Expr} {p pos apos mpos : Pos} {td : TE}
theorem pe_sumVals (hc : X.calm = true) (hg : Gl X "sum") (hm : X.mg "sum" = none) (hd : PE X o td) (hbase : attributeBase o "values" X.env (eval o X.env) = eval o X.env := by rfl) (hline : (apos.endLine == mpos.line) = true := by rfl)
    (hse : starEach [Expr.Call (.Attribute o "values" apos) [] [] mpos] X.env = [(false, eval (Expr.Call (.Attribute o "values" apos) [] [] mpos) X.env)] := by rfl) :
    PE X (.Call (.Name "sum" p) [.Call (.Attribute o "values" apos) [] [] mpos] [] pos) (tSumVals td) := by
  refine ⟨fun pins s σ H Q I h => ?_⟩
  refine wpAny_Call_Name_kw (ld_blt I hg hm (u := .builtin "sum") (by first | rfl | decide +kernel) ?_ (by first | decide +kernel | decide) (by first | decide +kernel | decide))
  rw [hse]
  refine PySem.callWith_builtin1 (wpAny_Call_method0_late hbase hline (thn (hd.run pins s σ H _ I h) fun v s1 ⟨x, H1, I1, r1, a, kvs, is, ex, ha, hv, q⟩ => ?_))
  subst ex
  obtain rfl : v = Value.ref a := r1
  obtain ⟨_, hsys, vs, rel, dof⟩ := dk_rd I1.hok ha
  obtain ⟨ep, dat⟩ := dof.dictAt
  have dat' := dat
  obtain ⟨ob, es, ho, ex, hdat, hko, hpr, hnd⟩ := dat'
  refine ⟨"dict", "dict.values", F.plainAttrs_dict, F.slot_dict_values, F.type_dict_values, ⟨ob, ho, ex.1⟩, fun b e => ?_, Calls.callWith_builtin rfl (PySem.evalArgs_none ?_)⟩
  · cases e
    exact ⟨ob, ho, ex.2.1⟩
  refine call_meetsIn F.slot_dict_values ⟨ob, ho, ex.1⟩ F.entry_dict_values (F.args_dict_values_1 _) (meets_dict_values (mixKind X.prog X.w) a hsys) ⟨⟨vs, dof⟩, ?_⟩
  have k1 : ∀ b u, s1.heap.get? b = some u → (s1.heap.push { cls := .type "dict_values", data := .fields #[.ref a] }).get? b = some u := fun b u e => Heap.get?_push_of_some _ e
  have dat1 : (s1.heap.push { cls := .type "dict_values", data := .fields #[.ref a] }).DictAt (mixKind X.prog X.w) a vs ep := dat.keep k1
  have hlv : vs.length = is.length := by
    have e1 := congrArg List.length hv
    rw [List.length_map, List.length_map] at e1
    rw [← e1]
    exact (KV.length rel).symm
  have hval : ∀ (i : Nat) (v : Value), (∃ k, vs[i]? = some (k, v)) → ∃ t, v = Value.int (is.getD i 0) t := fun i v ⟨k, hk⟩ => by
    obtain ⟨x, h1, h2⟩ := KV.at' rel hk
    have e1 : (kvs.map (·.2))[i]? = some x := by rw [List.getElem?_map, h1] <;> rfl
    rw [hv, List.getElem?_map] at e1
    obtain ⟨j, hj, e2⟩ := Option.map_eq_some_iff.mp e1
    subst e2
    obtain ⟨t, e3⟩ := h2
    refine ⟨t, ?_⟩
    rw [e3, List.getD_eq_getElem?_getD, hj] <;> rfl
  refine call_sum_walkAnyS (wpAny_pyIter_values (v := s1.heap.objs.size) (d := a) ⟨_, Heap.get?_push_size _ rfl, rfl, rfl⟩ dat1 ?_)
  have hlt : a < s1.heap.objs.size := Heap.lt_size ho
  have hsz : (s1.heap.push { cls := .type "dict_values", data := .fields #[.ref a] }).objs.size = s1.heap.objs.size + 1 := Heap.size_push _ _
  refine ⟨_, _, _, _, _, _, _, fun i => is.getD i 0, rfl, (Walks.dictValues (knd := mixKind X.prog X.w) (A := X.A.in1) (I.ok.hd hc) (s1.heap.push { cls := .type "dict_values", data := .fields #[.ref a] }).objs.size a (by rw [hsz]; exact Nat.ne_of_lt (Nat.lt_succ_of_lt hlt)) vs ep).toS,
    ⟨⟨_, Heap.get?_push_size _ rfl, rfl, rfl⟩, dat1.keep fun b u e => Heap.get?_push_of_some _ e⟩, fun b hb => ?_, hval, fun s' t' hm' => ?_⟩
  · show b < ((s1.heap.push _).push _).objs.size
    rw [Heap.size_push, Heap.size_push]
    rw [hsz] at hb
    rcases List.mem_cons.mp hb with e | hb
    · rw [e]
      exact Nat.lt_succ_self _
    · have e : b = a := List.mem_singleton.mp hb
      rw [e]
      exact Nat.lt_succ_of_lt (Nat.lt_succ_of_lt hlt)
  · rw [Moved.eq_with hm']
    refine ⟨.int _, H1, I1.kept (t' := s'.toks) fun b u e => hm'.heap b u (fun hmem => ?_) (Heap.get?_push_of_some _ (k1 b u e)), ⟨t', rfl⟩, ?_⟩
    · have e1 : b = (s1.heap.push { cls := .type "dict_values", data := .fields #[.ref a] }).objs.size := List.mem_singleton.mp hmem
      have e2 := Heap.lt_size e
      rw [hsz] at e1
      rw [e1] at e2
      exact absurd e2 (Nat.not_lt.mpr (Nat.le_succ _))
    · rw [preSum_getD, hlv, List.take_length]
      exact q
theorem vals_sumv {C : Ct} {F : Hp} : ∀ {kvs : List (Kd × B)} {ks : List (L2.Key × V)} {ns : List Int}, RelBk C F kvs ks → intsB (kvs.map (·.2)) = some ns → ks.map (·.2) = ns.map V.int := by
  intro kvs
  induction kvs with
  | nil =>
    intro ks ns r e
    cases (show ks = [] from r)
    cases e
    rfl
  | cons x xs ih =>
    intro ks ns r e
    obtain ⟨q, rest, rfl, hp, h3⟩ := r
    obtain ⟨h4, h5⟩ := relKp.mp hp
    obtain ⟨xk, xv⟩ := x
    cases xv with
    | int n =>
      have e' : (intsB (xs.map (·.2))).map (n :: ·) = some ns := e
      obtain ⟨m, e1, rfl⟩ := Option.map_eq_some_iff.mp e'
      rw [List.map_cons, List.map_cons, ih h3 e1]
      have h6 : q.2 = V.int n := h5
      rw [h6]
    | _ => cases e
theorem me_sumv {C : Ct} {P : Par} {mo : E} (hc : X.calm = true) (hm : X.mg "sum" = none) (hd : ME X C P o mo) (hg : Gl X "sum" := by rfl) (hbase : attributeBase o "values" X.env (eval o X.env) = eval o X.env := by rfl) (hline : (apos.endLine == mpos.line) = true := by rfl)
    (hse : starEach [Expr.Call (.Attribute o "values" apos) [] [] mpos] X.env = [(false, eval (Expr.Call (.Attribute o "values" apos) [] [] mpos) X.env)] := by rfl) :
    ME X C P (.Call (.Name "sum" p) [.Call (.Attribute o "values" apos) [] [] mpos] [] pos) (.bi .sumv false [mo]) := (pe_sumVals hc hg hm hd hbase hline hse).imp fun σ H Q h => by
  obtain ⟨F, ι, S, sl, d, S', rs, e, post⟩ := h
  unfold ev at e
  obtain ⟨⟨ds, S1⟩, e1, e⟩ := Option.bind_eq_some_iff.mp e
  unfold evs at e1
  obtain ⟨⟨d1, S2⟩, e2, e1⟩ := Option.bind_eq_some_iff.mp e1
  cases e1
  have e' : pure' S2 ((dicD S2 d1).bind fun kvs => (intsB (kvs.map (·.2))).map fun ns => D.b (.int ns.sum)) = some (d, S') := e
  unfold pure' at e'
  obtain ⟨y, e3, e4⟩ := Option.map_eq_some_iff.mp e'
  cases e4
  obtain ⟨kvs, e5, e6⟩ := Option.bind_eq_some_iff.mp e3
  obtain ⟨ns, e7, rfl⟩ := Option.map_eq_some_iff.mp e6
  refine rs.one e2 fun F1 ι1 v H1 l1 r1 q1 => ?_
  obtain ⟨a, ks, rfl, h1, h2⟩ := dicD_rel r1.rh q1 e5
  exact ⟨a, ks, ns, rfl, h1, vals_sumv h2 e7, (post.mono l1).here r1.rh r1.fr rfl⟩
end
end M
/-! ### a dict of one's own is walked -/
namespace M
open PySem PySem.Spec PyProof.Rows L2
section
variable {C : Ct} {F : Hp} {ι : List Addr} {S : Store} {H : Hp}
theorem RH.lockD (r : RH C F ι S H) (fr : Fre F ι) {n : Nat} {a : Addr} {kvs : List (Kd × B)} {ks : List (L2.Key × V)} (ha : ι[n]? = some a) (hS : S[n]? = some (.dic kvs)) (h1 : H a = some (.dK ks)) (h2 : RelBk C F kvs ks) (od : Obj) :
    RH (C.w (upd C.tp a (.frz od (.dK ks)))) F ι (S.set n (.lockd kvs)) (upd H a (.frz od (.dK ks))) := by
  refine ⟨fun b x e => ?_, by rw [List.length_set]; exact r.len, r.nd, fun m b x hb hx => ?_, fun b x e => ?_⟩
  · rw [upd_ne fun z => by rw [z, fr.at ha] at e; cases e]
    exact r.fz b x e
  · by_cases hm : m = n
    · subst hm
      rw [ha] at hb
      cases hb
      rw [List.getElem?_set_self (List.getElem?_eq_some_iff.mp hS).1] at hx
      cases hx
      exact ⟨od, ks, upd_same, RelBk.w _ _ h2, upd_same⟩
    · rw [List.getElem?_set_ne (Ne.symm hm)] at hx
      have hba : b ≠ a := fun z => hm (nodup_get r.nd hb (z ▸ ha))
      exact RelO.w (fun od ks e => (upd_ne hba).trans e) ((r.ob m b x hb hx).at (by rw [upd_ne hba]) fun c hc => by
        rw [upd_ne fun z => by rw [z, h1] at hc; cases hc]
        exact hc)
  · by_cases hb : b = a
    · subst hb
      have e' : upd C.tp b (HO.frz od (.dK ks)) b = some x := e
      rw [upd_same] at e' ⊢
      cases e'
      exact ⟨rfl, fr.at ha, .inr ⟨od, ks, rfl⟩, fun _ z => nomatch z⟩
    · have e' : upd C.tp a (HO.frz od (.dK ks)) b = some x := e
      rw [upd_ne hb] at e' ⊢
      exact r.tm b x e'
theorem RH.unlockD {n : Nat} {a : Addr} {ys : List (Kd × B)} {ks : List (L2.Key × V)} {od : Obj} (r : RH (C.w (upd C.tp a (.frz od (.dK ks)))) F ι S H) (fr : Fre F ι) (hn : C.tp a = none) (ha : ι[n]? = some a) (hS : S[n]? = some (.lockd ys)) :
    RH C F ι (S.set n (.dic ys)) (upd H a (.dK ks)) := by
  have hH : H a = some (.frz od (.dK ks)) := (r.tm a _ (show upd C.tp a (HO.frz od (.dK ks)) a = some _ from upd_same)).1
  refine ⟨fun b x e => ?_, by rw [List.length_set]; exact r.len, r.nd, fun m b x hb hx => ?_, fun b x e => ?_⟩
  · rw [upd_ne fun z => by rw [z, fr.at ha] at e; cases e]
    exact r.fz b x e
  · by_cases hm : m = n
    · subst hm
      rw [ha] at hb
      cases hb
      rw [List.getElem?_set_self (List.getElem?_eq_some_iff.mp hS).1] at hx
      cases hx
      obtain ⟨o', ks', g1, g2, _⟩ := r.ob m a _ ha hS
      rw [hH] at g1
      cases g1
      exact ⟨ks, upd_same, RelBk.w (C := C.w (upd C.tp a (.frz od (.dK ks)))) (tp := C.tp) _ _ g2⟩
    · rw [List.getElem?_set_ne (Ne.symm hm)] at hx
      have hba : b ≠ a := fun z => hm (nodup_get r.nd hb (z ▸ ha))
      exact RelO.w (C := C.w (upd C.tp a (.frz od (.dK ks)))) (tp := C.tp) (fun od' ks' e => (upd_ne hba).symm.trans e) ((r.ob m b x hb hx).at (by rw [upd_ne hba]) fun c hc => by
        rw [upd_ne fun z => by rw [z, hH] at hc; cases hc]
        exact hc)
  · have hb : b ≠ a := fun z => by rw [z, hn] at e; cases e
    have e' : upd C.tp a (HO.frz od (.dK ks)) b = some x := by rw [upd_ne hb]; exact e
    obtain ⟨g1, g2, g3, g4⟩ := r.tm b x e'
    exact ⟨by rw [upd_ne hb]; exact g1, g2, g3, g4⟩
end
theorem me_lkd {X : Cx} {C : Ct} {P : Par} {ee : Expr} {me : E} (i : Nat) (h : ∀ tp, ME X (C.w tp) P ee me) : ME X C P ee (.lkd i me) :=
  ((pe_lock (t := fun σ H Q => ∃ tp, rdE (C.w tp) P me σ H Q) ⟨fun pins s σ H Q I ⟨tp, h'⟩ => (h tp).run pins s σ H Q I h'⟩).or (h C.tp)).imp fun σ H Q h => by
  obtain ⟨F, ι, S, sl, d, S', rs, e, post⟩ := h
  unfold ev at e
  split at e
  case h_2 => exact .inr ⟨F, ι, S, sl, d, S', rs, e, post⟩
  rename_i n hsl
  split at e
  case h_2 => exact .inr ⟨F, ι, S, sl, d, S', rs, e, post⟩
  rename_i kvs hS
  refine .inl ?_
  obtain ⟨⟨d2, S2⟩, e1, e⟩ := Option.bind_eq_some_iff.mp e
  obtain ⟨S3, e2, e⟩ := Option.map_eq_some_iff.mp e
  cases e
  obtain ⟨a, ha, ks, h1, h2⟩ := rs.rh.addr hS
  have hL : lockAll S [.ref n] = S.set n (.lockd kvs) := by
    show (match S[n]? with
      | some (.lst xs) => S.set n (.lockl xs)
      | some (.dic kvs) => S.set n (.lockd kvs)
      | _ => S) = _
    rw [hS]
  rw [hL] at e1
  have hU : ∃ ys, S2[n]? = some (.lockd ys) ∧ S' = S2.set n (.dic ys) := by
    have e2' : (unlock S S2 (.ref n)).bind (fun S2 => some S2) = some S' := e2
    obtain ⟨S4, e3, e4⟩ := Option.bind_eq_some_iff.mp e2'
    cases e4
    unfold unlock at e3
    dsimp only at e3
    rw [hS] at e3
    dsimp only at e3
    split at e3
    · rename_i ys hy
      cases e3
      exact ⟨ys, hy, rfl⟩
    · cases e3
  obtain ⟨ys, hy, rfl⟩ := hU
  have hn : C.tp a = none := by
    cases q : C.tp a with
    | none => rfl
    | some u =>
      obtain ⟨g1, g2, g3, g4⟩ := rs.rh.tm a u q
      rw [h1] at g1
      cases g1
      rcases g3 with g3 | ⟨_, _, g3⟩
      · exact (g3 (List.mem_of_getElem? ha)).elim
      · cases g3
  refine ⟨a, .dK ks, h1, trivial, fun od => ⟨upd C.tp a (.frz od (.dK ks)), F, ι, S.set n (.lockd kvs), sl, d2, S2, ⟨rs.rh.lockD rs.fr ha hS h1 h2 od, rs.fr, rs.rs.w⟩, e1, fun F' ι' v H' l rh' fr' rv => ?_⟩⟩
  refine ⟨(rh'.tm a _ (show upd C.tp a (HO.frz od (.dK ks)) a = some _ from upd_same)).1, ?_⟩
  exact post F' ι' v _ l (rh'.unlockD fr' hn (l.get ha) hy) fr' (RelD.w (C := C.w (upd C.tp a (.frz od (.dK ks)))) (tp := C.tp) _ _ rv)
/-- a walk over a dict, as a statement -/
theorem ms_lks {X : Cx} {C : Ct} {P : Par} {st : Stmt} {m : M.St} (i : Nat) (h : ∀ tp, MS X (C.w tp) P st m) : MS X C P st (.lks i m) :=
  ((ps_lock (t := fun D σ H => ∃ tp, sdS (C.w tp) P m D σ H) ⟨fun pins s σ H D I ⟨tp, h'⟩ => (h tp).run pins s σ H D I h'⟩).or (h C.tp)).imp fun D σ H h => by
  obtain ⟨F, ι, S, sl, r, rs, e, post⟩ := h
  unfold exec at e
  split at e
  case h_2 => exact .inr ⟨F, ι, S, sl, r, rs, e, post⟩
  rename_i n hsl
  split at e
  case h_2 => exact .inr ⟨F, ι, S, sl, r, rs, e, post⟩
  rename_i kvs hS
  refine .inl ?_
  obtain ⟨⟨f, sl2, S2⟩, e1, e⟩ := Option.bind_eq_some_iff.mp e
  obtain ⟨S3, e2, e⟩ := Option.map_eq_some_iff.mp e
  cases e
  obtain ⟨a, ha, ks, h1, h2⟩ := rs.rh.addr hS
  have hL : lockAll S [.ref n] = S.set n (.lockd kvs) := by
    show (match S[n]? with
      | some (.lst xs) => S.set n (.lockl xs)
      | some (.dic kvs) => S.set n (.lockd kvs)
      | _ => S) = _
    rw [hS]
  rw [hL] at e1
  have hU : ∃ ys, S2[n]? = some (.lockd ys) ∧ S3 = S2.set n (.dic ys) := by
    have e2' : (unlock S S2 (.ref n)).bind (fun S2 => some S2) = some S3 := e2
    obtain ⟨S4, e3, e4⟩ := Option.bind_eq_some_iff.mp e2'
    cases e4
    unfold unlock at e3
    dsimp only at e3
    rw [hS] at e3
    dsimp only at e3
    split at e3
    · rename_i ys hy
      cases e3
      exact ⟨ys, hy, rfl⟩
    · cases e3
  obtain ⟨ys, hy, rfl⟩ := hU
  have hn : C.tp a = none := by
    cases q : C.tp a with
    | none => rfl
    | some u =>
      obtain ⟨g1, g2, g3, g4⟩ := rs.rh.tm a u q
      rw [h1] at g1
      cases g1
      rcases g3 with g3 | ⟨_, _, g3⟩
      · exact (g3 (List.mem_of_getElem? ha)).elim
      · cases g3
  refine ⟨a, .dK ks, h1, trivial, fun od => ⟨upd C.tp a (.frz od (.dK ks)), F, ι, S.set n (.lockd kvs), sl, (f, sl2, S2), ⟨rs.rh.lockD rs.fr ha hS h1 h2 od, rs.fr, rs.rs.w⟩, e1, ?_⟩⟩
  cases f with
  | nx => exact fun F' ι' σ' H' l rs' => ⟨(rs'.rh.tm a _ (show upd C.tp a (HO.frz od (.dK ks)) a = some _ from upd_same)).1, post F' ι' σ' _ l ⟨rs'.rh.unlockD rs'.fr hn (l.get ha) hy, rs'.fr, RelSl.w (C := C.w (upd C.tp a (.frz od (.dK ks)))) (tp := C.tp) rs'.rs⟩⟩
  | ct => exact fun F' ι' σ' H' l rs' => ⟨(rs'.rh.tm a _ (show upd C.tp a (HO.frz od (.dK ks)) a = some _ from upd_same)).1, post F' ι' σ' _ l ⟨rs'.rh.unlockD rs'.fr hn (l.get ha) hy, rs'.fr, RelSl.w (C := C.w (upd C.tp a (.frz od (.dK ks)))) (tp := C.tp) rs'.rs⟩⟩
  | rt d => exact fun F' ι' v H' l rh' fr' rv => ⟨(rh'.tm a _ (show upd C.tp a (HO.frz od (.dK ks)) a = some _ from upd_same)).1, post F' ι' v _ l (rh'.unlockD fr' hn (l.get ha) hy) fr' (RelD.w (C := C.w (upd C.tp a (.frz od (.dK ks)))) (tp := C.tp) _ _ rv)⟩
end M
/-! ### range with a step; an item of a list display -/
namespace M
open PySem PySem.Spec PyProof.Rows L2
theorem mi_r3 {X : Cx} {C : Ct} {P : Par} {tg a b c : Expr} {ma mb mc : E} {p pos : Pos} (hg : Gl X "range") (hm : X.mg "range" = none) (ha : ME X C P a ma) (hb : ME X C P b mb) (hc : ME X C P c mc) (hs : starEach [a, b, c] X.env = (false, eval a X.env) :: starEach [b, c] X.env := by rfl) (hs2 : starEach [b, c] X.env = (false, eval b X.env) :: starEach [c] X.env := by rfl) (hs3 : starEach [c] X.env = (false, eval c X.env) :: starEach [] X.env := by rfl) (hpl : (backTo pos (starEach [b, c] X.env)).any (·.1) = false := by rfl) :
    MI X C P tg (.Call (.Name "range" p) [a, b, c] [] pos) .r3 [ma, mb, mc] := (pi_range3 hg hm (ma_cons ha (ma_cons hb (ma_cons hc ma_nil hs3) hs2) hs) hs hpl).imp fun σ H R h => by
  obtain ⟨F, ι, S, sl, ds, S1, xs, rs, e1, e2, nd, k⟩ := h
  refine rs.args e1 fun F1 ι1 vs H1 l1 r1 q1 => ?_
  unfold items at e2
  split at e2 <;> try contradiction
  split at e2
  · rename_i i j c' _ hj
    cases e2
    obtain ⟨v, r, rfl, rv, q2⟩ := q1
    obtain ⟨w, r, rfl, rw', q3⟩ := q2
    obtain ⟨u, r, rfl, ru, q4⟩ := q3
    cases (show r = [] from q4)
    cases (show v = _ from rv)
    cases (show w = _ from rw')
    cases (show u = _ from ru)
    obtain ⟨h1, h2, h3, h4⟩ := hj
    exact ⟨i, j, c', _, rfl, ⟨h1, h2, h3, (Int.toNat_of_nonneg h4).symm⟩, k F1 ι1 H1 _ l1 (r1.rh.lockAll nd) r1.fr (it_rngC _ _ _ _ _ _)⟩
  · cases e2
theorem RH.drop {C : Ct} {F : Hp} {ι : List Addr} {S : Store} {H : Hp} {p : Addr} {u : HO} (r : RH (C.w (upd C.tp p u)) F ι S H) (hf : ¬ Fz u) (hn : C.tp p = none) : RH C F ι S H :=
  ⟨r.fz, r.len, r.nd, fun n a o ha ho => RelO.w (C := C.w (upd C.tp p u)) (tp := C.tp) (fun od ks e => by
    have e' : upd C.tp p u a = some (.frz od (.dK ks)) := e
    by_cases h : a = p
    · rw [h, upd_same] at e'
      exact (hf ⟨od, ks, Option.some.inj e'⟩).elim
    · rw [upd_ne h] at e'
      exact e') (r.ob n a o ha ho), fun b x e => by
    have hb : b ≠ p := fun z => by rw [z, hn] at e; cases e
    exact r.tm b x (show upd C.tp p u b = some x by rw [upd_ne hb]; exact e)⟩
theorem RelDs.len {C : Ct} {F : Hp} {ι : List Addr} : ∀ {ds : List D} {vs : List V}, RelDs C F ι ds vs → ds.length = vs.length
  | [], _, h => by
    cases (show _ = [] from h)
    rfl
  | d :: ds, _, h => by
    obtain ⟨v, r, rfl, _, h2⟩ := h
    rw [List.length_cons, List.length_cons, RelDs.len h2]
theorem RelDs.at_ {C : Ct} {F : Hp} {ι : List Addr} : ∀ {ds : List D} {vs : List V} {j : Nat} {z : D}, RelDs C F ι ds vs → ds[j]? = some z → ∃ u, vs[j]? = some u ∧ RelD C F ι z u
  | [], _, _, _, _, e => by simp at e
  | d :: ds, _, 0, z, h, e => by
    obtain ⟨v, r, rfl, h1, h2⟩ := h
    simp at e
    subst e
    exact ⟨v, rfl, h1⟩
  | d :: ds, _, j + 1, z, h, e => by
    obtain ⟨v, r, rfl, h1, h2⟩ := h
    exact RelDs.at_ (j := j) h2 (by simpa using e)
theorem me_pick {X : Cx} {C : Ct} {P : Par} {pos pos2 : Pos} {es : List Expr} {b : Expr} {ms : List E} {mb : E} (hK : C.K = X.K) (h : MA X C P es ms) (hi : ∀ tp, ME X (C.w tp) P b mb) (hs : PlainIx b := by intro _ _; rfl) : ME X C P (.Subscript (.List es pos2) b pos) (.pick ms mb) :=
  (pe_ix ix_seq (pe_lst h) (tb := fun σ H Q => ∃ tp, rdE (C.w tp) P mb σ H Q) ⟨fun pins s σ H Q I ⟨tp, h'⟩ => (hi tp).run pins s σ H Q I h'⟩ hs).imp fun σ H Q h => by
  obtain ⟨F, ι, S, sl, d, S', rs, e, post⟩ := h
  unfold ev at e
  obtain ⟨⟨ds, S1⟩, e1, e⟩ := Option.bind_eq_some_iff.mp e
  obtain ⟨⟨y, S2⟩, e2, e⟩ := Option.bind_eq_some_iff.mp e
  dsimp only at e
  split at e <;> try contradiction
  rename_i k
  split at e <;> try contradiction
  rename_i hz
  obtain ⟨z, e3, e4⟩ := Option.map_eq_some_iff.mp e
  cases e4
  refine rs.args e1 fun F1 ι1 vs H1 l1 r1 q1 => ⟨SZ_le (by rw [← q1.len]; exact hz), fun p hp => ?_⟩
  have hpt : C.tp p = none := by
    cases q : C.tp p with
    | none => rfl
    | some u =>
      rw [(r1.rh.tm p u q).1] at hp
      cases hp
  have rs2 : RS (C.w (upd C.tp p (.lst vs))) F1 ι1 sl S1 σ (upd H1 p (.lst vs)) := ⟨r1.rh.tmNew hp (fun _ z => nomatch z), r1.fr, r1.rs.w⟩
  refine ⟨upd C.tp p (.lst vs), rs2.one e2 fun F2 ι2 w H2 l2 r2 q2 => ?_⟩
  cases (show w = _ from q2)
  have hH : H2 p = some (.lst vs) := (r2.rh.tm p _ (show upd C.tp p (HO.lst vs) p = some _ from upd_same)).1
  unfold L2.atI at e3
  obtain ⟨j, e5, e6⟩ := Option.bind_eq_some_iff.mp e3
  obtain ⟨u, h3, h4⟩ := q1.at_ e6
  have h5 : L2.atI vs k = some u := by
    unfold L2.atI
    rw [← q1.len, e5]
    exact h3
  exact .inl ⟨p, vs, k, u, rfl, rfl, .inl (.inl hH), h5, post F2 ι2 u H2 (l1.trans l2) (r2.rh.drop (fun ⟨_, _, z⟩ => nomatch z) hpt) r2.fr (h4.mono l2)⟩
/-- a value laid down for good at once -/
theorem me_fz {X : Cx} {C : Ct} {T : Tab} {k b : Nat} {ee : Expr} {me : E} (h : ME X C (par T k b) ee me) : ME X C (par T k b) ee (.fz me) := (pe_gh h).imp fun σ H Q q => by
  obtain ⟨F, ι, S, sl, d, S', rs, e, post⟩ := q
  unfold ev at e
  obtain ⟨⟨d2, S2⟩, e1, e⟩ := Option.bind_eq_some_iff.mp e
  dsimp only at e
  split at e
  · rename_i hn
    obtain ⟨y, e2, e⟩ := Option.map_eq_some_iff.mp e
    cases e
    refine ⟨F, ι, S, sl, d2, S2, rs, e1, fun F' ι' v H' l rh fr r => ?_⟩
    have st0 : Stp 0 S S2 := ev_stp (par_stp T k b).1 (par_stp T k b).2 me sl S _ e1 0 (Nat.zero_le _) (Nat.zero_le _)
    have st : Stp S.length S S2 := ⟨st0.len, st0.lkl, st0.lkd, fun n hl c fs hs => by
      rcases hn with hn | hn
      · have hm : O.ins c fs ∈ S2.take S.length := List.mem_of_getElem? (i := n) (by rw [List.getElem?_take_of_lt hl]; exact hs)
        exact absurd (List.all_eq_true.mp hn _ hm) (fun h : false = true => Bool.noConfusion h)
      · exact ⟨fs, hn n hl c fs hs, fun p hp => .inl hp⟩⟩
    exact frz_end rs.rh l rh fr st r e2 fun F2 H2 l2 rh2 fr2 rv => post F2 ι v H2 l2 rh2 fr2 rv
  · cases e
/-- as frz_end, with what the freezing keeps of the old frozen things -/
theorem frz_end2 {C : Ct} {F F2 : Hp} {ι ι2 : List Addr} {S S2 : Store} {H H2 : Hp} {d : D} {y : B} {v : V} {Q : Hp → Prop} (rh0 : RH C F ι S H) (l : Le F ι F2 ι2) (rh : RH C F2 ι2 S2 H2) (fr : Fre F2 ι2) (st : Stp S.length S S2) (r : RelD C F2 ι2 d v) (e : frz S2 S.length 8 d = some y)
    (K : ∀ F' H', Sub F2 F' → Le F ι F' ι → RH C F' ι (S2.take S.length) H' → Fre F' ι → RelB C F' y v → Q H') : Gh H2 Q := by
  refine frz_go 8 d y v F2 H2 (rh.wk fr S.length) r e fun F' H' l2 _ w r' => .here ?_
  obtain ⟨l1, κ, rfl⟩ := l
  have hl := rh0.len
  have hs := st.len
  refine K F' H' l2 ⟨l1.trans l2, [], by simp⟩ ⟨w.fz, by rw [List.length_take, hl]; omega, (List.nodup_append.mp rh.nd).1, fun n a o ha ho => ?_, fun a o e => ?_⟩ (fun a ha => ?_) r'
  · have hn : n < S.length := by
      rw [← hl]
      exact (List.getElem?_eq_some_iff.mp ha).1
    rw [List.getElem?_take_of_lt hn] at ho
    have ha2 : (ι ++ κ)[n]? = some a := by
      rw [List.getElem?_append_left (by omega)]
      exact ha
    obtain ⟨q, _⟩ := w.lo n a o hn ha2 ho
    cases o with
    | lst xs => exact q
    | dic xs => exact q
    | lockl xs => exact q
    | lockd xs => exact q
    | ins c fs =>
      obtain ⟨Da, dx, gs, h0, h1, h2, h3⟩ := q
      refine ⟨Da, dx, gs, h0, h1, h2, h3.cut fun p hp => ?_⟩
      obtain ⟨fs0, e0, q0⟩ := st.cls n hn c fs ho
      rcases q0 p hp with hp | hp
      · obtain ⟨_, _, _, _, _, _, z⟩ := rh0.ob n a _ ha e0
        exact z.blD p hp
      · exact blD_b hp
  · obtain ⟨h1, h2, h3, h4⟩ := w.tm a o e
    exact ⟨h1, h2, h3.imp (fun h3 z => h3 (List.mem_append_left _ z)) id, h4⟩
  · obtain ⟨n, hn, e⟩ := List.getElem_of_mem ha
    have ha' : ι[n]? = some a := by rw [← e]; exact List.getElem?_eq_getElem hn
    have ha2 : (ι ++ κ)[n]? = some a := by
      rw [List.getElem?_append_left hn]
      exact ha'
    have hS : n < S2.length := by omega
    exact (w.lo n a _ (by omega) ha2 (List.getElem?_eq_getElem hS)).2
/-! ### some statements together, at whose end a name's thing is laid down for good -/
inductive MSl (X : Cx) (C : Ct) (P : Par) : List Stmt → List St → Prop where
  | nil : MSl X C P [] []
  | cons {s : Stmt} {m : St} {ss : List Stmt} {ms : List St} : MS X C P s m → MSl X C P ss ms → MSl X C P (s :: ss) (m :: ms)
theorem blk_chain {X : Cx} {C : Ct} {P : Par} {r : List Stmt} {t : TS} (hr : PSs X r t) {a : List Stmt} {ma : List St} (h : MSl X C P a ma) : PSs X (a ++ r) (fun D σ H => ∃ F ι S sl sl2 S2, RS C F ι sl S σ H ∧ execs P ma sl S = some (.nx, sl2, S2) ∧ ∀ F' ι' σ' H', Le F ι F' ι' → RS C F' ι' sl2 S2 σ' H' → t D σ' H') := by
  induction h with
  | nil =>
    refine hr.imp fun D σ H q => ?_
    obtain ⟨F, ι, S, sl, sl2, S2, rs, e, k⟩ := q
    cases e
    exact k F ι σ H (Le.refl _ _) rs
  | cons h1 _ ih =>
    refine (pss_cons h1 ih).imp fun D σ H q => ?_
    obtain ⟨F, ι, S, sl, sl2, S2, rs, e, k⟩ := q
    unfold execs at e
    obtain ⟨⟨f, sl3, S3⟩, e1, e⟩ := Option.bind_eq_some_iff.mp e
    refine rs.st e1 ?_
    cases f with
    | nx => exact fun F' ι' σ' H' l rs' => ⟨F', ι', S3, sl3, sl2, S2, rs', e, fun F2 ι2 σ2 H2 l2 rs2 => k F2 ι2 σ2 H2 (l.trans l2) rs2⟩
    | ct => cases e
    | rt d => cases e
theorem pss_gh0 {X : Cx} {sts : List Stmt} {t : TS} (h : PSs X sts t) : PSs X sts (fun D σ H => Gh H fun H' => t D σ H') := ⟨fun pins s σ H D I q => by
  obtain ⟨H', I', q'⟩ := q.run I
  exact h.run pins s σ H' D I' q'⟩
theorem mss_blk {X : Cx} {C : Ct} {T : Tab} {k b : Nat} {a r : List Stmt} {ma mr : List St} (i : Nat) (h : MSl X C (par T k b) a ma) (hr : MSs X C (par T k b) r mr) : MSs X C (par T k b) (a ++ r) (.blk i ma :: mr) := (blk_chain (pss_gh0 hr) h).imp fun D σ H q => by
  obtain ⟨F, ι, S, sl, rr, rs, e, post⟩ := q
  unfold execs at e
  obtain ⟨⟨f1, sl3, S3⟩, e1, e⟩ := Option.bind_eq_some_iff.mp e
  unfold exec at e1
  obtain ⟨⟨f, sl2, S2⟩, e2, e1⟩ := Option.bind_eq_some_iff.mp e1
  cases f <;> try (cases e1; done)
  dsimp only at e1
  split at e1
  · rename_i hc
    split at e1
    · rename_i d hd
      obtain ⟨y, e3, e1⟩ := Option.map_eq_some_iff.mp e1
      cases e1
      refine ⟨F, ι, S, sl, sl2, S2, rs, e2, fun F2 ι2 σ2 H2 l rs2 => ?_⟩
      obtain ⟨v, hv, rv⟩ := rs2.rs.2 i d hd
      have st0 : Stp 0 S S2 := execs_stp (par_stp T k b).1 (par_stp T k b).2 ma sl S _ e2 0 (Nat.zero_le _) (Nat.zero_le _)
      have st : Stp S.length S S2 := ⟨st0.len, st0.lkl, st0.lkd, fun n hl c fs hs => by
        rcases hc.1 with hn | hn
        · have hm : O.ins c fs ∈ S2.take S.length := List.mem_of_getElem? (i := n) (by rw [List.getElem?_take_of_lt hl]; exact hs)
          exact absurd (List.all_eq_true.mp hn _ hm) (fun h : false = true => Bool.noConfusion h)
        · exact ⟨fs, hn n hl c fs hs, fun p hp => .inl hp⟩⟩
      refine frz_end2 rs.rh l rs2.rh rs2.fr st rv e3 fun F' H' sb l' rh' fr' rb => ?_
      refine RS.sts (F := F') (ι := ι) (S := S2.take S.length) (sl := sl2.set i (some (.b y))) (r := rr) ⟨rh', fr', ⟨by rw [List.length_set]; exact rs2.rs.1, fun j x hx => ?_⟩⟩ e (post.mono l')
      by_cases hj : i = j
      · subst hj
        have hil : i < sl2.length := (List.getElem?_eq_some_iff.mp hd).1
        rw [List.getElem?_set_self hil] at hx
        cases hx
        exact ⟨v, hv, rb⟩
      · rw [List.getElem?_set_ne hj] at hx
        obtain ⟨u, hu, ru⟩ := rs2.rs.2 j x hx
        refine ⟨u, hu, ?_⟩
        have hlow : low S.length (some x) = true := List.all_eq_true.mp hc.2 _ (List.mem_of_getElem? (i := j) (by rw [List.getElem?_set_ne hj]; exact hx))
        cases x with
        | b z => exact RelB.mono sb z u ru
        | ref m =>
          obtain ⟨a, ha, hu'⟩ := ru
          have hm : m < S.length := of_decide_eq_true hlow
          obtain ⟨_, κ, rfl⟩ := l
          rw [List.getElem?_append_left (by rw [rs.rh.len]; exact hm)] at ha
          exact ⟨a, ha, hu'⟩
        | mix xs => cases hlow
    · cases e1
  · cases e1
theorem mss_blkn {X : Cx} {C : Ct} {T : Tab} {k b : Nat} {l : List Stmt} {ma mr : List St} (n i : Nat) (h : MSl X C (par T k b) (l.take n) ma) (hr : MSs X C (par T k b) (l.drop n) mr) : MSs X C (par T k b) l (.blk i ma :: mr) := by
  have := mss_blk i h hr
  rwa [List.take_append_drop] at this
end M
namespace M
open PySem PySem.Spec PyProof.Rows L2 HT
section
variable {prog : Program} {w : World} {A : Around} {E : Value → Shared → Prop} {s : Shared}
theorem rv_adjust (n : Nat) : Builtin.Slice.sliceAdjust none none (-1) (n : Int) = ((n : Int) - 1, -1) := by
  rfl
theorem rv_places (n : Nat) : Builtin.Slice.slicePlaces ((n : Int) - 1) (-1) (-1) = n := by
  unfold Builtin.Slice.slicePlaces
  simp
  omega
theorem rv_pick (xs : Array Value) : ((List.range xs.size).filterMap fun (m : Nat) => xs[((xs.size : Int) - 1 + (m : Int) * -1).toNat]?).toArray = xs.toList.reverse.toArray := by
  have e : ∀ n, n ≤ xs.size → ((List.range n).filterMap fun (m : Nat) => xs[((xs.size : Int) - 1 + (m : Int) * -1).toNat]?) = (xs.toList.drop (xs.size - n)).reverse := by
    intro n
    induction n with
    | zero =>
      intro _
      rw [Nat.sub_zero, List.drop_eq_nil_of_le (by simp)]
      rfl
    | succ n ih =>
      intro hn
      rw [List.range_succ, List.filterMap_append, ih (by omega)]
      have h1 : ((xs.size : Int) - 1 + (n : Int) * -1).toNat = xs.size - (n + 1) := by omega
      have hl : xs.size - (n + 1) < xs.toList.length := by rw [Array.length_toList]; omega
      have h2 : xs.toList.drop (xs.size - (n + 1)) = xs.toList[xs.size - (n + 1)] :: xs.toList.drop (xs.size - n) := by
        rw [List.drop_eq_getElem_cons hl, show xs.size - (n + 1) + 1 = xs.size - n by omega]
      rw [h2, List.reverse_cons]
      congr 1
      have hl2 : xs.size - (n + 1) < xs.size := by omega
      rw [List.filterMap_cons, h1, Array.getElem?_eq_getElem hl2]
      simp
  rw [e xs.size (Nat.le_refl _), Nat.sub_self, List.drop_zero]
theorem sliceApplied_rev {sl : Addr} {t : Tok} {n : Nat} {Q : Int × Int × Nat → Shared → Prop} (hs : s.heap.IsSliceOf sl .none .none (.int (-1) t)) (h : Q ((n : Int) - 1, -1, n) s) : wpAny (model prog w) A (Builtin.Slice.sliceApplied (.ref sl) (pure (n : Int))) Q E s := by
  obtain ⟨os, hos, hcs, hds⟩ := id hs
  unfold Builtin.Slice.sliceApplied Builtin.Slice.sliceFields
  refine wpAny_bind (wpAny_bind (wpAny_field hos hds (x := .none) rfl (wpAny_bind (wpAny_field hos hds (x := .none) rfl (wpAny_bind (wpAny_field hos hds (x := .int (-1) t) rfl (wpAny_pure ?_)))))))
  refine wpAny_bind (slicePart_int ?_)
  show wpAny _ _ (if ((-1 : Int) == 0) = true then _ else _) _ _ s
  rw [if_neg (by decide)]
  refine wpAny_bind (slicePart_none (wpAny_bind (slicePart_none (wpAny_bind (wpAny_pure ?_)))))
  show wpAny _ _ (match Builtin.Slice.sliceAdjust none none (-1) (n : Int) with | (lo, hi) => pure (lo, (-1 : Int), Builtin.Slice.slicePlaces lo hi (-1))) _ _ s
  rw [rv_adjust]
  show wpAny _ _ (pure ((n : Int) - 1, (-1 : Int), Builtin.Slice.slicePlaces ((n : Int) - 1) (-1) (-1))) _ _ s
  rw [rv_places]
  exact wpAny_pure h
theorem getItem_tuple_rev {a sl : Addr} {items : Array Value} {t : Tok} {Q : Value → Shared → Prop} (hT : IsTup s.heap a items) (hs : s.heap.IsSliceOf sl .none .none (.int (-1) t))
    (h : Q (.ref s.heap.objs.size) { s with heap := s.heap.push { cls := .type "tuple", data := .seq items.toList.reverse.toArray } }) (hsz : items.size ≤ sizeLine) : wpAny (model prog w) A (getItem (.ref a) (.ref sl)) Q E s := by
  have hrev : sizeOk (.seq items.toList.reverse.toArray) := by
    show items.toList.reverse.toArray.size ≤ sizeLine
    simpa using hsz
  obtain ⟨os, hos, hcs, hds⟩ := id hs
  have hTs : s.TypeIs (.ref sl) "slice" := ⟨os, hos, hcs⟩
  unfold getItem
  try with_reducible refine wpAny_holding ?_
  first | refine wpAny_bind (wpAny_pure ?_) | skip
  refine wpAny_bind (wpAny_sequenceKey hT.typeIs (by decide) ?_)
  refine wpAny_bind (wpAny_callSpecial?_slot (name := Str.ofString "__getitem__") hT.typeIs PyProof.Rows.slot_tuple_getitem
    (wpAny_call_entry PyProof.Rows.slot_tuple_getitem hT.typeIs entry_tuple_getitem ?_ (args_tuple_getitem _ _)))
  show wpAny _ _ (Builtin.Tuple.tupleItemsOf (.ref a) >>= _) _ _ s
  refine wpAny_bind (tupleItemsOf_ hT ?_)
  refine wpAny_bind (wpAny_typeOf hTs ?_)
  rw [if_pos (by decide)]
  refine wpAny_bind (sliceApplied_rev (n := items.size) hs ?_)
  have hno : ¬ ((((items.size : Int) - 1) == 0 && (-1 : Int) == 1 && items.size == items.size) = true) := by
    intro q
    rw [Bool.and_eq_true, Bool.and_eq_true] at q
    exact absurd q.1.2 (by decide)
  show wpAny _ _ (if (((items.size : Int) - 1) == 0 && (-1 : Int) == 1 && items.size == items.size) = true then _ else _) _ _ s
  rw [if_neg hno, rv_pick]
  first
    | exact wpAny_bind (m := Builtin.Tuple.tupleExact _) (wpAny_newObj_type (wpAny_pure ⟨_, rfl, wpAny_pure h⟩) hrev)
    | exact wpAny_bind (m := Builtin.Tuple.tupleExact _) (wpAny_newObj_type (wpAny_bind (wpAny_pure (wpAny_pure ⟨_, rfl, wpAny_pure h⟩))) hrev)
    | exact wpAny_bind (wpAny_bind (m := Builtin.Tuple.tupleExact _) (wpAny_newObj_type (wpAny_pure (wpAny_pure ⟨_, rfl, wpAny_pure h⟩)) hrev))
    | exact wpAny_bind (wpAny_bind (m := Builtin.Tuple.tupleExact _) (wpAny_newObj_type (wpAny_pure ⟨_, rfl, wpAny_pure h⟩) hrev))
end
section
variable {X : Cx}
def tRevT (K : PySem.W.Frag) (te : TE) : TE := fun σ H Q => te σ H fun x H1 => ∃ a xs, x = .ref a ∧ SqT K H1 a xs ∧ ∀ p, H1 p = none → Q (.ref p) (upd H1 p (.tup xs.reverse))
theorem pe_revT {e : Expr} {te : TE} {k : Nat} {p1 p2 p3 pos : Pos} (he : PE X e te) : PE X (.Subscript e (.Slice none none (some (.UnaryOp .USub (.Constant (.int 1) k p1) p2)) p3) pos) (tRevT X.K te) := by
  refine ⟨fun pins s σ H Q I h => ?_⟩
  refine Subscript_ (thn (he.run pins s σ H _ I h) fun v s1 ⟨x, H1, I1, r1, a, xs, ex, hx, q⟩ => ?_)
  subst ex
  cases r1
  have hst : PO X (some (.UnaryOp .USub (.Constant (.int 1) k p1) p2)) (tPart (tUn (rU fun i => .int (-i)) (tC (.int 1)))) := po_some (pe_un un_neg pe_int)
  refine wpAny_Slice (thn (po_none.run pins s1 σ H1 (fun o H2 => o = none ∧ H2 = H1) I1 ⟨rfl, rfl⟩) fun vl s2 ⟨l, H2, I2, pl, el, e2⟩ => ?_)
  subst el
  subst e2
  refine thn (po_none.run pins s2 σ H2 (fun o H3 => o = none ∧ H3 = H2) I2 ⟨rfl, rfl⟩) fun vu s3 ⟨u, H3, I3, pu, eu, e3⟩ => ?_
  subst eu
  subst e3
  refine thn (hst.run pins s3 σ H3 (fun o H4 => o = some (-1) ∧ H4 = H3) I3 ⟨1, rfl, -1, rfl, rfl, rfl⟩) fun vs s4 ⟨o, H4, I4, ps, eo, e4⟩ => ?_
  subst eo
  subst e4
  cases pl
  cases pu
  obtain ⟨t, rfl⟩ : ∃ t, vs = .int (-1) t := by cases ps with | int _ t => exact ⟨t, rfl⟩
  have I5 : Inv X pins σ H4 { s4 with heap := s4.heap.push { cls := .type "slice", data := .fields #[.none, .none, .int (-1) t] } } := I4.kept (t' := s4.toks) fun b ob q => Heap.get?_push_of_some _ q
  obtain ⟨its, r, hT, hz⟩ := I5.tuple hx
  have hlen := r.length
  show wpAny (model X.prog X.w) X.A (subscriptTail e (.Slice none none (some (.UnaryOp .USub (.Constant (.int 1) k p1) p2)) p3) (.ref a) (.ref s4.heap.objs.size)) (EP X pins σ Q) X.xe { s4 with heap := s4.heap.push { cls := .type "slice", data := .fields #[.none, .none, .int (-1) t] } }
  refine tail_any (ops := [.ref a, .ref s4.heap.objs.size]) hT.typeIs (PyProof.Rows.slot_tuple_getitem.lookup) ?_ (by with_unfolding_all rfl)
  refine getItem_tuple_rev hT (Heap.IsSliceOf.new _ _ _ _) ?_ (by rw [List.size_toArray]; omega)
  refine ⟨.ref _, _, I5.laid (t' := s4.toks) (o := .tup xs.reverse) (fun b ob q => Heap.get?_push_of_some _ q) (Nat.le_refl _) ?_, rfl, q _ (I5.hok.fresh (Nat.le_refl _))⟩
  exact ⟨by rw [List.length_reverse]; exact hz, _, r.reverse, ⟨_, Heap.get?_push_size _ rfl, rfl, 0, rfl⟩⟩
end
section
variable {X : Cx} {C : Ct} {P : Par} {pos : Pos} {a : Expr} {ma : E}
theorem me_revt {k : Nat} {p1 p2 p3 : Pos} (hK : C.K = X.K) (ha : ME X C P a ma) : ME X C P (.Subscript a (.Slice none none (some (.UnaryOp .USub (.Constant (.int 1) k p1) p2)) p3) pos) (.revt ma) := by
  refine (pe_revT ha).imp fun σ H Q h => ?_
  obtain ⟨F, ι, S, sl, d, S', rs, e, post⟩ := h
  unfold ev at e
  obtain ⟨⟨x, S1⟩, e1, e⟩ := Option.bind_eq_some_iff.mp e
  dsimp only at e
  split at e
  · cases e
    refine rs.one e1 fun F1 ι1 v H1 l1 r1 q1 => ?_
    obtain ⟨a, vs, rfl, h1, h2⟩ := q1
    exact ⟨a, vs, rfl, hK ▸ sqT_mono r1.rh.fz h1, fun p hp => (post.mono l1).new r1.rh r1.fr hp ⟨p, _, rfl, .inl (.inl upd_same), RelBs.mono (r1.rh.newF r1.fr (u := .tup vs.reverse) hp).2.2.1 _ _ h2.reverse⟩⟩
  · cases e
end
end M
/-! MCW: == of own classes, isinstance of own classes. -/
namespace M
open PySem PySem.Spec PyProof.Rows L2
/-! ### == of tuples, both answers -/
section
open PySem.SeqAt AutoSeq1 MeetsSeq MeetsSeq2 MeetsSeq3 SeqRoads2
variable {prog : Program} {w : World} {A : Around} {R : Result → Shared → Prop}
theorem tup_eqB (l b : Addr) (its its2 : Array Value) (n n2 : Nat) (dd dd2 : Option Addr) (sl sl2 : Array (Option Value)) (I : Nat → Shared → Prop) (Z : Shared → Prop)
    (turn : ∀ i (h1 : i < its.size) (h2 : i < its2.size) s, I i s →
      wpAny (model prog w) A.in1 (eqBool its[i] its2[i]) (fun r s' => if r = true then I (i + 1) s' else Z s') (fun e s' => R (.error e) s') s)
    (fin : ∀ s, I (min its.size its2.size) s → R (.ok (.ret (.bool (its.size == its2.size)))) s) (bad : ∀ s, Z s → R (.ok (.ret (.bool false))) s)
    {s : Shared} (hl1 : s.heap.get? l = some { cls := .type "tuple", dict := dd, data := .seq its n, slots := sl })
    (hb1 : s.heap.get? b = some { cls := .type "tuple", dict := dd2, data := .seq its2 n2, slots := sl2 }) (h : I 0 s) :
    wpAny (model prog w) A.in1 (Builtin.«tuple.__eq__» ⟨[.ref l, .ref b], []⟩) (GQ.FinOf prog w A R) (fun e s' => R (.error e) s') s := by
  have f2 := AutoSeq1.sub_tuple_tuple
  have hZ : (its.toList.zip its2.toList).length = min its.size its2.size := by simp
  have h0 := h
  obtain ⟨hp, g, d, tk, os⟩ := s
  wp_walk using wpAny_loadPart' hl1, wpAny_loadPart' hb1, wpAny_forIn_list _ (fun rest c s' => c.1 = none ∧ ∃ i, rest = (its.toList.zip its2.toList).drop i ∧ i ≤ min its.size its2.size ∧ I i s') _
  case turn =>
    rintro ⟨y, x⟩ rest c s' ⟨hc, i, hz, hi, hI⟩
    have hlt : i < (its.toList.zip its2.toList).length := by
      rcases Nat.lt_or_ge i (its.toList.zip its2.toList).length with h' | h'
      · exact h'
      · rw [List.drop_of_length_le h'] at hz; cases hz
    have h12 : i < min its.size its2.size := hZ ▸ hlt
    have h1 : i < its.size := by omega
    have h2 : i < its2.size := by omega
    rw [List.drop_eq_getElem_cons hlt] at hz
    injection hz with hyx hrest
    have hy : y = its[i] := by simpa using congrArg Prod.fst hyx
    have hx : x = its2[i] := by simpa using congrArg Prod.snd hyx
    subst hy hx
    refine wpAny_bind (wpAny_mono (turn i h1 h2 s' hI) (fun r s2 q2 => ?_) fun _ _ x => x)
    cases r with
    | true =>
      rw [if_pos rfl] at q2
      wp_walk
      exact ⟨rfl, i + 1, hrest, h12, q2⟩
    | false =>
      rw [if_neg Bool.false_ne_true] at q2
      have hR := bad s2 q2
      wp_walk
      exact hR
  case fin =>
    rintro ⟨b1, b2⟩ s' ⟨hc, i, hz, hi, hI⟩
    simp only at hc
    subst hc
    have hge : min its.size its2.size ≤ i := by
      rcases Nat.lt_or_ge i (its.toList.zip its2.toList).length with h' | h'
      · rw [List.drop_eq_getElem_cons h'] at hz; cases hz
      · exact hZ ▸ h'
    have hi' : i = min its.size its2.size := by omega
    have hR := fin s' (hi' ▸ hI)
    wp_walk
    simpa [Builtin.Tuple.tupleCompareSizes] using hR
  case h =>
    exact ⟨rfl, 0, rfl, Nat.zero_le _, h0⟩
theorem rc_tupB {l b : Addr} {its its2 : Array Value} {E : Value → Shared → Prop} {Q : Value → Shared → Prop} {s : Shared} (hu : A.units < cLine) (I : Nat → Shared → Prop) (Z : Shared → Prop) (hl : s.heap.IsTuple l its) (hb : s.heap.IsTuple b its2)
    (turn : ∀ i (h1 : i < its.size) (h2 : i < its2.size) s, I i s → wpAny (model prog w) A.in1 (eqBool its[i] its2[i]) (fun r s' => if r = true then I (i + 1) s' else Z s') E s)
    (fin : ∀ s, I (min its.size its2.size) s → Q (.bool (its.size == its2.size)) s) (bad : ∀ s, Z s → Q (.bool false) s) (h : I 0 s) : wpAny (model prog w) A (richCompare .Eq (.ref l) (.ref b)) Q E s := by
  obtain ⟨⟨c1, d1, data1, z1⟩, ho, e1, n, hd⟩ := id hl
  obtain ⟨⟨c2, d2, data2, z2⟩, ho2, e2, n2, hd2⟩ := id hb
  simp only at e1 hd e2 hd2
  subst e1 hd e2 hd2
  refine wpAny_richCompare_same_room (op := .Eq) ⟨_, ho, rfl⟩ ⟨_, ho2, rfl⟩ F.slot_tuple_eq (GQ.call_here F.slot_tuple_eq ⟨_, ho, rfl⟩ F.entry_tuple_eq (F.args_tuple_eq_2 _ _) ?_) hu
  exact tup_eqB (R := wants (fun v s' => v ≠ .notImplemented ∧ Q v s') E) l b its its2 n n2 _ _ _ _ I Z turn (fun s' q => ⟨(fun x => nomatch x), fin s' q⟩) (fun s' q => ⟨(fun x => nomatch x), bad s' q⟩) ho ho2 h
end
/-! ### the data of one object -/
section
variable {X : Cx} {C : Ct} {pins : List (Addr × Obj)} {σ : L2.St} {H F : Hp} {s : Shared}
theorem relV_ex : ∀ v : V, ∃ u, RelV v u
  | .non => ⟨_, rfl⟩
  | .bl _ => ⟨_, rfl⟩
  | .int _ => ⟨_, default, rfl⟩
  | .str _ => ⟨_, default, rfl⟩
  | .byt _ => ⟨_, default, rfl⟩
  | .flt _ => ⟨_, default, rfl⟩
  | .ref _ => ⟨_, rfl⟩
  | .ty _ => ⟨_, rfl⟩
theorem self_plain (hK : C.K = X.K) (I : Inv X pins σ H s) (hs : Sub F H) {x y : B} {v : V} (ex : eqOk 12 x = true) (ey : eqOk 12 y = true) (rx : RelB C F x v) (ry : RelB C F y v) : eqB x y = true := by
  obtain ⟨u, ru⟩ := relV_ex v
  obtain ⟨as, r1⟩ := Dp.reads I (toPy C.N x) v u (hK ▸ toDp hs 12 x v ex rx) ru
  obtain ⟨bs, r2⟩ := Dp.reads I (toPy C.N y) v u (hK ▸ toDp hs 12 y v ey ry) ru
  rw [eq_py 12 x y v v ex ey rx ry, (Reads.unique r1 _ _ r2).1]
  exact SeqAt.eqv_refl _ (lay_py (N := C.N) 12 y ey).1
theorem self_fs {ok : B → Bool} (h : ∀ x y v, ok x = true → ok y = true → RelB C F x v → RelB C F y v → eqB x y = true) : ∀ {fs gs : List (Nat × B)} {qs : List (PySem.Str × V)},
    (fs.all fun p => ok p.2) = true → (gs.all fun p => ok p.2) = true → RelBf C F fs qs → RelBf C F gs qs → eqFs fs gs = true
  | [], [], _, _, _, _, _ => rfl
  | [], _ :: _, _, _, _, r1, r2 => by
    cases (show _ = [] from r1)
    obtain ⟨_, _, e, _⟩ := r2
    cases e
  | _ :: _, [], _, _, _, r1, r2 => by
    cases (show _ = [] from r2)
    obtain ⟨_, _, e, _⟩ := r1
    cases e
  | (i, x) :: fs, (j, y) :: gs, _, e1, e2, r1, r2 => by
    obtain ⟨q, qs, rfl, h1, h2⟩ := r1
    obtain ⟨q', qs', e, h3, h4⟩ := r2
    cases e
    have e1' : (ok x && fs.all fun p => ok p.2) = true := e1
    have e2' : (ok y && gs.all fun p => ok p.2) = true := e2
    rw [Bool.and_eq_true] at e1' e2'
    show (eqB x y && eqFs fs gs) = true
    rw [h x y q.2 e1'.1 e2'.1 h1.2 h3.2, self_fs h e1'.2 e2'.2 h2 h4]
    rfl
theorem no_mix (I : Inv X pins σ H s) (hK : C.K = X.K) (hs : Sub F H) {c : Nat} {fs : List (Nat × B)} {y : B} {v : V} (ey : eqOk 12 y = true) (r1 : RelB C F (.ins c fs) v) (r2 : RelB C F y v) : False := by
  obtain ⟨a, D, dx, gs, rfl, _, h1, _, _⟩ := r1
  have h1 := hs _ _ h1
  obtain ⟨_, _, _, e, _⟩ := (show ObjOk X.prog X.w H s.heap a (.ins D dx gs) from I.hok a _ h1)
  have q := toDp hs 12 y _ ey r2
  rw [hK] at q
  obtain ⟨as, rd⟩ := Dp.reads I _ _ (.ref a) q rfl
  cases y with
  | non => cases rd
  | bl _ => cases rd
  | int _ => cases rd
  | str _ => cases rd
  | tup xs => cases rd with | tuple k1 k2 k3 k4 => rw [e] at k1; cases k1; cases k2
  | lst xs => cases rd with | list k1 k2 k3 k4 => rw [e] at k1; cases k1; cases k2
  | scr xs => cases rd with | list k1 k2 k3 k4 => rw [e] at k1; cases k1; cases k2
  | dic _ => cases ey
  | ins _ _ => cases ey
theorem self_1 (hK : C.K = X.K) (I : Inv X pins σ H s) (hs : Sub F H) {x y : B} {v : V} (ex : okF1 x = true) (ey : okF1 y = true) (rx : RelB C F x v) (ry : RelB C F y v) : eqB x y = true := by
  by_cases hx : ∃ c fs, x = .ins c fs
  · obtain ⟨c, fs, rfl⟩ := hx
    by_cases hy : ∃ d gs, y = .ins d gs
    · obtain ⟨d, gs, rfl⟩ := hy
      obtain ⟨a, D, dx, qs, rfl, _, h1, _, h3⟩ := rx
      obtain ⟨a', D', dx', qs', e, _, h1', _, h3'⟩ := ry
      cases e
      rw [h1] at h1'
      cases h1'
      exact self_fs (ok := eqOk 12) (fun x y v a b r q => self_plain hK I hs a b r q) ex ey h3 h3'
    · have : eqOk 12 y = true := by
        cases y <;> first | exact ey | exact (hy ⟨_, _, rfl⟩).elim
      exact (no_mix I hK hs this rx ry).elim
  · have hx' : eqOk 12 x = true := by
      cases x <;> first | exact ex | exact (hx ⟨_, _, rfl⟩).elim
    by_cases hy : ∃ d gs, y = .ins d gs
    · obtain ⟨d, gs, rfl⟩ := hy
      exact (no_mix I hK hs hx' ry rx).elim
    · have : eqOk 12 y = true := by
        cases y <;> first | exact ey | exact (hy ⟨_, _, rfl⟩).elim
      exact self_plain hK I hs hx' this rx ry
theorem nf_kn (K : PySem.W.Frag) (k : Kn) (D : Addr) : PySem.W.notFirst K D (.type (knN k)) = true := by
  cases k <;> rfl
theorem nf_own (K : PySem.W.Frag) (D : Addr) : PySem.W.notFirst K D (.ref D) = true := by
  simp [PySem.W.notFirst]
/-- an own == , called by the comparison -/
theorem rc_own {T : Tab} {k f c : Nat} (G : Gm X.prog X.w X.K X.mg X.base T C k f c "__eq__") {A : Around} (room : Room k A) (fr : A.frames = X.A.frames) (I : Inv X pins σ H s) {a D dx : Addr} {qs : List (PySem.Str × V)} (hc : C.cl c = some D) (ha : H a = some (.ins D dx qs)) {y : V} {v tb : Value} (ry : RelV y v)
    (hty : PySem.W.Looks (model X.prog X.w) s.heap (typeOf v) tb) (hn : PySem.W.notFirst X.K D tb = true) {Q : Bool → Hp → Prop} (h : spE T C k f [.ref a, y] H (fun w H' => ∃ b, w = .bl b ∧ Q b H') E0) :
    wpAny (model X.prog X.w) A (richCompare .Eq (.ref a) v) (fun r s' => ∃ b H', r = .bool b ∧ Inv X pins σ H' s' ∧ Q b H') X.xe s := by
  obtain ⟨fa, D', fd, ps, F, hc', hcl, hme, hb⟩ := G
  cases hc.symm.trans hc'
  obtain ⟨mA, J, _⟩ := ins_get I.hok ha
  obtain ⟨od, J, _⟩ := J.look
  obtain ⟨m, hF⟩ := I.fr
  refine PySem.W.cmp_K (op := .Eq) (tb := tb) room.units0 hF I.ok.mod.kin J hty hn hme.at_ hme.fn ?_
  have e0 : Env0 X.prog X.w X.K X.mg X.base A X.stack s H := by
    have e := I.env0
    exact ⟨by rw [fr]; exact e.frames, e.mod, e.bs, e.bsz, e.funs, e.frf, e.hok, e.bare⟩
  have hl := F.len _ _ _ _ h
  have r2 : Vals [V.ref a, y] [Value.ref a, v] := .cons rfl (.cons ry .nil)
  refine wpAny_call (codeAny_mono (F.run A X.stack s H ⟨[.ref a, v], []⟩ [.ref a, v] [.ref a, y] _ E0 room e0 (by
    have := hb s [.ref a, v] I.kIn (by simpa using hl)
    simpa using this) r2 h) fun r s' hq => ?_)
  cases r with
  | error e => exact pass0 pins σ H s e s' I hq
  | ok fl =>
    cases fl with
    | ret w =>
      obtain ⟨z, H', I', rz, b, ez, q⟩ := I.after hq
      subst ez
      cases rz
      exact ⟨b, H', rfl, I', q⟩
    | next => exact False.elim hq
    | brk => exact False.elim hq
    | cont => exact False.elim hq
/-- what is left behind by a comparison -/
def EqP (X : Cx) (C : Ct) (F : Hp) (ι : List Addr) (S' : Store) (pins : List (Addr × Obj)) (σ : L2.St) (s' : Shared) : Prop := ∃ F' ι' H', Le F ι F' ι' ∧ RH C F' ι' S' H' ∧ Fre F' ι' ∧ Inv X pins σ H' s'
theorem eqE_run (hK : C.K = X.K) {T : Tab} {k b : Nat} (G : ∀ j, k = j + 1 → ∀ c f, T.eqm c = some f → Gm X.prog X.w X.K X.mg X.base T C j f c "__eq__") {A : Around} (room : ∀ j, k = j + 1 → Room j A) (hu : A.units + 13 < cLine) (fr : A.frames = X.A.frames)
    {ι : List Addr} {x y : B} {S S' : Store} {r : Bool} {v w : V} {u u' : Value} (e : eqE (par T k b) x y S = some (r, S')) (rh : RH C F ι S H) (fre : Fre F ι) (rx : RelB C F x v) (ry : RelB C F y w) (I : Inv X pins σ H s) (ru : RelV v u) (rw : RelV w u') :
    wpAny (model X.prog X.w) A (eqBool u u') (fun z s' => z = r ∧ EqP X C F ι S' pins σ s') X.xe s := by
  unfold eqE at e
  split at e
  · rename_i h
    rw [Bool.and_eq_true] at h
    cases e
    obtain ⟨as, r1⟩ := Dp.reads I (toPy C.N x) v u (hK ▸ toDp rh.fz 12 x v h.1 rx) ru
    obtain ⟨bs, r2⟩ := Dp.reads I (toPy C.N y) w u' (hK ▸ toDp rh.fz 12 y w h.2 ry) rw
    have d1 := lay_py (N := C.N) 12 x h.1
    have d2 := lay_py (N := C.N) 12 y h.2
    have q := SeqAt.eqAt_reads _ _ A s u u' as bs r1 r2 d1.1 d2.1 (by have := d1.2; omega)
    rw [← eq_py 12 x y v w h.1 h.2 rx ry] at q
    exact q X.prog X.w X.xe _ ⟨rfl, F, ι, H, Le.refl _ _, rh, fre, I⟩
  · split at e
    · rename_i c fs d gs _
      split at e
      · rename_i hc
        obtain ⟨rfl, h1, h2⟩ := hc
        obtain ⟨f, e1, e⟩ := Option.bind_eq_some_iff.mp e
        obtain ⟨⟨d0, S2⟩, e2, e⟩ := Option.bind_eq_some_iff.mp e
        dsimp only at e
        split at e
        · rename_i z
          split at e
          · rename_i hz
            obtain ⟨hz, hS⟩ := hz
            cases e
            obtain ⟨S0, hS0⟩ : ∃ S0, S0 = S := ⟨_, rfl⟩
            rw [hS] at e2
            rw [← hS0] at e2 rh ⊢
            obtain ⟨a, D, dx, qs, rfl, k1, k2, k3, k4⟩ := id rx
            obtain ⟨a', D', dx', qs', rfl, k1', k2', k3', k4'⟩ := id ry
            cases ru
            cases rw
            by_cases haa : a = a'
            · subst haa
              rw [k2] at k2'
              cases k2'
              have hr : eqFs fs gs = true := self_fs (ok := okF1) (fun x y v a b r q => self_1 hK I rh.fz a b r q) h1 h2 k4 k4'
              rw [hr] at hz
              subst hz
              exact SeqAt.EqAt.same (A := A) (s := s) (.ref a) X.prog X.w X.xe _ ⟨rfl, F, ι, H, Le.refl _ _, rh, fre, I⟩
            · cases k with
              | zero => cases e2
              | succ j =>
                refine GQ.eqBool_refG haa (wpAny_mono (rc_own (Q := fun z' H' => z' = r ∧ ∃ F' ι', Le F ι F' ι' ∧ RH C F' ι' S0 H' ∧ Fre F' ι') (G j rfl c f e1) (room j rfl) fr I k1 (rh.fz _ _ k2) (y := .ref a') rfl (?_ : PySem.W.Looks _ _ _ (.ref D')) ?_ ?_) (fun q s2 hq => ?_) fun _ _ x => x)
                · obtain ⟨mA, J, _⟩ := ins_get I.hok (rh.fz _ _ k2')
                  obtain ⟨od, J, _⟩ := J.look
                  exact J.type
                · cases k1.symm.trans k1'
                  exact nf_own _ _
                · exact sp_call (C := C) (ds := [.b (.ins c fs), .b (.ins c gs)]) (vs := [.ref a, .ref a']) rh fre ⟨_, _, rfl, rx, _, _, rfl, ry, rfl⟩ e2 fun F' ι' v' H' l rh' fr' rv => ⟨r, rv, rfl, F', ι', l, rh', fr'⟩
                · obtain ⟨z', H', rfl, I', rfl, F', ι', l, rh', fr'⟩ := hq
                  exact ⟨_, rfl, rfl, F', ι', H', l, rh', fr', I'⟩
          · cases e
        · cases e
      · cases e
    · cases e
theorem eqL_run (hK : C.K = X.K) {T : Tab} {k b : Nat} (G : ∀ j, k = j + 1 → ∀ c f, T.eqm c = some f → Gm X.prog X.w X.K X.mg X.base T C j f c "__eq__") {A : Around} (room : ∀ j, k = j + 1 → Room j A.in1) (hu : A.units + 14 < cLine) (fr : A.frames = X.A.frames)
    {ι : List Addr} {xs ys : List B} {vs ws : List V} {S S' : Store} {r : Bool} {a a' : Addr} (e : eqL (par T k b) xs ys S = some (r, S')) (rh : RH C F ι S H) (fre : Fre F ι) (ha : SqT X.K H a vs) (ha' : SqT X.K H a' ws) (rx : RelBs C F xs vs) (ry : RelBs C F ys ws) (I : Inv X pins σ H s) :
    wpAny (model X.prog X.w) A (richCompare .Eq (.ref a) (.ref a')) (fun z s' => z = .bool r ∧ EqP X C F ι S' pins σ s') X.xe s := by
  obtain ⟨its, q1, h1, _⟩ := I.tuple ha
  obtain ⟨its2, q2, h2, _⟩ := I.tuple ha'
  have lx : xs.length = its.toArray.size := by rw [List.size_toArray, rx.length, q1.length]
  have ly : ys.length = its2.toArray.size := by rw [List.size_toArray, ry.length, q2.length]
  have ex : ∀ (us : List B) (zs : List B) S1, eqL (par T k b) us zs S1 = some (r, S') → us = [] ∨ zs = [] → r = decide (us.length = zs.length) ∧ S1 = S' := by
    intro us zs S1 e h
    cases us with
    | nil =>
      cases zs with
      | nil => cases e; exact ⟨rfl, rfl⟩
      | cons z zs => cases e; exact ⟨rfl, rfl⟩
    | cons u us =>
      cases zs with
      | nil => cases e; exact ⟨rfl, rfl⟩
      | cons z zs => rcases h with h | h <;> cases h
  refine rc_tupB (by omega) (fun i s' => ∃ S1 F1 ι1 H1, eqL (par T k b) (xs.drop i) (ys.drop i) S1 = some (r, S') ∧ Le F ι F1 ι1 ∧ RH C F1 ι1 S1 H1 ∧ Fre F1 ι1 ∧ Inv X pins σ H1 s') (fun s' => r = false ∧ EqP X C F ι S' pins σ s') h1 h2 ?_ ?_ ?_ ⟨S, F, ι, H, e, Le.refl _ _, rh, fre, I⟩
  · rintro i g1 g2 s1 ⟨S1, F1, ι1, H1, e1, l1, rh1, fr1, I1⟩
    have i1 : i < xs.length := by omega
    have i2 : i < ys.length := by omega
    rw [List.drop_eq_getElem_cons i1, List.drop_eq_getElem_cons i2] at e1
    unfold eqL at e1
    obtain ⟨⟨z, S2⟩, e2, e1⟩ := Option.bind_eq_some_iff.mp e1
    obtain ⟨v, hv, rv⟩ := rx.get (List.getElem?_eq_getElem i1)
    obtain ⟨w, hw, rw'⟩ := ry.get (List.getElem?_eq_getElem i2)
    obtain ⟨u, hu1, ru⟩ := q1.get hv
    obtain ⟨u', hu2, ru'⟩ := q2.get hw
    have gg1 : its[i]? = some its.toArray[i] := by
      have h1' : i < its.length := by simpa using g1
      rw [List.getElem?_eq_getElem h1'] <;> simp
    have gg2 : its2[i]? = some its2.toArray[i] := by
      have h2' : i < its2.length := by simpa using g2
      rw [List.getElem?_eq_getElem h2'] <;> simp
    rw [gg1] at hu1
    rw [gg2] at hu2
    rw [Option.some.inj hu1, Option.some.inj hu2]
    refine wpAny_mono (eqE_run hK G (A := A.in1) room (by show A.units + 1 + 13 < cLine; omega) fr e2 rh1 fr1 (RelB.mono l1.1 _ _ rv) (RelB.mono l1.1 _ _ rw') I1 ru ru') (fun q s2 hq => ?_) fun _ _ x => x
    obtain ⟨rfl, F2, ι2, H2, l2, rh2, fr2, I2⟩ := hq
    dsimp only at e1
    cases q with
    | true =>
      rw [if_pos rfl] at e1 ⊢
      exact ⟨S2, F2, ι2, H2, e1, l1.trans l2, rh2, fr2, I2⟩
    | false =>
      rw [if_neg Bool.false_ne_true] at e1 ⊢
      cases e1
      exact ⟨rfl, F2, ι2, H2, l1.trans l2, rh2, fr2, I2⟩
  · rintro s1 ⟨S1, F1, ι1, H1, e1, l1, rh1, fr1, I1⟩
    have hd : xs.drop (min its.toArray.size its2.toArray.size) = [] ∨ ys.drop (min its.toArray.size its2.toArray.size) = [] := by
      rcases Nat.le_total its.toArray.size its2.toArray.size with h | h
      · exact .inl (List.drop_eq_nil_of_le (by omega))
      · exact .inr (List.drop_eq_nil_of_le (by omega))
    obtain ⟨hr, hS⟩ := ex _ _ _ e1 hd
    subst hS
    refine ⟨?_, F1, ι1, H1, l1, rh1, fr1, I1⟩
    rw [hr, List.length_drop, List.length_drop, ← lx, ← ly]
    by_cases h : xs.length = ys.length
    · rw [h]
      simp
    · have : ¬ (xs.length - min xs.length ys.length = ys.length - min xs.length ys.length) := by omega
      simp [h, this]
  · rintro s1 ⟨rfl, q⟩
    exact ⟨rfl, q⟩
def rEqo (C : Ct) (P : Par) : R2 := fun x y H Q => ∃ F ι S dx dy z S', RH C F ι S H ∧ Fre F ι ∧ RelD C F ι dx x ∧ RelD C F ι dy y ∧ eqo P S dx dy = some (z, S') ∧ ∀ F' ι' H', Le F ι F' ι' → RH C F' ι' S' H' → Fre F' ι' → Q (.bl z) H'
theorem op_eqo (hK : C.K = X.K) (hu : X.A.units + 66 < cLine) {T : Tab} {k b : Nat} (hr : Room k X.A) (G : ∀ j, j ≤ k → ∀ c f, T.eqm c = some f → Gm X.prog X.w X.K X.mg X.base T C j f c "__eq__") : OpR X (compareOp .Eq) (rEqo C (par T k b)) := by
  intro pins s σ H x y v u Q I rx ry h
  obtain ⟨F, ι, S, dx, dy, z, S', rh, fr, r1, r2, e, post⟩ := h
  have flat : ∀ z, cmp S .eq dx dy = some z → (∀ F' ι' H', Le F ι F' ι' → RH C F' ι' S H' → Fre F' ι' → Q (.bl z) H') → wpAny (model X.prog X.w) X.A (compareOp .Eq v u) (EP X pins σ Q) X.xe s := fun z ez post =>
    op_cmpM hK hu .eq pins s σ H x y v u Q I rx ry ⟨F, ι, S, dx, dy, z, rh, fr, r1, r2, ez, post F ι H (Le.refl _ _) rh fr⟩
  unfold eqo at e
  split at e
  · rename_i c fs
    split at e
    · rename_i hok
      obtain ⟨f, e1, e⟩ := Option.bind_eq_some_iff.mp e
      obtain ⟨⟨d0, S2⟩, e2, e⟩ := Option.bind_eq_some_iff.mp e
      dsimp only at e
      split at e
      · rename_i z'
        cases e
        obtain ⟨a, D, dx, qs, rfl, k1, k2, k3, k4⟩ := id r1
        cases rx
        have tyy : ∃ tb, PySem.W.Looks (model X.prog X.w) s.heap (typeOf u) tb ∧ PySem.W.notFirst X.K D tb = true := by
          have kk : ∀ kk, kn S dy = some kk → ∃ tb, PySem.W.Looks (model X.prog X.w) s.heap (typeOf u) tb ∧ PySem.W.notFirst X.K D tb = true := fun kk hk => by
            obtain ⟨P', Z, p, _⟩ := kit_of I ry (kn_ty hK rh r2 hk)
            exact ⟨_, Z.ty _ _ I.kIn p, nf_kn _ _ _⟩
          by_cases hi : ∃ d gs, dy = .b (.ins d gs)
          · obtain ⟨d, gs, rfl⟩ := hi
            have hd : d = c := of_decide_eq_true hok
            subst hd
            obtain ⟨a', D', dx', qs', rfl, k1', k2', k3', k4'⟩ := id r2
            cases ry
            cases k1.symm.trans k1'
            obtain ⟨mA, J, _⟩ := ins_get I.hok (rh.fz _ _ k2')
            obtain ⟨od, J, _⟩ := J.look
            exact ⟨_, J.type, nf_own _ _⟩
          · have hk : (kn S dy).isSome = true := by
              cases dy with
              | b y => cases y <;> first | exact hok | exact (hi ⟨_, _, rfl⟩).elim
              | ref n => exact hok
              | mix xs => exact hok
            obtain ⟨kk', hk'⟩ := Option.isSome_iff_exists.mp hk
            exact kk kk' hk'
        obtain ⟨tb, ht, hn⟩ := tyy
        refine wpAny_mono (rc_own (Q := fun z0 H' => z0 = z ∧ ∃ F' ι', Le F ι F' ι' ∧ RH C F' ι' S' H' ∧ Fre F' ι') (G k (Nat.le_refl _) c f e1) hr rfl I k1 (rh.fz _ _ k2) (y := y) ry ht hn ?_) (fun q s2 hq => ?_) fun _ _ x => x
        · exact sp_call (C := C) (ds := [.b (.ins c fs), dy]) (vs := [.ref a, y]) rh fr ⟨_, _, rfl, r1, _, _, rfl, r2, rfl⟩ e2 fun F' ι' v' H' l rh' fr' rv => ⟨z, rv, rfl, F', ι', l, rh', fr'⟩
        · obtain ⟨z0, H', rfl, I', rfl, F', ι', l, rh', fr'⟩ := hq
          exact ⟨.bl _, H', I', rfl, post F' ι' H' l rh' fr'⟩
      · cases e
    · cases e
  · rename_i xs
    split at e
    · rename_i z' ez
      cases e
      exact flat _ ez post
    · split at e
      · rename_i ys
        obtain ⟨a, vs, rfl, h1, h2⟩ := id r1
        obtain ⟨a', ws, rfl, h3, h4⟩ := id r2
        cases rx
        cases ry
        refine wpAny_mono (eqL_run hK (fun j hj => G j (by omega)) (A := X.A) (fun j hj => (hj ▸ hr : Room (j + 1) X.A).in1) (by omega) rfl e rh fr (hK ▸ sqT_mono rh.fz h1) (hK ▸ sqT_mono rh.fz h3) h2 h4 I) (fun q s2 hq => ?_) fun _ _ x => x
        obtain ⟨rfl, F', ι', H', l, rh', fr', I'⟩ := hq
        exact ⟨.bl z, H', I', rfl, post F' ι' H' l rh' fr'⟩
      · cases e
  · obtain ⟨z', ez, e⟩ := Option.map_eq_some_iff.mp e
    cases e
    exact flat _ ez post
end
section
variable {X : Cx} {C : Ct} {pos p : Pos} {a b : Expr} {ma mb : E} {T : Tab} {k bs : Nat}
theorem me_ceqo (hK : C.K = X.K) (hu : X.A.units + 66 < cLine) (hr : Room k X.A) (G : ∀ j, j ≤ k → ∀ c f, T.eqm c = some f → Gm X.prog X.w X.K X.mg X.base T C j f c "__eq__") (ha : ME X C (par T k bs) a ma) (hb : ME X C (par T k bs) b mb) (hm : behindInMarks .Eq b = false := by rfl) : ME X C (par T k bs) (.Compare a [.Eq] [b] pos) (.eqo ma mb) := by
  refine (pe_cmpR (op_eqo (b := bs) hK hu hr G) ha hb hm).imp fun σ H Q h => ?_
  obtain ⟨F, ι, S, sl, d, S', rs, e, post⟩ := h
  unfold ev at e
  obtain ⟨⟨x, S1⟩, e1, e⟩ := Option.bind_eq_some_iff.mp e
  obtain ⟨⟨y, S2⟩, e2, e⟩ := Option.bind_eq_some_iff.mp e
  obtain ⟨⟨z, S3⟩, e3, e⟩ := Option.map_eq_some_iff.mp e
  cases e
  refine rs.one e1 fun F1 ι1 v H1 l1 r1 q1 => r1.one e2 fun F2 ι2 w H2 l2 r2 q2 => ?_
  exact ⟨F2, ι2, S2, x, y, _, _, r2.rh, r2.fr, q1.mono l2, q2, e3, fun F' ι' H' l rh fr => ((post.mono (l1.trans l2)).mono l).here rh fr rfl⟩
theorem mt_ceqo (hK : C.K = X.K) (hu : X.A.units + 66 < cLine) (hr : Room k X.A) (G : ∀ j, j ≤ k → ∀ c f, T.eqm c = some f → Gm X.prog X.w X.K X.mg X.base T C j f c "__eq__") (ha : ME X C (par T k bs) a ma) (hb : ME X C (par T k bs) b mb) (hm : behindInMarks .Eq b = false := by rfl) : MT X C (par T k bs) (.Compare a [.Eq] [b] pos) (.eqo ma mb) := by
  refine (pt_cmpR (op_eqo (b := bs) hK hu hr G) ha hb hm).imp fun σ H Q h => ?_
  obtain ⟨F, ι, S, sl, d, S', kk, rs, e, t, post⟩ := h
  unfold ev at e
  obtain ⟨⟨x, S1⟩, e1, e⟩ := Option.bind_eq_some_iff.mp e
  obtain ⟨⟨y, S2⟩, e2, e⟩ := Option.bind_eq_some_iff.mp e
  obtain ⟨⟨z, S3⟩, e3, e⟩ := Option.map_eq_some_iff.mp e
  cases e
  cases t
  refine rs.one e1 fun F1 ι1 v H1 l1 r1 q1 => r1.one e2 fun F2 ι2 w H2 l2 r2 q2 => ?_
  exact ⟨F2, ι2, S2, x, y, _, _, r2.rh, r2.fr, q1.mono l2, q2, e3, fun F' ι' H' l rh fr => ⟨_, rfl, post F' ι' H' ((l1.trans l2).trans l) rh fr⟩⟩
end
/-! ### isinstance of an own class -/
structure InsK (K : PySem.W.Frag) (D : Addr) : Prop where
  ha : PySem.W.findIn K (.ref D) "__class__" = some (some (.builtin "object.__class__"))
  hn : PySem.W.specialIn K (.builtin "object.__class__") "__get__" = some (some (.builtin "getset_descriptor.__get__"))
  ht : PySem.W.takesIn K (.builtin "object.__class__") = some true
  hm : PySem.W.mroIn K D (.type "object") = some true
  hne : PySem.W.findIn K (.ref D) "__ne__" = some (some (.builtin "object.__ne__"))
  hc : ((PySem.W.clsIn K D).isSome && PySem.W.typeIn K (.ref D) == some (.type "type")) = true
/-- the same, to be looked at -/
def icB (K : PySem.W.Frag) (x : PySem.Str) : Bool :=
  He.eqO (PySem.W.findIn K (.ref (He.ga K x)) "__class__") (some (some (.builtin "object.__class__"))) && (He.eqO (PySem.W.specialIn K (.builtin "object.__class__") "__get__") (some (some (.builtin "getset_descriptor.__get__"))) &&
  (decide (PySem.W.takesIn K (.builtin "object.__class__") = some true) && (decide (PySem.W.mroIn K (He.ga K x) (.type "object") = some true) && (He.eqO (PySem.W.findIn K (.ref (He.ga K x)) "__ne__") (some (some (.builtin "object.__ne__"))) && ((PySem.W.clsIn K (He.ga K x)).isSome && decide (PySem.W.typeIn K (.ref (He.ga K x)) = some (.type "type")))))))
theorem icB_ok {K : PySem.W.Frag} {x : PySem.Str} (h : icB K x = true) : InsK K (He.ga K x) := by
  unfold icB at h
  simp only [Bool.and_eq_true, decide_eq_true_eq] at h
  obtain ⟨h1, h2, h3, h4, h7, h5, h6⟩ := h
  refine ⟨He.eqO_ok h1, He.eqO_ok h2, h3, h4, He.eqO_ok h7, ?_⟩
  rw [h5, h6]
  simp
def obsE (ic : List PySem.Str) (fa : List He.Fa) (fn : List He.DefD) (K : PySem.W.Frag) : He.AlD := ((He.obsD fa fn K).1 && ic.all (icB K), (He.obsD fa fn K).2)
def SaysE (ic : List PySem.Str) (fa : List He.Fa) (fn : List He.DefD) (K : PySem.W.Frag) : Prop := obsE ic fa fn K = He.valD fn
def obsEG (n : Nat) (ic : List PySem.Str) (fa : List He.Fa) (fn : List He.DefD) (g : Addr → Option Obj) : He.AlD := obsE ic fa fn (He.frG g (He.asD g n))
def hookE (n : Nat) (ic : List PySem.Str) (fa : List He.Fa) (fn : List He.DefD) : PySem.W.Hook where
  α := He.AlD
  obs s := obsEG n ic fa fn s.heap.get?
  val _ := He.valD fn
  says _ h := ∃ K : PySem.W.Frag, K.In h ∧ SaysE ic fa fn K
  of _ _ e := ⟨_, He.frG_in, e⟩
  keeps _ _ _ := fun ⟨K, hK, c⟩ k => ⟨K, PySem.W.Frag.In.keeps hK k, c⟩
theorem obsEG_eq {n : Nat} {ic : List PySem.Str} {fa : List He.Fa} {fn : List He.DefD} {g : Addr → Option Obj} {s : Shared} (h : ∀ a, g a = s.heap.get? a) : obsEG n ic fa fn g = (hookE n ic fa fn).obs s := by
  rw [show g = s.heap.get? from funext h]
  rfl
theorem SaysE.both {ic : List PySem.Str} {fa : List He.Fa} {fn : List He.DefD} {K : PySem.W.Frag} (c : SaysE ic fa fn K) : He.SaysD fa fn K ∧ ic.all (icB K) = true := by
  have c' : obsE ic fa fn K = He.valD fn := c
  have h1 : ((He.obsD fa fn K).1 && ic.all (icB K)) = true := congrArg (fun z : He.AlD => z.1) c'
  have h2 : (obsE ic fa fn K).2 = (He.valD fn).2 := by rw [c']
  rw [Bool.and_eq_true] at h1
  refine ⟨?_, h1.2⟩
  show He.obsD fa fn K = He.valD fn
  exact Prod.ext h1.1 h2
theorem SaysE.d {ic : List PySem.Str} {fa : List He.Fa} {fn : List He.DefD} {K : PySem.W.Frag} (c : SaysE ic fa fn K) : He.SaysD fa fn K := c.both.1
theorem ic_at {ic : List PySem.Str} {K : PySem.W.Frag} (h : ic.all (icB K) = true) (i : Nat) {x : PySem.Str} (e : ic[i]? = some x := by rfl) : InsK K (He.ga K x) := icB_ok (List.all_eq_true.mp h x (List.mem_of_getElem? e))
section
variable {X : Cx} {C : Ct} {P : Par} {pos p : Pos} {a : Expr} {ma : E}
theorem kit_no {K : PySem.W.Frag} {D : Addr} (c : InsK K D) (k : Kn) : PySem.W.kitOne K (.type (knN k)) (.ref D) = some false := by
  have h1 : ((Value.type (knN k)) == (Value.ref D)) = false := by cases k <;> rfl
  unfold PySem.W.kitOne
  rw [h1, if_neg Bool.false_ne_true]
  unfold PySem.W.kitCls
  dsimp only
  rw [if_pos c.hc]
  cases k <;> rfl
theorem kit_yes {K : PySem.W.Frag} {D : Addr} : PySem.W.kitOne K (.ref D) (.ref D) = some true := by
  unfold PySem.W.kitOne
  rw [if_pos (beq_self_eq_true _)]
theorem me_isc (hK : C.K = X.K) (c : Nat) {D : Addr} (ic : InsK X.K D) (cl : Cls X.K D) (hc : C.cl c = some D) {y : PySem.Str} {p2 : Pos} (hg : Gl X "isinstance") (hm : X.mg "isinstance" = none) (hv : bootBuiltins "isinstance" = some (.builtin "isinstance")) (ha : ME X C P a ma)
    (hg2 : Gl X y) (hm2 : X.mg y = some (.ref D)) (hdb2 : (y == ("__debug__" : PySem.Str)) = false := by decide)
    (he : starEach [a, .Name y p2] X.env = (false, eval a X.env) :: starEach [.Name y p2] X.env := by rfl) (he2 : starEach [.Name y p2] X.env = (false, eval (.Name y p2) X.env) :: starEach [] X.env := by rfl) (hpl : (backTo pos (starEach [.Name y p2] X.env)).any (·.1) = false := by rfl) :
    ME X C P (.Call (.Name "isinstance" p) [a, .Name y p2] [] pos) (.isc c ma) := by
  refine (pe_callB call_isi hg hm hv (pa_cons ha (pa_cons (pe_glob (v := .ref D) hg2 hm2 rfl hdb2) pa_nil he2) he) (by decide) (by decide) he hpl).imp fun σ H Q h => ?_
  obtain ⟨F, ι, S, sl, d, S', rs, e, post⟩ := h
  unfold ev at e
  obtain ⟨⟨x, S1⟩, e1, e⟩ := Option.bind_eq_some_iff.mp e
  obtain ⟨b, e2, e⟩ := Option.map_eq_some_iff.mp e
  cases e
  refine rs.one e1 fun F1 ι1 v H1 l1 r1 q1 => ?_
  have kk : ∀ k, kn S1 x = some k → b = false → _ := fun k hk hb =>
    (⟨v, .ref D, .type (knN k), .ref D, false, rfl, .own D, kn_ty hK r1.rh q1 hk, kit_no ic k, hb ▸ (post.mono l1).here r1.rh r1.fr rfl⟩ : rIsi X.K [v, .ref D] H1 Q)
  by_cases hi : ∃ d fs, x = .b (.ins d fs)
  · obtain ⟨d, fs, rfl⟩ := hi
    have e2' : (if d = c then some true else none) = some b := e2
    split at e2'
    · rename_i hd
      subst hd
      cases e2'
      obtain ⟨a0, D', dx, qs, rfl, k1, k2, k3, k4⟩ := id q1
      cases hc.symm.trans k1
      exact ⟨.ref a0, .ref D, .ref D, .ref D, true, rfl, .own D, .base (.ins (r1.rh.fz _ _ k2) cl ic.ha ic.hn ic.ht ic.hm), kit_yes, (post.mono l1).here r1.rh r1.fr rfl⟩
    · cases e2'
  · have e3 : (kn S1 x).map (fun _ => false) = some b := by
      cases x with
      | b y => cases y <;> first | exact e2 | exact (hi ⟨_, _, rfl⟩).elim
      | ref n => exact e2
      | mix xs => exact e2
    obtain ⟨k, hk, hb⟩ := Option.map_eq_some_iff.mp e3
    exact kk k hk hb.symm
end
end M
/-! MCU: sorted() of tuples that begin with different numbers. -/
namespace M
open PySem PySem.Spec PyProof.Rows L2
section
open SrtO
variable {prog : Program} {w : World} {A : Around} {E : Value → Shared → Prop} {s : Shared}
/-- a tuple that begins with a number -/
def IsHd (h : Heap) (v : Value) (i : Int) : Prop := ∃ a o t rest n, v = .ref a ∧ h.get? a = some o ∧ o.cls = .type "tuple" ∧ o.data = .seq (Value.int i t :: rest).toArray n
theorem IsHd.keeps {h h' : Heap} {v : Value} {i : Int} (p : IsHd h v i) (k : ∀ b o, h.get? b = some o → o.cls = .type "tuple" → h'.get? b = some o) : IsHd h' v i := by
  obtain ⟨a, o, t, r, n, e, ho, hc, hd⟩ := p
  exact ⟨a, o, t, r, n, e, k _ _ ho hc, hc, hd⟩
theorem hd_firsts {h : Heap} {k : Value → Int} : ∀ {vs : List Value}, (∀ v ∈ vs, IsHd h v (k v)) → ∃ fs : List Value, PySem.W.KatTups h vs fs ∧ fs.length = vs.length ∧ ∀ f ∈ fs, ∃ x t, f = Value.int x t
  | [], _ => ⟨[], PySem.W.KatTups.nil, rfl, fun _ hm => by cases hm⟩
  | v :: vs, hp => by
    obtain ⟨fs, h1, h2, h3⟩ := hd_firsts (vs := vs) fun u hm => hp u (List.mem_cons_of_mem _ hm)
    obtain ⟨a, o, t, r, n, e, ho, hc, hd⟩ := hp v List.mem_cons_self
    rw [e]
    refine ⟨.int (k v) t :: fs, PySem.W.KatTups.cons ho hc hd rfl h1, by rw [List.length_cons, List.length_cons, h2], fun f hm => ?_⟩
    rcases List.mem_cons.mp hm with rfl | hm
    · exact ⟨_, _, rfl⟩
    · exact h3 f hm
theorem hd_same {b fin : Bool} {Q : Bool → Shared → Prop} : ∀ (l : List Value) (i : Nat), Q fin s → PySem.W.KatLex prog w A b fin Q (l.zip l) i s
  | [], _, h => PySem.W.kat_nil h
  | v :: l, i, h => PySem.W.kat_cons (SeqAt.EqAt.same v prog w _ _ (PySem.W.kat_yes (hd_same l (i + 1) h)))
theorem hd_cmp {vs : List Value} {k : Value → Int} (hp : ∀ v ∈ vs, IsHd s.heap v (k v)) (hu : ∀ v ∈ vs, ∀ u ∈ vs, k v = k u → v = u) : Cmp prog w A s (tuples' true) (fun p => p.1 ∈ vs) (lt2 fun v u => decide (k v < k u)) := by
  intro p q hm hm'
  show wpAny (model prog w) A (keyLt' (tuples' true) p.1 q.1) (fun r s' => s' = s ∧ r = decide (k p.1 < k q.1)) (fun _ _ => False) s
  by_cases e : k p.1 = k q.1
  · have e2 := hu _ hm _ hm' e
    rw [← e2]
    obtain ⟨a, o, t, r, n, ev, ho, hc, hd⟩ := hp _ hm
    have hlt : decide (k p.1 < k p.1) = false := decide_eq_false (Int.lt_irrefl _)
    rw [hlt, ev]
    refine PySem.W.kat_lt ho hd ho hd ?_
    have hsz : decide ((Value.int (k p.1) t :: r).toArray.size < (Value.int (k p.1) t :: r).toArray.size) = false := decide_eq_false (Nat.lt_irrefl _)
    rw [hsz]
    exact hd_same _ 0 ⟨rfl, rfl⟩
  · obtain ⟨a, o, t, r, n, ev, ho, hc, hd⟩ := hp _ hm
    obtain ⟨a', o', t', r', n', ev', ho', hc', hd'⟩ := hp _ hm'
    generalize k p.1 = x at e hd ⊢
    generalize k q.1 = y at e hd' ⊢
    rw [ev, ev']
    refine PySem.W.kat_lt ho hd ho' hd' ?_
    show PySem.W.KatLex prog w A true _ _ ((.int x t, .int y t') :: r.zip r') 0 s
    refine PySem.W.kat_cons (SeqAt.EqAt.int_int x t y t' prog w _ _ ?_)
    refine PySem.W.kat_go (fun e1 => absurd (by simpa using e1) e) fun _ => ?_
    exact PySem.W.kat_no (oneLt_int ⟨rfl, rfl⟩)
theorem swo_fst (k : Value → Int) : Swo fun v u => decide (k v < k u) := by
  refine ⟨fun x y h => ?_, fun x y z h1 h2 => ?_⟩
  · have := of_decide_eq_true h
    exact decide_eq_false (by omega)
  · have a := of_decide_eq_false h1
    have b := of_decide_eq_false h2
    exact decide_eq_false (by omega)
theorem hd_sortable {a : Addr} {vs : List Value} {k : Value → Int} (h0 : 0 < vs.length) (hp : ∀ v ∈ vs, IsHd s.heap v (k v)) (hu : ∀ v ∈ vs, ∀ u ∈ vs, k v = k u → v = u) (ha : ∀ o, s.heap.get? a = some o → o.cls ≠ .type "tuple") : SortableO prog w A s a vs fun v u => decide (k v < k u) := by
  intro h' keep
  have hp' : ∀ v ∈ vs, IsHd h' v (k v) := fun v hm => (hp v hm).keeps fun b o e c => keep b o (fun z => by subst z; exact ha o e c) e
  obtain ⟨fs, h1, h2, h3⟩ := hd_firsts hp'
  refine ⟨tuples' true, fun Q E hq => ?_, hd_cmp hp' hu⟩
  refine PySem.W.kat_kind (T := .type "int") h1 (by omega) (fun f hm => ?_) (by rfl) ?_
  · obtain ⟨x, t, rfl⟩ := h3 f hm
    exact PySem.W.Looks.now
  · have e : (Value.type "int" != Value.type "tuple") = true := by first | decide +kernel | rfl | decide
    rw [e]
    exact hq
theorem sorted_hd {l : Addr} {vs : List Value} {k : Value → Int} {Q : Value → Shared → Prop} (hl : s.heap.IsList l vs.toArray) (hz : vs.length ≤ sizeLine) (hp : ∀ v ∈ vs, IsHd s.heap v (k v)) (hu : ∀ v ∈ vs, ∀ u ∈ vs, k v = k u → v = u)
    (h : ∀ (h' : Heap) (d : Addr) (out : List Value), out.Pairwise (fun v u => k v ≤ k u) → out.Perm vs → (∀ b o, s.heap.get? b = some o → h'.get? b = some o) → s.heap.objs.size ≤ d → (∃ n, h'.get? d = some (seqObj "list" out.toArray n)) → Q (.ref d) { s with heap := h' }) :
    wpAny (model prog w) A (call (.builtin "sorted") [.ref l]) Q E s := by
  refine sorted_ord (swo_fst k) hl hz (fun h2 h₁ a ha kk => ?_) fun out hs hb => ?_
  · refine hd_sortable (s := { s with heap := h₁ }) (by omega) (fun v hm => (hp v hm).keeps fun b o e _ => (kk b o e).2) hu fun o e => ?_
    cases e.symm.trans ha
    intro c
    exact absurd (Value.type.inj c) (by decide)
  · exact h _ _ out (hs.imp fun z => by have := of_decide_eq_false z; omega) hb.perm (fun b o e => sortedAll_old e) (Nat.le_succ _) (sortedAll_at s.heap vs out.toArray)
end
section
variable {X : Cx} {C : Ct} {P : Par} {pos p : Pos} {a : Expr} {ma : E} {m : Bool}
def rSortH (K : PySem.W.Frag) : List V → Hp → VK → Prop := fun vs H Q => ∃ (a : Addr) (xs : List V) (k : V → Int), vs = [V.ref a] ∧ SqL K H a xs ∧ (∀ x ∈ xs, ∃ t ys, x = V.ref t ∧ SqT K H t (.int (k x) :: ys)) ∧ (∀ x ∈ xs, ∀ y ∈ xs, k x = k y → x = y) ∧
  ∀ ys p, ys.Perm xs → ys.Pairwise (fun x y => k x ≤ k y) → H p = none → Q (.ref p) (upd H p (.lst ys))
theorem cr_sortH : CallR X (.builtin "sorted") (rSortH X.K) := by
  intro pins s σ H vs us Q I r h
  obtain ⟨a, xs, k, rfl, hs, hx, hu, q⟩ := h
  obtain ⟨its, rv, hl, hz⟩ := I.list hs
  obtain ⟨u, rfl, ru⟩ := vals1 r
  obtain rfl : u = Value.ref a := ru
  obtain ⟨e1, e2⟩ := refs_back rv fun x m => by
    obtain ⟨t, ys, e, _⟩ := hx x m
    exact ⟨t, e⟩
  have hmem : ∀ v ∈ its, backV v ∈ xs := fun v hv => by rw [e1]; exact List.mem_map.mpr ⟨v, hv, rfl⟩
  refine sorted_hd (k := fun u => k (backV u)) hl.isList (by rw [← rv.length]; exact hz) (fun v hv => ?_) (fun v hv u hu' e => ?_) fun h' d out h1 h2 kp hd hn => ?_
  · obtain ⟨t, rfl⟩ := e2 v hv
    obtain ⟨t', ys, e, ht⟩ := hx _ (hmem _ hv)
    cases e
    obtain ⟨its2, r2, ⟨o, ho, hc, n, hd⟩, _⟩ := I.tuple ht
    cases r2 with
    | cons ri rr =>
      obtain ⟨t1, rfl⟩ := ri
      exact ⟨t, o, t1, _, n, rfl, ho, hc, hd⟩
  · obtain ⟨t, rfl⟩ := e2 v hv
    obtain ⟨t', rfl⟩ := e2 u hu'
    have := hu _ (hmem _ hv) _ (hmem _ hu') e
    cases this
    rfl
  · have h3 : ∀ u ∈ out, ∃ a, u = Value.ref a := fun u hu => e2 u (h2.mem_iff.mp hu)
    obtain ⟨n, hn⟩ := hn
    have hb : (out.map backV).Perm xs := by
      rw [e1]
      exact h2.map _
    refine ⟨.ref d, upd H d (.lst (out.map backV)), I.laid (t' := s.toks) kp hd ⟨?_, out, n, vals_back h3, hn⟩, rfl, q _ d hb (List.pairwise_map.mpr h1) (I.hok.fresh hd)⟩
    rw [hb.length_eq]
    exact hz
/-- .. the heads aside -/
def rSortZ (K : PySem.W.Frag) : List V → Hp → VK → Prop := fun vs H Q => ∃ (a : Addr) (xs : List V) (ks : List Int), vs = [V.ref a] ∧ SqL K H a xs ∧ ks.length = xs.length ∧ (∀ p ∈ ks.zip xs, ∃ t ys, p.2 = V.ref t ∧ SqT K H t (.int p.1 :: ys)) ∧ ks.Nodup ∧
  ∀ (js : List (Int × V)) p, js.Perm (ks.zip xs) → js.Pairwise (fun x y => x.1 ≤ y.1) → H p = none → Q (.ref p) (upd H p (.lst (js.map (·.2))))
theorem cr_sortZ : CallR X (.builtin "sorted") (rSortZ X.K) := by
  intro pins s σ H vs us Q I r h
  obtain ⟨a, xs, ks, rfl, hs, hl, hx, hn, q⟩ := h
  obtain ⟨k, hk⟩ : ∃ k : V → Int, k = fun v : V => (match v with
    | V.ref t => (match s.heap.get? t with
      | some ⟨_, _, .seq its _, _⟩ => (match its[0]? with
        | some (Value.int i _) => i
        | _ => 0)
      | _ => 0)
    | _ => 0) := ⟨_, rfl⟩
  have hkv : ∀ p ∈ ks.zip xs, k p.2 = p.1 := fun p hp => by
    obtain ⟨t, ys, e, ht⟩ := hx p hp
    obtain ⟨its2, r2, ⟨o, ho, hc, n, hd⟩, _⟩ := I.tuple ht
    obtain ⟨oc, od, dt, sl⟩ := o
    dsimp only at hc hd
    subst hd
    cases r2 with
    | cons ri rr =>
      obtain ⟨t1, rfl⟩ := ri
      rw [e, hk]
      dsimp only
      rw [ho]
      rfl
  have hz : ∀ x ∈ xs, ∃ i, (i, x) ∈ ks.zip xs := fun x hx' => by
    obtain ⟨j, hj, e⟩ := List.mem_iff_getElem.mp hx'
    refine ⟨ks[j]'(by omega), List.mem_iff_getElem.mpr ⟨j, by rw [List.length_zip]; omega, ?_⟩⟩
    rw [List.getElem_zip, e]
  have hmap : ks.zip xs = xs.map fun x => (k x, x) := by
    refine List.ext_getElem? fun j => ?_
    rw [List.getElem?_map]
    cases e : (ks.zip xs)[j]? with
    | none =>
      rw [List.getElem?_eq_none_iff, List.length_zip] at e
      rw [List.getElem?_eq_none (by omega)]
      rfl
    | some p =>
      have hp := List.mem_of_getElem? e
      obtain ⟨h1, h2⟩ := List.getElem?_zip_eq_some.mp e
      rw [h2]
      show some p = some (k p.2, p.2)
      rw [hkv p hp]
  have hkeys : xs.map k = ks := by
    have e1 : (ks.zip xs).map (·.1) = ks := List.map_fst_zip (by omega)
    rw [hmap, List.map_map] at e1
    exact e1
  refine cr_sortH pins s σ H [V.ref a] us Q I r ⟨a, xs, k, rfl, hs, fun x hx' => ?_, fun x hx' y hy' e => ?_, fun ys p hp hw hn' => ?_⟩
  · obtain ⟨i, hi⟩ := hz x hx'
    obtain ⟨t, ys, e, ht⟩ := hx _ hi
    have := hkv _ hi
    dsimp only at this e ht
    rw [this]
    exact ⟨t, ys, e, ht⟩
  · obtain ⟨i, hi, e1⟩ := List.mem_iff_getElem.mp hx'
    obtain ⟨j, hj, e2⟩ := List.mem_iff_getElem.mp hy'
    have f1 : ks[i]'(by omega) = k x := by
      have : ks[i]? = some (k x) := by rw [← hkeys, List.getElem?_map, List.getElem?_eq_getElem hi, e1]; rfl
      exact (List.getElem?_eq_some_iff.mp this).2
    have f2 : ks[j]'(by omega) = k y := by
      have : ks[j]? = some (k y) := by rw [← hkeys, List.getElem?_map, List.getElem?_eq_getElem hj, e2]; rfl
      exact (List.getElem?_eq_some_iff.mp this).2
    have hij : i = j := (List.getElem_inj hn).mp (f1.trans (e.trans f2.symm))
    subst hij
    exact e1.symm.trans e2
  · have := q (ys.map fun x => (k x, x)) p (by rw [hmap]; exact hp.map _) (List.pairwise_map.mpr hw) hn'
    rw [List.map_map] at this
    have e : ys.map ((fun x : Int × V => x.2) ∘ fun x => (k x, x)) = ys := by
      conv => rhs; rw [← List.map_id ys]
      rfl
    rw [e] at this
    exact this
/-! ### the small machine's -/
theorem insF_map {α β : Type} (f : α → β) (p : Int × α) : ∀ l : List (Int × α), insF (p.1, f p.2) (l.map fun q => (q.1, f q.2)) = (insF p l).map fun q => (q.1, f q.2)
  | [] => rfl
  | q :: r => by
    show (if p.1 ≤ q.1 then _ else _) = (if p.1 ≤ q.1 then _ else _ : List (Int × α)).map _
    split
    · rfl
    · rw [List.map_cons, insF_map f p r]
theorem sortF_map {α β : Type} (f : α → β) : ∀ l : List (Int × α), sortF (l.map fun q => (q.1, f q.2)) = (sortF l).map fun q => (q.1, f q.2)
  | [] => rfl
  | p :: r => by
    show insF (p.1, f p.2) (sortF (r.map _)) = _
    rw [sortF_map f r, insF_map f p]
    rfl
theorem insF_perm {α : Type} (p : Int × α) : ∀ l : List (Int × α), (insF p l).Perm (p :: l)
  | [] => List.Perm.refl _
  | q :: r => by
    unfold insF
    split
    · exact List.Perm.refl _
    · exact ((insF_perm p r).cons q).trans (List.Perm.swap p q r)
theorem sortF_perm {α : Type} : ∀ l : List (Int × α), (sortF l).Perm l
  | [] => List.Perm.refl _
  | p :: r => (insF_perm p _).trans ((sortF_perm r).cons p)
theorem insF_sorted {α : Type} (p : Int × α) : ∀ l : List (Int × α), l.Pairwise (fun x y => x.1 ≤ y.1) → (insF p l).Pairwise (fun x y => x.1 ≤ y.1)
  | [], _ => by simp [insF]
  | q :: r, h => by
    unfold insF
    obtain ⟨h1, h2⟩ := List.pairwise_cons.mp h
    split
    · rename_i hx
      refine List.pairwise_cons.mpr ⟨fun z hz => ?_, h⟩
      rcases List.mem_cons.mp hz with e | e
      · rw [e]; exact hx
      · exact Int.le_trans hx (h1 z e)
    · rename_i hx
      refine List.pairwise_cons.mpr ⟨fun z hz => ?_, insF_sorted p r h2⟩
      rcases List.mem_cons.mp ((insF_perm p r).mem_iff.mp hz) with e | e
      · rw [e]; omega
      · exact h1 z e
theorem sortF_sorted {α : Type} : ∀ l : List (Int × α), (sortF l).Pairwise (fun x y => x.1 ≤ y.1)
  | [] => List.Pairwise.nil
  | p :: r => insF_sorted p _ (sortF_sorted r)
theorem sortF_eq {α : Type} {l ns : List (Int × α)} (hn : (l.map (·.1)).Nodup) (p : ns.Perm l) (s : ns.Pairwise (fun x y => x.1 ≤ y.1)) : ns = sortF l := by
  refine List.Perm.eq_of_pairwise (le := fun x y => x.1 ≤ y.1) (fun a b ha hb h1 h2 => ?_) s (sortF_sorted l) (p.trans (sortF_perm l).symm)
  have e : a.1 = b.1 := Int.le_antisymm h1 h2
  obtain ⟨i, hi, e1⟩ := List.mem_iff_getElem.mp (p.mem_iff.mp ha)
  obtain ⟨j, hj, e2⟩ := List.mem_iff_getElem.mp ((sortF_perm l).mem_iff.mp hb)
  have hij : i = j := by
    refine (List.getElem_inj (h₀ := by rw [List.length_map]; exact hi) (h₁ := by rw [List.length_map]; exact hj) hn).mp ?_
    rw [List.getElem_map, List.getElem_map, e1, e2, e]
  subst hij
  exact e1.symm.trans e2
theorem RelBs.of_all {C : Ct} {F : Hp} {α : Type} {f : α → B} {g : α → V} : ∀ {l : List α}, (∀ x ∈ l, RelB C F (f x) (g x)) → RelBs C F (l.map f) (l.map g)
  | [], _ => rfl
  | x :: l, h => ⟨g x, l.map g, rfl, h x List.mem_cons_self, RelBs.of_all fun y hy => h y (List.mem_cons_of_mem _ hy)⟩
theorem RelBs.zip_all {C : Ct} {F : Hp} : ∀ {xs : List B} {vs : List V}, RelBs C F xs vs → ∀ p ∈ xs.zip vs, RelB C F p.1 p.2
  | [], _, r, p, hp => by simp at hp
  | x :: xs, _, r, p, hp => by
    obtain ⟨v, vs, rfl, h1, h2⟩ := r
    rw [List.zip_cons_cons] at hp
    rcases List.mem_cons.mp hp with rfl | hp
    · exact h1
    · exact RelBs.zip_all h2 p hp
theorem hdsB_eq : ∀ {xs : List B} {ps : List (Int × B)}, hdsB xs = some ps → ps.map (·.2) = xs ∧ ∀ p ∈ ps, hdB p.2 = some p.1
  | [], _, e => by cases e; exact ⟨rfl, fun p hp => by cases hp⟩
  | x :: xs, ps, e => by
    obtain ⟨i, e1, e⟩ := Option.bind_eq_some_iff.mp e
    obtain ⟨qs, e2, e⟩ := Option.map_eq_some_iff.mp e
    cases e
    obtain ⟨h1, h2⟩ := hdsB_eq e2
    refine ⟨by rw [List.map_cons, h1], fun p hp => ?_⟩
    rcases List.mem_cons.mp hp with rfl | hp
    · exact e1
    · exact h2 p hp
theorem hdB_rel {C : Ct} {F : Hp} {x : B} {i : Int} {v : V} (e : hdB x = some i) (r : RelB C F x v) : ∃ t ys, v = .ref t ∧ SqT C.K F t (.int i :: ys) := by
  unfold hdB at e
  split at e
  · cases e
    obtain ⟨a, vs, rfl, h1, h2⟩ := r
    obtain ⟨u, ys, rfl, h3, h4⟩ := h2
    cases (show u = _ from h3)
    exact ⟨a, ys, rfl, h1⟩
  · cases e
theorem br_sortp (hK : C.K = X.K) : BiR C .sortp m (rSortZ X.K) := by
  intro F ι S H ds vs d S' Q rh fr rds e post
  unfold bi at e
  split at e <;> rename_i he <;> try (cases he; done)
  · obtain ⟨v, rfl, rx⟩ := rds.one
    obtain ⟨xs, e1, e⟩ := Option.bind_eq_some_iff.mp e
    obtain ⟨ps, e2, e⟩ := Option.bind_eq_some_iff.mp e
    split at e
    · rename_i hn
      obtain ⟨a, vs, rfl, h1, h2⟩ := lsq_rel rh rx e1
      obtain ⟨g1, g2⟩ := hdsB_eq e2
      have hlen : ps.length = vs.length := by rw [← h2.length, ← g1, List.length_map]
      obtain ⟨l, hl⟩ : ∃ l : List (Int × (B × V)), l = (ps.zip vs).map fun q => (q.1.1, (q.1.2, q.2)) := ⟨_, rfl⟩
      have l1 : l.map (fun q => (q.1, q.2.1)) = ps := by
        rw [hl, List.map_map]
        have : (ps.zip vs).map (fun q => q.1) = ps := List.map_fst_zip (by omega)
        exact this
      have l2 : l.map (fun q => (q.1, q.2.2)) = (ps.map (·.1)).zip vs := by
        rw [hl, List.map_map, List.zip_map_left]
        rfl
      have l3 : ∀ q ∈ l, RelB C F q.2.1 q.2.2 ∧ hdB q.2.1 = some q.1 := fun q hq => by
        rw [hl] at hq
        obtain ⟨z, hz, rfl⟩ := List.mem_map.mp hq
        obtain ⟨j, hj, ez⟩ := List.mem_iff_getElem.mp hz
        rw [List.getElem_zip] at ez
        have hj1 : j < ps.length := by rw [List.length_zip] at hj; omega
        have hj2 : j < vs.length := by omega
        subst ez
        refine ⟨?_, g2 _ (List.getElem_mem hj1)⟩
        refine RelBs.zip_all h2 (ps[j].2, vs[j]) (List.mem_iff_getElem.mpr ⟨j, by rw [List.length_zip, h2.length]; omega, ?_⟩)
        rw [List.getElem_zip]
        congr 1
        simp [← g1]
      refine ⟨a, vs, ps.map (·.1), rfl, hK ▸ h1, by rw [List.length_map, hlen], fun p hp => ?_, hn, fun js p hp hw hnn => ?_⟩
      · rw [← l2] at hp
        obtain ⟨q, hq, rfl⟩ := List.mem_map.mp hp
        obtain ⟨r1, r2⟩ := l3 q hq
        obtain ⟨t, ys, e3, h3⟩ := hdB_rel r2 r1
        exact ⟨t, ys, e3, hK ▸ sqT_mono rh.fz h3⟩
      · have hk1 : ((l.map fun q => (q.1, q.2.2)).map (·.1)).Nodup := by
          rw [l2, List.map_fst_zip (by rw [List.length_map]; omega)]
          exact hn
        rw [← l2] at hp
        have ej := sortF_eq hk1 hp hw
        have e5 : sortF ps = (sortF l).map fun q => (q.1, q.2.1) := by
          rw [← sortF_map (fun q : B × V => q.1) l, l1]
        rw [sortF_map (fun q : B × V => q.2)] at ej
        rw [ej, List.map_map]
        rw [e5, List.map_map] at e
        refine newL_gh e rh fr post ?_ p hnn
        exact RelBs.of_all (f := (fun x : Int × B => x.2) ∘ fun q : Int × (B × V) => (q.1, q.2.1)) (g := (fun x : Int × V => x.2) ∘ fun q : Int × (B × V) => (q.1, q.2.2)) fun q hq => (l3 q ((sortF_perm l).mem_iff.mp hq)).1
    · cases e
  · cases e
theorem me_sortp (m : Bool) (hK : C.K = X.K) (fr : Fr X.mg) (hc : X.calm = true) (ha : ME X C P a ma) (hg : Gl X "sorted" := by rfl) (hs : starEach [a] X.env = (false, eval a X.env) :: starEach [] X.env := by rfl) : ME X C P (.Call (.Name "sorted" p) [a] [] pos) (.bi .sortp m [ma]) :=
  me_cb .sortp (br_sortp hK) cr_sortZ hg fr.sorted boot_sorted (ma_cons ha ma_nil hs) (by decide) (by decide) hs rfl
end
end M
/-! MCT: zip(x, y). -/
namespace M
open PySem PySem.Spec PyProof.Rows L2 RZ
section
variable {C : Ct}
theorem it_zip_l {F ι} {S0 : Store} {a b : Addr} {zs ys : List B}
    (hA : ∀ tp F' ι' S' H', Le F ι F' ι' → RH (C.w tp) F' ι' S' H' → LK S0 S' → ∃ vs, SqL C.K H' a vs ∧ RelBs C F' zs vs)
    (hB : ∀ tp F' ι' S' H', Le F ι F' ι' → RH (C.w tp) F' ι' S' H' → LK S0 S' → ∃ us, SqL C.K H' b us ∧ RelBs C F' ys us) : ItOk C F ι S0 (Itz C.K a b) (zipB zs ys) := by
  refine fun tp F' ι' S' H' sb l rh fr lk => ?_
  obtain ⟨vs, a1, a2⟩ := hA tp F' ι' S' H' l rh lk
  obtain ⟨us, b1, b2⟩ := hB tp F' ι' S' H' l rh lk
  refine ⟨fun i x hx => ?_, ?_⟩
  · obtain ⟨p, q, h1, h2, rfl⟩ := zipB_get hx
    obtain ⟨v, hv, rv⟩ := a2.get h1
    obtain ⟨u, hu, ru⟩ := b2.get h2
    refine ⟨⟨vs, us, v, u, a1, b1, hv, hu⟩, ?_⟩
    rintro w H2 ⟨T, x', y', rfl, hT, rfl, f1, f2⟩
    have e1 := f1 vs a1
    rw [hv] at e1
    cases e1
    have e2 := f2 us b1
    rw [hu] at e2
    cases e2
    obtain ⟨r1, r2, r3⟩ := rh.newF fr (u := .tup [v, u]) hT
    refine ⟨_, r3, r1, r2, T, [v, u], rfl, .inl (.inl upd_same), ?_⟩
    exact ⟨v, [u], rfl, RelB.mono r3.1 _ _ rv, u, [], rfl, RelB.mono r3.1 _ _ ru, rfl⟩
  · refine ⟨vs, us, a1, b1, ?_⟩
    rw [zipB_len, ← a2.length, ← b2.length]
    omega
theorem it_zip_t {F ι} {S0 : Store} {a b : Addr} {zs ys : List B}
    (hA : ∀ tp F' ι' S' H', Le F ι F' ι' → RH (C.w tp) F' ι' S' H' → LK S0 S' → ∃ vs, SqT C.K H' a vs ∧ RelBs C F' zs vs)
    (hB : ∀ tp F' ι' S' H', Le F ι F' ι' → RH (C.w tp) F' ι' S' H' → LK S0 S' → ∃ us, SqT C.K H' b us ∧ RelBs C F' ys us) : ItOk C F ι S0 (ItzT C.K a b) (zipB zs ys) := by
  refine fun tp F' ι' S' H' sb l rh fr lk => ?_
  obtain ⟨vs, a1, a2⟩ := hA tp F' ι' S' H' l rh lk
  obtain ⟨us, b1, b2⟩ := hB tp F' ι' S' H' l rh lk
  refine ⟨fun i x hx => ?_, ?_⟩
  · obtain ⟨p, q, h1, h2, rfl⟩ := zipB_get hx
    obtain ⟨v, hv, rv⟩ := a2.get h1
    obtain ⟨u, hu, ru⟩ := b2.get h2
    refine ⟨⟨vs, us, v, u, a1, b1, hv, hu⟩, ?_⟩
    rintro w H2 ⟨T, x', y', rfl, hT, rfl, f1, f2⟩
    have e1 := f1 vs a1
    rw [hv] at e1
    cases e1
    have e2 := f2 us b1
    rw [hu] at e2
    cases e2
    obtain ⟨r1, r2, r3⟩ := rh.newF fr (u := .tup [v, u]) hT
    refine ⟨_, r3, r1, r2, T, [v, u], rfl, .inl (.inl upd_same), ?_⟩
    exact ⟨v, [u], rfl, RelB.mono r3.1 _ _ rv, u, [], rfl, RelB.mono r3.1 _ _ ru, rfl⟩
  · refine ⟨vs, us, a1, b1, ?_⟩
    rw [zipB_len, ← a2.length, ← b2.length]
    omega
theorem tupD_some {x : D} {xs : List B} (h : tupD x = some xs) : x = .b (.tup xs) := by
  unfold tupD at h
  split at h
  · cases h; rfl
  · cases h
theorem mi_zip {X : Cx} {P : Par} {a b : Expr} {ma mb : E} {p pos tpos : Pos} {elts : List Expr} {kk : Nat} (hK : C.K = X.K) (hg : Gl X "zip") (hm : X.mg "zip" = none) (ha : ME X C P a ma) (hb : ME X C P b mb)
    (hs : starEach [a, b] X.env = (false, eval a X.env) :: starEach [b] X.env := by rfl)
    (hs2 : starEach [b] X.env = (false, eval b X.env) :: starEach [] X.env := by rfl) (hpl : (backTo pos (starEach [b] X.env)).any (·.1) = false := by rfl) :
    MI X C P (.Tuple elts kk tpos) (.Call (.Name "zip" p) [a, b] [] pos) .zip [ma, mb] := (pi_zipA hg hm (ma_cons ha (ma_cons hb ma_nil hs2) hs) hs hpl).imp fun σ H R h => by
  obtain ⟨F, ι, S, sl, ds, S1, xs, rs, e1, e2, nd, k⟩ := h
  refine rs.args e1 fun F1 ι1 vs H1 l1 r1 q1 => ?_
  unfold items at e2
  split at e2 <;> try contradiction
  rename_i x y _
  obtain ⟨v, w, rfl, rv, rw'⟩ := q1.two
  split at e2
  · rename_i ws us hx hy
    cases tupD_some hx
    cases tupD_some hy
    cases e2
    obtain ⟨a0, vs0, rfl, t1, t2⟩ := rv
    obtain ⟨b0, us0, rfl, s1, s2⟩ := rw'
    refine ⟨a0, b0, vs0, us0, rfl, .inr ⟨hK ▸ sqT_mono r1.rh.fz t1, hK ▸ sqT_mono r1.rh.fz s1, ?_⟩⟩
    exact k F1 ι1 H1 _ l1 (r1.rh.lockAll nd) r1.fr (hK ▸ it_zip_t (fun tp F' ι' S' H' l rh lk => ⟨vs0, sqT_mono (l.1.trans rh.fz) t1, RelBs.mono l.1 _ _ t2⟩) fun tp F' ι' S' H' l rh lk => ⟨us0, sqT_mono (l.1.trans rh.fz) s1, RelBs.mono l.1 _ _ s2⟩)
  · obtain ⟨zs, hz, e2⟩ := Option.bind_eq_some_iff.mp e2
    obtain ⟨ys, hy, rfl⟩ := Option.map_eq_some_iff.mp e2
    obtain ⟨a0, rfl, kpA⟩ := lsq_keep (ds := [x, y]) r1.rh rv (List.mem_cons_self ..) hz
    obtain ⟨a1, vs0, ea, t1, t2⟩ := lsq_rel r1.rh rv hz
    cases ea
    obtain ⟨b0, rfl, kpB⟩ := lsq_keep (ds := [x, y]) r1.rh rw' (List.mem_cons_of_mem _ (List.mem_cons_self ..)) hy
    obtain ⟨b1, us0, eb, s1, s2⟩ := lsq_rel r1.rh rw' hy
    cases eb
    refine ⟨a0, b0, vs0, us0, rfl, .inl ⟨hK ▸ t1, hK ▸ s1, ?_⟩⟩
    exact k F1 ι1 H1 _ l1 (r1.rh.lockAll nd) r1.fr (hK ▸ it_zip_l kpA kpB)
theorem nd_zip (S ds xs) (e : items S .zip ds = some xs) : NoDic S ds := by
  intro n hn kvs hk
  unfold items at e
  split at e <;> try contradiction
  rename_i x y _ _
  split at e
  · rename_i ws us hx hy
    cases tupD_some hx
    cases tupD_some hy
    simp at hn
  · obtain ⟨zs, hz, e2⟩ := Option.bind_eq_some_iff.mp e
    obtain ⟨ys, hy, _⟩ := Option.map_eq_some_iff.mp e2
    simp at hn
    rcases hn with rfl | rfl
    · unfold lsqD seqD at hz
      dsimp only at hz
      rw [hk] at hz
      cases hz
    · unfold lsqD seqD at hy
      dsimp only at hy
      rw [hk] at hy
      cases hy
end
end M
/-! MCS: dicts made by a comprehension. -/
namespace M
open PySem PySem.Spec PyProof.Rows L2
/-- a step of the comprehension -/
noncomputable def dcF (P : Par) (t ke e : E) : Sl → Store → Option (Option (Kd × B) × Store) := fun σ2 S2 => (ev P t σ2 S2).bind fun c => (truth c.2 c.1).bind fun c1 => if c1 then (ev P ke σ2 c.2).bind fun x => (keyD x.1).bind fun k => (ev P e σ2 x.2).bind fun y => (asB y).map fun z => (some (k, z.1), z.2) else some (none, c.2)
theorem dcF_stp {P : Par} (hS : CStp P.C ∧ CStp P.C2) {t ke e : E} {σ : Sl} {S : Store} {r : Option (Kd × B) × Store} (h : dcF P t ke e σ S = some r) : LK S r.2 := by
  unfold dcF at h
  obtain ⟨c, e1, h⟩ := Option.bind_eq_some_iff.mp h
  obtain ⟨c1, e2, h⟩ := Option.bind_eq_some_iff.mp h
  have g1 := ev_stp hS.1 hS.2 t σ S c e1 0 (Nat.zero_le _) (Nat.zero_le _)
  split at h
  · obtain ⟨x, e5, h⟩ := Option.bind_eq_some_iff.mp h
    obtain ⟨k, e6, h⟩ := Option.bind_eq_some_iff.mp h
    obtain ⟨y, e3, h⟩ := Option.bind_eq_some_iff.mp h
    obtain ⟨z, e4, h⟩ := Option.map_eq_some_iff.mp h
    cases h
    have g2 := g1.trans (ev_stp hS.1 hS.2 ke σ _ x e5 0 (Nat.zero_le _) (Nat.zero_le _))
    have g3 := g2.trans (ev_stp hS.1 hS.2 e σ _ y e3 0 (Nat.zero_le _) (Nat.zero_le _))
    obtain ⟨d, S4⟩ := y
    cases d <;> try (cases e4; done)
    cases e4
    exact g3.lk
  · cases h
    exact g1.lk
theorem dput_len (kvs : List (Kd × B)) (k : Kd) (v : B) : (dput kvs k v).length ≤ kvs.length + 1 := by
  unfold dput
  split
  · rw [List.length_map]; omega
  · rw [List.length_append, List.length_singleton]; exact Nat.le_refl _
theorem keyD_rel {C : Ct} {F : Hp} {ι : List Addr} {x : D} {k : Kd} {v : V} (e : keyD x = some k) (r : RelD C F ι x v) : ∃ j, RelK C.N k j ∧ v = kV j := by
  cases x with
  | b x => exact keyB_rel (C := C) (F := F) e r
  | ref n => cases e
  | mix xs => cases e
section
variable {X : Cx} {C : Ct} {P : Par} {pos spos : Pos} {kx vx tg iter : Expr} {ifs : List Expr} {scope : Scope} {own : List (PySem.Str × Nat)} {k : Ik} {g : Pt} {es : List E} {mt mk mv : E} {w : List Nat}
theorem dc_rd (hS : CStp P.C ∧ CStp P.C2) (hK : C.K = X.K) (hnd : ∀ S ds xs, items S k ds = some xs → NoDic S ds) (hw : ∀ j ∈ slots g, j ∈ w) {σ : L2.St} {H : Hp} {Q : VK}
    (h : rdE C P (.dc true g k es mt mk mv w) σ H Q) {wi : TI} (hwi : ∀ σ H R, rdI C P k es σ H R → wi σ H R) {tt : TT} (htt : ∀ tp σ H Q, rdT (C.w tp) P mt σ H Q → tt σ H Q) {tk : TE} (htk : ∀ tp σ H Q, rdE (C.w tp) P mk σ H Q → tk σ H Q) {tv : TE} (htv : ∀ tp σ H Q, rdE (C.w tp) P mv σ H Q → tv σ H Q) :
    tDc wi (gPt X.K g) tt tk tv w σ H Q := by
  obtain ⟨F, ι, S, sl, d, S', rs, e, post⟩ := h
  unfold ev at e
  obtain ⟨⟨ds, S1⟩, e1, e⟩ := Option.bind_eq_some_iff.mp e
  obtain ⟨xs, e2, e⟩ := Option.bind_eq_some_iff.mp e
  dsimp only at e
  split at e
  · rename_i hz
    obtain ⟨⟨ys, S2⟩, e3, e⟩ := Option.bind_eq_some_iff.mp e
    obtain ⟨S3, e4, e⟩ := Option.bind_eq_some_iff.mp e
    have nd := hnd _ _ _ e2
    refine hwi _ _ _ ⟨F, ι, S, sl, ds, S1, xs, rs, e1, e2, nd, fun F1 ι1 H1 J l1 rh1 fr1 it D hD => ?_⟩
    have hDt : C.tp D = none := by
      cases q : C.tp D with
      | none => rfl
      | some u =>
        rw [(rh1.tm D u q).1] at hD
        cases hD
    have hnown : ∀ vs : List (L2.Key × V), ∀ b, HO.dK vs ≠ .own b := fun _ _ z => nomatch z
    have hnfz : ∀ vs : List (L2.Key × V), ¬ Fz (HO.dK vs) := fun _ ⟨_, _, z⟩ => nomatch z
    refine ⟨fun i n H => n = xs.length - i ∧ i ≤ xs.length ∧ ∃ F' ι' S' acc vacc, Le F1 ι1 F' ι' ∧ RH (C.w (upd C.tp D (.dK vacc))) F' ι' S' H ∧ Fre F' ι' ∧ RelBk C F' acc vacc ∧ acc.length ≤ i ∧ LK (lockAll S1 ds) S' ∧
      dcL (dcF P mt mk mv) g (xs.drop i) (M.wipe sl w) S' acc = some (ys, S2), ⟨xs.length, by simp, Nat.zero_le _, F1, ι1, _, [], [], Le.refl _ _, rh1.tmNew hD (hnown _), fr1, rfl, Nat.le_refl _, LK.refl, by rw [List.drop_zero]; exact e3⟩, ?_⟩
    rintro i n H2 ⟨hm, hi', F2, ι2, S4, acc, vacc, l2, rh2, fr2, ra, hal, lk2, e5⟩
    have rsw := rs.rs.wipe w
    have hsl2 := rsw.mono (l1.trans l2)
    obtain ⟨go, stop⟩ := it _ F2 ι2 S4 H2 (fun b o e => (upd_ne (fun z => by rw [z, hDt] at e; cases e)).trans e) l2 rh2 fr2 lk2
    by_cases hlt : i < xs.length
    · rw [List.drop_eq_getElem_cons hlt] at e5
      unfold dcL at e5
      obtain ⟨sl3, e6, e5⟩ := Option.bind_eq_some_iff.mp e5
      obtain ⟨⟨oy, S5⟩, e7, e5⟩ := Option.bind_eq_some_iff.mp e5
      obtain ⟨go1, yld⟩ := go i _ (List.getElem?_eq_getElem hlt)
      have lk5 := lk2.trans (dcF_stp hS e7)
      let Nx : Hp → Prop := fun H => ∃ F' ι' S' acc vacc, Le F1 ι1 F' ι' ∧ RH (C.w (upd C.tp D (.dK vacc))) F' ι' S' H ∧ Fre F' ι' ∧ RelBk C F' acc vacc ∧ acc.length ≤ i + 1 ∧ LK (lockAll S1 ds) S' ∧
        dcL (dcF P mt mk mv) g (xs.drop (i + 1)) (M.wipe sl w) S' acc = some (ys, S2)
      refine .inr ⟨go1, Nx, fun H' q => ⟨xs.length - (i + 1), by omega, rfl, hlt, q⟩, fun v H3 hy => ?_⟩
      obtain ⟨F3, l3, rh3, fr3, rv⟩ := yld v H3 hy
      have rs3 : RS (C.w (upd C.tp D (.dK vacc))) F3 ι2 (M.wipe sl w) S4 (L2.wipe σ w) H3 := ⟨rh3, fr3, (hsl2.mono l3).w⟩
      refine asg_relO (C := C.w (upd C.tp D (.dK vacc))) hK g e6 (RelB.w _ _ rv) rs3 fun σ4 o4 rs4 => ⟨wipe_only o4 hw, ?_⟩
      unfold dcF at e7
      obtain ⟨⟨c, S7⟩, e9, e7⟩ := Option.bind_eq_some_iff.mp e7
      obtain ⟨c1, e10, e7⟩ := Option.bind_eq_some_iff.mp e7
      refine htt _ _ _ _ (rs4.oneT e9 e10 fun F5 ι5 H5 l5 r5 => ?_)
      cases c1 with
      | true =>
        rw [if_pos rfl] at e7 ⊢
        obtain ⟨⟨x, S9⟩, e13, e7⟩ := Option.bind_eq_some_iff.mp e7
        obtain ⟨kk, e14, e7⟩ := Option.bind_eq_some_iff.mp e7
        obtain ⟨⟨y, S8⟩, e11, e7⟩ := Option.bind_eq_some_iff.mp e7
        obtain ⟨z, e12, e7⟩ := Option.map_eq_some_iff.mp e7
        cases e7
        refine htk _ _ _ _ (r5.one e13 fun F6 ι6 u H6 l6 r6 q6 => ?_)
        obtain ⟨jk, rk, rfl⟩ := keyD_rel e14 q6
        refine htv _ _ _ _ (r6.one e11 fun F7 ι7 u7 H7 l7 r7 q7 => ?_)
        cases y with
        | b yy =>
          cases e12
          obtain ⟨h1, h2, h3, h4⟩ := r7.rh.tm D (.dK vacc) (show upd C.tp D (.dK vacc) D = some _ from upd_same)
          have l27 : Le F2 ι2 F7 ι7 := l3.trans (l5.trans (l6.trans l7))
          have ra7 := RelBk.mono l27.1 _ _ ra
          have hpl := dput_len acc kk yy
          refine ⟨vacc, jk, rfl, h1, ?_, F7, ι7, _, dput acc kk yy, putK vacc jk u7, l2.trans l27, r7.rh.tmSet (hnfz _) (hnown _), r7.fr, dput_rel ra7 rk (RelB.v q7), by omega, lk5, e5⟩
          rw [← ra7.length]
          exact Nat.lt_of_lt_of_le (by omega) (SZ_le hz)
        | ref n => cases e12
        | mix n => cases e12
      | false =>
        rw [if_neg Bool.false_ne_true] at e7 ⊢
        cases e7
        have l25 : Le F2 ι2 F5 ι5 := l3.trans l5
        exact ⟨F5, ι5, _, acc, vacc, l2.trans l25, r5.rh, r5.fr, RelBk.mono l25.1 _ _ ra, by omega, lk5, e5⟩
    · have hi2 : i = xs.length := by omega
      subst hi2
      rw [List.drop_length] at e5
      cases e5
      refine .inl ⟨stop, ?_⟩
      have p2 := post.mono (l1.trans l2)
      have rh3 : RH (C.w (upd C.tp D (.dK vacc))) F2 ι2 S3 H2 := rh2.unlockAll nd e4
      obtain ⟨h1, h2, h3, h4⟩ := rh3.tm D (.dK vacc) (show upd C.tp D (.dK vacc) D = some _ from upd_same)
      unfold newD at e
      split at e
      · cases e
        obtain ⟨n1, n2, n3⟩ := rh3.tmS (o := .dic ys) (hnfz _) fr2 hDt ⟨vacc, h1, ra⟩
        exact p2 _ _ _ _ n3 n1 n2 ⟨D, by rw [List.getElem?_append_right (by rw [rh3.len] <;> exact Nat.le_refl _), ← rh3.len, Nat.sub_self] <;> rfl, rfl⟩
      · cases e
  · cases e
/-- {key: value for target in iter if ..} -/
theorem me_dc (hS : CStp P.C ∧ CStp P.C2) (hK : C.K = X.K) (hc : X.calm = true) (hN : X.N.Nodup) (hnd : ∀ S ds xs, items S k ds = some xs → NoDic S ds) (hi : MI X C P tg iter k es) (ok : BlkOk X.N X.env.scope scope own) (hww : own.map (·.2) = w)
    (hg : ∀ (s : Shared) (H : Hp) (Cc : Addr) (cl : List (PySem.Str × Addr)) (fp : List Addr), PG (X.blk s H scope (compEnvC scope cl Cc X.env) fp) tg (gPt X.K g))
    (ht : ∀ (tp : Hp) (s : Shared) (H : Hp) (Cc : Addr) (cl : List (PySem.Str × Addr)) (fp : List Addr), PTs (X.blk s H scope (compEnvC scope cl Cc X.env) fp) ifs (rdT (C.w tp) P mt))
    (hk : ∀ (tp : Hp) (s : Shared) (H : Hp) (Cc : Addr) (cl : List (PySem.Str × Addr)) (fp : List Addr), ME (X.blk s H scope (compEnvC scope cl Cc X.env) fp) (C.w tp) P kx mk)
    (hv : ∀ (tp : Hp) (s : Shared) (H : Hp) (Cc : Addr) (cl : List (PySem.Str × Addr)) (fp : List Addr), ME (X.blk s H scope (compEnvC scope cl Cc X.env) fp) (C.w tp) P vx mv)
    (hw : ∀ j ∈ slots g, j ∈ w := by decide) (hs : ∀ x, foldedSetIterable iter X.env x = pure x := by intro _; rfl) : ME X C P (.DictComp kx vx [⟨tg, iter, ifs, 0⟩] scope pos) (.dc true g k es mt mk mv w) := by
  refine (pe_dc (tt := fun σ H Q => ∃ tp, rdT (C.w tp) P mt σ H Q) (tk := fun σ H Q => ∃ tp, rdE (C.w tp) P mk σ H Q) (tv := fun σ H Q => ∃ tp, rdE (C.w tp) P mv σ H Q) hc hN hi ok hg (fun s H Cc cl fp => ⟨fun pins s2 σ H Q I ⟨tp, h⟩ => (ht tp s _ Cc cl fp).run pins s2 σ H Q I h⟩)
    (fun s H Cc cl fp => ⟨fun pins s2 σ H Q I ⟨tp, h⟩ => (hk tp s _ Cc cl fp).run pins s2 σ H Q I h⟩) (fun s H Cc cl fp => ⟨fun pins s2 σ H Q I ⟨tp, h⟩ => (hv tp s _ Cc cl fp).run pins s2 σ H Q I h⟩) hs).imp fun σ H Q h => ?_
  rw [hww]
  exact dc_rd hS hK hnd hw h (fun _ _ _ h => h) (fun tp _ _ _ h => ⟨tp, h⟩) (fun tp _ _ _ h => ⟨tp, h⟩) (fun tp _ _ _ h => ⟨tp, h⟩)
/-- name = {..} on one line, the name a local -/
theorem ps_setDc {i : Nat} {y : PySem.Str} {py : Pos} {wi : TI} {gg : TG} {tt : TT} {tk tv : TE} (hc : X.calm = true) (hN : X.N.Nodup) (hy : X.N[i]? = some y) (hyl : X.env.scope.names.lookup y = some .local)
    (hsw : swapsWith (.DictComp kx vx [⟨tg, iter, ifs, 0⟩] scope pos) (some (.Name y py)) spos.line X.env = pure true) (hi : PI X tg iter wi) (ok : BlkOk X.N X.env.scope scope own)
    (hg : ∀ (s : Shared) (H : Hp) (C : Addr) (cl : List (PySem.Str × Addr)) (fp : List Addr), PG (X.blk s H scope (compEnvC scope cl C X.env) fp) tg gg) (ht : ∀ (s : Shared) (H : Hp) (C : Addr) (cl : List (PySem.Str × Addr)) (fp : List Addr), PTs (X.blk s H scope (compEnvC scope cl C X.env) fp) ifs tt)
    (hk : ∀ (s : Shared) (H : Hp) (C : Addr) (cl : List (PySem.Str × Addr)) (fp : List Addr), PE (X.blk s H scope (compEnvC scope cl C X.env) fp) kx tk)
    (he : ∀ (s : Shared) (H : Hp) (C : Addr) (cl : List (PySem.Str × Addr)) (fp : List Addr), PE (X.blk s H scope (compEnvC scope cl C X.env) fp) vx tv) (hs : ∀ x, foldedSetIterable iter X.env x = pure x := by intro _; rfl) :
    PS X (.Assign [.Name y py] (.DictComp kx vx [⟨tg, iter, ifs, 0⟩] scope pos) spos) (tAsg (tDc wi gg tt tk tv (own.map (·.2))) (gName i)) := by
  refine ⟨fun pins s σ H D I h => ?_⟩
  rw [exec_Assign_Name_used _ _ _ _ hsw]
  refine wpAny_bind (wpAny_standAt (wpAny_bind ?_))
  show wpAny _ X.A (do let _ ← comprehension (.DictComp kx vx [⟨tg, iter, ifs, 0⟩] scope pos) scope X.env (firstIterPos [⟨tg, iter, ifs, 0⟩] pos) newDict false (eval iter X.env) (some (assign (.Name y py) X.env))) _ _ s
  have h : tDc wi gg tt tk tv (own.map (·.2)) σ H (fun x H1 => gName i x σ H1 D.nx) := h
  refine wpAny_bind (thn (dc_core (Qf := fun _ s' => SP X pins D .next s') hc hN I hi ok hg ht hk he hs h fun L C s' m H' I' q hn f => ?_) fun _ s' hq => wpAny_pure (wpAny_pure hq))
  show wpAny _ _ (assign (.Name y py) X.env (.ref L)) _ _ _
  refine wpAny_assign_Name (store_ok2 (v := V.ref L) I' hN hy (.inl hyl) rfl (fun s2 I2 ⟨a, sb, ha⟩ => ?_) (.inr hyl))
  obtain ⟨f0, f1, f2, f3, f4, f5⟩ := f
  have haC : C ≠ a := by
    rcases ha with z | z
    · rw [z]; exact f1
    · exact fun e => f4 y a z e.symm
  refine ⟨m, hn.sameBut sb haC, fun h3 sb3 => ?_⟩
  exact ⟨_, H', I2.turned (t' := s2.toks) (fun b o hb e => (sb3.2 b hb).trans e) f0 f1 f3 f4 f5, q⟩
theorem ms_setdc {y : PySem.Str} {py : Pos} {i : Nat} (hS : CStp P.C ∧ CStp P.C2) (hK : C.K = X.K) (hc : X.calm = true) (hN : X.N.Nodup) (hy : X.N[i]? = some y) (hyl : X.env.scope.names.lookup y = some .local)
    (hnd : ∀ S ds xs, items S k ds = some xs → NoDic S ds) (hi : MI X C P tg iter k es) (ok : BlkOk X.N X.env.scope scope own) (hww : own.map (·.2) = w)
    (hg : ∀ (s : Shared) (H : Hp) (Cc : Addr) (cl : List (PySem.Str × Addr)) (fp : List Addr), PG (X.blk s H scope (compEnvC scope cl Cc X.env) fp) tg (gPt X.K g))
    (ht : ∀ (tp : Hp) (s : Shared) (H : Hp) (Cc : Addr) (cl : List (PySem.Str × Addr)) (fp : List Addr), PTs (X.blk s H scope (compEnvC scope cl Cc X.env) fp) ifs (rdT (C.w tp) P mt))
    (hk : ∀ (tp : Hp) (s : Shared) (H : Hp) (Cc : Addr) (cl : List (PySem.Str × Addr)) (fp : List Addr), ME (X.blk s H scope (compEnvC scope cl Cc X.env) fp) (C.w tp) P kx mk)
    (hv : ∀ (tp : Hp) (s : Shared) (H : Hp) (Cc : Addr) (cl : List (PySem.Str × Addr)) (fp : List Addr), ME (X.blk s H scope (compEnvC scope cl Cc X.env) fp) (C.w tp) P vx mv)
    (hsw : swapsWith (.DictComp kx vx [⟨tg, iter, ifs, 0⟩] scope pos) (some (.Name y py)) spos.line X.env = pure true := by rfl)
    (hw : ∀ j ∈ slots g, j ∈ w := by decide) (hs : ∀ x, foldedSetIterable iter X.env x = pure x := by intro _; rfl) : MS X C P (.Assign [.Name y py] (.DictComp kx vx [⟨tg, iter, ifs, 0⟩] scope pos) spos) (.set i (.dc true g k es mt mk mv w)) := by
  refine (ps_setDc (tt := fun σ H Q => ∃ tp, rdT (C.w tp) P mt σ H Q) (tk := fun σ H Q => ∃ tp, rdE (C.w tp) P mk σ H Q) (tv := fun σ H Q => ∃ tp, rdE (C.w tp) P mv σ H Q) hc hN hy hyl hsw hi ok hg (fun s H Cc cl fp => ⟨fun pins s2 σ H Q I ⟨tp, h⟩ => (ht tp s _ Cc cl fp).run pins s2 σ H Q I h⟩)
    (fun s H Cc cl fp => ⟨fun pins s2 σ H Q I ⟨tp, h⟩ => (hk tp s _ Cc cl fp).run pins s2 σ H Q I h⟩) (fun s H Cc cl fp => ⟨fun pins s2 σ H Q I ⟨tp, h⟩ => (hv tp s _ Cc cl fp).run pins s2 σ H Q I h⟩) hs).imp fun D σ H h => ?_
  obtain ⟨F, ι, S, sl, r, rs, e, post⟩ := h
  unfold exec at e
  obtain ⟨⟨d, S1⟩, e1, e⟩ := Option.map_eq_some_iff.mp e
  cases e
  rw [hww]
  exact dc_rd hS hK hnd hw (rs.one e1 fun F1 ι1 v H1 l1 r1 q1 => post F1 ι1 _ H1 l1 (r1.slot q1)) (fun _ _ _ h => h) (fun tp _ _ _ h => ⟨tp, h⟩) (fun tp _ _ _ h => ⟨tp, h⟩) (fun tp _ _ _ h => ⟨tp, h⟩)
end
end M
/-! MCR: != of tuples whose items have an own ==. -/
namespace M
open PySem PySem.Spec PyProof.Rows L2
section
open PySem.SeqAt AutoSeq1 MeetsSeq MeetsSeq2 MeetsSeq3 SeqRoads2
variable {prog : Program} {w : World} {A : Around} {R : Result → Shared → Prop}
theorem tup_neB (l b : Addr) (its its2 : Array Value) (n n2 : Nat) (dd dd2 : Option Addr) (sl sl2 : Array (Option Value)) (I : Nat → Shared → Prop) (Z : Shared → Prop)
    (turn : ∀ i (h1 : i < its.size) (h2 : i < its2.size) s, I i s →
      wpAny (model prog w) A.in1 (eqBool its[i] its2[i]) (fun r s' => if r = true then I (i + 1) s' else Z s') (fun e s' => R (.error e) s') s)
    (fin : ∀ s, I (min its.size its2.size) s → R (.ok (.ret (.bool (!(its.size == its2.size))))) s) (bad : ∀ s, Z s → R (.ok (.ret (.bool true))) s)
    {s : Shared} (hl1 : s.heap.get? l = some { cls := .type "tuple", dict := dd, data := .seq its n, slots := sl })
    (hb1 : s.heap.get? b = some { cls := .type "tuple", dict := dd2, data := .seq its2 n2, slots := sl2 }) (h : I 0 s) :
    wpAny (model prog w) A.in1 (Builtin.«tuple.__ne__» ⟨[.ref l, .ref b], []⟩) (GQ.FinOf prog w A R) (fun e s' => R (.error e) s') s := by
  have f2 := AutoSeq1.sub_tuple_tuple
  have hZ : (its.toList.zip its2.toList).length = min its.size its2.size := by simp
  have h0 := h
  obtain ⟨hp, g, d, tk, os⟩ := s
  wp_walk using wpAny_loadPart' hl1, wpAny_loadPart' hb1, wpAny_forIn_list _ (fun rest c s' => c.1 = none ∧ ∃ i, rest = (its.toList.zip its2.toList).drop i ∧ i ≤ min its.size its2.size ∧ I i s') _
  case turn =>
    rintro ⟨y, x⟩ rest c s' ⟨hc, i, hz, hi, hI⟩
    have hlt : i < (its.toList.zip its2.toList).length := by
      rcases Nat.lt_or_ge i (its.toList.zip its2.toList).length with h' | h'
      · exact h'
      · rw [List.drop_of_length_le h'] at hz; cases hz
    have h12 : i < min its.size its2.size := hZ ▸ hlt
    have h1 : i < its.size := by omega
    have h2 : i < its2.size := by omega
    rw [List.drop_eq_getElem_cons hlt] at hz
    injection hz with hyx hrest
    have hy : y = its[i] := by simpa using congrArg Prod.fst hyx
    have hx : x = its2[i] := by simpa using congrArg Prod.snd hyx
    subst hy hx
    refine wpAny_bind (wpAny_mono (turn i h1 h2 s' hI) (fun r s2 q2 => ?_) fun _ _ x => x)
    cases r with
    | true =>
      rw [if_pos rfl] at q2
      wp_walk
      exact ⟨rfl, i + 1, hrest, h12, q2⟩
    | false =>
      rw [if_neg Bool.false_ne_true] at q2
      have hR := bad s2 q2
      wp_walk
      exact hR
  case fin =>
    rintro ⟨b1, b2⟩ s' ⟨hc, i, hz, hi, hI⟩
    simp only at hc
    subst hc
    have hge : min its.size its2.size ≤ i := by
      rcases Nat.lt_or_ge i (its.toList.zip its2.toList).length with h' | h'
      · rw [List.drop_eq_getElem_cons h'] at hz; cases hz
      · exact hZ ▸ h'
    have hi' : i = min its.size its2.size := by omega
    have hR := fin s' (hi' ▸ hI)
    wp_walk
    simpa [Builtin.Tuple.tupleCompareSizes, bne] using hR
  case h =>
    exact ⟨rfl, 0, rfl, Nat.zero_le _, h0⟩
theorem rc_tupN {l b : Addr} {its its2 : Array Value} {E : Value → Shared → Prop} {Q : Value → Shared → Prop} {s : Shared} (hu : A.units < cLine) (I : Nat → Shared → Prop) (Z : Shared → Prop) (hl : s.heap.IsTuple l its) (hb : s.heap.IsTuple b its2)
    (turn : ∀ i (h1 : i < its.size) (h2 : i < its2.size) s, I i s → wpAny (model prog w) A.in1 (eqBool its[i] its2[i]) (fun r s' => if r = true then I (i + 1) s' else Z s') E s)
    (fin : ∀ s, I (min its.size its2.size) s → Q (.bool (!(its.size == its2.size))) s) (bad : ∀ s, Z s → Q (.bool true) s) (h : I 0 s) : wpAny (model prog w) A (richCompare .NotEq (.ref l) (.ref b)) Q E s := by
  obtain ⟨⟨c1, d1, data1, z1⟩, ho, e1, n, hd⟩ := id hl
  obtain ⟨⟨c2, d2, data2, z2⟩, ho2, e2, n2, hd2⟩ := id hb
  simp only at e1 hd e2 hd2
  subst e1 hd e2 hd2
  refine wpAny_richCompare_same_room (op := .NotEq) ⟨_, ho, rfl⟩ ⟨_, ho2, rfl⟩ F.slot_tuple_ne (GQ.call_here F.slot_tuple_ne ⟨_, ho, rfl⟩ F.entry_tuple_ne (F.args_tuple_ne_2 _ _) ?_) hu
  exact tup_neB (R := wants (fun v s' => v ≠ .notImplemented ∧ Q v s') E) l b its its2 n n2 _ _ _ _ I Z turn (fun s' q => ⟨(fun x => nomatch x), fin s' q⟩) (fun s' q => ⟨(fun x => nomatch x), bad s' q⟩) ho ho2 h
end
section
variable {X : Cx} {C : Ct} {pins : List (Addr × Obj)} {σ : L2.St} {H F : Hp} {s : Shared}
theorem eqL_runN (hK : C.K = X.K) {T : Tab} {k b : Nat} (G : ∀ j, k = j + 1 → ∀ c f, T.eqm c = some f → Gm X.prog X.w X.K X.mg X.base T C j f c "__eq__") {A : Around} (room : ∀ j, k = j + 1 → Room j A.in1) (hu : A.units + 14 < cLine) (fr : A.frames = X.A.frames)
    {ι : List Addr} {xs ys : List B} {vs ws : List V} {S S' : Store} {r : Bool} {a a' : Addr} (e : eqL (par T k b) xs ys S = some (r, S')) (rh : RH C F ι S H) (fre : Fre F ι) (ha : SqT X.K H a vs) (ha' : SqT X.K H a' ws) (rx : RelBs C F xs vs) (ry : RelBs C F ys ws) (I : Inv X pins σ H s) :
    wpAny (model X.prog X.w) A (richCompare .NotEq (.ref a) (.ref a')) (fun z s' => z = .bool (!r) ∧ EqP X C F ι S' pins σ s') X.xe s := by
  obtain ⟨its, q1, h1, _⟩ := I.tuple ha
  obtain ⟨its2, q2, h2, _⟩ := I.tuple ha'
  have lx : xs.length = its.toArray.size := by rw [List.size_toArray, rx.length, q1.length]
  have ly : ys.length = its2.toArray.size := by rw [List.size_toArray, ry.length, q2.length]
  have ex : ∀ (us : List B) (zs : List B) S1, eqL (par T k b) us zs S1 = some (r, S') → us = [] ∨ zs = [] → r = decide (us.length = zs.length) ∧ S1 = S' := by
    intro us zs S1 e h
    cases us with
    | nil =>
      cases zs with
      | nil => cases e; exact ⟨rfl, rfl⟩
      | cons z zs => cases e; exact ⟨rfl, rfl⟩
    | cons u us =>
      cases zs with
      | nil => cases e; exact ⟨rfl, rfl⟩
      | cons z zs => rcases h with h | h <;> cases h
  refine rc_tupN (by omega) (fun i s' => ∃ S1 F1 ι1 H1, eqL (par T k b) (xs.drop i) (ys.drop i) S1 = some (r, S') ∧ Le F ι F1 ι1 ∧ RH C F1 ι1 S1 H1 ∧ Fre F1 ι1 ∧ Inv X pins σ H1 s') (fun s' => r = false ∧ EqP X C F ι S' pins σ s') h1 h2 ?_ ?_ ?_ ⟨S, F, ι, H, e, Le.refl _ _, rh, fre, I⟩
  · rintro i g1 g2 s1 ⟨S1, F1, ι1, H1, e1, l1, rh1, fr1, I1⟩
    have i1 : i < xs.length := by omega
    have i2 : i < ys.length := by omega
    rw [List.drop_eq_getElem_cons i1, List.drop_eq_getElem_cons i2] at e1
    unfold eqL at e1
    obtain ⟨⟨z, S2⟩, e2, e1⟩ := Option.bind_eq_some_iff.mp e1
    obtain ⟨v, hv, rv⟩ := rx.get (List.getElem?_eq_getElem i1)
    obtain ⟨w, hw, rw'⟩ := ry.get (List.getElem?_eq_getElem i2)
    obtain ⟨u, hu1, ru⟩ := q1.get hv
    obtain ⟨u', hu2, ru'⟩ := q2.get hw
    have gg1 : its[i]? = some its.toArray[i] := by
      have h1' : i < its.length := by simpa using g1
      rw [List.getElem?_eq_getElem h1'] <;> simp
    have gg2 : its2[i]? = some its2.toArray[i] := by
      have h2' : i < its2.length := by simpa using g2
      rw [List.getElem?_eq_getElem h2'] <;> simp
    rw [gg1] at hu1
    rw [gg2] at hu2
    rw [Option.some.inj hu1, Option.some.inj hu2]
    refine wpAny_mono (eqE_run hK G (A := A.in1) room (by show A.units + 1 + 13 < cLine; omega) fr e2 rh1 fr1 (RelB.mono l1.1 _ _ rv) (RelB.mono l1.1 _ _ rw') I1 ru ru') (fun q s2 hq => ?_) fun _ _ x => x
    obtain ⟨rfl, F2, ι2, H2, l2, rh2, fr2, I2⟩ := hq
    dsimp only at e1
    cases q with
    | true =>
      rw [if_pos rfl] at e1 ⊢
      exact ⟨S2, F2, ι2, H2, e1, l1.trans l2, rh2, fr2, I2⟩
    | false =>
      rw [if_neg Bool.false_ne_true] at e1 ⊢
      cases e1
      exact ⟨rfl, F2, ι2, H2, l1.trans l2, rh2, fr2, I2⟩
  · rintro s1 ⟨S1, F1, ι1, H1, e1, l1, rh1, fr1, I1⟩
    have hd : xs.drop (min its.toArray.size its2.toArray.size) = [] ∨ ys.drop (min its.toArray.size its2.toArray.size) = [] := by
      rcases Nat.le_total its.toArray.size its2.toArray.size with h | h
      · exact .inl (List.drop_eq_nil_of_le (by omega))
      · exact .inr (List.drop_eq_nil_of_le (by omega))
    obtain ⟨hr, hS⟩ := ex _ _ _ e1 hd
    subst hS
    refine ⟨?_, F1, ι1, H1, l1, rh1, fr1, I1⟩
    rw [hr, List.length_drop, List.length_drop, ← lx, ← ly]
    by_cases h : xs.length = ys.length
    · rw [h]
      simp
    · have : ¬ (xs.length - min xs.length ys.length = ys.length - min xs.length ys.length) := by omega
      simp [h, this]
  · rintro s1 ⟨rfl, q⟩
    exact ⟨rfl, q⟩
def rNeo (C : Ct) (P : Par) : R2 := fun x y H Q => ∃ F ι S xs dy z S', RH C F ι S H ∧ Fre F ι ∧ RelD C F ι (.b (.tup xs)) x ∧ RelD C F ι dy y ∧ eqo P S (.b (.tup xs)) dy = some (z, S') ∧ ∀ F' ι' H', Le F ι F' ι' → RH C F' ι' S' H' → Fre F' ι' → Q (.bl (!z)) H'
theorem op_neo (hK : C.K = X.K) (hu : X.A.units + 66 < cLine) {T : Tab} {k b : Nat} (hr : Room k X.A) (G : ∀ j, j ≤ k → ∀ c f, T.eqm c = some f → Gm X.prog X.w X.K X.mg X.base T C j f c "__eq__") : OpR X (compareOp .NotEq) (rNeo C (par T k b)) := by
  intro pins s σ H x y v u Q I rx ry h
  obtain ⟨F, ι, S, xs, dy, z, S', rh, fr, r1, r2, e, post⟩ := h
  have flat : ∀ z, cmp S .eq (.b (.tup xs)) dy = some z → (∀ F' ι' H', Le F ι F' ι' → RH C F' ι' S H' → Fre F' ι' → Q (.bl (!z)) H') → wpAny (model X.prog X.w) X.A (compareOp .NotEq v u) (EP X pins σ Q) X.xe s := fun z ez post => by
    have ez2 : cmp S .ne (.b (.tup xs)) dy = some (!z) := by
      show (cmp S .eq (.b (.tup xs)) dy).map (!·) = _
      rw [ez]
      rfl
    exact op_cmpM hK hu .ne pins s σ H x y v u Q I rx ry ⟨F, ι, S, _, dy, _, rh, fr, r1, r2, ez2, post F ι H (Le.refl _ _) rh fr⟩
  unfold eqo at e
  dsimp only at e
  split at e
  · rename_i z' ez
    cases e
    exact flat _ ez post
  · split at e
    · rename_i ys
      obtain ⟨a, vs, rfl, h1, h2⟩ := id r1
      obtain ⟨a', ws, rfl, h3, h4⟩ := id r2
      cases rx
      cases ry
      refine wpAny_mono (eqL_runN hK (fun j hj => G j (by omega)) (A := X.A) (fun j hj => (hj ▸ hr : Room (j + 1) X.A).in1) (by omega) rfl e rh fr (hK ▸ sqT_mono rh.fz h1) (hK ▸ sqT_mono rh.fz h3) h2 h4 I) (fun q s2 hq => ?_) fun _ _ x => x
      obtain ⟨rfl, F', ι', H', l, rh', fr', I'⟩ := hq
      exact ⟨.bl (!z), H', I', rfl, post F' ι' H' l rh' fr'⟩
    · cases e
end
section
variable {X : Cx} {C : Ct} {pos p : Pos} {a b : Expr} {ma mb : E} {T : Tab} {k bs : Nat}
theorem ev_neo {P : Par} {σ : Sl} {S : Store} {d : D} {S' : Store} (e : ev P (.not (.eqo (.revt (.revt ma)) mb)) σ S = some (d, S')) : ∃ xs S1 y S2 z, ev P ma σ S = some (.b (.tup xs), S1) ∧ ev P mb σ S1 = some (y, S2) ∧ eqo P S2 (.b (.tup xs)) y = some (z, S') ∧ d = .b (.bl (!z)) := by
  unfold ev at e
  obtain ⟨⟨q, S3⟩, e1, e⟩ := Option.bind_eq_some_iff.mp e
  unfold ev at e1
  obtain ⟨⟨x, S1⟩, e2, e1⟩ := Option.bind_eq_some_iff.mp e1
  obtain ⟨⟨y, S2⟩, e3, e1⟩ := Option.bind_eq_some_iff.mp e1
  obtain ⟨⟨z, S4⟩, e4, e1⟩ := Option.map_eq_some_iff.mp e1
  cases e1
  unfold ev at e2
  obtain ⟨⟨x1, T1⟩, e5, e2⟩ := Option.bind_eq_some_iff.mp e2
  unfold ev at e5
  obtain ⟨⟨x2, T2⟩, e6, e5⟩ := Option.bind_eq_some_iff.mp e5
  dsimp only at e5
  split at e5
  · rename_i xs
    cases e5
    dsimp only at e2
    cases e2
    rw [List.reverse_reverse] at e4
    obtain ⟨c, e7, e8⟩ := Option.map_eq_some_iff.mp e
    cases e7
    cases e8
    exact ⟨xs, _, y, S2, _, e6, e3, e4, rfl⟩
  · cases e5
theorem me_cneo (hK : C.K = X.K) (hu : X.A.units + 66 < cLine) (hr : Room k X.A) (G : ∀ j, j ≤ k → ∀ c f, T.eqm c = some f → Gm X.prog X.w X.K X.mg X.base T C j f c "__eq__") (ha : ME X C (par T k bs) a ma) (hb : ME X C (par T k bs) b mb) (hm : behindInMarks .NotEq b = false := by rfl) : ME X C (par T k bs) (.Compare a [.NotEq] [b] pos) (.not (.eqo (.revt (.revt ma)) mb)) := by
  refine (pe_cmpR (op_neo (b := bs) hK hu hr G) ha hb hm).imp fun σ H Q h => ?_
  obtain ⟨F, ι, S, sl, d, S', rs, e, post⟩ := h
  obtain ⟨xs, S1, y, S2, z, e1, e2, e3, rfl⟩ := ev_neo e
  refine rs.one e1 fun F1 ι1 v H1 l1 r1 q1 => r1.one e2 fun F2 ι2 w H2 l2 r2 q2 => ?_
  exact ⟨F2, ι2, S2, xs, y, _, _, r2.rh, r2.fr, q1.mono l2, q2, e3, fun F' ι' H' l rh fr => ((post.mono (l1.trans l2)).mono l).here rh fr rfl⟩
theorem mt_cneo (hK : C.K = X.K) (hu : X.A.units + 66 < cLine) (hr : Room k X.A) (G : ∀ j, j ≤ k → ∀ c f, T.eqm c = some f → Gm X.prog X.w X.K X.mg X.base T C j f c "__eq__") (ha : ME X C (par T k bs) a ma) (hb : ME X C (par T k bs) b mb) (hm : behindInMarks .NotEq b = false := by rfl) : MT X C (par T k bs) (.Compare a [.NotEq] [b] pos) (.not (.eqo (.revt (.revt ma)) mb)) := by
  refine (pt_cmpR (op_neo (b := bs) hK hu hr G) ha hb hm).imp fun σ H Q h => ?_
  obtain ⟨F, ι, S, sl, d, S', kk, rs, e, t, post⟩ := h
  obtain ⟨xs, S1, y, S2, z, e1, e2, e3, rfl⟩ := ev_neo e
  cases t
  refine rs.one e1 fun F1 ι1 v H1 l1 r1 q1 => r1.one e2 fun F2 ι2 w H2 l2 r2 q2 => ?_
  exact ⟨F2, ι2, S2, xs, y, _, _, r2.rh, r2.fr, q1.mono l2, q2, e3, fun F' ι' H' l rh fr => ⟨_, rfl, post F' ι' H' ((l1.trans l2).trans l) rh fr⟩⟩
end
/-! ### != of an instance with an own == -/
section
open PySem.W
variable {prog : Program} {w : World} {A : Around} {E : Value → Shared → Prop} {s : Shared} {K : Frag} {x C L f : Addr} {h₀ : Heap} {m : Str → Option Value} {ox : Obj} {od : Option Obj} {b tb : Value}
theorem ifBound_objNe {M : Model} {args : List Value} {Q : Option Value → Shared → Prop} (X : K.In s.heap) (I : InstAt s.heap x ox C od) (hs : findIn K (.ref C) "__ne__" = some (some (.builtin "object.__ne__")))
    (h : wpAny M A (call (.builtin "object.__ne__") (.ref x :: args)) (fun v => Q (some v)) E s) : wpAny M A (callSpecialIfBound? (.ref x) "__ne__" args) Q E s := by
  simp only [callSpecialIfBound?, bindSpecialIfBound?]
  refine wpAny_holding (wpAny_bind (wpAny_bind (wpAny_bind (I.type.here ((looks_findIn X hs).here ?_)))))
  refine wpAny_bind (wpAny_askSetting (wpAny_ite ?_))
  have fin : wpAny M A (call (.builtin "object.__ne__") ([.ref x] ++ args) >>= fun v => pure (some v)) Q E s := wpAny_bind (wpAny_mono h (fun v s' h' => wpAny_pure h') fun _ _ h' => h')
  split
  · exact wpAny_bind (wpAny_of_eq (F.cmp_object.ne.bind _) (wpAny_pure (by exact fin)))
  · exact wpAny_tryCatch (wpAny_bind (wpAny_of_eq (F.cmp_object.ne.bind _) (wpAny_pure (by exact fin))))
theorem entry_objNe {Q : Fin → Shared → Prop} (hu : A.units < cLine) (X : K.In s.heap) (I : InstAt s.heap x ox C od) (hs : findIn K (.ref C) "__eq__" = some (some (.ref f))) (hf : isFn K (.ref f) = true)
    (h : wpAny (model prog w) A (call (.ref f) [.ref x, b]) (fun v s' => ∃ z, v = .bool z ∧ Q (.done (.ret (.bool (!z)))) s') E s) : wpAny (model prog w) A (Builtin.«object.__ne__» ⟨[.ref x, b], []⟩) Q E s := by
  unfold Builtin.«object.__ne__»
  repeat (first
    | with_reducible refine wpAny_cRoomFor hu ?_
    | (refine wpAny_bind (m := callSpecialIfBound? (.ref x) (Str.ofString "__eq__") [b])
        (ifBound_K X I hs hf (wpAny_mono h (fun r s' hr => by
          obtain ⟨z, rfl, hq⟩ := hr
          repeat (first | exact hq | exact wpAny_pure hq | exact wpAny_truthy_bool hq | (refine wpAny_bind (m := truthy (.bool _)) (wpAny_truthy_bool ?_)) | wp_step)) fun _ _ e => e)))
    | wp_step)
theorem call_objNe {Q : Value → Shared → Prop} (hu : A.units + 1 < cLine) (X : K.In s.heap) (I : InstAt s.heap x ox C od) (hm : mroIn K C (.type "object") = some true) (hs : findIn K (.ref C) "__eq__" = some (some (.ref f))) (hf : isFn K (.ref f) = true)
    (h : wpAny (model prog w) A.in1 (call (.ref f) [.ref x, b]) (fun v s' => ∃ z, v = .bool z ∧ Q (.bool (!z)) s') E s) : wpAny (model prog w) A (call (.builtin "object.__ne__") [.ref x, b]) Q E s :=
  wpAny_call (codeAny_call_builtin F.cmp_object.ne.plain F.cmpEntry_ne (check_slot F.cmpKind_ne F.cmpSplit_ne (I.type.andThen (looks_mroIn X hm)) (F.cmpArgs_ne _ _) (entry_objNe (A := A.in1) hu X I hs hf h)))
theorem cmp_KNe {Q : Value → Shared → Prop} (hu : A.units + 1 < cLine) (FF : PyProof.Rows.Fr h₀ L s.heap m) (X₀ : K.In h₀) (I : InstAt s.heap x ox C od) (hb : Looks (model prog w) s.heap (typeOf b) tb) (hn : notFirst K C tb = true)
    (hne : findIn K (.ref C) "__ne__" = some (some (.builtin "object.__ne__"))) (hm : mroIn K C (.type "object") = some true) (hs : findIn K (.ref C) "__eq__" = some (some (.ref f))) (hf : isFn K (.ref f) = true)
    (h : wpAny (model prog w) A.in1 (call (.ref f) [.ref x, b]) (fun v s' => ∃ z, v = .bool z ∧ Q (.bool (!z)) s') E s) : wpAny (model prog w) A (richCompare .NotEq (.ref x) b) Q E s := by
  have X := X₀.keeps FF.keep
  have one : wpAny (model prog w) A (tryCompare (.ref x) (cmpInfo .NotEq).2.1 b) (fun r s' => ∃ v, r = some v ∧ Q v s') E s := by
    unfold tryCompare
    refine wpAny_bind (ifBound_objNe X I hne (call_objNe hu X I hm hs hf (wpAny_mono h (fun v s' hv => ?_) fun _ _ e => e)))
    obtain ⟨z, rfl, q⟩ := hv
    exact ⟨z, rfl, wpAny_pure ⟨_, rfl, q⟩⟩
  unfold richCompare
  simp only [oneThing_ref]
  refine wpAny_holding (wpAny_bind (wpAny_cRoomFor (by omega) ?_))
  refine wpAny_bind (I.type.here (wpAny_bind (hb.here ?_)))
  split
  · rename_i q
    have e : subIn K tb (.ref C) = some false := by
      rcases Bool.or_eq_true_iff.mp hn with e | e
      · rw [beq_iff_eq.mp e] at q; simp at q
      · exact beq_iff_eq.mp e
    refine wpAny_bind ((looks_subIn X e).here ?_)
    simp only [Bool.false_eq_true, if_false]
    refine wpAny_bind (wpAny_mono one (fun r s' z => ?_) fun _ _ e => e)
    obtain ⟨v, rfl, hq⟩ := z
    exact wpAny_pure hq
  · refine wpAny_bind (wpAny_pure ?_)
    simp only [Bool.false_eq_true, if_false]
    refine wpAny_bind (wpAny_mono one (fun r s' z => ?_) fun _ _ e => e)
    obtain ⟨v, rfl, hq⟩ := z
    exact wpAny_pure hq
end
section
variable {X : Cx} {C : Ct} {pins : List (Addr × Obj)} {σ : L2.St} {H F : Hp} {s : Shared}
theorem rc_ownN {T : Tab} {k f c : Nat} (G : Gm X.prog X.w X.K X.mg X.base T C k f c "__eq__") {A : Around} (room : Room k A.in1) (fr : A.in1.frames = X.A.frames) (hu : A.units + 1 < cLine) (I : Inv X pins σ H s) {a D dx : Addr} {qs : List (PySem.Str × V)} (hc : C.cl c = some D) (ic : InsK X.K D) (ha : H a = some (.ins D dx qs)) {y : V} {v tb : Value} (ry : RelV y v)
    (hty : PySem.W.Looks (model X.prog X.w) s.heap (typeOf v) tb) (hn : PySem.W.notFirst X.K D tb = true) {Q : Bool → Hp → Prop} (h : spE T C k f [.ref a, y] H (fun w H' => ∃ b, w = .bl b ∧ Q b H') E0) :
    wpAny (model X.prog X.w) A (richCompare .NotEq (.ref a) v) (fun r s' => ∃ b H', r = .bool (!b) ∧ Inv X pins σ H' s' ∧ Q b H') X.xe s := by
  obtain ⟨fa, D', fd, ps, F, hc', hcl, hme, hb⟩ := G
  cases hc.symm.trans hc'
  obtain ⟨mA, J, _⟩ := ins_get I.hok ha
  obtain ⟨od, J, _⟩ := J.look
  obtain ⟨m, hF⟩ := I.fr
  refine cmp_KNe (tb := tb) hu hF I.ok.mod.kin J hty hn ic.hne ic.hm hme.at_ hme.fn ?_
  have e0 : Env0 X.prog X.w X.K X.mg X.base A.in1 X.stack s H := by
    have e := I.env0
    exact ⟨by rw [fr]; exact e.frames, e.mod, e.bs, e.bsz, e.funs, e.frf, e.hok, e.bare⟩
  have hl := F.len _ _ _ _ h
  have r2 : Vals [V.ref a, y] [Value.ref a, v] := .cons rfl (.cons ry .nil)
  refine wpAny_call (codeAny_mono (F.run A.in1 X.stack s H ⟨[.ref a, v], []⟩ [.ref a, v] [.ref a, y] _ E0 room e0 (by
    have := hb s [.ref a, v] I.kIn (by simpa using hl)
    simpa using this) r2 h) fun r s' hq => ?_)
  cases r with
  | error e => exact pass0 pins σ H s e s' I hq
  | ok fl =>
    cases fl with
    | ret w =>
      obtain ⟨z, H', I', rz, b, ez, q⟩ := I.after hq
      subst ez
      cases rz
      exact ⟨b, rfl, b, H', rfl, I', q⟩
    | next => exact False.elim hq
    | brk => exact False.elim hq
    | cont => exact False.elim hq
def rNei (C : Ct) (P : Par) (c : Nat) : R2 := fun x y H Q => ∃ F ι S fs dy z S', RH C F ι S H ∧ Fre F ι ∧ RelD C F ι (.b (.ins c fs)) x ∧ RelD C F ι (.b dy) y ∧ eqE P (.ins c fs) dy S = some (z, S') ∧ ∀ F' ι' H', Le F ι F' ι' → RH C F' ι' S' H' → Fre F' ι' → Q (.bl (!z)) H'
theorem op_nei (hK : C.K = X.K) (hu : X.A.units + 66 < cLine) {T : Tab} {k b c : Nat} {D : Addr} (ic : InsK X.K D) (hcD : C.cl c = some D) (hr : Room k X.A) (G : ∀ j, j ≤ k → ∀ c f, T.eqm c = some f → Gm X.prog X.w X.K X.mg X.base T C j f c "__eq__") : OpR X (compareOp .NotEq) (rNei C (par T k b) c) := by
  intro pins s σ H x y v u Q I rx ry h
  obtain ⟨F, ι, S, fs, dy, z, S', rh, fr, r1, r2, e, post⟩ := h
  unfold eqE at e
  split at e
  · rename_i h
    rw [Bool.and_eq_true] at h
    cases h.1
  · split at e
    · rename_i c1 fs1 d gs heq hno
      cases heq
      split at e
      · rename_i hc
        obtain ⟨rfl, h1, h2⟩ := hc
        obtain ⟨f, e1, e⟩ := Option.bind_eq_some_iff.mp e
        obtain ⟨⟨d0, S2⟩, e2, e⟩ := Option.bind_eq_some_iff.mp e
        dsimp only at e
        split at e
        · rename_i z'
          split at e
          · rename_i hz
            obtain ⟨hz, hS⟩ := hz
            cases e
            have hS' : S2 = S := hS
            subst hS'
            obtain ⟨a, D1, dx, qs, rfl, k1, k2, k3, k4⟩ := id r1
            obtain ⟨a', D2, dx', qs', rfl, k1', k2', k3', k4'⟩ := id r2
            cases rx
            cases ry
            cases hcD.symm.trans k1
            cases k with
            | zero => cases e2
            | succ j =>
              refine wpAny_mono (rc_ownN (Q := fun z0 H' => z0 = z ∧ ∃ F' ι', Le F ι F' ι' ∧ RH C F' ι' S2 H' ∧ Fre F' ι') (G j (by omega) _ f e1) (A := X.A) hr.in1 rfl (by omega) I k1 ic (rh.fz _ _ k2) (y := .ref a') rfl (?_ : PySem.W.Looks _ _ _ (.ref D2)) ?_ ?_) (fun q s2 hq => ?_) fun _ _ x => x
              · obtain ⟨mA, J, _⟩ := ins_get I.hok (rh.fz _ _ k2')
                obtain ⟨od, J, _⟩ := J.look
                exact J.type
              · cases k1.symm.trans k1'
                exact nf_own _ _
              · exact sp_call (C := C) (ds := [.b (.ins _ fs), .b (.ins _ gs)]) (vs := [.ref a, .ref a']) rh fr ⟨_, _, rfl, r1, _, _, rfl, r2, rfl⟩ e2 fun F' ι' v' H' l rh' fr' rv => ⟨z, rv, rfl, F', ι', l, rh', fr'⟩
              · obtain ⟨z0, H', rfl, I', rfl, F', ι', l, rh', fr'⟩ := hq
                exact ⟨.bl (!_), H', I', rfl, post F' ι' H' l rh' fr'⟩
          · cases e
        · cases e
      · cases e
    · cases e
end
section
variable {X : Cx} {C : Ct} {pos p : Pos} {a b : Expr} {ma mb : E} {T : Tab} {k bs i f c : Nat}
theorem isc_true {S : Store} {x : D} (e : isc S c x = some true) : ∃ fs, x = .b (.ins c fs) := by
  have key : ∀ y : D, (kn S y).map (fun _ => false) ≠ some true := fun y h => by
    cases hk : kn S y with
    | none => rw [hk] at h; cases h
    | some q => rw [hk] at h; cases h
  cases x with
  | b y =>
    cases y with
    | ins d fs =>
      unfold isc at e
      dsimp only at e
      split at e
      · rename_i h
        subst h
        exact ⟨fs, rfl⟩
      · cases e
    | non => exact (key (.b (.non)) e).elim
    | bl z => exact (key (.b (.bl z)) e).elim
    | int z => exact (key (.b (.int z)) e).elim
    | str z => exact (key (.b (.str z)) e).elim
    | tup z => exact (key (.b (.tup z)) e).elim
    | lst z => exact (key (.b (.lst z)) e).elim
    | scr z => exact (key (.b (.scr z)) e).elim
    | dic z => exact (key (.b (.dic z)) e).elim
  | ref n => exact (key (.ref n) e).elim
  | mix xs => exact (key (.mix xs) e).elim
theorem ev_nei {P : Par} {σ : Sl} {S : Store} {d : D} {S' : Store} (e : ev P (.not (.eqo (.tup [.ite (.isc c (.att (.v i) f)) (.att (.v i) f) .nev]) (.tup [mb]))) σ S = some (d, S')) : ∃ fs y S2 z, ev P (.att (.v i) f) σ S = some (.b (.ins c fs), S) ∧ ev P mb σ S = some (.b y, S2) ∧ eqE P (.ins c fs) y S2 = some (z, S') ∧ d = .b (.bl (!z)) := by
  have pure : ∀ x S1, ev P (.att (.v i) f) σ S = some (x, S1) → S1 = S := fun x S1 h => by
    unfold ev at h
    obtain ⟨⟨x1, T1⟩, h1, h⟩ := Option.bind_eq_some_iff.mp h
    obtain ⟨z, h2, h⟩ := Option.map_eq_some_iff.mp h
    cases h
    unfold ev at h1
    split at h1
    · cases h1; rfl
    · cases h1
  unfold ev at e
  obtain ⟨⟨q, S3⟩, e1, e⟩ := Option.bind_eq_some_iff.mp e
  unfold ev at e1
  obtain ⟨⟨x, S1⟩, e2, e1⟩ := Option.bind_eq_some_iff.mp e1
  obtain ⟨⟨y, S2⟩, e3, e1⟩ := Option.bind_eq_some_iff.mp e1
  obtain ⟨⟨z, S4⟩, e4, e1⟩ := Option.map_eq_some_iff.mp e1
  cases e1
  unfold ev evs evs at e2
  obtain ⟨⟨xs, U1⟩, e5, e2⟩ := Option.bind_eq_some_iff.mp e2
  obtain ⟨⟨x0, U2⟩, e6, e5⟩ := Option.bind_eq_some_iff.mp e5
  unfold ev at e6
  obtain ⟨⟨t, U3⟩, e7, e6⟩ := Option.bind_eq_some_iff.mp e6
  obtain ⟨tt, e8, e6⟩ := Option.bind_eq_some_iff.mp e6
  unfold ev at e7
  obtain ⟨⟨v, U4⟩, e9, e7⟩ := Option.bind_eq_some_iff.mp e7
  obtain ⟨r, e10, e7⟩ := Option.map_eq_some_iff.mp e7
  cases e7
  cases pure _ _ e9
  dsimp only at e8 e10 e6
  cases (show some r = some tt from e8)
  cases tt with
  | false =>
    have e6' : ev P .nev σ S = some (x0, U2) := e6
    cases e6'
  | true =>
    have e6' : ev P (.att (.v i) f) σ S = some (x0, U2) := e6
    obtain ⟨fs, rfl⟩ := isc_true e10
    cases e9.symm.trans e6'
    cases e5
    dsimp only at e2
    rw [if_pos (show ([D.b (.ins c fs)] : List D).length ≤ SZ by simp [SZ])] at e2
    cases e2
    unfold ev evs evs at e3
    obtain ⟨⟨ys, V1⟩, e11, e3⟩ := Option.bind_eq_some_iff.mp e3
    obtain ⟨⟨y0, V2⟩, e12, e11⟩ := Option.bind_eq_some_iff.mp e11
    cases e11
    dsimp only at e3
    rw [if_pos (show ([y0] : List D).length ≤ SZ by simp [SZ])] at e3
    cases e3
    obtain ⟨c0, e13, e14⟩ := Option.map_eq_some_iff.mp e
    cases e13
    cases e14
    cases y0 with
    | ref n => cases e4
    | mix zs => cases e4
    | b yb =>
      have hn : cmp S2 .eq (.b (.tup [.ins c fs])) (.b (.tup [yb])) = none := rfl
      have e15 : eqo P S2 (.b (.tup [.ins c fs])) (.b (.tup [yb])) = some (z, S4) := e4
      unfold eqo at e15
      dsimp only at e15
      rw [hn] at e15
      have e16 : ((eqE P (.ins c fs) yb S2).bind fun r => if r.1 then eqL P [] [] r.2 else some (false, r.2)) = some (z, S4) := e15
      obtain ⟨⟨zr, Sr⟩, e17, e18⟩ := Option.bind_eq_some_iff.mp e16
      dsimp only at e18
      cases zr with
      | true =>
        rw [if_pos rfl] at e18
        cases e18
        exact ⟨fs, yb, S2, _, e9, e12, e17, rfl⟩
      | false =>
        rw [if_neg Bool.false_ne_true] at e18
        cases e18
        exact ⟨fs, yb, S2, _, e9, e12, e17, rfl⟩
theorem me_cnei (hK : C.K = X.K) (hu : X.A.units + 66 < cLine) (hr : Room k X.A) (G : ∀ j, j ≤ k → ∀ c f, T.eqm c = some f → Gm X.prog X.w X.K X.mg X.base T C j f c "__eq__") (c : Nat) {D : Addr} (ic : InsK X.K D) (hc : C.cl c = some D) (ha : ME X C (par T k bs) a (.att (.v i) f)) (hb : ME X C (par T k bs) b mb) (hm : behindInMarks .NotEq b = false := by rfl) : ME X C (par T k bs) (.Compare a [.NotEq] [b] pos) (.not (.eqo (.tup [.ite (.isc c (.att (.v i) f)) (.att (.v i) f) .nev]) (.tup [mb]))) := by
  refine (pe_cmpR (op_nei (b := bs) (c := c) hK hu ic hc hr G) ha hb hm).imp fun σ H Q h => ?_
  obtain ⟨F, ι, S, sl, d, S', rs, e, post⟩ := h
  obtain ⟨fs, y, S2, z, e1, e2, e3, rfl⟩ := ev_nei e
  refine rs.one e1 fun F1 ι1 v H1 l1 r1 q1 => r1.one e2 fun F2 ι2 w H2 l2 r2 q2 => ?_
  exact ⟨F2, ι2, S2, fs, y, _, _, r2.rh, r2.fr, q1.mono l2, q2, e3, fun F' ι' H' l rh fr => ((post.mono (l1.trans l2)).mono l).here rh fr rfl⟩
theorem mt_cnei (hK : C.K = X.K) (hu : X.A.units + 66 < cLine) (hr : Room k X.A) (G : ∀ j, j ≤ k → ∀ c f, T.eqm c = some f → Gm X.prog X.w X.K X.mg X.base T C j f c "__eq__") (c : Nat) {D : Addr} (ic : InsK X.K D) (hc : C.cl c = some D) (ha : ME X C (par T k bs) a (.att (.v i) f)) (hb : ME X C (par T k bs) b mb) (hm : behindInMarks .NotEq b = false := by rfl) : MT X C (par T k bs) (.Compare a [.NotEq] [b] pos) (.not (.eqo (.tup [.ite (.isc c (.att (.v i) f)) (.att (.v i) f) .nev]) (.tup [mb]))) := by
  refine (pt_cmpR (op_nei (b := bs) (c := c) hK hu ic hc hr G) ha hb hm).imp fun σ H Q h => ?_
  obtain ⟨F, ι, S, sl, d, S', kk, rs, e, t, post⟩ := h
  obtain ⟨fs, y, S2, z, e1, e2, e3, rfl⟩ := ev_nei e
  cases t
  refine rs.one e1 fun F1 ι1 v H1 l1 r1 q1 => r1.one e2 fun F2 ι2 w H2 l2 r2 q2 => ?_
  exact ⟨F2, ι2, S2, fs, y, _, _, r2.rh, r2.fr, q1.mono l2, q2, e3, fun F' ι' H' l rh fr => ⟨_, rfl, post F' ι' H' ((l1.trans l2).trans l) rh fr⟩⟩
end
/-! ### sorted() of a tuple of ints -/
section
variable {X : Cx} {C : Ct} {pos p : Pos} {a : Expr} {ma : E} {P : Par}
theorem call_sortedT : CallR X (.builtin "sorted") (fun xs H Q => ∃ (a : Addr) (ns : List Int), xs = [V.ref a] ∧ SqT X.K H a (ns.map V.int) ∧
    ∀ (ys : List Int) (p : Addr), ys.Perm ns → ys.Pairwise (· ≤ ·) → H p = none → Q (.ref p) (upd H p (.lst (ys.map V.int)))) := by
  intro pins s σ H xs us Q I r q
  obtain ⟨a, ns, rfl, hs, q⟩ := q
  obtain ⟨its, rv, hl, hz⟩ := I.tuple hs
  rw [Vals.ref1 r]
  have hS := rv.ints
  have hz2 : its.length ≤ sizeLine := by rw [← rv.length]; exact hz
  obtain ⟨o, ho, hc, n, hd⟩ := hl
  refine Calls.call_function_entry PyProof.Rows.kind_sorted PyProof.Rows.plain_sorted PyProof.Rows.entry_sorted (PyProof.Rows.args_sorted1 _) ?_
  unfold Builtin.«sorted»
  refine wpAny_bind (m := checkCount "sorted" 1 1 _) (wpAny_pure ?_)
  refine wpAny_bind (wpAny_collect_seq a (.inr rfl) ho hc hd (fun h' hk => ?_) (by simpa using hz2))
  have I1 : Inv X pins σ H { s with heap := h', toks := s.toks } := I.kept hk
  rw [show its.toArray.toList = its by simp]
  refine wpAny_bind (wpAny_newList ?_ hz2)
  have hoL : (h'.push (seqObj "list" its.toArray 0)).get? h'.objs.size = some (seqObj "list" its.toArray 0) := Heap.get?_push_size _ rfl
  show wpAny _ _ _ _ _ { s with heap := h'.push (seqObj "list" its.toArray 0), toks := s.toks }
  refine wpAny_bind (wpAny_holding (wpAny_call_entry PyProof.Rows.slot_list_sort ⟨_, hoL, rfl⟩ PyProof.Rows.entry_list_sort
    (SrtO.list_sort_ord (s := { s with heap := h'.push (seqObj "list" its.toArray 0), toks := s.toks }) SrtO.swo_int hoL hz2 (fun h2 => SrtO.ints_sortable hS h2) fun out h1 h2 => ⟨_, rfl, ?_⟩) (PyProof.Rows.args_list_sort _)))
  obtain ⟨k1, k2, k3⟩ := SrtO.ints_out hS h1 h2
  obtain ⟨e', he'⟩ := PyProof.Rows.sortedHeap_at (vs := its) (out := out.toArray) hoL
  have hlen : ((out.map SrtO.iv).map V.int).length ≤ sizeLine := by
    rw [List.length_map, k2.length_eq]
    rw [List.length_map] at hz
    exact hz
  refine wpAny_pure ⟨_, rfl, .ref h'.objs.size, upd H h'.objs.size (.lst ((out.map SrtO.iv).map V.int)), I1.laid (t' := s.toks) (fun b u e => ?_) (Nat.le_refl _)
    (show ObjOk X.prog X.w _ _ _ (.lst ((out.map SrtO.iv).map V.int)) from ⟨hlen, out, e', vals_of_ints k1, he'⟩), rfl, q _ _ k2 k3 (I1.hok.fresh (Nat.le_refl _))⟩
  have hb : b < h'.objs.size := Heap.lt_size e
  rw [PyProof.Rows.sortedHeap_old (Nat.ne_of_lt hb) (by rw [size_push']; exact Nat.lt_succ_of_lt hb)]
  exact Heap.get?_push_of_some _ e
theorem ev_sortT {σ : Sl} {S : Store} {d : D} {S' : Store} (e : ev P (.bi .sorted false [.bi .list false [.revt (.revt ma)]]) σ S = some (d, S')) : ∃ xs ns, ev P ma σ S = some (.b (.tup xs), S') ∧ intsB xs = some ns ∧ newL S' false ((sortI ns).map .int) = some (d, S') := by
  unfold ev evs evs at e
  obtain ⟨⟨ds, S1⟩, e1, e⟩ := Option.bind_eq_some_iff.mp e
  obtain ⟨⟨x, S2⟩, e2, e1⟩ := Option.bind_eq_some_iff.mp e1
  cases e1
  unfold ev evs evs at e2
  obtain ⟨⟨ds2, S3⟩, e3, e2⟩ := Option.bind_eq_some_iff.mp e2
  obtain ⟨⟨x1, S4⟩, e4, e3⟩ := Option.bind_eq_some_iff.mp e3
  cases e3
  unfold ev at e4
  obtain ⟨⟨x2, S5⟩, e5, e4⟩ := Option.bind_eq_some_iff.mp e4
  unfold ev at e5
  obtain ⟨⟨x3, S6⟩, e6, e5⟩ := Option.bind_eq_some_iff.mp e5
  dsimp only at e5
  split at e5
  · rename_i xs
    cases e5
    dsimp only at e4
    cases e4
    rw [List.reverse_reverse] at e2
    have e7 : newL S4 false xs = some (x, S2) := e2
    unfold newL at e7
    split at e7
    · cases e7
      have e8 : ((intsB xs).bind fun ns => newL S2 false ((sortI ns).map .int)) = some (d, S') := e
      obtain ⟨ns, e9, e10⟩ := Option.bind_eq_some_iff.mp e8
      have e11 := e10
      unfold newL at e11
      split at e11
      · cases e11
        exact ⟨xs, ns, e6, e9, e10⟩
      · cases e11
    · cases e7
  · cases e5
theorem me_sortedT (hK : C.K = X.K) (fr : Fr X.mg) (ha : ME X C P a ma) (hg : Gl X "sorted" := by rfl) (hs : starEach [a] X.env = (false, eval a X.env) :: starEach [] X.env := by rfl) : ME X C P (.Call (.Name "sorted" p) [a] [] pos) (.bi .sorted false [.bi .list false [.revt (.revt ma)]]) := by
  refine (pe_gh (pe_callB call_sortedT hg fr.sorted boot_sorted (ma_cons ha ma_nil hs) (by decide) (by decide) hs rfl)).imp fun σ H Q h => ?_
  obtain ⟨F, ι, S, sl, d, S', rs, e, post⟩ := h
  obtain ⟨xs, ns, e1, e2, e3⟩ := ev_sortT e
  have e4 : evs P [ma] sl S = some ([.b (.tup xs)], S') := by
    unfold evs evs
    rw [e1]
    rfl
  refine rs.args e4 fun F1 ι1 vs H1 l1 r1 q1 => ?_
  obtain ⟨v, rfl, rx⟩ := q1.one
  obtain ⟨a, vs, rfl, h1, h2⟩ := id rx
  cases h2.ints e2
  refine ⟨a, ns, rfl, hK ▸ sqT_mono r1.rh.fz h1, fun ys p hp hs hn => ?_⟩
  rw [sortI_eq hp hs]
  exact newL_gh e3 r1.rh r1.fr (post.mono l1) RelBs.of_ints p hn
end
end M
namespace M
open PySem PySem.Spec PyProof.Rows L2 HT
section
variable {prog : Program} {w : World} {A : Around} {E : Value → Shared → Prop} {s : Shared}
theorem sliceApplied_one {sl : Addr} {t : Tok} {n : Nat} {Q : Int × Int × Nat → Shared → Prop} (hs : s.heap.IsSliceOf sl .none .none (.int 1 t)) (h : Q (0, 1, n) s) : wpAny (model prog w) A (Builtin.Slice.sliceApplied (.ref sl) (pure (n : Int))) Q E s := by
  obtain ⟨os, hos, hcs, hds⟩ := id hs
  unfold Builtin.Slice.sliceApplied Builtin.Slice.sliceFields
  refine wpAny_bind (wpAny_bind (wpAny_field hos hds (x := .none) rfl (wpAny_bind (wpAny_field hos hds (x := .none) rfl (wpAny_bind (wpAny_field hos hds (x := .int 1 t) rfl (wpAny_pure ?_)))))))
  refine wpAny_bind (slicePart_int ?_)
  show wpAny _ _ (if ((1 : Int) == 0) = true then _ else _) _ _ s
  rw [if_neg (by decide)]
  refine wpAny_bind (slicePart_none (wpAny_bind (slicePart_none (wpAny_bind (wpAny_pure ?_)))))
  show wpAny _ _ (pure ((0 : Int), (1 : Int), Builtin.Slice.slicePlaces 0 (n : Int) 1)) _ _ s
  have e : Builtin.Slice.slicePlaces 0 (n : Int) 1 = n := by
    unfold Builtin.Slice.slicePlaces
    simp
    omega
  rw [e]
  exact wpAny_pure h
theorem getItem_tuple_one {t sl : Addr} {items : Array Value} {u : Tok} {Q : Value → Shared → Prop} (ht : IsTup s.heap t items) (hs : s.heap.IsSliceOf sl .none .none (.int 1 u)) (h : Q (.ref t) s) : wpAny (model prog w) A (getItem (.ref t) (.ref sl)) Q E s := by
  obtain ⟨os, hos, hcs, hds⟩ := id hs
  have hTs : s.TypeIs (.ref sl) "slice" := ⟨os, hos, hcs⟩
  unfold getItem
  try with_reducible refine wpAny_holding ?_
  first | refine wpAny_bind (wpAny_pure ?_) | skip
  refine wpAny_bind (wpAny_sequenceKey ht.typeIs (by decide) ?_)
  refine wpAny_bind (wpAny_callSpecial?_slot (name := Str.ofString "__getitem__") ht.typeIs PyProof.Rows.slot_tuple_getitem
    (wpAny_call_entry PyProof.Rows.slot_tuple_getitem ht.typeIs entry_tuple_getitem ?_ (args_tuple_getitem _ _)))
  show wpAny _ _ (Builtin.Tuple.tupleItemsOf (.ref t) >>= _) _ _ s
  refine wpAny_bind (tupleItemsOf_ ht ?_)
  refine wpAny_bind (wpAny_typeOf hTs ?_)
  rw [if_pos (by decide)]
  refine wpAny_bind (sliceApplied_one (n := items.size) hs ?_)
  have hyes : ((0 : Int) == 0 && (1 : Int) == 1 && items.size == items.size) = true := by simp
  show wpAny _ _ (if ((0 : Int) == 0 && (1 : Int) == 1 && items.size == items.size) = true then _ else _) _ _ s
  rw [if_pos hyes]
  refine wpAny_bind ?_
  show wpAny _ _ (typeOf (.ref t) >>= fun T => pure (T == .type "tuple")) _ _ s
  refine wpAny_bind (wpAny_typeOf ht.typeIs (wpAny_pure ?_))
  first
    | rw [if_pos (by decide)]
    | simp only [beq_self_eq_true, if_true]
  first
    | exact wpAny_bind (wpAny_rule (wpAny_pure ⟨_, rfl, wpAny_pure h⟩))
    | exact wpAny_bind (wpAny_rule (wpAny_bind (wpAny_pure (wpAny_pure ⟨_, rfl, wpAny_pure h⟩))))
end
section
variable {X : Cx}
/-- t[::s], s = 1 or -1 -/
def qStpT (K : PySem.W.Frag) (x : V) (Q : VK) (o : Option Int) (H2 : Hp) : Prop := ∃ a xs, x = .ref a ∧ SqT K H2 a xs ∧ ((o = some 1 ∧ Q (.ref a) H2) ∨ (o = some (-1) ∧ ∀ p, H2 p = none → Q (.ref p) (upd H2 p (.tup xs.reverse))))
def tStpT (K : PySem.W.Frag) (te ts : TE) : TE := fun σ H Q => te σ H fun x H1 => ts σ H1 fun y H2 => ∃ i, y = .int i ∧ qStpT K x Q (some i) H2
theorem pe_stpT {e st : Expr} {te ts : TE} {p3 pos : Pos} (he : PE X e te) (hs : PE X st ts) : PE X (.Subscript e (.Slice none none (some st) p3) pos) (tStpT X.K te ts) := by
  refine ⟨fun pins s σ H Q I h => ?_⟩
  refine Subscript_ (thn (he.run pins s σ H _ I h) fun v s1 ⟨x, H1, I1, r1, q0⟩ => ?_)
  have hst : PO X (some st) (tPart ts) := po_some hs
  refine wpAny_Slice (thn (po_none.run pins s1 σ H1 (fun o H2 => o = none ∧ H2 = H1) I1 ⟨rfl, rfl⟩) fun vl s2 ⟨l, H2, I2, pl, el, e2⟩ => ?_)
  subst el
  subst e2
  refine thn (po_none.run pins s2 σ H2 (fun o H3 => o = none ∧ H3 = H2) I2 ⟨rfl, rfl⟩) fun vu s3 ⟨u, H3, I3, pu, eu, e3⟩ => ?_
  subst eu
  subst e3
  refine thn (hst.run pins s3 σ H3 (fun o H4 => qStpT X.K x Q o H4) I3 q0) fun vs s4 ⟨o, H4, I4, ps, a, xs, ex, hx, q⟩ => ?_
  subst ex
  cases r1
  cases pl
  cases pu
  rcases q with ⟨eo, q⟩ | ⟨eo, q⟩
  · subst eo
    obtain ⟨t, rfl⟩ : ∃ t, vs = .int 1 t := by cases ps with | int _ t => exact ⟨t, rfl⟩
    have I5 : Inv X pins σ H4 { s4 with heap := s4.heap.push { cls := .type "slice", data := .fields #[.none, .none, .int 1 t] } } := I4.kept (t' := s4.toks) fun b ob q => Heap.get?_push_of_some _ q
    obtain ⟨its, r, hT, hz⟩ := I5.tuple hx
    show wpAny (model X.prog X.w) X.A (subscriptTail e (.Slice none none (some st) p3) (.ref a) (.ref s4.heap.objs.size)) (EP X pins σ Q) X.xe { s4 with heap := s4.heap.push { cls := .type "slice", data := .fields #[.none, .none, .int 1 t] } }
    refine tail_any (ops := [.ref a, .ref s4.heap.objs.size]) hT.typeIs (PyProof.Rows.slot_tuple_getitem.lookup) ?_ (by with_unfolding_all rfl)
    refine getItem_tuple_one hT (Heap.IsSliceOf.new _ _ _ _) ?_
    exact ⟨.ref a, _, I5, rfl, q⟩
  · subst eo
    obtain ⟨t, rfl⟩ : ∃ t, vs = .int (-1) t := by cases ps with | int _ t => exact ⟨t, rfl⟩
    have I5 : Inv X pins σ H4 { s4 with heap := s4.heap.push { cls := .type "slice", data := .fields #[.none, .none, .int (-1) t] } } := I4.kept (t' := s4.toks) fun b ob q => Heap.get?_push_of_some _ q
    obtain ⟨its, r, hT, hz⟩ := I5.tuple hx
    have hlen := r.length
    show wpAny (model X.prog X.w) X.A (subscriptTail e (.Slice none none (some st) p3) (.ref a) (.ref s4.heap.objs.size)) (EP X pins σ Q) X.xe { s4 with heap := s4.heap.push { cls := .type "slice", data := .fields #[.none, .none, .int (-1) t] } }
    refine tail_any (ops := [.ref a, .ref s4.heap.objs.size]) hT.typeIs (PyProof.Rows.slot_tuple_getitem.lookup) ?_ (by with_unfolding_all rfl)
    refine getItem_tuple_rev hT (Heap.IsSliceOf.new _ _ _ _) ?_ (by rw [List.size_toArray]; omega)
    refine ⟨.ref _, _, I5.laid (t' := s4.toks) (o := .tup xs.reverse) (fun b ob q => Heap.get?_push_of_some _ q) (Nat.le_refl _) ?_, rfl, q _ (I5.hok.fresh (Nat.le_refl _))⟩
    exact ⟨by rw [List.length_reverse]; exact hz, _, r.reverse, ⟨_, Heap.get?_push_size _ rfl, rfl, 0, rfl⟩⟩
end
/-- an expression that changes nothing -/
def Pu (P : Par) (e : E) : Prop := ∀ σ S d S', ev P e σ S = some (d, S') → S' = S
theorem pu_k {P : Par} {x : B} : Pu P (.k x) := fun σ S d S' h => by
  unfold ev at h
  cases h
  rfl
theorem pu_v {P : Par} {i : Nat} : Pu P (.v i) := fun σ S d S' h => by
  unfold ev at h
  split at h
  · cases h
    rfl
  · cases h
theorem pu_bin {P : Par} {o : Op} {a b : E} (ha : Pu P a) (hb : Pu P b) : Pu P (.bin o a b) := fun σ S d S' h => by
  unfold ev at h
  obtain ⟨⟨x, S1⟩, e1, h⟩ := Option.bind_eq_some_iff.mp h
  obtain ⟨⟨y, S2⟩, e2, h⟩ := Option.bind_eq_some_iff.mp h
  obtain ⟨z, e3, h⟩ := Option.map_eq_some_iff.mp h
  cases h
  exact (hb _ _ _ _ e2).trans (ha _ _ _ _ e1)
theorem pu_int {P : Par} {m : Bool} {a : E} (ha : Pu P a) : Pu P (.bi .int m [a]) := fun σ S d S' h => by
  unfold ev at h
  obtain ⟨⟨xs, S1⟩, e1, h1⟩ := Option.bind_eq_some_iff.mp h
  unfold evs at e1
  obtain ⟨⟨x, S2⟩, e2, e3⟩ := Option.bind_eq_some_iff.mp e1
  obtain ⟨⟨ys, S3⟩, e4, e5⟩ := Option.map_eq_some_iff.mp e3
  unfold evs at e4
  cases e4
  cases e5
  have q := ha _ _ _ _ e2
  subst q
  unfold bi at h1
  dsimp only at h1
  split at h1
  all_goals first
    | (injection h1 with h1; injection h1 with _ h1; exact h1.symm)
    | (cases h1; done)
    | simp_all
theorem add0 {S : Store} {d e : D} (h : bin S .add d (.b (.int 0)) = some e) : ∃ i, d = .b (.int i) ∧ e = .b (.int i) := by
  unfold bin at h
  split at h
  · rename_i i j hj
    cases hj
    obtain ⟨z, e1, rfl⟩ := Option.map_eq_some_iff.mp h
    cases e1
    exact ⟨i, rfl, by rw [Int.add_zero]⟩
  · rename_i hj
    cases hj
  · cases h
  · obtain ⟨xs, _, h⟩ := Option.bind_eq_some_iff.mp h
    obtain ⟨ys, h2, _⟩ := Option.bind_eq_some_iff.mp h
    cases h2
section
variable {X : Cx} {C : Ct} {P : Par} {pos : Pos} {a st : Expr} {ms : E} {i : Nat}
/-- t[::s] -/
def stpE (i : Nat) (ms : E) : E := .ite (.cmp .eq (.bin .add ms (.k (.int 0))) (.k (.int 1))) (.revt (.revt (.v i))) (.ite (.cmp .eq (.bin .add ms (.k (.int 0))) (.k (.int (-1)))) (.revt (.v i)) .nev)
theorem ev_is {P : Par} {σ : Sl} {S S' : Store} {d : D} {j : Int} (h : ev P (.cmp .eq (.bin .add ms (.k (.int 0))) (.k (.int j))) σ S = some (d, S')) : ∃ y, ev P ms σ S = some (.b (.int y), S') ∧ d = .b (.bl (decide (y = j))) := by
  unfold ev at h
  obtain ⟨⟨x, S1⟩, e1, h⟩ := Option.bind_eq_some_iff.mp h
  obtain ⟨⟨y, S2⟩, e2, h⟩ := Option.bind_eq_some_iff.mp h
  obtain ⟨z, e3, h⟩ := Option.map_eq_some_iff.mp h
  cases h
  unfold ev at e2
  cases e2
  unfold ev at e1
  obtain ⟨⟨x1, T1⟩, e4, e1⟩ := Option.bind_eq_some_iff.mp e1
  obtain ⟨⟨y1, T2⟩, e5, e1⟩ := Option.bind_eq_some_iff.mp e1
  obtain ⟨z1, e6, e1⟩ := Option.map_eq_some_iff.mp e1
  cases e1
  unfold ev at e5
  cases e5
  obtain ⟨y, rfl, rfl⟩ := add0 e6
  refine ⟨y, e4, ?_⟩
  have : cmp T1 .eq (.b (.int y)) (.b (.int j)) = some (decide (y = j)) := rfl
  rw [this] at e3
  cases e3
  rfl
theorem ev_rv {P : Par} {e : E} {σ : Sl} {S S' : Store} {d : D} (h : ev P (.revt e) σ S = some (d, S')) : ∃ xs, ev P e σ S = some (.b (.tup xs), S') ∧ d = .b (.tup xs.reverse) := by
  unfold ev at h
  obtain ⟨⟨x1, T1⟩, e5, h'⟩ := Option.bind_eq_some_iff.mp h
  try dsimp only at h'
  split at h'
  · cases h'
    exact ⟨_, e5, rfl⟩
  · cases h'
theorem ev_stpT {P : Par} {σ : Sl} {S S' : Store} {d : D} (hp : Pu P ms) (h : ev P (stpE i ms) σ S = some (d, S')) : ∃ xs y, ev P (.v i) σ S = some (.b (.tup xs), S) ∧ ev P ms σ S = some (.b (.int y), S) ∧ S' = S ∧ ((y = 1 ∧ d = .b (.tup xs)) ∨ (y = -1 ∧ d = .b (.tup xs.reverse))) := by
  unfold stpE at h
  unfold ev at h
  obtain ⟨⟨x, S1⟩, e1, h1⟩ := Option.bind_eq_some_iff.mp h
  obtain ⟨c, e2, h2⟩ := Option.bind_eq_some_iff.mp h1
  clear h h1
  obtain ⟨y, e3, rfl⟩ := ev_is e1
  have q := hp _ _ _ _ e3
  subst q
  cases e2
  try dsimp only at h2
  by_cases c1 : y = 1
  · rw [if_pos (decide_eq_true c1)] at h2
    obtain ⟨xs, e5, rfl⟩ := ev_rv h2
    obtain ⟨ys, e6, e7⟩ := ev_rv e5
    cases e7
    have q := pu_v _ _ _ _ e6
    subst q
    exact ⟨ys, y, e6, e3, rfl, .inl ⟨c1, by rw [List.reverse_reverse]⟩⟩
  · rw [if_neg (by simpa using c1)] at h2
    unfold ev at h2
    obtain ⟨⟨x, S3⟩, f1, h3⟩ := Option.bind_eq_some_iff.mp h2
    obtain ⟨c, f2, h4⟩ := Option.bind_eq_some_iff.mp h3
    clear h2 h3
    obtain ⟨y', f3, rfl⟩ := ev_is f1
    have q := hp _ _ _ _ f3
    subst q
    rw [e3] at f3
    cases f3
    cases f2
    try dsimp only at h4
    by_cases c2 : y = -1
    · rw [if_pos (decide_eq_true c2)] at h4
      obtain ⟨ys, e6, rfl⟩ := ev_rv h4
      have q := pu_v _ _ _ _ e6
      subst q
      exact ⟨ys, y, e6, e3, rfl, .inr ⟨c2, rfl⟩⟩
    · rw [if_neg (by simpa using c2)] at h4
      unfold ev at h4
      cases h4
theorem me_stpT {p3 : Pos} (hK : C.K = X.K) (ha : ME X C P a (.v i)) (hs : ME X C P st ms) (hp : Pu P ms) : ME X C P (.Subscript a (.Slice none none (some st) p3) pos) (stpE i ms) := by
  refine (pe_stpT ha hs).imp fun σ H Q h => ?_
  obtain ⟨F, ι, S, sl, d, S', rs, e, post⟩ := h
  obtain ⟨xs, y, e1, e2, rfl, hd⟩ := ev_stpT hp e
  refine rs.one e1 fun F1 ι1 v H1 l1 r1 q1 => r1.one e2 fun F2 ι2 w H2 l2 r2 q2 => ?_
  have p2 := post.mono (l1.trans l2)
  have q3 := q1.mono l2
  have hw : w = .int y := q2
  subst hw
  have q4 := q3
  obtain ⟨a, vs, rfl, h1, h2⟩ := q3
  refine ⟨y, rfl, a, vs, rfl, hK ▸ sqT_mono r2.rh.fz h1, ?_⟩
  rcases hd with ⟨rfl, rfl⟩ | ⟨rfl, rfl⟩
  · exact .inl ⟨rfl, p2.here r2.rh r2.fr q4⟩
  · exact .inr ⟨rfl, fun p hp => p2.new r2.rh r2.fr hp ⟨p, _, rfl, .inl (.inl upd_same), RelBs.mono (r2.rh.newF r2.fr (u := .tup vs.reverse) hp).2.2.1 _ _ h2.reverse⟩⟩
end
section
variable {prog : Program} {w : World} {A : Around} {E : Value → Shared → Prop} {s : Shared}
theorem bounds_tail {a n : Nat} (ha : a ≤ n) : sliceBounds (some (a : Int)) none none n = ((a : Int), (n : Int), 1) := by
  simp only [sliceBounds, Option.getD_none]
  have h1 : ¬ ((a : Int) < 0) := by omega
  simp only [h1, if_false, show (1 : Int) > 0 by decide, if_true]
  congr 1
  omega
theorem setItem_tail {l b sl : Addr} {items new : Array Value} {n n2 : Nat} {vl : Value} {a : Nat} {Q : Unit → Shared → Prop}
    (e : s.heap.get? l = some { cls := .type "list", data := .seq items n }) (e2 : s.heap.get? b = some { cls := .type "list", data := .seq new n2 }) (hne : l ≠ b)
    (hs : s.heap.IsSliceOf sl vl .none .none) (pl : IsPart vl (some (a : Int))) (hc : a ≤ items.size)
    (hsz : items.size + new.size ≤ sizeLine) (h : Q () { s with heap := s.heap.update l (Obj.mapSeq fun xs => xs.extract 0 a ++ new ++ xs.extract items.size xs.size) }) :
    wpAny (model prog w) A (setItem (.ref l) (.ref sl) (.ref b)) Q E s := by
  have hl : s.heap.IsList l items := PySem.IsL.isList e
  have hb : s.heap.IsList b new := PySem.IsL.isList e2
  obtain ⟨os, hos, hcs, hds⟩ := id hs
  have hTs : s.TypeIs (.ref sl) "slice" := ⟨os, hos, hcs⟩
  have hstep : ¬ ((rawPart none == rawInt 0) = true) := Bool.false_ne_true
  have hsame : Builtin.List.listSameRef (.ref l) (.ref b) = false := by
    unfold Builtin.List.listSameRef
    exact beq_eq_false_iff_ne.mpr hne
  have hmax : (max (a : Int) (items.size : Int)).toNat = items.size := by omega
  have hz' : ((fun xs : Array Value => xs.extract 0 a ++ new ++ xs.extract items.size xs.size) items).size ≤ sizeLine + 1 := by
    simp only [Array.size_append, Array.size_extract]
    omega
  unfold setItem
  try with_reducible refine wpAny_holding ?_
  first | refine wpAny_bind (wpAny_pure ?_) | skip
  refine wpAny_bind (wpAny_sequenceKey hl.typeIs (by decide) ?_)
  refine wpAny_bind (wpAny_callSpecial?_slot (name := Str.ofString "__setitem__") hl.typeIs slot_list_setitem
    (wpAny_call_entry slot_list_setitem hl.typeIs entry_list_setitem ?_ (args_list_setitem _ _ _)))
  show wpAny _ _ (Builtin.List.listSubscript? (.ref sl) >>= _) _ _ s
  refine wpAny_bind ?_
  unfold Builtin.List.listSubscript?
  refine wpAny_bind (wpAny_specialOf hTs slice_no_index ?_)
  simp only [Option.isNone_none, if_true]
  refine wpAny_pure ?_
  show wpAny _ _ (typeOf (.ref sl) >>= _) _ _ s
  refine wpAny_bind (wpAny_typeOf hTs ?_)
  first
    | rw [if_neg (by decide)]
    | refine PySem.W.KFB.if_not (by decide) ?_
  rw [listSliceParts_eq]
  refine wpAny_bind (wpAny_bind (wpAny_field hos hds (x := .none) rfl (wpAny_bind (wpAny_listPart .none ?_))))
  rw [if_neg hstep]
  refine wpAny_bind (wpAny_field hos hds (x := vl) rfl (wpAny_bind (wpAny_listPart pl ?_)))
  refine wpAny_bind (wpAny_field hos hds (x := .none) rfl (wpAny_bind (wpAny_listPart .none (wpAny_pure ?_))))
  first
    | simp only [hsame, Bool.false_eq_true, if_false]
    | refine PySem.W.KFB.if_not hsame ?_
    | (dsimp only
       rw [if_neg (by rw [hsame]; exact Bool.false_ne_true)])
  refine wpAny_bind (m := Builtin.List.listAllItems (.ref b) "must assign iterable to extended slice") ?_
  unfold Builtin.List.listAllItems
  refine wpAny_bind (wpAny_typeOf hb.typeIs ?_)
  first
    | refine PySem.W.KFB.if_so (by decide) ?_
    | rw [if_pos (by decide)]
    | simp only [beq_self_eq_true, Bool.true_or, if_true]
  unfold Builtin.List.listItems
  refine wpAny_bind (wpAny_seqItems e2 rfl (wpAny_pure ?_))
  refine wpAny_bind (wpAny_bind (wpAny_seqItems e rfl (wpAny_pure ?_)))
  refine wpAny_bind (wpAny_of_eq ((sliceIndices_raw (some (a : Int)) none none items.size (by simp)).trans (congrArg (pure : Int × Int × Int → Sem (Int × Int × Int)) (bounds_tail hc))) ?_)
  show wpAny _ _ (if ((1 : Int) == 1) = true then _ else _) _ _ s
  rw [if_pos (by decide)]
  refine wpAny_bind (wpAny_rule ?_)
  first
    | simp only [notLongL hsz, Bool.false_eq_true, if_false]
    | refine PySem.W.KFB.if_not (notLongL hsz) ?_
  first | refine wpAny_bind (wpAny_pure ?_) | skip
  show wpAny _ _ (updateSeq l (fun xs => xs.extract 0 ((a : Int)).toNat ++ new ++ xs.extract (max (a : Int) (items.size : Int)).toNat xs.size) >>= _) _ _ s
  rw [hmax, Int.toNat_natCast]
  refine wpAny_bind (wpAny_updateSeq (hz := Nat.le_trans (Nat.le_add_right _ _) hsz) (_hz' := hz') e rfl ?_)
  refine wpAny_bind (wpAny_letGo ?_)
  first
    | exact wpAny_bind (wpAny_pure (wpAny_pure ⟨.none, rfl, wpAny_pure h⟩))
    | exact wpAny_pure ⟨.none, rfl, wpAny_pure h⟩
    | exact wpAny_bind (wpAny_pure ⟨.none, rfl, wpAny_pure h⟩)
end
section
variable {X : Cx}
def qTail (x v : V) (Q : Hp → Prop) (o : Option Int) (H : Hp) : Prop := ∃ l b xs ys i, x = .ref l ∧ v = .ref b ∧ o = some i ∧ H l = some (.lst xs) ∧ H b = some (.lst ys) ∧ l ≠ b ∧ 0 ≤ i ∧ i ≤ (xs.length : Int) ∧ xs.length + ys.length ≤ sizeLine ∧ Q (upd H l (.lst (xs.take i.toNat ++ ys)))
def gTail (to tl : TE) : TG := fun v σ H Q => to σ H fun x H1 => tl σ H1 fun y H2 => ∃ i, y = .int i ∧ qTail x v (fun H => Q σ H) (some i) H2
theorem pg_tail {o lo : Expr} {to tl : TE} {sp pos : Pos} (ho : PE X o to) (hl : PE X lo tl)
    (ha : ∀ v, assign (.Subscript o (.Slice (some lo) none none sp) pos) X.env v = (do
      let ov ← holding [v] (eval o X.env)
      let iv ← holding [v, ov] (eval (.Slice (some lo) none none sp) X.env)
      standAt pos
      holding [v, ov, iv] (setItem ov iv v)
      release [iv, v, ov] []) := by intro _; rfl) : PG X (.Subscript o (.Slice (some lo) none none sp) pos) (gTail to tl) := by
  refine ⟨fun pins s σ H v u Q I r h => ?_⟩
  rw [ha]
  refine wpAny_bind (wpAny_holding (thn (ho.run pins s σ H _ I h) fun ov s1 ⟨x, H1, I1, r1, q1⟩ => ?_))
  refine wpAny_bind (wpAny_holding (wpAny_Slice (thn ((po_some hl).run pins s1 σ H1 (fun o H2 => qTail x v (fun H => Q σ H) o H2) I1 q1) fun vl s2 ⟨lw, H2, I2, pl, q2⟩ => ?_)))
  refine thn (po_none.run pins s2 σ H2 (fun o H3 => o = none ∧ H3 = H2) I2 ⟨rfl, rfl⟩) fun vu s3 ⟨uu, H3, I3, pu, eu, e3⟩ => ?_
  subst eu
  subst e3
  refine thn (po_none.run pins s3 σ H3 (fun o H4 => o = none ∧ H4 = H3) I3 ⟨rfl, rfl⟩) fun vs s4 ⟨oo, H4, I4, ps, eo, e4⟩ => ?_
  subst eo
  subst e4
  cases pu
  cases ps
  obtain ⟨l, b, xs, ys, i, rfl, rfl, rfl, hH, hB, hne, h0, hi, hz, q⟩ := q2
  cases r1
  cases r
  have I5 : Inv X pins σ H4 { s4 with heap := s4.heap.push { cls := .type "slice", data := .fields #[vl, .none, .none] } } := I4.kept (t' := s4.toks) fun b ob q => Heap.get?_push_of_some _ q
  obtain ⟨a', rfl⟩ := Int.eq_ofNat_of_zero_le h0
  obtain ⟨z, its, n, rr, hl1, e⟩ := I5.lstM hH
  obtain ⟨z2, its2, n2, rr2, hl2, e2⟩ := I5.lstM hB
  refine wpAny_bind (wpAny_standAt (wpAny_bind (wpAny_holding ?_)))
  refine setItem_tail (a := a') e e2 hne (Heap.IsSliceOf.new _ _ _ _) pl (by rw [List.size_toArray]; omega) (by rw [List.size_toArray, List.size_toArray]; omega) ?_
  refine wpAny_release ⟨σ, _, I5.lset (its' := its.take a' ++ its2) (t' := s4.toks) hH e ?_ (Vals.append (rr.take _) rr2) ?_, q⟩
  · have := splice_eq its its2 a' its.toArray.size
    rw [List.drop_eq_nil_of_le (by rw [List.size_toArray]; exact Nat.le_refl _), List.append_nil] at this
    exact this
  · rw [List.length_append, List.length_take]
    omega
end
section
variable {X : Cx} {C : Ct} {P : Par} {o lo e : Expr} {me' : E} {i : Nat} {j : Int} {sp tpos pos : Pos}
theorem mt_tail_inv {S : Store} {x y : D} {j : Int} {d : D} {S' : Store} (h : mt S .tail x [.b (.int j), y] = some (d, S')) : ∃ n xs ys, x = .ref n ∧ y = .b (.lst ys) ∧ S[n]? = some (.lst xs) ∧ 0 ≤ j ∧ j ≤ (xs.length : Int) ∧ xs.length + ys.length ≤ SZ ∧ S' = S.set n (.lst (xs.take j.toNat ++ ys)) := by
  cases x with
  | b x => cases h
  | mix xs => cases h
  | ref n =>
    cases y with
    | mix ys => cases h
    | ref m => cases h
    | b y =>
      cases y with
      | lst ys =>
        have e : mt S .tail (.ref n) [.b (.int j), .b (.lst ys)] = (match S[n]? with
          | some (.lst xs) => if 0 ≤ j ∧ j ≤ (xs.length : Int) ∧ xs.length + ys.length ≤ SZ then some (.b .non, S.set n (.lst (xs.take j.toNat ++ ys))) else none
          | _ => none) := rfl
        rw [e] at h
        split at h
        · rename_i xs hx
          split at h
          · rename_i hc
            cases h
            exact ⟨n, xs, ys, rfl, rfl, hx, hc.1, hc.2.1, hc.2.2, rfl⟩
          · cases h
        · cases h
      | _ => cases h
theorem ev_tail {σ : Sl} {S : Store} {d : D} {S' : Store} (h : ev P (.mt .tail (.v i) [.k (.int j), me']) σ S = some (d, S')) : ∃ n xs ys S1, ev P me' σ S = some (.b (.lst ys), S1) ∧ ev P (.v i) σ S1 = some (.ref n, S1) ∧ S1[n]? = some (.lst xs) ∧ 0 ≤ j ∧ j ≤ (xs.length : Int) ∧ xs.length + ys.length ≤ SZ ∧ S' = S1.set n (.lst (xs.take j.toNat ++ ys)) := by
  unfold ev at h
  obtain ⟨⟨x, S0⟩, e1, h1⟩ := Option.bind_eq_some_iff.mp h
  obtain ⟨⟨es, S1⟩, e2, h2⟩ := Option.bind_eq_some_iff.mp h1
  clear h h1
  have q := pu_v _ _ _ _ e1
  subst q
  unfold evs at e2
  obtain ⟨⟨x2, T2⟩, e3, e4⟩ := Option.bind_eq_some_iff.mp e2
  unfold ev at e3
  cases e3
  obtain ⟨⟨ys, T3⟩, e5, e6⟩ := Option.map_eq_some_iff.mp e4
  cases e6
  unfold evs at e5
  obtain ⟨⟨y, T4⟩, e7, e8⟩ := Option.bind_eq_some_iff.mp e5
  obtain ⟨⟨zs, T5⟩, e9, e10⟩ := Option.map_eq_some_iff.mp e8
  cases e10
  unfold evs at e9
  cases e9
  dsimp only at h2
  split at h2
  · obtain ⟨n, xs, ys, rfl, rfl, hx, q1, q2, q3, rfl⟩ := mt_tail_inv h2
    refine ⟨n, xs, ys, _, e7, ?_, hx, q1, q2, q3, rfl⟩
    unfold ev at e1 ⊢
    split at e1
    · rename_i d' hd
      cases e1
      first
        | rfl
        | rw [hd]
    · cases e1
  · cases h2
theorem ms_tail (he : ME X C P e me') (ho : ME X C P o (.v i)) (hl : ME X C P lo (.k (.int j)))
    (ha : ∀ v, assign (.Subscript o (.Slice (some lo) none none sp) tpos) X.env v = (do
      let ov ← holding [v] (eval o X.env)
      let iv ← holding [v, ov] (eval (.Slice (some lo) none none sp) X.env)
      standAt tpos
      holding [v, ov, iv] (setItem ov iv v)
      release [iv, v, ov] []) := by intro _; rfl)
    (hs : swapsWithSole [.Subscript o (.Slice (some lo) none none sp) tpos] e pos.line X.env = pure false := by rfl) (hw : swappedStores [.Subscript o (.Slice (some lo) none none sp) tpos] e X.env = pure none := by rfl)
    (h1 : (assignEach [.Subscript o (.Slice (some lo) none none sp) tpos] X.env).map (·.2) = [assign (.Subscript o (.Slice (some lo) none none sp) tpos) X.env] := by rfl) : MS X C P (.Assign [.Subscript o (.Slice (some lo) none none sp) tpos] e pos) (.ex (.mt .tail (.v i) [.k (.int j), me'])) := (ps_asg he (pg_tail ho hl ha) hs hw h1).imp fun D σ H h => by
  obtain ⟨F, ι, S, sl, r, rs, e, post⟩ := h
  unfold exec at e
  obtain ⟨⟨x, S9⟩, e0, e⟩ := Option.map_eq_some_iff.mp e
  cases e
  obtain ⟨n, xs, ys, S1, e1, e2, hx, c1, c2, c3, rfl⟩ := ev_tail e0
  have e3 : ev P (.k (.int j)) sl S1 = some (.b (.int j), S1) := by
    unfold ev
    rfl
  refine rs.one e1 fun F1 ι1 w1 H1 l1 r1 q1 => r1.one e2 fun F2 ι2 w2 H2 l2 r2 q2 => r2.one e3 fun F3 ι3 w3 H3 l3 r3 q3 => ?_
  obtain ⟨a, hna, rfl⟩ := q2.mono l3
  obtain ⟨b, us, rfl, hb, hbs⟩ := (show RelB C F3 _ w1 from (q1.mono l2).mono l3)
  obtain ⟨ws, h2, h3⟩ := lst_of r3.rh hna hx
  have hw3 : w3 = .int j := q3
  subst hw3
  have hF := r3.fr.at hna
  refine ⟨j, rfl, a, b, ws, us, j, rfl, rfl, rfl, h2, r3.rh.fz _ _ hb, ?_, c1, by rw [← h3.length]; exact c2, SZ_le (by rw [← h3.length, ← hbs.length]; exact c3), ?_⟩
  · intro hab
    subst hab
    rw [hF] at hb
    cases hb
  · exact post F3 ι3 σ _ ((l1.trans l2).trans l3) ⟨r3.rh.set hna hF (fz_l h2) ⟨_, upd_same, (h3.take _).append hbs⟩, r3.fr, r3.rs⟩
end
end M
/-! SM: how the small interpreter is reckoned. -/
namespace M
@[simp] theorem bind_some' {α β : Type} (a : α) (f : α → Option β) : Option.bind (some a) f = f a := rfl
/-! ### expressions -/
section
variable (P : Par) (σ : Sl) (S : Store)
@[simp] theorem ev_v (i : Nat) : ev P (.v i) σ S = (match σ[i]? with
    | some (some d) => some (d, S)
    | _ => none) := rfl
@[simp] theorem ev_k (x : B) : ev P (.k x) σ S = some (.b x, S) := rfl
@[simp] theorem ev_nop : ev P .nop σ S = some (.b .non, S) := rfl
@[simp] theorem ev_nev : ev P .nev σ S = none := rfl
@[simp] theorem ev_bin (o : Op) (a b : E) : ev P (.bin o a b) σ S = (ev P a σ S).bind fun x => (ev P b σ x.2).bind fun y => (bin y.2 o x.1 y.1).map fun z => (z, y.2) := rfl
@[simp] theorem ev_cat (a b : E) : ev P (.cat a b) σ S = (ev P a σ S).bind fun x => (ev P b σ x.2).bind fun y => (lstD y.2 x.1).bind fun xs => (lstD y.2 y.1).bind fun ys => newL y.2 true (xs ++ ys) := rfl
@[simp] theorem ev_neg (a : E) : ev P (.neg a) σ S = (ev P a σ S).bind fun x => match x.1 with
    | .b (.int i) => some (.b (.int (-i)), x.2)
    | _ => none := rfl
@[simp] theorem ev_not (a : E) : ev P (.not a) σ S = (ev P a σ S).bind fun x => (truth x.2 x.1).map fun c => (.b (.bl !c), x.2) := rfl
@[simp] theorem ev_cmp (o : Cm) (a b : E) : ev P (.cmp o a b) σ S = (ev P a σ S).bind fun x => (ev P b σ x.2).bind fun y => (cmp y.2 o x.1 y.1).map fun z => (.b (.bl z), y.2) := rfl
@[simp] theorem ev_chn (o p : Cm) (a b c : E) : ev P (.chn o p a b c) σ S = (ev P a σ S).bind fun x => (ev P b σ x.2).bind fun y => (cmp y.2 o x.1 y.1).bind fun r =>
    if r then (ev P c σ y.2).bind fun z => (cmp z.2 p y.1 z.1).map fun q => (.b (.bl q), z.2) else some (.b (.bl false), y.2) := rfl
@[simp] theorem ev_and (a b : E) : ev P (.and a b) σ S = (ev P a σ S).bind fun x => (truth x.2 x.1).bind fun c => if c then ev P b σ x.2 else some x := rfl
@[simp] theorem ev_or (a b : E) : ev P (.or a b) σ S = (ev P a σ S).bind fun x => (truth x.2 x.1).bind fun c => if c then some x else ev P b σ x.2 := rfl
@[simp] theorem ev_ite (t a b : E) : ev P (.ite t a b) σ S = (ev P t σ S).bind fun x => (truth x.2 x.1).bind fun c => if c then ev P a σ x.2 else ev P b σ x.2 := rfl
@[simp] theorem ev_tup (es : List E) : ev P (.tup es) σ S = (evs P es σ S).bind fun p => if p.1.length ≤ SZ then some (mkTup p.1, p.2) else none := rfl
@[simp] theorem ev_lst (m : Bool) (es : List E) : ev P (.lst m es) σ S = (evs P es σ S).bind fun p => (allB p.1).bind fun xs => newL p.2 m xs := rfl
@[simp] theorem ev_dnew (m : Bool) : ev P (.dnew m) σ S = newD S m [] := rfl
@[simp] theorem ev_idx (a i : E) : ev P (.idx a i) σ S = (ev P a σ S).bind fun x => (ev P i σ x.2).bind fun y => (idx y.2 x.1 y.1).map fun z => (z, y.2) := rfl
@[simp] theorem ev_slc (a l h : E) : ev P (.slc a l h) σ S = (ev P a σ S).bind fun x => (ev P l σ x.2).bind fun y => (ev P h σ y.2).bind fun z => (slc z.2 x.1 y.1 z.1).map fun r => (r, z.2) := rfl
@[simp] theorem ev_rev (a : E) : ev P (.rev a) σ S = (ev P a σ S).bind fun x => (lstD x.2 x.1).map fun xs => (.b (.lst xs.reverse), x.2) := rfl
@[simp] theorem ev_att (a : E) (f : Nat) : ev P (.att a f) σ S = (ev P a σ S).bind fun x => (getf P.fo x.2 x.1 f).map fun z => (z, x.2) := rfl
@[simp] theorem ev_call (f : Nat) (es : List E) : ev P (.call f es) σ S = (evs P es σ S).bind fun p => P.C P.base f p.1 p.2 := rfl
@[simp] theorem ev_meth (o : E) (m : Nat) (es : List E) : ev P (.meth o m es) σ S = (ev P o σ S).bind fun x => (clsOf x.2 m x.1).bind fun c => (P.meth c m).bind fun f => (evs P es σ x.2).bind fun p => P.C P.base f (x.1 :: p.1) p.2 := rfl
@[simp] theorem ev_bi (b : Bi) (m : Bool) (es : List E) : ev P (.bi b m es) σ S = (evs P es σ S).bind fun p => bi p.2 b m p.1 := rfl
@[simp] theorem ev_mt (b : Mt) (o : E) (es : List E) : ev P (.mt b o es) σ S = (ev P o σ S).bind fun x => (evs P es σ x.2).bind fun p => if kd p.2 x.1 = kd x.2 x.1 then mt p.2 b x.1 p.1 else none := rfl
@[simp] theorem evs_nil : evs P [] σ S = some ([], S) := rfl
@[simp] theorem evs_cons (e : E) (r : List E) : evs P (e :: r) σ S = (ev P e σ S).bind fun x => (evs P r σ x.2).map fun y => (x.1 :: y.1, y.2) := rfl
theorem ev_lc (m : Bool) (g : Pt) (k : Ik) (es : List E) (t e : E) (w : List Nat) : ev P (.lc m g k es t e w) σ S = (evs P es σ S).bind fun p => (items p.2 k p.1).bind fun xs => if xs.length ≤ SZ then
      (lcL (lcF P t e) g xs (wipe σ w) (lockAll p.2 p.1)).bind fun q => (unlockAll p.2 q.2 p.1).bind fun S3 => newL S3 m q.1 else none := rfl
theorem ev_pick (es : List E) (i : E) : ev P (.pick es i) σ S = (evs P es σ S).bind fun p => (ev P i σ p.2).bind fun y => match y.1 with
    | .b (.int k) => if p.1.length ≤ SZ then (L2.atI p.1 k).map fun z => (z, y.2) else none
    | _ => none := rfl
theorem ev_fz (e : E) : ev P (.fz e) σ S = (ev P e σ S).bind fun r => if keepIns S r.2 then (frz r.2 S.length 8 r.1).map fun x => (.b x, r.2.take S.length) else none := rfl
theorem ev_dic (es : List E) : ev P (.dic es) σ S = (evs P es σ (S ++ [.dic []])).bind fun p => match p.2[S.length]? with
    | some (.dic []) => (flat2 p.1).bind fun kvs => if kvs.length ≤ 15 then some (.ref S.length, p.2.set S.length (.dic (dmerge [] kvs))) else none
    | _ => none := rfl
theorem exec_blk (i : Nat) (b : List St) : exec P (.blk i b) σ S = (execs P b σ S).bind fun q => match q with
    | (.nx, σ2, S2) => if keepIns S S2 ∧ (σ2.set i none).all (low S.length) = true then (match σ2[i]? with
        | some (some d) => (frz S2 S.length 8 d).map fun y => (.nx, σ2.set i (some (.b y)), S2.take S.length)
        | _ => none) else none
    | _ => none := rfl
theorem ev_lkd (i : Nat) (e : E) : ev P (.lkd i e) σ S = (match σ[i]? with
    | some (some (.ref n)) => (match S[n]? with
      | some (.dic _) => (ev P e σ (lockAll S [.ref n])).bind fun r => (unlockAll S r.2 [.ref n]).map fun S3 => (r.1, S3)
      | _ => ev P e σ S)
    | _ => ev P e σ S) := rfl
theorem exec_lks (i : Nat) (s : St) : exec P (.lks i s) σ S = (match σ[i]? with
    | some (some (.ref n)) => (match S[n]? with
      | some (.dic _) => (exec P s σ (lockAll S [.ref n])).bind fun r => (unlockAll S r.2.2 [.ref n]).map fun S3 => (r.1, r.2.1, S3)
      | _ => exec P s σ S)
    | _ => exec P s σ S) := rfl
/-! ### statements -/
@[simp] theorem exec_set (i : Nat) (e : E) : exec P (.set i e) σ S = (ev P e σ S).map fun x => (.nx, σ.set i (some x.1), x.2) := rfl
@[simp] theorem exec_unp (is : List Nat) (e : E) : exec P (.unp is e) σ S = (ev P e σ S).bind fun x => (asgD is x.1 σ).map fun σ2 => (.nx, σ2, x.2) := rfl
@[simp] theorem exec_aug (i : Nat) (o : Op) (e : E) : exec P (.aug i o e) σ S = (match σ[i]? with
    | some (some (.b (.int a))) => (ev P e σ S).bind fun y => (match y.1 with
      | .b (.int c) => (arith o a c).map fun z => (.nx, σ.set i (some (.b (.int z))), y.2)
      | _ => none)
    | _ => none) := rfl
@[simp] theorem exec_seti (o i e : E) : exec P (.seti o i e) σ S = (ev P e σ S).bind fun v => (ev P o σ v.2).bind fun x => (ev P i σ x.2).bind fun y => (seti y.2 x.1 y.1 v.1).map fun S2 => (.nx, σ, S2) := rfl
@[simp] theorem exec_iff (t : E) (a b : List St) : exec P (.iff t a b) σ S = (ev P t σ S).bind fun x => (truth x.2 x.1).bind fun c => if c then execs P a σ x.2 else execs P b σ x.2 := rfl
theorem exec_whl (t : E) (b : List St) : exec P (.whl t b) σ S = whileL (fun σ2 S2 => (ev P t σ2 S2).bind fun x => (truth x.2 x.1).map fun c => (c, x.2)) (fun σ2 S2 => execs P b σ2 S2) WF σ S := rfl
theorem exec_for (g : Pt) (k : Ik) (es : List E) (b : List St) : exec P (.for g k es b) σ S = (evs P es σ S).bind fun p => (items p.2 k p.1).bind fun xs =>
      (forL (fun σ2 S2 => execs P b σ2 S2) g xs σ (lockAll p.2 p.1)).bind fun r => (unlockAll p.2 r.2.2 p.1).map fun S3 => (r.1, r.2.1, S3) := rfl
@[simp] theorem exec_ret (e : E) : exec P (.ret e) σ S = (ev P e σ S).map fun x => (.rt x.1, σ, x.2) := rfl
@[simp] theorem exec_retn : exec P .retn σ S = some (.rt (.b .non), σ, S) := rfl
@[simp] theorem exec_ex (e : E) : exec P (.ex e) σ S = (ev P e σ S).map fun x => (.nx, σ, x.2) := rfl
@[simp] theorem exec_cont : exec P .cont σ S = some (.ct, σ, S) := rfl
@[simp] theorem execs_nil : execs P [] σ S = some (.nx, σ, S) := rfl
theorem execs_cons (s : St) (r : List St) : execs P (s :: r) σ S = (exec P s σ S).bind fun q => match q with
    | (.nx, σ2, S2) => execs P r σ2 S2
    | q => some q := rfl
end
/-- one statement done -/
theorem execs_step {P : Par} {s : St} {r : List St} {σ σ2 : Sl} {S S2 : Store} (h : exec P s σ S = some (.nx, σ2, S2)) : execs P (s :: r) σ S = execs P r σ2 S2 := by
  rw [execs_cons, h]
  rfl
theorem execs_rt {P : Par} {s : St} {r : List St} {σ σ2 : Sl} {S S2 : Store} {d : D} (h : exec P s σ S = some (.rt d, σ2, S2)) : execs P (s :: r) σ S = some (.rt d, σ2, S2) := by
  rw [execs_cons, h]
  rfl
/-! ### numbers -/
@[simp] theorem ar_add (i j : Int) : arith .add i j = some (i + j) := rfl
@[simp] theorem ar_sub (i j : Int) : arith .sub i j = some (i - j) := rfl
@[simp] theorem ar_and (i j : Int) : arith .band i j = some (PySem.Builtin.bitAnd i j) := rfl
@[simp] theorem ar_or (i j : Int) : arith .bor i j = some (PySem.Builtin.bitOr i j) := rfl
@[simp] theorem ar_xor (i j : Int) : arith .xor i j = some (PySem.Builtin.bitXor i j) := rfl
theorem ar_mul {i j : Int} (h : mulOk i j = true) : arith .mul i j = some (i * j) := if_pos h
theorem mulOk_l {i j : Int} (h : -(2 ^ 64) < i) (h2 : i < 2 ^ 64) : mulOk i j = true := by
  unfold mulOk
  rw [decide_eq_true ⟨h, h2⟩]
  rfl
theorem mulOk_r {i j : Int} (h : -(2 ^ 64) < j) (h2 : j < 2 ^ 64) : mulOk i j = true := by
  unfold mulOk
  rw [decide_eq_true (p := -(2 ^ 64) < j ∧ j < 2 ^ 64) ⟨h, h2⟩, Bool.or_true]
  rfl
theorem ar_mul_l {i j : Int} (h : -(2 ^ 64) < i) (h2 : i < 2 ^ 64) : arith .mul i j = some (i * j) := ar_mul (mulOk_l h h2)
theorem ar_mul_r {i j : Int} (h : -(2 ^ 64) < j) (h2 : j < 2 ^ 64) : arith .mul i j = some (i * j) := ar_mul (mulOk_r h h2)
theorem ar_mod {i j : Int} (h : 0 < j) : arith .mod i j = some (i % j) := if_pos h
theorem ar_fdiv {i j : Int} (h : divOk j = true) : arith .fdiv i j = some (i / j) := if_pos h
theorem divOk_small {j : Int} (h : 0 < j) (h2 : j ≤ 2 ^ 8000) : divOk j = true := by
  unfold divOk
  rw [decide_eq_true h, Bool.true_and, decide_eq_true]
  have h3 : j.natAbs ≤ 2 ^ 8000 := by omega
  have h4 : j.natAbs ≠ 0 := by omega
  have := (Nat.log2_lt h4 (k := 8001)).mpr (Nat.lt_of_le_of_lt h3 (Nat.pow_lt_pow_right (by decide) (by decide)))
  omega
theorem ar_shr {i j : Int} (h : 0 ≤ j) : arith .shr i j = some (i / 2 ^ j.toNat) := if_pos h
theorem ar_shl {i j : Int} (h : shlOk i j = true) : arith .shl i j = some (i * 2 ^ j.toNat) := if_pos h
theorem shlOk_small {i j : Int} (h : 0 ≤ j) (h2 : j ≤ 1000000) (h3 : i.natAbs < 2 ^ 64) : shlOk i j = true := by
  unfold shlOk
  rw [decide_eq_true h, decide_eq_true (p := j ≤ 1000000 ∧ i.natAbs < 2 ^ 64) ⟨h2, h3⟩]
  rfl
theorem ar_shl1 {j : Int} (h : 0 ≤ j) (h2 : j ≤ 1000000) : arith .shl 1 j = some (2 ^ j.toNat) := by
  rw [ar_shl (shlOk_small h h2 (by decide)), Int.one_mul]
theorem ar_pow {i j : Int} (h : 0 ≤ j ∧ j ≤ 1000000 ∧ i.natAbs < 2 ^ 64) : arith .pow i j = some (i ^ j.toNat) := if_pos h
@[simp] theorem bin_ii (S : Store) (o : Op) (i j : Int) : bin S o (.b (.int i)) (.b (.int j)) = (arith o i j).map fun z => .b (.int z) := rfl
@[simp] theorem int2_ii (f : Int → Int → Bool) (i j : Int) : int2 f (.b (.int i)) (.b (.int j)) = some (f i j) := rfl
@[simp] theorem cmp_lt (S : Store) (x y : D) : cmp S .lt x y = int2 (fun i j => decide (i < j)) x y := rfl
@[simp] theorem cmp_le (S : Store) (x y : D) : cmp S .le x y = int2 (fun i j => decide (i ≤ j)) x y := rfl
@[simp] theorem cmp_gt (S : Store) (x y : D) : cmp S .gt x y = int2 (fun i j => decide (j < i)) x y := rfl
@[simp] theorem cmp_ge (S : Store) (x y : D) : cmp S .ge x y = int2 (fun i j => decide (j ≤ i)) x y := rfl
@[simp] theorem cmp_eq_i (S : Store) (i j : Int) : cmp S .eq (.b (.int i)) (.b (.int j)) = some (i == j) := rfl
@[simp] theorem cmp_ne_i (S : Store) (i j : Int) : cmp S .ne (.b (.int i)) (.b (.int j)) = some (!(i == j)) := rfl
@[simp] theorem truth_bl (S : Store) (c : Bool) : truth S (.b (.bl c)) = some c := rfl
@[simp] theorem truth_int (S : Store) (i : Int) : truth S (.b (.int i)) = some (i != 0) := rfl
/-! ### calls -/
theorem evC_at {T : Tab} {k base f : Nat} {ds : List D} {S S2 : Store} {fd : Fd} {d : D} {r : D × Store} {σ2 : Sl} (hf : T.fn f = some fd) (hl : ds.length = fd.np)
    (h : execs (par T k (if fd.val then S.length else base)) fd.body (start fd.ns ds) S = some (.rt d, σ2, S2)) (hr : fin fd.val S.length d S2 = some r) : evC T (k + 1) base f ds S = some r := by
  have e : evC T (k + 1) base f ds S = (T.fn f).bind fun fd => if ds.length = fd.np then (execs (par T k (if fd.val then S.length else base)) fd.body (start fd.ns ds) S).bind fun q => match q with
        | (.nx, _, S2) => fin fd.val S.length (.b .non) S2
        | (.rt d, _, S2) => fin fd.val S.length d S2
        | (.ct, _, _) => none
    else none := by
      cases k <;> rfl
  rw [e, hf]
  show (if ds.length = fd.np then _ else none) = some r
  rw [if_pos hl, h]
  exact hr
theorem fin_b {base : Nat} {x : B} {S : Store} : fin true base (.b x) S = some (.b x, S.take base) := rfl
/-! ### comprehensions -/
theorem lcL_map {f : Sl → Store → Option (Option B × Store)} {g : Pt} (h : B → B) {σ : Sl} {S : Store} : ∀ (xs : List B), (∀ x ∈ xs, ∃ σ2, asg g x σ = some σ2 ∧ f σ2 S = some (some (h x), S)) → lcL f g xs σ S = some (xs.map h, S)
  | [], _ => rfl
  | x :: xs, H => by
    obtain ⟨σ2, h1, h2⟩ := H x List.mem_cons_self
    unfold lcL
    rw [h1, bind_some', h2, bind_some', lcL_map h xs fun y hy => H y (List.mem_cons_of_mem _ hy)]
    rfl
theorem lcL_filter {f : Sl → Store → Option (Option B × Store)} {g : Pt} (p : B → Bool) (h : B → B) {σ : Sl} {S : Store} : ∀ (xs : List B), (∀ x ∈ xs, ∃ σ2, asg g x σ = some σ2 ∧ f σ2 S = some (if p x then some (h x) else none, S)) → lcL f g xs σ S = some ((xs.filter p).map h, S)
  | [], _ => rfl
  | x :: xs, H => by
    obtain ⟨σ2, h1, h2⟩ := H x List.mem_cons_self
    unfold lcL
    rw [h1, bind_some', h2, bind_some', lcL_filter p h xs fun y hy => H y (List.mem_cons_of_mem _ hy)]
    cases e : p x
    · rw [List.filter_cons_of_neg (by rw [e]; exact Bool.false_ne_true)]
      rfl
    · rw [List.filter_cons_of_pos e]
      rfl
@[simp] theorem lcF_yes (P : Par) (e : E) (σ : Sl) (S : Store) : lcF P (.k (.bl true)) e σ S = (ev P e σ S).bind fun y => (asB y).map fun z => (some z.1, z.2) := rfl
theorem lcF_test {P : Par} {t e : E} {σ : Sl} {S : Store} {c : Bool} {y : B} (ht : ev P t σ S = some (.b (.bl c), S)) (he : c = true → ev P e σ S = some (.b y, S)) : lcF P t e σ S = some (if c then some y else none, S) := by
  unfold lcF
  rw [ht]
  cases c with
  | true =>
    show ((ev P e σ S).bind fun y => (asB y).map fun z => (some z.1, z.2)) = _
    rw [he rfl]
    rfl
  | false => rfl
@[simp] theorem asB_b (x : B) (S : Store) : asB (.b x, S) = some (x, S) := rfl
theorem newL_f {S : Store} {xs : List B} (h : xs.length ≤ SZ) : newL S false xs = some (.b (.lst xs), S) := if_pos h
theorem newL_t {S : Store} {xs : List B} (h : xs.length ≤ SZ) : newL S true xs = some (.ref S.length, S ++ [.lst xs]) := if_pos h
/-- [e for g in xs], nothing changes -/
theorem lc_pure {P : Par} {g : Pt} {k : Ik} {a e : E} {w : List Nat} {σ : Sl} {S : Store} {x : B} {xs : List B} (h : B → B) (ha : ev P a σ S = some (.b x, S)) (hi : items S k [.b x] = some xs) (hz : xs.length ≤ SZ)
    (H : ∀ y ∈ xs, ∃ σ2, asg g y (wipe σ w) = some σ2 ∧ ev P e σ2 S = some (.b (h y), S)) : ev P (.lc false g k [a] (.k (.bl true)) e w) σ S = some (.b (.lst (xs.map h)), S) := by
  rw [ev_lc]
  simp only [evs_cons, evs_nil, ha, bind_some', Option.map_some]
  rw [hi, bind_some', if_pos hz]
  show ((lcL (lcF P (.k (.bl true)) e) g xs (wipe σ w) S).bind fun q => (unlockAll S q.2 [.b x]).bind fun S3 => newL S3 false q.1) = _
  rw [lcL_map h xs fun y hy => by
    obtain ⟨σ2, h1, h2⟩ := H y hy
    exact ⟨σ2, h1, by rw [lcF_yes, h2] <;> rfl⟩]
  show newL S false (xs.map h) = _
  rw [newL_f (by rw [List.length_map]; exact hz)]
theorem lc_filt {P : Par} {g : Pt} {k : Ik} {a t e : E} {w : List Nat} {σ : Sl} {S : Store} {x : B} {xs : List B} (p : B → Bool) (h : B → B) (ha : ev P a σ S = some (.b x, S)) (hi : items S k [.b x] = some xs) (hz : xs.length ≤ SZ)
    (H : ∀ y ∈ xs, ∃ σ2, asg g y (wipe σ w) = some σ2 ∧ ev P t σ2 S = some (.b (.bl (p y)), S) ∧ (p y = true → ev P e σ2 S = some (.b (h y), S))) : ev P (.lc false g k [a] t e w) σ S = some (.b (.lst ((xs.filter p).map h)), S) := by
  rw [ev_lc]
  simp only [evs_cons, evs_nil, ha, bind_some', Option.map_some]
  rw [hi, bind_some', if_pos hz]
  show ((lcL (lcF P t e) g xs (wipe σ w) S).bind fun q => (unlockAll S q.2 [.b x]).bind fun S3 => newL S3 false q.1) = _
  rw [lcL_filter p h xs fun y hy => by
    obtain ⟨σ2, h1, h2, h3⟩ := H y hy
    exact ⟨σ2, h1, lcF_test h2 h3⟩]
  show newL S false ((xs.filter p).map h) = _
  rw [newL_f (by rw [List.length_map]; exact Nat.le_trans (List.length_filter_le _ _) hz)]
/-! ### walks -/
theorem whileL_done {t : Sl → Store → Option (Bool × Store)} {f : Sl → Store → Rs} {n : Nat} {σ : Sl} {S S2 : Store} (h : t σ S = some (false, S2)) : whileL t f (n + 1) σ S = some (.nx, σ, S2) := by
  unfold whileL
  rw [h]
  rfl
theorem whileL_next {t : Sl → Store → Option (Bool × Store)} {f : Sl → Store → Rs} {n : Nat} {σ σ2 : Sl} {S S2 S3 : Store} (h : t σ S = some (true, S2)) (h2 : f σ S2 = some (.nx, σ2, S3)) : whileL t f (n + 1) σ S = whileL t f n σ2 S3 := by
  rw [whileL, h]
  show (f σ S2).bind _ = _
  rw [h2]
  rfl
end M
/-! SW: what is wanted of a run. -/
namespace M
def We (P : Par) (e : E) (σ : Sl) (S : Store) (Q : D → Store → Prop) : Prop := ∃ d S', ev P e σ S = some (d, S') ∧ Q d S'
def Wes (P : Par) (e : List E) (σ : Sl) (S : Store) (Q : List D → Store → Prop) : Prop := ∃ d S', evs P e σ S = some (d, S') ∧ Q d S'
def Wx (P : Par) (s : St) (σ : Sl) (S : Store) (Q : Fl → Sl → Store → Prop) : Prop := ∃ f σ' S', exec P s σ S = some (f, σ', S') ∧ Q f σ' S'
def Ws (P : Par) (s : List St) (σ : Sl) (S : Store) (Q : Fl → Sl → Store → Prop) : Prop := ∃ f σ' S', execs P s σ S = some (f, σ', S') ∧ Q f σ' S'
/-- an option's value -/
def Wo' {α : Type} (x : Option α) (Q : α → Prop) : Prop := ∃ a, x = some a ∧ Q a
def Wc (T : Tab) (k base f : Nat) (ds : List D) (S : Store) (Q : D → Store → Prop) : Prop := ∃ d S', evC T k base f ds S = some (d, S') ∧ Q d S'
section
variable {α β : Type} {x : Option α} {f : α → Option β} {g : α → β} {Q : β → Prop}
theorem wo_bind : Wo' (x.bind f) Q ↔ Wo' x fun a => Wo' (f a) Q := by
  constructor
  · rintro ⟨b, h, q⟩
    obtain ⟨a, h1, h2⟩ := Option.bind_eq_some_iff.mp h
    exact ⟨a, h1, b, h2, q⟩
  · rintro ⟨a, h1, b, h2, q⟩
    exact ⟨b, by rw [h1]; exact h2, q⟩
theorem wo_map : Wo' (x.map g) Q ↔ Wo' x fun a => Q (g a) := by
  constructor
  · rintro ⟨b, h, q⟩
    obtain ⟨a, h1, h2⟩ := Option.map_eq_some_iff.mp h
    exact ⟨a, h1, by show Q (g a); rw [h2]; exact q⟩
  · rintro ⟨a, h1, q⟩
    exact ⟨g a, by rw [h1]; rfl, q⟩
@[simp] theorem wo_some {a : α} {Q : α → Prop} : Wo' (some a) Q ↔ Q a := ⟨fun ⟨_, h, q⟩ => Option.some.inj h ▸ q, fun q => ⟨a, rfl, q⟩⟩
@[simp] theorem wo_none {Q : α → Prop} : Wo' none Q ↔ False := ⟨(fun ⟨_, h, _⟩ => nomatch h), False.elim⟩
theorem Wo'.mono {Q Q' : α → Prop} (h : Wo' x Q) (k : ∀ a, Q a → Q' a) : Wo' x Q' := let ⟨a, e, q⟩ := h; ⟨a, e, k a q⟩
end
section
variable {P : Par} {σ : Sl} {S : Store} {Q : D → Store → Prop} {R : Fl → Sl → Store → Prop}
theorem we_def {e : E} : We P e σ S Q ↔ Wo' (ev P e σ S) fun p => Q p.1 p.2 := ⟨fun ⟨d, S', h, q⟩ => ⟨(d, S'), h, q⟩, fun ⟨(d, S'), h, q⟩ => ⟨d, S', h, q⟩⟩
theorem wes_def {e : List E} {Q : List D → Store → Prop} : Wes P e σ S Q ↔ Wo' (evs P e σ S) fun p => Q p.1 p.2 := ⟨fun ⟨d, S', h, q⟩ => ⟨(d, S'), h, q⟩, fun ⟨(d, S'), h, q⟩ => ⟨d, S', h, q⟩⟩
theorem wx_def {s : St} : Wx P s σ S R ↔ Wo' (exec P s σ S) fun p => R p.1 p.2.1 p.2.2 := ⟨fun ⟨f, d, S', h, q⟩ => ⟨(f, d, S'), h, q⟩, fun ⟨(f, d, S'), h, q⟩ => ⟨f, d, S', h, q⟩⟩
theorem ws_def {s : List St} : Ws P s σ S R ↔ Wo' (execs P s σ S) fun p => R p.1 p.2.1 p.2.2 := ⟨fun ⟨f, d, S', h, q⟩ => ⟨(f, d, S'), h, q⟩, fun ⟨(f, d, S'), h, q⟩ => ⟨f, d, S', h, q⟩⟩
theorem wc_def {T : Tab} {k base f : Nat} {ds : List D} : Wc T k base f ds S Q ↔ Wo' (evC T k base f ds S) fun p => Q p.1 p.2 := ⟨fun ⟨d, S', h, q⟩ => ⟨(d, S'), h, q⟩, fun ⟨(d, S'), h, q⟩ => ⟨d, S', h, q⟩⟩
theorem We.mono {e : E} {Q' : D → Store → Prop} (h : We P e σ S Q) (k : ∀ d S, Q d S → Q' d S) : We P e σ S Q' := let ⟨d, S', e, q⟩ := h; ⟨d, S', e, k _ _ q⟩
theorem Ws.mono {e : List St} {R' : Fl → Sl → Store → Prop} (h : Ws P e σ S R) (k : ∀ f d S, R f d S → R' f d S) : Ws P e σ S R' := let ⟨f, d, S', e, q⟩ := h; ⟨f, d, S', e, k _ _ _ q⟩
theorem Wc.mono {T : Tab} {k base f : Nat} {ds : List D} {Q' : D → Store → Prop} (h : Wc T k base f ds S Q) (m : ∀ d S, Q d S → Q' d S) : Wc T k base f ds S Q' := let ⟨d, S', e, q⟩ := h; ⟨d, S', e, m _ _ q⟩
/-! ### expressions -/
@[simp] theorem we_v {i : Nat} {d : D} (h : σ[i]? = some (some d)) : We P (.v i) σ S Q ↔ Q d S := by
  rw [we_def, ev_v, h, wo_some]
@[simp] theorem we_k {x : B} : We P (.k x) σ S Q ↔ Q (.b x) S := by rw [we_def, ev_k, wo_some]
@[simp] theorem we_nop : We P .nop σ S Q ↔ Q (.b .non) S := by rw [we_def, ev_nop, wo_some]
@[simp] theorem we_bin {o : Op} {a b : E} : We P (.bin o a b) σ S Q ↔ We P a σ S fun x S1 => We P b σ S1 fun y S2 => Wo' (bin S2 o x y) fun z => Q z S2 := by
  simp only [we_def, ev_bin, wo_bind, wo_map]
@[simp] theorem we_cat {a b : E} : We P (.cat a b) σ S Q ↔ We P a σ S fun x S1 => We P b σ S1 fun y S2 => Wo' (lstD S2 x) fun xs => Wo' (lstD S2 y) fun ys => Wo' (newL S2 true (xs ++ ys)) fun p => Q p.1 p.2 := by
  simp only [we_def, ev_cat, wo_bind]
@[simp] theorem we_neg {a : E} : We P (.neg a) σ S Q ↔ We P a σ S fun x S1 => Wo' (match x with
    | .b (.int i) => some (-i)
    | _ => none) fun i => Q (.b (.int i)) S1 := by
  simp only [we_def, ev_neg, wo_bind]
  constructor
  · rintro ⟨⟨x, S1⟩, h, q⟩
    refine ⟨_, h, ?_⟩
    dsimp only at q ⊢
    split at q
    · rw [wo_some] at q ⊢; exact q
    · rw [wo_none] at q; exact q.elim
  · rintro ⟨⟨x, S1⟩, h, q⟩
    refine ⟨_, h, ?_⟩
    dsimp only at q ⊢
    split at q
    · rw [wo_some] at q ⊢; exact q
    · rw [wo_none] at q; exact q.elim
@[simp] theorem we_not {a : E} : We P (.not a) σ S Q ↔ We P a σ S fun x S1 => Wo' (truth S1 x) fun c => Q (.b (.bl !c)) S1 := by
  simp only [we_def, ev_not, wo_bind, wo_map]
@[simp] theorem we_cmp {o : Cm} {a b : E} : We P (.cmp o a b) σ S Q ↔ We P a σ S fun x S1 => We P b σ S1 fun y S2 => Wo' (cmp S2 o x y) fun z => Q (.b (.bl z)) S2 := by
  simp only [we_def, ev_cmp, wo_bind, wo_map]
theorem wo_ite {α : Type} {c : Prop} [Decidable c] {x y : Option α} {Q : α → Prop} : Wo' (if c then x else y) Q ↔ if c then Wo' x Q else Wo' y Q := by split <;> rfl
@[simp] theorem we_chn {o p : Cm} {a b c : E} : We P (.chn o p a b c) σ S Q ↔ We P a σ S fun x S1 => We P b σ S1 fun y S2 => Wo' (cmp S2 o x y) fun r => if r then We P c σ S2 fun z S3 => Wo' (cmp S3 p y z) fun q => Q (.b (.bl q)) S3 else Q (.b (.bl false)) S2 := by
  simp only [we_def, ev_chn, wo_bind, wo_map, wo_ite, wo_some]
@[simp] theorem we_and {a b : E} : We P (.and a b) σ S Q ↔ We P a σ S fun x S1 => Wo' (truth S1 x) fun c => if c then We P b σ S1 Q else Q x S1 := by
  simp only [we_def, ev_and, wo_bind, wo_ite, wo_some]
@[simp] theorem we_or {a b : E} : We P (.or a b) σ S Q ↔ We P a σ S fun x S1 => Wo' (truth S1 x) fun c => if c then Q x S1 else We P b σ S1 Q := by
  simp only [we_def, ev_or, wo_bind, wo_ite, wo_some]
@[simp] theorem we_ite {t a b : E} : We P (.ite t a b) σ S Q ↔ We P t σ S fun x S1 => Wo' (truth S1 x) fun c => if c then We P a σ S1 Q else We P b σ S1 Q := by
  simp only [we_def, ev_ite, wo_bind, wo_ite]
@[simp] theorem we_tup {es : List E} : We P (.tup es) σ S Q ↔ Wes P es σ S fun ds S1 => ds.length ≤ SZ ∧ Q (mkTup ds) S1 := by
  simp only [we_def, wes_def, ev_tup, wo_bind, wo_ite, wo_some, wo_none]
  constructor
  · rintro ⟨a, h, q⟩
    split at q
    · exact ⟨a, h, ‹_›, q⟩
    · exact q.elim
  · rintro ⟨a, h, h1, q⟩
    exact ⟨a, h, by show (if _ then _ else _); rw [if_pos h1]; exact q⟩
@[simp] theorem we_lst {m : Bool} {es : List E} : We P (.lst m es) σ S Q ↔ Wes P es σ S fun ds S1 => Wo' (allB ds) fun xs => Wo' (newL S1 m xs) fun p => Q p.1 p.2 := by
  simp only [we_def, wes_def, ev_lst, wo_bind]
@[simp] theorem we_dnew {m : Bool} : We P (.dnew m) σ S Q ↔ Wo' (newD S m []) fun p => Q p.1 p.2 := by rw [we_def, ev_dnew]
@[simp] theorem we_idx {a i : E} : We P (.idx a i) σ S Q ↔ We P a σ S fun x S1 => We P i σ S1 fun y S2 => Wo' (idx S2 x y) fun z => Q z S2 := by
  simp only [we_def, ev_idx, wo_bind, wo_map]
@[simp] theorem we_slc {a l h : E} : We P (.slc a l h) σ S Q ↔ We P a σ S fun x S1 => We P l σ S1 fun y S2 => We P h σ S2 fun z S3 => Wo' (slc S3 x y z) fun r => Q r S3 := by
  simp only [we_def, ev_slc, wo_bind, wo_map]
@[simp] theorem we_rev {a : E} : We P (.rev a) σ S Q ↔ We P a σ S fun x S1 => Wo' (lstD S1 x) fun xs => Q (.b (.lst xs.reverse)) S1 := by
  simp only [we_def, ev_rev, wo_bind, wo_map]
@[simp] theorem we_att {a : E} {f : Nat} : We P (.att a f) σ S Q ↔ We P a σ S fun x S1 => Wo' (getf P.fo S1 x f) fun z => Q z S1 := by
  simp only [we_def, ev_att, wo_bind, wo_map]
@[simp] theorem we_call {T : Tab} {k b f : Nat} {es : List E} : We (par T k b) (.call f es) σ S Q ↔ Wes (par T k b) es σ S fun ds S1 => Wc T k b f ds S1 Q := by
  simp only [we_def, wes_def, wc_def, ev_call, wo_bind]
  exact Iff.rfl
@[simp] theorem we_meth {T : Tab} {k b m : Nat} {o : E} {es : List E} : We (par T k b) (.meth o m es) σ S Q ↔ We (par T k b) o σ S fun x S1 => Wo' (clsOf S1 m x) fun c => Wo' (T.meth c m) fun f => Wes (par T k b) es σ S1 fun ds S2 => Wc T k b f (x :: ds) S2 Q := by
  simp only [we_def, wes_def, wc_def, ev_meth, wo_bind]
  exact Iff.rfl
@[simp] theorem we_bi {B : Bi} {m : Bool} {es : List E} : We P (.bi B m es) σ S Q ↔ Wes P es σ S fun ds S1 => Wo' (bi S1 B m ds) fun p => Q p.1 p.2 := by
  simp only [we_def, wes_def, ev_bi, wo_bind]
@[simp] theorem we_mt {B : Mt} {o : E} {es : List E} : We P (.mt B o es) σ S Q ↔ We P o σ S fun x S1 => Wes P es σ S1 fun ds S2 => kd S2 x = kd S1 x ∧ Wo' (mt S2 B x ds) fun p => Q p.1 p.2 := by
  simp only [we_def, wes_def, ev_mt, wo_bind, wo_ite, wo_none]
  constructor
  · rintro ⟨x, h, ds, h1, q⟩
    split at q
    · exact ⟨x, h, ds, h1, ‹_›, q⟩
    · exact q.elim
  · rintro ⟨x, h, ds, h1, h2, q⟩
    exact ⟨x, h, ds, h1, by show (if _ then _ else _); rw [if_pos h2]; exact q⟩
@[simp] theorem wes_nil {Q : List D → Store → Prop} : Wes P [] σ S Q ↔ Q [] S := by rw [wes_def, evs_nil, wo_some]
@[simp] theorem wes_cons {e : E} {es : List E} {Q : List D → Store → Prop} : Wes P (e :: es) σ S Q ↔ We P e σ S fun x S1 => Wes P es σ S1 fun ds S2 => Q (x :: ds) S2 := by
  simp only [we_def, wes_def, evs_cons, wo_bind, wo_map]
/-! ### statements -/
@[simp] theorem wx_set {i : Nat} {e : E} : Wx P (.set i e) σ S R ↔ We P e σ S fun d S1 => R .nx (σ.set i (some d)) S1 := by
  simp only [we_def, wx_def, exec_set, wo_map]
@[simp] theorem wx_unp {is : List Nat} {e : E} : Wx P (.unp is e) σ S R ↔ We P e σ S fun d S1 => Wo' (asgD is d σ) fun σ2 => R .nx σ2 S1 := by
  simp only [we_def, wx_def, exec_unp, wo_bind, wo_map]
theorem wx_aug {i : Nat} {o : Op} {e : E} {a : Int} (h : σ[i]? = some (some (.b (.int a)))) : Wx P (.aug i o e) σ S R ↔ We P e σ S fun d S1 => ∃ c, d = .b (.int c) ∧ Wo' (arith o a c) fun z => R .nx (σ.set i (some (.b (.int z)))) S1 := by
  simp only [we_def, wx_def, exec_aug, h, wo_bind]
  constructor
  · rintro ⟨⟨y, S1⟩, h1, q⟩
    dsimp only at q
    split at q
    · exact ⟨_, h1, _, rfl, wo_map.mp q⟩
    · rw [wo_none] at q; exact q.elim
  · rintro ⟨⟨y, S1⟩, h1, c, hc, q⟩
    dsimp only at hc
    subst hc
    exact ⟨_, h1, wo_map.mpr q⟩
@[simp] theorem wx_seti {o i e : E} : Wx P (.seti o i e) σ S R ↔ We P e σ S fun v S1 => We P o σ S1 fun x S2 => We P i σ S2 fun y S3 => Wo' (seti S3 x y v) fun S4 => R .nx σ S4 := by
  simp only [we_def, wx_def, exec_seti, wo_bind, wo_map]
@[simp] theorem wx_iff {t : E} {a b : List St} : Wx P (.iff t a b) σ S R ↔ We P t σ S fun x S1 => Wo' (truth S1 x) fun c => if c then Ws P a σ S1 R else Ws P b σ S1 R := by
  simp only [we_def, wx_def, ws_def, exec_iff, wo_bind, wo_ite]
@[simp] theorem wx_ret {e : E} : Wx P (.ret e) σ S R ↔ We P e σ S fun d S1 => R (.rt d) σ S1 := by
  simp only [we_def, wx_def, exec_ret, wo_map]
@[simp] theorem wx_retn : Wx P .retn σ S R ↔ R (.rt (.b .non)) σ S := by simp only [wx_def, exec_retn, wo_some]
@[simp] theorem wx_ex {e : E} : Wx P (.ex e) σ S R ↔ We P e σ S fun d S1 => R .nx σ S1 := by
  simp only [we_def, wx_def, exec_ex, wo_map]
@[simp] theorem wx_cont : Wx P .cont σ S R ↔ R .ct σ S := by simp only [wx_def, exec_cont, wo_some]
@[simp] theorem ws_nil : Ws P [] σ S R ↔ R .nx σ S := by simp only [ws_def, execs_nil, wo_some]
/-- what follows a statement -/
def Nx (P : Par) (r : List St) (R : Fl → Sl → Store → Prop) : Fl → Sl → Store → Prop
  | .nx, σ, S => Ws P r σ S R
  | f, σ, S => R f σ S
@[simp] theorem nx_nx {r : List St} : Nx P r R .nx σ S = Ws P r σ S R := rfl
@[simp] theorem nx_rt {r : List St} {d : D} : Nx P r R (.rt d) σ S = R (.rt d) σ S := rfl
@[simp] theorem nx_ct {r : List St} : Nx P r R .ct σ S = R .ct σ S := rfl
theorem ws_cons {s : St} {r : List St} : Ws P (s :: r) σ S R ↔ Wx P s σ S (Nx P r R) := by
  simp only [ws_def, wx_def, execs_cons, wo_bind]
  constructor
  · rintro ⟨⟨f, σ2, S2⟩, h, q⟩
    refine ⟨_, h, ?_⟩
    cases f with
    | nx => exact ws_def.mpr q
    | rt d => obtain ⟨_, hh, q⟩ := q; cases hh; exact q
    | ct => obtain ⟨_, hh, q⟩ := q; cases hh; exact q
  · rintro ⟨⟨f, σ2, S2⟩, h, q⟩
    refine ⟨_, h, ?_⟩
    cases f with
    | nx => exact ws_def.mp q
    | rt d => exact ⟨_, rfl, q⟩
    | ct => exact ⟨_, rfl, q⟩
/-! ### numbers -/
section
variable {i j : Int} {Q : Int → Prop}
@[simp] theorem wo_add : Wo' (arith .add i j) Q ↔ Q (i + j) := wo_some
@[simp] theorem wo_sub : Wo' (arith .sub i j) Q ↔ Q (i - j) := wo_some
@[simp] theorem wo_and : Wo' (arith .band i j) Q ↔ Q (PySem.Builtin.bitAnd i j) := wo_some
@[simp] theorem wo_or : Wo' (arith .bor i j) Q ↔ Q (PySem.Builtin.bitOr i j) := wo_some
@[simp] theorem wo_xor : Wo' (arith .xor i j) Q ↔ Q (PySem.Builtin.bitXor i j) := wo_some
theorem wo_if {c : Prop} [Decidable c] {z : Int} : Wo' (if c then some z else none) Q ↔ c ∧ Q z := by
  rw [wo_ite, wo_some, wo_none]
  split <;> simp [*]
@[simp] theorem wo_mul : Wo' (arith .mul i j) Q ↔ mulOk i j = true ∧ Q (i * j) := wo_if
@[simp] theorem wo_mod : Wo' (arith .mod i j) Q ↔ 0 < j ∧ Q (i % j) := wo_if
@[simp] theorem wo_fdiv : Wo' (arith .fdiv i j) Q ↔ divOk j = true ∧ Q (i / j) := wo_if
@[simp] theorem wo_shr : Wo' (arith .shr i j) Q ↔ 0 ≤ j ∧ Q (i / 2 ^ j.toNat) := wo_if
@[simp] theorem wo_shl : Wo' (arith .shl i j) Q ↔ shlOk i j = true ∧ Q (i * 2 ^ j.toNat) := wo_if
@[simp] theorem wo_pow : Wo' (arith .pow i j) Q ↔ (0 ≤ j ∧ j ≤ 1000000 ∧ i.natAbs < 2 ^ 64) ∧ Q (i ^ j.toNat) := wo_if
end
@[simp] theorem wo_bin {o : Op} {i j : Int} {Q : D → Prop} : Wo' (bin S o (.b (.int i)) (.b (.int j))) Q ↔ Wo' (arith o i j) fun z => Q (.b (.int z)) := by rw [bin_ii, wo_map]
/-! ### calls -/
/-- what a def's end says -/
def Ret (val : Bool) (base : Nat) (Q : D → Store → Prop) : Fl → Sl → Store → Prop
  | .nx, _, S => Wo' (fin val base (.b .non) S) fun p => Q p.1 p.2
  | .rt d, _, S => Wo' (fin val base d S) fun p => Q p.1 p.2
  | .ct, _, _ => False
theorem wc_of {T : Tab} {k base f : Nat} {ds : List D} {fd : Fd} (hf : T.fn f = some fd) (hl : ds.length = fd.np)
    (h : Ws (par T k (if fd.val then S.length else base)) fd.body (start fd.ns ds) S (Ret fd.val S.length Q)) : Wc T (k + 1) base f ds S Q := by
  have e : evC T (k + 1) base f ds S = (T.fn f).bind fun fd => if ds.length = fd.np then (execs (par T k (if fd.val then S.length else base)) fd.body (start fd.ns ds) S).bind fun q => match q with
        | (.nx, _, S2) => fin fd.val S.length (.b .non) S2
        | (.rt d, _, S2) => fin fd.val S.length d S2
        | (.ct, _, _) => none
    else none := by
      cases k <;> rfl
  obtain ⟨fl, σ2, S2, h1, h2⟩ := h
  rw [wc_def, e, hf]
  show Wo' (if ds.length = fd.np then _ else none) _
  rw [if_pos hl, h1]
  cases fl with
  | nx => exact h2
  | rt d => exact h2
  | ct => exact h2.elim
@[simp] theorem ret_b {x : B} {base : Nat} : Ret true base Q (.rt (.b x)) σ S ↔ Q (.b x) (S.take base) := wo_some
@[simp] theorem ret_nx {base : Nat} : Ret true base Q .nx σ S ↔ Q (.b .non) (S.take base) := wo_some
@[simp] theorem ret_k {d : D} {base : Nat} : Ret false base Q (.rt d) σ S ↔ Q d S := wo_some
@[simp] theorem ret_knx {base : Nat} : Ret false base Q .nx σ S ↔ Q (.b .non) S := wo_some
theorem Wc.eq {T : Tab} {k base f : Nat} {ds : List D} {d : D} {S' : Store} (h : Wc T k base f ds S fun x y => x = d ∧ y = S') : evC T k base f ds S = some (d, S') := by
  obtain ⟨x, y, e, rfl, rfl⟩ := h
  exact e
theorem Wc.of {T : Tab} {k base f : Nat} {ds : List D} {d : D} {S' : Store} (e : evC T k base f ds S = some (d, S')) (q : Q d S') : Wc T k base f ds S Q := ⟨d, S', e, q⟩
theorem We.of {e : E} {d : D} {S' : Store} (h : ev P e σ S = some (d, S')) (q : Q d S') : We P e σ S Q := ⟨d, S', h, q⟩
/-! ### while, for -/
/-- the invariant at a turn with m turns left at most -/
theorem wx_whl {t : E} {b : List St} (I : Nat → Sl → Store → Prop) (m : Nat) (h0 : I m σ S) (hm : m < WF)
    (turn : ∀ m σ S, I m σ S → We P t σ S fun x S1 => Wo' (truth S1 x) fun c => if c then ∃ j, m = j + 1 ∧ Ws P b σ S1 (fun f σ2 S2 => match f with
      | .rt d => R (.rt d) σ2 S2
      | _ => I j σ2 S2) else R .nx σ S1) : Wx P (.whl t b) σ S R := by
  rw [wx_def, exec_whl]
  have key : ∀ (n m : Nat) (σ : Sl) (S : Store), m < n → I m σ S → Wo' (whileL (fun σ2 S2 => (ev P t σ2 S2).bind fun x => (truth x.2 x.1).map fun c => (c, x.2)) (fun σ2 S2 => execs P b σ2 S2) n σ S) fun p => R p.1 p.2.1 p.2.2 := by
    intro n
    induction n with
    | zero => intro m σ S h _; omega
    | succ n ih =>
      intro m σ S hmn hI
      have q := turn m σ S hI
      rw [we_def] at q
      obtain ⟨⟨x, S1⟩, e1, c, e2, q⟩ := q
      unfold whileL
      rw [e1]
      show Wo' (((truth S1 x).map fun c => (c, S1)).bind _) _
      rw [e2]
      show Wo' (if c then _ else _) _
      cases c with
      | false =>
        rw [if_neg Bool.false_ne_true] at q ⊢
        rw [wo_some]
        exact q
      | true =>
        rw [if_pos rfl] at q ⊢
        obtain ⟨j, hj, f, σ2, S2, e3, q⟩ := q
        rw [wo_bind]
        refine ⟨_, e3, ?_⟩
        cases f with
        | rt d => exact wo_some.mpr q
        | nx => exact ih j σ2 S2 (by omega) q
        | ct => exact ih j σ2 S2 (by omega) q
  exact key WF m σ S hm h0
theorem wx_for {g : Pt} {k : Ik} {es : List E} {b : List St} : Wx P (.for g k es b) σ S R ↔ Wes P es σ S fun ds S1 => Wo' (items S1 k ds) fun xs => Wo' (forL (fun σ2 S2 => execs P b σ2 S2) g xs σ (lockAll S1 ds)) fun r => Wo' (unlockAll S1 r.2.2 ds) fun S3 => R r.1 r.2.1 S3 := by
  simp only [wes_def, wx_def, exec_for, wo_bind, wo_map]
/-- the invariant ahead of each item: what lies behind, what is to come -/
theorem wo_forL {b : List St} {g : Pt} (I : List B → List B → Sl → Store → Prop) (turn : ∀ done x rest σ S, I done (x :: rest) σ S → Wo' (asg g x σ) fun σ2 => Ws P b σ2 S fun f σ3 S3 => match f with
      | .rt d => R (.rt d) σ3 S3
      | _ => I (done ++ [x]) rest σ3 S3) (last : ∀ done σ S, I done [] σ S → R .nx σ S) : ∀ (xs done : List B) (σ : Sl) (S : Store), I done xs σ S → Wo' (forL (fun σ2 S2 => execs P b σ2 S2) g xs σ S) fun r => R r.1 r.2.1 r.2.2
  | [], done, σ, S, h => wo_some.mpr (last done σ S h)
  | x :: xs, done, σ, S, h => by
    obtain ⟨σ2, e1, f, σ3, S3, e2, q⟩ := turn done x xs σ S h
    unfold forL
    rw [e1, bind_some', e2, bind_some']
    cases f with
    | rt d => exact wo_some.mpr q
    | nx => exact wo_forL I turn last xs _ σ3 S3 q
    | ct => exact wo_forL I turn last xs _ σ3 S3 q
/-! ### comprehensions -/
theorem we_lc {m : Bool} {g : Pt} {k : Ik} {es : List E} {t e : E} {w : List Nat} : We P (.lc m g k es t e w) σ S Q ↔ Wes P es σ S fun ds S1 => Wo' (items S1 k ds) fun xs => xs.length ≤ SZ ∧ Wo' (lcL (lcF P t e) g xs (wipe σ w) (lockAll S1 ds)) fun q => Wo' (unlockAll S1 q.2 ds) fun S3 => Wo' (newL S3 m q.1) fun p => Q p.1 p.2 := by
  simp only [wes_def, we_def, ev_lc, wo_bind, wo_ite, wo_none]
  constructor
  · rintro ⟨ds, h, xs, h1, q⟩
    split at q
    · exact ⟨ds, h, xs, h1, ‹_›, q⟩
    · exact q.elim
  · rintro ⟨ds, h, xs, h1, h2, q⟩
    exact ⟨ds, h, xs, h1, by show (if _ then _ else _); rw [if_pos h2]; exact q⟩
theorem we_pick {es : List E} {i : E} : We P (.pick es i) σ S Q ↔ Wes P es σ S fun ds S1 => We P i σ S1 fun y S2 => ∃ k, y = .b (.int k) ∧ ds.length ≤ SZ ∧ Wo' (L2.atI ds k) fun z => Q z S2 := by
  simp only [we_def, wes_def, ev_pick, wo_bind]
  constructor
  · rintro ⟨ds, h, y, h1, q⟩
    refine ⟨ds, h, y, h1, ?_⟩
    split at q
    · rename_i k hk
      rw [wo_ite, wo_none] at q
      split at q
      · exact ⟨k, hk, ‹_›, wo_map.mp q⟩
      · exact q.elim
    · rw [wo_none] at q; exact q.elim
  · rintro ⟨ds, h, ⟨y, S2⟩, h1, k, hk, hz, q⟩
    refine ⟨ds, h, (y, S2), h1, ?_⟩
    dsimp only at hk
    subst hk
    show Wo' (if ds.1.length ≤ SZ then _ else none) _
    rw [if_pos hz]
    exact wo_map.mpr q
theorem wx_blkK {i : Nat} {b : List St} (h : Ws P b σ S fun f σ2 S2 => f = .nx ∧ keepIns S S2 ∧ (σ2.set i none).all (low S.length) = true ∧ ∃ d, σ2[i]? = some (some d) ∧ Wo' (frz S2 S.length 8 d) fun y => R .nx (σ2.set i (some (.b y))) (S2.take S.length)) : Wx P (.blk i b) σ S R := by
  rw [wx_def, exec_blk, wo_bind]
  rw [ws_def] at h
  obtain ⟨⟨f, σ2, S2⟩, h0, hf, h1, h2, d, h3, h4⟩ := h
  dsimp only at hf h1 h2 h3 h4
  subst hf
  refine ⟨(.nx, σ2, S2), h0, ?_⟩
  show Wo' (if keepIns S S2 ∧ (σ2.set i none).all (low S.length) = true then (match σ2[i]? with
    | some (some d) => (frz S2 S.length 8 d).map fun y => (Fl.nx, σ2.set i (some (.b y)), S2.take S.length)
    | _ => none) else none) _
  rw [if_pos ⟨h1, h2⟩, h3]
  exact wo_map.mpr h4
theorem wx_blk {i : Nat} {b : List St} (h : Ws P b σ S fun f σ2 S2 => f = .nx ∧ (S2.take S.length).all noIns = true ∧ (σ2.set i none).all (low S.length) = true ∧ ∃ d, σ2[i]? = some (some d) ∧ Wo' (frz S2 S.length 8 d) fun y => R .nx (σ2.set i (some (.b y))) (S2.take S.length)) : Wx P (.blk i b) σ S R := by
  refine wx_blkK ?_
  rw [ws_def] at h ⊢
  obtain ⟨q, h0, hf, h1, h2⟩ := h
  exact ⟨q, h0, hf, .inl h1, h2⟩
theorem we_fzK {e : E} (h : We P e σ S fun d S2 => keepIns S S2 ∧ Wo' (frz S2 S.length 8 d) fun x => Q (.b x) (S2.take S.length)) : We P (.fz e) σ S Q := by
  rw [we_def, ev_fz, wo_bind]
  rw [we_def] at h
  obtain ⟨r, h0, h1, h2⟩ := h
  refine ⟨r, h0, ?_⟩
  show Wo' (if keepIns S r.2 then _ else none) _
  rw [if_pos h1]
  exact wo_map.mpr h2
theorem we_fz {e : E} (h : We P e σ S fun d S2 => (S2.take S.length).all noIns = true ∧ Wo' (frz S2 S.length 8 d) fun x => Q (.b x) (S2.take S.length)) : We P (.fz e) σ S Q := by
  refine we_fzK ?_
  obtain ⟨d, S2, h0, h1, h2⟩ := h
  exact ⟨d, S2, h0, .inl h1, h2⟩
/-- a dict that is written down and never changes -/
theorem we_fdic {es : List E} (h : Wes P es σ (S ++ [.dic []]) fun ds S2 => ∃ S' kvs, S2 = S' ++ [.dic []] ∧ S'.length = S.length ∧ S'.all noIns = true ∧ flat2 ds = some kvs ∧ kvs.length ≤ 15 ∧ Q (.b (.dic (dmerge [] kvs))) S') : We P (.fz (.dic es)) σ S Q := by
  refine we_fz ?_
  rw [we_def, ev_dic, wo_bind]
  rw [wes_def] at h
  obtain ⟨⟨ds, S2⟩, h0, S', kvs, e1, e2, e3, e4, e5, q⟩ := h
  refine ⟨(ds, S2), h0, ?_⟩
  dsimp only at e1 e4 q ⊢
  subst e1
  have g : (S' ++ [O.dic []])[S.length]? = some (.dic []) := by
    rw [← e2, List.getElem?_append_right (Nat.le_refl _), Nat.sub_self]
    rfl
  rw [g]
  dsimp only
  rw [e4]
  show Wo' ((some kvs).bind _) _
  rw [Option.bind_some, if_pos e5, wo_some]
  dsimp only
  have s1 : (S' ++ [O.dic []]).set S.length (.dic (dmerge [] kvs)) = S' ++ [.dic (dmerge [] kvs)] := by
    rw [← e2, List.set_append_right _ _ (Nat.le_refl _), Nat.sub_self]
    rfl
  rw [s1]
  have s2 : (S' ++ [O.dic (dmerge [] kvs)]).take S.length = S' := by rw [← e2, List.take_left]
  rw [s2]
  refine ⟨e3, ?_⟩
  have f : frz (S' ++ [O.dic (dmerge [] kvs)]) S.length 8 (.ref S.length) = some (.dic (dmerge [] kvs)) := by
    unfold frz
    rw [if_neg (Nat.lt_irrefl _)]
    have g2 : (S' ++ [O.dic (dmerge [] kvs)])[S.length]? = some (.dic (dmerge [] kvs)) := by
      rw [← e2, List.getElem?_append_right (Nat.le_refl _), Nat.sub_self]
      rfl
    rw [g2]
  rw [f, wo_some]
  exact q
theorem we_lkd {i n : Nat} {e : E} {kvs : List (Kd × B)} (h : σ[i]? = some (some (.ref n))) (hS : S[n]? = some (.dic kvs)) (hq : We P e σ (S.set n (.lockd kvs)) fun d S2 => ∃ ys, S2[n]? = some (.lockd ys) ∧ Q d (S2.set n (.dic ys))) : We P (.lkd i e) σ S Q := by
  rw [we_def, ev_lkd, h]
  dsimp only
  rw [hS]
  dsimp only
  have e1 : lockAll S [.ref n] = S.set n (.lockd kvs) := by
    show (match S[n]? with
      | some (.lst xs) => S.set n (.lockl xs)
      | some (.dic kvs) => S.set n (.lockd kvs)
      | _ => S) = _
    rw [hS]
  rw [e1, wo_bind]
  obtain ⟨d, S2, h1, ys, h2, h3⟩ := hq
  refine ⟨(d, S2), h1, ?_⟩
  have e2 : unlockAll S S2 [.ref n] = some (S2.set n (.dic ys)) := by
    show ((match S[n]? with
      | some (.lst xs) => (match S2[n]? with
        | some (.lockl ys) => some (S2.set n (.lst ys))
        | _ => none)
      | some (.dic kvs) => (match S2[n]? with
        | some (.lockd ys) => some (S2.set n (.dic ys))
        | _ => none)
      | _ => some S2).bind fun S2 => some S2) = _
    rw [hS]
    dsimp only
    rw [h2]
    rfl
  show Wo' (Option.map (fun S3 => (d, S3)) (unlockAll S S2 [D.ref n])) _
  rw [e2]
  exact wo_map.mpr ⟨_, rfl, h3⟩
/-- a comprehension whose parts change the store: an invariant, and what holds of each item -/
theorem wo_lcL {t e : E} {g : Pt} (I : List B → List B → List B → Store → Prop) (turn : ∀ done x rest ys S, I done (x :: rest) ys S → Wo' (asg g x σ) fun σ2 => We P t σ2 S fun c S1 => Wo' (truth S1 c) fun c => if c then We P e σ2 S1 fun d S2 => ∃ y, d = .b y ∧ I (done ++ [x]) rest (ys ++ [y]) S2 else I (done ++ [x]) rest ys S1)
    {Q : List B → Store → Prop} (last : ∀ done ys S, I done [] ys S → Q ys S) : ∀ (xs done ys : List B) (S : Store), I done xs ys S → Wo' (lcL (lcF P t e) g xs σ S) fun r => Q (ys ++ r.1) r.2
  | [], done, ys, S, h => wo_some.mpr (by rw [List.append_nil]; exact last done ys S h)
  | x :: xs, done, ys, S, h => by
    obtain ⟨σ2, e1, q⟩ := turn done x xs ys S h
    rw [we_def] at q
    obtain ⟨⟨c, S1⟩, e2, c1, e3, q⟩ := q
    unfold lcL
    rw [e1, bind_some']
    have hF : lcF P t e σ2 S = if c1 then (ev P e σ2 S1).bind fun y => (asB y).map fun z => (some z.1, z.2) else some (none, S1) := by
      unfold lcF
      rw [e2]
      show ((truth S1 c).bind _) = _
      rw [e3]
      rfl
    rw [hF]
    cases c1 with
    | false =>
      rw [if_neg Bool.false_ne_true] at q ⊢
      rw [bind_some', wo_map]
      exact (wo_lcL I turn last xs _ ys S1 q).mono fun r h => h
    | true =>
      rw [if_pos rfl] at q ⊢
      rw [we_def] at q
      obtain ⟨⟨d, S2⟩, e4, y, hy, q⟩ := q
      dsimp only at hy
      subst hy
      rw [e4, bind_some']
      show Wo' (((lcL (lcF P t e) g xs σ S2).map _)) _
      rw [wo_map]
      exact (wo_lcL I turn last xs _ (ys ++ [y]) S2 q).mono fun r h => by
        show Q (ys ++ (y :: r.1)) r.2
        rw [List.append_assoc] at h
        exact h
end
end M
/-! SX: more of it. -/
namespace M
theorem ws_seq {P : Par} {s : St} {r : List St} {σ : Sl} {S : Store} {R : Fl → Sl → Store → Prop} (N : Sl → Store → Prop) (h1 : Wx P s σ S fun f σ2 S2 => f = .nx ∧ N σ2 S2) (h2 : ∀ σ2 S2, N σ2 S2 → Ws P r σ2 S2 R) : Ws P (s :: r) σ S R := by
  rw [ws_cons]
  obtain ⟨f, σ2, S2, e, rfl, q⟩ := h1
  exact ⟨_, σ2, S2, e, h2 σ2 S2 q⟩
section
variable {S : Store}
@[simp] theorem wo_mapS {α β : Type} {x : Option α} {g : α → β} {Q : β → Prop} : Wo' (x.map g) Q ↔ Wo' x fun a => Q (g a) := wo_map
@[simp] theorem bi_len_scr {m : Bool} {xs : List B} : bi S .len m [.b (.scr xs)] = some (.b (.int xs.length), S) := rfl
@[simp] theorem bi_len_lst {m : Bool} {xs : List B} : bi S .len m [.b (.lst xs)] = some (.b (.int xs.length), S) := rfl
@[simp] theorem bi_len_tup {m : Bool} {xs : List B} : bi S .len m [.b (.tup xs)] = some (.b (.int xs.length), S) := rfl
@[simp] theorem bi_len_dic {m : Bool} {xs : List (Kd × B)} : bi S .len m [.b (.dic xs)] = some (.b (.int xs.length), S) := rfl
@[simp] theorem bi_int {m : Bool} {i : Int} : bi S .int m [.b (.int i)] = some (.b (.int i), S) := rfl
@[simp] theorem bi_int_bl {m c : Bool} : bi S .int m [.b (.bl c)] = some (.b (.int (if c then 1 else 0)), S) := rfl
theorem bi_sum {m : Bool} {xs : List Int} : bi S .sum m [.b (.lst (xs.map B.int))] = some (.b (.int xs.sum), S) := by
  have : ∀ xs : List Int, intsB (xs.map B.int) = some xs := by
    intro xs
    induction xs with
    | nil => rfl
    | cons x xs ih =>
      show (intsB (xs.map B.int)).map (x :: ·) = _
      rw [ih]
      rfl
  show pure' S (((some (xs.map B.int)).bind fun xs => (intsB xs).map fun ns => D.b (.int ns.sum))) = _
  rw [bind_some', this]
  rfl
theorem intsB_map : ∀ xs : List Int, intsB (xs.map B.int) = some xs
  | [] => rfl
  | x :: xs => by
    show (intsB (xs.map B.int)).map (x :: ·) = _
    rw [intsB_map xs]
    rfl
theorem idx_st {n : Nat} {xs : List B} (h : S[n]? = some (.lst xs)) (i : Int) : idx S (.ref n) (.b (.int i)) = (L2.atI xs i).map .b := by
  unfold idx dicD seqD
  dsimp only
  rw [h]
  rfl
theorem seti_st {n : Nat} {xs : List B} (h : S[n]? = some (.lst xs)) (i : Int) (y : B) : seti S (.ref n) (.b (.int i)) (.b y) = (L2.ixN xs.length i).map fun j => S.set n (.lst (xs.set j y)) := by
  unfold seti
  dsimp only
  rw [h]
theorem set_same {n : Nat} {o : O} (h : S[n]? = some o) : S.set n o = S := by
  refine List.ext_getElem? fun m => ?_
  by_cases hm : n = m
  · subst hm
    rw [List.getElem?_set_self (List.getElem?_eq_some_iff.mp h).1, h]
  · rw [List.getElem?_set_ne hm]
theorem set_at {n : Nat} {o o' : O} (h : S[n]? = some o) : (S.set n o')[n]? = some o' := List.getElem?_set_self (List.getElem?_eq_some_iff.mp h).1
@[simp] theorem idx_scr (xs : List B) (i : Int) : idx S (.b (.scr xs)) (.b (.int i)) = (L2.atI xs i).map .b := rfl
@[simp] theorem idx_lst (xs : List B) (i : Int) : idx S (.b (.lst xs)) (.b (.int i)) = (L2.atI xs i).map .b := rfl
@[simp] theorem idx_tup (xs : List B) (i : Int) : idx S (.b (.tup xs)) (.b (.int i)) = (L2.atI xs i).map .b := rfl
theorem atI_ok {α : Type} {xs : List α} {i : Int} (h : 0 ≤ i) (h2 : i < xs.length) : ∃ x, L2.atI xs i = some x ∧ xs[i.toNat]? = some x := by
  have h3 : i.toNat < xs.length := by omega
  refine ⟨xs[i.toNat], ?_, List.getElem?_eq_getElem h3⟩
  unfold L2.atI L2.ixN
  rw [if_pos h, if_pos h2]
  exact List.getElem?_eq_getElem h3
theorem atI_int {xs : List Int} {i : Int} (h : 0 ≤ i) (h2 : i < xs.length) : ∃ x, L2.atI (xs.map B.int) i = some (.int x) ∧ xs[i.toNat]? = some x := by
  obtain ⟨x, h3, h4⟩ := atI_ok (xs := xs.map B.int) h (by rw [List.length_map]; exact h2)
  rw [List.getElem?_map] at h4
  obtain ⟨y, h5, h6⟩ := Option.map_eq_some_iff.mp h4
  exact ⟨y, by rw [h3, ← h6], h5⟩
@[simp] theorem atI_0 {α : Type} {x : α} {xs : List α} : L2.atI (x :: xs) 0 = some x := by
  unfold L2.atI L2.ixN
  rw [if_pos (Int.le_refl _), if_pos (by simp <;> omega)]
  rfl
@[simp] theorem atI_1 {α : Type} {x y : α} {xs : List α} : L2.atI (x :: y :: xs) 1 = some y := by
  unfold L2.atI L2.ixN
  rw [if_pos (by decide), if_pos (by simp <;> omega)]
  rfl
@[simp] theorem ixN_0 {n : Nat} : L2.ixN (n + 1) 0 = some 0 := by
  unfold L2.ixN
  rw [if_pos (Int.le_refl _), if_pos (by simp <;> omega)]
  rfl
@[simp] theorem ixN_1 {n : Nat} : L2.ixN (n + 2) 1 = some 1 := by
  unfold L2.ixN
  rw [if_pos (by decide), if_pos (by simp <;> omega)]
  rfl
theorem mulOk_big (i : Int) (j : Int) (h : -(2 ^ 64) < j ∧ j < 2 ^ 64) : mulOk i j = true := mulOk_r h.1 h.2
theorem mt_app {n : Nat} {xs : List B} (h : S[n]? = some (.lst xs)) (hz : xs.length < SZ) (y : B) : M.mt S .append (.ref n) [.b y] = some (.b .non, S.set n (.lst (xs ++ [y]))) := by
  unfold M.mt
  dsimp only
  rw [h]
  show (if xs.length < SZ then _ else none) = _
  rw [if_pos hz]
theorem last_at {o : O} : (S ++ [o])[S.length]? = some o := by
  rw [List.getElem?_append_right (Nat.le_refl _), Nat.sub_self]
  rfl
theorem last_set {o o' : O} : (S ++ [o]).set S.length o' = S ++ [o'] := by
  rw [List.set_append_right _ _ (Nat.le_refl _), Nat.sub_self]
  rfl
theorem last_take {o : O} : (S ++ [o]).take S.length = S := by
  rw [List.take_append_of_le_length (Nat.le_refl _), List.take_length]
theorem lstD_ref {n : Nat} {xs : List B} (h : S[n]? = some (.lst xs)) : lstD S (.ref n) = some xs := by
  unfold lstD
  dsimp only
  rw [h]
@[simp] theorem lstD_b {xs : List B} : lstD S (.b (.lst xs)) = some xs := rfl
theorem bin_ll {xs ys : List B} (hz : xs.length + ys.length ≤ SZ) : bin S .add (.b (.lst xs)) (.b (.lst ys)) = some (.b (.lst (xs ++ ys))) := by
  show szL (xs ++ ys) = _
  unfold szL
  rw [List.length_append, if_pos hz]
theorem bin_lr {n : Nat} {xs ys : List B} (h : S[n]? = some (.lst ys)) (hz : xs.length + ys.length ≤ SZ) : bin S .add (.b (.lst xs)) (.ref n) = some (.b (.lst (xs ++ ys))) := by
  show ((some xs).bind fun xs => (lstD S (.ref n)).bind fun ys => szL (xs ++ ys)) = _
  rw [lstD_ref h]
  show szL (xs ++ ys) = _
  unfold szL
  rw [List.length_append, if_pos hz]
theorem wo_atI {α : Type} {xs : List α} {i : Int} {Q : α → Prop} (h : 0 ≤ i) (h2 : i < xs.length) (H : ∀ x ∈ xs, Q x) : Wo' (L2.atI xs i) Q := by
  obtain ⟨x, h3, h4⟩ := atI_ok h h2
  exact ⟨x, h3, H x (List.mem_of_getElem? h4)⟩
theorem eqB_ints : ∀ xs ys : List Int, eqBs (xs.map B.int) (ys.map B.int) = decide (xs = ys)
  | [], [] => rfl
  | [], y :: ys => rfl
  | x :: xs, [] => rfl
  | x :: xs, y :: ys => by
    show (x == y && eqBs (xs.map B.int) (ys.map B.int)) = _
    rw [eqB_ints xs ys]
    by_cases h : x = y
    · subst h
      simp
    · have : (x == y) = false := by simp [h]
      rw [this]
      simp [h]
theorem eqOk_ints (k : Nat) (xs : List Int) : (xs.map B.int).all (eqOk k) = true := by
  rw [List.all_eq_true]
  intro x hx
  obtain ⟨i, _, rfl⟩ := List.mem_map.mp hx
  cases k <;> rfl
theorem eq_ints (xs ys : List Int) : eqD S (.b (.lst (xs.map B.int))) (.b (.lst (ys.map B.int))) = some (decide (xs = ys)) := by
  show (if eqOk 12 (.lst (xs.map B.int)) && eqOk 12 (.lst (ys.map B.int)) then some (eqB (.lst (xs.map B.int)) (.lst (ys.map B.int))) else none) = _
  have h1 : eqOk 12 (.lst (xs.map B.int)) = true := eqOk_ints 11 xs
  have h2 : eqOk 12 (.lst (ys.map B.int)) = true := eqOk_ints 11 ys
  rw [h1, h2, Bool.and_self, if_pos rfl]
  show some (eqBs _ _) = _
  rw [eqB_ints]
theorem cmp_eq (x y : D) : cmp S .eq x y = (eqD S x y).or (eqT x y) := rfl
theorem cmp_ne (x y : D) : cmp S .ne x y = ((eqD S x y).or (eqT x y)).map (!·) := rfl
@[simp] theorem truth_lst {xs : List B} : truth S (.b (.lst xs)) = some (!xs.isEmpty) := rfl
@[simp] theorem truth_tup {xs : List B} : truth S (.b (.tup xs)) = some (!xs.isEmpty) := rfl
@[simp] theorem truth_non : truth S (.b .non) = some false := rfl
@[simp] theorem eqD_ii {i j : Int} : eqD S (.b (.int i)) (.b (.int j)) = some (i == j) := rfl
end
section
variable {σ : Sl} {S : Store} {Q : D → Store → Prop} {R : Fl → Sl → Store → Prop}
theorem we_make {T : Tab} {k b c f : Nat} {es : List E} {fz : Bool} (hi : T.init c = some (f, fz)) : We (par T (k + 1) b) (.make c es) σ S Q ↔ Wes (par T (k + 1) b) es σ S fun ds S1 =>
    if fz then Wc T k S1.length f (.ref S1.length :: ds) (S1 ++ [.ins c []]) fun d S2 => isNon d = true ∧ Wo' (frz S2 S1.length 8 (.ref S1.length)) fun x => Q (.b x) (S2.take S1.length)
    else Wc T k b f (.ref S1.length :: ds) (S1 ++ [.ins c []]) fun d S2 => isNon d = true ∧ Q (.ref S1.length) S2 := by
  have e : ev (par T (k + 1) b) (.make c es) σ S = (evs (par T (k + 1) b) es σ S).bind fun p => (T.init c).bind fun q =>
    if q.2 then (evC T k p.2.length q.1 (.ref p.2.length :: p.1) (p.2 ++ [.ins c []])).bind fun r => if isNon r.1 then (frz r.2 p.2.length 8 (.ref p.2.length)).map fun x => (.b x, r.2.take p.2.length) else none
    else (evC T k b q.1 (.ref p.2.length :: p.1) (p.2 ++ [.ins c []])).bind fun r => if isNon r.1 then some (.ref p.2.length, r.2) else none := rfl
  rw [we_def, wes_def, e, wo_bind]
  constructor
  · rintro ⟨p, h, q⟩
    refine ⟨p, h, ?_⟩
    rw [hi, bind_some'] at q
    cases fz with
    | true =>
      rw [if_pos rfl] at q ⊢
      rw [wo_bind] at q
      obtain ⟨r, h2, q⟩ := q
      split at q
      · rename_i hn
        rw [wo_map] at q
        exact ⟨r.1, r.2, h2, hn, q⟩
      · rw [wo_none] at q; exact q.elim
    | false =>
      rw [if_neg Bool.false_ne_true] at q ⊢
      rw [wo_bind] at q
      obtain ⟨r, h2, q⟩ := q
      split at q
      · rename_i hn
        rw [wo_some] at q
        exact ⟨r.1, r.2, h2, hn, q⟩
      · rw [wo_none] at q; exact q.elim
  · rintro ⟨p, h, q⟩
    refine ⟨p, h, ?_⟩
    rw [hi]
    show Wo' (if fz = true then _ else _) _
    cases fz with
    | true =>
      rw [if_pos rfl] at q ⊢
      obtain ⟨d, S2, h2, hn, q⟩ := q
      rw [wo_bind]
      refine ⟨(d, S2), h2, ?_⟩
      show Wo' (if isNon d = true then _ else _) _
      rw [if_pos hn, wo_map]
      exact q
    | false =>
      rw [if_neg Bool.false_ne_true] at q ⊢
      obtain ⟨d, S2, h2, hn, q⟩ := q
      rw [wo_bind]
      refine ⟨(d, S2), h2, ?_⟩
      show Wo' (if isNon d = true then _ else _) _
      rw [if_pos hn, wo_some]
      exact q
@[simp] theorem wx_setf {P : Par} {o e : E} {f : Nat} : Wx P (.setf o f e) σ S R ↔ We P e σ S fun v S1 => We P o σ S1 fun x S2 => Wo' (setf P.fo P.base S2 x f v) fun S3 => R .nx σ S3 := by
  have e1 : exec P (.setf o f e) σ S = (ev P e σ S).bind fun v => (ev P o σ v.2).bind fun x => (setf P.fo P.base x.2 x.1 f v.1).map fun S2 => (.nx, σ, S2) := rfl
  simp only [we_def, wx_def, e1, wo_bind, wo_map]
theorem wx_augi {P : Par} {o i e : E} {p : Op} : Wx P (.augi o i p e) σ S R ↔ We P o σ S fun x S1 => We P i σ S1 fun y S2 => Wo' (idx S2 x y) fun old => We P e σ S2 fun z S3 => ∃ a c, old = .b (.int a) ∧ z = .b (.int c) ∧ Wo' (arith p a c) fun w => Wo' (seti S3 x y (.b (.int w))) fun S4 => R .nx σ S4 := by
  have e1 : exec P (.augi o i p e) σ S = (ev P o σ S).bind fun x => (ev P i σ x.2).bind fun y => (idx y.2 x.1 y.1).bind fun old => (ev P e σ y.2).bind fun z => (match old, z.1 with
    | .b (.int a), .b (.int c) => (arith p a c).bind fun w => (seti z.2 x.1 y.1 (.b (.int w))).map fun S2 => (.nx, σ, S2)
    | _, _ => none) := rfl
  simp only [we_def, wx_def, e1, wo_bind]
  constructor
  · rintro ⟨x, h1, y, h2, old, h3, z, h4, q⟩
    refine ⟨x, h1, y, h2, old, h3, z, h4, ?_⟩
    split at q
    · rename_i a c hz
      rw [wo_bind] at q
      exact ⟨a, c, rfl, hz, q.mono fun w q => by
        obtain ⟨S4, h5, q⟩ := wo_map.mp q
        exact ⟨S4, h5, q⟩⟩
    · rw [wo_none] at q; exact q.elim
  · rintro ⟨x, h1, y, h2, old, h3, ⟨z, S3⟩, h4, a, c, ho, hz, q⟩
    refine ⟨x, h1, y, h2, old, h3, (z, S3), h4, ?_⟩
    dsimp only at hz
    subst ho hz
    show Wo' ((arith p a c).bind _) _
    rw [wo_bind]
    exact q.mono fun w q => by
      obtain ⟨S4, h5, q⟩ := q
      exact wo_map.mpr ⟨S4, h5, q⟩
end
section
variable {S S' : Store} {xs : List B}
@[simp] theorem items_lst : items S .sq [.b (.lst xs)] = some xs := rfl
@[simp] theorem items_tup : items S .sq [.b (.tup xs)] = some xs := rfl
@[simp] theorem items_scr : items S .sq [.b (.scr xs)] = some xs := rfl
@[simp] theorem lockAll_b {x : B} : lockAll S [.b x] = S := rfl
@[simp] theorem unlockAll_b {x : B} : unlockAll S S' [.b x] = some S' := rfl
@[simp] theorem unlockAll_b2 {x y : B} : unlockAll S S' [.b x, .b y] = some S' := rfl
@[simp] theorem lockAll_b2 {x y : B} : lockAll S [.b x, .b y] = S := rfl
theorem items_r1 {n : Nat} (h : n ≤ 1000000000) : items S .r1 [.b (.int n)] = some (rngB 0 n) := by
  show (if rOk (n : Int) then some (rngB 0 (n : Int).toNat) else none) = _
  have hr : rOk (n : Int) = true := decide_eq_true ⟨by omega, by omega⟩
  rw [if_pos hr]
  rfl
end
section
variable {P : Par} {σ : Sl} {S : Store} {Q : D → Store → Prop}
@[simp] theorem we_eqo {a b : E} : We P (.eqo a b) σ S Q ↔ We P a σ S fun x S1 => We P b σ S1 fun y S2 => Wo' (eqo P S2 x y) fun r => Q (.b (.bl r.1)) r.2 := by
  have e : ev P (.eqo a b) σ S = (ev P a σ S).bind fun x => (ev P b σ x.2).bind fun y => (eqo P y.2 x.1 y.1).map fun r => (.b (.bl r.1), r.2) := rfl
  simp only [we_def, e, wo_bind, wo_map]
@[simp] theorem we_isc {c : Nat} {a : E} : We P (.isc c a) σ S Q ↔ We P a σ S fun x S1 => Wo' (isc S1 c x) fun r => Q (.b (.bl r)) S1 := by
  have e : ev P (.isc c a) σ S = (ev P a σ S).bind fun x => (isc x.2 c x.1).map fun r => (.b (.bl r), x.2) := rfl
  simp only [we_def, e, wo_bind, wo_map]
theorem eqo_ins {T : Tab} {k b c f : Nat} {fs : List (Nat × B)} {y : D} {Q : Bool × Store → Prop} (hf : T.eqm c = some f) (hy : okY S c y = true) (h : Wc T k b f [.b (.ins c fs), y] S fun d S' => ∃ z, d = .b (.bl z) ∧ Q (z, S')) : Wo' (eqo (par T k b) S (.b (.ins c fs)) y) Q := by
  obtain ⟨d, S', e, z, rfl, q⟩ := h
  refine ⟨(z, S'), ?_, q⟩
  have e1 : eqo (par T k b) S (.b (.ins c fs)) y = if okY S c y then (T.eqm c).bind fun f => (evC T k b f [.b (.ins c fs), y] S).bind fun r => (match r.1 with
      | .b (.bl z) => some (z, r.2)
      | _ => none) else none := rfl
  rw [e1, if_pos hy, hf, bind_some', e]
  rfl
theorem eqo_cmp {x y : D} (hx : ∀ c fs, x ≠ .b (.ins c fs)) {r : Bool} (h : cmp S .eq x y = some r) : eqo P S x y = some (r, S) := by
  unfold eqo
  split
  · exact (hx _ _ rfl).elim
  · rw [h]
  · rw [h]
    rfl
end
/-! ### statements one by one, what follows kept shut -/
theorem ws_open {P : Par} {s : St} {r : List St} {σ : Sl} {S : Store} {R : Fl → Sl → Store → Prop} (h : ∀ r', r' = r → Wx P s σ S (Nx P r' R)) : Ws P (s :: r) σ S R := by
  rw [ws_cons]
  exact h r rfl
theorem lockAll_bs : ∀ (ds : List B) (S : Store), lockAll S (ds.map D.b) = S
  | [], _ => rfl
  | _ :: ds, S => lockAll_bs ds S
theorem unlockAll_bs : ∀ (ds : List B) (S S' : Store), unlockAll S S' (ds.map D.b) = some S'
  | [], _, _ => rfl
  | _ :: ds, S, S' => unlockAll_bs ds S S'
/-- a walk over what never changes: an invariant by the number of turns -/
theorem wx_forN {P : Par} {g : Pt} {k : Ik} {es : List E} {b : List St} {σ : Sl} {S : Store} {R : Fl → Sl → Store → Prop} {xs : List B} {ds : List B} (hes : ∀ Q : List D → Store → Prop, Q (ds.map D.b) S → Wes P es σ S Q) (hit : items S k (ds.map D.b) = some xs)
    (I : Nat → Sl → Store → Prop) (h0 : I 0 σ S) (turn : ∀ j x σ1 S1, xs[j]? = some x → I j σ1 S1 → Wo' (asg g x σ1) fun σ2 => Ws P b σ2 S1 fun f σ3 S3 => match f with
      | .rt d => R (.rt d) σ3 S3
      | _ => I (j + 1) σ3 S3) (last : ∀ σ1 S1, I xs.length σ1 S1 → R .nx σ1 S1) : Wx P (.for g k es b) σ S R := by
  rw [wx_for]
  refine hes _ ?_
  rw [hit, wo_some, lockAll_bs]
  refine (wo_forL (R := R) (fun dn rest σ1 S1 => dn ++ rest = xs ∧ I dn.length σ1 S1) ?_ ?_ xs [] σ S ⟨rfl, h0⟩).mono fun q hq => ?_
  · rintro dn x rest σ1 S1 ⟨e, hI⟩
    refine (turn dn.length x σ1 S1 (by rw [← e]; simp) hI).mono fun σ2 h => h.mono fun f σ3 S3 q => ?_
    cases f with
    | rt d => exact q
    | nx => exact ⟨by rw [← e]; simp, by rw [List.length_append]; exact q⟩
    | ct => exact ⟨by rw [← e]; simp, by rw [List.length_append]; exact q⟩
  · rintro dn σ1 S1 ⟨e, hI⟩
    rw [List.append_nil] at e
    subst e
    exact last σ1 S1 hI
  · rw [unlockAll_bs, wo_some]
    exact hq
/-- a comprehension over what never changes: an invariant by the number of turns -/
theorem we_lcN {P : Par} {m : Bool} {g : Pt} {k : Ik} {es : List E} {t e : E} {w : List Nat} {σ : Sl} {S : Store} {Q : D → Store → Prop} {xs : List B} {ds : List B} (hes : ∀ Q : List D → Store → Prop, Q (ds.map D.b) S → Wes P es σ S Q) (hit : items S k (ds.map D.b) = some xs) (hz : xs.length ≤ SZ)
    (I : Nat → List B → Store → Prop) (h0 : I 0 [] S) (turn : ∀ j x ys S1, xs[j]? = some x → I j ys S1 → Wo' (asg g x (wipe σ w)) fun σ2 => We P t σ2 S1 fun c S2 => Wo' (truth S2 c) fun c => if c then We P e σ2 S2 fun d S3 => ∃ y, d = .b y ∧ I (j + 1) (ys ++ [y]) S3 else I (j + 1) ys S2)
    (last : ∀ ys S1, I xs.length ys S1 → Wo' (newL S1 m ys) fun p => Q p.1 p.2) : We P (.lc m g k es t e w) σ S Q := by
  rw [we_lc]
  refine hes _ ?_
  rw [hit, wo_some, lockAll_bs]
  refine ⟨hz, (wo_lcL (Q := fun ys S1 => I xs.length ys S1) (fun dn rest ys S1 => dn ++ rest = xs ∧ I dn.length ys S1) ?_ ?_ xs [] [] S ⟨rfl, h0⟩).mono fun q hq => ?_⟩
  · rintro dn x rest ys S1 ⟨e1, hI⟩
    refine (turn dn.length x ys S1 (by rw [← e1]; simp) hI).mono fun σ2 h => h.mono fun c S2 q => q.mono fun c q => ?_
    cases c with
    | true =>
      rw [if_pos rfl] at q ⊢
      exact q.mono fun d S3 ⟨y, hy, q⟩ => ⟨y, hy, by rw [← e1]; simp, by rw [List.length_append]; exact q⟩
    | false =>
      rw [if_neg Bool.false_ne_true] at q ⊢
      exact ⟨by rw [← e1]; simp, by rw [List.length_append]; exact q⟩
  · rintro dn ys S1 ⟨e1, hI⟩
    rw [List.append_nil] at e1
    subst e1
    exact hI
  · rw [unlockAll_bs, wo_some]
    exact last _ _ hq
/-- .. whose parts change nothing -/
theorem we_lcP {P : Par} {g : Pt} {k : Ik} {es : List E} {t e : E} {w : List Nat} {σ : Sl} {S : Store} {Q : D → Store → Prop} {xs : List B} {ds : List B} (p : B → Bool) (h : B → B) (hes : ∀ Q : List D → Store → Prop, Q (ds.map D.b) S → Wes P es σ S Q) (hit : items S k (ds.map D.b) = some xs) (hz : xs.length ≤ SZ)
    (turn : ∀ x ∈ xs, Wo' (asg g x (wipe σ w)) fun σ2 => We P t σ2 S fun c S2 => S2 = S ∧ c = .b (.bl (p x)) ∧ (p x = true → We P e σ2 S fun d S3 => S3 = S ∧ d = .b (h x)))
    (hQ : Q (.b (.lst ((xs.filter p).map h))) S) : We P (.lc false g k es t e w) σ S Q := by
  refine we_lcN hes hit hz (fun j ys S1 => S1 = S ∧ ys = ((xs.take j).filter p).map h) ⟨rfl, rfl⟩ ?_ ?_
  · rintro j x ys S1 hx ⟨rfl, rfl⟩
    refine (turn x (List.mem_of_getElem? hx)).mono fun σ2 q => q.mono fun c S2 ⟨e1, e2, q⟩ => ?_
    subst e1 e2
    refine ⟨p x, rfl, ?_⟩
    have ht : xs.take (j + 1) = xs.take j ++ [x] := by rw [List.take_add_one, hx]; rfl
    dsimp only
    split
    · rename_i hp
      refine (q hp).mono fun d S3 ⟨e1, e2⟩ => ⟨h x, e2, e1, ?_⟩
      rw [ht, List.filter_append, List.map_append, List.filter_cons_of_pos hp]
      rfl
    · rename_i hp
      exact ⟨rfl, by rw [ht, List.filter_append, List.map_append, List.filter_cons_of_neg hp]; simp⟩
  · rintro ys S1 ⟨rfl, rfl⟩
    rw [List.take_length]
    have : (((xs.filter p).map h)).length ≤ SZ := by
      rw [List.length_map]
      exact Nat.le_trans (List.length_filter_le _ _) hz
    show Wo' (if _ then some _ else none) _
    rw [if_pos this, wo_some]
    exact hQ
/-! ### walks over a list of the store -/
theorem lock_lst {S : Store} {n : Nat} {xs : List B} (h : S[n]? = some (.lst xs)) : lockAll S [.ref n] = S.set n (.lockl xs) := by
  show lock S (.ref n) = _
  unfold lock
  dsimp only
  rw [h]
theorem unlock_lst {S S' : Store} {n : Nat} {xs ys : List B} (h : S[n]? = some (.lst xs)) (h2 : S'[n]? = some (.lockl ys)) : unlockAll S S' [.ref n] = some (S'.set n (.lst ys)) := by
  show (unlock S S' (.ref n)).bind _ = _
  unfold unlock
  dsimp only
  rw [h]
  dsimp only
  rw [h2]
  rfl
theorem items_ref {S : Store} {n : Nat} {xs : List B} (h : S[n]? = some (.lst xs)) : items S .sq [.ref n] = some xs := by
  show seqD S (.ref n) = _
  unfold seqD
  dsimp only
  rw [h]
theorem wx_forR {P : Par} {g : Pt} {es : List E} {b : List St} {σ : Sl} {S : Store} {R : Fl → Sl → Store → Prop} {n : Nat} {xs : List B} (hes : ∀ Q : List D → Store → Prop, Q [.ref n] S → Wes P es σ S Q) (hS : S[n]? = some (.lst xs))
    (I : Nat → Sl → Store → Prop) (h0 : I 0 σ (S.set n (.lockl xs))) (turn : ∀ j x σ1 S1, xs[j]? = some x → I j σ1 S1 → Wo' (asg g x σ1) fun σ2 => Ws P b σ2 S1 fun f σ3 S3 => match f with
      | .rt d => S3[n]? = some (.lockl xs) ∧ R (.rt d) σ3 (S3.set n (.lst xs))
      | _ => I (j + 1) σ3 S3) (last : ∀ σ1 S1, I xs.length σ1 S1 → S1[n]? = some (.lockl xs) ∧ R .nx σ1 (S1.set n (.lst xs))) : Wx P (.for g .sq es b) σ S R := by
  rw [wx_for]
  refine hes _ ?_
  rw [items_ref hS, wo_some, lock_lst hS]
  refine (wo_forL (R := fun f σ3 S3 => S3[n]? = some (.lockl xs) ∧ R f σ3 (S3.set n (.lst xs))) (fun dn rest σ1 S1 => dn ++ rest = xs ∧ I dn.length σ1 S1) ?_ ?_ xs [] σ _ ⟨rfl, h0⟩).mono fun q hq => ?_
  · rintro dn x rest σ1 S1 ⟨e, hI⟩
    refine (turn dn.length x σ1 S1 (by rw [← e]; simp) hI).mono fun σ2 h => h.mono fun f σ3 S3 q => ?_
    cases f with
    | rt d => exact q
    | nx => exact ⟨by rw [← e]; simp, by rw [List.length_append]; exact q⟩
    | ct => exact ⟨by rw [← e]; simp, by rw [List.length_append]; exact q⟩
  · rintro dn σ1 S1 ⟨e, hI⟩
    rw [List.append_nil] at e
    subst e
    exact last σ1 S1 hI
  · rw [unlock_lst hS hq.1, wo_some]
    exact hq.2
theorem we_lcR {P : Par} {g : Pt} {es : List E} {t e : E} {w : List Nat} {σ : Sl} {S : Store} {Q : D → Store → Prop} {n : Nat} {xs : List B} (p : B → Bool) (h : B → B) (hes : ∀ Q : List D → Store → Prop, Q [.ref n] S → Wes P es σ S Q) (hS : S[n]? = some (.lst xs)) (hz : xs.length ≤ SZ)
    (turn : ∀ x ∈ xs, Wo' (asg g x (wipe σ w)) fun σ2 => We P t σ2 (S.set n (.lockl xs)) fun c S2 => S2 = S.set n (.lockl xs) ∧ c = .b (.bl (p x)) ∧ (p x = true → We P e σ2 (S.set n (.lockl xs)) fun d S3 => S3 = S.set n (.lockl xs) ∧ d = .b (h x)))
    (hQ : Q (.b (.lst ((xs.filter p).map h))) S) : We P (.lc false g .sq es t e w) σ S Q := by
  rw [we_lc]
  refine hes _ ?_
  rw [items_ref hS, wo_some, lock_lst hS]
  refine ⟨hz, (wo_lcL (Q := fun ys S1 => S1 = S.set n (.lockl xs) ∧ ys = (xs.filter p).map h) (fun dn rest ys S1 => dn ++ rest = xs ∧ S1 = S.set n (.lockl xs) ∧ ys = (dn.filter p).map h) ?_ ?_ xs [] [] _ ⟨rfl, rfl, rfl⟩).mono fun q hq => ?_⟩
  · rintro dn x rest ys S1 ⟨e1, rfl, rfl⟩
    refine (turn x (by rw [← e1]; simp)).mono fun σ2 q => q.mono fun c S2 ⟨e2, e3, q⟩ => ?_
    subst e2 e3
    refine ⟨p x, rfl, ?_⟩
    dsimp only
    split
    · rename_i hp
      refine (q hp).mono fun d S3 ⟨e2, e3⟩ => ⟨h x, e3, by rw [← e1]; simp, e2, ?_⟩
      rw [List.filter_append, List.map_append, List.filter_cons_of_pos hp]
      rfl
    · rename_i hp
      exact ⟨by rw [← e1]; simp, rfl, by rw [List.filter_append, List.map_append, List.filter_cons_of_neg hp]; simp⟩
  · rintro dn ys S1 ⟨e1, rfl, rfl⟩
    rw [List.append_nil] at e1
    subst e1
    exact ⟨rfl, rfl⟩
  · obtain ⟨h1, h2⟩ := hq
    have hlk : q.2[n]? = some (.lockl xs) := by rw [h1]; exact set_at hS
    rw [unlock_lst hS hlk, wo_some, h1, List.set_set, set_same hS]
    have : q.1.length ≤ SZ := by
      rw [show q.1 = (xs.filter p).map h from by simpa using h2, List.length_map]
      exact Nat.le_trans (List.length_filter_le _ _) hz
    show Wo' (if _ then some _ else none) _
    rw [if_pos (by simpa using this), wo_some]
    have h3 : [] ++ q.1 = (xs.filter p).map h := h2
    rw [List.nil_append] at h3
    rw [h3]
    exact hQ
theorem rep_s {α : Type} (n : Nat) (x : α) : List.replicate (n + 1) x = x :: List.replicate n x := rfl
/-! ### a statement that walks a dict -/
theorem wx_lks {P : Par} {i n : Nat} {s : St} {σ : Sl} {S : Store} {R : Fl → Sl → Store → Prop} {kvs : List (Kd × B)} (h : σ[i]? = some (some (.ref n))) (hS : S[n]? = some (.dic kvs)) (hq : Wx P s σ (S.set n (.lockd kvs)) fun f σ2 S2 => ∃ ys, S2[n]? = some (.lockd ys) ∧ R f σ2 (S2.set n (.dic ys))) : Wx P (.lks i s) σ S R := by
  rw [wx_def, exec_lks, h]
  dsimp only
  rw [hS]
  dsimp only
  have e1 : lockAll S [.ref n] = S.set n (.lockd kvs) := by
    show (match S[n]? with
      | some (.lst xs) => S.set n (.lockl xs)
      | some (.dic kvs) => S.set n (.lockd kvs)
      | _ => S) = _
    rw [hS]
  rw [e1, wo_bind]
  rw [wx_def] at hq
  obtain ⟨⟨f, σ2, S2⟩, h1, ys, h2, h3⟩ := hq
  refine ⟨(f, σ2, S2), h1, ?_⟩
  dsimp only at h2 h3
  have e2 : unlockAll S S2 [.ref n] = some (S2.set n (.dic ys)) := by
    show ((match S[n]? with
      | some (.lst xs) => (match S2[n]? with
        | some (.lockl ys) => some (S2.set n (.lst ys))
        | _ => none)
      | some (.dic kvs) => (match S2[n]? with
        | some (.lockd ys) => some (S2.set n (.dic ys))
        | _ => none)
      | _ => some S2).bind fun S2 => some S2) = _
    rw [hS]
    dsimp only
    rw [h2]
    rfl
  show Wo' (Option.map (fun S3 => (f, σ2, S3)) (unlockAll S S2 [D.ref n])) _
  rw [e2]
  exact wo_some.mpr h3
theorem wx_lksB {P : Par} {i : Nat} {s : St} {σ : Sl} {S : Store} {R : Fl → Sl → Store → Prop} {x : B} (h : σ[i]? = some (some (.b x))) : Wx P (.lks i s) σ S R ↔ Wx P s σ S R := by
  rw [wx_def, wx_def, exec_lks, h]
theorem we_lkdB {P : Par} {i : Nat} {e : E} {σ : Sl} {S : Store} {Q : D → Store → Prop} {x : B} (h : σ[i]? = some (some (.b x))) : We P (.lkd i e) σ S Q ↔ We P e σ S Q := by
  rw [we_def, we_def, ev_lkd, h]
end M
/-! SY: dict comprehensions. -/
namespace M
section
variable {P : Par} {σ : Sl} {S : Store} {Q : D → Store → Prop}
theorem ev_dc (m : Bool) (g : Pt) (k : Ik) (es : List E) (t ke e : E) (w : List Nat) : ev P (.dc m g k es t ke e w) σ S = (evs P es σ S).bind fun p => (items p.2 k p.1).bind fun xs => if xs.length ≤ SZ then
      (dcL (dcF P t ke e) g xs (wipe σ w) (lockAll p.2 p.1) []).bind fun q => (unlockAll p.2 q.2 p.1).bind fun S3 => newD S3 m q.1 else none := rfl
theorem we_dc {m : Bool} {g : Pt} {k : Ik} {es : List E} {t ke e : E} {w : List Nat} : We P (.dc m g k es t ke e w) σ S Q ↔ Wes P es σ S fun ds S1 => Wo' (items S1 k ds) fun xs => xs.length ≤ SZ ∧ Wo' (dcL (dcF P t ke e) g xs (wipe σ w) (lockAll S1 ds) []) fun q => Wo' (unlockAll S1 q.2 ds) fun S3 => Wo' (newD S3 m q.1) fun p => Q p.1 p.2 := by
  simp only [wes_def, we_def, ev_dc, wo_bind, wo_ite, wo_none]
  constructor
  · rintro ⟨ds, h, xs, h1, q⟩
    split at q
    · exact ⟨ds, h, xs, h1, ‹_›, q⟩
    · exact q.elim
  · rintro ⟨ds, h, xs, h1, h2, q⟩
    exact ⟨ds, h, xs, h1, by show (if _ then _ else _); rw [if_pos h2]; exact q⟩
theorem wo_dcL {t ke e : E} {g : Pt} {xs : List B} (I : Nat → List (Kd × B) → Store → Prop) (turn : ∀ j x acc S, xs[j]? = some x → I j acc S → Wo' (asg g x σ) fun σ2 => We P t σ2 S fun c S1 => Wo' (truth S1 c) fun c => if c then We P ke σ2 S1 fun d S2 => Wo' (keyD d) fun kk => We P e σ2 S2 fun d S3 => ∃ y, d = .b y ∧ I (j + 1) (dput acc kk y) S3 else I (j + 1) acc S1) :
    ∀ (rest dn : List B) (acc : List (Kd × B)) (S : Store), dn ++ rest = xs → I dn.length acc S → Wo' (dcL (dcF P t ke e) g rest σ S acc) fun r => I xs.length r.1 r.2
  | [], dn, acc, S, h, hI => by
    rw [List.append_nil] at h
    subst h
    exact wo_some.mpr hI
  | x :: rest, dn, acc, S, h, hI => by
    obtain ⟨σ2, e1, q⟩ := turn dn.length x acc S (by rw [← h]; simp) hI
    rw [we_def] at q
    obtain ⟨⟨c, S1⟩, e2, c1, e3, q⟩ := q
    unfold dcL
    rw [e1, bind_some']
    have hF : dcF P t ke e σ2 S = if c1 then (ev P ke σ2 S1).bind fun x => (keyD x.1).bind fun k => (ev P e σ2 x.2).bind fun y => (asB y).map fun z => (some (k, z.1), z.2) else some (none, S1) := by
      unfold dcF
      rw [e2]
      show ((truth S1 c).bind _) = _
      rw [e3]
      rfl
    rw [hF]
    cases c1 with
    | false =>
      rw [if_neg Bool.false_ne_true] at q ⊢
      rw [bind_some']
      exact wo_dcL I turn rest (dn ++ [x]) acc S1 (by rw [List.append_assoc]; exact h) (by rw [List.length_append]; exact q)
    | true =>
      rw [if_pos rfl] at q ⊢
      rw [we_def] at q
      obtain ⟨⟨d, S2⟩, e4, kk, e5, q⟩ := q
      rw [we_def] at q
      obtain ⟨⟨d2, S3⟩, e6, y, hy, q⟩ := q
      dsimp only at e5 hy q
      subst hy
      rw [e4, bind_some']
      dsimp only at e6
      dsimp only
      rw [e5, bind_some', e6, bind_some']
      exact wo_dcL I turn rest (dn ++ [x]) (dput acc kk y) S3 (by rw [List.append_assoc]; exact h) (by rw [List.length_append]; exact q)
theorem we_dcN {m : Bool} {g : Pt} {k : Ik} {es : List E} {t ke e : E} {w : List Nat} {xs : List B} {ds : List B} (hes : ∀ Q : List D → Store → Prop, Q (ds.map D.b) S → Wes P es σ S Q) (hit : items S k (ds.map D.b) = some xs) (hz : xs.length ≤ SZ)
    (I : Nat → List (Kd × B) → Store → Prop) (h0 : I 0 [] S) (turn : ∀ j x acc S1, xs[j]? = some x → I j acc S1 → Wo' (asg g x (wipe σ w)) fun σ2 => We P t σ2 S1 fun c S2 => Wo' (truth S2 c) fun c => if c then We P ke σ2 S2 fun d S3 => Wo' (keyD d) fun kk => We P e σ2 S3 fun d S4 => ∃ y, d = .b y ∧ I (j + 1) (dput acc kk y) S4 else I (j + 1) acc S2)
    (last : ∀ acc S1, I xs.length acc S1 → Wo' (newD S1 m acc) fun p => Q p.1 p.2) : We P (.dc m g k es t ke e w) σ S Q := by
  rw [we_dc]
  refine hes _ ?_
  rw [hit, wo_some, lockAll_bs]
  refine ⟨hz, (wo_dcL I turn xs [] [] S rfl h0).mono fun q hq => ?_⟩
  rw [unlockAll_bs, wo_some]
  exact last _ _ hq
end
theorem keep_app (S J : Store) : keepIns S (S ++ J) := .inr fun n hn c fs h => by
  rw [List.getElem?_append_left hn] at h
  exact h
end M
/-! the text of law_k20_blocks_as_numbers for the small interpreter, printed by gen.py -/
namespace G
open PySem PySem.Spec PyProof.Rows L2 M
def txts : List PySem.Str := ((["collision", "value", "absent", "end", "count", "", "rest", "order", "weight", "members", "following", "header", "chain", "votes", "height", "time"] : List PySem.Str) ++ (["future", "previous", "next", "overlap", "expired", "missing", "other", "halted", "below", "trusted", "refused", "culprits", "key", "same", "amount", "balance"] : List PySem.Str) ++ (["fault", "done", "keys", "transfers", "roots", "start", "step", "else", "a", "b", "range", "all", "entries", "none", "entry", "root"] : List PySem.Str) ++ (["behind", "first", "found", "block", "state", "width", "blocks", "policy", "base", "hasher", "steps", "endless", "silent", "fork"] : List PySem.Str))
def flds : List PySem.Str := ((["width", "is_digest", "digest", "hasher", "proof", "inputs", "root", "depth", "others", "last", "low", "high", "at", "found", "broken", "take"] : List PySem.Str) ++ (["leaf", "hidden", "node", "secret", "levels", "key_words", "words", "tops", "rows", "public", "chains", "word", "path", "sign", "some", "__init__"] : List PySem.Str) ++ (["chain", "height", "time", "previous", "state", "members", "following", "header", "votes", "fields", "numbers", "left", "one", "count", "row", "block"] : List PySem.Str) ++ (["close", "period", "drift", "trusted", "policy", "halted", "base", "steps", "start_fault", "fault", "step", "blocks", "states", "add", "pairs_at", "leads"] : List PySem.Str) ++ (["grow", "heights", "reach", "answers", "plan", "follow", "transfers", "roots", "why", "headers", "leaves", "taken", "checkpoint", "advance", "growth", "shows"] : List PySem.Str))
def Nm : Nms := ⟨txts, by decide +kernel, by decide +kernel, flds, by decide +kernel⟩
/-- __init__ -/
def f_p_headers_Header___init__ : Fd := ⟨8, 8, false, [(.setf (.v 0) 32 (.v 1)), (.setf (.v 0) 33 (.v 2)), (.setf (.v 0) 34 (.v 3)), (.setf (.v 0) 35 (.v 4)), (.setf (.v 0) 36 (.v 5)), (.setf (.v 0) 37 (.v 6)), (.setf (.v 0) 38 (.v 7))]⟩
/-- fields -/
def f_p_headers_Header_fields : Fd := ⟨1, 1, true, [(.ret (.tup [(.att (.v 0) 32), (.att (.v 0) 33), (.att (.v 0) 34), (.att (.v 0) 35), (.att (.v 0) 36), (.att (.v 0) 37), (.att (.v 0) 38)]))]⟩
/-- __eq__ -/
def f_p_headers_Header___eq__ : Fd := ⟨2, 2, true, [(.iff (.not (.isc 6 (.v 1))) [(.ret (.k (.bl false)))] []), (.ret (.cmp .eq (.meth (.v 0) 41 []) (.meth (.v 1) 41 [])))]⟩
/-- __init__ -/
def f_p_headers_Block___init__ : Fd := ⟨5, 5, false, [(.setf (.v 0) 39 (.v 1)), (.setf (.v 0) 37 (.bi .tuple false [(.v 2)])), (.setf (.v 0) 38 (.bi .tuple false [(.v 3)])), (.setf (.v 0) 40 (.bi .tuple false [(.v 4)]))]⟩
/-- __eq__ -/
def f_p_headers_Block___eq__ : Fd := ⟨2, 3, true, [(.iff (.not (.isc 7 (.v 1))) [(.ret (.k (.bl false)))] []), (.set 2 (.tup [(.att (.v 0) 39), (.att (.v 0) 37), (.att (.v 0) 38), (.att (.v 0) 40)])), (.ret (.eqo (.v 2) (.tup [(.att (.v 1) 39), (.att (.v 1) 37), (.att (.v 1) 38), (.att (.v 1) 40)])))]⟩
/-- numbers_of_row -/
def f_p_numbers_numbers_of_row : Fd := ⟨1, 1, true, [(.ret (.bin .add (.lst false [(.bi .len false [(.v 0)])]) (.bi .list false [(.v 0)])))]⟩
/-- numbers_of_members -/
def f_p_numbers_numbers_of_members : Fd := ⟨1, 4, true, [(.set 1 (.lst true [(.bi .len false [(.v 0)])])), (.for (.t [(.n 2), (.n 3)]) .sq [(.v 0)] [(.ex (.mt .extend (.v 1) [(.lst false [(.v 2), (.v 3)])]))]), (.ret (.v 1))]⟩
/-- numbers_of_votes -/
def f_p_numbers_numbers_of_votes : Fd := ⟨1, 4, true, [(.set 1 (.lst true [(.bi .len false [(.v 0)])])), (.for (.t [(.n 2), (.n 3)]) .sq [(.v 0)] [(.ex (.mt .append (.v 1) [(.v 2)])), (.ex (.mt .extend (.v 1) [(.call 73 [(.v 3)])]))]), (.ret (.v 1))]⟩
/-- numbers_of_block -/
def f_p_numbers_numbers_of_block : Fd := ⟨1, 2, true, [(.set 1 (.bin .add (.call 74 [(.att (.v 0) 37)]) (.call 74 [(.att (.v 0) 38)]))), (.ret (.bin .add (.bin .add (.bi .list false [(.meth (.att (.v 0) 39) 41 [])]) (.v 1)) (.call 75 [(.att (.v 0) 40)])))]⟩
/-- __init__ -/
def f_p_numbers_Numbers___init__ : Fd := ⟨2, 2, false, [(.setf (.v 0) 42 (.bi .list false [(.v 1)])), (.setf (.v 0) 12 (.k (.int 0)))]⟩
/-- left -/
def f_p_numbers_Numbers_left : Fd := ⟨1, 1, true, [(.ret (.bin .sub (.bi .len false [(.att (.v 0) 42)]) (.att (.v 0) 12)))]⟩
/-- some -/
def f_p_numbers_Numbers_some : Fd := ⟨2, 2, true, [(.iff (.cmp .gt (.v 1) (.meth (.v 0) 43 [])) [(.ex .nev)] []), (.augf (.v 0) 12 .add (.v 1)), (.ret (.bi .tuple false [(.slc (.att (.v 0) 42) (.bin .sub (.att (.v 0) 12) (.v 1)) (.att (.v 0) 12))]))]⟩
/-- one -/
def f_p_numbers_Numbers_one : Fd := ⟨1, 1, true, [(.ret (.idx (.meth (.v 0) 30 [(.k (.int 1))]) (.k (.int 0))))]⟩
/-- count -/
def f_p_numbers_Numbers_count : Fd := ⟨2, 3, true, [(.set 2 (.meth (.v 0) 44 [])), (.iff (.or (.cmp .lt (.v 2) (.k (.int 0))) (.cmp .gt (.bin .mul (.v 2) (.v 1)) (.meth (.v 0) 43 []))) [(.ex .nev)] []), (.ret (.v 2))]⟩
/-- row -/
def f_p_numbers_Numbers_row : Fd := ⟨1, 1, true, [(.ret (.meth (.v 0) 30 [(.meth (.v 0) 45 [(.k (.int 1))])]))]⟩
/-- members -/
def f_p_numbers_Numbers_members : Fd := ⟨1, 2, true, [(.ret (.bi .tuple false [(.lc false (.n 1) .r1 [(.meth (.v 0) 45 [(.k (.int 2))])] (.k (.bl true)) (.meth (.v 0) 30 [(.k (.int 2))]) [1])]))]⟩
/-- votes -/
def f_p_numbers_Numbers_votes : Fd := ⟨1, 4, true, [(.set 1 (.lst true [])), (.for (.n 2) .r1 [(.meth (.v 0) 45 [(.k (.int 2))])] [(.set 3 (.meth (.v 0) 44 [])), (.ex (.mt .append (.v 1) [(.tup [(.v 3), (.meth (.v 0) 46 [])])]))]), (.ret (.bi .tuple false [(.v 1)]))]⟩
/-- block -/
def f_p_numbers_Numbers_block : Fd := ⟨1, 5, true, [(.set 1 (.meth (.v 0) 30 [(.k (.int 7))])), (.set 2 (.make 6 [(.idx (.v 1) (.k (.int 0))), (.idx (.v 1) (.k (.int 1))), (.idx (.v 1) (.k (.int 2))), (.idx (.v 1) (.k (.int 3))), (.idx (.v 1) (.k (.int 4))), (.idx (.v 1) (.k (.int 5))), (.idx (.v 1) (.k (.int 6)))])), (.set 3 (.meth (.v 0) 37 [])), (.set 4 (.meth (.v 0) 37 [])), (.ret (.make 7 [(.v 2), (.v 3), (.v 4), (.meth (.v 0) 40 [])]))]⟩
/-- close -/
def f_p_numbers_Numbers_close : Fd := ⟨1, 1, true, [(.iff (.cmp .gt (.meth (.v 0) 43 []) (.k (.int 0))) [(.ex .nev)] [])]⟩
/-- block_of -/
def f_p_numbers_block_of : Fd := ⟨1, 3, true, [(.set 1 (.make 8 [(.v 0)])), (.set 2 (.meth (.v 1) 47 [])), (.ex (.meth (.v 1) 48 [])), (.ret (.v 2))]⟩
/-- row_of -/
def f_p_numbers_row_of : Fd := ⟨1, 3, true, [(.set 1 (.make 8 [(.v 0)])), (.set 2 (.meth (.v 1) 46 [])), (.ex (.meth (.v 1) 48 [])), (.ret (.v 2))]⟩
/-- _law_draw -/
def f_l_law_draw : Fd := ⟨3, 6, true, [(.iff (.cmp .eq (.idx (.v 0) (.k (.int 1))) (.k (.int 0))) [(.set 3 (.k (.int 0))), (.iff (.cmp .gt (.bi .len false [(.v 1)]) (.k (.int 0))) [(.set 3 (.idx (.v 1) (.bin .mod (.idx (.v 0) (.k (.int 0))) (.bi .len false [(.v 1)]))))] []), (.iff (.cmp .lt (.v 3) (.k (.int 0))) [(.set 3 (.bin .sub (.k (.int 1)) (.bin .mul (.k (.int 2)) (.v 3))))] []), (.set 4 (.bin .mod (.bi .int false [(.bin .mul (.bin .add (.bin .add (.v 3) (.bin .mul (.idx (.v 0) (.k (.int 0))) (.k (.int 7919)))) (.k (.int 1))) (.k (.int 48271)))]) (.k (.int 2147483647)))), (.seti (.v 0) (.k (.int 1)) (.bin .mod (.bi .int false [(.bin .add (.bin .mul (.v 4) (.k (.int 69621))) (.bin .mul (.idx (.v 0) (.k (.int 0))) (.k (.int 104729))))]) (.k (.int 4294967291)))), (.iff (.and (.cmp .ge (.v 3) (.bin .pow (.k (.int 10)) (.k (.int 18)))) (.cmp .lt (.idx (.v 0) (.k (.int 0))) (.bi .len false [(.v 1)]))) [(.seti (.v 0) (.k (.int 1)) (.v 3))] []), (.seti (.v 0) (.k (.int 0)) (.bin .add (.idx (.v 0) (.k (.int 0))) (.k (.int 1))))] []), (.set 5 (.bin .mod (.bi .int false [(.idx (.v 0) (.k (.int 1)))]) (.v 2))), (.seti (.v 0) (.k (.int 1)) (.bin .fdiv (.idx (.v 0) (.k (.int 1))) (.v 2))), (.ret (.v 5))]⟩
/-- _law_number -/
def f_l_law_number : Fd := ⟨2, 2, true, [(.ret (.idx (.lst false [(.call 1000 [(.v 0), (.v 1), (.k (.int 9))]), (.bin .sub (.k (.int 0)) (.call 1000 [(.v 0), (.v 1), (.k (.int 9))])), (.bin .shl (.k (.int 1)) (.k (.int 70)))]) (.call 1000 [(.v 0), (.v 1), (.k (.int 3))])))]⟩
/-- _law_members -/
def f_l_law_members : Fd := ⟨2, 3, true, [(.ret (.bi .tuple false [(.lc false (.n 2) .r1 [(.call 1000 [(.v 0), (.v 1), (.k (.int 4))])] (.k (.bl true)) (.tup [(.call 1001 [(.v 0), (.v 1)]), (.call 1001 [(.v 0), (.v 1)])]) [2])]))]⟩
/-- _law_votes -/
def f_l_law_votes : Fd := ⟨2, 6, true, [(.set 2 (.lst true [])), (.for (.n 3) .r1 [(.call 1000 [(.v 0), (.v 1), (.k (.int 4))])] [(.set 4 (.lc false (.n 5) .r1 [(.call 1000 [(.v 0), (.v 1), (.k (.int 4))])] (.k (.bl true)) (.call 1001 [(.v 0), (.v 1)]) [5])), (.ex (.mt .append (.v 2) [(.tup [(.call 1001 [(.v 0), (.v 1)]), (.bi .tuple false [(.v 4)])])]))]), (.ret (.bi .tuple false [(.v 2)]))]⟩
/-- _law_block -/
def f_l_law_block : Fd := ⟨2, 5, true, [(.set 2 (.lc false (.n 4) .r1 [(.k (.int 7))] (.k (.bl true)) (.call 1001 [(.v 0), (.v 1)]) [4])), (.set 3 (.make 6 [(.idx (.v 2) (.k (.int 0))), (.idx (.v 2) (.k (.int 1))), (.idx (.v 2) (.k (.int 2))), (.idx (.v 2) (.k (.int 3))), (.idx (.v 2) (.k (.int 4))), (.idx (.v 2) (.k (.int 5))), (.idx (.v 2) (.k (.int 6)))])), (.ret (.make 7 [(.v 3), (.call 1002 [(.v 0), (.v 1)]), (.call 1002 [(.v 0), (.v 1)]), (.call 1003 [(.v 0), (.v 1)])]))]⟩
/-- _law_row -/
def f_l_law_row : Fd := ⟨1, 1, true, [(.ret (.bin .add (.lst false [(.bi .len false [(.v 0)])]) (.bi .list false [(.v 0)])))]⟩
/-- _law_flat -/
def f_l_law_flat : Fd := ⟨1, 3, true, [(.set 1 (.lst false [(.bi .len false [(.v 0)])])), (.for (.n 2) .sq [(.v 0)] [(.set 1 (.bin .add (.v 1) (.bi .list false [(.v 2)])))]), (.ret (.v 1))]⟩
/-- _law_told -/
def f_l_law_told : Fd := ⟨1, 4, true, [(.set 1 (.lst false [(.bi .len false [(.v 0)])])), (.for (.t [(.n 2), (.n 3)]) .sq [(.v 0)] [(.set 1 (.bin .add (.bin .add (.v 1) (.lst false [(.v 2)])) (.call 1005 [(.v 3)])))]), (.ret (.v 1))]⟩
/-- _law_all -/
def f_l_law_all : Fd := ⟨1, 1, true, [(.ret (.bin .add (.bin .add (.bin .add (.bi .list false [(.meth (.att (.v 0) 39) 41 [])]) (.call 1006 [(.att (.v 0) 37)])) (.call 1006 [(.att (.v 0) 38)])) (.call 1007 [(.att (.v 0) 40)])))]⟩
/-- law -/
def f_l_law : Fd := ⟨1, 9, true, [(.set 1 (.lst true [(.k (.int 0)), (.k (.int 0))])), (.set 2 (.call 1004 [(.v 1), (.v 0)])), (.set 3 (.call 76 [(.v 2)])), (.iff (.or (.not (.bi (.isin .list) false [(.v 3)])) (.or (.cmp .ne (.v 3) (.call 1008 [(.v 2)])) (.not (.eqo (.call 87 [(.bi .list false [(.v 3)])]) (.v 2))))) [(.ret (.k (.bl false)))] []), (.set 4 (.call 1002 [(.v 1), (.v 0)])), (.set 5 (.call 1003 [(.v 1), (.v 0)])), (.set 6 (.bi .tuple false [(.lc false (.n 8) .r1 [(.call 1000 [(.v 1), (.v 0), (.k (.int 5))])] (.k (.bl true)) (.call 1001 [(.v 1), (.v 0)]) [8])])), (.iff (.or (.cmp .ne (.call 74 [(.v 4)]) (.call 1006 [(.v 4)])) (.cmp .ne (.call 75 [(.v 5)]) (.call 1007 [(.v 5)]))) [(.ret (.k (.bl false)))] []), (.iff (.or (.cmp .ne (.call 73 [(.v 6)]) (.call 1005 [(.v 6)])) (.or (.cmp .ne (.call 73 [(.bi .list false [(.v 6)])]) (.call 1005 [(.v 6)])) (.cmp .ne (.call 88 [(.call 1005 [(.v 6)])]) (.v 6)))) [(.ret (.k (.bl false)))] []), (.set 7 (.make 8 [(.bin .add (.bin .add (.bin .add (.bin .add (.bin .add (.call 1005 [(.v 6)]) (.call 1006 [(.v 4)])) (.lst false [(.k (.int 7))])) (.call 1007 [(.v 5)])) (.v 3)) (.lst false [(.k (.int 1)), (.k (.int 5)), (.k (.int 6))]))])), (.iff (.cmp .ne (.tup [(.meth (.v 7) 46 []), (.meth (.v 7) 37 []), (.meth (.v 7) 44 []), (.meth (.v 7) 40 [])]) (.tup [(.v 6), (.v 4), (.k (.int 7)), (.v 5)])) [(.ret (.k (.bl false)))] []), (.iff (.or (.not (.eqo (.meth (.v 7) 47 []) (.v 2))) (.or (.cmp .ne (.meth (.v 7) 45 [(.k (.int 2))]) (.k (.int 1))) (.or (.cmp .ne (.meth (.v 7) 30 [(.k (.int 2))]) (.tup [(.k (.int 5)), (.k (.int 6))])) (.cmp .ne (.meth (.v 7) 30 [(.k (.int 0))]) (.tup []))))) [(.ret (.k (.bl false)))] []), (.ret (.cmp .is (.meth (.v 7) 48 []) (.k .non)))]⟩
def T : Tab where
  fn n := match n with
    | 68 => some f_p_headers_Header___init__
    | 69 => some f_p_headers_Header_fields
    | 70 => some f_p_headers_Header___eq__
    | 71 => some f_p_headers_Block___init__
    | 72 => some f_p_headers_Block___eq__
    | 73 => some f_p_numbers_numbers_of_row
    | 74 => some f_p_numbers_numbers_of_members
    | 75 => some f_p_numbers_numbers_of_votes
    | 76 => some f_p_numbers_numbers_of_block
    | 77 => some f_p_numbers_Numbers___init__
    | 78 => some f_p_numbers_Numbers_left
    | 79 => some f_p_numbers_Numbers_some
    | 80 => some f_p_numbers_Numbers_one
    | 81 => some f_p_numbers_Numbers_count
    | 82 => some f_p_numbers_Numbers_row
    | 83 => some f_p_numbers_Numbers_members
    | 84 => some f_p_numbers_Numbers_votes
    | 85 => some f_p_numbers_Numbers_block
    | 86 => some f_p_numbers_Numbers_close
    | 87 => some f_p_numbers_block_of
    | 88 => some f_p_numbers_row_of
    | 1000 => some f_l_law_draw
    | 1001 => some f_l_law_number
    | 1002 => some f_l_law_members
    | 1003 => some f_l_law_votes
    | 1004 => some f_l_law_block
    | 1005 => some f_l_law_row
    | 1006 => some f_l_law_flat
    | 1007 => some f_l_law_told
    | 1008 => some f_l_law_all
    | 1009 => some f_l_law
    | _ => none
  init c := match c with
    | 6 => some (68, true)
    | 7 => some (71, true)
    | 8 => some (77, false)
    | _ => none
  eqm c := match c with
    | 6 => some 70
    | 7 => some 72
    | _ => none
  meth c m := match c, m with
    | 6, 41 => some 69
    | 8, 43 => some 78
    | 8, 30 => some 79
    | 8, 44 => some 80
    | 8, 45 => some 81
    | 8, 46 => some 82
    | 8, 37 => some 83
    | 8, 40 => some 84
    | 8, 47 => some 85
    | 8, 48 => some 86
    | _, _ => none
  fo c f := match c, f with
    | 6, 32 => true
    | 6, 33 => true
    | 6, 34 => true
    | 6, 35 => true
    | 6, 36 => true
    | 6, 37 => true
    | 6, 38 => true
    | 7, 39 => true
    | 7, 37 => true
    | 7, 38 => true
    | 7, 40 => true
    | 8, 42 => true
    | 8, 12 => true
    | _, _ => false
abbrev R : PySem.W.OpenRow := PySem.W.OpenLaw.row PySem.Challenge.rw_offing_k20_blocks_as_numbers
def top (i : Nat) : Stmt := R.prog.main.body.getD i (.Pass ⟨0, 0, 0, 0⟩)
def C0 (K : PySem.W.Frag) : Ct := ⟨Nm, K, fun c => match c with
  | 6 => some (He.ga K "Header")
  | 7 => some (He.ga K "Block")
  | 8 => some (He.ga K "Numbers")
  | _ => none, fun _ => none⟩
structure Gc (K : PySem.W.Frag) (mg : PySem.Str → Option Value) : Prop where
  triv : True
  c_FIELDS : ∃ t, mg "FIELDS" = some (.int 7 t)
  i_Block : M.InsK K (He.ga K "Block")
  g_Block : mg "Block" = some (.ref (He.ga K "Block"))
  i_Header : M.InsK K (He.ga K "Header")
  g_Header : mg "Header" = some (.ref (He.ga K "Header"))
/-- what the defs do at level k -/
structure Wl (P : Program) (w : World) (K : PySem.W.Frag) (mg : PySem.Str → Option Value) (base : Heap) (k : Nat) : Prop where
  triv : True
  p_numbers_numbers_of_row : M.Gf P w K mg base T (C0 K) k 73 "numbers_of_row"
  p_numbers_numbers_of_members : M.Gf P w K mg base T (C0 K) k 74 "numbers_of_members"
  p_numbers_numbers_of_votes : M.Gf P w K mg base T (C0 K) k 75 "numbers_of_votes"
  p_numbers_numbers_of_block : M.Gf P w K mg base T (C0 K) k 76 "numbers_of_block"
  p_numbers_block_of : M.Gf P w K mg base T (C0 K) k 87 "block_of"
  p_numbers_row_of : M.Gf P w K mg base T (C0 K) k 88 "row_of"
  l_law_draw : M.Gf P w K mg base T (C0 K) k 1000 "_law_draw"
  l_law_number : M.Gf P w K mg base T (C0 K) k 1001 "_law_number"
  l_law_members : M.Gf P w K mg base T (C0 K) k 1002 "_law_members"
  l_law_votes : M.Gf P w K mg base T (C0 K) k 1003 "_law_votes"
  l_law_block : M.Gf P w K mg base T (C0 K) k 1004 "_law_block"
  l_law_row : M.Gf P w K mg base T (C0 K) k 1005 "_law_row"
  l_law_flat : M.Gf P w K mg base T (C0 K) k 1006 "_law_flat"
  l_law_told : M.Gf P w K mg base T (C0 K) k 1007 "_law_told"
  l_law_all : M.Gf P w K mg base T (C0 K) k 1008 "_law_all"
  l_law : M.Gf P w K mg base T (C0 K) k 1009 "law"
  m_fields : ∀ c f, T.meth c 41 = some f → M.Gm P w K mg base T (C0 K) k f c "fields"
  m_left : ∀ c f, T.meth c 43 = some f → M.Gm P w K mg base T (C0 K) k f c "left"
  m_some : ∀ c f, T.meth c 30 = some f → M.Gm P w K mg base T (C0 K) k f c "some"
  m_one : ∀ c f, T.meth c 44 = some f → M.Gm P w K mg base T (C0 K) k f c "one"
  m_count : ∀ c f, T.meth c 45 = some f → M.Gm P w K mg base T (C0 K) k f c "count"
  m_row : ∀ c f, T.meth c 46 = some f → M.Gm P w K mg base T (C0 K) k f c "row"
  m_members : ∀ c f, T.meth c 37 = some f → M.Gm P w K mg base T (C0 K) k f c "members"
  m_votes : ∀ c f, T.meth c 40 = some f → M.Gm P w K mg base T (C0 K) k f c "votes"
  m_block : ∀ c f, T.meth c 47 = some f → M.Gm P w K mg base T (C0 K) k f c "block"
  m_close : ∀ c f, T.meth c 48 = some f → M.Gm P w K mg base T (C0 K) k f c "close"
  eqm : ∀ c f, T.eqm c = some f → M.Gm P w K mg base T (C0 K) k f c "__eq__"
  c_Header : M.Gc P w K mg base T (C0 K) k 68 6 "Header"
  c_Block : M.Gc P w K mg base T (C0 K) k 71 7 "Block"
  c_Numbers : M.Gc P w K mg base T (C0 K) k 77 8 "Numbers"
section
variable {P : Program} {w : World} {K : PySem.W.Frag} {mg : PySem.Str → Option Value} {base : Heap}
abbrev N_p_headers_Header___init__ : List PySem.Str := ["self", "chain", "height", "time", "previous", "state", "members", "following"]
theorem sc_p_headers_Header___init__ : FnScope N_p_headers_Header___init__ ["self", "chain", "height", "time", "previous", "state", "members", "following"] (defScope (inClass (top 4) 0)) := ⟨rfl, rfl, rfl, by decide +kernel, rfl, by decide +kernel, by decide +kernel⟩
theorem b_p_headers_Header___init__ {k : Nat} (W : Wo K (C0 K) T.fo) (fr : Fr mg) (gc : Gc K mg) (wa : ∀ j, j ≤ k → Wl P w K mg base j) (tp : Hp) (b : Nat) (fa : Addr) (cdv : Value) (A : Around) (outer : List Env) (s : Shared) (H : Hp) (E : XK)
    (hr : Room k (A.deeper (envOfC "Header.__init__" (defScope (inClass (top 4) 0)) s.heap.objs.size fa cdv))) :
    MSs (cxOf CX0 P w K mg base N_p_headers_Header___init__ "Header.__init__" (defScope (inClass (top 4) 0)) fa cdv A outer s H E).nox ((C0 K).w tp) (par T k b) (defBody (inClass (top 4) 0)) f_p_headers_Header___init__.body := by
  have wl := wa k (Nat.le_refl _)
  have hK : ((C0 K).w tp).K = K := rfl
  have hN := sc_p_headers_Header___init__.nd
  have hu : (A.deeper (envOfC "Header.__init__" (defScope (inClass (top 4) 0)) s.heap.objs.size fa cdv)).units + 66 < cLine := hu_room (X := (cxOf CX0 P w K mg base N_p_headers_Header___init__ "Header.__init__" (defScope (inClass (top 4) 0)) fa cdv A outer s H E).nox) hr
  have W := W.w tp
  exact (mss_cons (ms_setf (W.wd hr rfl) 32 (me_v 1) (me_v 0))
    (mss_cons (ms_setf (W.wd hr rfl) 33 (me_v 2) (me_v 0))
    (mss_cons (ms_setf (W.wd hr rfl) 34 (me_v 3) (me_v 0))
    (mss_cons (ms_setf (W.wd hr rfl) 35 (me_v 4) (me_v 0))
    (mss_cons (ms_setf (W.wd hr rfl) 36 (me_v 5) (me_v 0))
    (mss_cons (ms_setf (W.wd hr rfl) 37 (me_v 6) (me_v 0))
    (mss_cons (ms_setf (W.wd hr rfl) 38 (me_v 7) (me_v 0))
    mss_nil)))))))
abbrev N_p_headers_Header_fields : List PySem.Str := ["self"]
theorem sc_p_headers_Header_fields : FnScope N_p_headers_Header_fields ["self"] (defScope (inClass (top 4) 1)) := ⟨rfl, rfl, rfl, by decide +kernel, rfl, by decide +kernel, by decide +kernel⟩
theorem b_p_headers_Header_fields {k : Nat} (W : Wo K (C0 K) T.fo) (fr : Fr mg) (gc : Gc K mg) (wa : ∀ j, j ≤ k → Wl P w K mg base j) (tp : Hp) (b : Nat) (fa : Addr) (cdv : Value) (A : Around) (outer : List Env) (s : Shared) (H : Hp) (E : XK)
    (hr : Room k (A.deeper (envOfC "Header.fields" (defScope (inClass (top 4) 1)) s.heap.objs.size fa cdv))) :
    MSs (cxOf CX0 P w K mg base N_p_headers_Header_fields "Header.fields" (defScope (inClass (top 4) 1)) fa cdv A outer s H E).nox ((C0 K).w tp) (par T k b) (defBody (inClass (top 4) 1)) f_p_headers_Header_fields.body := by
  have wl := wa k (Nat.le_refl _)
  have hK : ((C0 K).w tp).K = K := rfl
  have hN := sc_p_headers_Header_fields.nd
  have hu : (A.deeper (envOfC "Header.fields" (defScope (inClass (top 4) 1)) s.heap.objs.size fa cdv)).units + 66 < cLine := hu_room (X := (cxOf CX0 P w K mg base N_p_headers_Header_fields "Header.fields" (defScope (inClass (top 4) 1)) fa cdv A outer s H E).nox) hr
  have W := W.w tp
  exact (mss_cons (ms_ret (me_tup (ma_cons (me_att (W.wd hr rfl) 32 (me_v 0)) (ma_cons (me_att (W.wd hr rfl) 33 (me_v 0)) (ma_cons (me_att (W.wd hr rfl) 34 (me_v 0)) (ma_cons (me_att (W.wd hr rfl) 35 (me_v 0)) (ma_cons (me_att (W.wd hr rfl) 36 (me_v 0)) (ma_cons (me_att (W.wd hr rfl) 37 (me_v 0)) (ma_cons (me_att (W.wd hr rfl) 38 (me_v 0)) ma_nil)))))))))
    mss_nil)
abbrev N_p_headers_Header___eq__ : List PySem.Str := ["self", "other"]
theorem sc_p_headers_Header___eq__ : FnScope N_p_headers_Header___eq__ ["self", "other"] (defScope (inClass (top 4) 2)) := ⟨rfl, rfl, rfl, by decide +kernel, rfl, by decide +kernel, by decide +kernel⟩
theorem b_p_headers_Header___eq__ {k : Nat} (W : Wo K (C0 K) T.fo) (fr : Fr mg) (gc : Gc K mg) (wa : ∀ j, j ≤ k → Wl P w K mg base j) (tp : Hp) (b : Nat) (fa : Addr) (cdv : Value) (A : Around) (outer : List Env) (s : Shared) (H : Hp) (E : XK)
    (hr : Room k (A.deeper (envOfC "Header.__eq__" (defScope (inClass (top 4) 2)) s.heap.objs.size fa cdv))) :
    MSs (cxOf CX0 P w K mg base N_p_headers_Header___eq__ "Header.__eq__" (defScope (inClass (top 4) 2)) fa cdv A outer s H E).nox ((C0 K).w tp) (par T k b) (defBody (inClass (top 4) 2)) f_p_headers_Header___eq__.body := by
  have wl := wa k (Nat.le_refl _)
  have hK : ((C0 K).w tp).K = K := rfl
  have hN := sc_p_headers_Header___eq__.nd
  have hu : (A.deeper (envOfC "Header.__eq__" (defScope (inClass (top 4) 2)) s.heap.objs.size fa cdv)).units + 66 < cLine := hu_room (X := (cxOf CX0 P w K mg base N_p_headers_Header___eq__ "Header.__eq__" (defScope (inClass (top 4) 2)) fa cdv A outer s H E).nox) hr
  have W := W.w tp
  exact (mss_cons (ms_iff (mt_not (mt_v hK (me_isc hK 6 gc.i_Header (W.cls 6 _ rfl) rfl rfl fr.isinstance PyProof.Rows.boot_isinstance (me_v 1) rfl gc.g_Header))) (mss_cons (ms_ret me_bl)
    mss_nil) mss_nil)
    (mss_cons (ms_ret (me_cmp hK hu .eq (me_meth0 41 wl.m_fields hr (me_v 0)) (me_meth0 41 wl.m_fields hr (me_v 1))))
    mss_nil))
abbrev N_p_headers_Block___init__ : List PySem.Str := ["self", "header", "members", "following", "votes"]
theorem sc_p_headers_Block___init__ : FnScope N_p_headers_Block___init__ ["self", "header", "members", "following", "votes"] (defScope (inClass (top 5) 0)) := ⟨rfl, rfl, rfl, by decide +kernel, rfl, by decide +kernel, by decide +kernel⟩
theorem b_p_headers_Block___init__ {k : Nat} (W : Wo K (C0 K) T.fo) (fr : Fr mg) (gc : Gc K mg) (wa : ∀ j, j ≤ k → Wl P w K mg base j) (tp : Hp) (b : Nat) (fa : Addr) (cdv : Value) (A : Around) (outer : List Env) (s : Shared) (H : Hp) (E : XK)
    (hr : Room k (A.deeper (envOfC "Block.__init__" (defScope (inClass (top 5) 0)) s.heap.objs.size fa cdv))) :
    MSs (cxOf CX0 P w K mg base N_p_headers_Block___init__ "Block.__init__" (defScope (inClass (top 5) 0)) fa cdv A outer s H E).nox ((C0 K).w tp) (par T k b) (defBody (inClass (top 5) 0)) f_p_headers_Block___init__.body := by
  have wl := wa k (Nat.le_refl _)
  have hK : ((C0 K).w tp).K = K := rfl
  have hN := sc_p_headers_Block___init__.nd
  have hu : (A.deeper (envOfC "Block.__init__" (defScope (inClass (top 5) 0)) s.heap.objs.size fa cdv)).units + 66 < cLine := hu_room (X := (cxOf CX0 P w K mg base N_p_headers_Block___init__ "Block.__init__" (defScope (inClass (top 5) 0)) fa cdv A outer s H E).nox) hr
  have W := W.w tp
  exact (mss_cons (ms_setf (W.wd hr rfl) 39 (me_v 1) (me_v 0))
    (mss_cons (ms_setf (W.wd hr rfl) 37 (me_tuple hK fr (me_v 2)) (me_v 0))
    (mss_cons (ms_setf (W.wd hr rfl) 38 (me_tuple hK fr (me_v 3)) (me_v 0))
    (mss_cons (ms_setf (W.wd hr rfl) 40 (me_tuple hK fr (me_v 4)) (me_v 0))
    mss_nil))))
abbrev N_p_headers_Block___eq__ : List PySem.Str := ["self", "other", "mine"]
theorem sc_p_headers_Block___eq__ : FnScope N_p_headers_Block___eq__ ["self", "other"] (defScope (inClass (top 5) 1)) := ⟨rfl, rfl, rfl, by decide +kernel, rfl, by decide +kernel, by decide +kernel⟩
theorem b_p_headers_Block___eq__ {k : Nat} (W : Wo K (C0 K) T.fo) (fr : Fr mg) (gc : Gc K mg) (wa : ∀ j, j ≤ k → Wl P w K mg base j) (tp : Hp) (b : Nat) (fa : Addr) (cdv : Value) (A : Around) (outer : List Env) (s : Shared) (H : Hp) (E : XK)
    (hr : Room k (A.deeper (envOfC "Block.__eq__" (defScope (inClass (top 5) 1)) s.heap.objs.size fa cdv))) :
    MSs (cxOf CX0 P w K mg base N_p_headers_Block___eq__ "Block.__eq__" (defScope (inClass (top 5) 1)) fa cdv A outer s H E).nox ((C0 K).w tp) (par T k b) (defBody (inClass (top 5) 1)) f_p_headers_Block___eq__.body := by
  have wl := wa k (Nat.le_refl _)
  have hK : ((C0 K).w tp).K = K := rfl
  have hN := sc_p_headers_Block___eq__.nd
  have hu : (A.deeper (envOfC "Block.__eq__" (defScope (inClass (top 5) 1)) s.heap.objs.size fa cdv)).units + 66 < cLine := hu_room (X := (cxOf CX0 P w K mg base N_p_headers_Block___eq__ "Block.__eq__" (defScope (inClass (top 5) 1)) fa cdv A outer s H E).nox) hr
  have W := W.w tp
  exact (mss_cons (ms_iff (mt_not (mt_v hK (me_isc hK 7 gc.i_Block (W.cls 7 _ rfl) rfl rfl fr.isinstance PyProof.Rows.boot_isinstance (me_v 1) rfl gc.g_Block))) (mss_cons (ms_ret me_bl)
    mss_nil) mss_nil)
    (mss_cons (ms_set (k := 2) hN rfl (.inl rfl) (me_tup (ma_cons (me_att (W.wd hr rfl) 39 (me_v 0)) (ma_cons (me_att (W.wd hr rfl) 37 (me_v 0)) (ma_cons (me_att (W.wd hr rfl) 38 (me_v 0)) (ma_cons (me_att (W.wd hr rfl) 40 (me_v 0)) ma_nil))))))
    (mss_cons (ms_ret (me_ceqo hK hu hr (fun j hj => (wa j hj).eqm) (me_v 2) (me_tup (ma_cons (me_att (W.wd hr rfl) 39 (me_v 1)) (ma_cons (me_att (W.wd hr rfl) 37 (me_v 1)) (ma_cons (me_att (W.wd hr rfl) 38 (me_v 1)) (ma_cons (me_att (W.wd hr rfl) 40 (me_v 1)) ma_nil)))))))
    mss_nil)))
abbrev N_p_numbers_numbers_of_row : List PySem.Str := ["row"]
theorem sc_p_numbers_numbers_of_row : FnScope N_p_numbers_numbers_of_row ["row"] (defScope (top 8)) := ⟨rfl, rfl, rfl, by decide +kernel, rfl, by decide +kernel, by decide +kernel⟩
theorem b_p_numbers_numbers_of_row {k : Nat} (W : Wo K (C0 K) T.fo) (fr : Fr mg) (gc : Gc K mg) (wa : ∀ j, j ≤ k → Wl P w K mg base j) (tp : Hp) (b : Nat) (fa : Addr) (cdv : Value) (A : Around) (outer : List Env) (s : Shared) (H : Hp) (E : XK)
    (hr : Room k (A.deeper (envOfC "numbers_of_row" (defScope (top 8)) s.heap.objs.size fa cdv))) :
    MSs (cxOf CX0 P w K mg base N_p_numbers_numbers_of_row "numbers_of_row" (defScope (top 8)) fa cdv A outer s H E).nox ((C0 K).w tp) (par T k b) (defBody (top 8)) f_p_numbers_numbers_of_row.body := by
  have wl := wa k (Nat.le_refl _)
  have hK : ((C0 K).w tp).K = K := rfl
  have hN := sc_p_numbers_numbers_of_row.nd
  have hu : (A.deeper (envOfC "numbers_of_row" (defScope (top 8)) s.heap.objs.size fa cdv)).units + 66 < cLine := hu_room (X := (cxOf CX0 P w K mg base N_p_numbers_numbers_of_row "numbers_of_row" (defScope (top 8)) fa cdv A outer s H E).nox) hr
  have W := W.w tp
  exact (mss_cons (ms_ret (me_bin hK .add (me_lst false (ma_cons (me_len hK fr (me_v 0)) ma_nil)) (me_list false hK fr rfl (me_v 0))))
    mss_nil)
abbrev N_p_numbers_numbers_of_members : List PySem.Str := ["members", "found", "public", "weight"]
theorem sc_p_numbers_numbers_of_members : FnScope N_p_numbers_numbers_of_members ["members"] (defScope (top 9)) := ⟨rfl, rfl, rfl, by decide +kernel, rfl, by decide +kernel, by decide +kernel⟩
theorem b_p_numbers_numbers_of_members {k : Nat} (W : Wo K (C0 K) T.fo) (fr : Fr mg) (gc : Gc K mg) (wa : ∀ j, j ≤ k → Wl P w K mg base j) (tp : Hp) (b : Nat) (fa : Addr) (cdv : Value) (A : Around) (outer : List Env) (s : Shared) (H : Hp) (E : XK)
    (hr : Room k (A.deeper (envOfC "numbers_of_members" (defScope (top 9)) s.heap.objs.size fa cdv))) :
    MSs (cxOf CX0 P w K mg base N_p_numbers_numbers_of_members "numbers_of_members" (defScope (top 9)) fa cdv A outer s H E).nox ((C0 K).w tp) (par T k b) (defBody (top 9)) f_p_numbers_numbers_of_members.body := by
  have wl := wa k (Nat.le_refl _)
  have hK : ((C0 K).w tp).K = K := rfl
  have hN := sc_p_numbers_numbers_of_members.nd
  have hu : (A.deeper (envOfC "numbers_of_members" (defScope (top 9)) s.heap.objs.size fa cdv)).units + 66 < cLine := hu_room (X := (cxOf CX0 P w K mg base N_p_numbers_numbers_of_members "numbers_of_members" (defScope (top 9)) fa cdv A outer s H E).nox) hr
  have W := W.w tp
  exact (mss_cons (ms_set (k := 1) hN rfl (.inl rfl) (me_lst true (ma_cons (me_len hK fr (me_v 0)) ma_nil)))
    (mss_cons (ms_for (par_stp T k b) hK PassesOwn.never rfl (mi_sq hK (me_v 0)) (mg_t rfl (mgs_cons (mg_n hN rfl (.inl rfl)) (mgs_cons (mg_n hN rfl (.inl rfl)) mgs_nil))) (mss_cons (ms_ex (me_extend hK (me_v 1) (me_lst false (ma_cons (me_v 2) (ma_cons (me_v 3) ma_nil)))))
    mss_nil) nd_sq)
    (mss_cons (ms_ret (me_v 1))
    mss_nil)))
abbrev N_p_numbers_numbers_of_votes : List PySem.Str := ["votes", "found", "public", "signature"]
theorem sc_p_numbers_numbers_of_votes : FnScope N_p_numbers_numbers_of_votes ["votes"] (defScope (top 10)) := ⟨rfl, rfl, rfl, by decide +kernel, rfl, by decide +kernel, by decide +kernel⟩
theorem b_p_numbers_numbers_of_votes {k : Nat} (W : Wo K (C0 K) T.fo) (fr : Fr mg) (gc : Gc K mg) (wa : ∀ j, j ≤ k → Wl P w K mg base j) (tp : Hp) (b : Nat) (fa : Addr) (cdv : Value) (A : Around) (outer : List Env) (s : Shared) (H : Hp) (E : XK)
    (hr : Room k (A.deeper (envOfC "numbers_of_votes" (defScope (top 10)) s.heap.objs.size fa cdv))) :
    MSs (cxOf CX0 P w K mg base N_p_numbers_numbers_of_votes "numbers_of_votes" (defScope (top 10)) fa cdv A outer s H E).nox ((C0 K).w tp) (par T k b) (defBody (top 10)) f_p_numbers_numbers_of_votes.body := by
  have wl := wa k (Nat.le_refl _)
  have hK : ((C0 K).w tp).K = K := rfl
  have hN := sc_p_numbers_numbers_of_votes.nd
  have hu : (A.deeper (envOfC "numbers_of_votes" (defScope (top 10)) s.heap.objs.size fa cdv)).units + 66 < cLine := hu_room (X := (cxOf CX0 P w K mg base N_p_numbers_numbers_of_votes "numbers_of_votes" (defScope (top 10)) fa cdv A outer s H E).nox) hr
  have W := W.w tp
  exact (mss_cons (ms_set (k := 1) hN rfl (.inl rfl) (me_lst true (ma_cons (me_len hK fr (me_v 0)) ma_nil)))
    (mss_cons (ms_for (par_stp T k b) hK PassesOwn.never rfl (mi_sq hK (me_v 0)) (mg_t rfl (mgs_cons (mg_n hN rfl (.inl rfl)) (mgs_cons (mg_n hN rfl (.inl rfl)) mgs_nil))) (mss_cons (ms_ex (me_append hK (me_v 1) (me_v 2)))
    (mss_cons (ms_ex (me_extend hK (me_v 1) (me_call wl.p_numbers_numbers_of_row hr rfl (ma_cons (me_v 3) ma_nil))))
    mss_nil)) nd_sq)
    (mss_cons (ms_ret (me_v 1))
    mss_nil)))
abbrev N_p_numbers_numbers_of_block : List PySem.Str := ["block", "lists"]
theorem sc_p_numbers_numbers_of_block : FnScope N_p_numbers_numbers_of_block ["block"] (defScope (top 11)) := ⟨rfl, rfl, rfl, by decide +kernel, rfl, by decide +kernel, by decide +kernel⟩
theorem b_p_numbers_numbers_of_block {k : Nat} (W : Wo K (C0 K) T.fo) (fr : Fr mg) (gc : Gc K mg) (wa : ∀ j, j ≤ k → Wl P w K mg base j) (tp : Hp) (b : Nat) (fa : Addr) (cdv : Value) (A : Around) (outer : List Env) (s : Shared) (H : Hp) (E : XK)
    (hr : Room k (A.deeper (envOfC "numbers_of_block" (defScope (top 11)) s.heap.objs.size fa cdv))) :
    MSs (cxOf CX0 P w K mg base N_p_numbers_numbers_of_block "numbers_of_block" (defScope (top 11)) fa cdv A outer s H E).nox ((C0 K).w tp) (par T k b) (defBody (top 11)) f_p_numbers_numbers_of_block.body := by
  have wl := wa k (Nat.le_refl _)
  have hK : ((C0 K).w tp).K = K := rfl
  have hN := sc_p_numbers_numbers_of_block.nd
  have hu : (A.deeper (envOfC "numbers_of_block" (defScope (top 11)) s.heap.objs.size fa cdv)).units + 66 < cLine := hu_room (X := (cxOf CX0 P w K mg base N_p_numbers_numbers_of_block "numbers_of_block" (defScope (top 11)) fa cdv A outer s H E).nox) hr
  have W := W.w tp
  exact (mss_cons (ms_set (k := 1) hN rfl (.inl rfl) (me_bin hK .add (me_call wl.p_numbers_numbers_of_members hr rfl (ma_cons (me_att (W.wd hr rfl) 37 (me_v 0)) ma_nil)) (me_call wl.p_numbers_numbers_of_members hr rfl (ma_cons (me_att (W.wd hr rfl) 38 (me_v 0)) ma_nil))))
    (mss_cons (ms_ret (me_bin hK .add (me_bin hK .add (me_list false hK fr rfl (me_meth0 41 wl.m_fields hr (me_att (W.wd hr rfl) 39 (me_v 0)))) (me_v 1)) (me_call wl.p_numbers_numbers_of_votes hr rfl (ma_cons (me_att (W.wd hr rfl) 40 (me_v 0)) ma_nil))))
    mss_nil))
abbrev N_p_numbers_Numbers___init__ : List PySem.Str := ["self", "numbers"]
theorem sc_p_numbers_Numbers___init__ : FnScope N_p_numbers_Numbers___init__ ["self", "numbers"] (defScope (inClass (top 12) 0)) := ⟨rfl, rfl, rfl, by decide +kernel, rfl, by decide +kernel, by decide +kernel⟩
theorem b_p_numbers_Numbers___init__ {k : Nat} (W : Wo K (C0 K) T.fo) (fr : Fr mg) (gc : Gc K mg) (wa : ∀ j, j ≤ k → Wl P w K mg base j) (tp : Hp) (b : Nat) (fa : Addr) (cdv : Value) (A : Around) (outer : List Env) (s : Shared) (H : Hp) (E : XK)
    (hr : Room k (A.deeper (envOfC "Numbers.__init__" (defScope (inClass (top 12) 0)) s.heap.objs.size fa cdv))) :
    MSs (cxOf CX0 P w K mg base N_p_numbers_Numbers___init__ "Numbers.__init__" (defScope (inClass (top 12) 0)) fa cdv A outer s H E).nox ((C0 K).w tp) (par T k b) (defBody (inClass (top 12) 0)) f_p_numbers_Numbers___init__.body := by
  have wl := wa k (Nat.le_refl _)
  have hK : ((C0 K).w tp).K = K := rfl
  have hN := sc_p_numbers_Numbers___init__.nd
  have hu : (A.deeper (envOfC "Numbers.__init__" (defScope (inClass (top 12) 0)) s.heap.objs.size fa cdv)).units + 66 < cLine := hu_room (X := (cxOf CX0 P w K mg base N_p_numbers_Numbers___init__ "Numbers.__init__" (defScope (inClass (top 12) 0)) fa cdv A outer s H E).nox) hr
  have W := W.w tp
  exact (mss_cons (ms_setf (W.wd hr rfl) 42 (me_list false hK fr rfl (me_v 1)) (me_v 0))
    (mss_cons (ms_setf (W.wd hr rfl) 12 me_int (me_v 0))
    mss_nil))
abbrev N_p_numbers_Numbers_left : List PySem.Str := ["self"]
theorem sc_p_numbers_Numbers_left : FnScope N_p_numbers_Numbers_left ["self"] (defScope (inClass (top 12) 1)) := ⟨rfl, rfl, rfl, by decide +kernel, rfl, by decide +kernel, by decide +kernel⟩
theorem b_p_numbers_Numbers_left {k : Nat} (W : Wo K (C0 K) T.fo) (fr : Fr mg) (gc : Gc K mg) (wa : ∀ j, j ≤ k → Wl P w K mg base j) (tp : Hp) (b : Nat) (fa : Addr) (cdv : Value) (A : Around) (outer : List Env) (s : Shared) (H : Hp) (E : XK)
    (hr : Room k (A.deeper (envOfC "Numbers.left" (defScope (inClass (top 12) 1)) s.heap.objs.size fa cdv))) :
    MSs (cxOf CX0 P w K mg base N_p_numbers_Numbers_left "Numbers.left" (defScope (inClass (top 12) 1)) fa cdv A outer s H E).nox ((C0 K).w tp) (par T k b) (defBody (inClass (top 12) 1)) f_p_numbers_Numbers_left.body := by
  have wl := wa k (Nat.le_refl _)
  have hK : ((C0 K).w tp).K = K := rfl
  have hN := sc_p_numbers_Numbers_left.nd
  have hu : (A.deeper (envOfC "Numbers.left" (defScope (inClass (top 12) 1)) s.heap.objs.size fa cdv)).units + 66 < cLine := hu_room (X := (cxOf CX0 P w K mg base N_p_numbers_Numbers_left "Numbers.left" (defScope (inClass (top 12) 1)) fa cdv A outer s H E).nox) hr
  have W := W.w tp
  exact (mss_cons (ms_ret (me_bin hK .sub (me_len hK fr (me_att (W.wd hr rfl) 42 (me_v 0))) (me_att (W.wd hr rfl) 12 (me_v 0))))
    mss_nil)
abbrev N_p_numbers_Numbers_some : List PySem.Str := ["self", "count"]
theorem sc_p_numbers_Numbers_some : FnScope N_p_numbers_Numbers_some ["self", "count"] (defScope (inClass (top 12) 2)) := ⟨rfl, rfl, rfl, by decide +kernel, rfl, by decide +kernel, by decide +kernel⟩
theorem b_p_numbers_Numbers_some {k : Nat} (W : Wo K (C0 K) T.fo) (fr : Fr mg) (gc : Gc K mg) (wa : ∀ j, j ≤ k → Wl P w K mg base j) (tp : Hp) (b : Nat) (fa : Addr) (cdv : Value) (A : Around) (outer : List Env) (s : Shared) (H : Hp) (E : XK)
    (hr : Room k (A.deeper (envOfC "Numbers.some" (defScope (inClass (top 12) 2)) s.heap.objs.size fa cdv))) :
    MSs (cxOf CX0 P w K mg base N_p_numbers_Numbers_some "Numbers.some" (defScope (inClass (top 12) 2)) fa cdv A outer s H E).nox ((C0 K).w tp) (par T k b) (defBody (inClass (top 12) 2)) f_p_numbers_Numbers_some.body := by
  have wl := wa k (Nat.le_refl _)
  have hK : ((C0 K).w tp).K = K := rfl
  have hN := sc_p_numbers_Numbers_some.nd
  have hu : (A.deeper (envOfC "Numbers.some" (defScope (inClass (top 12) 2)) s.heap.objs.size fa cdv)).units + 66 < cLine := hu_room (X := (cxOf CX0 P w K mg base N_p_numbers_Numbers_some "Numbers.some" (defScope (inClass (top 12) 2)) fa cdv A outer s H E).nox) hr
  have W := W.w tp
  exact (mss_cons (ms_iff (mt_cmp hK hu .gt (me_v 1) (me_meth0 43 wl.m_left hr (me_v 0))) (mss_cons ms_nev
    mss_nil) mss_nil)
    (mss_cons (ms_augf (W.wd hr rfl) .add rfl 12 (me_v 1) (me_v 0))
    (mss_cons (ms_ret (me_tuple hK fr (me_slc hK (me_att (W.wd hr rfl) 42 (me_v 0)) (mo_some (me_bin hK .sub (me_att (W.wd hr rfl) 12 (me_v 0)) (me_v 1))) (mo_some (me_att (W.wd hr rfl) 12 (me_v 0))))))
    mss_nil)))
abbrev N_p_numbers_Numbers_one : List PySem.Str := ["self"]
theorem sc_p_numbers_Numbers_one : FnScope N_p_numbers_Numbers_one ["self"] (defScope (inClass (top 12) 3)) := ⟨rfl, rfl, rfl, by decide +kernel, rfl, by decide +kernel, by decide +kernel⟩
theorem b_p_numbers_Numbers_one {k : Nat} (W : Wo K (C0 K) T.fo) (fr : Fr mg) (gc : Gc K mg) (wa : ∀ j, j ≤ k → Wl P w K mg base j) (tp : Hp) (b : Nat) (fa : Addr) (cdv : Value) (A : Around) (outer : List Env) (s : Shared) (H : Hp) (E : XK)
    (hr : Room k (A.deeper (envOfC "Numbers.one" (defScope (inClass (top 12) 3)) s.heap.objs.size fa cdv))) :
    MSs (cxOf CX0 P w K mg base N_p_numbers_Numbers_one "Numbers.one" (defScope (inClass (top 12) 3)) fa cdv A outer s H E).nox ((C0 K).w tp) (par T k b) (defBody (inClass (top 12) 3)) f_p_numbers_Numbers_one.body := by
  have wl := wa k (Nat.le_refl _)
  have hK : ((C0 K).w tp).K = K := rfl
  have hN := sc_p_numbers_Numbers_one.nd
  have hu : (A.deeper (envOfC "Numbers.one" (defScope (inClass (top 12) 3)) s.heap.objs.size fa cdv)).units + 66 < cLine := hu_room (X := (cxOf CX0 P w K mg base N_p_numbers_Numbers_one "Numbers.one" (defScope (inClass (top 12) 3)) fa cdv A outer s H E).nox) hr
  have W := W.w tp
  exact (mss_cons (ms_ret (me_idx hK hu (me_meth 30 wl.m_some hr (me_v 0) (ma_cons me_int ma_nil)) me_int))
    mss_nil)
abbrev N_p_numbers_Numbers_count : List PySem.Str := ["self", "size", "number"]
theorem sc_p_numbers_Numbers_count : FnScope N_p_numbers_Numbers_count ["self", "size"] (defScope (inClass (top 12) 4)) := ⟨rfl, rfl, rfl, by decide +kernel, rfl, by decide +kernel, by decide +kernel⟩
theorem b_p_numbers_Numbers_count {k : Nat} (W : Wo K (C0 K) T.fo) (fr : Fr mg) (gc : Gc K mg) (wa : ∀ j, j ≤ k → Wl P w K mg base j) (tp : Hp) (b : Nat) (fa : Addr) (cdv : Value) (A : Around) (outer : List Env) (s : Shared) (H : Hp) (E : XK)
    (hr : Room k (A.deeper (envOfC "Numbers.count" (defScope (inClass (top 12) 4)) s.heap.objs.size fa cdv))) :
    MSs (cxOf CX0 P w K mg base N_p_numbers_Numbers_count "Numbers.count" (defScope (inClass (top 12) 4)) fa cdv A outer s H E).nox ((C0 K).w tp) (par T k b) (defBody (inClass (top 12) 4)) f_p_numbers_Numbers_count.body := by
  have wl := wa k (Nat.le_refl _)
  have hK : ((C0 K).w tp).K = K := rfl
  have hN := sc_p_numbers_Numbers_count.nd
  have hu : (A.deeper (envOfC "Numbers.count" (defScope (inClass (top 12) 4)) s.heap.objs.size fa cdv)).units + 66 < cLine := hu_room (X := (cxOf CX0 P w K mg base N_p_numbers_Numbers_count "Numbers.count" (defScope (inClass (top 12) 4)) fa cdv A outer s H E).nox) hr
  have W := W.w tp
  exact (mss_cons (ms_set (k := 2) hN rfl (.inl rfl) (me_meth0 44 wl.m_one hr (me_v 0)))
    (mss_cons (ms_iff (MW.t (mw_or hK (mt_cmp hK hu .lt (me_v 2) me_int) (me_cmp hK hu .lt (me_v 2) me_int) (mw_or1 (mt_cmp hK hu .gt (me_bin hK .mul (me_v 2) (me_v 1)) (me_meth0 43 wl.m_left hr (me_v 0))) (me_cmp hK hu .gt (me_bin hK .mul (me_v 2) (me_v 1)) (me_meth0 43 wl.m_left hr (me_v 0)))))) (mss_cons ms_nev
    mss_nil) mss_nil)
    (mss_cons (ms_ret (me_v 2))
    mss_nil)))
abbrev N_p_numbers_Numbers_row : List PySem.Str := ["self"]
theorem sc_p_numbers_Numbers_row : FnScope N_p_numbers_Numbers_row ["self"] (defScope (inClass (top 12) 5)) := ⟨rfl, rfl, rfl, by decide +kernel, rfl, by decide +kernel, by decide +kernel⟩
theorem b_p_numbers_Numbers_row {k : Nat} (W : Wo K (C0 K) T.fo) (fr : Fr mg) (gc : Gc K mg) (wa : ∀ j, j ≤ k → Wl P w K mg base j) (tp : Hp) (b : Nat) (fa : Addr) (cdv : Value) (A : Around) (outer : List Env) (s : Shared) (H : Hp) (E : XK)
    (hr : Room k (A.deeper (envOfC "Numbers.row" (defScope (inClass (top 12) 5)) s.heap.objs.size fa cdv))) :
    MSs (cxOf CX0 P w K mg base N_p_numbers_Numbers_row "Numbers.row" (defScope (inClass (top 12) 5)) fa cdv A outer s H E).nox ((C0 K).w tp) (par T k b) (defBody (inClass (top 12) 5)) f_p_numbers_Numbers_row.body := by
  have wl := wa k (Nat.le_refl _)
  have hK : ((C0 K).w tp).K = K := rfl
  have hN := sc_p_numbers_Numbers_row.nd
  have hu : (A.deeper (envOfC "Numbers.row" (defScope (inClass (top 12) 5)) s.heap.objs.size fa cdv)).units + 66 < cLine := hu_room (X := (cxOf CX0 P w K mg base N_p_numbers_Numbers_row "Numbers.row" (defScope (inClass (top 12) 5)) fa cdv A outer s H E).nox) hr
  have W := W.w tp
  exact (mss_cons (ms_ret (me_meth 30 wl.m_some hr (me_v 0) (ma_cons (me_meth 45 wl.m_count hr (me_v 0) (ma_cons me_int ma_nil)) ma_nil)))
    mss_nil)
abbrev N_p_numbers_Numbers_members : List PySem.Str := ["self", "_"]
theorem sc_p_numbers_Numbers_members : FnScope N_p_numbers_Numbers_members ["self"] (defScope (inClass (top 12) 6)) := ⟨rfl, rfl, rfl, by decide +kernel, rfl, by decide +kernel, by decide +kernel⟩
theorem b_p_numbers_Numbers_members {k : Nat} (W : Wo K (C0 K) T.fo) (fr : Fr mg) (gc : Gc K mg) (wa : ∀ j, j ≤ k → Wl P w K mg base j) (tp : Hp) (b : Nat) (fa : Addr) (cdv : Value) (A : Around) (outer : List Env) (s : Shared) (H : Hp) (E : XK)
    (hr : Room k (A.deeper (envOfC "Numbers.members" (defScope (inClass (top 12) 6)) s.heap.objs.size fa cdv))) :
    MSs (cxOf CX0 P w K mg base N_p_numbers_Numbers_members "Numbers.members" (defScope (inClass (top 12) 6)) fa cdv A outer s H E).nox ((C0 K).w tp) (par T k b) (defBody (inClass (top 12) 6)) f_p_numbers_Numbers_members.body := by
  have wl := wa k (Nat.le_refl _)
  have hK : ((C0 K).w tp).K = K := rfl
  have hN := sc_p_numbers_Numbers_members.nd
  have hu : (A.deeper (envOfC "Numbers.members" (defScope (inClass (top 12) 6)) s.heap.objs.size fa cdv)).units + 66 < cLine := hu_room (X := (cxOf CX0 P w K mg base N_p_numbers_Numbers_members "Numbers.members" (defScope (inClass (top 12) 6)) fa cdv A outer s H E).nox) hr
  have W := W.w tp
  exact (mss_cons (ms_ret (me_tuple hK fr (me_lc false (par_stp T k b) hK rfl hN (nd_ints .r1 (by simp)) (mi_r1 rfl fr.range (me_meth 45 wl.m_count hr (me_v 0) (ma_cons me_int ma_nil))) (blkOk_by (N := N_p_numbers_Numbers_members) (sc := defScope (inClass (top 12) 6)) (own := [("_", 1)]) (by decide +kernel)) rfl (fun _ _ _ _ _ => (mg_n hN rfl (.inl rfl))) (fun tp _ _ _ _ _ => mts_nil) (fun tp _ _ _ _ _ => (me_meth 30 wl.m_some hr (me_v 0) (ma_cons me_int ma_nil))))))
    mss_nil)
abbrev N_p_numbers_Numbers_votes : List PySem.Str := ["self", "found", "_", "public"]
theorem sc_p_numbers_Numbers_votes : FnScope N_p_numbers_Numbers_votes ["self"] (defScope (inClass (top 12) 7)) := ⟨rfl, rfl, rfl, by decide +kernel, rfl, by decide +kernel, by decide +kernel⟩
theorem b_p_numbers_Numbers_votes {k : Nat} (W : Wo K (C0 K) T.fo) (fr : Fr mg) (gc : Gc K mg) (wa : ∀ j, j ≤ k → Wl P w K mg base j) (tp : Hp) (b : Nat) (fa : Addr) (cdv : Value) (A : Around) (outer : List Env) (s : Shared) (H : Hp) (E : XK)
    (hr : Room k (A.deeper (envOfC "Numbers.votes" (defScope (inClass (top 12) 7)) s.heap.objs.size fa cdv))) :
    MSs (cxOf CX0 P w K mg base N_p_numbers_Numbers_votes "Numbers.votes" (defScope (inClass (top 12) 7)) fa cdv A outer s H E).nox ((C0 K).w tp) (par T k b) (defBody (inClass (top 12) 7)) f_p_numbers_Numbers_votes.body := by
  have wl := wa k (Nat.le_refl _)
  have hK : ((C0 K).w tp).K = K := rfl
  have hN := sc_p_numbers_Numbers_votes.nd
  have hu : (A.deeper (envOfC "Numbers.votes" (defScope (inClass (top 12) 7)) s.heap.objs.size fa cdv)).units + 66 < cLine := hu_room (X := (cxOf CX0 P w K mg base N_p_numbers_Numbers_votes "Numbers.votes" (defScope (inClass (top 12) 7)) fa cdv A outer s H E).nox) hr
  have W := W.w tp
  exact (mss_cons (ms_set (k := 1) hN rfl (.inl rfl) (me_lst true ma_nil))
    (mss_cons (ms_for (par_stp T k b) hK PassesOwn.never rfl (mi_r1 rfl fr.range (me_meth 45 wl.m_count hr (me_v 0) (ma_cons me_int ma_nil))) (mg_n hN rfl (.inl rfl)) (mss_cons (ms_set (k := 3) hN rfl (.inl rfl) (me_meth0 44 wl.m_one hr (me_v 0)))
    (mss_cons (ms_ex (me_append hK (me_v 1) (me_tup (ma_cons (me_v 3) (ma_cons (me_meth0 46 wl.m_row hr (me_v 0)) ma_nil)))))
    mss_nil)) (nd_ints .r1 (by simp)))
    (mss_cons (ms_ret (me_tuple hK fr (me_v 1)))
    mss_nil)))
abbrev N_p_numbers_Numbers_block : List PySem.Str := ["self", "fields", "header", "members", "following"]
theorem sc_p_numbers_Numbers_block : FnScope N_p_numbers_Numbers_block ["self"] (defScope (inClass (top 12) 8)) := ⟨rfl, rfl, rfl, by decide +kernel, rfl, by decide +kernel, by decide +kernel⟩
theorem b_p_numbers_Numbers_block {k : Nat} (W : Wo K (C0 K) T.fo) (fr : Fr mg) (gc : Gc K mg) (wa : ∀ j, j ≤ k → Wl P w K mg base j) (tp : Hp) (b : Nat) (fa : Addr) (cdv : Value) (A : Around) (outer : List Env) (s : Shared) (H : Hp) (E : XK)
    (hr : Room k (A.deeper (envOfC "Numbers.block" (defScope (inClass (top 12) 8)) s.heap.objs.size fa cdv))) :
    MSs (cxOf CX0 P w K mg base N_p_numbers_Numbers_block "Numbers.block" (defScope (inClass (top 12) 8)) fa cdv A outer s H E).nox ((C0 K).w tp) (par T k b) (defBody (inClass (top 12) 8)) f_p_numbers_Numbers_block.body := by
  have wl := wa k (Nat.le_refl _)
  have hK : ((C0 K).w tp).K = K := rfl
  have hN := sc_p_numbers_Numbers_block.nd
  have hu : (A.deeper (envOfC "Numbers.block" (defScope (inClass (top 12) 8)) s.heap.objs.size fa cdv)).units + 66 < cLine := hu_room (X := (cxOf CX0 P w K mg base N_p_numbers_Numbers_block "Numbers.block" (defScope (inClass (top 12) 8)) fa cdv A outer s H E).nox) hr
  have W := W.w tp
  exact (mss_cons (ms_set (k := 1) hN rfl (.inl rfl) (me_meth 30 wl.m_some hr (me_v 0) (ma_cons (me_gint' gc.c_FIELDS) ma_nil)))
    (mss_cons (ms_set (k := 2) hN rfl (.inl rfl) (me_make (fun j hj => (wa j (by omega)).c_Header) rfl hr rfl (ma_cons (me_idx hK hu (me_v 1) me_int) (ma_cons (me_idx hK hu (me_v 1) me_int) (ma_cons (me_idx hK hu (me_v 1) me_int) (ma_cons (me_idx hK hu (me_v 1) me_int) (ma_cons (me_idx hK hu (me_v 1) me_int) (ma_cons (me_idx hK hu (me_v 1) me_int) (ma_cons (me_idx hK hu (me_v 1) me_int) ma_nil)))))))))
    (mss_cons (ms_set (k := 3) hN rfl (.inl rfl) (me_meth0 37 wl.m_members hr (me_v 0)))
    (mss_cons (ms_set (k := 4) hN rfl (.inl rfl) (me_meth0 37 wl.m_members hr (me_v 0)))
    (mss_cons (ms_ret (me_make (fun j hj => (wa j (by omega)).c_Block) rfl hr rfl (ma_cons (me_v 2) (ma_cons (me_v 3) (ma_cons (me_v 4) (ma_cons (me_meth0 40 wl.m_votes hr (me_v 0)) ma_nil))))))
    mss_nil)))))
abbrev N_p_numbers_Numbers_close : List PySem.Str := ["self"]
theorem sc_p_numbers_Numbers_close : FnScope N_p_numbers_Numbers_close ["self"] (defScope (inClass (top 12) 9)) := ⟨rfl, rfl, rfl, by decide +kernel, rfl, by decide +kernel, by decide +kernel⟩
theorem b_p_numbers_Numbers_close {k : Nat} (W : Wo K (C0 K) T.fo) (fr : Fr mg) (gc : Gc K mg) (wa : ∀ j, j ≤ k → Wl P w K mg base j) (tp : Hp) (b : Nat) (fa : Addr) (cdv : Value) (A : Around) (outer : List Env) (s : Shared) (H : Hp) (E : XK)
    (hr : Room k (A.deeper (envOfC "Numbers.close" (defScope (inClass (top 12) 9)) s.heap.objs.size fa cdv))) :
    MSs (cxOf CX0 P w K mg base N_p_numbers_Numbers_close "Numbers.close" (defScope (inClass (top 12) 9)) fa cdv A outer s H E).nox ((C0 K).w tp) (par T k b) (defBody (inClass (top 12) 9)) f_p_numbers_Numbers_close.body := by
  have wl := wa k (Nat.le_refl _)
  have hK : ((C0 K).w tp).K = K := rfl
  have hN := sc_p_numbers_Numbers_close.nd
  have hu : (A.deeper (envOfC "Numbers.close" (defScope (inClass (top 12) 9)) s.heap.objs.size fa cdv)).units + 66 < cLine := hu_room (X := (cxOf CX0 P w K mg base N_p_numbers_Numbers_close "Numbers.close" (defScope (inClass (top 12) 9)) fa cdv A outer s H E).nox) hr
  have W := W.w tp
  exact (mss_cons (ms_iff (mt_cmp hK hu .gt (me_meth0 43 wl.m_left hr (me_v 0)) me_int) (mss_cons ms_nev
    mss_nil) mss_nil)
    mss_nil)
abbrev N_p_numbers_block_of : List PySem.Str := ["numbers", "source", "found"]
theorem sc_p_numbers_block_of : FnScope N_p_numbers_block_of ["numbers"] (defScope (top 13)) := ⟨rfl, rfl, rfl, by decide +kernel, rfl, by decide +kernel, by decide +kernel⟩
theorem b_p_numbers_block_of {k : Nat} (W : Wo K (C0 K) T.fo) (fr : Fr mg) (gc : Gc K mg) (wa : ∀ j, j ≤ k → Wl P w K mg base j) (tp : Hp) (b : Nat) (fa : Addr) (cdv : Value) (A : Around) (outer : List Env) (s : Shared) (H : Hp) (E : XK)
    (hr : Room k (A.deeper (envOfC "block_of" (defScope (top 13)) s.heap.objs.size fa cdv))) :
    MSs (cxOf CX0 P w K mg base N_p_numbers_block_of "block_of" (defScope (top 13)) fa cdv A outer s H E).nox ((C0 K).w tp) (par T k b) (defBody (top 13)) f_p_numbers_block_of.body := by
  have wl := wa k (Nat.le_refl _)
  have hK : ((C0 K).w tp).K = K := rfl
  have hN := sc_p_numbers_block_of.nd
  have hu : (A.deeper (envOfC "block_of" (defScope (top 13)) s.heap.objs.size fa cdv)).units + 66 < cLine := hu_room (X := (cxOf CX0 P w K mg base N_p_numbers_block_of "block_of" (defScope (top 13)) fa cdv A outer s H E).nox) hr
  have W := W.w tp
  exact (mss_cons (ms_set (k := 1) hN rfl (.inl rfl) (me_make (fun j hj => (wa j (by omega)).c_Numbers) rfl hr rfl (ma_cons (me_v 0) ma_nil)))
    (mss_cons (ms_set (k := 2) hN rfl (.inl rfl) (me_meth0 47 wl.m_block hr (me_v 1)))
    (mss_cons (ms_ex (me_meth0 48 wl.m_close hr (me_v 1)))
    (mss_cons (ms_ret (me_v 2))
    mss_nil))))
abbrev N_p_numbers_row_of : List PySem.Str := ["numbers", "source", "found"]
theorem sc_p_numbers_row_of : FnScope N_p_numbers_row_of ["numbers"] (defScope (top 14)) := ⟨rfl, rfl, rfl, by decide +kernel, rfl, by decide +kernel, by decide +kernel⟩
theorem b_p_numbers_row_of {k : Nat} (W : Wo K (C0 K) T.fo) (fr : Fr mg) (gc : Gc K mg) (wa : ∀ j, j ≤ k → Wl P w K mg base j) (tp : Hp) (b : Nat) (fa : Addr) (cdv : Value) (A : Around) (outer : List Env) (s : Shared) (H : Hp) (E : XK)
    (hr : Room k (A.deeper (envOfC "row_of" (defScope (top 14)) s.heap.objs.size fa cdv))) :
    MSs (cxOf CX0 P w K mg base N_p_numbers_row_of "row_of" (defScope (top 14)) fa cdv A outer s H E).nox ((C0 K).w tp) (par T k b) (defBody (top 14)) f_p_numbers_row_of.body := by
  have wl := wa k (Nat.le_refl _)
  have hK : ((C0 K).w tp).K = K := rfl
  have hN := sc_p_numbers_row_of.nd
  have hu : (A.deeper (envOfC "row_of" (defScope (top 14)) s.heap.objs.size fa cdv)).units + 66 < cLine := hu_room (X := (cxOf CX0 P w K mg base N_p_numbers_row_of "row_of" (defScope (top 14)) fa cdv A outer s H E).nox) hr
  have W := W.w tp
  exact (mss_cons (ms_set (k := 1) hN rfl (.inl rfl) (me_make (fun j hj => (wa j (by omega)).c_Numbers) rfl hr rfl (ma_cons (me_v 0) ma_nil)))
    (mss_cons (ms_set (k := 2) hN rfl (.inl rfl) (me_meth0 46 wl.m_row hr (me_v 1)))
    (mss_cons (ms_ex (me_meth0 48 wl.m_close hr (me_v 1)))
    (mss_cons (ms_ret (me_v 2))
    mss_nil))))
abbrev N_l_law_draw : List PySem.Str := ["_law_state", "_law_script", "_law_size", "_law_cell", "_law_mixed", "_law_digit"]
theorem sc_l_law_draw : FnScope N_l_law_draw ["_law_state", "_law_script", "_law_size"] (defScope (top 16)) := ⟨rfl, rfl, rfl, by decide +kernel, rfl, by decide +kernel, by decide +kernel⟩
theorem b_l_law_draw {k : Nat} (W : Wo K (C0 K) T.fo) (fr : Fr mg) (gc : Gc K mg) (wa : ∀ j, j ≤ k → Wl P w K mg base j) (tp : Hp) (b : Nat) (fa : Addr) (cdv : Value) (A : Around) (outer : List Env) (s : Shared) (H : Hp) (E : XK)
    (hr : Room k (A.deeper (envOfC "_law_draw" (defScope (top 16)) s.heap.objs.size fa cdv))) :
    MSs (cxOf CX0 P w K mg base N_l_law_draw "_law_draw" (defScope (top 16)) fa cdv A outer s H E).nox ((C0 K).w tp) (par T k b) (defBody (top 16)) f_l_law_draw.body := by
  have wl := wa k (Nat.le_refl _)
  have hK : ((C0 K).w tp).K = K := rfl
  have hN := sc_l_law_draw.nd
  have hu : (A.deeper (envOfC "_law_draw" (defScope (top 16)) s.heap.objs.size fa cdv)).units + 66 < cLine := hu_room (X := (cxOf CX0 P w K mg base N_l_law_draw "_law_draw" (defScope (top 16)) fa cdv A outer s H E).nox) hr
  have W := W.w tp
  exact (mss_cons (ms_iff (mt_cmp hK hu .eq (me_idx hK hu (me_v 0) me_int) me_int) (mss_cons (ms_set (k := 3) hN rfl (.inl rfl) me_int)
    (mss_cons (ms_iff (mt_cmp hK hu .gt (me_len hK fr (me_v 1)) me_int) (mss_cons (ms_set (k := 3) hN rfl (.inl rfl) (me_idx hK hu (me_v 1) (me_bin hK .mod (me_idx hK hu (me_v 0) me_int) (me_len hK fr (me_v 1)))))
    mss_nil) mss_nil)
    (mss_cons (ms_iff (mt_cmp hK hu .lt (me_v 3) me_int) (mss_cons (ms_set (k := 3) hN rfl (.inl rfl) (me_bin hK .sub me_int (me_bin hK .mul me_int (me_v 3))))
    mss_nil) mss_nil)
    (mss_cons (ms_set (k := 4) hN rfl (.inl rfl) (me_bin hK .mod (me_toint fr (me_bin hK .mul (me_bin hK .add (me_bin hK .add (me_v 3) (me_bin hK .mul (me_idx hK hu (me_v 0) me_int) me_int)) me_int) me_int)) me_int))
    (mss_cons (ms_seti hu (me_bin hK .mod (me_toint fr (me_bin hK .add (me_bin hK .mul (me_v 4) me_int) (me_bin hK .mul (me_idx hK hu (me_v 0) me_int) me_int))) me_int) (me_v 0) me_int)
    (mss_cons (ms_iff (MW.t (mw_and hK (mt_cmp hK hu .ge (me_v 3) (me_bin hK .pow me_int me_int)) (me_cmp hK hu .ge (me_v 3) (me_bin hK .pow me_int me_int)) (mw_and1 (mt_cmp hK hu .lt (me_idx hK hu (me_v 0) me_int) (me_len hK fr (me_v 1))) (me_cmp hK hu .lt (me_idx hK hu (me_v 0) me_int) (me_len hK fr (me_v 1)))))) (mss_cons (ms_seti hu (me_v 3) (me_v 0) me_int)
    mss_nil) mss_nil)
    (mss_cons (ms_seti hu (me_bin hK .add (me_idx hK hu (me_v 0) me_int) me_int) (me_v 0) me_int)
    mss_nil))))))) mss_nil)
    (mss_cons (ms_set (k := 5) hN rfl (.inl rfl) (me_bin hK .mod (me_toint fr (me_idx hK hu (me_v 0) me_int)) (me_v 2)))
    (mss_cons (ms_seti hu (me_bin hK .fdiv (me_idx hK hu (me_v 0) me_int) (me_v 2)) (me_v 0) me_int)
    (mss_cons (ms_ret (me_v 5))
    mss_nil))))
abbrev N_l_law_number : List PySem.Str := ["_law_state", "_law_script"]
theorem sc_l_law_number : FnScope N_l_law_number ["_law_state", "_law_script"] (defScope (top 17)) := ⟨rfl, rfl, rfl, by decide +kernel, rfl, by decide +kernel, by decide +kernel⟩
theorem b_l_law_number {k : Nat} (W : Wo K (C0 K) T.fo) (fr : Fr mg) (gc : Gc K mg) (wa : ∀ j, j ≤ k → Wl P w K mg base j) (tp : Hp) (b : Nat) (fa : Addr) (cdv : Value) (A : Around) (outer : List Env) (s : Shared) (H : Hp) (E : XK)
    (hr : Room k (A.deeper (envOfC "_law_number" (defScope (top 17)) s.heap.objs.size fa cdv))) :
    MSs (cxOf CX0 P w K mg base N_l_law_number "_law_number" (defScope (top 17)) fa cdv A outer s H E).nox ((C0 K).w tp) (par T k b) (defBody (top 17)) f_l_law_number.body := by
  have wl := wa k (Nat.le_refl _)
  have hK : ((C0 K).w tp).K = K := rfl
  have hN := sc_l_law_number.nd
  have hu : (A.deeper (envOfC "_law_number" (defScope (top 17)) s.heap.objs.size fa cdv)).units + 66 < cLine := hu_room (X := (cxOf CX0 P w K mg base N_l_law_number "_law_number" (defScope (top 17)) fa cdv A outer s H E).nox) hr
  have W := W.w tp
  exact (mss_cons (ms_ret (me_idx hK hu (me_lst false (ma_cons (me_call wl.l_law_draw hr rfl (ma_cons (me_v 0) (ma_cons (me_v 1) (ma_cons me_int ma_nil)))) (ma_cons (me_bin hK .sub me_int (me_call wl.l_law_draw hr rfl (ma_cons (me_v 0) (ma_cons (me_v 1) (ma_cons me_int ma_nil))))) (ma_cons (me_bin hK .shl me_int me_int) ma_nil)))) (me_call wl.l_law_draw hr rfl (ma_cons (me_v 0) (ma_cons (me_v 1) (ma_cons me_int ma_nil))))))
    mss_nil)
abbrev N_l_law_members : List PySem.Str := ["_law_state", "_law_script", "_law_k"]
theorem sc_l_law_members : FnScope N_l_law_members ["_law_state", "_law_script"] (defScope (top 18)) := ⟨rfl, rfl, rfl, by decide +kernel, rfl, by decide +kernel, by decide +kernel⟩
theorem b_l_law_members {k : Nat} (W : Wo K (C0 K) T.fo) (fr : Fr mg) (gc : Gc K mg) (wa : ∀ j, j ≤ k → Wl P w K mg base j) (tp : Hp) (b : Nat) (fa : Addr) (cdv : Value) (A : Around) (outer : List Env) (s : Shared) (H : Hp) (E : XK)
    (hr : Room k (A.deeper (envOfC "_law_members" (defScope (top 18)) s.heap.objs.size fa cdv))) :
    MSs (cxOf CX0 P w K mg base N_l_law_members "_law_members" (defScope (top 18)) fa cdv A outer s H E).nox ((C0 K).w tp) (par T k b) (defBody (top 18)) f_l_law_members.body := by
  have wl := wa k (Nat.le_refl _)
  have hK : ((C0 K).w tp).K = K := rfl
  have hN := sc_l_law_members.nd
  have hu : (A.deeper (envOfC "_law_members" (defScope (top 18)) s.heap.objs.size fa cdv)).units + 66 < cLine := hu_room (X := (cxOf CX0 P w K mg base N_l_law_members "_law_members" (defScope (top 18)) fa cdv A outer s H E).nox) hr
  have W := W.w tp
  exact (mss_cons (ms_ret (me_tuple hK fr (me_lc false (par_stp T k b) hK rfl hN (nd_ints .r1 (by simp)) (mi_r1 rfl fr.range (me_call wl.l_law_draw hr rfl (ma_cons (me_v 0) (ma_cons (me_v 1) (ma_cons me_int ma_nil))))) (blkOk_by (N := N_l_law_members) (sc := defScope (top 18)) (own := [("_law_k", 2)]) (by decide +kernel)) rfl (fun _ _ _ _ _ => (mg_n hN rfl (.inl rfl))) (fun tp _ _ _ _ _ => mts_nil) (fun tp _ _ _ _ _ => (me_tup (ma_cons (me_call wl.l_law_number hr rfl (ma_cons (me_v 0) (ma_cons (me_v 1) ma_nil))) (ma_cons (me_call wl.l_law_number hr rfl (ma_cons (me_v 0) (ma_cons (me_v 1) ma_nil))) ma_nil)))))))
    mss_nil)
abbrev N_l_law_votes : List PySem.Str := ["_law_state", "_law_script", "_law_votes_here", "_law_k", "_law_words", "_law_j"]
theorem sc_l_law_votes : FnScope N_l_law_votes ["_law_state", "_law_script"] (defScope (top 19)) := ⟨rfl, rfl, rfl, by decide +kernel, rfl, by decide +kernel, by decide +kernel⟩
theorem b_l_law_votes {k : Nat} (W : Wo K (C0 K) T.fo) (fr : Fr mg) (gc : Gc K mg) (wa : ∀ j, j ≤ k → Wl P w K mg base j) (tp : Hp) (b : Nat) (fa : Addr) (cdv : Value) (A : Around) (outer : List Env) (s : Shared) (H : Hp) (E : XK)
    (hr : Room k (A.deeper (envOfC "_law_votes" (defScope (top 19)) s.heap.objs.size fa cdv))) :
    MSs (cxOf CX0 P w K mg base N_l_law_votes "_law_votes" (defScope (top 19)) fa cdv A outer s H E).nox ((C0 K).w tp) (par T k b) (defBody (top 19)) f_l_law_votes.body := by
  have wl := wa k (Nat.le_refl _)
  have hK : ((C0 K).w tp).K = K := rfl
  have hN := sc_l_law_votes.nd
  have hu : (A.deeper (envOfC "_law_votes" (defScope (top 19)) s.heap.objs.size fa cdv)).units + 66 < cLine := hu_room (X := (cxOf CX0 P w K mg base N_l_law_votes "_law_votes" (defScope (top 19)) fa cdv A outer s H E).nox) hr
  have W := W.w tp
  exact (mss_cons (ms_set (k := 2) hN rfl (.inl rfl) (me_lst true ma_nil))
    (mss_cons (ms_for (par_stp T k b) hK PassesOwn.never rfl (mi_r1 rfl fr.range (me_call wl.l_law_draw hr rfl (ma_cons (me_v 0) (ma_cons (me_v 1) (ma_cons me_int ma_nil))))) (mg_n hN rfl (.inl rfl)) (mss_cons (ms_setlc (i := 4) false (par_stp T k b) hK rfl hN rfl rfl (nd_ints .r1 (by simp)) (mi_r1 rfl fr.range (me_call wl.l_law_draw hr rfl (ma_cons (me_v 0) (ma_cons (me_v 1) (ma_cons me_int ma_nil))))) (blkOk_by (N := N_l_law_votes) (sc := defScope (top 19)) (own := [("_law_j", 5)]) (by decide +kernel)) rfl (fun _ _ _ _ _ => (mg_n hN rfl (.inl rfl))) (fun tp _ _ _ _ _ => mts_nil) (fun tp _ _ _ _ _ => (me_call wl.l_law_number hr rfl (ma_cons (me_v 0) (ma_cons (me_v 1) ma_nil)))))
    (mss_cons (ms_ex (me_append hK (me_v 2) (me_tup (ma_cons (me_call wl.l_law_number hr rfl (ma_cons (me_v 0) (ma_cons (me_v 1) ma_nil))) (ma_cons (me_tuple hK fr (me_v 4)) ma_nil)))))
    mss_nil)) (nd_ints .r1 (by simp)))
    (mss_cons (ms_ret (me_tuple hK fr (me_v 2)))
    mss_nil)))
abbrev N_l_law_block : List PySem.Str := ["_law_state", "_law_script", "_law_fields", "_law_header", "_law_k"]
theorem sc_l_law_block : FnScope N_l_law_block ["_law_state", "_law_script"] (defScope (top 20)) := ⟨rfl, rfl, rfl, by decide +kernel, rfl, by decide +kernel, by decide +kernel⟩
theorem b_l_law_block {k : Nat} (W : Wo K (C0 K) T.fo) (fr : Fr mg) (gc : Gc K mg) (wa : ∀ j, j ≤ k → Wl P w K mg base j) (tp : Hp) (b : Nat) (fa : Addr) (cdv : Value) (A : Around) (outer : List Env) (s : Shared) (H : Hp) (E : XK)
    (hr : Room k (A.deeper (envOfC "_law_block" (defScope (top 20)) s.heap.objs.size fa cdv))) :
    MSs (cxOf CX0 P w K mg base N_l_law_block "_law_block" (defScope (top 20)) fa cdv A outer s H E).nox ((C0 K).w tp) (par T k b) (defBody (top 20)) f_l_law_block.body := by
  have wl := wa k (Nat.le_refl _)
  have hK : ((C0 K).w tp).K = K := rfl
  have hN := sc_l_law_block.nd
  have hu : (A.deeper (envOfC "_law_block" (defScope (top 20)) s.heap.objs.size fa cdv)).units + 66 < cLine := hu_room (X := (cxOf CX0 P w K mg base N_l_law_block "_law_block" (defScope (top 20)) fa cdv A outer s H E).nox) hr
  have W := W.w tp
  exact (mss_cons (ms_setlc (i := 2) false (par_stp T k b) hK rfl hN rfl rfl (nd_ints .r1 (by simp)) (mi_r1 rfl fr.range me_int) (blkOk_by (N := N_l_law_block) (sc := defScope (top 20)) (own := [("_law_k", 4)]) (by decide +kernel)) rfl (fun _ _ _ _ _ => (mg_n hN rfl (.inl rfl))) (fun tp _ _ _ _ _ => mts_nil) (fun tp _ _ _ _ _ => (me_call wl.l_law_number hr rfl (ma_cons (me_v 0) (ma_cons (me_v 1) ma_nil)))))
    (mss_cons (ms_set (k := 3) hN rfl (.inl rfl) (me_make (fun j hj => (wa j (by omega)).c_Header) rfl hr rfl (ma_cons (me_idx hK hu (me_v 2) me_int) (ma_cons (me_idx hK hu (me_v 2) me_int) (ma_cons (me_idx hK hu (me_v 2) me_int) (ma_cons (me_idx hK hu (me_v 2) me_int) (ma_cons (me_idx hK hu (me_v 2) me_int) (ma_cons (me_idx hK hu (me_v 2) me_int) (ma_cons (me_idx hK hu (me_v 2) me_int) ma_nil)))))))))
    (mss_cons (ms_ret (me_make (fun j hj => (wa j (by omega)).c_Block) rfl hr rfl (ma_cons (me_v 3) (ma_cons (me_call wl.l_law_members hr rfl (ma_cons (me_v 0) (ma_cons (me_v 1) ma_nil))) (ma_cons (me_call wl.l_law_members hr rfl (ma_cons (me_v 0) (ma_cons (me_v 1) ma_nil))) (ma_cons (me_call wl.l_law_votes hr rfl (ma_cons (me_v 0) (ma_cons (me_v 1) ma_nil))) ma_nil))))))
    mss_nil)))
abbrev N_l_law_row : List PySem.Str := ["_law_row_here"]
theorem sc_l_law_row : FnScope N_l_law_row ["_law_row_here"] (defScope (top 21)) := ⟨rfl, rfl, rfl, by decide +kernel, rfl, by decide +kernel, by decide +kernel⟩
theorem b_l_law_row {k : Nat} (W : Wo K (C0 K) T.fo) (fr : Fr mg) (gc : Gc K mg) (wa : ∀ j, j ≤ k → Wl P w K mg base j) (tp : Hp) (b : Nat) (fa : Addr) (cdv : Value) (A : Around) (outer : List Env) (s : Shared) (H : Hp) (E : XK)
    (hr : Room k (A.deeper (envOfC "_law_row" (defScope (top 21)) s.heap.objs.size fa cdv))) :
    MSs (cxOf CX0 P w K mg base N_l_law_row "_law_row" (defScope (top 21)) fa cdv A outer s H E).nox ((C0 K).w tp) (par T k b) (defBody (top 21)) f_l_law_row.body := by
  have wl := wa k (Nat.le_refl _)
  have hK : ((C0 K).w tp).K = K := rfl
  have hN := sc_l_law_row.nd
  have hu : (A.deeper (envOfC "_law_row" (defScope (top 21)) s.heap.objs.size fa cdv)).units + 66 < cLine := hu_room (X := (cxOf CX0 P w K mg base N_l_law_row "_law_row" (defScope (top 21)) fa cdv A outer s H E).nox) hr
  have W := W.w tp
  exact (mss_cons (ms_ret (me_bin hK .add (me_lst false (ma_cons (me_len hK fr (me_v 0)) ma_nil)) (me_list false hK fr rfl (me_v 0))))
    mss_nil)
abbrev N_l_law_flat : List PySem.Str := ["_law_members_here", "_law_found", "_law_one"]
theorem sc_l_law_flat : FnScope N_l_law_flat ["_law_members_here"] (defScope (top 22)) := ⟨rfl, rfl, rfl, by decide +kernel, rfl, by decide +kernel, by decide +kernel⟩
theorem b_l_law_flat {k : Nat} (W : Wo K (C0 K) T.fo) (fr : Fr mg) (gc : Gc K mg) (wa : ∀ j, j ≤ k → Wl P w K mg base j) (tp : Hp) (b : Nat) (fa : Addr) (cdv : Value) (A : Around) (outer : List Env) (s : Shared) (H : Hp) (E : XK)
    (hr : Room k (A.deeper (envOfC "_law_flat" (defScope (top 22)) s.heap.objs.size fa cdv))) :
    MSs (cxOf CX0 P w K mg base N_l_law_flat "_law_flat" (defScope (top 22)) fa cdv A outer s H E).nox ((C0 K).w tp) (par T k b) (defBody (top 22)) f_l_law_flat.body := by
  have wl := wa k (Nat.le_refl _)
  have hK : ((C0 K).w tp).K = K := rfl
  have hN := sc_l_law_flat.nd
  have hu : (A.deeper (envOfC "_law_flat" (defScope (top 22)) s.heap.objs.size fa cdv)).units + 66 < cLine := hu_room (X := (cxOf CX0 P w K mg base N_l_law_flat "_law_flat" (defScope (top 22)) fa cdv A outer s H E).nox) hr
  have W := W.w tp
  exact (mss_cons (ms_set (k := 1) hN rfl (.inl rfl) (me_lst false (ma_cons (me_len hK fr (me_v 0)) ma_nil)))
    (mss_cons (ms_for (par_stp T k b) hK PassesOwn.never rfl (mi_sq hK (me_v 0)) (mg_n hN rfl (.inl rfl)) (mss_cons (ms_set (k := 1) hN rfl (.inl rfl) (me_bin hK .add (me_v 1) (me_list false hK fr rfl (me_v 2))))
    mss_nil) nd_sq)
    (mss_cons (ms_ret (me_v 1))
    mss_nil)))
abbrev N_l_law_told : List PySem.Str := ["_law_votes_here", "_law_found", "_law_public", "_law_words"]
theorem sc_l_law_told : FnScope N_l_law_told ["_law_votes_here"] (defScope (top 23)) := ⟨rfl, rfl, rfl, by decide +kernel, rfl, by decide +kernel, by decide +kernel⟩
theorem b_l_law_told {k : Nat} (W : Wo K (C0 K) T.fo) (fr : Fr mg) (gc : Gc K mg) (wa : ∀ j, j ≤ k → Wl P w K mg base j) (tp : Hp) (b : Nat) (fa : Addr) (cdv : Value) (A : Around) (outer : List Env) (s : Shared) (H : Hp) (E : XK)
    (hr : Room k (A.deeper (envOfC "_law_told" (defScope (top 23)) s.heap.objs.size fa cdv))) :
    MSs (cxOf CX0 P w K mg base N_l_law_told "_law_told" (defScope (top 23)) fa cdv A outer s H E).nox ((C0 K).w tp) (par T k b) (defBody (top 23)) f_l_law_told.body := by
  have wl := wa k (Nat.le_refl _)
  have hK : ((C0 K).w tp).K = K := rfl
  have hN := sc_l_law_told.nd
  have hu : (A.deeper (envOfC "_law_told" (defScope (top 23)) s.heap.objs.size fa cdv)).units + 66 < cLine := hu_room (X := (cxOf CX0 P w K mg base N_l_law_told "_law_told" (defScope (top 23)) fa cdv A outer s H E).nox) hr
  have W := W.w tp
  exact (mss_cons (ms_set (k := 1) hN rfl (.inl rfl) (me_lst false (ma_cons (me_len hK fr (me_v 0)) ma_nil)))
    (mss_cons (ms_for (par_stp T k b) hK PassesOwn.never rfl (mi_sq hK (me_v 0)) (mg_t rfl (mgs_cons (mg_n hN rfl (.inl rfl)) (mgs_cons (mg_n hN rfl (.inl rfl)) mgs_nil))) (mss_cons (ms_set (k := 1) hN rfl (.inl rfl) (me_bin hK .add (me_bin hK .add (me_v 1) (me_lst false (ma_cons (me_v 2) ma_nil))) (me_call wl.l_law_row hr rfl (ma_cons (me_v 3) ma_nil))))
    mss_nil) nd_sq)
    (mss_cons (ms_ret (me_v 1))
    mss_nil)))
abbrev N_l_law_all : List PySem.Str := ["_law_block_here"]
theorem sc_l_law_all : FnScope N_l_law_all ["_law_block_here"] (defScope (top 24)) := ⟨rfl, rfl, rfl, by decide +kernel, rfl, by decide +kernel, by decide +kernel⟩
theorem b_l_law_all {k : Nat} (W : Wo K (C0 K) T.fo) (fr : Fr mg) (gc : Gc K mg) (wa : ∀ j, j ≤ k → Wl P w K mg base j) (tp : Hp) (b : Nat) (fa : Addr) (cdv : Value) (A : Around) (outer : List Env) (s : Shared) (H : Hp) (E : XK)
    (hr : Room k (A.deeper (envOfC "_law_all" (defScope (top 24)) s.heap.objs.size fa cdv))) :
    MSs (cxOf CX0 P w K mg base N_l_law_all "_law_all" (defScope (top 24)) fa cdv A outer s H E).nox ((C0 K).w tp) (par T k b) (defBody (top 24)) f_l_law_all.body := by
  have wl := wa k (Nat.le_refl _)
  have hK : ((C0 K).w tp).K = K := rfl
  have hN := sc_l_law_all.nd
  have hu : (A.deeper (envOfC "_law_all" (defScope (top 24)) s.heap.objs.size fa cdv)).units + 66 < cLine := hu_room (X := (cxOf CX0 P w K mg base N_l_law_all "_law_all" (defScope (top 24)) fa cdv A outer s H E).nox) hr
  have W := W.w tp
  exact (mss_cons (ms_ret (me_bin hK .add (me_bin hK .add (me_bin hK .add (me_list false hK fr rfl (me_meth0 41 wl.m_fields hr (me_att (W.wd hr rfl) 39 (me_v 0)))) (me_call wl.l_law_flat hr rfl (ma_cons (me_att (W.wd hr rfl) 37 (me_v 0)) ma_nil))) (me_call wl.l_law_flat hr rfl (ma_cons (me_att (W.wd hr rfl) 38 (me_v 0)) ma_nil))) (me_call wl.l_law_told hr rfl (ma_cons (me_att (W.wd hr rfl) 40 (me_v 0)) ma_nil))))
    mss_nil)
abbrev N_l_law : List PySem.Str := ["_law_script", "_law_state", "_law_block_here", "_law_numbers", "_law_members_here", "_law_votes_here", "_law_row_here", "_law_source", "_law_k"]
theorem sc_l_law : FnScope N_l_law ["_law_script"] (defScope (top 25)) := ⟨rfl, rfl, rfl, by decide +kernel, rfl, by decide +kernel, by decide +kernel⟩
theorem b_l_law {k : Nat} (W : Wo K (C0 K) T.fo) (fr : Fr mg) (gc : Gc K mg) (wa : ∀ j, j ≤ k → Wl P w K mg base j) (tp : Hp) (b : Nat) (fa : Addr) (cdv : Value) (A : Around) (outer : List Env) (s : Shared) (H : Hp) (E : XK)
    (hr : Room k (A.deeper (envOfC "law" (defScope (top 25)) s.heap.objs.size fa cdv))) :
    MSs (cxOf CX0 P w K mg base N_l_law "law" (defScope (top 25)) fa cdv A outer s H E).nox ((C0 K).w tp) (par T k b) (defBody (top 25)) f_l_law.body := by
  have wl := wa k (Nat.le_refl _)
  have hK : ((C0 K).w tp).K = K := rfl
  have hN := sc_l_law.nd
  have hu : (A.deeper (envOfC "law" (defScope (top 25)) s.heap.objs.size fa cdv)).units + 66 < cLine := hu_room (X := (cxOf CX0 P w K mg base N_l_law "law" (defScope (top 25)) fa cdv A outer s H E).nox) hr
  have W := W.w tp
  exact (mss_cons (ms_set (k := 1) hN rfl (.inr rfl) (me_lst true (ma_cons me_int (ma_cons me_int ma_nil))))
    (mss_cons (ms_set (k := 2) hN rfl (.inl rfl) (me_call wl.l_law_block hr rfl (ma_cons (me_v 1) (ma_cons (me_v 0) ma_nil))))
    (mss_cons (ms_set (k := 3) hN rfl (.inl rfl) (me_call wl.p_numbers_numbers_of_block hr rfl (ma_cons (me_v 2) ma_nil)))
    (mss_cons (ms_iff (MW.t (mw_or hK (mt_not (mt_v hK (me_isi hK .list rfl fr.isinstance PyProof.Rows.boot_isinstance (me_v 3) rfl fr.list boot_list))) (me_not hK (me_isi hK .list rfl fr.isinstance PyProof.Rows.boot_isinstance (me_v 3) rfl fr.list boot_list)) (mw_or hK (mt_cmp hK hu .ne (me_v 3) (me_call wl.l_law_all hr rfl (ma_cons (me_v 2) ma_nil))) (me_cmp hK hu .ne (me_v 3) (me_call wl.l_law_all hr rfl (ma_cons (me_v 2) ma_nil))) (mw_or1 (mt_not (mt_ceqo hK hu hr (fun j hj => (wa j hj).eqm) (me_call wl.p_numbers_block_of hr rfl (ma_cons (me_list false hK fr rfl (me_v 3)) ma_nil)) (me_v 2))) (me_not hK (me_ceqo hK hu hr (fun j hj => (wa j hj).eqm) (me_call wl.p_numbers_block_of hr rfl (ma_cons (me_list false hK fr rfl (me_v 3)) ma_nil)) (me_v 2))))))) (mss_cons (ms_ret me_bl)
    mss_nil) mss_nil)
    (mss_cons (ms_set (k := 4) hN rfl (.inl rfl) (me_call wl.l_law_members hr rfl (ma_cons (me_v 1) (ma_cons (me_v 0) ma_nil))))
    (mss_cons (ms_set (k := 5) hN rfl (.inl rfl) (me_call wl.l_law_votes hr rfl (ma_cons (me_v 1) (ma_cons (me_v 0) ma_nil))))
    (mss_cons (ms_set (k := 6) hN rfl (.inl rfl) (me_tuple hK fr (me_lc false (par_stp T k b) hK rfl hN (nd_ints .r1 (by simp)) (mi_r1 rfl fr.range (me_call wl.l_law_draw hr rfl (ma_cons (me_v 1) (ma_cons (me_v 0) (ma_cons me_int ma_nil))))) (blkOk_by (N := N_l_law) (sc := defScope (top 25)) (own := [("_law_k", 8)]) (by decide +kernel)) rfl (fun _ _ _ _ _ => (mg_n hN rfl (.inl rfl))) (fun tp _ _ _ _ _ => mts_nil) (fun tp _ _ _ _ _ => (me_call wl.l_law_number hr rfl (ma_cons (me_v 1) (ma_cons (me_v 0) ma_nil)))))))
    (mss_cons (ms_iff (MW.t (mw_or hK (mt_cmp hK hu .ne (me_call wl.p_numbers_numbers_of_members hr rfl (ma_cons (me_v 4) ma_nil)) (me_call wl.l_law_flat hr rfl (ma_cons (me_v 4) ma_nil))) (me_cmp hK hu .ne (me_call wl.p_numbers_numbers_of_members hr rfl (ma_cons (me_v 4) ma_nil)) (me_call wl.l_law_flat hr rfl (ma_cons (me_v 4) ma_nil))) (mw_or1 (mt_cmp hK hu .ne (me_call wl.p_numbers_numbers_of_votes hr rfl (ma_cons (me_v 5) ma_nil)) (me_call wl.l_law_told hr rfl (ma_cons (me_v 5) ma_nil))) (me_cmp hK hu .ne (me_call wl.p_numbers_numbers_of_votes hr rfl (ma_cons (me_v 5) ma_nil)) (me_call wl.l_law_told hr rfl (ma_cons (me_v 5) ma_nil)))))) (mss_cons (ms_ret me_bl)
    mss_nil) mss_nil)
    (mss_cons (ms_iff (MW.t (mw_or hK (mt_cmp hK hu .ne (me_call wl.p_numbers_numbers_of_row hr rfl (ma_cons (me_v 6) ma_nil)) (me_call wl.l_law_row hr rfl (ma_cons (me_v 6) ma_nil))) (me_cmp hK hu .ne (me_call wl.p_numbers_numbers_of_row hr rfl (ma_cons (me_v 6) ma_nil)) (me_call wl.l_law_row hr rfl (ma_cons (me_v 6) ma_nil))) (mw_or hK (mt_cmp hK hu .ne (me_call wl.p_numbers_numbers_of_row hr rfl (ma_cons (me_list false hK fr rfl (me_v 6)) ma_nil)) (me_call wl.l_law_row hr rfl (ma_cons (me_v 6) ma_nil))) (me_cmp hK hu .ne (me_call wl.p_numbers_numbers_of_row hr rfl (ma_cons (me_list false hK fr rfl (me_v 6)) ma_nil)) (me_call wl.l_law_row hr rfl (ma_cons (me_v 6) ma_nil))) (mw_or1 (mt_cmp hK hu .ne (me_call wl.p_numbers_row_of hr rfl (ma_cons (me_call wl.l_law_row hr rfl (ma_cons (me_v 6) ma_nil)) ma_nil)) (me_v 6)) (me_cmp hK hu .ne (me_call wl.p_numbers_row_of hr rfl (ma_cons (me_call wl.l_law_row hr rfl (ma_cons (me_v 6) ma_nil)) ma_nil)) (me_v 6)))))) (mss_cons (ms_ret me_bl)
    mss_nil) mss_nil)
    (mss_cons (ms_set (k := 7) hN rfl (.inl rfl) (me_make (fun j hj => (wa j (by omega)).c_Numbers) rfl hr rfl (ma_cons (me_bin hK .add (me_bin hK .add (me_bin hK .add (me_bin hK .add (me_bin hK .add (me_call wl.l_law_row hr rfl (ma_cons (me_v 6) ma_nil)) (me_call wl.l_law_flat hr rfl (ma_cons (me_v 4) ma_nil))) (me_lst false (ma_cons me_int ma_nil))) (me_call wl.l_law_told hr rfl (ma_cons (me_v 5) ma_nil))) (me_v 3)) (me_lst false (ma_cons me_int (ma_cons me_int (ma_cons me_int ma_nil))))) ma_nil)))
    (mss_cons (ms_iff (mt_cmp hK hu .ne (me_tup (ma_cons (me_meth0 46 wl.m_row hr (me_v 7)) (ma_cons (me_meth0 37 wl.m_members hr (me_v 7)) (ma_cons (me_meth0 44 wl.m_one hr (me_v 7)) (ma_cons (me_meth0 40 wl.m_votes hr (me_v 7)) ma_nil))))) (me_tup (ma_cons (me_v 6) (ma_cons (me_v 4) (ma_cons me_int (ma_cons (me_v 5) ma_nil)))))) (mss_cons (ms_ret me_bl)
    mss_nil) mss_nil)
    (mss_cons (ms_iff (MW.t (mw_or hK (mt_not (mt_ceqo hK hu hr (fun j hj => (wa j hj).eqm) (me_meth0 47 wl.m_block hr (me_v 7)) (me_v 2))) (me_not hK (me_ceqo hK hu hr (fun j hj => (wa j hj).eqm) (me_meth0 47 wl.m_block hr (me_v 7)) (me_v 2))) (mw_or hK (mt_cmp hK hu .ne (me_meth 45 wl.m_count hr (me_v 7) (ma_cons me_int ma_nil)) me_int) (me_cmp hK hu .ne (me_meth 45 wl.m_count hr (me_v 7) (ma_cons me_int ma_nil)) me_int) (mw_or hK (mt_cmp hK hu .ne (me_meth 30 wl.m_some hr (me_v 7) (ma_cons me_int ma_nil)) (me_tup (ma_cons me_int (ma_cons me_int ma_nil)))) (me_cmp hK hu .ne (me_meth 30 wl.m_some hr (me_v 7) (ma_cons me_int ma_nil)) (me_tup (ma_cons me_int (ma_cons me_int ma_nil)))) (mw_or1 (mt_cmp hK hu .ne (me_meth 30 wl.m_some hr (me_v 7) (ma_cons me_int ma_nil)) (me_tup ma_nil)) (me_cmp hK hu .ne (me_meth 30 wl.m_some hr (me_v 7) (ma_cons me_int ma_nil)) (me_tup ma_nil))))))) (mss_cons (ms_ret me_bl)
    mss_nil) mss_nil)
    (mss_cons (ms_ret (me_cmp hK hu .is (me_meth0 48 wl.m_close hr (me_v 7)) me_non))
    mss_nil)))))))))))))
end
/-! ### the head -/
def d_p_headers_Header___init__ : He.DefD := ⟨("Header", some "__init__"), "__init__", "Header.__init__", defArgs (inClass (top 4) 0), defBody (inClass (top 4) 0), defScope (inClass (top 4) 0), [], []⟩
def d_p_headers_Header_fields : He.DefD := ⟨("Header", some "fields"), "fields", "Header.fields", defArgs (inClass (top 4) 1), defBody (inClass (top 4) 1), defScope (inClass (top 4) 1), [], []⟩
def d_p_headers_Header___eq__ : He.DefD := ⟨("Header", some "__eq__"), "__eq__", "Header.__eq__", defArgs (inClass (top 4) 2), defBody (inClass (top 4) 2), defScope (inClass (top 4) 2), [], []⟩
def d_p_headers_Block___init__ : He.DefD := ⟨("Block", some "__init__"), "__init__", "Block.__init__", defArgs (inClass (top 5) 0), defBody (inClass (top 5) 0), defScope (inClass (top 5) 0), [], []⟩
def d_p_headers_Block___eq__ : He.DefD := ⟨("Block", some "__eq__"), "__eq__", "Block.__eq__", defArgs (inClass (top 5) 1), defBody (inClass (top 5) 1), defScope (inClass (top 5) 1), [], []⟩
def d_p_numbers_numbers_of_row : He.DefD := ⟨("numbers_of_row", none), "numbers_of_row", "numbers_of_row", defArgs (top 8), defBody (top 8), defScope (top 8), [], []⟩
def d_p_numbers_numbers_of_members : He.DefD := ⟨("numbers_of_members", none), "numbers_of_members", "numbers_of_members", defArgs (top 9), defBody (top 9), defScope (top 9), [], []⟩
def d_p_numbers_numbers_of_votes : He.DefD := ⟨("numbers_of_votes", none), "numbers_of_votes", "numbers_of_votes", defArgs (top 10), defBody (top 10), defScope (top 10), [], []⟩
def d_p_numbers_numbers_of_block : He.DefD := ⟨("numbers_of_block", none), "numbers_of_block", "numbers_of_block", defArgs (top 11), defBody (top 11), defScope (top 11), [], []⟩
def d_p_numbers_Numbers___init__ : He.DefD := ⟨("Numbers", some "__init__"), "__init__", "Numbers.__init__", defArgs (inClass (top 12) 0), defBody (inClass (top 12) 0), defScope (inClass (top 12) 0), [], []⟩
def d_p_numbers_Numbers_left : He.DefD := ⟨("Numbers", some "left"), "left", "Numbers.left", defArgs (inClass (top 12) 1), defBody (inClass (top 12) 1), defScope (inClass (top 12) 1), [], []⟩
def d_p_numbers_Numbers_some : He.DefD := ⟨("Numbers", some "some"), "some", "Numbers.some", defArgs (inClass (top 12) 2), defBody (inClass (top 12) 2), defScope (inClass (top 12) 2), [], []⟩
def d_p_numbers_Numbers_one : He.DefD := ⟨("Numbers", some "one"), "one", "Numbers.one", defArgs (inClass (top 12) 3), defBody (inClass (top 12) 3), defScope (inClass (top 12) 3), [], []⟩
def d_p_numbers_Numbers_count : He.DefD := ⟨("Numbers", some "count"), "count", "Numbers.count", defArgs (inClass (top 12) 4), defBody (inClass (top 12) 4), defScope (inClass (top 12) 4), [], []⟩
def d_p_numbers_Numbers_row : He.DefD := ⟨("Numbers", some "row"), "row", "Numbers.row", defArgs (inClass (top 12) 5), defBody (inClass (top 12) 5), defScope (inClass (top 12) 5), [], []⟩
def d_p_numbers_Numbers_members : He.DefD := ⟨("Numbers", some "members"), "members", "Numbers.members", defArgs (inClass (top 12) 6), defBody (inClass (top 12) 6), defScope (inClass (top 12) 6), [], []⟩
def d_p_numbers_Numbers_votes : He.DefD := ⟨("Numbers", some "votes"), "votes", "Numbers.votes", defArgs (inClass (top 12) 7), defBody (inClass (top 12) 7), defScope (inClass (top 12) 7), [], []⟩
def d_p_numbers_Numbers_block : He.DefD := ⟨("Numbers", some "block"), "block", "Numbers.block", defArgs (inClass (top 12) 8), defBody (inClass (top 12) 8), defScope (inClass (top 12) 8), [], []⟩
def d_p_numbers_Numbers_close : He.DefD := ⟨("Numbers", some "close"), "close", "Numbers.close", defArgs (inClass (top 12) 9), defBody (inClass (top 12) 9), defScope (inClass (top 12) 9), [], []⟩
def d_p_numbers_block_of : He.DefD := ⟨("block_of", none), "block_of", "block_of", defArgs (top 13), defBody (top 13), defScope (top 13), [], []⟩
def d_p_numbers_row_of : He.DefD := ⟨("row_of", none), "row_of", "row_of", defArgs (top 14), defBody (top 14), defScope (top 14), [], []⟩
def d_l_law_draw : He.DefD := ⟨("_law_draw", none), "_law_draw", "_law_draw", defArgs (top 16), defBody (top 16), defScope (top 16), [], []⟩
def d_l_law_number : He.DefD := ⟨("_law_number", none), "_law_number", "_law_number", defArgs (top 17), defBody (top 17), defScope (top 17), [], []⟩
def d_l_law_members : He.DefD := ⟨("_law_members", none), "_law_members", "_law_members", defArgs (top 18), defBody (top 18), defScope (top 18), [], []⟩
def d_l_law_votes : He.DefD := ⟨("_law_votes", none), "_law_votes", "_law_votes", defArgs (top 19), defBody (top 19), defScope (top 19), [], []⟩
def d_l_law_block : He.DefD := ⟨("_law_block", none), "_law_block", "_law_block", defArgs (top 20), defBody (top 20), defScope (top 20), [], []⟩
def d_l_law_row : He.DefD := ⟨("_law_row", none), "_law_row", "_law_row", defArgs (top 21), defBody (top 21), defScope (top 21), [], []⟩
def d_l_law_flat : He.DefD := ⟨("_law_flat", none), "_law_flat", "_law_flat", defArgs (top 22), defBody (top 22), defScope (top 22), [], []⟩
def d_l_law_told : He.DefD := ⟨("_law_told", none), "_law_told", "_law_told", defArgs (top 23), defBody (top 23), defScope (top 23), [], []⟩
def d_l_law_all : He.DefD := ⟨("_law_all", none), "_law_all", "_law_all", defArgs (top 24), defBody (top 24), defScope (top 24), [], []⟩
def d_l_law : He.DefD := ⟨("law", none), "law", "law", defArgs (top 25), defBody (top 25), defScope (top 25), [], []⟩
def fn : List He.DefD := [d_p_headers_Header___init__, d_p_headers_Header_fields, d_p_headers_Header___eq__, d_p_headers_Block___init__, d_p_headers_Block___eq__, d_p_numbers_numbers_of_row, d_p_numbers_numbers_of_members, d_p_numbers_numbers_of_votes, d_p_numbers_numbers_of_block, d_p_numbers_Numbers___init__, d_p_numbers_Numbers_left, d_p_numbers_Numbers_some, d_p_numbers_Numbers_one, d_p_numbers_Numbers_count, d_p_numbers_Numbers_row, d_p_numbers_Numbers_members, d_p_numbers_Numbers_votes, d_p_numbers_Numbers_block, d_p_numbers_Numbers_close, d_p_numbers_block_of, d_p_numbers_row_of, d_l_law_draw, d_l_law_number, d_l_law_members, d_l_law_votes, d_l_law_block, d_l_law_row, d_l_law_flat, d_l_law_told, d_l_law_all, d_l_law]
def ics : List PySem.Str := ["Block", "Header"]
def fa : List He.Fa := [.free "range", .free "len", .free "sum", .free "int", .free "sorted", .free "tuple", .free "list", .free "dict", .free "min", .free "max", .free "all", .free "any", .free "isinstance", .free "reversed", .free "zip", .free "bool", .glo "numbers_of_row", .glo "numbers_of_members", .glo "numbers_of_votes", .glo "numbers_of_block", .glo "block_of", .glo "row_of", .glo "_law_draw", .glo "_law_number", .glo "_law_members", .glo "_law_votes", .glo "_law_block", .glo "_law_row", .glo "_law_flat", .glo "_law_told", .glo "_law_all", .glo "law", .glo "Header", .cls "Header", .mkr "Header", .glo "Block", .cls "Block", .mkr "Block", .glo "Numbers", .cls "Numbers", .mkr "Numbers", .int "FIELDS" 7, .noat "Header" "chain", .noat "Header" "height", .noat "Header" "time", .noat "Header" "previous", .noat "Header" "state", .noat "Header" "members", .noat "Header" "following", .noat "Block" "header", .noat "Block" "members", .noat "Block" "following", .noat "Block" "votes", .noat "Numbers" "numbers", .noat "Numbers" "at", .meth "Header" "fields", .meth "Header" "__eq__", .meth "Block" "__eq__", .meth "Numbers" "left", .meth "Numbers" "some", .meth "Numbers" "one", .meth "Numbers" "count", .meth "Numbers" "row", .meth "Numbers" "members", .meth "Numbers" "votes", .meth "Numbers" "block", .meth "Numbers" "close"]
abbrev hk : PySem.W.Hook := M.hookE 4 ics fa fn
def ob (s : PySem.W.SharedT) : He.AlD := M.obsEG 4 ics fa fn (HandSHeadRun.getT s)
theorem ob_eq (s : PySem.W.SharedT) : ob s = hk.obs s.abs := M.obsEG_eq (HandSHeadRun.getT_eq s)
def nm0 : List PySem.Str := ((["__name__", "OffingError", "BadNumbers", "Header", "Block", "FIELDS", "numbers_of_row", "numbers_of_members", "numbers_of_votes", "numbers_of_block", "Numbers", "block_of", "row_of", "_law_draw", "_law_number", "_law_members"] : List PySem.Str) ++ (["_law_votes", "_law_block", "_law_row", "_law_flat"] : List PySem.Str))
def nm1 : List PySem.Str := ["_law_told", "_law_all"]
def names : List PySem.Str := nm0 ++ nm1
theorem run (w : World) : HandSHeadRun.RunEq R (PySem.W.view R.prog [25]) hk ob 15000 names w := by
  intro os
  kernel_rfl
section
variable {P : Program} {w : World} {K : PySem.W.Frag} {h : Heap} {mg : PySem.Str → Option Value} {base : Heap}
theorem fr_of (X : K.In h) (G : h.Ns mainGlobals mg) (c : He.SaysD fa fn K) : Fr mg := ⟨He.free_ok X G (c.fact 0 (f := .free "range") rfl), He.free_ok X G (c.fact 1 (f := .free "len") rfl), He.free_ok X G (c.fact 2 (f := .free "sum") rfl), He.free_ok X G (c.fact 3 (f := .free "int") rfl), He.free_ok X G (c.fact 4 (f := .free "sorted") rfl), He.free_ok X G (c.fact 5 (f := .free "tuple") rfl), He.free_ok X G (c.fact 6 (f := .free "list") rfl), He.free_ok X G (c.fact 7 (f := .free "dict") rfl), He.free_ok X G (c.fact 8 (f := .free "min") rfl), He.free_ok X G (c.fact 9 (f := .free "max") rfl), He.free_ok X G (c.fact 10 (f := .free "all") rfl), He.free_ok X G (c.fact 11 (f := .free "any") rfl), He.free_ok X G (c.fact 12 (f := .free "isinstance") rfl), He.free_ok X G (c.fact 13 (f := .free "reversed") rfl), He.free_ok X G (c.fact 14 (f := .free "zip") rfl), He.free_ok X G (c.fact 15 (f := .free "bool") rfl)⟩
theorem gc_of (X : K.In h) (G : h.Ns mainGlobals mg) (c : He.SaysD fa fn K) (ci : ics.all (M.icB K) = true) : Gc K mg := ⟨trivial, He.int_ok X G (c.fact 41 (f := .int "FIELDS" 7) rfl), M.ic_at ci 0, He.glo_ok X G (c.fact 35 (f := .glo "Block") rfl), M.ic_at ci 1, He.glo_ok X G (c.fact 32 (f := .glo "Header") rfl)⟩
theorem wo_of (c : He.SaysD fa fn K) : Wo K (C0 K) T.fo := by
  refine ⟨rfl, fun cc D e => ?_, fun cc D f x e hf hx => ?_⟩
  · match cc, e with
    | 6, e => cases e; exact He.cls_ok (c.fact 33 (f := .cls "Header") rfl)
    | 7, e => cases e; exact He.cls_ok (c.fact 36 (f := .cls "Block") rfl)
    | 8, e => cases e; exact He.cls_ok (c.fact 39 (f := .cls "Numbers") rfl)
  · match cc, f, hf, e, hx with
    | 6, 32, _, e, hx => cases e; cases hx; exact He.noat_ok (c.fact 42 (f := .noat "Header" "chain") rfl)
    | 6, 33, _, e, hx => cases e; cases hx; exact He.noat_ok (c.fact 43 (f := .noat "Header" "height") rfl)
    | 6, 34, _, e, hx => cases e; cases hx; exact He.noat_ok (c.fact 44 (f := .noat "Header" "time") rfl)
    | 6, 35, _, e, hx => cases e; cases hx; exact He.noat_ok (c.fact 45 (f := .noat "Header" "previous") rfl)
    | 6, 36, _, e, hx => cases e; cases hx; exact He.noat_ok (c.fact 46 (f := .noat "Header" "state") rfl)
    | 6, 37, _, e, hx => cases e; cases hx; exact He.noat_ok (c.fact 47 (f := .noat "Header" "members") rfl)
    | 6, 38, _, e, hx => cases e; cases hx; exact He.noat_ok (c.fact 48 (f := .noat "Header" "following") rfl)
    | 7, 39, _, e, hx => cases e; cases hx; exact He.noat_ok (c.fact 49 (f := .noat "Block" "header") rfl)
    | 7, 37, _, e, hx => cases e; cases hx; exact He.noat_ok (c.fact 50 (f := .noat "Block" "members") rfl)
    | 7, 38, _, e, hx => cases e; cases hx; exact He.noat_ok (c.fact 51 (f := .noat "Block" "following") rfl)
    | 7, 40, _, e, hx => cases e; cases hx; exact He.noat_ok (c.fact 52 (f := .noat "Block" "votes") rfl)
    | 8, 42, _, e, hx => cases e; cases hx; exact He.noat_ok (c.fact 53 (f := .noat "Numbers" "numbers") rfl)
    | 8, 12, _, e, hx => cases e; cases hx; exact He.noat_ok (c.fact 54 (f := .noat "Numbers" "at") rfl)
theorem q_p_headers_Header___init__ (c : He.SaysD fa fn K) : ∃ fd, FunD K "__init__" "Header.__init__" (defArgs (inClass (top 4) 0)) (defBody (inClass (top 4) 0)) (defScope (inClass (top 4) 0)) [] [] (He.fAd K d_p_headers_Header___init__.at_) fd := c.def_ 0 (d := d_p_headers_Header___init__) rfl
theorem n_p_headers_Header___init__ {fd : FuncData} {fa : Addr} (F : FunD K "__init__" "Header.__init__" (defArgs (inClass (top 4) 0)) (defBody (inClass (top 4) 0)) (defScope (inClass (top 4) 0)) [] [] fa fd) : Binds K fd ["self", "chain", "height", "time", "previous", "state", "members", "following"] [] := F.bindsN fun _ _ _ _ _ _ us hl => match us, hl with | [_, _, _, _, _, _, _, _], _ => rfl
theorem o_p_headers_Header___init__ {k : Nat} (W : Wo K (C0 K) T.fo) (fr : Fr mg) (gc : Gc K mg) (wa : ∀ j, j < k → Wl P w K mg base j) {fd : FuncData} {fa : Addr} (F : FunD K "__init__" "Header.__init__" (defArgs (inClass (top 4) 0)) (defBody (inClass (top 4) 0)) (defScope (inClass (top 4) 0)) [] [] fa fd) :
    FnOk P w K mg base CX0 k fa fd ["self", "chain", "height", "time", "previous", "state", "members", "following"] (spE T (C0 K) k 68) := by
  cases k with
  | zero => exact fn_zero
  | succ k => exact M.fn_ok F sc_p_headers_Header___init__ rfl rfl rfl (by decide) fun tp b cdv A outer s H E hr => b_p_headers_Header___init__ W fr gc (fun j hj => wa j (by omega)) tp b fa cdv A outer s H E hr
theorem q_p_headers_Header_fields (c : He.SaysD fa fn K) : ∃ fd, FunD K "fields" "Header.fields" (defArgs (inClass (top 4) 1)) (defBody (inClass (top 4) 1)) (defScope (inClass (top 4) 1)) [] [] (He.fAd K d_p_headers_Header_fields.at_) fd := c.def_ 1 (d := d_p_headers_Header_fields) rfl
theorem n_p_headers_Header_fields {fd : FuncData} {fa : Addr} (F : FunD K "fields" "Header.fields" (defArgs (inClass (top 4) 1)) (defBody (inClass (top 4) 1)) (defScope (inClass (top 4) 1)) [] [] fa fd) : Binds K fd ["self"] [] := F.bindsN fun _ _ _ _ _ _ us hl => match us, hl with | [_], _ => rfl
theorem o_p_headers_Header_fields {k : Nat} (W : Wo K (C0 K) T.fo) (fr : Fr mg) (gc : Gc K mg) (wa : ∀ j, j < k → Wl P w K mg base j) {fd : FuncData} {fa : Addr} (F : FunD K "fields" "Header.fields" (defArgs (inClass (top 4) 1)) (defBody (inClass (top 4) 1)) (defScope (inClass (top 4) 1)) [] [] fa fd) :
    FnOk P w K mg base CX0 k fa fd ["self"] (spE T (C0 K) k 69) := by
  cases k with
  | zero => exact fn_zero
  | succ k => exact M.fn_ok F sc_p_headers_Header_fields rfl rfl rfl (by decide) fun tp b cdv A outer s H E hr => b_p_headers_Header_fields W fr gc (fun j hj => wa j (by omega)) tp b fa cdv A outer s H E hr
theorem q_p_headers_Header___eq__ (c : He.SaysD fa fn K) : ∃ fd, FunD K "__eq__" "Header.__eq__" (defArgs (inClass (top 4) 2)) (defBody (inClass (top 4) 2)) (defScope (inClass (top 4) 2)) [] [] (He.fAd K d_p_headers_Header___eq__.at_) fd := c.def_ 2 (d := d_p_headers_Header___eq__) rfl
theorem n_p_headers_Header___eq__ {fd : FuncData} {fa : Addr} (F : FunD K "__eq__" "Header.__eq__" (defArgs (inClass (top 4) 2)) (defBody (inClass (top 4) 2)) (defScope (inClass (top 4) 2)) [] [] fa fd) : Binds K fd ["self", "other"] [] := F.bindsN fun _ _ _ _ _ _ us hl => match us, hl with | [_, _], _ => rfl
theorem o_p_headers_Header___eq__ {k : Nat} (W : Wo K (C0 K) T.fo) (fr : Fr mg) (gc : Gc K mg) (wa : ∀ j, j < k → Wl P w K mg base j) {fd : FuncData} {fa : Addr} (F : FunD K "__eq__" "Header.__eq__" (defArgs (inClass (top 4) 2)) (defBody (inClass (top 4) 2)) (defScope (inClass (top 4) 2)) [] [] fa fd) :
    FnOk P w K mg base CX0 k fa fd ["self", "other"] (spE T (C0 K) k 70) := by
  cases k with
  | zero => exact fn_zero
  | succ k => exact M.fn_ok F sc_p_headers_Header___eq__ rfl rfl rfl (by decide) fun tp b cdv A outer s H E hr => b_p_headers_Header___eq__ W fr gc (fun j hj => wa j (by omega)) tp b fa cdv A outer s H E hr
theorem q_p_headers_Block___init__ (c : He.SaysD fa fn K) : ∃ fd, FunD K "__init__" "Block.__init__" (defArgs (inClass (top 5) 0)) (defBody (inClass (top 5) 0)) (defScope (inClass (top 5) 0)) [] [] (He.fAd K d_p_headers_Block___init__.at_) fd := c.def_ 3 (d := d_p_headers_Block___init__) rfl
theorem n_p_headers_Block___init__ {fd : FuncData} {fa : Addr} (F : FunD K "__init__" "Block.__init__" (defArgs (inClass (top 5) 0)) (defBody (inClass (top 5) 0)) (defScope (inClass (top 5) 0)) [] [] fa fd) : Binds K fd ["self", "header", "members", "following", "votes"] [] := F.bindsN fun _ _ _ _ _ _ us hl => match us, hl with | [_, _, _, _, _], _ => rfl
theorem o_p_headers_Block___init__ {k : Nat} (W : Wo K (C0 K) T.fo) (fr : Fr mg) (gc : Gc K mg) (wa : ∀ j, j < k → Wl P w K mg base j) {fd : FuncData} {fa : Addr} (F : FunD K "__init__" "Block.__init__" (defArgs (inClass (top 5) 0)) (defBody (inClass (top 5) 0)) (defScope (inClass (top 5) 0)) [] [] fa fd) :
    FnOk P w K mg base CX0 k fa fd ["self", "header", "members", "following", "votes"] (spE T (C0 K) k 71) := by
  cases k with
  | zero => exact fn_zero
  | succ k => exact M.fn_ok F sc_p_headers_Block___init__ rfl rfl rfl (by decide) fun tp b cdv A outer s H E hr => b_p_headers_Block___init__ W fr gc (fun j hj => wa j (by omega)) tp b fa cdv A outer s H E hr
theorem q_p_headers_Block___eq__ (c : He.SaysD fa fn K) : ∃ fd, FunD K "__eq__" "Block.__eq__" (defArgs (inClass (top 5) 1)) (defBody (inClass (top 5) 1)) (defScope (inClass (top 5) 1)) [] [] (He.fAd K d_p_headers_Block___eq__.at_) fd := c.def_ 4 (d := d_p_headers_Block___eq__) rfl
theorem n_p_headers_Block___eq__ {fd : FuncData} {fa : Addr} (F : FunD K "__eq__" "Block.__eq__" (defArgs (inClass (top 5) 1)) (defBody (inClass (top 5) 1)) (defScope (inClass (top 5) 1)) [] [] fa fd) : Binds K fd ["self", "other"] [] := F.bindsN fun _ _ _ _ _ _ us hl => match us, hl with | [_, _], _ => rfl
theorem o_p_headers_Block___eq__ {k : Nat} (W : Wo K (C0 K) T.fo) (fr : Fr mg) (gc : Gc K mg) (wa : ∀ j, j < k → Wl P w K mg base j) {fd : FuncData} {fa : Addr} (F : FunD K "__eq__" "Block.__eq__" (defArgs (inClass (top 5) 1)) (defBody (inClass (top 5) 1)) (defScope (inClass (top 5) 1)) [] [] fa fd) :
    FnOk P w K mg base CX0 k fa fd ["self", "other"] (spE T (C0 K) k 72) := by
  cases k with
  | zero => exact fn_zero
  | succ k => exact M.fn_ok F sc_p_headers_Block___eq__ rfl rfl rfl (by decide) fun tp b cdv A outer s H E hr => b_p_headers_Block___eq__ W fr gc (fun j hj => wa j (by omega)) tp b fa cdv A outer s H E hr
theorem q_p_numbers_numbers_of_row (c : He.SaysD fa fn K) : ∃ fd, FunD K "numbers_of_row" "numbers_of_row" (defArgs (top 8)) (defBody (top 8)) (defScope (top 8)) [] [] (He.fAd K d_p_numbers_numbers_of_row.at_) fd := c.def_ 5 (d := d_p_numbers_numbers_of_row) rfl
theorem n_p_numbers_numbers_of_row {fd : FuncData} {fa : Addr} (F : FunD K "numbers_of_row" "numbers_of_row" (defArgs (top 8)) (defBody (top 8)) (defScope (top 8)) [] [] fa fd) : Binds K fd ["row"] [] := F.bindsN fun _ _ _ _ _ _ us hl => match us, hl with | [_], _ => rfl
theorem o_p_numbers_numbers_of_row {k : Nat} (W : Wo K (C0 K) T.fo) (fr : Fr mg) (gc : Gc K mg) (wa : ∀ j, j < k → Wl P w K mg base j) {fd : FuncData} {fa : Addr} (F : FunD K "numbers_of_row" "numbers_of_row" (defArgs (top 8)) (defBody (top 8)) (defScope (top 8)) [] [] fa fd) :
    FnOk P w K mg base CX0 k fa fd ["row"] (spE T (C0 K) k 73) := by
  cases k with
  | zero => exact fn_zero
  | succ k => exact M.fn_ok F sc_p_numbers_numbers_of_row rfl rfl rfl (by decide) fun tp b cdv A outer s H E hr => b_p_numbers_numbers_of_row W fr gc (fun j hj => wa j (by omega)) tp b fa cdv A outer s H E hr
theorem q_p_numbers_numbers_of_members (c : He.SaysD fa fn K) : ∃ fd, FunD K "numbers_of_members" "numbers_of_members" (defArgs (top 9)) (defBody (top 9)) (defScope (top 9)) [] [] (He.fAd K d_p_numbers_numbers_of_members.at_) fd := c.def_ 6 (d := d_p_numbers_numbers_of_members) rfl
theorem n_p_numbers_numbers_of_members {fd : FuncData} {fa : Addr} (F : FunD K "numbers_of_members" "numbers_of_members" (defArgs (top 9)) (defBody (top 9)) (defScope (top 9)) [] [] fa fd) : Binds K fd ["members"] [] := F.bindsN fun _ _ _ _ _ _ us hl => match us, hl with | [_], _ => rfl
theorem o_p_numbers_numbers_of_members {k : Nat} (W : Wo K (C0 K) T.fo) (fr : Fr mg) (gc : Gc K mg) (wa : ∀ j, j < k → Wl P w K mg base j) {fd : FuncData} {fa : Addr} (F : FunD K "numbers_of_members" "numbers_of_members" (defArgs (top 9)) (defBody (top 9)) (defScope (top 9)) [] [] fa fd) :
    FnOk P w K mg base CX0 k fa fd ["members"] (spE T (C0 K) k 74) := by
  cases k with
  | zero => exact fn_zero
  | succ k => exact M.fn_ok F sc_p_numbers_numbers_of_members rfl rfl rfl (by decide) fun tp b cdv A outer s H E hr => b_p_numbers_numbers_of_members W fr gc (fun j hj => wa j (by omega)) tp b fa cdv A outer s H E hr
theorem q_p_numbers_numbers_of_votes (c : He.SaysD fa fn K) : ∃ fd, FunD K "numbers_of_votes" "numbers_of_votes" (defArgs (top 10)) (defBody (top 10)) (defScope (top 10)) [] [] (He.fAd K d_p_numbers_numbers_of_votes.at_) fd := c.def_ 7 (d := d_p_numbers_numbers_of_votes) rfl
theorem n_p_numbers_numbers_of_votes {fd : FuncData} {fa : Addr} (F : FunD K "numbers_of_votes" "numbers_of_votes" (defArgs (top 10)) (defBody (top 10)) (defScope (top 10)) [] [] fa fd) : Binds K fd ["votes"] [] := F.bindsN fun _ _ _ _ _ _ us hl => match us, hl with | [_], _ => rfl
theorem o_p_numbers_numbers_of_votes {k : Nat} (W : Wo K (C0 K) T.fo) (fr : Fr mg) (gc : Gc K mg) (wa : ∀ j, j < k → Wl P w K mg base j) {fd : FuncData} {fa : Addr} (F : FunD K "numbers_of_votes" "numbers_of_votes" (defArgs (top 10)) (defBody (top 10)) (defScope (top 10)) [] [] fa fd) :
    FnOk P w K mg base CX0 k fa fd ["votes"] (spE T (C0 K) k 75) := by
  cases k with
  | zero => exact fn_zero
  | succ k => exact M.fn_ok F sc_p_numbers_numbers_of_votes rfl rfl rfl (by decide) fun tp b cdv A outer s H E hr => b_p_numbers_numbers_of_votes W fr gc (fun j hj => wa j (by omega)) tp b fa cdv A outer s H E hr
theorem q_p_numbers_numbers_of_block (c : He.SaysD fa fn K) : ∃ fd, FunD K "numbers_of_block" "numbers_of_block" (defArgs (top 11)) (defBody (top 11)) (defScope (top 11)) [] [] (He.fAd K d_p_numbers_numbers_of_block.at_) fd := c.def_ 8 (d := d_p_numbers_numbers_of_block) rfl
theorem n_p_numbers_numbers_of_block {fd : FuncData} {fa : Addr} (F : FunD K "numbers_of_block" "numbers_of_block" (defArgs (top 11)) (defBody (top 11)) (defScope (top 11)) [] [] fa fd) : Binds K fd ["block"] [] := F.bindsN fun _ _ _ _ _ _ us hl => match us, hl with | [_], _ => rfl
theorem o_p_numbers_numbers_of_block {k : Nat} (W : Wo K (C0 K) T.fo) (fr : Fr mg) (gc : Gc K mg) (wa : ∀ j, j < k → Wl P w K mg base j) {fd : FuncData} {fa : Addr} (F : FunD K "numbers_of_block" "numbers_of_block" (defArgs (top 11)) (defBody (top 11)) (defScope (top 11)) [] [] fa fd) :
    FnOk P w K mg base CX0 k fa fd ["block"] (spE T (C0 K) k 76) := by
  cases k with
  | zero => exact fn_zero
  | succ k => exact M.fn_ok F sc_p_numbers_numbers_of_block rfl rfl rfl (by decide) fun tp b cdv A outer s H E hr => b_p_numbers_numbers_of_block W fr gc (fun j hj => wa j (by omega)) tp b fa cdv A outer s H E hr
theorem q_p_numbers_Numbers___init__ (c : He.SaysD fa fn K) : ∃ fd, FunD K "__init__" "Numbers.__init__" (defArgs (inClass (top 12) 0)) (defBody (inClass (top 12) 0)) (defScope (inClass (top 12) 0)) [] [] (He.fAd K d_p_numbers_Numbers___init__.at_) fd := c.def_ 9 (d := d_p_numbers_Numbers___init__) rfl
theorem n_p_numbers_Numbers___init__ {fd : FuncData} {fa : Addr} (F : FunD K "__init__" "Numbers.__init__" (defArgs (inClass (top 12) 0)) (defBody (inClass (top 12) 0)) (defScope (inClass (top 12) 0)) [] [] fa fd) : Binds K fd ["self", "numbers"] [] := F.bindsN fun _ _ _ _ _ _ us hl => match us, hl with | [_, _], _ => rfl
theorem o_p_numbers_Numbers___init__ {k : Nat} (W : Wo K (C0 K) T.fo) (fr : Fr mg) (gc : Gc K mg) (wa : ∀ j, j < k → Wl P w K mg base j) {fd : FuncData} {fa : Addr} (F : FunD K "__init__" "Numbers.__init__" (defArgs (inClass (top 12) 0)) (defBody (inClass (top 12) 0)) (defScope (inClass (top 12) 0)) [] [] fa fd) :
    FnOk P w K mg base CX0 k fa fd ["self", "numbers"] (spE T (C0 K) k 77) := by
  cases k with
  | zero => exact fn_zero
  | succ k => exact M.fn_ok F sc_p_numbers_Numbers___init__ rfl rfl rfl (by decide) fun tp b cdv A outer s H E hr => b_p_numbers_Numbers___init__ W fr gc (fun j hj => wa j (by omega)) tp b fa cdv A outer s H E hr
theorem q_p_numbers_Numbers_left (c : He.SaysD fa fn K) : ∃ fd, FunD K "left" "Numbers.left" (defArgs (inClass (top 12) 1)) (defBody (inClass (top 12) 1)) (defScope (inClass (top 12) 1)) [] [] (He.fAd K d_p_numbers_Numbers_left.at_) fd := c.def_ 10 (d := d_p_numbers_Numbers_left) rfl
theorem n_p_numbers_Numbers_left {fd : FuncData} {fa : Addr} (F : FunD K "left" "Numbers.left" (defArgs (inClass (top 12) 1)) (defBody (inClass (top 12) 1)) (defScope (inClass (top 12) 1)) [] [] fa fd) : Binds K fd ["self"] [] := F.bindsN fun _ _ _ _ _ _ us hl => match us, hl with | [_], _ => rfl
theorem o_p_numbers_Numbers_left {k : Nat} (W : Wo K (C0 K) T.fo) (fr : Fr mg) (gc : Gc K mg) (wa : ∀ j, j < k → Wl P w K mg base j) {fd : FuncData} {fa : Addr} (F : FunD K "left" "Numbers.left" (defArgs (inClass (top 12) 1)) (defBody (inClass (top 12) 1)) (defScope (inClass (top 12) 1)) [] [] fa fd) :
    FnOk P w K mg base CX0 k fa fd ["self"] (spE T (C0 K) k 78) := by
  cases k with
  | zero => exact fn_zero
  | succ k => exact M.fn_ok F sc_p_numbers_Numbers_left rfl rfl rfl (by decide) fun tp b cdv A outer s H E hr => b_p_numbers_Numbers_left W fr gc (fun j hj => wa j (by omega)) tp b fa cdv A outer s H E hr
theorem q_p_numbers_Numbers_some (c : He.SaysD fa fn K) : ∃ fd, FunD K "some" "Numbers.some" (defArgs (inClass (top 12) 2)) (defBody (inClass (top 12) 2)) (defScope (inClass (top 12) 2)) [] [] (He.fAd K d_p_numbers_Numbers_some.at_) fd := c.def_ 11 (d := d_p_numbers_Numbers_some) rfl
theorem n_p_numbers_Numbers_some {fd : FuncData} {fa : Addr} (F : FunD K "some" "Numbers.some" (defArgs (inClass (top 12) 2)) (defBody (inClass (top 12) 2)) (defScope (inClass (top 12) 2)) [] [] fa fd) : Binds K fd ["self", "count"] [] := F.bindsN fun _ _ _ _ _ _ us hl => match us, hl with | [_, _], _ => rfl
theorem o_p_numbers_Numbers_some {k : Nat} (W : Wo K (C0 K) T.fo) (fr : Fr mg) (gc : Gc K mg) (wa : ∀ j, j < k → Wl P w K mg base j) {fd : FuncData} {fa : Addr} (F : FunD K "some" "Numbers.some" (defArgs (inClass (top 12) 2)) (defBody (inClass (top 12) 2)) (defScope (inClass (top 12) 2)) [] [] fa fd) :
    FnOk P w K mg base CX0 k fa fd ["self", "count"] (spE T (C0 K) k 79) := by
  cases k with
  | zero => exact fn_zero
  | succ k => exact M.fn_ok F sc_p_numbers_Numbers_some rfl rfl rfl (by decide) fun tp b cdv A outer s H E hr => b_p_numbers_Numbers_some W fr gc (fun j hj => wa j (by omega)) tp b fa cdv A outer s H E hr
theorem q_p_numbers_Numbers_one (c : He.SaysD fa fn K) : ∃ fd, FunD K "one" "Numbers.one" (defArgs (inClass (top 12) 3)) (defBody (inClass (top 12) 3)) (defScope (inClass (top 12) 3)) [] [] (He.fAd K d_p_numbers_Numbers_one.at_) fd := c.def_ 12 (d := d_p_numbers_Numbers_one) rfl
theorem n_p_numbers_Numbers_one {fd : FuncData} {fa : Addr} (F : FunD K "one" "Numbers.one" (defArgs (inClass (top 12) 3)) (defBody (inClass (top 12) 3)) (defScope (inClass (top 12) 3)) [] [] fa fd) : Binds K fd ["self"] [] := F.bindsN fun _ _ _ _ _ _ us hl => match us, hl with | [_], _ => rfl
theorem o_p_numbers_Numbers_one {k : Nat} (W : Wo K (C0 K) T.fo) (fr : Fr mg) (gc : Gc K mg) (wa : ∀ j, j < k → Wl P w K mg base j) {fd : FuncData} {fa : Addr} (F : FunD K "one" "Numbers.one" (defArgs (inClass (top 12) 3)) (defBody (inClass (top 12) 3)) (defScope (inClass (top 12) 3)) [] [] fa fd) :
    FnOk P w K mg base CX0 k fa fd ["self"] (spE T (C0 K) k 80) := by
  cases k with
  | zero => exact fn_zero
  | succ k => exact M.fn_ok F sc_p_numbers_Numbers_one rfl rfl rfl (by decide) fun tp b cdv A outer s H E hr => b_p_numbers_Numbers_one W fr gc (fun j hj => wa j (by omega)) tp b fa cdv A outer s H E hr
theorem q_p_numbers_Numbers_count (c : He.SaysD fa fn K) : ∃ fd, FunD K "count" "Numbers.count" (defArgs (inClass (top 12) 4)) (defBody (inClass (top 12) 4)) (defScope (inClass (top 12) 4)) [] [] (He.fAd K d_p_numbers_Numbers_count.at_) fd := c.def_ 13 (d := d_p_numbers_Numbers_count) rfl
theorem n_p_numbers_Numbers_count {fd : FuncData} {fa : Addr} (F : FunD K "count" "Numbers.count" (defArgs (inClass (top 12) 4)) (defBody (inClass (top 12) 4)) (defScope (inClass (top 12) 4)) [] [] fa fd) : Binds K fd ["self", "size"] [] := F.bindsN fun _ _ _ _ _ _ us hl => match us, hl with | [_, _], _ => rfl
theorem o_p_numbers_Numbers_count {k : Nat} (W : Wo K (C0 K) T.fo) (fr : Fr mg) (gc : Gc K mg) (wa : ∀ j, j < k → Wl P w K mg base j) {fd : FuncData} {fa : Addr} (F : FunD K "count" "Numbers.count" (defArgs (inClass (top 12) 4)) (defBody (inClass (top 12) 4)) (defScope (inClass (top 12) 4)) [] [] fa fd) :
    FnOk P w K mg base CX0 k fa fd ["self", "size"] (spE T (C0 K) k 81) := by
  cases k with
  | zero => exact fn_zero
  | succ k => exact M.fn_ok F sc_p_numbers_Numbers_count rfl rfl rfl (by decide) fun tp b cdv A outer s H E hr => b_p_numbers_Numbers_count W fr gc (fun j hj => wa j (by omega)) tp b fa cdv A outer s H E hr
theorem q_p_numbers_Numbers_row (c : He.SaysD fa fn K) : ∃ fd, FunD K "row" "Numbers.row" (defArgs (inClass (top 12) 5)) (defBody (inClass (top 12) 5)) (defScope (inClass (top 12) 5)) [] [] (He.fAd K d_p_numbers_Numbers_row.at_) fd := c.def_ 14 (d := d_p_numbers_Numbers_row) rfl
theorem n_p_numbers_Numbers_row {fd : FuncData} {fa : Addr} (F : FunD K "row" "Numbers.row" (defArgs (inClass (top 12) 5)) (defBody (inClass (top 12) 5)) (defScope (inClass (top 12) 5)) [] [] fa fd) : Binds K fd ["self"] [] := F.bindsN fun _ _ _ _ _ _ us hl => match us, hl with | [_], _ => rfl
theorem o_p_numbers_Numbers_row {k : Nat} (W : Wo K (C0 K) T.fo) (fr : Fr mg) (gc : Gc K mg) (wa : ∀ j, j < k → Wl P w K mg base j) {fd : FuncData} {fa : Addr} (F : FunD K "row" "Numbers.row" (defArgs (inClass (top 12) 5)) (defBody (inClass (top 12) 5)) (defScope (inClass (top 12) 5)) [] [] fa fd) :
    FnOk P w K mg base CX0 k fa fd ["self"] (spE T (C0 K) k 82) := by
  cases k with
  | zero => exact fn_zero
  | succ k => exact M.fn_ok F sc_p_numbers_Numbers_row rfl rfl rfl (by decide) fun tp b cdv A outer s H E hr => b_p_numbers_Numbers_row W fr gc (fun j hj => wa j (by omega)) tp b fa cdv A outer s H E hr
theorem q_p_numbers_Numbers_members (c : He.SaysD fa fn K) : ∃ fd, FunD K "members" "Numbers.members" (defArgs (inClass (top 12) 6)) (defBody (inClass (top 12) 6)) (defScope (inClass (top 12) 6)) [] [] (He.fAd K d_p_numbers_Numbers_members.at_) fd := c.def_ 15 (d := d_p_numbers_Numbers_members) rfl
theorem n_p_numbers_Numbers_members {fd : FuncData} {fa : Addr} (F : FunD K "members" "Numbers.members" (defArgs (inClass (top 12) 6)) (defBody (inClass (top 12) 6)) (defScope (inClass (top 12) 6)) [] [] fa fd) : Binds K fd ["self"] [] := F.bindsN fun _ _ _ _ _ _ us hl => match us, hl with | [_], _ => rfl
theorem o_p_numbers_Numbers_members {k : Nat} (W : Wo K (C0 K) T.fo) (fr : Fr mg) (gc : Gc K mg) (wa : ∀ j, j < k → Wl P w K mg base j) {fd : FuncData} {fa : Addr} (F : FunD K "members" "Numbers.members" (defArgs (inClass (top 12) 6)) (defBody (inClass (top 12) 6)) (defScope (inClass (top 12) 6)) [] [] fa fd) :
    FnOk P w K mg base CX0 k fa fd ["self"] (spE T (C0 K) k 83) := by
  cases k with
  | zero => exact fn_zero
  | succ k => exact M.fn_ok F sc_p_numbers_Numbers_members rfl rfl rfl (by decide) fun tp b cdv A outer s H E hr => b_p_numbers_Numbers_members W fr gc (fun j hj => wa j (by omega)) tp b fa cdv A outer s H E hr
theorem q_p_numbers_Numbers_votes (c : He.SaysD fa fn K) : ∃ fd, FunD K "votes" "Numbers.votes" (defArgs (inClass (top 12) 7)) (defBody (inClass (top 12) 7)) (defScope (inClass (top 12) 7)) [] [] (He.fAd K d_p_numbers_Numbers_votes.at_) fd := c.def_ 16 (d := d_p_numbers_Numbers_votes) rfl
theorem n_p_numbers_Numbers_votes {fd : FuncData} {fa : Addr} (F : FunD K "votes" "Numbers.votes" (defArgs (inClass (top 12) 7)) (defBody (inClass (top 12) 7)) (defScope (inClass (top 12) 7)) [] [] fa fd) : Binds K fd ["self"] [] := F.bindsN fun _ _ _ _ _ _ us hl => match us, hl with | [_], _ => rfl
theorem o_p_numbers_Numbers_votes {k : Nat} (W : Wo K (C0 K) T.fo) (fr : Fr mg) (gc : Gc K mg) (wa : ∀ j, j < k → Wl P w K mg base j) {fd : FuncData} {fa : Addr} (F : FunD K "votes" "Numbers.votes" (defArgs (inClass (top 12) 7)) (defBody (inClass (top 12) 7)) (defScope (inClass (top 12) 7)) [] [] fa fd) :
    FnOk P w K mg base CX0 k fa fd ["self"] (spE T (C0 K) k 84) := by
  cases k with
  | zero => exact fn_zero
  | succ k => exact M.fn_ok F sc_p_numbers_Numbers_votes rfl rfl rfl (by decide) fun tp b cdv A outer s H E hr => b_p_numbers_Numbers_votes W fr gc (fun j hj => wa j (by omega)) tp b fa cdv A outer s H E hr
theorem q_p_numbers_Numbers_block (c : He.SaysD fa fn K) : ∃ fd, FunD K "block" "Numbers.block" (defArgs (inClass (top 12) 8)) (defBody (inClass (top 12) 8)) (defScope (inClass (top 12) 8)) [] [] (He.fAd K d_p_numbers_Numbers_block.at_) fd := c.def_ 17 (d := d_p_numbers_Numbers_block) rfl
theorem n_p_numbers_Numbers_block {fd : FuncData} {fa : Addr} (F : FunD K "block" "Numbers.block" (defArgs (inClass (top 12) 8)) (defBody (inClass (top 12) 8)) (defScope (inClass (top 12) 8)) [] [] fa fd) : Binds K fd ["self"] [] := F.bindsN fun _ _ _ _ _ _ us hl => match us, hl with | [_], _ => rfl
theorem o_p_numbers_Numbers_block {k : Nat} (W : Wo K (C0 K) T.fo) (fr : Fr mg) (gc : Gc K mg) (wa : ∀ j, j < k → Wl P w K mg base j) {fd : FuncData} {fa : Addr} (F : FunD K "block" "Numbers.block" (defArgs (inClass (top 12) 8)) (defBody (inClass (top 12) 8)) (defScope (inClass (top 12) 8)) [] [] fa fd) :
    FnOk P w K mg base CX0 k fa fd ["self"] (spE T (C0 K) k 85) := by
  cases k with
  | zero => exact fn_zero
  | succ k => exact M.fn_ok F sc_p_numbers_Numbers_block rfl rfl rfl (by decide) fun tp b cdv A outer s H E hr => b_p_numbers_Numbers_block W fr gc (fun j hj => wa j (by omega)) tp b fa cdv A outer s H E hr
theorem q_p_numbers_Numbers_close (c : He.SaysD fa fn K) : ∃ fd, FunD K "close" "Numbers.close" (defArgs (inClass (top 12) 9)) (defBody (inClass (top 12) 9)) (defScope (inClass (top 12) 9)) [] [] (He.fAd K d_p_numbers_Numbers_close.at_) fd := c.def_ 18 (d := d_p_numbers_Numbers_close) rfl
theorem n_p_numbers_Numbers_close {fd : FuncData} {fa : Addr} (F : FunD K "close" "Numbers.close" (defArgs (inClass (top 12) 9)) (defBody (inClass (top 12) 9)) (defScope (inClass (top 12) 9)) [] [] fa fd) : Binds K fd ["self"] [] := F.bindsN fun _ _ _ _ _ _ us hl => match us, hl with | [_], _ => rfl
theorem o_p_numbers_Numbers_close {k : Nat} (W : Wo K (C0 K) T.fo) (fr : Fr mg) (gc : Gc K mg) (wa : ∀ j, j < k → Wl P w K mg base j) {fd : FuncData} {fa : Addr} (F : FunD K "close" "Numbers.close" (defArgs (inClass (top 12) 9)) (defBody (inClass (top 12) 9)) (defScope (inClass (top 12) 9)) [] [] fa fd) :
    FnOk P w K mg base CX0 k fa fd ["self"] (spE T (C0 K) k 86) := by
  cases k with
  | zero => exact fn_zero
  | succ k => exact M.fn_ok F sc_p_numbers_Numbers_close rfl rfl rfl (by decide) fun tp b cdv A outer s H E hr => b_p_numbers_Numbers_close W fr gc (fun j hj => wa j (by omega)) tp b fa cdv A outer s H E hr
theorem q_p_numbers_block_of (c : He.SaysD fa fn K) : ∃ fd, FunD K "block_of" "block_of" (defArgs (top 13)) (defBody (top 13)) (defScope (top 13)) [] [] (He.fAd K d_p_numbers_block_of.at_) fd := c.def_ 19 (d := d_p_numbers_block_of) rfl
theorem n_p_numbers_block_of {fd : FuncData} {fa : Addr} (F : FunD K "block_of" "block_of" (defArgs (top 13)) (defBody (top 13)) (defScope (top 13)) [] [] fa fd) : Binds K fd ["numbers"] [] := F.bindsN fun _ _ _ _ _ _ us hl => match us, hl with | [_], _ => rfl
theorem o_p_numbers_block_of {k : Nat} (W : Wo K (C0 K) T.fo) (fr : Fr mg) (gc : Gc K mg) (wa : ∀ j, j < k → Wl P w K mg base j) {fd : FuncData} {fa : Addr} (F : FunD K "block_of" "block_of" (defArgs (top 13)) (defBody (top 13)) (defScope (top 13)) [] [] fa fd) :
    FnOk P w K mg base CX0 k fa fd ["numbers"] (spE T (C0 K) k 87) := by
  cases k with
  | zero => exact fn_zero
  | succ k => exact M.fn_ok F sc_p_numbers_block_of rfl rfl rfl (by decide) fun tp b cdv A outer s H E hr => b_p_numbers_block_of W fr gc (fun j hj => wa j (by omega)) tp b fa cdv A outer s H E hr
theorem q_p_numbers_row_of (c : He.SaysD fa fn K) : ∃ fd, FunD K "row_of" "row_of" (defArgs (top 14)) (defBody (top 14)) (defScope (top 14)) [] [] (He.fAd K d_p_numbers_row_of.at_) fd := c.def_ 20 (d := d_p_numbers_row_of) rfl
theorem n_p_numbers_row_of {fd : FuncData} {fa : Addr} (F : FunD K "row_of" "row_of" (defArgs (top 14)) (defBody (top 14)) (defScope (top 14)) [] [] fa fd) : Binds K fd ["numbers"] [] := F.bindsN fun _ _ _ _ _ _ us hl => match us, hl with | [_], _ => rfl
theorem o_p_numbers_row_of {k : Nat} (W : Wo K (C0 K) T.fo) (fr : Fr mg) (gc : Gc K mg) (wa : ∀ j, j < k → Wl P w K mg base j) {fd : FuncData} {fa : Addr} (F : FunD K "row_of" "row_of" (defArgs (top 14)) (defBody (top 14)) (defScope (top 14)) [] [] fa fd) :
    FnOk P w K mg base CX0 k fa fd ["numbers"] (spE T (C0 K) k 88) := by
  cases k with
  | zero => exact fn_zero
  | succ k => exact M.fn_ok F sc_p_numbers_row_of rfl rfl rfl (by decide) fun tp b cdv A outer s H E hr => b_p_numbers_row_of W fr gc (fun j hj => wa j (by omega)) tp b fa cdv A outer s H E hr
theorem q_l_law_draw (c : He.SaysD fa fn K) : ∃ fd, FunD K "_law_draw" "_law_draw" (defArgs (top 16)) (defBody (top 16)) (defScope (top 16)) [] [] (He.fAd K d_l_law_draw.at_) fd := c.def_ 21 (d := d_l_law_draw) rfl
theorem n_l_law_draw {fd : FuncData} {fa : Addr} (F : FunD K "_law_draw" "_law_draw" (defArgs (top 16)) (defBody (top 16)) (defScope (top 16)) [] [] fa fd) : Binds K fd ["_law_state", "_law_script", "_law_size"] [] := F.bindsN fun _ _ _ _ _ _ us hl => match us, hl with | [_, _, _], _ => rfl
theorem o_l_law_draw {k : Nat} (W : Wo K (C0 K) T.fo) (fr : Fr mg) (gc : Gc K mg) (wa : ∀ j, j < k → Wl P w K mg base j) {fd : FuncData} {fa : Addr} (F : FunD K "_law_draw" "_law_draw" (defArgs (top 16)) (defBody (top 16)) (defScope (top 16)) [] [] fa fd) :
    FnOk P w K mg base CX0 k fa fd ["_law_state", "_law_script", "_law_size"] (spE T (C0 K) k 1000) := by
  cases k with
  | zero => exact fn_zero
  | succ k => exact M.fn_ok F sc_l_law_draw rfl rfl rfl (by decide) fun tp b cdv A outer s H E hr => b_l_law_draw W fr gc (fun j hj => wa j (by omega)) tp b fa cdv A outer s H E hr
theorem q_l_law_number (c : He.SaysD fa fn K) : ∃ fd, FunD K "_law_number" "_law_number" (defArgs (top 17)) (defBody (top 17)) (defScope (top 17)) [] [] (He.fAd K d_l_law_number.at_) fd := c.def_ 22 (d := d_l_law_number) rfl
theorem n_l_law_number {fd : FuncData} {fa : Addr} (F : FunD K "_law_number" "_law_number" (defArgs (top 17)) (defBody (top 17)) (defScope (top 17)) [] [] fa fd) : Binds K fd ["_law_state", "_law_script"] [] := F.bindsN fun _ _ _ _ _ _ us hl => match us, hl with | [_, _], _ => rfl
theorem o_l_law_number {k : Nat} (W : Wo K (C0 K) T.fo) (fr : Fr mg) (gc : Gc K mg) (wa : ∀ j, j < k → Wl P w K mg base j) {fd : FuncData} {fa : Addr} (F : FunD K "_law_number" "_law_number" (defArgs (top 17)) (defBody (top 17)) (defScope (top 17)) [] [] fa fd) :
    FnOk P w K mg base CX0 k fa fd ["_law_state", "_law_script"] (spE T (C0 K) k 1001) := by
  cases k with
  | zero => exact fn_zero
  | succ k => exact M.fn_ok F sc_l_law_number rfl rfl rfl (by decide) fun tp b cdv A outer s H E hr => b_l_law_number W fr gc (fun j hj => wa j (by omega)) tp b fa cdv A outer s H E hr
theorem q_l_law_members (c : He.SaysD fa fn K) : ∃ fd, FunD K "_law_members" "_law_members" (defArgs (top 18)) (defBody (top 18)) (defScope (top 18)) [] [] (He.fAd K d_l_law_members.at_) fd := c.def_ 23 (d := d_l_law_members) rfl
theorem n_l_law_members {fd : FuncData} {fa : Addr} (F : FunD K "_law_members" "_law_members" (defArgs (top 18)) (defBody (top 18)) (defScope (top 18)) [] [] fa fd) : Binds K fd ["_law_state", "_law_script"] [] := F.bindsN fun _ _ _ _ _ _ us hl => match us, hl with | [_, _], _ => rfl
theorem o_l_law_members {k : Nat} (W : Wo K (C0 K) T.fo) (fr : Fr mg) (gc : Gc K mg) (wa : ∀ j, j < k → Wl P w K mg base j) {fd : FuncData} {fa : Addr} (F : FunD K "_law_members" "_law_members" (defArgs (top 18)) (defBody (top 18)) (defScope (top 18)) [] [] fa fd) :
    FnOk P w K mg base CX0 k fa fd ["_law_state", "_law_script"] (spE T (C0 K) k 1002) := by
  cases k with
  | zero => exact fn_zero
  | succ k => exact M.fn_ok F sc_l_law_members rfl rfl rfl (by decide) fun tp b cdv A outer s H E hr => b_l_law_members W fr gc (fun j hj => wa j (by omega)) tp b fa cdv A outer s H E hr
theorem q_l_law_votes (c : He.SaysD fa fn K) : ∃ fd, FunD K "_law_votes" "_law_votes" (defArgs (top 19)) (defBody (top 19)) (defScope (top 19)) [] [] (He.fAd K d_l_law_votes.at_) fd := c.def_ 24 (d := d_l_law_votes) rfl
theorem n_l_law_votes {fd : FuncData} {fa : Addr} (F : FunD K "_law_votes" "_law_votes" (defArgs (top 19)) (defBody (top 19)) (defScope (top 19)) [] [] fa fd) : Binds K fd ["_law_state", "_law_script"] [] := F.bindsN fun _ _ _ _ _ _ us hl => match us, hl with | [_, _], _ => rfl
theorem o_l_law_votes {k : Nat} (W : Wo K (C0 K) T.fo) (fr : Fr mg) (gc : Gc K mg) (wa : ∀ j, j < k → Wl P w K mg base j) {fd : FuncData} {fa : Addr} (F : FunD K "_law_votes" "_law_votes" (defArgs (top 19)) (defBody (top 19)) (defScope (top 19)) [] [] fa fd) :
    FnOk P w K mg base CX0 k fa fd ["_law_state", "_law_script"] (spE T (C0 K) k 1003) := by
  cases k with
  | zero => exact fn_zero
  | succ k => exact M.fn_ok F sc_l_law_votes rfl rfl rfl (by decide) fun tp b cdv A outer s H E hr => b_l_law_votes W fr gc (fun j hj => wa j (by omega)) tp b fa cdv A outer s H E hr
theorem q_l_law_block (c : He.SaysD fa fn K) : ∃ fd, FunD K "_law_block" "_law_block" (defArgs (top 20)) (defBody (top 20)) (defScope (top 20)) [] [] (He.fAd K d_l_law_block.at_) fd := c.def_ 25 (d := d_l_law_block) rfl
theorem n_l_law_block {fd : FuncData} {fa : Addr} (F : FunD K "_law_block" "_law_block" (defArgs (top 20)) (defBody (top 20)) (defScope (top 20)) [] [] fa fd) : Binds K fd ["_law_state", "_law_script"] [] := F.bindsN fun _ _ _ _ _ _ us hl => match us, hl with | [_, _], _ => rfl
theorem o_l_law_block {k : Nat} (W : Wo K (C0 K) T.fo) (fr : Fr mg) (gc : Gc K mg) (wa : ∀ j, j < k → Wl P w K mg base j) {fd : FuncData} {fa : Addr} (F : FunD K "_law_block" "_law_block" (defArgs (top 20)) (defBody (top 20)) (defScope (top 20)) [] [] fa fd) :
    FnOk P w K mg base CX0 k fa fd ["_law_state", "_law_script"] (spE T (C0 K) k 1004) := by
  cases k with
  | zero => exact fn_zero
  | succ k => exact M.fn_ok F sc_l_law_block rfl rfl rfl (by decide) fun tp b cdv A outer s H E hr => b_l_law_block W fr gc (fun j hj => wa j (by omega)) tp b fa cdv A outer s H E hr
theorem q_l_law_row (c : He.SaysD fa fn K) : ∃ fd, FunD K "_law_row" "_law_row" (defArgs (top 21)) (defBody (top 21)) (defScope (top 21)) [] [] (He.fAd K d_l_law_row.at_) fd := c.def_ 26 (d := d_l_law_row) rfl
theorem n_l_law_row {fd : FuncData} {fa : Addr} (F : FunD K "_law_row" "_law_row" (defArgs (top 21)) (defBody (top 21)) (defScope (top 21)) [] [] fa fd) : Binds K fd ["_law_row_here"] [] := F.bindsN fun _ _ _ _ _ _ us hl => match us, hl with | [_], _ => rfl
theorem o_l_law_row {k : Nat} (W : Wo K (C0 K) T.fo) (fr : Fr mg) (gc : Gc K mg) (wa : ∀ j, j < k → Wl P w K mg base j) {fd : FuncData} {fa : Addr} (F : FunD K "_law_row" "_law_row" (defArgs (top 21)) (defBody (top 21)) (defScope (top 21)) [] [] fa fd) :
    FnOk P w K mg base CX0 k fa fd ["_law_row_here"] (spE T (C0 K) k 1005) := by
  cases k with
  | zero => exact fn_zero
  | succ k => exact M.fn_ok F sc_l_law_row rfl rfl rfl (by decide) fun tp b cdv A outer s H E hr => b_l_law_row W fr gc (fun j hj => wa j (by omega)) tp b fa cdv A outer s H E hr
theorem q_l_law_flat (c : He.SaysD fa fn K) : ∃ fd, FunD K "_law_flat" "_law_flat" (defArgs (top 22)) (defBody (top 22)) (defScope (top 22)) [] [] (He.fAd K d_l_law_flat.at_) fd := c.def_ 27 (d := d_l_law_flat) rfl
theorem n_l_law_flat {fd : FuncData} {fa : Addr} (F : FunD K "_law_flat" "_law_flat" (defArgs (top 22)) (defBody (top 22)) (defScope (top 22)) [] [] fa fd) : Binds K fd ["_law_members_here"] [] := F.bindsN fun _ _ _ _ _ _ us hl => match us, hl with | [_], _ => rfl
theorem o_l_law_flat {k : Nat} (W : Wo K (C0 K) T.fo) (fr : Fr mg) (gc : Gc K mg) (wa : ∀ j, j < k → Wl P w K mg base j) {fd : FuncData} {fa : Addr} (F : FunD K "_law_flat" "_law_flat" (defArgs (top 22)) (defBody (top 22)) (defScope (top 22)) [] [] fa fd) :
    FnOk P w K mg base CX0 k fa fd ["_law_members_here"] (spE T (C0 K) k 1006) := by
  cases k with
  | zero => exact fn_zero
  | succ k => exact M.fn_ok F sc_l_law_flat rfl rfl rfl (by decide) fun tp b cdv A outer s H E hr => b_l_law_flat W fr gc (fun j hj => wa j (by omega)) tp b fa cdv A outer s H E hr
theorem q_l_law_told (c : He.SaysD fa fn K) : ∃ fd, FunD K "_law_told" "_law_told" (defArgs (top 23)) (defBody (top 23)) (defScope (top 23)) [] [] (He.fAd K d_l_law_told.at_) fd := c.def_ 28 (d := d_l_law_told) rfl
theorem n_l_law_told {fd : FuncData} {fa : Addr} (F : FunD K "_law_told" "_law_told" (defArgs (top 23)) (defBody (top 23)) (defScope (top 23)) [] [] fa fd) : Binds K fd ["_law_votes_here"] [] := F.bindsN fun _ _ _ _ _ _ us hl => match us, hl with | [_], _ => rfl
theorem o_l_law_told {k : Nat} (W : Wo K (C0 K) T.fo) (fr : Fr mg) (gc : Gc K mg) (wa : ∀ j, j < k → Wl P w K mg base j) {fd : FuncData} {fa : Addr} (F : FunD K "_law_told" "_law_told" (defArgs (top 23)) (defBody (top 23)) (defScope (top 23)) [] [] fa fd) :
    FnOk P w K mg base CX0 k fa fd ["_law_votes_here"] (spE T (C0 K) k 1007) := by
  cases k with
  | zero => exact fn_zero
  | succ k => exact M.fn_ok F sc_l_law_told rfl rfl rfl (by decide) fun tp b cdv A outer s H E hr => b_l_law_told W fr gc (fun j hj => wa j (by omega)) tp b fa cdv A outer s H E hr
theorem q_l_law_all (c : He.SaysD fa fn K) : ∃ fd, FunD K "_law_all" "_law_all" (defArgs (top 24)) (defBody (top 24)) (defScope (top 24)) [] [] (He.fAd K d_l_law_all.at_) fd := c.def_ 29 (d := d_l_law_all) rfl
theorem n_l_law_all {fd : FuncData} {fa : Addr} (F : FunD K "_law_all" "_law_all" (defArgs (top 24)) (defBody (top 24)) (defScope (top 24)) [] [] fa fd) : Binds K fd ["_law_block_here"] [] := F.bindsN fun _ _ _ _ _ _ us hl => match us, hl with | [_], _ => rfl
theorem o_l_law_all {k : Nat} (W : Wo K (C0 K) T.fo) (fr : Fr mg) (gc : Gc K mg) (wa : ∀ j, j < k → Wl P w K mg base j) {fd : FuncData} {fa : Addr} (F : FunD K "_law_all" "_law_all" (defArgs (top 24)) (defBody (top 24)) (defScope (top 24)) [] [] fa fd) :
    FnOk P w K mg base CX0 k fa fd ["_law_block_here"] (spE T (C0 K) k 1008) := by
  cases k with
  | zero => exact fn_zero
  | succ k => exact M.fn_ok F sc_l_law_all rfl rfl rfl (by decide) fun tp b cdv A outer s H E hr => b_l_law_all W fr gc (fun j hj => wa j (by omega)) tp b fa cdv A outer s H E hr
theorem q_l_law (c : He.SaysD fa fn K) : ∃ fd, FunD K "law" "law" (defArgs (top 25)) (defBody (top 25)) (defScope (top 25)) [] [] (He.fAd K d_l_law.at_) fd := c.def_ 30 (d := d_l_law) rfl
theorem n_l_law {fd : FuncData} {fa : Addr} (F : FunD K "law" "law" (defArgs (top 25)) (defBody (top 25)) (defScope (top 25)) [] [] fa fd) : Binds K fd ["_law_script"] [] := F.bindsN fun _ _ _ _ _ _ us hl => match us, hl with | [_], _ => rfl
theorem o_l_law {k : Nat} (W : Wo K (C0 K) T.fo) (fr : Fr mg) (gc : Gc K mg) (wa : ∀ j, j < k → Wl P w K mg base j) {fd : FuncData} {fa : Addr} (F : FunD K "law" "law" (defArgs (top 25)) (defBody (top 25)) (defScope (top 25)) [] [] fa fd) :
    FnOk P w K mg base CX0 k fa fd ["_law_script"] (spE T (C0 K) k 1009) := by
  cases k with
  | zero => exact fn_zero
  | succ k => exact M.fn_ok F sc_l_law rfl rfl rfl (by decide) fun tp b cdv A outer s H E hr => b_l_law W fr gc (fun j hj => wa j (by omega)) tp b fa cdv A outer s H E hr
theorem wl_all (X : K.In h) (G : h.Ns mainGlobals mg) (c : He.SaysD fa fn K) (ci : ics.all (M.icB K) = true) : ∀ k, Wl P w K mg base k := by
  have W := wo_of c
  have fr := fr_of X G c
  have gc := gc_of X G c ci
  intro k
  induction k using Nat.strongRecOn with
  | _ k ih =>
    obtain ⟨e_p_headers_Header___init__, q_p_headers_Header___init__⟩ := q_p_headers_Header___init__ c
    obtain ⟨e_p_headers_Header_fields, q_p_headers_Header_fields⟩ := q_p_headers_Header_fields c
    obtain ⟨e_p_headers_Header___eq__, q_p_headers_Header___eq__⟩ := q_p_headers_Header___eq__ c
    obtain ⟨e_p_headers_Block___init__, q_p_headers_Block___init__⟩ := q_p_headers_Block___init__ c
    obtain ⟨e_p_headers_Block___eq__, q_p_headers_Block___eq__⟩ := q_p_headers_Block___eq__ c
    obtain ⟨e_p_numbers_numbers_of_row, q_p_numbers_numbers_of_row⟩ := q_p_numbers_numbers_of_row c
    obtain ⟨e_p_numbers_numbers_of_members, q_p_numbers_numbers_of_members⟩ := q_p_numbers_numbers_of_members c
    obtain ⟨e_p_numbers_numbers_of_votes, q_p_numbers_numbers_of_votes⟩ := q_p_numbers_numbers_of_votes c
    obtain ⟨e_p_numbers_numbers_of_block, q_p_numbers_numbers_of_block⟩ := q_p_numbers_numbers_of_block c
    obtain ⟨e_p_numbers_Numbers___init__, q_p_numbers_Numbers___init__⟩ := q_p_numbers_Numbers___init__ c
    obtain ⟨e_p_numbers_Numbers_left, q_p_numbers_Numbers_left⟩ := q_p_numbers_Numbers_left c
    obtain ⟨e_p_numbers_Numbers_some, q_p_numbers_Numbers_some⟩ := q_p_numbers_Numbers_some c
    obtain ⟨e_p_numbers_Numbers_one, q_p_numbers_Numbers_one⟩ := q_p_numbers_Numbers_one c
    obtain ⟨e_p_numbers_Numbers_count, q_p_numbers_Numbers_count⟩ := q_p_numbers_Numbers_count c
    obtain ⟨e_p_numbers_Numbers_row, q_p_numbers_Numbers_row⟩ := q_p_numbers_Numbers_row c
    obtain ⟨e_p_numbers_Numbers_members, q_p_numbers_Numbers_members⟩ := q_p_numbers_Numbers_members c
    obtain ⟨e_p_numbers_Numbers_votes, q_p_numbers_Numbers_votes⟩ := q_p_numbers_Numbers_votes c
    obtain ⟨e_p_numbers_Numbers_block, q_p_numbers_Numbers_block⟩ := q_p_numbers_Numbers_block c
    obtain ⟨e_p_numbers_Numbers_close, q_p_numbers_Numbers_close⟩ := q_p_numbers_Numbers_close c
    obtain ⟨e_p_numbers_block_of, q_p_numbers_block_of⟩ := q_p_numbers_block_of c
    obtain ⟨e_p_numbers_row_of, q_p_numbers_row_of⟩ := q_p_numbers_row_of c
    obtain ⟨e_l_law_draw, q_l_law_draw⟩ := q_l_law_draw c
    obtain ⟨e_l_law_number, q_l_law_number⟩ := q_l_law_number c
    obtain ⟨e_l_law_members, q_l_law_members⟩ := q_l_law_members c
    obtain ⟨e_l_law_votes, q_l_law_votes⟩ := q_l_law_votes c
    obtain ⟨e_l_law_block, q_l_law_block⟩ := q_l_law_block c
    obtain ⟨e_l_law_row, q_l_law_row⟩ := q_l_law_row c
    obtain ⟨e_l_law_flat, q_l_law_flat⟩ := q_l_law_flat c
    obtain ⟨e_l_law_told, q_l_law_told⟩ := q_l_law_told c
    obtain ⟨e_l_law_all, q_l_law_all⟩ := q_l_law_all c
    obtain ⟨e_l_law, q_l_law⟩ := q_l_law c
    refine ⟨trivial, ?_, ?_, ?_, ?_, ?_, ?_, ?_, ?_, ?_, ?_, ?_, ?_, ?_, ?_, ?_, ?_, ?_, ?_, ?_, ?_, ?_, ?_, ?_, ?_, ?_, ?_, ?_, ?_, ?_, ?_⟩
    · exact ⟨_, _, _, o_p_numbers_numbers_of_row W fr gc ih q_p_numbers_numbers_of_row, He.glo_ok X G (c.fact 16 (f := .glo "numbers_of_row") rfl), q_p_numbers_numbers_of_row.kp, n_p_numbers_numbers_of_row q_p_numbers_numbers_of_row⟩
    · exact ⟨_, _, _, o_p_numbers_numbers_of_members W fr gc ih q_p_numbers_numbers_of_members, He.glo_ok X G (c.fact 17 (f := .glo "numbers_of_members") rfl), q_p_numbers_numbers_of_members.kp, n_p_numbers_numbers_of_members q_p_numbers_numbers_of_members⟩
    · exact ⟨_, _, _, o_p_numbers_numbers_of_votes W fr gc ih q_p_numbers_numbers_of_votes, He.glo_ok X G (c.fact 18 (f := .glo "numbers_of_votes") rfl), q_p_numbers_numbers_of_votes.kp, n_p_numbers_numbers_of_votes q_p_numbers_numbers_of_votes⟩
    · exact ⟨_, _, _, o_p_numbers_numbers_of_block W fr gc ih q_p_numbers_numbers_of_block, He.glo_ok X G (c.fact 19 (f := .glo "numbers_of_block") rfl), q_p_numbers_numbers_of_block.kp, n_p_numbers_numbers_of_block q_p_numbers_numbers_of_block⟩
    · exact ⟨_, _, _, o_p_numbers_block_of W fr gc ih q_p_numbers_block_of, He.glo_ok X G (c.fact 20 (f := .glo "block_of") rfl), q_p_numbers_block_of.kp, n_p_numbers_block_of q_p_numbers_block_of⟩
    · exact ⟨_, _, _, o_p_numbers_row_of W fr gc ih q_p_numbers_row_of, He.glo_ok X G (c.fact 21 (f := .glo "row_of") rfl), q_p_numbers_row_of.kp, n_p_numbers_row_of q_p_numbers_row_of⟩
    · exact ⟨_, _, _, o_l_law_draw W fr gc ih q_l_law_draw, He.glo_ok X G (c.fact 22 (f := .glo "_law_draw") rfl), q_l_law_draw.kp, n_l_law_draw q_l_law_draw⟩
    · exact ⟨_, _, _, o_l_law_number W fr gc ih q_l_law_number, He.glo_ok X G (c.fact 23 (f := .glo "_law_number") rfl), q_l_law_number.kp, n_l_law_number q_l_law_number⟩
    · exact ⟨_, _, _, o_l_law_members W fr gc ih q_l_law_members, He.glo_ok X G (c.fact 24 (f := .glo "_law_members") rfl), q_l_law_members.kp, n_l_law_members q_l_law_members⟩
    · exact ⟨_, _, _, o_l_law_votes W fr gc ih q_l_law_votes, He.glo_ok X G (c.fact 25 (f := .glo "_law_votes") rfl), q_l_law_votes.kp, n_l_law_votes q_l_law_votes⟩
    · exact ⟨_, _, _, o_l_law_block W fr gc ih q_l_law_block, He.glo_ok X G (c.fact 26 (f := .glo "_law_block") rfl), q_l_law_block.kp, n_l_law_block q_l_law_block⟩
    · exact ⟨_, _, _, o_l_law_row W fr gc ih q_l_law_row, He.glo_ok X G (c.fact 27 (f := .glo "_law_row") rfl), q_l_law_row.kp, n_l_law_row q_l_law_row⟩
    · exact ⟨_, _, _, o_l_law_flat W fr gc ih q_l_law_flat, He.glo_ok X G (c.fact 28 (f := .glo "_law_flat") rfl), q_l_law_flat.kp, n_l_law_flat q_l_law_flat⟩
    · exact ⟨_, _, _, o_l_law_told W fr gc ih q_l_law_told, He.glo_ok X G (c.fact 29 (f := .glo "_law_told") rfl), q_l_law_told.kp, n_l_law_told q_l_law_told⟩
    · exact ⟨_, _, _, o_l_law_all W fr gc ih q_l_law_all, He.glo_ok X G (c.fact 30 (f := .glo "_law_all") rfl), q_l_law_all.kp, n_l_law_all q_l_law_all⟩
    · exact ⟨_, _, _, o_l_law W fr gc ih q_l_law, He.glo_ok X G (c.fact 31 (f := .glo "law") rfl), q_l_law.kp, n_l_law q_l_law⟩
    · intro cc f e
      match cc, e with
      | 0, e => cases e
      | 1, e => cases e
      | 2, e => cases e
      | 3, e => cases e
      | 4, e => cases e
      | 5, e => cases e
      | 7, e => cases e
      | 8, e => cases e
      | n + 9, e => cases e
      | 6, e => cases e; exact ⟨_, _, _, _, o_p_headers_Header_fields W fr gc ih q_p_headers_Header_fields, rfl, He.cls_ok (c.fact 33 (f := .cls "Header") rfl), He.meth_ok (c.fact 55 (f := .meth "Header" "fields") rfl), n_p_headers_Header_fields q_p_headers_Header_fields⟩
    · intro cc f e
      match cc, e with
      | 0, e => cases e
      | 1, e => cases e
      | 2, e => cases e
      | 3, e => cases e
      | 4, e => cases e
      | 5, e => cases e
      | 6, e => cases e
      | 7, e => cases e
      | n + 9, e => cases e
      | 8, e => cases e; exact ⟨_, _, _, _, o_p_numbers_Numbers_left W fr gc ih q_p_numbers_Numbers_left, rfl, He.cls_ok (c.fact 39 (f := .cls "Numbers") rfl), He.meth_ok (c.fact 58 (f := .meth "Numbers" "left") rfl), n_p_numbers_Numbers_left q_p_numbers_Numbers_left⟩
    · intro cc f e
      match cc, e with
      | 0, e => cases e
      | 1, e => cases e
      | 2, e => cases e
      | 3, e => cases e
      | 4, e => cases e
      | 5, e => cases e
      | 6, e => cases e
      | 7, e => cases e
      | n + 9, e => cases e
      | 8, e => cases e; exact ⟨_, _, _, _, o_p_numbers_Numbers_some W fr gc ih q_p_numbers_Numbers_some, rfl, He.cls_ok (c.fact 39 (f := .cls "Numbers") rfl), He.meth_ok (c.fact 59 (f := .meth "Numbers" "some") rfl), n_p_numbers_Numbers_some q_p_numbers_Numbers_some⟩
    · intro cc f e
      match cc, e with
      | 0, e => cases e
      | 1, e => cases e
      | 2, e => cases e
      | 3, e => cases e
      | 4, e => cases e
      | 5, e => cases e
      | 6, e => cases e
      | 7, e => cases e
      | n + 9, e => cases e
      | 8, e => cases e; exact ⟨_, _, _, _, o_p_numbers_Numbers_one W fr gc ih q_p_numbers_Numbers_one, rfl, He.cls_ok (c.fact 39 (f := .cls "Numbers") rfl), He.meth_ok (c.fact 60 (f := .meth "Numbers" "one") rfl), n_p_numbers_Numbers_one q_p_numbers_Numbers_one⟩
    · intro cc f e
      match cc, e with
      | 0, e => cases e
      | 1, e => cases e
      | 2, e => cases e
      | 3, e => cases e
      | 4, e => cases e
      | 5, e => cases e
      | 6, e => cases e
      | 7, e => cases e
      | n + 9, e => cases e
      | 8, e => cases e; exact ⟨_, _, _, _, o_p_numbers_Numbers_count W fr gc ih q_p_numbers_Numbers_count, rfl, He.cls_ok (c.fact 39 (f := .cls "Numbers") rfl), He.meth_ok (c.fact 61 (f := .meth "Numbers" "count") rfl), n_p_numbers_Numbers_count q_p_numbers_Numbers_count⟩
    · intro cc f e
      match cc, e with
      | 0, e => cases e
      | 1, e => cases e
      | 2, e => cases e
      | 3, e => cases e
      | 4, e => cases e
      | 5, e => cases e
      | 6, e => cases e
      | 7, e => cases e
      | n + 9, e => cases e
      | 8, e => cases e; exact ⟨_, _, _, _, o_p_numbers_Numbers_row W fr gc ih q_p_numbers_Numbers_row, rfl, He.cls_ok (c.fact 39 (f := .cls "Numbers") rfl), He.meth_ok (c.fact 62 (f := .meth "Numbers" "row") rfl), n_p_numbers_Numbers_row q_p_numbers_Numbers_row⟩
    · intro cc f e
      match cc, e with
      | 0, e => cases e
      | 1, e => cases e
      | 2, e => cases e
      | 3, e => cases e
      | 4, e => cases e
      | 5, e => cases e
      | 6, e => cases e
      | 7, e => cases e
      | n + 9, e => cases e
      | 8, e => cases e; exact ⟨_, _, _, _, o_p_numbers_Numbers_members W fr gc ih q_p_numbers_Numbers_members, rfl, He.cls_ok (c.fact 39 (f := .cls "Numbers") rfl), He.meth_ok (c.fact 63 (f := .meth "Numbers" "members") rfl), n_p_numbers_Numbers_members q_p_numbers_Numbers_members⟩
    · intro cc f e
      match cc, e with
      | 0, e => cases e
      | 1, e => cases e
      | 2, e => cases e
      | 3, e => cases e
      | 4, e => cases e
      | 5, e => cases e
      | 6, e => cases e
      | 7, e => cases e
      | n + 9, e => cases e
      | 8, e => cases e; exact ⟨_, _, _, _, o_p_numbers_Numbers_votes W fr gc ih q_p_numbers_Numbers_votes, rfl, He.cls_ok (c.fact 39 (f := .cls "Numbers") rfl), He.meth_ok (c.fact 64 (f := .meth "Numbers" "votes") rfl), n_p_numbers_Numbers_votes q_p_numbers_Numbers_votes⟩
    · intro cc f e
      match cc, e with
      | 0, e => cases e
      | 1, e => cases e
      | 2, e => cases e
      | 3, e => cases e
      | 4, e => cases e
      | 5, e => cases e
      | 6, e => cases e
      | 7, e => cases e
      | n + 9, e => cases e
      | 8, e => cases e; exact ⟨_, _, _, _, o_p_numbers_Numbers_block W fr gc ih q_p_numbers_Numbers_block, rfl, He.cls_ok (c.fact 39 (f := .cls "Numbers") rfl), He.meth_ok (c.fact 65 (f := .meth "Numbers" "block") rfl), n_p_numbers_Numbers_block q_p_numbers_Numbers_block⟩
    · intro cc f e
      match cc, e with
      | 0, e => cases e
      | 1, e => cases e
      | 2, e => cases e
      | 3, e => cases e
      | 4, e => cases e
      | 5, e => cases e
      | 6, e => cases e
      | 7, e => cases e
      | n + 9, e => cases e
      | 8, e => cases e; exact ⟨_, _, _, _, o_p_numbers_Numbers_close W fr gc ih q_p_numbers_Numbers_close, rfl, He.cls_ok (c.fact 39 (f := .cls "Numbers") rfl), He.meth_ok (c.fact 66 (f := .meth "Numbers" "close") rfl), n_p_numbers_Numbers_close q_p_numbers_Numbers_close⟩
    · intro cc f e
      match cc, e with
      | 0, e => cases e
      | 1, e => cases e
      | 2, e => cases e
      | 3, e => cases e
      | 4, e => cases e
      | 5, e => cases e
      | 6, e => cases e; exact ⟨_, _, _, _, o_p_headers_Header___eq__ W fr gc ih q_p_headers_Header___eq__, rfl, He.cls_ok (c.fact 33 (f := .cls "Header") rfl), He.meth_ok (c.fact 56 (f := .meth "Header" "__eq__") rfl), n_p_headers_Header___eq__ q_p_headers_Header___eq__⟩
      | 7, e => cases e; exact ⟨_, _, _, _, o_p_headers_Block___eq__ W fr gc ih q_p_headers_Block___eq__, rfl, He.cls_ok (c.fact 36 (f := .cls "Block") rfl), He.meth_ok (c.fact 57 (f := .meth "Block" "__eq__") rfl), n_p_headers_Block___eq__ q_p_headers_Block___eq__⟩
      | n + 8, e => cases e
    · exact ⟨_, _, _, _, o_p_headers_Header___init__ W fr gc ih q_p_headers_Header___init__, rfl, He.mkr_ok (c.fact 34 (f := .mkr "Header") rfl), He.glo_ok X G (c.fact 32 (f := .glo "Header") rfl), n_p_headers_Header___init__ q_p_headers_Header___init__⟩
    · exact ⟨_, _, _, _, o_p_headers_Block___init__ W fr gc ih q_p_headers_Block___init__, rfl, He.mkr_ok (c.fact 37 (f := .mkr "Block") rfl), He.glo_ok X G (c.fact 35 (f := .glo "Block") rfl), n_p_headers_Block___init__ q_p_headers_Block___init__⟩
    · exact ⟨_, _, _, _, o_p_numbers_Numbers___init__ W fr gc ih q_p_numbers_Numbers___init__, rfl, He.mkr_ok (c.fact 40 (f := .mkr "Numbers") rfl), He.glo_ok X G (c.fact 38 (f := .glo "Numbers") rfl), n_p_numbers_Numbers___init__ q_p_numbers_Numbers___init__⟩
end
theorem law_ok (lev : Nat) (hl : lev ≤ 230) (LAW : ∀ ns : List Int, ns.length ≤ 63 → (∀ i ∈ ns, PySem.Builtin.Int.intBits i ≤ 1048576) → ∃ S', evC T lev 0 1009 [.b (.scr (ns.map B.int))] [] = some (.b (.bl true), S')) : PySem.Challenge.rw_offing_k20_blocks_as_numbers.Holds := by
  w_on; o_law
  refine HandSHeadRun.head_any (r := PySem.W.OpenLaw.row PySem.Challenge.rw_offing_k20_blocks_as_numbers) (q := PySem.W.view (PySem.W.OpenLaw.row PySem.Challenge.rw_offing_k20_blocks_as_numbers).prog [25]) (H := hk) (ob := ob) (M := 15000) (loose := names) (d := HandSHeadRun.topDef (PySem.W.OpenLaw.row PySem.Challenge.rw_offing_k20_blocks_as_numbers).prog 25) (kwd := []) ob_eq
    (by kernel_rfl) (fun s => by kernel_rfl) run (by kernel_rfl) (by kernel_rfl) (by kernel_rfl) (by rfl) (by first | assumption | decide +kernel) (by decide +kernel) ⟨rfl, rfl, rfl, rfl, rfl, by decide +kernel⟩ ?hw ?hc
  case hw => w_witness2
  case hc =>
    refine M.walk_law (l := PySem.Challenge.rw_offing_k20_blocks_as_numbers) (n := 63) (k := lev) (x := "_law_script") (T := T) (Cf := C0) (f := 1009) rfl (by decide) (by kernel_rfl) (Room.mono (k := 230) ⟨rfl, by decide, by decide⟩ hl) (fun K => rfl) ?F LAW
    intro w mg fa0 h Y G hmg0
    obtain ⟨K, KX, ce⟩ := Y
    obtain ⟨c, ci⟩ := ce.both
    have hmg : mg ("law" : PySem.Str) = some (.ref fa0) := by
      have e : (HandSHeadRun.topDef (PySem.W.OpenLaw.row PySem.Challenge.rw_offing_k20_blocks_as_numbers).prog 25).name = ("law" : PySem.Str) := by kernel_rfl
      rw [← e]
      exact hmg0
    obtain ⟨fd, F⟩ := q_l_law c
    have e := hmg.symm.trans (He.glo_ok KX G (c.fact 31 (f := .glo "law") rfl))
    cases e
    refine ⟨K, fd, KX, fun s u => FunD.bindsA (ps := ["_law_script"]) F (fun _ _ _ _ _ _ us hl => match us, hl with | [_], _ => rfl) s [u] rfl, fun base KB GB => ?_⟩
    exact o_l_law (wo_of c) (fr_of KB GB c) (gc_of KB GB c ci) (fun j _ => wl_all KB GB c ci j) F
end G
namespace G
open M
/-! ### draws -/
theorem draw_w {f : Nat} (hf : T.fn f = some f_l_law_draw) (k b : Nat) (cells : List Int) (S : Store) (n : Nat) (i s sz : Int) (hS : S[n]? = some (.lst [.int i, .int s])) (hi : 0 ≤ i) (h0 : 0 < sz) (h1 : divOk sz = true) (Q : D → Store → Prop) (hQ : ∀ v i' s', 0 ≤ v → v < sz → 0 ≤ i' → Q (.b (.int v)) (S.set n (.lst [.int i', .int s']))) :
    Wc T (k + 1) b f [.ref n, .b (.scr (cells.map .int)), .b (.int sz)] S Q := by
  refine wc_of (fd := f_l_law_draw) hf rfl ?_
  unfold f_l_law_draw
  have hn := (List.getElem?_eq_some_iff.mp hS).1
  refine ws_seq (fun σ2 S2 => ∃ i' s' y z, 0 ≤ i' ∧ S.set n (.lst [.int i', .int s']) = S2 ∧ [some (.ref n), some (.b (.scr (cells.map .int))), some (.b (.int sz)), y, z, none] = σ2) ?_ ?_
  · rw [wx_iff]
    simp [start, idx_st hS]
    by_cases hs : s = 0
    · rw [if_pos hs]
      refine ws_seq (fun σ2 S2 => S = S2 ∧ [some (.ref n), some (.b (.scr (cells.map .int))), some (.b (.int sz)), some (.b (.int 0)), none, none] = σ2) (by simp) ?_
      rintro _ _ ⟨rfl, rfl⟩
      refine ws_seq (fun σ2 S2 => S = S2 ∧ ∃ c, [some (.ref n), some (.b (.scr (cells.map .int))), some (.b (.int sz)), some (.b (.int c)), none, none] = σ2) ?_ ?_
      · rw [wx_iff]
        simp
        intro hc
        obtain ⟨x, hx, _⟩ := atI_int (xs := cells) (i := i % cells.length) (Int.emod_nonneg _ (by omega)) (Int.emod_lt_of_pos _ (by omega))
        simp [ws_cons, idx_st hS, hc, hx]
      rintro _ _ ⟨rfl, c, rfl⟩
      refine ws_seq (fun σ2 S2 => S = S2 ∧ ∃ c, [some (.ref n), some (.b (.scr (cells.map .int))), some (.b (.int sz)), some (.b (.int c)), none, none] = σ2) ?_ ?_
      · rw [wx_iff]
        simp
        intro hc
        simp [ws_cons, mulOk]
      rintro _ _ ⟨rfl, c, rfl⟩
      simp only [ws_cons, wx_set]
      simp [idx_st hS, mulOk]
      refine ws_seq (fun σ2 S2 => ∃ s' y, S.set n (.lst [.int i, .int s']) = S2 ∧ [some (.ref n), some (.b (.scr (cells.map .int))), some (.b (.int sz)), some (.b (.int c)), y, none] = σ2) ?_ ?_
      · simp [idx_st hS, seti_st hS, mulOk]
      rintro _ _ ⟨s', y, rfl, rfl⟩
      have hS2 := set_at (o' := .lst [.int i, .int s']) hS
      refine ws_seq (fun σ2 S2 => ∃ s' y, S.set n (.lst [.int i, .int s']) = S2 ∧ [some (.ref n), some (.b (.scr (cells.map .int))), some (.b (.int sz)), some (.b (.int c)), y, none] = σ2) ?_ ?_
      · rw [wx_iff]
        simp [idx_st hS2]
        split
        · intro hc
          simp [ws_cons, seti_st hS2]
        · rename_i hc
          exact fun h => (hc h).elim
      rintro _ _ ⟨s', y, rfl, rfl⟩
      have hS2 := set_at (o' := .lst [.int i, .int s']) hS
      simp [ws_cons, idx_st hS2, seti_st hS2]
      exact ⟨i + 1, Int.le_trans hi (by omega), s', rfl⟩
    · rw [if_neg hs]

      exact ⟨i, hi, s, set_same hS⟩
  · rintro _ _ ⟨i', s', y, z, hi', rfl, rfl⟩
    simp [ws_cons, idx_st (set_at hS), seti_st (set_at hS)]
    refine ⟨h0, h1, ?_⟩
    rw [List.take_of_length_le (by simp)]
    exact hQ _ _ _ (Int.emod_nonneg _ (by omega)) (Int.emod_lt_of_pos _ h0) hi'

end G
namespace G
open M
/-! ### small things for all laws -/
theorem bin_tt {S : Store} {xs ys : List B} (hz : xs.length + ys.length ≤ SZ) : bin S .add (.b (.tup xs)) (.b (.tup ys)) = some (.b (.tup (xs ++ ys))) := if_pos hz
@[simp] theorem mk0 : mkTup [] = .b (.tup []) := rfl
@[simp] theorem mk1 {x : B} : mkTup [.b x] = .b (.tup [x]) := rfl
@[simp] theorem mk2 {x y : B} : mkTup [.b x, .b y] = .b (.tup [x, y]) := rfl
@[simp] theorem mk3 {x y z : B} : mkTup [.b x, .b y, .b z] = .b (.tup [x, y, z]) := rfl
@[simp] theorem mk4 {x y z u : B} : mkTup [.b x, .b y, .b z, .b u] = .b (.tup [x, y, z, u]) := rfl
@[simp] theorem sz1 : 1 ≤ SZ := by decide
@[simp] theorem sz2 : 2 ≤ SZ := by decide
@[simp] theorem sz3 : 3 ≤ SZ := by decide
@[simp] theorem sz4 : 4 ≤ SZ := by decide
@[simp] theorem sz5 : 5 ≤ SZ := by decide
@[simp] theorem newL_f {S : Store} {xs : List B} : newL S false xs = if xs.length ≤ SZ then some (.b (.lst xs), S) else none := rfl
@[simp] theorem newL_t {S : Store} {xs : List B} : newL S true xs = if xs.length ≤ SZ then some (.ref S.length, S ++ [.lst xs]) else none := rfl
@[simp] theorem allB_nil : allB [] = some [] := rfl
@[simp] theorem allB_cons {x : B} {ds : List D} : allB (.b x :: ds) = (allB ds).map (x :: ·) := rfl
theorem frz_lst {S : Store} {n base k : Nat} {xs : List B} (h : S[n]? = some (.lst xs)) (hb : base ≤ n) : frz S base (k + 1) (.ref n) = some (.lst xs) := by
  unfold frz
  rw [if_neg (by omega), h]
theorem ret_ref {S : Store} {n base : Nat} {xs : List B} {σ : Sl} {Q : D → Store → Prop} (h : S[n]? = some (.lst xs)) (hb : base ≤ n) : Ret true base Q (.rt (.ref n)) σ S ↔ Q (.b (.lst xs)) (S.take base) := by
  show Wo' ((frz S base 8 (.ref n)).map _) _ ↔ _
  rw [frz_lst h hb]
  exact wo_some
theorem ret_last {S : Store} {xs : List B} {σ : Sl} {Q : D → Store → Prop} : Ret true S.length Q (.rt (.ref S.length)) σ (S ++ [.lst xs]) ↔ Q (.b (.lst xs)) S := by
  rw [ret_ref last_at (Nat.le_refl _), last_take]
end G
namespace G
open M
/-! ### validators -/
abbrev Mb := List (Int × Int)
def mbB (p : Int × Int) : B := .tup [.int p.1, .int p.2]
def mbT (ms : Mb) : B := .tup (ms.map mbB)
abbrev Vt := List (Int × List Int)
def vtB (p : Int × List Int) : B := .tup [.int p.1, .tup (p.2.map B.int)]
def vtT (vs : Vt) : B := .tup (vs.map vtB)
theorem len_mbT {S : Store} {m : Bool} (ms : Mb) : bi S .len m [.b (mbT ms)] = some (.b (.int ms.length), S) := by
  unfold mbT
  rw [bi_len_tup, List.length_map]
theorem asg2 {i j : Nat} {x y : B} {σ : Sl} : asg (.t [.n i, .n j]) (.tup [x, y]) σ = some ((σ.set i (some (.b x))).set j (some (.b y))) := rfl
theorem fil_true {α β : Type} (l : List α) (f : α → β) : (l.filter fun _ => true).map f = l.map f := by
  rw [List.filter_eq_self.mpr fun _ _ => rfl]
theorem mt_ext {S : Store} {n : Nat} {xs ys : List B} {y : B} (h : S[n]? = some (.lst xs)) (hy : y = .lst ys) (hz : xs.length + ys.length ≤ SZ) : M.mt S .extend (.ref n) [.b y] = some (.b .non, S.set n (.lst (xs ++ ys))) := by
  subst hy
  unfold M.mt
  dsimp only
  rw [h]
  show (if xs.length + ys.length ≤ SZ then _ else _) = _
  rw [if_pos hz]
theorem tup_refV {S : Store} {n : Nat} {xs : List B} {m : Bool} (h : S[n]? = some (.lst xs)) : bi S .tuple m [.ref n] = some (.b (.tup xs), S) := by
  have e : seqD S (.ref n) = some xs := by
    unfold seqD
    dsimp only
    rw [h]
  show pure' S ((seqD S (.ref n)).map _) = _
  rw [e]
  rfl
theorem list_tupV {S : Store} {xs : List B} {m : Bool} : bi S .list m [.b (.tup xs)] = newL S m xs := rfl
theorem tup_lstV {S : Store} {xs : List B} {m : Bool} : bi S .tuple m [.b (.lst xs)] = some (.b (.tup xs), S) := rfl
theorem ixN_okV {n : Nat} {i : Int} (h : 0 ≤ i) (h2 : i < n) : L2.ixN n i = some i.toNat := by
  unfold L2.ixN
  rw [if_pos h, if_pos h2]
theorem at_mid {S J : Store} {o : O} : (S ++ o :: J)[S.length]? = some o := by
  rw [List.getElem?_append_right (Nat.le_refl _), Nat.sub_self]
  rfl
theorem at_mid1 {S J : Store} {o p : O} : (S ++ o :: p :: J)[S.length + 1]? = some p := by
  rw [List.getElem?_append_right (by omega), show S.length + 1 - S.length = 1 by omega]
  rfl
theorem set_mid {S J : Store} {o o' : O} : (S ++ o :: J).set S.length o' = S ++ o' :: J := by
  rw [List.set_append_right _ _ (Nat.le_refl _), Nat.sub_self]
  rfl
theorem set_mid1 {S J : Store} {o p p' : O} : (S ++ o :: p :: J).set (S.length + 1) p' = S ++ o :: p' :: J := by
  rw [List.set_append_right _ _ (by omega), show S.length + 1 - S.length = 1 by omega]
  rfl
theorem setf_mid {T : Tab} {k c f : Nat} {S J : Store} {fs : List (Nat × D)} {v : D} (hf : T.fo c f = true) (hl : fs.length < 1000) : setf (par T k S.length).fo (par T k S.length).base (S ++ .ins c fs :: J) (.ref S.length) f v = some (S ++ .ins c (fput f v fs) :: J) := by
  unfold setf
  dsimp only
  rw [at_mid]
  show (if T.fo c f && ((isB v || decide (S.length ≤ S.length)) && decide (fs.length < 1000)) then some ((S ++ O.ins c fs :: J).set S.length (.ins c (fput f v fs))) else none) = _
  rw [hf, decide_eq_true (Nat.le_refl _), Bool.or_true, decide_eq_true hl]
  show some _ = _
  rw [set_mid]
theorem items_r2 {S : Store} {a b : Int} (h1 : -1000000 ≤ a) (h2 : a ≤ 1000000) (h3 : -1000000 ≤ b) (h4 : b ≤ 1000000) : items S .r2 [.b (.int a), .b (.int b)] = some (rngB a (b - a).toNat) := by
  have e1 : rOk a = true := decide_eq_true ⟨by omega, by omega⟩
  have e2 : rOk b = true := decide_eq_true ⟨by omega, by omega⟩
  show (if rOk a && rOk b then some (rngB a (b - a).toNat) else none) = _
  rw [e1, e2]
  rfl
theorem rngB_at {lo : Int} {n j : Nat} {x : B} (h : (rngB lo n)[j]? = some x) : j < n ∧ x = .int (lo + j) := by
  unfold rngB at h
  rw [List.getElem?_map] at h
  obtain ⟨y, h1, h2⟩ := Option.map_eq_some_iff.mp h
  have hj := (List.getElem?_eq_some_iff.mp h1).1
  rw [List.length_range] at hj
  rw [List.getElem?_range hj] at h1
  cases h1
  exact ⟨hj, h2.symm⟩
theorem rngB_len (lo : Int) (n : Nat) : (rngB lo n).length = n := by
  unfold rngB
  rw [List.length_map, List.length_range]
theorem bin_rl {S : Store} {n : Nat} {xs ys : List B} (h : S[n]? = some (.lst xs)) (hz : xs.length + ys.length ≤ SZ) : bin S .add (.ref n) (.b (.lst ys)) = some (.b (.lst (xs ++ ys))) := by
  show ((lstD S (.ref n)).bind fun xs => (some ys).bind fun ys => szL (xs ++ ys)) = _
  rw [lstD_ref h]
  show szL (xs ++ ys) = _
  unfold szL
  rw [List.length_append, if_pos hz]
theorem cut_take {α : Type} (xs : List α) (p : Nat) : cut xs none (some (p : Int)) = xs.take p := by
  unfold cut
  rw [HT.sIx_nat, HT.sIx_none, List.drop_zero, Nat.sub_zero]
  by_cases h : p ≤ xs.length
  · rw [Nat.min_eq_left h]
  · rw [Nat.min_eq_right (by omega), List.take_of_length_le (Nat.le_refl _), List.take_of_length_le (by omega)]
theorem cut_drop {α : Type} (xs : List α) (p : Nat) : cut xs (some (p : Int)) none = xs.drop p := by
  unfold cut
  rw [HT.sIx_nat, HT.sIx_none]
  by_cases h : p ≤ xs.length
  · rw [Nat.min_eq_left h, List.take_of_length_le (by rw [List.length_drop] <;> exact Nat.le_refl _)]
  · rw [Nat.min_eq_right (by omega), List.drop_of_length_le (Nat.le_refl _), List.drop_of_length_le (by omega), List.take_nil]
theorem atI_get {α : Type} {xs : List α} {i : Int} {j : Nat} {x : α} (hi : i = j) (hx : xs[j]? = some x) : L2.atI xs i = some x := by
  subst hi
  have hj := (List.getElem?_eq_some_iff.mp hx).1
  unfold L2.atI L2.ixN
  rw [if_pos (by omega), if_pos (by omega)]
  show xs[(j : Int).toNat]? = _
  rw [Int.toNat_natCast, hx]
theorem len_ref {U : Store} {n : Nat} {xs : List B} (h : U[n]? = some (O.lst xs)) : bi U .len false [.ref n] = some (.b (.int xs.length), U) := by
  show pure' U (match dicD U (.ref n) with
    | some kvs => some (.b (.int kvs.length))
    | none => (seqD U (.ref n)).map fun xs => .b (.int xs.length)) = _
  unfold dicD seqD
  dsimp only
  rw [h]
  rfl
theorem at_len {T : Store} {n : Nat} {o : O} (h : T.length = n) : (T ++ [o])[n]? = some o := by
  rw [← h]
  exact last_at
theorem set_len {T : Store} {n : Nat} {o o' : O} (h : T.length = n) : (T ++ [o]).set n o' = T ++ [o'] := by
  rw [← h]
  exact last_set
theorem cut_mid {α : Type} (xs : List α) (a b : Nat) : cut xs (some (a : Int)) (some (b : Int)) = (xs.take b).drop a := by
  unfold cut
  rw [HT.sIx_nat, HT.sIx_nat]
  refine List.ext_getElem? fun j => ?_
  rw [List.getElem?_drop, List.getElem?_take, List.getElem?_take, List.getElem?_drop]
  by_cases h1 : a ≤ xs.length
  · rw [show min a xs.length = a by omega]
    by_cases h2 : a + j < b
    · rw [if_pos h2]
      by_cases h3 : j < min b xs.length - a
      · rw [if_pos h3]
      · rw [if_neg h3, List.getElem?_eq_none (by omega)]
    · rw [if_neg h2, if_neg (by omega)]
  · rw [show min a xs.length = xs.length by omega, if_neg (by omega)]
    by_cases h2 : a + j < b
    · rw [if_pos h2, List.getElem?_eq_none (by omega)]
    · rw [if_neg h2]
/-! ### signers -/
theorem getf_ref {fo : Nat → Nat → Bool} {S : Store} {n c f : Nat} {fs : List (Nat × D)} {x : D} (h : S[n]? = some (.ins c fs)) (hf : fo c f = true) (hx : fget fs f = some x) : getf fo S (.ref n) f = some x := by
  unfold getf
  dsimp only
  rw [h]
  dsimp only
  rw [if_pos hf, hx]
theorem clsOf_ref {S : Store} {n c m : Nat} {fs : List (Nat × D)} (h : S[n]? = some (.ins c fs)) (hm : fget fs m = none) : clsOf S m (.ref n) = some c := by
  unfold clsOf
  dsimp only
  rw [h]
  dsimp only
  rw [hm]
  rfl
/-! ### headers and blocks -/
structure Hd where
  ch : Int
  he : Int
  ti : Int
  pr : Int
  st : Int
  me : Int
  fo : Int
deriving DecidableEq
def Hd.ns (h : Hd) : List Int := [h.ch, h.he, h.ti, h.pr, h.st, h.me, h.fo]
def hedB (h : Hd) : B := .ins 6 [(32, .int h.ch), (33, .int h.he), (34, .int h.ti), (35, .int h.pr), (36, .int h.st), (37, .int h.me), (38, .int h.fo)]
structure Bk where
  h : Hd
  ms : Mb
  fs : Mb
  vs : Vt
deriving DecidableEq
def bkB (b : Bk) : B := .ins 7 [(39, hedB b.h), (37, mbT b.ms), (38, mbT b.fs), (40, vtT b.vs)]
theorem header_init_w (k : Nat) (S : Store) (h : Hd) (Q : D → Store → Prop) (hQ : Q (.b (hedB h)) S) :
    Wc T (k + 1) S.length 68 [.ref S.length, .b (.int h.ch), .b (.int h.he), .b (.int h.ti), .b (.int h.pr), .b (.int h.st), .b (.int h.me), .b (.int h.fo)] (S ++ [.ins 6 []]) fun d S2 => isNon d = true ∧ Wo' (frz S2 S.length 8 (.ref S.length)) fun x => Q (.b x) (S2.take S.length) := by
  refine wc_of (fd := f_p_headers_Header___init__) rfl rfl ?_
  unfold f_p_headers_Header___init__
  obtain ⟨Rr, hR⟩ : ∃ Rr : Fl → Sl → Store → Prop, Rr = Ret false (S ++ [O.ins 6 []]).length fun d S2 => isNon d = true ∧ Wo' (frz S2 S.length 8 (.ref S.length)) fun x => Q (.b x) (S2.take S.length) := ⟨_, rfl⟩
  show Ws (par T k S.length) _ [some (.ref S.length), some (.b (.int h.ch)), some (.b (.int h.he)), some (.b (.int h.ti)), some (.b (.int h.pr)), some (.b (.int h.st)), some (.b (.int h.me)), some (.b (.int h.fo))] (S ++ [.ins 6 []]) (Ret false (S ++ [O.ins 6 []]).length _)
  rw [← hR]
  refine ws_open fun r' hr' => ?_
  rw [wx_setf, we_v rfl, we_v rfl, setf_mid rfl (by show 0 < 1000; decide), wo_some, nx_nx]
  subst hr'
  refine ws_open fun r' hr' => ?_
  rw [wx_setf, we_v rfl, we_v rfl, setf_mid rfl (by show 1 < 1000; decide), wo_some, nx_nx]
  subst hr'
  refine ws_open fun r' hr' => ?_
  rw [wx_setf, we_v rfl, we_v rfl, setf_mid rfl (by show 2 < 1000; decide), wo_some, nx_nx]
  subst hr'
  refine ws_open fun r' hr' => ?_
  rw [wx_setf, we_v rfl, we_v rfl, setf_mid rfl (by show 3 < 1000; decide), wo_some, nx_nx]
  subst hr'
  refine ws_open fun r' hr' => ?_
  rw [wx_setf, we_v rfl, we_v rfl, setf_mid rfl (by show 4 < 1000; decide), wo_some, nx_nx]
  subst hr'
  refine ws_open fun r' hr' => ?_
  rw [wx_setf, we_v rfl, we_v rfl, setf_mid rfl (by show 5 < 1000; decide), wo_some, nx_nx]
  subst hr'
  refine ws_open fun r' hr' => ?_
  rw [wx_setf, we_v rfl, we_v rfl, setf_mid rfl (by show 6 < 1000; decide), wo_some, nx_nx]
  subst hr'
  rw [ws_nil, hR, ret_knx]
  refine ⟨rfl, ?_⟩
  show Wo' (frz (S ++ [O.ins 6 [(32, .b (.int h.ch)), (33, .b (.int h.he)), (34, .b (.int h.ti)), (35, .b (.int h.pr)), (36, .b (.int h.st)), (37, .b (.int h.me)), (38, .b (.int h.fo))]]) S.length 8 (.ref S.length)) _
  have hf : frz (S ++ [O.ins 6 [(32, .b (.int h.ch)), (33, .b (.int h.he)), (34, .b (.int h.ti)), (35, .b (.int h.pr)), (36, .b (.int h.st)), (37, .b (.int h.me)), (38, .b (.int h.fo))]]) S.length 8 (.ref S.length) = some (hedB h) := by
    unfold frz
    rw [if_neg (Nat.lt_irrefl _), last_at]
    rfl
  rw [hf, wo_some]
  show Q _ ((S ++ [_]).take S.length)
  rw [last_take]
  exact hQ
def IsTu (x : B) (xs : List B) : Prop := x = .lst xs ∨ x = .tup xs
theorem IsTu.tup {S : Store} {x : B} {xs : List B} {m : Bool} (h : IsTu x xs) : bi S .tuple m [.b x] = some (.b (.tup xs), S) := by
  rcases h with rfl | rfl <;> rfl
theorem block_init_w (k : Nat) (S : Store) (b : Bk) (x y z : B) (hx : IsTu x (b.ms.map mbB)) (hy : IsTu y (b.fs.map mbB)) (hz : IsTu z (b.vs.map vtB)) (Q : D → Store → Prop) (hQ : Q (.b (bkB b)) S) :
    Wc T (k + 1) S.length 71 [.ref S.length, .b (hedB b.h), .b x, .b y, .b z] (S ++ [.ins 7 []]) fun d S2 => isNon d = true ∧ Wo' (frz S2 S.length 8 (.ref S.length)) fun x => Q (.b x) (S2.take S.length) := by
  refine wc_of (fd := f_p_headers_Block___init__) rfl rfl ?_
  unfold f_p_headers_Block___init__
  obtain ⟨Rr, hR⟩ : ∃ Rr : Fl → Sl → Store → Prop, Rr = Ret false (S ++ [O.ins 7 []]).length fun d S2 => isNon d = true ∧ Wo' (frz S2 S.length 8 (.ref S.length)) fun x => Q (.b x) (S2.take S.length) := ⟨_, rfl⟩
  show Ws (par T k S.length) _ [some (.ref S.length), some (.b (hedB b.h)), some (.b x), some (.b y), some (.b z)] (S ++ [.ins 7 []]) (Ret false (S ++ [O.ins 7 []]).length _)
  rw [← hR]
  refine ws_open fun r' hr' => ?_
  rw [wx_setf, we_v rfl, we_v rfl, setf_mid rfl (by show 0 < 1000; decide), wo_some, nx_nx]
  subst hr'
  refine ws_open fun r' hr' => ?_
  rw [wx_setf, we_bi]
  simp only [wes_cons, wes_nil]
  rw [we_v rfl, hx.tup, wo_some, we_v rfl, setf_mid rfl (by show 1 < 1000; decide), wo_some, nx_nx]
  subst hr'
  refine ws_open fun r' hr' => ?_
  rw [wx_setf, we_bi]
  simp only [wes_cons, wes_nil]
  rw [we_v rfl, hy.tup, wo_some, we_v rfl, setf_mid rfl (by show 2 < 1000; decide), wo_some, nx_nx]
  subst hr'
  refine ws_open fun r' hr' => ?_
  rw [wx_setf, we_bi]
  simp only [wes_cons, wes_nil]
  rw [we_v rfl, hz.tup, wo_some, we_v rfl, setf_mid rfl (by show 3 < 1000; decide), wo_some, nx_nx]
  subst hr'
  rw [ws_nil, hR, ret_knx]
  refine ⟨rfl, ?_⟩
  show Wo' (frz (S ++ [O.ins 7 [(39, .b (hedB b.h)), (37, .b (mbT b.ms)), (38, .b (mbT b.fs)), (40, .b (vtT b.vs))]]) S.length 8 (.ref S.length)) _
  have hf : frz (S ++ [O.ins 7 [(39, .b (hedB b.h)), (37, .b (mbT b.ms)), (38, .b (mbT b.fs)), (40, .b (vtT b.vs))]]) S.length 8 (.ref S.length) = some (bkB b) := by
    unfold frz
    rw [if_neg (Nat.lt_irrefl _), last_at]
    rfl
  rw [hf, wo_some]
  show Q _ ((S ++ [_]).take S.length)
  rw [last_take]
  exact hQ
theorem fields_w (k b : Nat) (S : Store) (h : Hd) (Q : D → Store → Prop) (hQ : Q (.b (.tup (h.ns.map B.int))) S) : Wc T (k + 1) b 69 [.b (hedB h)] S Q := by
  refine wc_of (fd := f_p_headers_Header_fields) rfl rfl ?_
  unfold f_p_headers_Header_fields
  have g : getf (par T k S.length).fo S (.b (hedB h)) 32 = some (.b (.int h.ch)) ∧ getf (par T k S.length).fo S (.b (hedB h)) 33 = some (.b (.int h.he)) ∧ getf (par T k S.length).fo S (.b (hedB h)) 34 = some (.b (.int h.ti)) ∧ getf (par T k S.length).fo S (.b (hedB h)) 35 = some (.b (.int h.pr)) ∧ getf (par T k S.length).fo S (.b (hedB h)) 36 = some (.b (.int h.st)) ∧ getf (par T k S.length).fo S (.b (hedB h)) 37 = some (.b (.int h.me)) ∧ getf (par T k S.length).fo S (.b (hedB h)) 38 = some (.b (.int h.fo)) := ⟨rfl, rfl, rfl, rfl, rfl, rfl, rfl⟩
  obtain ⟨g1, g2, g3, g4, g5, g6, g7⟩ := g
  refine ws_open fun r' hr' => ?_
  simp [start, g1, g2, g3, g4, g5, g6, g7, mkTup, allB, SZ]
  exact hQ
theorem getBk (b : Bk) (k : Nat) (S S2 : Store) : getf (par T k S2.length).fo S (.b (bkB b)) 39 = some (.b (hedB b.h)) ∧ getf (par T k S2.length).fo S (.b (bkB b)) 37 = some (.b (mbT b.ms)) ∧ getf (par T k S2.length).fo S (.b (bkB b)) 38 = some (.b (mbT b.fs)) ∧ getf (par T k S2.length).fo S (.b (bkB b)) 40 = some (.b (vtT b.vs)) := ⟨rfl, rfl, rfl, rfl⟩
theorem getHd (h : Hd) (k : Nat) (S S2 : Store) : getf (par T k S2.length).fo S (.b (hedB h)) 32 = some (.b (.int h.ch)) ∧ getf (par T k S2.length).fo S (.b (hedB h)) 33 = some (.b (.int h.he)) ∧ getf (par T k S2.length).fo S (.b (hedB h)) 34 = some (.b (.int h.ti)) ∧ getf (par T k S2.length).fo S (.b (hedB h)) 35 = some (.b (.int h.pr)) ∧ getf (par T k S2.length).fo S (.b (hedB h)) 36 = some (.b (.int h.st)) ∧ getf (par T k S2.length).fo S (.b (hedB h)) 37 = some (.b (.int h.me)) ∧ getf (par T k S2.length).fo S (.b (hedB h)) 38 = some (.b (.int h.fo)) := ⟨rfl, rfl, rfl, rfl, rfl, rfl, rfl⟩
theorem make_header {k b : Nat} {σ : Sl} {S : Store} {es : List E} {h : Hd} {Q : D → Store → Prop} (hes : ∀ R : List D → Store → Prop, R [.b (.int h.ch), .b (.int h.he), .b (.int h.ti), .b (.int h.pr), .b (.int h.st), .b (.int h.me), .b (.int h.fo)] S → Wes (par T (k + 2) b) es σ S R) (hQ : Q (.b (hedB h)) S) : We (par T (k + 2) b) (.make 6 es) σ S Q := by
  rw [we_make (f := 68) (fz := true) rfl]
  refine hes _ ?_
  rw [if_pos rfl]
  exact header_init_w k S h Q hQ
theorem make_block {k b : Nat} {σ : Sl} {S : Store} {es : List E} {bk : Bk} {x y z : B} {Q : D → Store → Prop} (hx : IsTu x (bk.ms.map mbB)) (hy : IsTu y (bk.fs.map mbB)) (hz : IsTu z (bk.vs.map vtB)) (hes : ∀ R : List D → Store → Prop, R [.b (hedB bk.h), .b x, .b y, .b z] S → Wes (par T (k + 2) b) es σ S R) (hQ : Q (.b (bkB bk)) S) : We (par T (k + 2) b) (.make 7 es) σ S Q := by
  rw [we_make (f := 71) (fz := true) rfl]
  refine hes _ ?_
  rw [if_pos rfl]
  exact block_init_w k S bk x y z hx hy hz Q hQ
theorem eq_tintsV (S : Store) (xs ys : List Int) : eqD S (.b (.tup (xs.map B.int))) (.b (.tup (ys.map B.int))) = some (decide (xs = ys)) := by
  have ok : ∀ (a : List Int), eqOk 12 (.tup (a.map B.int)) = true := fun a => eqOk_ints 11 a
  show (if eqOk 12 (.tup (xs.map B.int)) && eqOk 12 (.tup (ys.map B.int)) then some (eqB (.tup (xs.map B.int)) (.tup (ys.map B.int))) else _) = _
  rw [ok, ok, Bool.and_self, if_pos rfl]
  show some (eqBs _ _) = _
  rw [eqB_ints]
theorem ne_self_t (S : Store) (xs : List Int) : cmp S .ne (.b (.tup (xs.map B.int))) (.b (.tup (xs.map B.int))) = some false := by
  rw [cmp_ne, eq_tintsV]
  simp
theorem ne_self_l (S : Store) (xs : List Int) : cmp S .ne (.b (.lst (xs.map B.int))) (.b (.lst (xs.map B.int))) = some false := by
  rw [cmp_ne, eq_ints]
  simp
theorem wx_augf {P : Par} {o e : E} {f : Nat} {p : Op} {σ : Sl} {S S2 : Store} {R : Fl → Sl → Store → Prop} {x : D} {a c v : Int} (ho : ev P o σ S = some (x, S)) (hg : getf P.fo S x f = some (.b (.int a))) (he : ev P e σ S = some (.b (.int c), S)) (hw : arith p a c = some v) (hs : setf P.fo P.base S x f (.b (.int v)) = some S2) (q : R .nx σ S2) : Wx P (.augf o f p e) σ S R := by
  rw [wx_def]
  have e1 : exec P (.augf o f p e) σ S = (ev P o σ S).bind fun x => (getf P.fo x.2 x.1 f).bind fun old => (ev P e σ x.2).bind fun z => (match old, z.1 with
    | .b (.int a), .b (.int c) => if insC z.2 x.1 = insC x.2 x.1 then (arith p a c).bind fun w => (setf P.fo P.base z.2 x.1 f (.b (.int w))).map fun S2 => (.nx, σ, S2) else none
    | _, _ => none) := rfl
  rw [e1, ho]
  show Wo' ((getf P.fo S x f).bind _) _
  rw [hg]
  show Wo' ((ev P e σ S).bind _) _
  rw [he]
  show Wo' (if insC S x = insC S x then (arith p a c).bind _ else none) _
  rw [if_pos rfl, hw]
  show Wo' ((setf P.fo P.base S x f (.b (.int v))).map _) _
  rw [hs]
  exact wo_some.mpr q
theorem ne_iiV (S : Store) (a c : Int) : cmp S .ne (.b (.int a)) (.b (.int c)) = some (!decide (a = c)) := rfl
theorem eq_iiV (S : Store) (a c : Int) : cmp S .eq (.b (.int a)) (.b (.int c)) = some (decide (a = c)) := rfl
theorem is_non (S : Store) (x : B) : cmp S .is (.b x) (.b .non) = some (isNon (.b x)) := rfl
end G
namespace G
open M
/-! ### headers and blocks compared -/
theorem ns_inj {h g : Hd} : h.ns = g.ns ↔ h = g := by
  constructor
  · intro e
    obtain ⟨a1, a2, a3, a4, a5, a6, a7⟩ := h
    obtain ⟨b1, b2, b3, b4, b5, b6, b7⟩ := g
    unfold Hd.ns at e
    simp only [List.cons.injEq] at e
    obtain ⟨rfl, rfl, rfl, rfl, rfl, rfl, rfl, _⟩ := e
    rfl
  · rintro rfl
    rfl
theorem header_eq_w (k b : Nat) (S : Store) (h g : Hd) (Q : D → Store → Prop) (hQ : Q (.b (.bl (decide (h = g)))) S) : Wc T (k + 2) b 70 [.b (hedB h), .b (hedB g)] S Q := by
  refine wc_of (fd := f_p_headers_Header___eq__) rfl rfl ?_
  unfold f_p_headers_Header___eq__
  have hi : ∀ S, isc S 6 (.b (hedB g)) = some true := fun _ => rfl
  have c1 : ∀ S h, clsOf S 41 (.b (hedB h)) = some 6 := fun _ _ => rfl
  have me : T.meth 6 41 = some 69 := rfl
  rw [ws_cons, wx_iff, we_not, we_isc, we_v rfl, hi, wo_some, truth_bl, wo_some, truth_bl, wo_some]
  show if false = true then _ else _
  rw [if_neg Bool.false_ne_true, ws_nil, nx_nx, ws_cons, wx_ret, we_cmp, we_meth, we_v rfl, c1, wo_some, me, wo_some, wes_nil]
  refine fields_w k _ _ h _ ?_
  rw [we_meth, we_v rfl, c1, wo_some, me, wo_some, wes_nil]
  refine fields_w k _ _ g _ ?_
  have e : M.cmp S .eq (.b (.tup (h.ns.map B.int))) (.b (.tup (g.ns.map B.int))) = some (decide (h = g)) := by
    rw [cmp_eq, eq_tintsV]
    have : decide (h.ns = g.ns) = decide (h = g) := by
      by_cases e : h = g
      · rw [decide_eq_true e, decide_eq_true (ns_inj.mpr e)]
      · rw [decide_eq_false e, decide_eq_false (fun z => e (ns_inj.mp z))]
    rw [this]
    rfl
  rw [e, wo_some, nx_rt, ret_b, List.take_length]
  exact hQ
theorem eqB_mb (p q : Int × Int) : eqB (mbB p) (mbB q) = decide (p = q) := by
  show (p.1 == q.1 && (p.2 == q.2 && true)) = _
  rw [Bool.and_true]
  by_cases h : p = q
  · subst h; simp
  · rw [decide_eq_false h]
    by_cases h1 : p.1 = q.1
    · have h2 : ¬ p.2 = q.2 := fun h2 => h (Prod.ext h1 h2)
      have : (p.2 == q.2) = false := by simp [h2]
      rw [this, Bool.and_false]
    · have : (p.1 == q.1) = false := by simp [h1]
      rw [this, Bool.false_and]
theorem eqB_vt (p q : Int × List Int) : eqB (vtB p) (vtB q) = decide (p = q) := by
  show (p.1 == q.1 && (eqBs (p.2.map B.int) (q.2.map B.int) && true)) = _
  rw [Bool.and_true, eqB_ints]
  by_cases h : p = q
  · subst h; simp
  · rw [decide_eq_false h]
    by_cases h1 : p.1 = q.1
    · have h2 : ¬ p.2 = q.2 := fun h2 => h (Prod.ext h1 h2)
      rw [decide_eq_false h2, Bool.and_false]
    · have : (p.1 == q.1) = false := by simp [h1]
      rw [this, Bool.false_and]
theorem eqBs_map {α : Type} [DecidableEq α] (f : α → B) (hf : ∀ a b, eqB (f a) (f b) = decide (a = b)) : ∀ xs ys : List α, eqBs (xs.map f) (ys.map f) = decide (xs = ys)
  | [], [] => rfl
  | [], y :: ys => rfl
  | x :: xs, [] => rfl
  | x :: xs, y :: ys => by
    show (eqB (f x) (f y) && eqBs (xs.map f) (ys.map f)) = _
    rw [hf, eqBs_map f hf xs ys]
    by_cases h : x = y
    · subst h
      simp
    · simp [h]
theorem eqB_mbT (a b : Mb) : eqB (mbT a) (mbT b) = decide (a = b) := eqBs_map mbB eqB_mb a b
theorem eqB_vtT (a b : Vt) : eqB (vtT a) (vtT b) = decide (a = b) := eqBs_map vtB eqB_vt a b
theorem ok_mbT (n : Nat) (a : Mb) : eqOk (n + 2) (mbT a) = true := by
  show (a.map mbB).all (eqOk (n + 1)) = true
  rw [List.all_map, List.all_eq_true]
  intro p _
  cases n <;> rfl
theorem ok_vtT (n : Nat) (a : Vt) : eqOk (n + 3) (vtT a) = true := by
  show (a.map vtB).all (eqOk (n + 2)) = true
  rw [List.all_map, List.all_eq_true]
  intro p _
  show (eqOk (n + 1) (.int p.1) && (eqOk (n + 1) (.tup (p.2.map B.int)) && true)) = true
  have : eqOk (n + 1) (.tup (p.2.map B.int)) = true := eqOk_ints n p.2
  rw [this]
  rfl
theorem cmp_mbT (S : Store) (a b : Mb) : eqD S (.b (mbT a)) (.b (mbT b)) = some (decide (a = b)) := by
  show (if eqOk 12 (mbT a) && eqOk 12 (mbT b) then some (eqB (mbT a) (mbT b)) else _) = _
  rw [ok_mbT 10, ok_mbT 10, eqB_mbT]
  rfl
theorem cmp_vtT (S : Store) (a b : Vt) : eqD S (.b (vtT a)) (.b (vtT b)) = some (decide (a = b)) := by
  show (if eqOk 12 (vtT a) && eqOk 12 (vtT b) then some (eqB (vtT a) (vtT b)) else _) = _
  rw [ok_vtT 9, ok_vtT 9, eqB_vtT]
  rfl
theorem beq_dec (a b : Int) : (a == b) = decide (a = b) := by
  by_cases h : a = b
  · subst h; simp
  · simp [h]
theorem eqF_hd (h g : Hd) : eqFs [(32, .int h.ch), (33, .int h.he), (34, .int h.ti), (35, .int h.pr), (36, .int h.st), (37, .int h.me), (38, .int h.fo)] [(32, .int g.ch), (33, .int g.he), (34, .int g.ti), (35, .int g.pr), (36, .int g.st), (37, .int g.me), (38, .int g.fo)] = decide (h = g) := by
  show (h.ch == g.ch && (h.he == g.he && (h.ti == g.ti && (h.pr == g.pr && (h.st == g.st && (h.me == g.me && (h.fo == g.fo && true))))))) = _
  obtain ⟨a1, a2, a3, a4, a5, a6, a7⟩ := h
  obtain ⟨b1, b2, b3, b4, b5, b6, b7⟩ := g
  simp only [beq_dec, Hd.mk.injEq, Bool.and_true]
  simp only [Bool.decide_and]
theorem eqE_hd (k b : Nat) (S : Store) (h g : Hd) : eqE (par T (k + 3) b) (hedB h) (hedB g) S = some (decide (h = g), S) := by
  have hc : evC T (k + 2) b 70 [.b (hedB h), .b (hedB g)] S = some (.b (.bl (decide (h = g))), S) := (header_eq_w k b S h g (fun x y => x = .b (.bl (decide (h = g))) ∧ y = S) ⟨rfl, rfl⟩).eq
  unfold eqE
  rw [if_neg (by show ¬ ((false && false) = true); decide)]
  dsimp only [hedB]
  rw [if_pos ⟨rfl, rfl, rfl⟩]
  show Option.bind (some 70) _ = _
  rw [Option.bind_some]
  show Option.bind (evC T (k + 2) b 70 [.b (hedB h), .b (hedB g)] S) _ = _
  rw [hc, Option.bind_some]
  dsimp only
  rw [eqF_hd, if_pos ⟨rfl, rfl⟩]
theorem eqE_ok {P : Par} {x y : B} (S : Store) (hx : eqOk 12 x = true) (hy : eqOk 12 y = true) : eqE P x y S = some (eqB x y, S) := by
  unfold eqE
  rw [hx, hy]
  rfl
theorem bk_inj (a b : Bk) : (a.h = b.h ∧ a.ms = b.ms ∧ a.fs = b.fs ∧ a.vs = b.vs) ↔ a = b := by
  obtain ⟨a1, a2, a3, a4⟩ := a
  obtain ⟨b1, b2, b3, b4⟩ := b
  simp
theorem eqL_bk (k b : Nat) (S : Store) (x y : Bk) : eqL (par T (k + 3) b) [hedB x.h, mbT x.ms, mbT x.fs, vtT x.vs] [hedB y.h, mbT y.ms, mbT y.fs, vtT y.vs] S = some (decide (x = y), S) := by
  have e1 := eqE_hd k b S x.h y.h
  have e2 : eqE (par T (k + 3) b) (mbT x.ms) (mbT y.ms) S = some (decide (x.ms = y.ms), S) := by rw [eqE_ok S (ok_mbT 10 _) (ok_mbT 10 _), eqB_mbT]
  have e3 : eqE (par T (k + 3) b) (mbT x.fs) (mbT y.fs) S = some (decide (x.fs = y.fs), S) := by rw [eqE_ok S (ok_mbT 10 _) (ok_mbT 10 _), eqB_mbT]
  have e4 : eqE (par T (k + 3) b) (vtT x.vs) (vtT y.vs) S = some (decide (x.vs = y.vs), S) := by rw [eqE_ok S (ok_vtT 9 _) (ok_vtT 9 _), eqB_vtT]
  unfold eqL
  rw [e1, bind_some']
  by_cases h1 : x.h = y.h
  rotate_left
  · rw [decide_eq_false h1, decide_eq_false (fun e => h1 (by rw [e]))]
    rfl
  rw [decide_eq_true h1]
  show eqL _ _ _ S = _
  unfold eqL
  rw [e2, bind_some']
  by_cases h2 : x.ms = y.ms
  rotate_left
  · rw [decide_eq_false h2, decide_eq_false (fun e => h2 (by rw [e]))]
    rfl
  rw [decide_eq_true h2]
  show eqL _ _ _ S = _
  unfold eqL
  rw [e3, bind_some']
  by_cases h3 : x.fs = y.fs
  rotate_left
  · rw [decide_eq_false h3, decide_eq_false (fun e => h3 (by rw [e]))]
    rfl
  rw [decide_eq_true h3]
  show eqL _ _ _ S = _
  unfold eqL
  rw [e4, bind_some']
  by_cases h4 : x.vs = y.vs
  rotate_left
  · rw [decide_eq_false h4, decide_eq_false (fun e => h4 (by rw [e]))]
    rfl
  rw [decide_eq_true h4, decide_eq_true ((bk_inj x y).mp ⟨h1, h2, h3, h4⟩)]
  rfl
theorem block_eq_w (k b : Nat) (S : Store) (x y : Bk) (Q : D → Store → Prop) (hQ : Q (.b (.bl (decide (x = y)))) S) : Wc T (k + 4) b 72 [.b (bkB x), .b (bkB y)] S Q := by
  refine wc_of (fd := f_p_headers_Block___eq__) rfl rfl ?_
  unfold f_p_headers_Block___eq__
  have hi : ∀ S, isc S 7 (.b (bkB y)) = some true := fun _ => rfl
  have ga : ∀ (z : Bk) S, getf (par T (k + 3) S.length).fo S (.b (bkB z)) 39 = some (.b (hedB z.h)) := fun _ _ => rfl
  obtain ⟨x1, x2, x3, x4⟩ := getBk x (k + 3) S S
  obtain ⟨y1, y2, y3, y4⟩ := getBk y (k + 3) S S
  rw [ws_cons, wx_iff, we_not, we_isc, we_v rfl, hi, wo_some, truth_bl, wo_some, truth_bl, wo_some]
  show if false = true then _ else _
  rw [if_neg Bool.false_ne_true, ws_nil, nx_nx, ws_cons, wx_set, we_tup, wes_cons, we_att, we_v rfl]
  show Wo' (getf (par T (k + 3) S.length).fo S (.b (bkB x)) 39) _
  rw [x1, wo_some, wes_cons, we_att, we_v rfl]
  show Wo' (getf (par T (k + 3) S.length).fo S (.b (bkB x)) 37) _
  rw [x2, wo_some, wes_cons, we_att, we_v rfl]
  show Wo' (getf (par T (k + 3) S.length).fo S (.b (bkB x)) 38) _
  rw [x3, wo_some, wes_cons, we_att, we_v rfl]
  show Wo' (getf (par T (k + 3) S.length).fo S (.b (bkB x)) 40) _
  rw [x4, wo_some, wes_nil]
  refine ⟨(by decide : 4 ≤ SZ), ?_⟩
  rw [mk4, nx_nx, ws_cons, wx_ret, we_eqo, we_v rfl, we_tup, wes_cons, we_att, we_v rfl]
  show Wo' (getf (par T (k + 3) S.length).fo S (.b (bkB y)) 39) _
  rw [y1, wo_some, wes_cons, we_att, we_v rfl]
  show Wo' (getf (par T (k + 3) S.length).fo S (.b (bkB y)) 37) _
  rw [y2, wo_some, wes_cons, we_att, we_v rfl]
  show Wo' (getf (par T (k + 3) S.length).fo S (.b (bkB y)) 38) _
  rw [y3, wo_some, wes_cons, we_att, we_v rfl]
  show Wo' (getf (par T (k + 3) S.length).fo S (.b (bkB y)) 40) _
  rw [y4, wo_some, wes_nil]
  refine ⟨(by decide : 4 ≤ SZ), ?_⟩
  rw [mk4]
  have e : eqo (par T (k + 3) S.length) S (.b (.tup [hedB x.h, mbT x.ms, mbT x.fs, vtT x.vs])) (.b (.tup [hedB y.h, mbT y.ms, mbT y.fs, vtT y.vs])) = some (decide (x = y), S) := by
    unfold eqo
    have en : M.cmp S .eq (.b (.tup [hedB x.h, mbT x.ms, mbT x.fs, vtT x.vs])) (.b (.tup [hedB y.h, mbT y.ms, mbT y.fs, vtT y.vs])) = none := rfl
    dsimp only
    rw [en]
    exact eqL_bk k S.length S x y
  show Wo' (eqo (par T (k + 3) S.length) S (.b (.tup [hedB x.h, mbT x.ms, mbT x.fs, vtT x.vs])) (.b (.tup [hedB y.h, mbT y.ms, mbT y.fs, vtT y.vs]))) _
  rw [e, wo_some, nx_rt, ret_b, List.take_length]
  exact hQ
/-- == of two blocks where the law or the program writes it -/
theorem eqo_bk (k b : Nat) (S : Store) (x y : Bk) (Q : Bool × Store → Prop) (hQ : Q (decide (x = y), S)) : Wo' (eqo (par T (k + 4) b) S (.b (bkB x)) (.b (bkB y))) Q :=
  eqo_ins (f := 72) rfl rfl (block_eq_w k b S x y _ ⟨_, rfl, hQ⟩)
theorem eqo_hd (k b : Nat) (S : Store) (x y : Hd) (Q : Bool × Store → Prop) (hQ : Q (decide (x = y), S)) : Wo' (eqo (par T (k + 2) b) S (.b (hedB x)) (.b (hedB y))) Q :=
  eqo_ins (f := 70) rfl rfl (header_eq_w k b S x y _ ⟨_, rfl, hQ⟩)
end G
namespace G
open M
theorem gB39 (x : Bk) (k b : Nat) (S : Store) : getf (par T k b).fo S (.b (bkB x)) 39 = some (.b (hedB x.h)) := rfl
theorem gB37 (x : Bk) (k b : Nat) (S : Store) : getf (par T k b).fo S (.b (bkB x)) 37 = some (.b (mbT x.ms)) := rfl
theorem gB38 (x : Bk) (k b : Nat) (S : Store) : getf (par T k b).fo S (.b (bkB x)) 38 = some (.b (mbT x.fs)) := rfl
theorem gB40 (x : Bk) (k b : Nat) (S : Store) : getf (par T k b).fo S (.b (bkB x)) 40 = some (.b (vtT x.vs)) := rfl
theorem gH32 (x : Hd) (k b : Nat) (S : Store) : getf (par T k b).fo S (.b (hedB x)) 32 = some (.b (.int x.ch)) := rfl
theorem gH33 (x : Hd) (k b : Nat) (S : Store) : getf (par T k b).fo S (.b (hedB x)) 33 = some (.b (.int x.he)) := rfl
theorem gH34 (x : Hd) (k b : Nat) (S : Store) : getf (par T k b).fo S (.b (hedB x)) 34 = some (.b (.int x.ti)) := rfl
theorem gH35 (x : Hd) (k b : Nat) (S : Store) : getf (par T k b).fo S (.b (hedB x)) 35 = some (.b (.int x.pr)) := rfl
theorem gH37 (x : Hd) (k b : Nat) (S : Store) : getf (par T k b).fo S (.b (hedB x)) 37 = some (.b (.int x.me)) := rfl
theorem gH38 (x : Hd) (k b : Nat) (S : Store) : getf (par T k b).fo S (.b (hedB x)) 38 = some (.b (.int x.fo)) := rfl
theorem iv0 (v : Int × List Int) (S : Store) : idx S (.b (vtB v)) (.b (.int 0)) = some (.b (.int v.1)) := rfl
theorem iv1 (v : Int × List Int) (S : Store) : idx S (.b (vtB v)) (.b (.int 1)) = some (.b (.tup (v.2.map B.int))) := rfl
theorem im0 (v : Int × Int) (S : Store) : idx S (.b (mbB v)) (.b (.int 0)) = some (.b (.int v.1)) := rfl
theorem im1 (v : Int × Int) (S : Store) : idx S (.b (mbB v)) (.b (.int 1)) = some (.b (.int v.2)) := rfl
theorem tbl (S : Store) (c : Bool) : truth S (.b (.bl c)) = some c := rfl
theorem eq_hns (S : Store) (h g : Hd) : cmp S .eq (.b (.tup (h.ns.map B.int))) (.b (.tup (g.ns.map B.int))) = some (decide (h = g)) := by
  rw [cmp_eq, eq_tintsV]
  have : decide (h.ns = g.ns) = decide (h = g) := by
    by_cases e : h = g
    · rw [decide_eq_true e, decide_eq_true (ns_inj.mpr e)]
    · rw [decide_eq_false e, decide_eq_false (fun z => e (ns_inj.mp z))]
  rw [this]
  rfl
theorem eq_mbs (S : Store) (x y : Mb) : cmp S .eq (.b (mbT x)) (.b (mbT y)) = some (decide (x = y)) := by
  rw [cmp_eq, cmp_mbT]
  rfl
theorem eq_vts (S : Store) (x y : Vt) : cmp S .eq (.b (vtT x)) (.b (vtT y)) = some (decide (x = y)) := by
  rw [cmp_eq, cmp_vtT]
  rfl
/-! ### conditions of which only a consequence is wanted -/
def Cnd (P : Par) (t : E) (σ : Sl) (S : Store) (p : Prop) : Prop := We P t σ S fun x S1 => S1 = S ∧ ∃ c, truth S x = some c ∧ (c = true → p)
theorem cnd_and {P : Par} {a b : E} {σ : Sl} {S : Store} {p q : Prop} (ha : Cnd P a σ S p) (hb : p → Cnd P b σ S q) : Cnd P (.and a b) σ S (p ∧ q) := by
  unfold Cnd
  rw [we_and]
  refine We.mono ha ?_
  rintro x S1 ⟨rfl, c, e, h⟩
  rw [e, wo_some]
  cases c with
  | false =>
    rw [if_neg Bool.false_ne_true]
    exact ⟨rfl, false, by first | exact e | rfl, fun h => by cases h⟩
  | true =>
    rw [if_pos rfl]
    exact We.mono (hb (h rfl)) fun y S2 ⟨e2, c2, e3, h2⟩ => ⟨e2, c2, e3, fun z => ⟨h rfl, h2 z⟩⟩
theorem cnd_iff {P : Par} {t : E} {a b : List St} {σ : Sl} {S : Store} {p : Prop} {R : Fl → Sl → Store → Prop} (ht : Cnd P t σ S p) (h1 : p → Ws P a σ S R) (h2 : Ws P b σ S R) : Wx P (.iff t a b) σ S R := by
  rw [wx_iff]
  refine We.mono ht ?_
  rintro x S1 ⟨rfl, c, e, h⟩
  rw [e, wo_some]
  cases c with
  | false =>
    rw [if_neg Bool.false_ne_true]
    exact h2
  | true =>
    rw [if_pos rfl]
    exact h1 (h rfl)
theorem cnd_bl {P : Par} {t : E} {σ : Sl} {S : Store} {p : Prop} {c : Bool} (h : ∀ Q : D → Store → Prop, Q (.b (.bl c)) S → We P t σ S Q) (hp : c = true → p) : Cnd P t σ S p := h _ ⟨rfl, c, rfl, hp⟩
end G
namespace G
open M
/-! ### walks whose sequence changes the store first -/
theorem wx_forN2 {P : Par} {g : Pt} {k : Ik} {es : List E} {b : List St} {σ : Sl} {S S' : Store} {R : Fl → Sl → Store → Prop} {xs : List B} {ds : List B} (hes : ∀ Q : List D → Store → Prop, Q (ds.map D.b) S' → Wes P es σ S Q) (hit : items S' k (ds.map D.b) = some xs)
    (I : Nat → Sl → Store → Prop) (h0 : I 0 σ S') (turn : ∀ j x σ1 S1, xs[j]? = some x → I j σ1 S1 → Wo' (asg g x σ1) fun σ2 => Ws P b σ2 S1 fun f σ3 S3 => match f with
      | .rt d => R (.rt d) σ3 S3
      | _ => I (j + 1) σ3 S3) (last : ∀ σ1 S1, I xs.length σ1 S1 → R .nx σ1 S1) : Wx P (.for g k es b) σ S R := by
  rw [wx_for]
  refine hes _ ?_
  rw [hit, wo_some, lockAll_bs]
  refine (wo_forL (R := R) (fun dn rest σ1 S1 => dn ++ rest = xs ∧ I dn.length σ1 S1) ?_ ?_ xs [] σ S' ⟨rfl, h0⟩).mono fun q hq => ?_
  · rintro dn x rest σ1 S1 ⟨e, hI⟩
    refine (turn dn.length x σ1 S1 (by rw [← e]; simp) hI).mono fun σ2 h => h.mono fun f σ3 S3 q => ?_
    cases f with
    | rt d => exact q
    | nx => exact ⟨by rw [← e]; simp, by rw [List.length_append]; exact q⟩
    | ct => exact ⟨by rw [← e]; simp, by rw [List.length_append]; exact q⟩
  · rintro dn σ1 S1 ⟨e, hI⟩
    rw [List.append_nil] at e
    subst e
    exact last σ1 S1 hI
  · rw [unlockAll_bs, wo_some]
    exact hq
theorem we_lcN2 {P : Par} {m : Bool} {g : Pt} {k : Ik} {es : List E} {t e : E} {w : List Nat} {σ : Sl} {S S' : Store} {Q : D → Store → Prop} {xs : List B} {ds : List B} (hes : ∀ Q : List D → Store → Prop, Q (ds.map D.b) S' → Wes P es σ S Q) (hit : items S' k (ds.map D.b) = some xs) (hz : xs.length ≤ SZ)
    (I : Nat → List B → Store → Prop) (h0 : I 0 [] S') (turn : ∀ j x ys S1, xs[j]? = some x → I j ys S1 → Wo' (asg g x (wipe σ w)) fun σ2 => We P t σ2 S1 fun c S2 => Wo' (truth S2 c) fun c => if c then We P e σ2 S2 fun d S3 => ∃ y, d = .b y ∧ I (j + 1) (ys ++ [y]) S3 else I (j + 1) ys S2)
    (last : ∀ ys S1, I xs.length ys S1 → Wo' (newL S1 m ys) fun p => Q p.1 p.2) : We P (.lc m g k es t e w) σ S Q := by
  rw [we_lc]
  refine hes _ ?_
  rw [hit, wo_some, lockAll_bs]
  refine ⟨hz, (wo_lcL (Q := fun ys S1 => I xs.length ys S1) (fun dn rest ys S1 => dn ++ rest = xs ∧ I dn.length ys S1) ?_ ?_ xs [] [] S' ⟨rfl, h0⟩).mono fun q hq => ?_⟩
  · rintro dn x rest ys S1 ⟨e1, hI⟩
    refine (turn dn.length x ys S1 (by rw [← e1]; simp) hI).mono fun σ2 h => h.mono fun c S2 q => q.mono fun c q => ?_
    cases c with
    | true =>
      rw [if_pos rfl] at q ⊢
      exact q.mono fun d S3 ⟨y, hy, q⟩ => ⟨y, hy, by rw [← e1]; simp, by rw [List.length_append]; exact q⟩
    | false =>
      rw [if_neg Bool.false_ne_true] at q ⊢
      exact ⟨by rw [← e1]; simp, by rw [List.length_append]; exact q⟩
  · rintro dn ys S1 ⟨e1, hI⟩
    rw [List.append_nil] at e1
    subst e1
    exact hI
  · rw [unlockAll_bs, wo_some]
    exact last _ _ hq
/-! ### what is written -/
def nrow (ys : List Int) : List Int := (ys.length : Int) :: ys
def nmem (ms : Mb) : List Int := (ms.length : Int) :: ms.flatMap fun p => [p.1, p.2]
def nvot (vs : Vt) : List Int := (vs.length : Int) :: vs.flatMap fun v => v.1 :: nrow v.2
def nblk (b : Bk) : List Int := b.h.ns ++ (nmem b.ms ++ nmem b.fs) ++ nvot b.vs
structure VsS (vs : Vt) : Prop where
  l : vs.length ≤ 100
  v : ∀ v ∈ vs, v.2.length ≤ 100
structure BkS (b : Bk) : Prop where
  ms : b.ms.length ≤ 100
  fs : b.fs.length ≤ 100
  vs : VsS b.vs
theorem flat2_len (ms : Mb) : (ms.flatMap fun p => [p.1, p.2]).length = 2 * ms.length := by
  induction ms with
  | nil => rfl
  | cons p ms ih =>
    rw [List.flatMap_cons, List.length_append, ih, List.length_cons]
    simp
    omega
theorem flatv_len : ∀ (vs : Vt), (∀ v ∈ vs, v.2.length ≤ 100) → (vs.flatMap fun v => v.1 :: nrow v.2).length ≤ 102 * vs.length
  | [], _ => by simp
  | v :: vs, h => by
    have h1 := flatv_len vs fun u hu => h u (List.mem_cons_of_mem _ hu)
    have h2 := h v (List.mem_cons_self ..)
    rw [List.flatMap_cons, List.length_append, List.length_cons]
    unfold nrow at *
    simp only [List.length_cons] at *
    omega
theorem nmem_len {ms : Mb} (h : ms.length ≤ 100) : (nmem ms).length ≤ 201 := by
  unfold nmem
  rw [List.length_cons, flat2_len]
  omega
theorem nvot_len {vs : Vt} (h : VsS vs) : (nvot vs).length ≤ 10201 := by
  unfold nvot
  rw [List.length_cons]
  have := flatv_len vs h.v
  have := h.l
  omega
theorem nblk_len {b : Bk} (h : BkS b) : (nblk b).length ≤ 11000 := by
  unfold nblk
  rw [List.length_append, List.length_append, List.length_append]
  have := nmem_len h.ms
  have := nmem_len h.fs
  have := nvot_len h.vs
  have : b.h.ns.length = 7 := rfl
  omega
theorem bin_lls {S : Store} {xs ys : List Int} (hz : xs.length + ys.length ≤ 1000000) : bin S .add (.b (.lst (xs.map B.int))) (.b (.lst (ys.map B.int))) = some (.b (.lst ((xs ++ ys).map B.int))) := by
  rw [bin_ll (by rw [List.length_map, List.length_map]; unfold SZ; omega), List.map_append]
theorem rowG {f : Nat} (hf : T.fn f = some f_p_numbers_numbers_of_row ∨ T.fn f = some f_l_law_row) (k b : Nat) (S : Store) (x : B) (ys : List Int) (hx : IsTu x (ys.map B.int)) (hl : ys.length ≤ 1000) (Q : D → Store → Prop) (hQ : Q (.b (.lst ((nrow ys).map B.int))) S) : Wc T (k + 1) b f [.b x] S Q := by
  have e : f_l_law_row = f_p_numbers_numbers_of_row := rfl
  rw [e, or_self] at hf
  refine wc_of (fd := f_p_numbers_numbers_of_row) hf rfl ?_
  unfold f_p_numbers_numbers_of_row
  simp only [start, List.map_cons, List.map_nil, List.length_cons, List.length_nil, if_true]
  have hz : (ys.map B.int).length ≤ SZ := by rw [List.length_map]; unfold SZ; omega
  have h1 : ∀ S : Store, bi S .len false [.b x] = some (.b (.int (ys.length : Int)), S) := fun S => by
    rcases hx with rfl | rfl
    · rw [bi_len_lst, List.length_map]
    · rw [bi_len_tup, List.length_map]
  have h2 : ∀ S : Store, bi S .list false [.b x] = some (.b (.lst (ys.map B.int)), S) := fun S => by
    rcases hx with rfl | rfl
    · show newL S false (ys.map B.int) = _
      rw [newL_f, if_pos hz]
    · rw [list_tupV, newL_f, if_pos hz]
  refine ws_open fun r' hr' => ?_
  rw [wx_ret, we_bin, we_lst, wes_cons, we_bi, wes_cons, we_v rfl, wes_nil, h1, wo_some, wes_nil]
  show Wo' (some [B.int (ys.length : Int)]) _
  rw [wo_some]
  show Wo' (some (D.b (.lst ([(ys.length : Int)].map B.int)), S)) _
  rw [wo_some, we_bi, wes_cons, we_v rfl, wes_nil, h2, wo_some, bin_lls (by simp; omega), wo_some, nx_rt, ret_b, List.take_length]
  exact hQ
theorem nrow_w (k b : Nat) (S : Store) (x : B) (ys : List Int) (hx : IsTu x (ys.map B.int)) (hl : ys.length ≤ 1000) (Q : D → Store → Prop) (hQ : Q (.b (.lst ((nrow ys).map B.int))) S) : Wc T (k + 1) b 73 [.b x] S Q := rowG (.inl rfl) k b S x ys hx hl Q hQ
theorem law_row_w (k b : Nat) (S : Store) (x : B) (ys : List Int) (hx : IsTu x (ys.map B.int)) (hl : ys.length ≤ 1000) (Q : D → Store → Prop) (hQ : Q (.b (.lst ((nrow ys).map B.int))) S) : Wc T (k + 1) b 1005 [.b x] S Q := rowG (.inr rfl) k b S x ys hx hl Q hQ
theorem flatMap_s {α : Type} {f : α → List Int} {l : List α} {j : Nat} {x : α} (h : l[j]? = some x) : (l.take (j + 1)).flatMap f = (l.take j).flatMap f ++ f x := by
  rw [List.take_add_one, h, List.flatMap_append]
  simp
theorem flatMap_le {α : Type} {f : α → List Int} {n : Nat} (hf : ∀ x : α, (f x).length ≤ n) : ∀ l : List α, (l.flatMap f).length ≤ n * l.length
  | [] => by simp
  | x :: l => by
    have h1 := flatMap_le hf l
    have h2 := hf x
    rw [List.flatMap_cons, List.length_append, List.length_cons, Nat.mul_add]
    omega
theorem nmem_w (k b : Nat) (S : Store) (ms : Mb) (hl : ms.length ≤ 1000) (Q : D → Store → Prop) (hQ : Q (.b (.lst ((nmem ms).map B.int))) S) : Wc T (k + 1) b 74 [.b (mbT ms)] S Q := by
  refine wc_of (fd := f_p_numbers_numbers_of_members) rfl rfl ?_
  unfold f_p_numbers_numbers_of_members
  simp only [start, List.map_cons, List.map_nil, List.length_cons, List.length_nil, if_true]
  refine ws_open fun r' hr' => ?_
  rw [wx_set, we_lst, wes_cons, we_bi, wes_cons, we_v rfl, wes_nil, len_mbT, wo_some, wes_nil]
  show Wo' (some [B.int (ms.length : Int)]) _
  rw [wo_some]
  show Wo' (some (D.ref S.length, S ++ [O.lst [B.int (ms.length : Int)]])) _
  rw [wo_some]
  simp only [nx_nx, List.set]
  subst hr'
  refine ws_open fun r' hr' => ?_
  refine wx_forN (k := .sq) (ds := [mbT ms]) (xs := ms.map mbB) (fun Q h => by simp only [wes_cons, wes_nil]; rw [we_v rfl]; exact h) rfl (fun j σ1 S1 => S1 = S ++ [O.lst (((ms.length : Int) :: (ms.take j).flatMap fun p => [p.1, p.2]).map B.int)] ∧ ∃ v2 v3, σ1 = [some (.b (mbT ms)), some (.ref S.length), v2, v3]) ⟨rfl, none, none, rfl⟩ ?_ ?_
  · rintro j z σ1 S1 hz ⟨rfl, v2, v3, rfl⟩
    rw [List.getElem?_map] at hz
    obtain ⟨p, hp, rfl⟩ := Option.map_eq_some_iff.mp hz
    show Wo' (some ([some (.b (mbT ms)), some (.ref S.length), some (.b (.int p.1)), some (.b (.int p.2))] : Sl)) _
    rw [wo_some]
    have hS := last_at (S := S) (o := O.lst (((ms.length : Int) :: (ms.take j).flatMap fun p => [p.1, p.2]).map B.int))
    have hle : ((ms.take j).flatMap fun p => [p.1, p.2]).length ≤ 2 * (ms.take j).length := flatMap_le (f := fun p : Int × Int => [p.1, p.2]) (fun _ => Nat.le_refl _) _
    have hle2 := List.length_take_le' j ms
    have ex := mt_ext (y := .lst [.int p.1, .int p.2]) hS rfl (by rw [List.length_map, List.length_cons]; simp only [List.length_cons, List.length_nil]; unfold SZ; omega)
    refine ws_open fun q' hq' => ?_
    rw [wx_ex, we_mt, we_v rfl, wes_cons, we_lst, wes_cons, we_v rfl, wes_cons, we_v rfl, wes_nil]
    show Wo' (some [B.int p.1, B.int p.2]) _
    rw [wo_some]
    show Wo' (some (D.b (.lst [B.int p.1, B.int p.2]), _)) _
    rw [wo_some, wes_nil]
    refine ⟨rfl, ?_⟩
    rw [ex, wo_some, nx_nx]
    subst hq'
    rw [ws_nil, last_set]
    refine ⟨?_, _, _, rfl⟩
    rw [flatMap_s hp]
    show _ = S ++ [O.lst (B.int (ms.length : Int) :: List.map B.int (List.flatMap (fun p => [p.1, p.2]) (List.take j ms) ++ [p.1, p.2]))]
    rw [List.map_append]
    rfl
  rintro σ1 S1 ⟨rfl, v2, v3, rfl⟩
  rw [nx_nx]
  subst hr'
  rw [List.length_map, List.take_length]
  refine ws_open fun r' hr' => ?_
  rw [wx_ret, we_v rfl, nx_rt, ret_last]
  exact hQ
theorem nvot_w (k b : Nat) (S : Store) (vs : Vt) (hv : VsS vs) (Q : D → Store → Prop) (hQ : Q (.b (.lst ((nvot vs).map B.int))) S) : Wc T (k + 2) b 75 [.b (vtT vs)] S Q := by
  refine wc_of (fd := f_p_numbers_numbers_of_votes) rfl rfl ?_
  unfold f_p_numbers_numbers_of_votes
  simp only [start, List.map_cons, List.map_nil, List.length_cons, List.length_nil, if_true]
  have hl := hv.l
  have lv : ∀ S : Store, bi S .len false [.b (vtT vs)] = some (.b (.int (vs.length : Int)), S) := fun S => by
    show bi S .len false [.b (.tup _)] = _
    rw [bi_len_tup, List.length_map]
  refine ws_open fun r' hr' => ?_
  rw [wx_set, we_lst, wes_cons, we_bi, wes_cons, we_v rfl, wes_nil, lv, wo_some, wes_nil]
  show Wo' (some [B.int (vs.length : Int)]) _
  rw [wo_some]
  show Wo' (some (D.ref S.length, S ++ [O.lst [B.int (vs.length : Int)]])) _
  rw [wo_some]
  simp only [nx_nx, List.set]
  subst hr'
  refine ws_open fun r' hr' => ?_
  refine wx_forN (k := .sq) (ds := [vtT vs]) (xs := vs.map vtB) (fun Q h => by simp only [wes_cons, wes_nil]; rw [we_v rfl]; exact h) rfl (fun j σ1 S1 => S1 = S ++ [O.lst (((vs.length : Int) :: (vs.take j).flatMap fun v => v.1 :: nrow v.2).map B.int)] ∧ ∃ v2 v3, σ1 = [some (.b (vtT vs)), some (.ref S.length), v2, v3]) ⟨rfl, none, none, rfl⟩ ?_ ?_
  · rintro j z σ1 S1 hz ⟨rfl, v2, v3, rfl⟩
    rw [List.getElem?_map] at hz
    obtain ⟨v, hp, rfl⟩ := Option.map_eq_some_iff.mp hz
    have hvl := hv.v v (List.mem_of_getElem? hp)
    show Wo' (some ([some (.b (vtT vs)), some (.ref S.length), some (.b (.int v.1)), some (.b (.tup (v.2.map B.int)))] : Sl)) _
    rw [wo_some]
    obtain ⟨acc, hacc⟩ : ∃ acc, acc = (vs.length : Int) :: (vs.take j).flatMap fun v => v.1 :: nrow v.2 := ⟨_, rfl⟩
    rw [← hacc]
    have hal : acc.length ≤ 20000 := by
      rw [hacc, List.length_cons]
      have h1 := flatv_len (vs.take j) fun v hv' => hv.v v (List.mem_of_mem_take hv')
      have := List.length_take_le' j vs
      omega
    have hS := last_at (S := S) (o := O.lst (acc.map B.int))
    refine ws_open fun q' hq' => ?_
    rw [wx_ex, we_mt, we_v rfl, wes_cons, we_v rfl, wes_nil]
    refine ⟨rfl, ?_⟩
    rw [mt_app hS (by rw [List.length_map]; unfold SZ; omega), wo_some, nx_nx, last_set]
    subst hq'
    have hS2 := last_at (S := S) (o := O.lst (acc.map B.int ++ [B.int v.1]))
    have ex := mt_ext (ys := (nrow v.2).map B.int) (y := .lst ((nrow v.2).map B.int)) hS2 rfl (by rw [List.length_append, List.length_map, List.length_map]; unfold nrow; simp only [List.length_cons, List.length_nil]; unfold SZ; omega)
    refine ws_open fun q' hq' => ?_
    rw [wx_ex, we_mt, we_v rfl, wes_cons, we_call, wes_cons, we_v rfl, wes_nil]
    refine nrow_w k _ _ _ v.2 (.inr rfl) (by omega) _ ?_
    rw [wes_nil]
    refine ⟨rfl, ?_⟩
    rw [ex, wo_some, nx_nx]
    subst hq'
    rw [ws_nil, last_set]
    refine ⟨?_, _, _, rfl⟩
    rw [flatMap_s hp, show ((vs.length : Int) :: ((vs.take j).flatMap (fun v => v.1 :: nrow v.2) ++ (v.1 :: nrow v.2))) = acc ++ (v.1 :: nrow v.2) by rw [hacc]; rfl, List.map_append, List.append_assoc]
    rfl
  rintro σ1 S1 ⟨rfl, v2, v3, rfl⟩
  rw [nx_nx]
  subst hr'
  rw [List.length_map, List.take_length]
  refine ws_open fun r' hr' => ?_
  rw [wx_ret, we_v rfl, nx_rt, ret_last]
  exact hQ
theorem nblk_w (k b : Nat) (S : Store) (bk : Bk) (hb : BkS bk) (Q : D → Store → Prop) (hQ : Q (.b (.lst ((nblk bk).map B.int))) S) : Wc T (k + 3) b 76 [.b (bkB bk)] S Q := by
  refine wc_of (fd := f_p_numbers_numbers_of_block) rfl rfl ?_
  unfold f_p_numbers_numbers_of_block
  simp only [start, List.map_cons, List.map_nil, List.length_cons, List.length_nil, if_true]
  have l1 := nmem_len hb.ms
  have l2 := nmem_len hb.fs
  have l3 := nvot_len hb.vs
  have l7 : bk.h.ns.length = 7 := rfl
  have m1 := hb.ms
  have m2 := hb.fs
  refine ws_open fun r' hr' => ?_
  rw [wx_set, we_bin, we_call, wes_cons, we_att, we_v rfl, gB37, wo_some, wes_nil]
  refine nmem_w (k + 1) _ _ bk.ms (by omega) _ ?_
  rw [we_call, wes_cons, we_att, we_v rfl, gB38, wo_some, wes_nil]
  refine nmem_w (k + 1) _ _ bk.fs (by omega) _ ?_
  rw [bin_lls (by omega), wo_some]
  simp only [nx_nx, List.set]
  subst hr'
  refine ws_open fun r' hr' => ?_
  rw [wx_ret, we_bin, we_bin, we_bi, wes_cons, we_meth, we_att, we_v rfl, gB39, wo_some]
  show Wo' (some 6) _
  rw [wo_some]
  show Wo' (some 69) _
  rw [wo_some, wes_nil]
  refine fields_w (k + 1) _ _ bk.h _ ?_
  rw [wes_nil, list_tupV, newL_f, if_pos (by rw [List.length_map, l7]; unfold SZ; omega), wo_some, we_v rfl, bin_lls (by rw [List.length_append]; omega), wo_some, we_call, wes_cons, we_att, we_v rfl, gB40, wo_some, wes_nil]
  refine nvot_w k _ _ bk.vs hb.vs _ ?_
  rw [bin_lls (by rw [List.length_append, List.length_append]; omega), wo_some, nx_rt, ret_b, List.take_length]
  exact hQ
end G
namespace G
open M
/-! ### the reader -/
def nuO (xs : List Int) (a : Nat) : O := .ins 8 [(42, .b (.lst (xs.map B.int))), (12, .b (.int (a : Int)))]
structure Nu (S : Store) (r : Nat) (xs : List Int) (a : Nat) : Prop where
  ir : S[r]? = some (nuO xs a)
def nuS (S : Store) (r : Nat) (xs : List Int) (a : Nat) : Store := S.set r (nuO xs a)
theorem Nu.step {S : Store} {r : Nat} {xs : List Int} {a : Nat} (h : Nu S r xs a) (a' : Nat) : Nu (nuS S r xs a') r xs a' :=
  ⟨set_at h.ir⟩
theorem nuS_nuS (S : Store) (r : Nat) (xs : List Int) (a a' : Nat) : nuS (nuS S r xs a) r xs a' = nuS S r xs a' := List.set_set ..
theorem Nu.lt {S : Store} {r : Nat} {xs : List Int} {a : Nat} (h : Nu S r xs a) : r < S.length := (List.getElem?_eq_some_iff.mp h.ir).1
theorem Nu.app {S : Store} {r : Nat} {xs : List Int} {a : Nat} (h : Nu S r xs a) (J : Store) : Nu (S ++ J) r xs a :=
  ⟨by rw [List.getElem?_append_left h.lt]; exact h.ir⟩
theorem Nu.sapp {S : Store} {r : Nat} {xs : List Int} {a : Nat} (h : Nu S r xs a) (J : Store) (a' : Nat) : nuS (S ++ J) r xs a' = nuS S r xs a' ++ J := List.set_append_left _ _ h.lt
theorem Nu.self {S : Store} {r : Nat} {xs : List Int} {a : Nat} (h : Nu S r xs a) : nuS S r xs a = S := set_same h.ir
theorem nuS_len (S : Store) (r : Nat) (xs : List Int) (a : Nat) : (nuS S r xs a).length = S.length := List.length_set
theorem take_nu (S : Store) (r : Nat) (xs : List Int) (a : Nat) (m : Nat) (hm : m = S.length) : (nuS S r xs a).take m = nuS S r xs a := by
  subst hm
  rw [List.take_of_length_le (by rw [nuS_len]; exact Nat.le_refl _)]
section
variable {S : Store} {r a : Nat} {xs : List Int} (h : Nu S r xs a)
theorem nu_g42 (h : Nu S r xs a) (k b : Nat) : getf (par T k b).fo S (.ref r) 42 = some (.b (.lst (xs.map B.int))) := getf_ref h.ir rfl rfl
theorem nu_g12 (h : Nu S r xs a) (k b : Nat) : getf (par T k b).fo S (.ref r) 12 = some (.b (.int (a : Int))) := getf_ref h.ir rfl rfl
theorem nu_c (h : Nu S r xs a) (m : Nat) (hm : m = 43 ∨ m = 30 ∨ m = 44 ∨ m = 45 ∨ m = 46 ∨ m = 37 ∨ m = 40 ∨ m = 47 ∨ m = 48) : clsOf S m (.ref r) = some 8 := by
  rcases hm with rfl | rfl | rfl | rfl | rfl | rfl | rfl | rfl | rfl <;> exact clsOf_ref h.ir rfl
theorem nu_set (h : Nu S r xs a) (k b : Nat) (i : Int) (a' : Nat) (hi : i = (a' : Int)) : setf (par T k b).fo (par T k b).base S (.ref r) 12 (.b (.int i)) = some (nuS S r xs a') := by
  subst hi
  unfold setf
  dsimp only
  rw [h.ir]
  rfl
end
theorem left_w (k b : Nat) (S : Store) (r a : Nat) (xs : List Int) (h : Nu S r xs a) (Q : D → Store → Prop) (hQ : Q (.b (.int ((xs.length : Int) - (a : Int)))) S) : Wc T (k + 1) b 78 [.ref r] S Q := by
  refine wc_of (fd := f_p_numbers_Numbers_left) rfl rfl ?_
  unfold f_p_numbers_Numbers_left
  simp only [start, List.map_cons, List.map_nil, List.length_cons, List.length_nil, if_true]
  refine ws_open fun r' hr' => ?_
  rw [wx_ret, we_bin, we_bi, wes_cons, we_att, we_v rfl, nu_g42 h, wo_some, wes_nil, bi_len_lst, wo_some, List.length_map, we_att, we_v rfl, nu_g12 h, wo_some, wo_bin, wo_sub, nx_rt, ret_b, List.take_length]
  exact hQ
theorem drop_len {xs ys zs : List Int} {a : Nat} (he : xs.drop a = ys ++ zs) (ha : a ≤ xs.length) : xs.length = a + ys.length + zs.length := by
  have := congrArg List.length he
  rw [List.length_drop, List.length_append] at this
  omega
theorem drop_more {xs ys zs : List Int} {a : Nat} (he : xs.drop a = ys ++ zs) : xs.drop (a + ys.length) = zs := by
  rw [← List.drop_drop, he, List.drop_left]
theorem slc_mid {S : Store} {xs : List B} (a b : Nat) : slc S (.b (.lst xs)) (.b (.int (a : Int))) (.b (.int (b : Int))) = some (.b (.lst ((xs.take b).drop a))) := by
  show some (D.b (.lst (cut xs (some (a : Int)) (some (b : Int))))) = _
  rw [cut_mid]
theorem some_w (k b : Nat) (S : Store) (r a : Nat) (xs ys zs : List Int) (c : Int) (h : Nu S r xs a) (ha : a ≤ xs.length) (he : xs.drop a = ys ++ zs) (hc : c = (ys.length : Int)) (Q : D → Store → Prop) (hQ : Q (.b (.tup (ys.map B.int))) (nuS S r xs (a + ys.length))) : Wc T (k + 2) b 79 [.ref r, .b (.int c)] S Q := by
  subst hc
  refine wc_of (fd := f_p_numbers_Numbers_some) rfl rfl ?_
  unfold f_p_numbers_Numbers_some
  simp only [start, List.map_cons, List.map_nil, List.length_cons, List.length_nil, if_true]
  have hl := drop_len he ha
  refine ws_open fun r' hr' => ?_
  rw [wx_iff, we_cmp, we_v rfl, we_meth, we_v rfl, nu_c h 43 (by simp), wo_some]
  show Wo' (some 78) _
  rw [wo_some, wes_nil]
  refine left_w k _ _ r a xs h _ ?_
  show Wo' (some (decide ((xs.length : Int) - (a : Int) < (ys.length : Int)))) _
  rw [wo_some, tbl, wo_some, decide_eq_false (by omega), if_neg Bool.false_ne_true, ws_nil, nx_nx]
  subst hr'
  refine ws_open fun r' hr' => ?_
  refine wx_augf (x := .ref r) (a := (a : Int)) (c := (ys.length : Int)) (v := (a : Int) + (ys.length : Int)) (S2 := nuS S r xs (a + ys.length)) rfl (nu_g12 h _ _) rfl rfl (nu_set h _ _ _ _ (by omega)) ?_
  rw [nx_nx]
  subst hr'
  have h2 := h.step (a + ys.length)
  refine ws_open fun r' hr' => ?_
  rw [wx_ret, we_bi, wes_cons, we_slc, we_att, we_v rfl, nu_g42 h2, wo_some, we_bin, we_att, we_v rfl, nu_g12 h2, wo_some, we_v rfl, wo_bin, wo_sub, we_att, we_v rfl, nu_g12 h2, wo_some]
  rw [show ((a + ys.length : Nat) : Int) - (ys.length : Int) = ((a : Nat) : Int) by omega, slc_mid, wo_some, wes_nil, tup_lstV, wo_some, nx_rt, ret_b, take_nu _ _ _ _ _ rfl]
  have e : ((xs.map B.int).take (a + ys.length)).drop a = ys.map B.int := by
    rw [← List.map_take, ← List.map_drop, List.drop_take, he, Nat.add_sub_cancel_left, List.take_left]
  rw [e]
  exact hQ
theorem one_w (k b : Nat) (S : Store) (r a : Nat) (xs zs : List Int) (y : Int) (h : Nu S r xs a) (ha : a ≤ xs.length) (he : xs.drop a = y :: zs) (Q : D → Store → Prop) (hQ : Q (.b (.int y)) (nuS S r xs (a + 1))) : Wc T (k + 3) b 80 [.ref r] S Q := by
  refine wc_of (fd := f_p_numbers_Numbers_one) rfl rfl ?_
  unfold f_p_numbers_Numbers_one
  simp only [start, List.map_cons, List.map_nil, List.length_cons, List.length_nil, if_true]
  refine ws_open fun r' hr' => ?_
  rw [wx_ret, we_idx, we_meth, we_v rfl, nu_c h 30 (by simp), wo_some]
  show Wo' (some 79) _
  rw [wo_some, wes_cons, we_k, wes_nil]
  refine some_w k _ _ r a xs [y] zs 1 h ha he rfl _ ?_
  rw [we_k]
  show Wo' (some (D.b (.int y))) _
  rw [wo_some, nx_rt, ret_b, take_nu _ _ _ _ _ rfl]
  exact hQ
theorem count_w (k b : Nat) (S : Store) (r a : Nat) (xs zs : List Int) (m c : Nat) (ci : Int) (hci : ci = (c : Int)) (h : Nu S r xs a) (ha : a ≤ xs.length) (he : xs.drop a = (m : Int) :: zs) (hz : m * c ≤ zs.length) (hc : c ≤ 1000) (Q : D → Store → Prop) (hQ : Q (.b (.int (m : Int))) (nuS S r xs (a + 1))) : Wc T (k + 4) b 81 [.ref r, .b (.int ci)] S Q := by
  subst hci
  refine wc_of (fd := f_p_numbers_Numbers_count) rfl rfl ?_
  unfold f_p_numbers_Numbers_count
  simp only [start, List.map_cons, List.map_nil, List.length_cons, List.length_nil, if_true]
  have hl := drop_len (ys := [(m : Int)]) he ha
  rw [List.length_singleton] at hl
  refine ws_open fun r' hr' => ?_
  rw [wx_set, we_meth, we_v rfl, nu_c h 44 (by simp), wo_some]
  show Wo' (some 80) _
  rw [wo_some, wes_nil]
  refine one_w k _ _ r a xs zs m h ha he _ ?_
  simp only [nx_nx, List.set]
  subst hr'
  have h2 := h.step (a + 1)
  have hmc : ((m : Int)) * (c : Int) = ((m * c : Nat) : Int) := by push_cast; rfl
  refine ws_open fun r' hr' => ?_
  rw [wx_iff, we_or, we_cmp, we_v rfl, we_k]
  show Wo' (some (decide ((m : Int) < 0))) _
  rw [wo_some, tbl, wo_some, decide_eq_false (by omega), if_neg Bool.false_ne_true, we_cmp, we_bin, we_v rfl, we_v rfl, wo_bin, wo_mul]
  refine ⟨mulOk_r (by omega) (by omega), ?_⟩
  rw [we_meth, we_v rfl, nu_c h2 43 (by simp), wo_some]
  show Wo' (some 78) _
  rw [wo_some, wes_nil]
  refine left_w (k + 2) _ _ r _ xs h2 _ ?_
  show Wo' (some (decide ((xs.length : Int) - ((a + 1 : Nat) : Int) < (m : Int) * (c : Int)))) _
  rw [wo_some, tbl, wo_some, decide_eq_false (by rw [hmc]; omega), if_neg Bool.false_ne_true, ws_nil, nx_nx]
  subst hr'
  refine ws_open fun r' hr' => ?_
  rw [wx_ret, we_v rfl, nx_rt, ret_b, take_nu _ _ _ _ _ rfl]
  exact hQ
theorem row_w (k b : Nat) (S : Store) (r a : Nat) (xs ys zs : List Int) (h : Nu S r xs a) (ha : a ≤ xs.length) (he : xs.drop a = nrow ys ++ zs) (Q : D → Store → Prop) (hQ : Q (.b (.tup (ys.map B.int))) (nuS S r xs (a + (nrow ys).length))) : Wc T (k + 5) b 82 [.ref r] S Q := by
  refine wc_of (fd := f_p_numbers_Numbers_row) rfl rfl ?_
  unfold f_p_numbers_Numbers_row
  simp only [start, List.map_cons, List.map_nil, List.length_cons, List.length_nil, if_true]
  have hl := drop_len he ha
  have he1 : xs.drop a = (ys.length : Int) :: (ys ++ zs) := he
  have e2 : (nrow ys).length = ys.length + 1 := rfl
  refine ws_open fun r' hr' => ?_
  rw [wx_ret, we_meth, we_v rfl, nu_c h 30 (by simp), wo_some]
  show Wo' (some 79) _
  rw [wo_some, wes_cons, we_meth, we_v rfl, nu_c h 45 (by simp), wo_some]
  show Wo' (some 81) _
  rw [wo_some, wes_cons, we_k, wes_nil]
  refine count_w k _ _ r a xs (ys ++ zs) ys.length 1 1 rfl h ha he1 (by rw [List.length_append]; omega) (by decide) _ ?_
  rw [wes_nil]
  have h2 := h.step (a + 1)
  refine some_w (k + 2) _ _ r (a + 1) xs ys zs _ h2 (by omega) (drop_more (ys := [(ys.length : Int)]) he1) rfl _ ?_
  rw [nuS_nuS, nx_rt, ret_b, take_nu _ _ _ _ _ rfl, show a + 1 + ys.length = a + (nrow ys).length by rw [e2]; omega]
  exact hQ
theorem rmem_w (k b : Nat) (S : Store) (r a : Nat) (xs zs : List Int) (ms : Mb) (hm : ms.length ≤ 1000) (h : Nu S r xs a) (ha : a ≤ xs.length) (he : xs.drop a = nmem ms ++ zs) (Q : D → Store → Prop) (hQ : Q (.b (mbT ms)) (nuS S r xs (a + (nmem ms).length))) : Wc T (k + 5) b 83 [.ref r] S Q := by
  refine wc_of (fd := f_p_numbers_Numbers_members) rfl rfl ?_
  unfold f_p_numbers_Numbers_members
  simp only [start, List.map_cons, List.map_nil, List.length_cons, List.length_nil, if_true]
  have hl := drop_len he ha
  have he1 : xs.drop a = (ms.length : Int) :: ((ms.flatMap fun p => [p.1, p.2]) ++ zs) := he
  have e2 : (nmem ms).length = 2 * ms.length + 1 := by
    unfold nmem
    rw [List.length_cons, flat2_len]
  have h2 := h.step (a + 1)
  refine ws_open fun r' hr' => ?_
  rw [wx_ret, we_bi, wes_cons]
  refine we_lcN2 (S' := nuS S r xs (a + 1)) (ds := [.int (ms.length : Int)]) (xs := rngB 0 ms.length) (fun Q q => ?_) (items_r1 (by omega)) (by rw [rngB_len]; unfold SZ; omega) (fun j ys S1 => S1 = nuS S r xs (a + 1 + 2 * j) ∧ ys = (ms.take j).map mbB) ⟨rfl, rfl⟩ ?_ ?_
  · simp only [wes_cons, wes_nil]
    rw [we_meth, we_v rfl, nu_c h 45 (by simp), wo_some]
    show Wo' (some 81) _
    rw [wo_some, wes_cons, we_k, wes_nil]
    exact count_w k _ _ r a xs _ ms.length 2 2 rfl h ha he1 (by rw [List.length_append, flat2_len]; omega) (by decide) _ q
  · rintro j z ys S1 hz ⟨rfl, rfl⟩
    obtain ⟨hj, rfl⟩ := rngB_at hz
    show Wo' (some _) _
    rw [wo_some, we_k, tbl, wo_some, if_pos rfl]
    simp only [wipe, List.set]
    have h3 := h.step (a + 1 + 2 * j)
    rw [we_meth, we_v rfl, nu_c h3 30 (by simp), wo_some]
    show Wo' (some 79) _
    rw [wo_some, wes_cons, we_k, wes_nil]
    have hd : xs.drop (a + 1 + 2 * j) = [ms[j].1, ms[j].2] ++ (((ms.drop (j + 1)).flatMap fun p => [p.1, p.2]) ++ zs) := by
      have d1 : xs.drop (a + 1) = (ms.flatMap fun p => [p.1, p.2]) ++ zs := drop_more (ys := [(ms.length : Int)]) he1
      rw [← List.drop_drop, d1]
      have e3 : (ms.flatMap fun p => [p.1, p.2]) = ((ms.take j).flatMap fun p => [p.1, p.2]) ++ ([ms[j].1, ms[j].2] ++ ((ms.drop (j + 1)).flatMap fun p => [p.1, p.2])) := by
        conv => lhs; rw [← List.take_append_drop j ms, List.drop_eq_getElem_cons hj, List.flatMap_append, List.flatMap_cons]
      rw [e3, List.append_assoc, List.drop_append_of_le_length (by rw [flat2_len, List.length_take]; omega), List.drop_of_length_le (by rw [flat2_len, List.length_take]; omega), List.nil_append, List.append_assoc]
    refine some_w (k + 2) _ _ r _ xs [ms[j].1, ms[j].2] _ 2 h3 (by omega) hd rfl _ ?_
    rw [nuS_nuS]
    refine ⟨_, rfl, rfl, ?_⟩
    rw [List.take_add_one, List.getElem?_eq_getElem hj, List.map_append]
    rfl
  · rintro ys S1 ⟨rfl, rfl⟩
    rw [rngB_len, List.take_length, newL_f, if_pos (by rw [List.length_map]; unfold SZ; omega), wo_some, wes_nil, tup_lstV, wo_some, nx_rt, ret_b, take_nu _ _ _ _ _ rfl, show a + 1 + 2 * ms.length = a + (nmem ms).length by rw [e2]; omega]
    exact hQ
theorem rvot_w (k b : Nat) (S : Store) (r a : Nat) (xs zs : List Int) (vs : Vt) (hv : VsS vs) (h : Nu S r xs a) (ha : a ≤ xs.length) (he : xs.drop a = nvot vs ++ zs) (Q : D → Store → Prop) (hQ : Q (.b (vtT vs)) (nuS S r xs (a + (nvot vs).length))) : Wc T (k + 6) b 84 [.ref r] S Q := by
  refine wc_of (fd := f_p_numbers_Numbers_votes) rfl rfl ?_
  unfold f_p_numbers_Numbers_votes
  simp only [start, List.map_cons, List.map_nil, List.length_cons, List.length_nil, if_true]
  have hl := drop_len he ha
  have hvl := hv.l
  obtain ⟨fl, hfl⟩ : ∃ fl : Vt → List Int, fl = fun vs => vs.flatMap fun v => v.1 :: nrow v.2 := ⟨_, rfl⟩
  have fl_app : ∀ us vs, fl (us ++ vs) = fl us ++ fl vs := fun us vs => by rw [hfl]; exact List.flatMap_append
  have fl_cons : ∀ v vs, fl (v :: vs) = (v.1 :: nrow v.2) ++ fl vs := fun v vs => by rw [hfl]; exact List.flatMap_cons
  have he1 : xs.drop a = (vs.length : Int) :: (fl vs ++ zs) := by rw [hfl]; exact he
  have e2 : (nvot vs).length = (fl vs).length + 1 := by rw [hfl]; rfl
  have fl2 : ∀ vs : Vt, 2 * vs.length ≤ (fl vs).length := fun vs => by
    induction vs with
    | nil => simp
    | cons v vs ih =>
      rw [fl_cons, List.length_append, List.length_cons, List.length_cons]
      have : (nrow v.2).length = v.2.length + 1 := rfl
      omega
  refine ws_open fun r' hr' => ?_
  rw [wx_set, we_lst, wes_nil]
  show Wo' (some ([] : List B)) _
  rw [wo_some]
  show Wo' (some (D.ref S.length, S ++ [O.lst []])) _
  rw [wo_some]
  simp only [nx_nx, List.set]
  subst hr'
  have h1 := h.app [O.lst []]
  refine ws_open fun r' hr' => ?_
  refine wx_forN2 (k := .r1) (S' := nuS S r xs (a + 1) ++ [O.lst []]) (ds := [.int (vs.length : Int)]) (xs := rngB 0 vs.length) (fun Q q => ?_) (items_r1 (by omega)) (fun j σ1 S1 => S1 = nuS S r xs (a + 1 + (fl (vs.take j)).length) ++ [O.lst ((vs.take j).map vtB)] ∧ ∃ v2 v3, σ1 = [some (.ref r), some (.ref S.length), v2, v3]) ?_ ?_ ?_
  · simp only [wes_cons, wes_nil]
    rw [we_meth, we_v rfl, nu_c h1 45 (by simp), wo_some]
    show Wo' (some 81) _
    rw [wo_some, wes_cons, we_k, wes_nil]
    refine count_w (k + 1) _ _ r a xs _ vs.length 2 2 rfl h1 ha he1 (by rw [List.length_append]; have := fl2 vs; omega) (by decide) _ ?_
    rw [h.sapp]
    exact q
  · refine ⟨?_, none, none, rfl⟩
    rw [List.take_zero, show fl [] = [] by rw [hfl]; rfl]
    rfl
  · rintro j z σ1 S1 hz ⟨rfl, v2, v3, rfl⟩
    obtain ⟨hj, rfl⟩ := rngB_at hz
    show Wo' (some ([some (.ref r), some (.ref S.length), some (.b (.int (0 + (j : Int)))), v3] : Sl)) _
    rw [wo_some]
    obtain ⟨at_, hat⟩ : ∃ at_, at_ = a + 1 + (fl (vs.take j)).length := ⟨_, rfl⟩
    obtain ⟨v, hvj⟩ : ∃ v, v = vs[j] := ⟨_, rfl⟩
    have hvm : v ∈ vs := hvj ▸ List.getElem_mem hj
    have hd : xs.drop at_ = v.1 :: (nrow v.2 ++ (fl (vs.drop (j + 1)) ++ zs)) := by
      have d1 : xs.drop (a + 1) = fl vs ++ zs := drop_more (ys := [(vs.length : Int)]) he1
      have e3 : fl vs = fl (vs.take j) ++ ((v.1 :: nrow v.2) ++ fl (vs.drop (j + 1))) := by
        conv => lhs; rw [← List.take_append_drop j vs, List.drop_eq_getElem_cons hj, fl_app, fl_cons, ← hvj]
      rw [hat, ← List.drop_drop, d1, e3, List.append_assoc, List.drop_left, List.append_assoc]
      rfl
    have hat2 : at_ + 1 + (nrow v.2).length ≤ xs.length := by
      have q := congrArg List.length hd
      rw [List.length_drop, List.length_cons, List.length_append] at q
      have : (nrow v.2).length = v.2.length + 1 := rfl
      omega
    rw [← hat]
    obtain ⟨J, hJ⟩ : ∃ J, J = [O.lst ((vs.take j).map vtB)] := ⟨_, rfl⟩
    rw [← hJ]
    have h3 := (h.step at_).app J
    refine ws_open fun q' hq' => ?_
    rw [wx_set, we_meth, we_v rfl, nu_c h3 44 (by simp), wo_some]
    show Wo' (some 80) _
    rw [wo_some, wes_nil]
    refine one_w (k + 2) _ _ r at_ xs _ v.1 h3 (by omega) hd _ ?_
    rw [(h.step at_).sapp, nuS_nuS]
    simp only [nx_nx, List.set]
    subst hq'
    have h4 := (h.step (at_ + 1)).app J
    refine ws_open fun q' hq' => ?_
    rw [wx_ex, we_mt, we_v rfl, wes_cons, we_tup, wes_cons, we_v rfl, wes_cons, we_meth, we_v rfl, nu_c h4 46 (by simp), wo_some]
    show Wo' (some 82) _
    rw [wo_some, wes_nil]
    refine row_w k _ _ r (at_ + 1) xs v.2 _ h4 (by omega) (drop_more (ys := [v.1]) hd) _ ?_
    rw [(h.step (at_ + 1)).sapp, nuS_nuS, wes_nil]
    refine ⟨by simp, ?_⟩
    rw [wes_nil, hJ]
    have hlen : (nuS S r xs (at_ + 1 + (nrow v.2).length)).length = S.length := nuS_len ..
    have hS : (nuS S r xs (at_ + 1 + (nrow v.2).length) ++ [O.lst ((vs.take j).map vtB)])[S.length]? = some (.lst ((vs.take j).map vtB)) := at_len hlen
    have hS0 : (nuS S r xs (at_ + 1) ++ [O.lst ((vs.take j).map vtB)])[S.length]? = some (.lst ((vs.take j).map vtB)) := at_len (nuS_len ..)
    refine ⟨?_, ?_⟩
    · unfold kd
      dsimp only
      rw [hS, hS0]
    rw [mk2, mt_app hS (by rw [List.length_map]; have := List.length_take_le' j vs; unfold SZ; omega), wo_some, nx_nx]
    subst hq'
    rw [ws_nil, set_len hlen]
    refine ⟨?_, _, _, rfl⟩
    rw [List.take_add_one, List.getElem?_eq_getElem hj, List.map_append, fl_app, ← hvj, show fl (some v).toList = (v.1 :: nrow v.2) by rw [show (some v).toList = [v] from rfl, fl_cons, show fl [] = [] by rw [hfl]; rfl, List.append_nil], show a + 1 + (fl (List.take j vs) ++ v.fst :: nrow v.snd).length = at_ + 1 + (nrow v.2).length by rw [List.length_append, List.length_cons]; omega]
    rfl
  rintro σ1 S1 ⟨rfl, v2, v3, rfl⟩
  rw [nx_nx]
  subst hr'
  rw [rngB_len, List.take_length]
  refine ws_open fun r' hr' => ?_
  rw [wx_ret, we_bi, wes_cons, we_v rfl, wes_nil, tup_refV (at_len (nuS_len ..)), wo_some, nx_rt, ret_b, List.take_append_of_le_length (by rw [nuS_len]; exact Nat.le_refl _), take_nu _ _ _ _ _ rfl, show a + 1 + (fl vs).length = a + (nvot vs).length by rw [e2]; omega]
  exact hQ
theorem close_w (k b : Nat) (S : Store) (r a : Nat) (xs : List Int) (h : Nu S r xs a) (ha : a = xs.length) (Q : D → Store → Prop) (hQ : Q (.b .non) S) : Wc T (k + 2) b 86 [.ref r] S Q := by
  refine wc_of (fd := f_p_numbers_Numbers_close) rfl rfl ?_
  unfold f_p_numbers_Numbers_close
  simp only [start, List.map_cons, List.map_nil, List.length_cons, List.length_nil, if_true]
  refine ws_open fun r' hr' => ?_
  rw [wx_iff, we_cmp, we_meth, we_v rfl, nu_c h 43 (by simp), wo_some]
  show Wo' (some 78) _
  rw [wo_some, wes_nil]
  refine left_w k _ _ r a xs h _ ?_
  rw [we_k]
  show Wo' (some (decide ((0 : Int) < (xs.length : Int) - (a : Int)))) _
  rw [wo_some, tbl, wo_some, decide_eq_false (by omega), if_neg Bool.false_ne_true, ws_nil, nx_nx]
  subst hr'
  rw [ws_nil, ret_nx, List.take_length]
  exact hQ
end G
namespace G
open M
theorem lc_run {P : Par} {m : Bool} {g : Pt} {k : Ik} {t e : E} {w : List Nat} {σ : Sl} {S1 : Store} {Z : D × Store → Prop} {xs : List B} {ds : List B} {dd : List D} (hd : dd = ds.map D.b) (hit : items S1 k (ds.map D.b) = some xs) (hz : xs.length ≤ SZ)
    (I : Nat → List B → Store → Prop) (h0 : I 0 [] S1) (turn : ∀ j x ys S1, xs[j]? = some x → I j ys S1 → Wo' (asg g x (wipe σ w)) fun σ2 => We P t σ2 S1 fun c S2 => Wo' (truth S2 c) fun c => if c then We P e σ2 S2 fun d S3 => ∃ y, d = .b y ∧ I (j + 1) (ys ++ [y]) S3 else I (j + 1) ys S2)
    (last : ∀ ys S1, I xs.length ys S1 → Wo' (newL S1 m ys) Z) : Wo' (items S1 k dd) fun xs => xs.length ≤ SZ ∧ Wo' (lcL (lcF P t e) g xs (wipe σ w) (lockAll S1 dd)) fun q => Wo' (unlockAll S1 q.2 dd) fun S3 => Wo' (newL S3 m q.1) Z := by
  have h := we_lcN2 (P := P) (m := m) (g := g) (k := k) (es := ds.map E.k) (t := t) (e := e) (w := w) (σ := σ) (S := S1) (S' := S1) (Q := fun x y => Z (x, y)) (ds := ds) (fun Q q => by
    have : ∀ (ds : List B) (Q : List D → Store → Prop), Q (ds.map D.b) S1 → Wes P (ds.map E.k) σ S1 Q := by
      intro ds
      induction ds with
      | nil => intro Q q; simpa using q
      | cons d ds ih =>
        intro Q q
        rw [List.map_cons, wes_cons, we_k]
        exact ih _ q
    exact this ds Q q) hit hz I h0 turn last
  rw [we_lc] at h
  subst hd
  rw [wes_def] at h
  obtain ⟨p, hp, q⟩ := h
  have e1 : evs P (ds.map E.k) σ S1 = some (ds.map D.b, S1) := by
    clear hp q last turn h0 hit hz
    induction ds with
    | nil => rfl
    | cons d ds ih =>
      rw [List.map_cons, evs_cons, ev_k, bind_some']
      dsimp only
      rw [ih]
      rfl
  rw [e1] at hp
  cases hp
  exact q
theorem for_run {P : Par} {g : Pt} {k : Ik} {b : List St} {σ : Sl} {S1 : Store} {R : Fl → Sl → Store → Prop} {xs : List B} {ds : List B} {dd : List D} (hd : dd = ds.map D.b) (hit : items S1 k (ds.map D.b) = some xs)
    (I : Nat → Sl → Store → Prop) (h0 : I 0 σ S1) (turn : ∀ j x σ1 S1, xs[j]? = some x → I j σ1 S1 → Wo' (asg g x σ1) fun σ2 => Ws P b σ2 S1 fun f σ3 S3 => match f with
      | .rt d => R (.rt d) σ3 S3
      | _ => I (j + 1) σ3 S3) (last : ∀ σ1 S1, I xs.length σ1 S1 → R .nx σ1 S1) : Wo' (items S1 k dd) fun xs => Wo' (forL (fun σ2 S2 => execs P b σ2 S2) g xs σ (lockAll S1 dd)) fun r => Wo' (unlockAll S1 r.2.2 dd) fun S3 => R r.1 r.2.1 S3 := by
  have h := wx_forN2 (P := P) (g := g) (k := k) (es := ds.map E.k) (b := b) (σ := σ) (S := S1) (S' := S1) (R := R) (ds := ds) (fun Q q => by
    have : ∀ (ds : List B) (Q : List D → Store → Prop), Q (ds.map D.b) S1 → Wes P (ds.map E.k) σ S1 Q := by
      intro ds
      induction ds with
      | nil => intro Q q; simpa using q
      | cons d ds ih =>
        intro Q q
        rw [List.map_cons, wes_cons, we_k]
        exact ih _ q
    exact this ds Q q) hit I h0 turn last
  rw [wx_for] at h
  subst hd
  rw [wes_def] at h
  obtain ⟨p, hp, q⟩ := h
  have e1 : evs P (ds.map E.k) σ S1 = some (ds.map D.b, S1) := by
    clear hp q last turn h0 hit
    induction ds with
    | nil => rfl
    | cons d ds ih =>
      rw [List.map_cons, evs_cons, ev_k, bind_some']
      dsimp only
      rw [ih]
      rfl
  rw [e1] at hp
  cases hp
  exact q
theorem make_blockP {k b : Nat} {σ : Sl} {S : Store} {es : List E} (P : Bk → Store → Prop) {Q : D → Store → Prop} (hes : ∀ R : List D → Store → Prop, (∀ bk S', P bk S' → R [.b (hedB bk.h), .b (mbT bk.ms), .b (mbT bk.fs), .b (vtT bk.vs)] S') → Wes (par T (k + 2) b) es σ S R) (hQ : ∀ bk S', P bk S' → Q (.b (bkB bk)) S') : We (par T (k + 2) b) (.make 7 es) σ S Q := by
  rw [we_make (f := 71) (fz := true) rfl]
  refine hes _ fun bk S' hp => ?_
  rw [if_pos rfl]
  exact block_init_w k S' bk _ _ _ (.inr rfl) (.inr rfl) (.inr rfl) Q (hQ bk S' hp)
theorem rblk_w (k b : Nat) (S : Store) (r a : Nat) (xs zs : List Int) (bk : Bk) (hb : BkS bk) (h : Nu S r xs a) (ha : a ≤ xs.length) (he : xs.drop a = nblk bk ++ zs) (Q : D → Store → Prop) (hQ : Q (.b (bkB bk)) (nuS S r xs (a + (nblk bk).length))) : Wc T (k + 7) b 85 [.ref r] S Q := by
  refine wc_of (fd := f_p_numbers_Numbers_block) rfl rfl ?_
  unfold f_p_numbers_Numbers_block
  simp only [start, List.map_cons, List.map_nil, List.length_cons, List.length_nil, if_true]
  have hl := drop_len he ha
  have e0 : nblk bk ++ zs = bk.h.ns ++ (nmem bk.ms ++ (nmem bk.fs ++ (nvot bk.vs ++ zs))) := by
    unfold nblk
    simp only [List.append_assoc]
  have el : (nblk bk).length = 7 + (nmem bk.ms).length + (nmem bk.fs).length + (nvot bk.vs).length := by
    unfold nblk
    rw [List.length_append, List.length_append, List.length_append, show bk.h.ns.length = 7 from rfl]
    omega
  rw [e0] at he
  refine ws_open fun r' hr' => ?_
  rw [wx_set, we_meth, we_v rfl, nu_c h 30 (by simp), wo_some]
  show Wo' (some 79) _
  rw [wo_some, wes_cons, we_k, wes_nil]
  refine some_w (k + 4) _ _ r a xs bk.h.ns _ 7 h ha he rfl _ ?_
  rw [show bk.h.ns.length = 7 from rfl]
  simp only [nx_nx, List.set]
  subst hr'
  have he2 : xs.drop (a + 7) = nmem bk.ms ++ (nmem bk.fs ++ (nvot bk.vs ++ zs)) := drop_more (ys := bk.h.ns) he
  have h2 := h.step (a + 7)
  have ix : ∀ (S : Store) (i : Nat) (v : Int), bk.h.ns[i]? = some v → idx S (.b (.tup (bk.h.ns.map B.int))) (.b (.int (i : Int))) = some (.b (.int v)) := fun S i v h => by
    rw [idx_tup, atI_get (j := i) rfl (by rw [List.getElem?_map, h]; rfl)]
    rfl
  refine ws_open fun r' hr' => ?_
  rw [wx_set]
  refine make_header (k := k + 4) (h := bk.h) (fun R hR => ?_) ?_
  · rw [wes_cons, we_idx, we_v rfl, we_k]
    try dsimp only
    rw [show idx _ (.b (.tup (bk.h.ns.map B.int))) (.b (.int 0)) = _ from ix _ 0 _ rfl, wo_some]
    rw [wes_cons, we_idx, we_v rfl, we_k]
    try dsimp only
    rw [show idx _ (.b (.tup (bk.h.ns.map B.int))) (.b (.int 1)) = _ from ix _ 1 _ rfl, wo_some]
    rw [wes_cons, we_idx, we_v rfl, we_k]
    try dsimp only
    rw [show idx _ (.b (.tup (bk.h.ns.map B.int))) (.b (.int 2)) = _ from ix _ 2 _ rfl, wo_some]
    rw [wes_cons, we_idx, we_v rfl, we_k]
    try dsimp only
    rw [show idx _ (.b (.tup (bk.h.ns.map B.int))) (.b (.int 3)) = _ from ix _ 3 _ rfl, wo_some]
    rw [wes_cons, we_idx, we_v rfl, we_k]
    try dsimp only
    rw [show idx _ (.b (.tup (bk.h.ns.map B.int))) (.b (.int 4)) = _ from ix _ 4 _ rfl, wo_some]
    rw [wes_cons, we_idx, we_v rfl, we_k]
    try dsimp only
    rw [show idx _ (.b (.tup (bk.h.ns.map B.int))) (.b (.int 5)) = _ from ix _ 5 _ rfl, wo_some]
    rw [wes_cons, we_idx, we_v rfl, we_k]
    try dsimp only
    rw [show idx _ (.b (.tup (bk.h.ns.map B.int))) (.b (.int 6)) = _ from ix _ 6 _ rfl, wo_some, wes_nil]
    exact hR
  simp only [nx_nx, List.set]
  subst hr'
  refine ws_open fun r' hr' => ?_
  rw [wx_set, we_meth, we_v rfl, nu_c h2 37 (by simp), wo_some]
  show Wo' (some 83) _
  rw [wo_some, wes_nil]
  refine rmem_w (k + 1) _ _ r _ xs _ bk.ms (by have := hb.ms; omega) h2 (by omega) he2 _ ?_
  rw [nuS_nuS]
  simp only [nx_nx, List.set]
  subst hr'
  have he3 := drop_more he2
  have h3 := h.step (a + 7 + (nmem bk.ms).length)
  refine ws_open fun r' hr' => ?_
  rw [wx_set, we_meth, we_v rfl, nu_c h3 37 (by simp), wo_some]
  show Wo' (some 83) _
  rw [wo_some, wes_nil]
  refine rmem_w (k + 1) _ _ r _ xs _ bk.fs (by have := hb.fs; omega) h3 (by omega) he3 _ ?_
  rw [nuS_nuS]
  simp only [nx_nx, List.set]
  subst hr'
  have he4 := drop_more he3
  have h4 := h.step (a + 7 + (nmem bk.ms).length + (nmem bk.fs).length)
  refine ws_open fun r' hr' => ?_
  rw [wx_ret]
  refine make_blockP (k := k + 4) (fun b' S' => b' = bk ∧ S' = nuS S r xs (a + (nblk bk).length)) (fun R hR => ?_) ?_
  · rw [wes_cons, we_v rfl, wes_cons, we_v rfl, wes_cons, we_v rfl, wes_cons, we_meth, we_v rfl, nu_c h4 40 (by simp), wo_some]
    show Wo' (some 84) _
    rw [wo_some, wes_nil]
    refine rvot_w k _ _ r _ xs _ bk.vs hb.vs h4 (by omega) he4 _ ?_
    rw [nuS_nuS, wes_nil, show a + 7 + (nmem bk.ms).length + (nmem bk.fs).length + (nvot bk.vs).length = a + (nblk bk).length by rw [el]; omega]
    exact hR bk _ ⟨rfl, rfl⟩
  · rintro b' S' ⟨rfl, rfl⟩
    rw [nx_rt, ret_b, take_nu _ _ _ _ _ rfl]
    exact hQ
theorem nu_init_w (k b : Nat) (S : Store) (xs : List Int) (hz : xs.length ≤ SZ) (Q : D → Store → Prop) (hQ : Q (.ref S.length) (S ++ [nuO xs 0])) :
    Wc T (k + 1) b 77 [.ref S.length, .b (.lst (xs.map B.int))] (S ++ [.ins 8 []]) fun d S2 => isNon d = true ∧ Q (.ref S.length) S2 := by
  refine wc_of (fd := f_p_numbers_Numbers___init__) rfl rfl ?_
  unfold f_p_numbers_Numbers___init__
  simp only [start, List.map_cons, List.map_nil, List.length_cons, List.length_nil, Bool.false_eq_true, if_false]
  have s1 : ∀ bb, setf (par T k bb).fo (par T k bb).base (S ++ [.ins 8 []]) (.ref S.length) 42 (.b (.lst (xs.map B.int))) = some (S ++ [.ins 8 [(42, .b (.lst (xs.map B.int)))]]) := fun bb => by
    unfold setf
    dsimp only
    rw [last_at]
    show some ((S ++ [O.ins 8 []]).set S.length _) = _
    rw [last_set]
    rfl
  have s2 : ∀ bb, setf (par T k bb).fo (par T k bb).base (S ++ [.ins 8 [(42, .b (.lst (xs.map B.int)))]]) (.ref S.length) 12 (.b (.int 0)) = some (S ++ [nuO xs 0]) := fun bb => by
    unfold setf
    dsimp only
    rw [last_at]
    show some ((S ++ [O.ins 8 [(42, .b (.lst (xs.map B.int)))]]).set S.length _) = _
    rw [last_set]
    rfl
  refine ws_open fun r' hr' => ?_
  rw [wx_setf, we_bi, wes_cons, we_v rfl, wes_nil]
  rw [show bi (S ++ [O.ins 8 []]) .list false [.b (.lst (xs.map B.int))] = newL (S ++ [O.ins 8 []]) false (xs.map B.int) from rfl, newL_f, if_pos (by rw [List.length_map]; exact hz), wo_some, we_v rfl, s1, wo_some, nx_nx]
  subst hr'
  refine ws_open fun r' hr' => ?_
  rw [wx_setf, we_k, we_v rfl, s2, wo_some, nx_nx]
  subst hr'
  rw [ws_nil, ret_knx]
  exact ⟨rfl, hQ⟩
theorem make_nu {k b : Nat} {σ : Sl} {S : Store} {e : E} {xs : List Int} {Q : D → Store → Prop} (hz : xs.length ≤ SZ) (he : ∀ R : D → Store → Prop, R (.b (.lst (xs.map B.int))) S → We (par T (k + 2) b) e σ S R) (hQ : Q (.ref S.length) (S ++ [nuO xs 0])) : We (par T (k + 2) b) (.make 8 [e]) σ S Q := by
  rw [we_make (k := k + 1) (f := 77) (fz := false) rfl, wes_cons]
  refine he _ ?_
  rw [wes_nil, if_neg Bool.false_ne_true]
  exact nu_init_w k b S xs hz Q hQ
theorem nu_new (S : Store) (xs : List Int) : Nu (S ++ [nuO xs 0]) S.length xs 0 := ⟨last_at⟩
theorem nu_newS (S : Store) (xs : List Int) (a : Nat) : nuS (S ++ [nuO xs 0]) S.length xs a = S ++ [nuO xs a] := last_set
theorem block_of_w (k b : Nat) (S : Store) (bk : Bk) (hb : BkS bk) (Q : D → Store → Prop) (hQ : Q (.b (bkB bk)) S) : Wc T (k + 8) b 87 [.b (.lst ((nblk bk).map B.int))] S Q := by
  refine wc_of (fd := f_p_numbers_block_of) rfl rfl ?_
  unfold f_p_numbers_block_of
  simp only [start, List.map_cons, List.map_nil, List.length_cons, List.length_nil, if_true]
  have hn := nu_new S (nblk bk)
  refine ws_open fun r' hr' => ?_
  rw [wx_set]
  refine make_nu (k := k + 5) (xs := nblk bk) (by have := nblk_len hb; unfold SZ; omega) (fun R hR => by rw [we_v rfl]; exact hR) ?_
  simp only [nx_nx, List.set]
  subst hr'
  refine ws_open fun r' hr' => ?_
  rw [wx_set, we_meth, we_v rfl, nu_c hn 47 (by simp), wo_some]
  show Wo' (some 85) _
  rw [wo_some, wes_nil]
  refine rblk_w k _ _ S.length 0 (nblk bk) [] bk hb hn (Nat.zero_le _) (by rw [List.drop_zero, List.append_nil]) _ ?_
  rw [nu_newS]
  simp only [nx_nx, List.set]
  subst hr'
  have hn2 : Nu (S ++ [nuO (nblk bk) (0 + (nblk bk).length)]) S.length (nblk bk) (0 + (nblk bk).length) := ⟨last_at⟩
  refine ws_open fun r' hr' => ?_
  rw [wx_ex, we_meth, we_v rfl, nu_c hn2 48 (by simp), wo_some]
  show Wo' (some 86) _
  rw [wo_some, wes_nil]
  refine close_w (k + 5) _ _ S.length _ _ hn2 (by omega) _ ?_
  rw [nx_nx]
  subst hr'
  refine ws_open fun r' hr' => ?_
  rw [wx_ret, we_v rfl, nx_rt, ret_b, last_take]
  exact hQ
theorem row_of_w (k b : Nat) (S : Store) (ys : List Int) (hy : ys.length ≤ 1000) (Q : D → Store → Prop) (hQ : Q (.b (.tup (ys.map B.int))) S) : Wc T (k + 6) b 88 [.b (.lst ((nrow ys).map B.int))] S Q := by
  refine wc_of (fd := f_p_numbers_row_of) rfl rfl ?_
  unfold f_p_numbers_row_of
  simp only [start, List.map_cons, List.map_nil, List.length_cons, List.length_nil, if_true]
  have hn := nu_new S (nrow ys)
  have hl : (nrow ys).length = ys.length + 1 := rfl
  refine ws_open fun r' hr' => ?_
  rw [wx_set]
  refine make_nu (k := k + 3) (xs := nrow ys) (by unfold SZ; omega) (fun R hR => by rw [we_v rfl]; exact hR) ?_
  simp only [nx_nx, List.set]
  subst hr'
  refine ws_open fun r' hr' => ?_
  rw [wx_set, we_meth, we_v rfl, nu_c hn 46 (by simp), wo_some]
  show Wo' (some 82) _
  rw [wo_some, wes_nil]
  refine row_w k _ _ S.length 0 (nrow ys) ys [] hn (Nat.zero_le _) (by rw [List.drop_zero, List.append_nil]) _ ?_
  rw [nu_newS]
  simp only [nx_nx, List.set]
  subst hr'
  have hn2 : Nu (S ++ [nuO (nrow ys) (0 + (nrow ys).length)]) S.length (nrow ys) (0 + (nrow ys).length) := ⟨last_at⟩
  refine ws_open fun r' hr' => ?_
  rw [wx_ex, we_meth, we_v rfl, nu_c hn2 48 (by simp), wo_some]
  show Wo' (some 86) _
  rw [wo_some, wes_nil]
  refine close_w (k + 3) _ _ S.length _ _ hn2 (by omega) _ ?_
  rw [nx_nx]
  subst hr'
  refine ws_open fun r' hr' => ?_
  rw [wx_ret, we_v rfl, nx_rt, ret_b, last_take]
  exact hQ
end G
namespace G
open M
def dS (S : Store) (n : Nat) (i s : Int) : Store := S.set n (.lst [.int i, .int s])
structure Dr (S : Store) (n : Nat) : Prop where
  h : ∃ i s : Int, S[n]? = some (.lst [.int i, .int s]) ∧ 0 ≤ i
theorem Dr.st {S : Store} {n : Nat} (h : Dr S n) {i s : Int} (hi : 0 ≤ i) : Dr (dS S n i s) n := by
  obtain ⟨i', s', h1, _⟩ := h.h
  exact ⟨i, s, set_at h1, hi⟩
theorem Dr.app {S : Store} {n : Nat} (h : Dr S n) (J : Store) : Dr (S ++ J) n := by
  obtain ⟨i, s, h1, h2⟩ := h.h
  exact ⟨i, s, by rw [List.getElem?_append_left (List.getElem?_eq_some_iff.mp h1).1]; exact h1, h2⟩
theorem Dr.lt {S : Store} {n : Nat} (h : Dr S n) : n < S.length := by
  obtain ⟨i, s, h1, h2⟩ := h.h
  exact (List.getElem?_eq_some_iff.mp h1).1
theorem Dr.self {S : Store} {n : Nat} (h : Dr S n) : ∃ i s, 0 ≤ i ∧ S = dS S n i s := by
  obtain ⟨i, s, h1, h2⟩ := h.h
  exact ⟨i, s, h2, (set_same h1).symm⟩
theorem dS_dS (S : Store) (n : Nat) (i s i' s' : Int) : dS (dS S n i s) n i' s' = dS S n i' s' := List.set_set ..
theorem dS_len (S : Store) (n : Nat) (i s : Int) : (dS S n i s).length = S.length := List.length_set
theorem dS_app {S : Store} {n : Nat} (h : n < S.length) (J : Store) (i s : Int) : dS (S ++ J) n i s = dS S n i s ++ J := List.set_append_left _ _ h
theorem dS_take (S : Store) (n : Nat) (i s : Int) (m : Nat) (hm : m = S.length) : (dS S n i s).take m = dS S n i s := by
  subst hm
  rw [List.take_of_length_le (by rw [dS_len]; exact Nat.le_refl _)]
section
variable (k b : Nat) (cells : List Int) (S : Store) (n : Nat)
theorem drw (hd : Dr S n) (sz : Int) (h0 : 0 < sz) (h1 : divOk sz = true) (Q : D → Store → Prop) (hQ : ∀ v i' s', 0 ≤ v → v < sz → 0 ≤ i' → Q (.b (.int v)) (dS S n i' s')) :
    Wc T (k + 1) b 1000 [.ref n, .b (.scr (cells.map B.int)), .b (.int sz)] S Q := by
  obtain ⟨i, s, e, hi⟩ := hd.h
  exact draw_w rfl k b cells S n i s sz e hi h0 h1 Q hQ
theorem lnum_w (hd : Dr S n) (Q : D → Store → Prop) (hQ : ∀ v i' s', 0 ≤ i' → Q (.b (.int v)) (dS S n i' s')) :
    Wc T (k + 2) b 1001 [.ref n, .b (.scr (cells.map B.int))] S Q := by
  refine wc_of (fd := f_l_law_number) rfl rfl ?_
  unfold f_l_law_number
  simp only [start, List.map_cons, List.map_nil, List.length_cons, List.length_nil, if_true]
  refine ws_open fun r' hr' => ?_
  rw [wx_ret, we_idx, we_lst, wes_cons, we_call, wes_cons, we_v rfl, wes_cons, we_v rfl, wes_cons, we_k, wes_nil]
  refine drw k _ cells S n hd 9 (by decide) (by decide) _ fun v1 i1 s1 _ _ p1 => ?_
  rw [wes_cons, we_bin, we_k, we_call, wes_cons, we_v rfl, wes_cons, we_v rfl, wes_cons, we_k, wes_nil]
  refine drw k _ cells _ n (hd.st p1) 9 (by decide) (by decide) _ fun v2 i2 s2 _ _ p2 => ?_
  rw [dS_dS, wo_bin, wo_sub, wes_cons, we_bin, we_k, we_k, wo_bin, wo_shl]
  refine ⟨by decide, ?_⟩
  rw [wes_nil]
  show Wo' (some [B.int v1, B.int (0 - v2), B.int (1 * 2 ^ (70 : Int).toNat)]) _
  rw [wo_some]
  show Wo' (some (D.b (.lst [B.int v1, B.int (0 - v2), B.int (1 * 2 ^ (70 : Int).toNat)]), _)) _
  rw [wo_some, we_call, wes_cons, we_v rfl, wes_cons, we_v rfl, wes_cons, we_k, wes_nil]
  refine drw k _ cells _ n (hd.st p2) 3 (by decide) (by decide) _ fun v3 i3 s3 q1 q2 p3 => ?_
  rw [dS_dS]
  obtain ⟨u, hu1, hu2⟩ := atI_int (xs := [v1, 0 - v2, 1 * 2 ^ (70 : Int).toNat]) (i := v3) q1 (by simp; omega)
  have iu : ∀ S : Store, idx S (.b (.lst [.int v1, .int (0 - v2), .int (1 * 2 ^ (70 : Int).toNat)])) (.b (.int v3)) = some (.b (.int u)) := fun S => by
    rw [idx_lst]
    show (L2.atI ([v1, 0 - v2, 1 * 2 ^ (70 : Int).toNat].map B.int) _).map _ = _
    rw [hu1]
    rfl
  try dsimp only
  rw [iu, wo_some, nx_rt, ret_b, dS_take _ _ _ _ _ rfl]
  exact hQ u i3 s3 p3
theorem lmem_w (hd : Dr S n) (Q : D → Store → Prop) (hQ : ∀ (ms : Mb) i' s', ms.length ≤ 3 → 0 ≤ i' → Q (.b (mbT ms)) (dS S n i' s')) :
    Wc T (k + 3) b 1002 [.ref n, .b (.scr (cells.map B.int))] S Q := by
  refine wc_of (fd := f_l_law_members) rfl rfl ?_
  unfold f_l_law_members
  simp only [start, List.map_cons, List.map_nil, List.length_cons, List.length_nil, if_true]
  refine ws_open fun r' hr' => ?_
  rw [wx_ret, we_bi, wes_cons, we_lc, wes_cons, we_call, wes_cons, we_v rfl, wes_cons, we_v rfl, wes_cons, we_k, wes_nil]
  refine drw (k + 1) _ cells S n hd 4 (by decide) (by decide) _ fun v i1 s1 hv0 hv4 p1 => ?_
  obtain ⟨m, rfl⟩ : ∃ m : Nat, v = (m : Int) := ⟨v.toNat, by omega⟩
  rw [wes_nil]
  refine lc_run (ds := [.int (m : Int)]) rfl (items_r1 (by omega)) (by rw [rngB_len]; unfold SZ; omega) (fun j ys S1 => ∃ (ms : Mb) (i s : Int), ms.length = j ∧ ys = ms.map mbB ∧ 0 ≤ i ∧ S1 = dS S n i s) ⟨[], i1, s1, rfl, rfl, p1, rfl⟩ ?_ ?_
  · rintro j z ys S1 hz ⟨ms, i, s, hl, rfl, hi, rfl⟩
    obtain ⟨hj, rfl⟩ := rngB_at hz
    show Wo' (some _) _
    rw [wo_some, we_k, tbl, wo_some, if_pos rfl]
    simp only [wipe, List.set]
    rw [we_tup, wes_cons, we_call, wes_cons, we_v rfl, wes_cons, we_v rfl, wes_nil]
    refine lnum_w k _ cells _ n (hd.st hi) _ fun u i2 s2 p2 => ?_
    rw [dS_dS, wes_cons, we_call, wes_cons, we_v rfl, wes_cons, we_v rfl, wes_nil]
    refine lnum_w k _ cells _ n (hd.st p2) _ fun u2 i3 s3 p3 => ?_
    rw [dS_dS, wes_nil]
    refine ⟨by simp, mbB (u, u2), rfl, ms ++ [(u, u2)], i3, s3, by simp [hl], by rw [List.map_append]; rfl, p3, rfl⟩
  · rintro ys S1 ⟨ms, i, s, hl, rfl, hi, rfl⟩
    rw [rngB_len] at hl
    rw [newL_f, if_pos (by rw [List.length_map]; unfold SZ; omega), wo_some, wes_nil, tup_lstV, wo_some, nx_rt, ret_b, dS_take _ _ _ _ _ rfl]
    exact hQ ms i s (by omega) hi
theorem lints_lc {P : Par} {σ : Sl} {i pp qq : Nat} {Q : D → Store → Prop} {m : Nat} {S0 : Store} {es : List E} (hP : ∃ b, P = par T (k + 2) b) (h0 : σ[pp]? = some (some (.ref n))) (h1 : σ[qq]? = some (some (.b (.scr (cells.map B.int))))) (hi : i ≠ pp ∧ i ≠ qq ∧ i < σ.length) (hm : m ≤ 10)
    (hes : ∀ R : List D → Store → Prop, (∀ S', (Dr S' n ∧ ∃ i' s', S' = dS S n i' s') → ∀ m' : Nat, m' ≤ m → R [.b (.int (m' : Int))] S') → Wes P es σ S0 R)
    (hQ : ∀ (ys : List Int) i' s', ys.length ≤ m → 0 ≤ i' → Q (.b (.lst (ys.map B.int))) (dS S n i' s')) :
    We P (.lc false (.n i) .r1 es (.k (.bl true)) (.call 1001 [(.v pp), (.v qq)]) [i]) σ S0 Q := by
  obtain ⟨b, rfl⟩ := hP
  rw [we_lc]
  refine hes _ fun S' ⟨hd', i1, s1, e1⟩ m' hm' => ?_
  have h0' : ∀ x, ((wipe σ [i]).set i x)[pp]? = some (some (.ref n)) := fun x => by
    rw [List.getElem?_set_ne hi.1]
    show (σ.set i none)[pp]? = _
    rw [List.getElem?_set_ne hi.1]
    exact h0
  have h1' : ∀ x, ((wipe σ [i]).set i x)[qq]? = some (some (.b (.scr (cells.map B.int)))) := fun x => by
    rw [List.getElem?_set_ne hi.2.1]
    show (σ.set i none)[qq]? = _
    rw [List.getElem?_set_ne hi.2.1]
    exact h1
  refine lc_run (ds := [.int (m' : Int)]) rfl (items_r1 (by omega)) (by rw [rngB_len]; unfold SZ; omega) (fun j ys S1 => ∃ (ms : List Int), Dr S1 n ∧ ms.length = j ∧ ys = ms.map B.int ∧ ∃ i s, S1 = dS S n i s) ⟨[], hd', rfl, rfl, i1, s1, e1⟩ ?_ ?_
  · rintro j z ys S1 hz ⟨ms, hd1, hl, rfl, i2, s2, e2⟩
    obtain ⟨hj, rfl⟩ := rngB_at hz
    show Wo' (some _) _
    rw [wo_some, we_k, tbl, wo_some, if_pos rfl, we_call, wes_cons, we_v (h0' _), wes_cons, we_v (h1' _), wes_nil]
    refine lnum_w k _ cells _ n hd1 _ fun u i3 s3 p3 => ?_
    refine ⟨_, rfl, ms ++ [u], hd1.st p3, by simp [hl], by rw [List.map_append]; rfl, i3, s3, ?_⟩
    rw [e2, dS_dS]
  · rintro ys S1 ⟨ms, hd1, hl, rfl, i2, s2, e2⟩
    rw [rngB_len] at hl
    rw [newL_f, if_pos (by rw [List.length_map]; unfold SZ; omega), wo_some]
    obtain ⟨i3, s3, p3, e3⟩ := hd1.self
    rw [e3, e2, dS_dS]
    exact hQ ms i3 s3 (by omega) p3
theorem lvot_w (hd : Dr S n) (Q : D → Store → Prop) (hQ : ∀ (vs : Vt) i' s', vs.length ≤ 3 → (∀ v ∈ vs, v.2.length ≤ 3) → 0 ≤ i' → Q (.b (vtT vs)) (dS S n i' s')) :
    Wc T (k + 3) b 1003 [.ref n, .b (.scr (cells.map B.int))] S Q := by
  refine wc_of (fd := f_l_law_votes) rfl rfl ?_
  unfold f_l_law_votes
  simp only [start, List.map_cons, List.map_nil, List.length_cons, List.length_nil, if_true]
  have hlt := hd.lt
  refine ws_open fun r' hr' => ?_
  rw [wx_set, we_lst, wes_nil]
  show Wo' (some ([] : List B)) _
  rw [wo_some]
  show Wo' (some (D.ref S.length, S ++ [O.lst []])) _
  rw [wo_some]
  simp only [nx_nx, List.set]
  subst hr'
  refine ws_open fun r' hr' => ?_
  rw [wx_for, wes_cons, we_call, wes_cons, we_v rfl, wes_cons, we_v rfl, wes_cons, we_k, wes_nil]
  refine drw (k + 1) _ cells _ n (hd.app _) 4 (by decide) (by decide) _ fun v i1 s1 hv0 hv4 p1 => ?_
  obtain ⟨m, rfl⟩ : ∃ m : Nat, v = (m : Int) := ⟨v.toNat, by omega⟩
  rw [wes_nil]
  refine for_run (ds := [.int (m : Int)]) rfl (items_r1 (by omega)) (fun j σ1 S1 => ∃ (vs : Vt) (i s : Int) (v3 v4 : Option D), vs.length = j ∧ (∀ v ∈ vs, v.2.length ≤ 3) ∧ 0 ≤ i ∧ S1 = dS S n i s ++ [O.lst (vs.map vtB)] ∧ σ1 = [some (.ref n), some (.b (.scr (cells.map B.int))), some (.ref S.length), v3, v4, none]) ⟨[], i1, s1, none, none, rfl, fun v h => by simp at h, p1, dS_app hlt _ _ _, rfl⟩ ?_ ?_
  · rintro j z σ1 S1 hz ⟨vs, i, s, v3, v4, hl, hvs, hi, rfl, rfl⟩
    obtain ⟨hj, rfl⟩ := rngB_at hz
    show Wo' (some ([some (.ref n), some (.b (.scr (cells.map B.int))), some (.ref S.length), some (.b (.int (0 + (j : Int)))), v4, none] : Sl)) _
    rw [wo_some]
    have hlt2 : n < (dS S n i s).length := by rw [dS_len]; exact hlt
    have hS0 : ∀ i s, (dS S n i s ++ [O.lst (vs.map vtB)])[S.length]? = some (.lst (vs.map vtB)) := fun i s => at_len (dS_len ..)
    refine ws_open fun q' hq' => ?_
    rw [wx_set]
    refine lints_lc k cells (dS S n i s ++ [O.lst (vs.map vtB)]) n (m := 3) ⟨_, rfl⟩ rfl rfl (by simp) (by decide) (fun R hR => ?_) fun ys i3 s3 hys p3 => ?_
    · rw [wes_cons, we_call, wes_cons, we_v rfl, wes_cons, we_v rfl, wes_cons, we_k, wes_nil]
      refine drw (k + 1) _ cells _ n ((hd.st hi).app _) 4 (by decide) (by decide) _ fun v i2 s2 hv0 hv4 p2 => ?_
      obtain ⟨m', rfl⟩ : ∃ m : Nat, v = (m : Int) := ⟨v.toNat, by omega⟩
      rw [wes_nil]
      exact hR _ ⟨((hd.st hi).app _).st p2, i2, s2, rfl⟩ m' (by omega)
    rw [dS_app hlt2, dS_dS]
    simp only [nx_nx, List.set]
    subst hq'
    refine ws_open fun q' hq' => ?_
    rw [wx_ex, we_mt, we_v rfl, wes_cons, we_tup, wes_cons, we_call, wes_cons, we_v rfl, wes_cons, we_v rfl, wes_nil]
    refine lnum_w k _ cells _ n ((hd.st p3).app _) _ fun u i4 s4 p4 => ?_
    rw [dS_app (by rw [dS_len]; exact hlt), dS_dS, wes_cons, we_bi, wes_cons, we_v rfl, wes_nil, tup_lstV, wo_some, wes_nil]
    refine ⟨by simp, ?_⟩
    rw [wes_nil]
    refine ⟨?_, ?_⟩
    · unfold kd
      dsimp only
      rw [hS0, hS0]
    rw [mk2, mt_app (hS0 _ _) (by rw [List.length_map]; unfold SZ; omega), wo_some, nx_nx]
    subst hq'
    rw [ws_nil, set_len (dS_len ..)]
    refine ⟨vs ++ [(u, ys)], i4, s4, _, _, by simp [hl], fun v hv => ?_, p4, by rw [List.map_append]; rfl, rfl⟩
    rcases List.mem_append.mp hv with h | h
    · exact hvs v h
    · rw [List.mem_singleton] at h
      rw [h]
      exact hys
  · rintro σ1 S1 ⟨vs, i, s, v3, v4, hl, hvs, hi, rfl, rfl⟩
    rw [rngB_len] at hl
    rw [nx_nx]
    subst hr'
    refine ws_open fun r' hr' => ?_
    rw [wx_ret, we_bi, wes_cons, we_v rfl, wes_nil, tup_refV (at_len (dS_len ..)), wo_some, nx_rt, ret_b, List.take_append_of_le_length (by rw [dS_len]; exact Nat.le_refl _), dS_take _ _ _ _ _ rfl]
    exact hQ vs i s (by omega) hvs hi
theorem lblk_w (hd : Dr S n) (Q : D → Store → Prop) (hQ : ∀ (bk : Bk) i' s', BkS bk → 0 ≤ i' → Q (.b (bkB bk)) (dS S n i' s')) :
    Wc T (k + 4) b 1004 [.ref n, .b (.scr (cells.map B.int))] S Q := by
  refine wc_of (fd := f_l_law_block) rfl rfl ?_
  unfold f_l_law_block
  simp only [start, List.map_cons, List.map_nil, List.length_cons, List.length_nil, if_true]
  refine ws_open fun r' hr' => ?_
  rw [wx_set, we_lc, wes_cons, we_k, wes_nil]
  obtain ⟨i0, s0, p0, e0⟩ := hd.self
  refine lc_run (ds := [.int ((7 : Nat) : Int)]) rfl (items_r1 (by omega)) (by rw [rngB_len]; unfold SZ; omega) (fun j ys S1 => ∃ (ms : List Int) (i s : Int), ms.length = j ∧ ys = ms.map B.int ∧ 0 ≤ i ∧ S1 = dS S n i s) ⟨[], i0, s0, rfl, rfl, p0, e0⟩ ?_ ?_
  · rintro j z ys S1 hz ⟨ms, i, s, hl, rfl, hi, rfl⟩
    obtain ⟨hj, rfl⟩ := rngB_at hz
    show Wo' (some _) _
    rw [wo_some, we_k, tbl, wo_some, if_pos rfl]
    simp only [wipe, List.set]
    rw [we_call, wes_cons, we_v rfl, wes_cons, we_v rfl, wes_nil]
    refine lnum_w (k + 1) _ cells _ n (hd.st hi) _ fun u i3 s3 p3 => ?_
    rw [dS_dS]
    exact ⟨_, rfl, ms ++ [u], i3, s3, by simp [hl], by rw [List.map_append]; rfl, p3, rfl⟩
  · rintro ys S1 ⟨ms, i, s, hl, rfl, hi, rfl⟩
    rw [rngB_len] at hl
    rw [newL_f, if_pos (by rw [List.length_map]; unfold SZ; omega), wo_some]
    obtain ⟨a0, a1, a2, a3, a4, a5, a6, rfl⟩ : ∃ a0 a1 a2 a3 a4 a5 a6, ms = [a0, a1, a2, a3, a4, a5, a6] := by
      match ms, hl with
      | [a0, a1, a2, a3, a4, a5, a6], _ => exact ⟨_, _, _, _, _, _, _, rfl⟩
    obtain ⟨xs, hxs⟩ : ∃ xs : List Int, xs = [a0, a1, a2, a3, a4, a5, a6] := ⟨_, rfl⟩
    have ix : ∀ (S : Store) (i : Nat) (v : Int), xs[i]? = some v → idx S (.b (.lst (xs.map B.int))) (.b (.int (i : Int))) = some (.b (.int v)) := fun S i v h => by
      rw [idx_lst, atI_get (j := i) rfl (by rw [List.getElem?_map, h]; rfl)]
      rfl
    rw [← hxs]
    simp only [nx_nx, List.set]
    subst hr'
    refine ws_open fun r' hr' => ?_
    rw [wx_set]
    refine make_header (k := k + 1) (h := ⟨a0, a1, a2, a3, a4, a5, a6⟩) (fun R hR => ?_) ?_
    · rw [wes_cons, we_idx, we_v rfl, we_k]
      try dsimp only
      rw [show idx _ (.b (.lst (xs.map B.int))) (.b (.int 0)) = _ from ix _ 0 a0 (by rw [hxs]; rfl), wo_some]
      rw [wes_cons, we_idx, we_v rfl, we_k]
      try dsimp only
      rw [show idx _ (.b (.lst (xs.map B.int))) (.b (.int 1)) = _ from ix _ 1 a1 (by rw [hxs]; rfl), wo_some]
      rw [wes_cons, we_idx, we_v rfl, we_k]
      try dsimp only
      rw [show idx _ (.b (.lst (xs.map B.int))) (.b (.int 2)) = _ from ix _ 2 a2 (by rw [hxs]; rfl), wo_some]
      rw [wes_cons, we_idx, we_v rfl, we_k]
      try dsimp only
      rw [show idx _ (.b (.lst (xs.map B.int))) (.b (.int 3)) = _ from ix _ 3 a3 (by rw [hxs]; rfl), wo_some]
      rw [wes_cons, we_idx, we_v rfl, we_k]
      try dsimp only
      rw [show idx _ (.b (.lst (xs.map B.int))) (.b (.int 4)) = _ from ix _ 4 a4 (by rw [hxs]; rfl), wo_some]
      rw [wes_cons, we_idx, we_v rfl, we_k]
      try dsimp only
      rw [show idx _ (.b (.lst (xs.map B.int))) (.b (.int 5)) = _ from ix _ 5 a5 (by rw [hxs]; rfl), wo_some]
      rw [wes_cons, we_idx, we_v rfl, we_k]
      try dsimp only
      rw [show idx _ (.b (.lst (xs.map B.int))) (.b (.int 6)) = _ from ix _ 6 a6 (by rw [hxs]; rfl), wo_some, wes_nil]
      exact hR
    simp only [nx_nx, List.set]
    subst hr'
    refine ws_open fun r' hr' => ?_
    rw [wx_ret]
    refine make_blockP (k := k + 1) (fun b' S' => ∃ i s, BkS b' ∧ 0 ≤ i ∧ S' = dS S n i s) (fun R hR => ?_) ?_
    · rw [wes_cons, we_v rfl, wes_cons, we_call, wes_cons, we_v rfl, wes_cons, we_v rfl, wes_nil]
      refine lmem_w k _ cells _ n (hd.st hi) _ fun m1 i1 s1 l1 p1 => ?_
      rw [dS_dS, wes_cons, we_call, wes_cons, we_v rfl, wes_cons, we_v rfl, wes_nil]
      refine lmem_w k _ cells _ n (hd.st p1) _ fun m2 i2 s2 l2 p2 => ?_
      rw [dS_dS, wes_cons, we_call, wes_cons, we_v rfl, wes_cons, we_v rfl, wes_nil]
      refine lvot_w k _ cells _ n (hd.st p2) _ fun vs i3 s3 l3 lv p3 => ?_
      rw [dS_dS, wes_nil]
      exact hR ⟨⟨a0, a1, a2, a3, a4, a5, a6⟩, m1, m2, vs⟩ _ ⟨i3, s3, ⟨show m1.length ≤ 100 by omega, show m2.length ≤ 100 by omega, show vs.length ≤ 100 by omega, fun v hv => by have := lv v hv; omega⟩, p3, rfl⟩
    · rintro b' S' ⟨i3, s3, hb, p3, rfl⟩
      rw [nx_rt, ret_b, dS_take _ _ _ _ _ rfl]
      exact hQ b' i3 s3 hb p3
end
theorem lflat_w (k b : Nat) (S : Store) (ms : Mb) (hl : ms.length ≤ 1000) (Q : D → Store → Prop) (hQ : Q (.b (.lst ((nmem ms).map B.int))) S) : Wc T (k + 1) b 1006 [.b (mbT ms)] S Q := by
  refine wc_of (fd := f_l_law_flat) rfl rfl ?_
  unfold f_l_law_flat
  simp only [start, List.map_cons, List.map_nil, List.length_cons, List.length_nil, if_true]
  refine ws_open fun r' hr' => ?_
  rw [wx_set, we_lst, wes_cons, we_bi, wes_cons, we_v rfl, wes_nil, len_mbT, wo_some, wes_nil]
  show Wo' (some [B.int (ms.length : Int)]) _
  rw [wo_some]
  show Wo' (some (D.b (.lst [B.int (ms.length : Int)]), S)) _
  rw [wo_some]
  simp only [nx_nx, List.set]
  subst hr'
  refine ws_open fun r' hr' => ?_
  refine wx_forN (k := .sq) (ds := [mbT ms]) (xs := ms.map mbB) (fun Q h => by simp only [wes_cons, wes_nil]; rw [we_v rfl]; exact h) rfl (fun j σ1 S1 => S1 = S ∧ ∃ v2, σ1 = [some (.b (mbT ms)), some (.b (.lst (((ms.length : Int) :: (ms.take j).flatMap fun p => [p.1, p.2]).map B.int))), v2]) ⟨rfl, none, rfl⟩ ?_ ?_
  · rintro j z σ1 S1 hz ⟨rfl, v2, rfl⟩
    rw [List.getElem?_map] at hz
    obtain ⟨p, hp, rfl⟩ := Option.map_eq_some_iff.mp hz
    obtain ⟨acc, hacc⟩ : ∃ acc, acc = (ms.length : Int) :: (ms.take j).flatMap fun p => [p.1, p.2] := ⟨_, rfl⟩
    rw [← hacc]
    have hal : acc.length ≤ 2001 := by
      rw [hacc, List.length_cons, flat2_len]
      have := List.length_take_le' j ms
      omega
    show Wo' (some ([some (.b (mbT ms)), some (.b (.lst (acc.map B.int))), some (.b (mbB p))] : Sl)) _
    rw [wo_some]
    refine ws_open fun q' hq' => ?_
    rw [wx_set, we_bin, we_v rfl, we_bi, wes_cons, we_v rfl, wes_nil]
    rw [show bi S1 .list false [.b (mbB p)] = newL S1 false ([p.1, p.2].map B.int) from rfl, newL_f, if_pos (by simp), wo_some, bin_lls (by simp; omega), wo_some]
    simp only [nx_nx, List.set]
    subst hq'
    rw [ws_nil]
    refine ⟨rfl, some (.b (mbB p)), ?_⟩
    rw [flatMap_s hp, show ((ms.length : Int) :: ((ms.take j).flatMap (fun p => [p.1, p.2]) ++ [p.1, p.2])) = acc ++ [p.1, p.2] by rw [hacc]; rfl]
  rintro σ1 S1 ⟨rfl, v2, rfl⟩
  rw [nx_nx]
  subst hr'
  rw [List.length_map, List.take_length]
  refine ws_open fun r' hr' => ?_
  rw [wx_ret, we_v rfl, nx_rt, ret_b, List.take_length]
  exact hQ
theorem ltold_w (k b : Nat) (S : Store) (vs : Vt) (hv : VsS vs) (Q : D → Store → Prop) (hQ : Q (.b (.lst ((nvot vs).map B.int))) S) : Wc T (k + 2) b 1007 [.b (vtT vs)] S Q := by
  refine wc_of (fd := f_l_law_told) rfl rfl ?_
  unfold f_l_law_told
  simp only [start, List.map_cons, List.map_nil, List.length_cons, List.length_nil, if_true]
  have hl := hv.l
  have lv : ∀ S : Store, bi S .len false [.b (vtT vs)] = some (.b (.int (vs.length : Int)), S) := fun S => by
    show bi S .len false [.b (.tup _)] = _
    rw [bi_len_tup, List.length_map]
  refine ws_open fun r' hr' => ?_
  rw [wx_set, we_lst, wes_cons, we_bi, wes_cons, we_v rfl, wes_nil, lv, wo_some, wes_nil]
  show Wo' (some [B.int (vs.length : Int)]) _
  rw [wo_some]
  show Wo' (some (D.b (.lst [B.int (vs.length : Int)]), S)) _
  rw [wo_some]
  simp only [nx_nx, List.set]
  subst hr'
  refine ws_open fun r' hr' => ?_
  refine wx_forN (k := .sq) (ds := [vtT vs]) (xs := vs.map vtB) (fun Q h => by simp only [wes_cons, wes_nil]; rw [we_v rfl]; exact h) rfl (fun j σ1 S1 => S1 = S ∧ ∃ v2 v3, σ1 = [some (.b (vtT vs)), some (.b (.lst (((vs.length : Int) :: (vs.take j).flatMap fun v => v.1 :: nrow v.2).map B.int))), v2, v3]) ⟨rfl, none, none, rfl⟩ ?_ ?_
  · rintro j z σ1 S1 hz ⟨rfl, v2, v3, rfl⟩
    rw [List.getElem?_map] at hz
    obtain ⟨v, hp, rfl⟩ := Option.map_eq_some_iff.mp hz
    have hvl := hv.v v (List.mem_of_getElem? hp)
    obtain ⟨acc, hacc⟩ : ∃ acc, acc = (vs.length : Int) :: (vs.take j).flatMap fun v => v.1 :: nrow v.2 := ⟨_, rfl⟩
    rw [← hacc]
    have hal : acc.length ≤ 20000 := by
      rw [hacc, List.length_cons]
      have h1 := flatv_len (vs.take j) fun v hv' => hv.v v (List.mem_of_mem_take hv')
      have := List.length_take_le' j vs
      omega
    show Wo' (some ([some (.b (vtT vs)), some (.b (.lst (acc.map B.int))), some (.b (.int v.1)), some (.b (.tup (v.2.map B.int)))] : Sl)) _
    rw [wo_some]
    have hnr : (nrow v.2).length = v.2.length + 1 := rfl
    refine ws_open fun q' hq' => ?_
    rw [wx_set, we_bin, we_bin, we_v rfl, we_lst, wes_cons, we_v rfl, wes_nil]
    show Wo' (some [B.int v.1]) _
    rw [wo_some]
    show Wo' (some (D.b (.lst ([v.1].map B.int)), S1)) _
    rw [wo_some, bin_lls (by simp; omega), wo_some, we_call, wes_cons, we_v rfl, wes_nil]
    refine law_row_w k _ _ _ v.2 (.inr rfl) (by omega) _ ?_
    rw [bin_lls (by rw [List.length_append, List.length_singleton]; omega), wo_some]
    simp only [nx_nx, List.set]
    subst hq'
    rw [ws_nil]
    refine ⟨rfl, some (.b (.int v.1)), some (.b (.tup (v.2.map B.int))), ?_⟩
    rw [flatMap_s hp, show ((vs.length : Int) :: ((vs.take j).flatMap (fun v => v.1 :: nrow v.2) ++ (v.1 :: nrow v.2))) = acc ++ [v.1] ++ nrow v.2 by rw [hacc, List.append_assoc]; rfl]
  rintro σ1 S1 ⟨rfl, v2, v3, rfl⟩
  rw [nx_nx]
  subst hr'
  rw [List.length_map, List.take_length]
  refine ws_open fun r' hr' => ?_
  rw [wx_ret, we_v rfl, nx_rt, ret_b, List.take_length]
  exact hQ
theorem lall_w (k b : Nat) (S : Store) (bk : Bk) (hb : BkS bk) (Q : D → Store → Prop) (hQ : Q (.b (.lst ((nblk bk).map B.int))) S) : Wc T (k + 3) b 1008 [.b (bkB bk)] S Q := by
  refine wc_of (fd := f_l_law_all) rfl rfl ?_
  unfold f_l_law_all
  simp only [start, List.map_cons, List.map_nil, List.length_cons, List.length_nil, if_true]
  have l1 := nmem_len hb.ms
  have l2 := nmem_len hb.fs
  have l3 := nvot_len hb.vs
  have l7 : bk.h.ns.length = 7 := rfl
  have m1 := hb.ms
  have m2 := hb.fs
  refine ws_open fun r' hr' => ?_
  rw [wx_ret, we_bin, we_bin, we_bin, we_bi, wes_cons, we_meth, we_att, we_v rfl, gB39, wo_some]
  show Wo' (some 6) _
  rw [wo_some]
  show Wo' (some 69) _
  rw [wo_some, wes_nil]
  refine fields_w (k + 1) _ _ bk.h _ ?_
  rw [wes_nil, list_tupV, newL_f, if_pos (by rw [List.length_map, l7]; unfold SZ; omega), wo_some, we_call, wes_cons, we_att, we_v rfl, gB37, wo_some, wes_nil]
  refine lflat_w (k + 1) _ _ bk.ms (by omega) _ ?_
  rw [bin_lls (by omega), wo_some, we_call, wes_cons, we_att, we_v rfl, gB38, wo_some, wes_nil]
  refine lflat_w (k + 1) _ _ bk.fs (by omega) _ ?_
  rw [bin_lls (by rw [List.length_append]; omega), wo_some, we_call, wes_cons, we_att, we_v rfl, gB40, wo_some, wes_nil]
  refine ltold_w k _ _ bk.vs hb.vs _ ?_
  rw [bin_lls (by rw [List.length_append, List.length_append]; omega), wo_some, nx_rt, ret_b, List.take_length]
  unfold nblk at hQ
  rw [List.append_assoc bk.h.ns (nmem bk.ms) (nmem bk.fs)]
  exact hQ
end G
namespace G
open M
theorem ne_tupS (S : Store) (xs : List B) (h1 : eqOk 12 (.tup xs) = true) (h2 : eqBs xs xs = true) : cmp S .ne (.b (.tup xs)) (.b (.tup xs)) = some false := by
  have e : eqD S (.b (.tup xs)) (.b (.tup xs)) = some true := by
    show (if eqOk 12 (.tup xs) && eqOk 12 (.tup xs) then some (eqB (.tup xs) (.tup xs)) else _) = _
    rw [h1]
    show some (eqBs xs xs) = _
    rw [h2]
  rw [cmp_ne, e]
  rfl
theorem ok_ti (n : Nat) (ys : List Int) : eqOk (n + 1) (.tup (ys.map B.int)) = true := eqOk_ints n ys
abbrev slL (ns : List Int) (bk : Bk) (v4 v5 v6 v7 v8 : Option D) : Sl := [some (.b (.scr (ns.map B.int))), some (.ref 0), some (.b (bkB bk)), some (.b (.lst ((nblk bk).map B.int))), v4, v5, v6, v7, v8]
theorem law_w (ns : List Int) (hns : ns.length ≤ 63) : Wc T 100 0 1009 [.b (.scr (ns.map B.int))] [] fun d _ => d = .b (.bl true) := by
  refine wc_of (fd := f_l_law) rfl rfl ?_
  unfold f_l_law
  simp only [start, List.map_cons, List.map_nil, List.length_cons, List.length_nil, if_true]
  obtain ⟨S0, hS0⟩ : ∃ S0 : Store, S0 = [O.lst [.int 0, .int 0]] := ⟨_, rfl⟩
  have d0 : Dr S0 0 := ⟨0, 0, by rw [hS0]; rfl, Int.le_refl _⟩
  have l0 : S0.length = 1 := by rw [hS0]; rfl
  refine ws_open fun r' hr' => ?_
  rw [wx_set, we_lst, wes_cons, we_k, wes_cons, we_k, wes_nil]
  show Wo' (some [B.int 0, B.int 0]) _
  rw [wo_some]
  show Wo' (some (D.ref 0, [O.lst [B.int 0, B.int 0]])) _
  rw [wo_some, ← hS0]
  simp only [nx_nx, List.set]
  subst hr'
  refine ws_open fun r' hr' => ?_
  rw [wx_set, we_call, wes_cons, we_v rfl, wes_cons, we_v rfl, wes_nil]
  refine lblk_w 95 _ ns S0 0 d0 _ fun bk i1 s1 hb p1 => ?_
  simp only [nx_nx, List.set]
  subst hr'
  refine ws_open fun r' hr' => ?_
  rw [wx_set, we_call, wes_cons, we_v rfl, wes_nil]
  refine nblk_w 96 _ _ bk hb _ ?_
  simp only [nx_nx, List.set]
  subst hr'
  have hbl := nblk_len hb
  obtain ⟨NB, hNB⟩ : ∃ NB, NB = nblk bk := ⟨_, rfl⟩
  refine ws_open fun r' hr' => ?_
  rw [wx_iff, we_or, we_not, we_bi, wes_cons, we_v rfl, wes_nil]
  show Wo' (some (D.b (.bl true), _)) _
  rw [wo_some, tbl, wo_some, tbl, wo_some, if_neg (by decide), we_or, we_cmp, we_v rfl, we_call, wes_cons, we_v rfl, wes_nil]
  refine lall_w 96 _ _ bk hb _ ?_
  rw [ne_self_l, wo_some, tbl, wo_some, if_neg Bool.false_ne_true, we_not, we_eqo, we_call, wes_cons, we_bi, wes_cons, we_v rfl, wes_nil]
  rw [show ∀ S : Store, bi S .list false [.b (.lst ((nblk bk).map B.int))] = newL S false ((nblk bk).map B.int) from fun _ => rfl, newL_f, if_pos (by rw [List.length_map]; unfold SZ; omega), wo_some, wes_nil]
  refine block_of_w 91 _ _ bk hb _ ?_
  rw [we_v rfl]
  refine eqo_bk 95 _ _ bk bk _ ?_
  rw [decide_eq_true rfl, tbl, wo_some, tbl, wo_some, if_neg (by simp), ws_nil, nx_nx]
  subst hr'
  refine ws_open fun r' hr' => ?_
  rw [wx_set, we_call, wes_cons, we_v rfl, wes_cons, we_v rfl, wes_nil]
  refine lmem_w 96 _ ns _ 0 (d0.st p1) _ fun ms i2 s2 hms p2 => ?_
  rw [dS_dS]
  simp only [nx_nx, List.set]
  subst hr'
  refine ws_open fun r' hr' => ?_
  rw [wx_set, we_call, wes_cons, we_v rfl, wes_cons, we_v rfl, wes_nil]
  refine lvot_w 96 _ ns _ 0 (d0.st p2) _ fun vs i3 s3 hvl hvv p3 => ?_
  rw [dS_dS]
  simp only [nx_nx, List.set]
  subst hr'
  have hvs : VsS vs := ⟨by omega, fun v hv => by have := hvv v hv; omega⟩
  refine ws_open fun r' hr' => ?_
  rw [wx_set, we_bi, wes_cons]
  refine lints_lc 97 ns (dS S0 0 i3 s3) 0 (m := 4) ⟨_, rfl⟩ rfl rfl (by simp) (by decide) (fun R hR => ?_) fun ys i4 s4 hys p4 => ?_
  · rw [wes_cons, we_call, wes_cons, we_v rfl, wes_cons, we_v rfl, wes_cons, we_k, wes_nil]
    refine drw 98 _ ns _ 0 (d0.st p3) 5 (by decide) (by decide) _ fun v i2 s2 hv0 hv4 p2 => ?_
    obtain ⟨m', rfl⟩ : ∃ m : Nat, v = (m : Int) := ⟨v.toNat, by omega⟩
    rw [wes_nil]
    exact hR _ ⟨(d0.st p3).st p2, i2, s2, rfl⟩ m' (by omega)
  rw [dS_dS, wes_nil, tup_lstV, wo_some]
  simp only [nx_nx, List.set]
  subst hr'
  have ml := nmem_len (ms := ms) (by omega)
  have vl := nvot_len hvs
  have rl : (nrow ys).length = ys.length + 1 := rfl
  refine ws_open fun r' hr' => ?_
  rw [wx_iff, we_or, we_cmp, we_call, wes_cons, we_v rfl, wes_nil]
  refine nmem_w 98 _ _ ms (by omega) _ ?_
  rw [we_call, wes_cons, we_v rfl, wes_nil]
  refine lflat_w 98 _ _ ms (by omega) _ ?_
  rw [ne_self_l, wo_some, tbl, wo_some, if_neg Bool.false_ne_true, we_cmp, we_call, wes_cons, we_v rfl, wes_nil]
  refine nvot_w 97 _ _ vs hvs _ ?_
  rw [we_call, wes_cons, we_v rfl, wes_nil]
  refine ltold_w 97 _ _ vs hvs _ ?_
  rw [ne_self_l, wo_some, tbl, wo_some, if_neg Bool.false_ne_true, ws_nil, nx_nx]
  subst hr'
  refine ws_open fun r' hr' => ?_
  rw [wx_iff, we_or, we_cmp, we_call, wes_cons, we_v rfl, wes_nil]
  refine nrow_w 98 _ _ _ ys (.inr rfl) (by omega) _ ?_
  rw [we_call, wes_cons, we_v rfl, wes_nil]
  refine law_row_w 98 _ _ _ ys (.inr rfl) (by omega) _ ?_
  rw [ne_self_l, wo_some, tbl, wo_some, if_neg Bool.false_ne_true, we_or, we_cmp, we_call, wes_cons, we_bi, wes_cons, we_v rfl, wes_nil]
  rw [list_tupV, newL_f, if_pos (by rw [List.length_map]; unfold SZ; omega), wo_some, wes_nil]
  refine nrow_w 98 _ _ _ ys (.inl rfl) (by omega) _ ?_
  rw [we_call, wes_cons, we_v rfl, wes_nil]
  refine law_row_w 98 _ _ _ ys (.inr rfl) (by omega) _ ?_
  rw [ne_self_l, wo_some, tbl, wo_some, if_neg Bool.false_ne_true, we_cmp, we_call, wes_cons, we_call, wes_cons, we_v rfl, wes_nil]
  refine law_row_w 98 _ _ _ ys (.inr rfl) (by omega) _ ?_
  rw [wes_nil]
  refine row_of_w 93 _ _ ys (by omega) _ ?_
  rw [we_v rfl, ne_self_t, wo_some, tbl, wo_some, if_neg Bool.false_ne_true, ws_nil, nx_nx]
  subst hr'
  obtain ⟨xs, hxs⟩ : ∃ xs : List Int, xs = nrow ys ++ nmem ms ++ [7] ++ nvot vs ++ nblk bk ++ [1, 5, 6] := ⟨_, rfl⟩
  have hxl : xs.length = (nrow ys).length + (nmem ms).length + 1 + (nvot vs).length + (nblk bk).length + 3 := by
    rw [hxs]
    simp only [List.length_append, List.length_cons, List.length_nil]
  have e0 : xs.drop 0 = nrow ys ++ (nmem ms ++ ([7] ++ (nvot vs ++ (nblk bk ++ [1, 5, 6])))) := by
    rw [hxs, List.drop_zero]
    simp only [List.append_assoc]
  have e1 := drop_more e0
  have e2 := drop_more e1
  have e3 := drop_more e2
  have e4 := drop_more e3
  have e5 := drop_more e4
  have l7 : ([7] : List Int).length = 1 := rfl
  rw [l7] at e3 e4 e5
  obtain ⟨D0, hD0⟩ : ∃ D0 : Store, D0 = dS S0 0 i4 s4 := ⟨_, rfl⟩
  have lD : D0.length = 1 := by rw [hD0, dS_len, l0]
  rw [← hD0]
  refine ws_open fun r' hr' => ?_
  rw [wx_set]
  refine make_nu (k := 97) (xs := xs) (by unfold SZ; omega) (fun R hR => ?_) ?_
  · rw [we_bin, we_bin, we_bin, we_bin, we_bin, we_call, wes_cons, we_v rfl, wes_nil]
    refine law_row_w 98 _ _ _ ys (.inr rfl) (by omega) _ ?_
    rw [we_call, wes_cons, we_v rfl, wes_nil]
    refine lflat_w 98 _ _ ms (by omega) _ ?_
    rw [bin_lls (by omega), wo_some, we_lst, wes_cons, we_k, wes_nil]
    show Wo' (some [B.int 7]) _
    rw [wo_some]
    show Wo' (some (D.b (.lst ([7].map B.int)), D0)) _
    rw [wo_some, bin_lls (by simp only [List.length_append, List.length_cons, List.length_nil]; omega), wo_some, we_call, wes_cons, we_v rfl, wes_nil]
    refine ltold_w 97 _ _ vs hvs _ ?_
    rw [bin_lls (by simp only [List.length_append, List.length_cons, List.length_nil]; omega), wo_some, we_v rfl, bin_lls (by simp only [List.length_append, List.length_cons, List.length_nil]; omega), wo_some, we_lst, wes_cons, we_k, wes_cons, we_k, wes_cons, we_k, wes_nil]
    show Wo' (some [B.int 1, B.int 5, B.int 6]) _
    rw [wo_some]
    show Wo' (some (D.b (.lst ([1, 5, 6].map B.int)), D0)) _
    rw [wo_some, bin_lls (by simp only [List.length_append, List.length_cons, List.length_nil]; omega), wo_some, ← hxs]
    exact hR
  have n0 := nu_new D0 xs
  rw [lD] at n0
  have nn : ∀ a, Nu (D0 ++ [nuO xs a]) 1 xs a := fun a => ⟨by rw [← lD]; exact last_at⟩
  have ns' : ∀ a c, nuS (D0 ++ [nuO xs a]) 1 xs c = D0 ++ [nuO xs c] := fun a c => by
    unfold nuS
    rw [← lD]
    exact last_set
  rw [lD]
  simp only [nx_nx, List.set]
  subst hr'
  refine ws_open fun r' hr' => ?_
  rw [wx_iff, we_cmp, we_tup, wes_cons, we_meth, we_v rfl, nu_c (nn _) 46 (by simp), wo_some]
  show Wo' (some 82) _
  rw [wo_some, wes_nil]
  refine row_w 94 _ _ 1 0 xs ys _ (nn _) (Nat.zero_le _) e0 _ ?_
  rw [ns', wes_cons, we_meth, we_v rfl, nu_c (nn _) 37 (by simp), wo_some]
  show Wo' (some 83) _
  rw [wo_some, wes_nil]
  refine rmem_w 94 _ _ 1 _ xs _ ms (by omega) (nn _) (by omega) e1 _ ?_
  rw [ns', wes_cons, we_meth, we_v rfl, nu_c (nn _) 44 (by simp), wo_some]
  show Wo' (some 80) _
  rw [wo_some, wes_nil]
  refine one_w 96 _ _ 1 _ xs _ 7 (nn _) (by omega) e2 _ ?_
  rw [ns', wes_cons, we_meth, we_v rfl, nu_c (nn _) 40 (by simp), wo_some]
  show Wo' (some 84) _
  rw [wo_some, wes_nil]
  refine rvot_w 93 _ _ 1 _ xs _ vs hvs (nn _) (by omega) e3 _ ?_
  rw [ns', wes_nil]
  refine ⟨by simp, ?_⟩
  rw [mk4, we_tup, wes_cons, we_v rfl, wes_cons, we_v rfl, wes_cons, we_k, wes_cons, we_v rfl, wes_nil]
  refine ⟨by simp, ?_⟩
  rw [mk4, ne_tupS _ _ (by
    show List.all [.tup (ys.map B.int), mbT ms, .int 7, vtT vs] (eqOk 11) = true
    simp only [List.all_cons, List.all_nil]
    rw [ok_ti 10, ok_mbT 9, ok_vtT 8]
    rfl) (by
    show (eqBs (ys.map B.int) (ys.map B.int) && (eqB (mbT ms) (mbT ms) && ((7 : Int) == 7 && (eqB (vtT vs) (vtT vs) && true)))) = true
    rw [eqB_ints, eqB_mbT, eqB_vtT]
    simp), wo_some, tbl, wo_some, if_neg Bool.false_ne_true, ws_nil, nx_nx]
  subst hr'
  refine ws_open fun r' hr' => ?_
  rw [wx_iff, we_or, we_not, we_eqo, we_meth, we_v rfl, nu_c (nn _) 47 (by simp), wo_some]
  show Wo' (some 85) _
  rw [wo_some, wes_nil]
  refine rblk_w 92 _ _ 1 _ xs _ bk hb (nn _) (by omega) e4 _ ?_
  rw [ns', we_v rfl]
  refine eqo_bk 95 _ _ bk bk _ ?_
  rw [decide_eq_true rfl, tbl, wo_some, tbl, wo_some, if_neg (by simp), we_or, we_cmp, we_meth, we_v rfl, nu_c (nn _) 45 (by simp), wo_some]
  show Wo' (some 81) _
  rw [wo_some, wes_cons, we_k, wes_nil]
  refine count_w 95 _ _ 1 _ xs [5, 6] 1 2 2 rfl (nn _) (by omega) e5 (by decide) (by decide) _ ?_
  have e6 := drop_more (ys := [(1 : Int)]) (zs := [5, 6]) e5
  have e7 := drop_more (ys := [(5 : Int), 6]) (zs := []) e6
  have l1 : ([1] : List Int).length = 1 := rfl
  have l2 : ([5, 6] : List Int).length = 2 := rfl
  rw [l1] at e6 e7
  rw [l2] at e7
  rw [ns', we_k, ne_iiV, wo_some, show (!decide (((1 : Nat) : Int) = 1)) = false from rfl, tbl, wo_some, if_neg Bool.false_ne_true, we_or, we_cmp, we_meth, we_v rfl, nu_c (nn _) 30 (by simp), wo_some]
  show Wo' (some 79) _
  rw [wo_some, wes_cons, we_k, wes_nil]
  refine some_w 97 _ _ 1 _ xs [5, 6] [] 2 (nn _) (by omega) e6 rfl _ ?_
  rw [ns', we_tup, wes_cons, we_k, wes_cons, we_k, wes_nil]
  refine ⟨by simp, ?_⟩
  rw [mk2, show B.tup [B.int 5, B.int 6] = B.tup ([5, 6].map B.int) from rfl, ne_self_t, wo_some, tbl, wo_some, if_neg Bool.false_ne_true, we_cmp, we_meth, we_v rfl, nu_c (nn _) 30 (by simp), wo_some]
  show Wo' (some 79) _
  rw [wo_some, wes_cons, we_k, wes_nil]
  rw [l2]
  refine some_w 97 _ _ 1 _ xs [] [] 0 (nn _) (by omega) e7 rfl _ ?_
  rw [ns', we_tup, wes_nil]
  refine ⟨by decide, ?_⟩
  rw [mk0, show B.tup [] = B.tup (([] : List Int).map B.int) from rfl, ne_self_t, wo_some, tbl, wo_some, if_neg Bool.false_ne_true, ws_nil, nx_nx]
  subst hr'
  refine ws_open fun r' hr' => ?_
  rw [wx_ret, we_cmp, we_meth, we_v rfl, nu_c (nn _) 48 (by simp), wo_some]
  show Wo' (some 86) _
  rw [wo_some, wes_nil]
  refine close_w 97 _ _ 1 _ xs (nn _) (by rw [hxl, List.length_nil]; omega) _ ?_
  rw [we_k, is_non, wo_some, nx_rt, ret_b]
  rfl
theorem LAW (ns : List Int) (h : ns.length ≤ 63) (_ : ∀ i ∈ ns, PySem.Builtin.Int.intBits i ≤ 1048576) : ∃ S', evC T 100 0 1009 [.b (.scr (ns.map B.int))] [] = some (.b (.bl true), S') := by
  obtain ⟨d, S', e, rfl⟩ := law_w ns h
  exact ⟨S', e⟩
end G
theorem PySem.Challenge.cw_offing_k20_blocks_as_numbers_holds : PySem.Challenge.rw_offing_k20_blocks_as_numbers.Holds :=
  G.law_ok 100 (by decide) G.LAW
