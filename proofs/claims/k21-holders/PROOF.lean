import PyProof.Rows.All
import Wide.All
import OpenK.AllK
import Wide.FinOn
import HandS.ForMost
import HandS.ForExc
import HandS.Lambda
import HandS.TryMany
import HandS.RaiseMore
import HandS.WordsDict
import HandS.TupAny
import HandS.SortInts
import HandS.Text
import HandS.Style
import HandS.WordsExc
import HandS.EndTab
import HandS.HeadHook4
import HandS.HeadWalk
import HandS.AnyAll
import PyProof.GenCompT
import HandS.Head0
import HandS.Head1
import HandS.Head2
import HandS.Codes
import HandS.StrMore
import HandS.Call
import HandS.Dict
import HandS.Iter
import HandS.More
import HandS.ListItems
import KE.SortData
import KE.KDictSum
import KE.KItemsList
import PyProof.MinMaxWalk
import PyProof.TupleOfGen
import KE.SortKeyHeap
import KE.DataMinKey
import PyProof.DictWalks
import HandS.Rev
import HandS.Conv
import HandS.TupMul
import PyProof.WalkInts
import PyProof.Rows.SumAny
import HandS.Zip0
import KE.GoesMore
import KE.GoesZip
import PyProof.SeqI3
import KE.KEqDict
import PyProof.WalksPairs
import HandS.Small
import HandS.SortKw
import KE.DatumOrd
import HandS.SetFor
import PySem.Challenge.RW_candlehall_k21_holders
set_option Elab.async false
section
set_option linter.all false
/-! The mirror machine: data as trees, mutable objects in a store. -/
namespace Sm
abbrev Tx := List Nat
inductive K1 where
  | i (n : Int) | s (t : Tx)
  deriving DecidableEq
inductive D where
  | non | bl (b : Bool) | int (i : Int) | str (t : Tx) | lst (xs : List D) | tup (xs : List D)
  | dct (kvs : List (K1 × D)) | dctT (kvs : List (List K1 × D)) | obj (r : Nat)
inductive Ob where
  | dead | lst (xs : List D) | dct (kvs : List (K1 × D)) | dctT (kvs : List (List K1 × D)) | ins (c : Nat) (fs : List (Nat × D)) | lck (o : Ob)
abbrev Store := List Ob
inductive Out (α : Type) where
  | ok (a : α) (S : Store) | exc (k : Nat) (S : Store) | bad
abbrev Env := List (Option D)
inductive Fl where
  | nx (e : Env) | rt (d : D) | bk (e : Env) | ct (e : Env)
abbrev ME := Env → Store → Out D
abbrev MB := Env → Store → Out Bool
abbrev MA := Env → Store → Out (List D)
abbrev MO := Env → Store → Out Ob
abbrev MS := Env → Store → Out Fl
abbrev Fn := List D → Store → Out D
def Out.bind {α β : Type} : Out α → (α → Store → Out β) → Out β
  | .ok a S, f => f a S
  | .exc k S, _ => .exc k S
  | .bad, _ => .bad
def ofO {α : Type} (o : Option α) (S : Store) : Out α := match o with
  | some a => .ok a S
  | none => .bad
/-- what an object's place holds, as a value -/
def Ob.val : Ob → Option D
  | .lst xs => some (.lst xs)
  | .dct k => some (.dct k)
  | .dctT k => some (.dctT k)
  | .lck o => o.val
  | _ => none
def view (S : Store) : D → D
  | .obj r => match S[r]? with
    | some o => match o.val with
      | some d => d
      | none => .obj r
    | none => .obj r
  | d => d

/-- .. as a list that stands by itself -/
def viewM (S : Store) : D → D
  | .obj r => match S[r]? with
    | some (.lst xs) => .lst xs
    | _ => .obj r
  | d => d
/-! ### operations on values -/
mutual
def eqD : D → D → Bool
  | .non, .non => true
  | .bl a, .bl b => a == b
  | .bl a, .int i => (if a then 1 else 0) == i
  | .int i, .bl a => i == (if a then 1 else 0)
  | .int i, .int j => i == j
  | .str s, .str t => s == t
  | .lst xs, .lst ys => eqL xs ys
  | .tup xs, .tup ys => eqL xs ys
  | _, _ => false
def eqL : List D → List D → Bool
  | [], [] => true
  | x :: xs, y :: ys => eqD x y && eqL xs ys
  | _, _ => false
end
/-- data without dicts and objects, so deep -/
def dataN : Nat → D → Bool
  | _, .non => true
  | _, .bl _ => true
  | _, .int _ => true
  | _, .str t => t.all fun c => decide (c < 128)
  | n + 1, .lst xs => xs.all (dataN n)
  | n + 1, .tup xs => xs.all (dataN n)
  | _, _ => false
def dataD (d : D) : Bool := dataN 6 d
/-- == of data -/
def eqV (S : Store) (x y : D) : Option Bool :=
  if dataD (view S x) && dataD (view S y) then some (eqD (view S x) (view S y)) else none
def oEq (S : Store) (x y : D) : Option D := (eqV S x y).map .bl
def oNe (S : Store) (x y : D) : Option D := (eqV S x y).map fun b => .bl (!b)
def big : Int := 18446744073709551616
def oAdd (S : Store) (x y : D) : Option D := match viewM S x, viewM S y with
  | .int a, .int b => some (.int (a + b))
  | .str a, .str b => if a.length + b.length ≤ 100000 then some (.str (a ++ b)) else none
  | .lst a, .lst b => if a.length + b.length ≤ 100000 then some (.lst (a ++ b)) else none
  | .tup a, .tup b => if a.length + b.length ≤ 100000 then some (.tup (a ++ b)) else none
  | _, _ => none
def oSub (_ : Store) (x y : D) : Option D := match x, y with
  | .int a, .int b => some (.int (a - b))
  | _, _ => none
def oMul (S : Store) (x y : D) : Option D := match viewM S x, y with
  | .int a, .int b => if (-big < a ∧ a < big) ∨ (-big < b ∧ b < big) then some (.int (a * b)) else none
  | .lst a, .int b => if -1000 < b ∧ b < 1000 ∧ a.length ≤ 1000 then some (.lst ((List.replicate b.toNat a).flatten)) else none
  | .str a, .int b => if -1000 < b ∧ b < 1000 ∧ a.length ≤ 1000 then some (.str ((List.replicate b.toNat a).flatten)) else none
  | _, _ => none
def oDiv (_ : Store) (x y : D) : Option D := match x, y with
  | .int a, .int b => if b ≠ 0 ∧ b.natAbs < 1073741824 then some (.int (a.fdiv b)) else none
  | _, _ => none
def oMod (_ : Store) (x y : D) : Option D := match x, y with
  | .int a, .int b => if b ≠ 0 then some (.int (a.fmod b)) else none
  | _, _ => none
def oPow (_ : Store) (x y : D) : Option D := match x, y with
  | .int a, .int b => if 0 ≤ b ∧ b ≤ 1000 ∧ -big < a ∧ a < big then some (.int (a ^ b.toNat)) else none
  | _, _ => none
def cmpI (f : Int → Int → Bool) (_ : Store) (x y : D) : Option D := match x, y with
  | .int a, .int b => some (.bl (f a b))
  | _, _ => none
def oLt := cmpI fun a b => decide (a < b)
def oLe := cmpI fun a b => decide (a ≤ b)
def oGt := cmpI fun a b => decide (b < a)
def oGe := cmpI fun a b => decide (b ≤ a)
def flatD : D → Bool
  | .non | .bl _ | .int _ | .str _ => true
  | _ => false
def inL (x : D) : List D → Bool
  | [] => false
  | y :: ys => eqD y x || inL x ys
def keyD : D → Option K1
  | .int i => some (.i i)
  | .str t => some (.s t)
  | _ => none
/-- a tuple as a key -/
def keysL : List D → Option (List K1)
  | [] => some []
  | x :: r => match keyD x, keysL r with
    | some k, some ks => some (k :: ks)
    | _, _ => none
def keyT : D → Option (List K1)
  | .tup xs => keysL xs
  | _ => none
section
variable {κ : Type} [DecidableEq κ]
def hasK (k : κ) : List (κ × D) → Bool
  | [] => false
  | p :: r => decide (p.1 = k) || hasK k r
def getK (k : κ) : List (κ × D) → Option D
  | [] => none
  | p :: r => if p.1 = k then some p.2 else getK k r
def putK (k : κ) (v : D) (l : List (κ × D)) : List (κ × D) := if hasK k l = true then l.map fun p => if p.1 = k then (p.1, v) else p else l ++ [(k, v)]
def delK (k : κ) (l : List (κ × D)) : List (κ × D) := l.filter fun p => decide (p.1 ≠ k)
def mergeK (l : List (κ × D)) (more : List (κ × D)) : List (κ × D) := more.foldl (fun acc p => putK p.1 p.2 acc) l
end
def dK : K1 → D
  | .i n => .int n
  | .s t => .str t
def dKT (k : List K1) : D := .tup (k.map dK)
/-- what the dict x holds at y -/
def dlook (S : Store) (x y : D) : Option (Option D) := match view S x with
  | .dct kvs => (keyD y).map fun k => getK k kvs
  | .dctT kvs => (keyT y).map fun k => getK k kvs
  | _ => none
/-- x in a list or tuple of flat things -/
def inSV (S : Store) (x y : D) : Option Bool := match view S y with
  | .dct kvs => (keyD x).map fun k => (getK k kvs).isSome
  | .dctT kvs => (keyT x).map fun k => (getK k kvs).isSome
  | .str t => match x with
    | .str [c] => some (t.contains c)
    | _ => none
  | .lst xs => if flatD x && xs.all flatD then some (inL x xs) else none
  | .tup xs => if flatD x && xs.all flatD then some (inL x xs) else none
  | _ => none
def oInS (S : Store) (x y : D) : Option D := (inSV S x y).map .bl
def oNotInS (S : Store) (x y : D) : Option D := (inSV S x y).map fun b => .bl (!b)
/-- is it None -/
def nonD (S : Store) : D → Option Bool
  | .non => some true
  | .obj r => match S[r]? with
    | some .dead => none
    | some _ => some false
    | none => none
  | _ => some false
def oIsN (S : Store) (x y : D) : Option D := match y with
  | .non => (nonD S x).map .bl
  | _ => none
def oNotN (S : Store) (x y : D) : Option D := match y with
  | .non => (nonD S x).map fun b => .bl (!b)
  | _ => none
def uNeg (_ : Store) (x : D) : Option D := match x with
  | .int a => some (.int (-a))
  | _ => none
def uNot (_ : Store) (x : D) : Option D := match x with
  | .bl a => some (.bl (!a))
  | _ => none
/-- the item at i, from behind below nought -/
def ixZ (n : Nat) (i : Int) : Option Nat := if 0 ≤ i then (if i < n then some i.toNat else none) else if -(n : Int) ≤ i then some (i + n).toNat else none
def atZ {α : Type} (xs : List α) (i : Int) : Option α := (ixZ xs.length i).bind fun j => xs[j]?
/-- of lists and tuples alone -/
def oIxQ (S : Store) (x y : D) : Option D := match view S x, y with
  | .lst xs, .int i => atZ xs i
  | .tup xs, .int i => atZ xs i
  | _, _ => none
def oIx (S : Store) (x y : D) : Option D := match view S x, y with
  | .lst xs, .int i => atZ xs i
  | .tup xs, .int i => atZ xs i
  | .str t, .int i => if t.length ≤ 100000 then (atZ t i).map fun c => .str [c] else none
  | .dct kvs, y => (keyD y).bind fun k => getK k kvs
  | .dctT kvs, y => (keyT y).bind fun k => getK k kvs
  | _, _ => none
/-- a slice's ends -/
def cutN (n : Nat) (i : Int) : Nat := if i < 0 then (i + (n : Int)).toNat else min i.toNat n
def cutA (n d : Nat) : Option Int → Nat
  | none => d
  | some i => cutN n i
def cutL {α : Type} (xs : List α) (lo hi : Option Int) : List α := (xs.drop (cutA xs.length 0 lo)).take (cutA xs.length xs.length hi - cutA xs.length 0 lo)
def slD (S : Store) (x : D) (a b : Option Int) : Option D := match view S x with
  | .lst xs => some (.lst (cutL xs a b))
  | .tup xs => some (.tup (cutL xs a b))
  | .str t => if t.length ≤ 1000000 then some (.str (cutL t a b)) else none
  | _ => none
/-- a dict that may change -/
def dctM (S : Store) : D → Option (List (K1 × D))
  | .obj r => match S[r]? with
    | some (.dct k) => some k
    | _ => none
  | _ => none
def dctTM (S : Store) : D → Option (List (List K1 × D))
  | .obj r => match S[r]? with
    | some (.dctT k) => some k
    | _ => none
  | _ => none
/-! ### built-in functions -/
def bLen (S : Store) : List D → Option D
  | [x] => match view S x with
    | .lst xs => some (.int xs.length)
    | .tup xs => some (.int xs.length)
    | .str t => if t.length ≤ 100000 then some (.int t.length) else none
    | _ => match dctM S x with
      | some k => some (.int k.length)
      | none => none
  | _ => none
def bAbs (_ : Store) : List D → Option D
  | [.int i] => some (.int (if i < 0 then -i else i))
  | _ => none
def intsD : List D → Option (List Int)
  | [] => some []
  | .int i :: r => (intsD r).map (i :: ·)
  | _ => none
def maxI : List Int → Int → Int
  | [], m => m
  | x :: r, m => maxI r (if x > m then x else m)
def minI : List Int → Int → Int
  | [], m => m
  | x :: r, m => minI r (if x < m then x else m)
def seqD (S : Store) (x : D) : Option (List D) := match view S x with
  | .lst xs => some xs
  | .tup xs => some xs
  | _ => none
def bMax (S : Store) : List D → Option D
  | [.int i, .int j] => some (.int (if j > i then j else i))
  | [x] => match (match view S x with | .lst xs => intsD xs | _ => none) with
    | some (y :: r) => some (.int (maxI r y))
    | _ => none
  | _ => none
def bMin (S : Store) : List D → Option D
  | [.int i, .int j] => some (.int (if j < i then j else i))
  | [x] => match (match view S x with | .lst xs => intsD xs | _ => none) with
    | some (y :: r) => some (.int (minI r y))
    | _ => none
  | _ => none
def sumI : List Int → Int
  | [] => 0
  | x :: r => x + sumI r
def bSum (S : Store) : List D → Option D
  | [x] => match view S x with
    | .lst xs => (intsD xs).map fun l => .int (sumI l)
    | _ => none
  | _ => none
def bInt (_ : Store) : List D → Option D
  | [.int i] => some (.int i)
  | [.bl b] => some (.int (if b then 1 else 0))
  | _ => none
def bList (S : Store) : List D → Option D
  | [x] => (seqD S x).map .lst
  | _ => none
def bTuple (S : Store) : List D → Option D
  | [x] => (seqD S x).map .tup
  | _ => none
def leI (a b : Int) : Bool := decide (a ≤ b)
def insI (x : Int) : List Int → List Int
  | [] => [x]
  | y :: r => if x ≤ y then x :: y :: r else y :: insI x r
def sortI : List Int → List Int
  | [] => []
  | x :: r => insI x (sortI r)
/-! ### sorting: data by their signs -/
mutual
def tokD : D → List (Int ⊕ Tx)
  | .non => []
  | .bl b => [.inl (if b = true then 1 else 0)]
  | .int n => [.inl n]
  | .str t => [.inr t]
  | .lst xs => tokL xs
  | .tup xs => tokL xs
  | _ => []
def tokL : List D → List (Int ⊕ Tx)
  | [] => [.inl 0]
  | x :: xs => .inl 1 :: (tokD x ++ tokL xs)
end
def ltTok : Int ⊕ Tx → Int ⊕ Tx → Bool
  | .inl a, .inl b => decide (a < b)
  | .inl _, .inr _ => true
  | .inr _, .inl _ => false
  | .inr a, .inr b => decide (a < b)
def lexT : List (Int ⊕ Tx) → List (Int ⊕ Tx) → Bool
  | [], [] => false
  | [], _ :: _ => true
  | _ :: _, [] => false
  | x :: r, y :: t => ltTok x y || (!ltTok y x && lexT r t)
def ltD (x y : D) : Bool := lexT (tokD x) (tokD y)
mutual
def alikeD : D → D → Bool
  | .bl _, .bl _ => true
  | .int _, .int _ => true
  | .str _, .str _ => true
  | .lst xs, .lst ys => alikeL xs ys
  | .tup xs, .tup ys => alikeL xs ys
  | _, _ => false
def alikeL : List D → List D → Bool
  | x :: xs, y :: ys => alikeD x y && alikeL xs ys
  | [], _ => true
  | _ :: _, [] => true
end
def tup1D : D → Bool
  | .tup (_ :: _) => true
  | _ => false
def atomD : D → Bool
  | .bl _ | .int _ | .str _ | .lst _ => true
  | _ => false
def okSort (ds : List D) : Bool := (ds.all fun x => ds.all fun y => alikeD x y) && ((ds.all tup1D || ds.all atomD) && (ds.all (dataN 5) && decide (ds.length ≤ 100000)))
def leR (rev : Bool) (a b : D) : Bool := if rev = true then !ltD a b else !ltD b a
def insB (le : D → D → Bool) (x : D) : List D → List D
  | [] => [x]
  | y :: r => if le x y = true then x :: y :: r else y :: insB le x r
def sortB (le : D → D → Bool) : List D → List D
  | [] => []
  | x :: r => insB le x (sortB le r)
/-- the texts that a dict has as keys -/
def strKeys : List (K1 × D) → Option (List Tx)
  | [] => some []
  | (.s t, _) :: r => (strKeys r).map (t :: ·)
  | _ => none
def bSortedR (rev : Bool) (S : Store) : List D → Option D
  | [x] => match seqD S x with
    | some ds => if okSort ds = true then some (.lst (sortB (leR rev) ds)) else none
    | none => none
  | _ => none
def bSorted (S : Store) : List D → Option D
  | [x] => match view S x with
    | .dct kvs => match strKeys kvs with
      | some ts => if ts.length < 64 then some (.lst (sortB (leR false) (ts.map .str))) else none
      | none => none
    | _ => bSortedR false S [x]
  | _ => none

/-! ### expressions -/
def eV (i : Nat) : ME := fun e S => match e[i]? with
  | some (some d) => .ok d S
  | _ => .bad
def eC (d : D) : ME := fun _ S => .ok d S
def eOp (f : Store → D → D → Option D) (a b : ME) : ME := fun e S => (a e S).bind fun x S1 => (b e S1).bind fun y S2 => ofO (f S2 x y) S2
def eUn (f : Store → D → Option D) (a : ME) : ME := fun e S => (a e S).bind fun x S1 => ofO (f S1 x) S1
def eChain (f g : Store → D → D → Option D) (a b c : ME) : ME := fun e S => (a e S).bind fun x S1 => (b e S1).bind fun y S2 => match f S2 x y with
  | some (.bl true) => (c e S2).bind fun z S3 => ofO (g S3 y z) S3
  | some (.bl false) => .ok (.bl false) S2
  | _ => .bad
def tB (a : ME) : MB := fun e S => (a e S).bind fun x S1 => match x with
  | .bl b => .ok b S1
  | _ => .bad
def tAnd (a b : MB) : MB := fun e S => (a e S).bind fun c S1 => if c = true then b e S1 else .ok false S1
def tOr (a b : MB) : MB := fun e S => (a e S).bind fun c S1 => if c = true then .ok true S1 else b e S1
def tNot (a : MB) : MB := fun e S => (a e S).bind fun c S1 => .ok (!c) S1
def eAnd (a b : ME) : ME := fun e S => (a e S).bind fun x S1 => match x with
  | .bl true => b e S1
  | .bl false => .ok (.bl false) S1
  | _ => .bad
def eOr (a b : ME) : ME := fun e S => (a e S).bind fun x S1 => match x with
  | .bl true => .ok (.bl true) S1
  | .bl false => b e S1
  | _ => .bad
def eIf (t : MB) (a b : ME) : ME := fun e S => (t e S).bind fun c S1 => if c = true then a e S1 else b e S1
def aNil : MA := fun _ S => .ok [] S
def aCons (a : ME) (r : MA) : MA := fun e S => (a e S).bind fun x S1 => (r e S1).bind fun xs S2 => .ok (x :: xs) S2
def eTup (r : MA) : ME := fun e S => (r e S).bind fun xs S1 => if xs.length ≤ 1000 then .ok (.tup xs) S1 else .bad
def eLst (r : MA) : ME := fun e S => (r e S).bind fun xs S1 => if xs.length ≤ 1000 then .ok (.lst xs) S1 else .bad
def oLst (r : MA) : MO := fun e S => (r e S).bind fun xs S1 => if xs.length ≤ 1000 then .ok (.lst xs) S1 else .bad
/-- a fresh thing, laid into the store -/
def eNew (m : MO) : ME := fun e S => (m e S).bind fun o S1 => .ok (.obj S1.length) (S1 ++ [o])
def eCall (f : Fn) (r : MA) : ME := fun e S => (r e S).bind fun ds S1 => f ds S1
def eCB (f : Store → List D → Option D) (r : MA) : ME := fun e S => (r e S).bind fun ds S1 => ofO (f S1 ds) S1
def insAt (S : Store) : D → Option (Nat × Nat × List (Nat × D))
  | .obj r => match S[r]? with
    | some (.ins c fs) => some (r, c, fs)
    | _ => none
  | _ => none
def getF (i : Nat) : List (Nat × D) → Option D
  | [] => none
  | p :: r => if p.1 = i then some p.2 else getF i r
def putF (i : Nat) (v : D) : List (Nat × D) → List (Nat × D)
  | [] => [(i, v)]
  | p :: r => if p.1 = i then (i, v) :: r else p :: putF i v r
def eFld (i : Nat) (a : ME) : ME := fun e S => (a e S).bind fun x S1 => match insAt S1 x with
  | some (_, _, fs) => ofO (getF i fs) S1
  | none => .bad
def eMeth (c : Nat) (f : Fn) (o : ME) (r : MA) : ME := fun e S => (o e S).bind fun x S1 => match insAt S1 x with
  | some (_, c', _) => if c' = c then (r e S1).bind fun ds S2 => f (x :: ds) S2 else .bad
  | none => .bad
def eMake (c : Nat) (f : Fn) (r : MA) : ME := fun e S => (r e S).bind fun ds S1 => (f (.obj S1.length :: ds) (S1 ++ [.ins c []])).bind fun v S2 => match v with
  | .non => .ok (.obj S1.length) S2
  | _ => .bad
def pO : Option ME → Env → Store → Out (Option Int)
  | none => fun _ S => .ok none S
  | some m => fun e S => (m e S).bind fun d S1 => match d with
    | .int i => .ok (some i) S1
    | _ => .bad
def eSl (a : ME) (lo hi : Option ME) : ME := fun e S => (a e S).bind fun x S1 => (pO lo e S1).bind fun l S2 => (pO hi e S2).bind fun h S3 => ofO (slD S3 x l h) S3
/-! ### what is walked: its items, and the place that is locked meanwhile -/
abbrev MI := Env → Store → Out (List D × Option Nat)
def iSeq (a : ME) : MI := fun e S => (a e S).bind fun x S1 => match x with
  | .lst xs => .ok (xs, none) S1
  | .tup xs => .ok (xs, none) S1
  | .str t => .ok (t.map fun c => .str [c], none) S1
  | .obj r => match S1[r]? with
    | some (.lst xs) => .ok (xs, some r) (S1.set r (.lck (.lst xs)))
    | some (.lck (.lst xs)) => .ok (xs, none) S1
    | some (.lck (.dct kvs)) => .ok (kvs.map fun p => dK p.1, none) S1
    | _ => .bad
  | _ => .bad
/-- the values, the pairs of a locked dict -/
def iVals (a : ME) : MI := fun e S => (a e S).bind fun x S1 => match x with
  | .obj r => match S1[r]? with
    | some (.lck (.dct kvs)) => .ok (kvs.map fun p => p.2, none) S1
    | _ => .bad
  | _ => .bad
def iItems (a : ME) : MI := fun e S => (a e S).bind fun x S1 => match x with
  | .obj r => match S1[r]? with
    | some (.lck (.dct kvs)) => .ok (kvs.map fun p => .tup [dK p.1, p.2], none) S1
    | _ => .bad
  | _ => .bad
def rangeL (lo : Int) : Nat → List D
  | 0 => []
  | n + 1 => .int lo :: rangeL (lo + 1) n
def iRange1 (r : MA) : MI := fun e S => (r e S).bind fun ds S1 => match ds with
  | [.int n] => if -1000000 ≤ n ∧ n ≤ 1000000 then .ok (rangeL 0 n.toNat, none) S1 else .bad
  | _ => .bad
def iRange2 (r : MA) : MI := fun e S => (r e S).bind fun ds S1 => match ds with
  | [.int a, .int b] => if -1000000 ≤ a ∧ a ≤ 1000000 ∧ -1000000 ≤ b ∧ b ≤ 1000000 then .ok (rangeL a (b - a).toNat, none) S1 else .bad
  | _ => .bad
def zipD : List D → List D → List D
  | x :: xs, y :: ys => .tup [x, y] :: zipD xs ys
  | _, _ => []
def treeL : D → Option (List D)
  | .lst xs => some xs
  | _ => none
def iZip (r : MA) : MI := fun e S => (r e S).bind fun ds S1 => match ds with
  | [a, b] => match treeL a, treeL b with
    | some xs, some ys => .ok (zipD xs ys, none) S1
    | _, _ => .bad
  | _ => .bad
/-! ### targets -/
abbrev MG := D → Env → Store → Out Env
def gN (i : Nat) : MG := fun x e S => .ok (e.set i (some x)) S
def gAll : List MG → List D → Env → Store → Out Env
  | [], [], e, S => .ok e S
  | g :: gs, x :: xs, e, S => (g x e S).bind fun e1 S1 => gAll gs xs e1 S1
  | _, _, _, _ => .bad
def gT (gs : List MG) : MG := fun x e S => match x with
  | .tup xs => if xs.length = gs.length then gAll gs xs e S else .bad
  | _ => .bad
def wipe (e : Env) : List Nat → Env
  | [] => e
  | v :: vs => (wipe e vs).set v none
def unlockAt (S : Store) : Option Nat → Store
  | none => S
  | some r => match S[r]? with
    | some (.lck o) => S.set r o
    | _ => S
def lcL (g : MG) (t : MB) (m : ME) (e : Env) : List D → Store → List D → Out (List D)
  | [], S, acc => .ok acc S
  | x :: xs, S, acc => match g x e S with
    | .ok e1 S0 => match t e1 S0 with
      | .ok true S1 => match m e1 S1 with
        | .ok y S2 => lcL g t m e xs S2 (acc ++ [y])
        | _ => .bad
      | .ok false S1 => lcL g t m e xs S1 acc
      | _ => .bad
    | _ => .bad
def tYes : MB := fun _ S => .ok true S
def eLC (vs : List Nat) (it : MI) (g : MG) (t : MB) (m : ME) : ME := fun e S => (it e S).bind fun p S1 => if 100000 < p.1.length then .bad else (lcL g t m (wipe e vs) p.1 S1 []).bind fun ys S2 => .ok (.lst ys) (unlockAt S2 p.2)
/-- any, all, sum of a generator expression whose turns change nothing -/
def turnG (g : MG) (t : MB) (m : ME) (e : Env) (S : Store) (x : D) : Option (Option D) := match g x e S with
  | .ok e1 _ => match t e1 S with
    | .ok true _ => match m e1 S with
      | .ok y _ => some (some y)
      | _ => none
    | .ok false _ => some none
    | _ => none
  | _ => none
/-- what a generator expression gives, all of it -/
def genL (f : D → Option (Option D)) : List D → Option (List D)
  | [] => some []
  | x :: xs => match f x with
    | some (some y) => (genL f xs).map (y :: ·)
    | some none => genL f xs
    | none => none
def boolsD : List D → Option (List Bool)
  | [] => some []
  | .bl b :: r => (boolsD r).map (b :: ·)
  | _ => none
/-- numbers and sums from the left that fit a machine word -/
def fitsL : Int → List Int → Bool
  | _, [] => true
  | a, n :: r => decide (-1000000000000000000 < n ∧ n < 1000000000000000000 ∧ -1000000000000000000 < a + n ∧ a + n < 1000000000000000000) && fitsL (a + n) r
/-- what a generator expression walks -/
abbrev MW := Env → Store → Out (List D)
def gSeq (a : ME) : MW := fun e S => (a e S).bind fun x S1 => match view S1 x with
  | .lst xs => .ok xs S1
  | .tup xs => .ok xs S1
  | _ => .bad
def gZip (r : MA) : MW := fun e S => (r e S).bind fun ds S1 => match ds with
  | [a, b] => match view S1 a, view S1 b with
    | .lst xs, .lst ys => .ok (zipD xs ys) S1
    | _, _ => .bad
  | _ => .bad
/-- the generator expression's own values -/
def mGen (it : MW) (g : MG) (t : MB) (m : ME) : MW := fun e S => (it e S).bind fun p S1 => match genL (turnG g t m e S1) p with
  | some ys => .ok ys S1
  | none => .bad
def eAny (mw : MW) : ME := fun e S => (mw e S).bind fun ys S1 => ofO ((boolsD ys).map fun bs => .bl (bs.any id)) S1
def eAll (mw : MW) : ME := fun e S => (mw e S).bind fun ys S1 => ofO ((boolsD ys).map fun bs => .bl (bs.all id)) S1
def eSum (mw : MW) : ME := fun e S => (mw e S).bind fun ys S1 => ofO ((intsD ys).bind fun ns => if fitsL 0 ns = true then some (.int (sumI ns)) else none) S1
/-- told(lambda: ..): an error's class by the clauses -/
def eTold (sub : Nat → Nat → Bool) (hs : List (Nat × Tx)) (m : ME) : ME := fun e S => match m e S with
  | .ok d S1 => .ok d S1
  | .exc k S1 => match hs.find? fun h => sub k h.1 with
    | some h => .ok (.str h.2) S1
    | none => .bad
  | .bad => .bad

/-! ### statements -/
def sNil : MS := fun e S => .ok (.nx e) S
def sSeq (a b : MS) : MS := fun e S => (a e S).bind fun f S1 => match f with
  | .nx e1 => b e1 S1
  | f => .ok f S1
def sSet (i : Nat) (m : ME) : MS := fun e S => (m e S).bind fun d S1 => .ok (.nx (e.set i (some d))) S1
def sAsg (g : MG) (m : ME) : MS := fun e S => (m e S).bind fun d S1 => (g d e S1).bind fun e1 S2 => .ok (.nx e1) S2
def sPar (i j : Nat) (r : MA) : MS := fun e S => (r e S).bind fun ds S1 => match ds with
  | [v, w] => .ok (.nx ((e.set i (some v)).set j (some w))) S1
  | _ => .bad
def sPar3 (i j k : Nat) (r : MA) : MS := fun e S => (r e S).bind fun ds S1 => match ds with
  | [v, w, u] => .ok (.nx (((e.set i (some v)).set j (some w)).set k (some u))) S1
  | _ => .bad
def iAdd (_ : Store) : D → D → Option D
  | .int a, .int b => some (.int (a + b))
  | _, _ => none
def iSub (_ : Store) : D → D → Option D
  | .int a, .int b => some (.int (a - b))
  | _, _ => none
def sAug (f : Store → D → D → Option D) (i : Nat) (m : ME) : MS := fun e S => match e[i]? with
  | some (some x) => (m e S).bind fun y S1 => match f S1 x y with
    | some z => .ok (.nx (e.set i (some z))) S1
    | none => .bad
  | _ => .bad
def sExpr (m : ME) : MS := fun e S => (m e S).bind fun _ S1 => .ok (.nx e) S1
def sRet (m : ME) : MS := fun e S => (m e S).bind fun d S1 => .ok (.rt d) S1
def sRetN : MS := fun _ S => .ok (.rt .non) S
def sIf (t : MB) (a b : MS) : MS := fun e S => (t e S).bind fun c S1 => if c = true then a e S1 else b e S1
def sRaise (k : Nat) : MS := fun _ S => .exc k S
/-- raise K(arg): the argument is worked out -/
def sRaise1 (k : Nat) (m : ME) : MS := fun e S => (m e S).bind fun _ S1 => .exc k S1
def sBrk : MS := fun e S => .ok (.bk e) S
def sCt : MS := fun e S => .ok (.ct e) S
def sFld (i : Nat) (o v : ME) : MS := fun e S => (v e S).bind fun y S1 => (o e S1).bind fun x S2 => match insAt S2 x with
  | some (r, c, fs) => if fs.length < 1000 then .ok (.nx e) (S2.set r (.ins c (putF i y fs))) else .bad
  | none => .bad
def sFldAug (f : Store → D → D → Option D) (i : Nat) (o v : ME) : MS := fun e S => (o e S).bind fun x S1 => match insAt S1 x with
  | some (_, c0, fs) => match getF i fs with
    | some y => (v e S1).bind fun z S2 => match f S2 y z with
      | some u => match insAt S2 x with
        | some (r, c, fs2) => if c = c0 ∧ fs2.length < 1000 then .ok (.nx e) (S2.set r (.ins c (putF i u fs2))) else .bad
        | none => .bad
      | none => .bad
    | none => .bad
  | none => .bad
def lstAt (S : Store) : D → Option (Nat × List D)
  | .obj r => match S[r]? with
    | some (.lst xs) => some (r, xs)
    | _ => none
  | _ => none
def eAppend (o v : ME) : ME := fun e S => (o e S).bind fun x S1 => match lstAt S1 x with
  | some _ => (v e S1).bind fun y S2 => match lstAt S2 x with
    | some (r, xs) => if xs.length < 100000 then .ok .non (S2.set r (.lst (xs ++ [y]))) else .bad
    | none => .bad
  | none => .bad
/-- o[i] = v, o a list of the store -/
def sSub (o i v : ME) : MS := fun e S => (v e S).bind fun y S1 => (o e S1).bind fun x S2 => (i e S2).bind fun k S3 => match lstAt S3 x with
  | some (r, xs) => match k with
    | .int z => match ixZ xs.length z with
      | some j => .ok (.nx e) (S3.set r (.lst (xs.set j y)))
      | none => .bad
    | _ => .bad
  | none => .bad
def forL (lk : Option Nat) (g : MG) (b : MS) : List D → Env → Store → Out Fl
  | [], e, S => .ok (.nx e) (unlockAt S lk)
  | x :: xs, e, S => (g x e S).bind fun e1 S1 => match b e1 S1 with
      | .ok (.nx e2) S2 => forL lk g b xs e2 S2
      | .ok (.ct e2) S2 => forL lk g b xs e2 S2
      | .ok (.bk e2) S2 => .ok (.nx e2) (unlockAt S2 lk)
      | .ok (.rt d) S2 => .ok (.rt d) (unlockAt S2 lk)
      | r => r
def sFor (it : MI) (g : MG) (b : MS) : MS := fun e S => (it e S).bind fun p S1 => forL p.2 g b p.1 e S1
def sWhile (t : MB) (b : MS) : Nat → MS
  | 0 => fun _ _ => .bad
  | n + 1 => fun e S => (t e S).bind fun c S1 => if c = true then
      match b e S1 with
      | .ok (.nx e2) S2 => sWhile t b n e2 S2
      | .ok (.ct e2) S2 => sWhile t b n e2 S2
      | .ok (.bk e2) S2 => .ok (.nx e2) S2
      | r => r
    else .ok (.nx e) S1
/-- a def: so many names, so many parameters -/
def mkFn (n ar : Nat) (b : MS) : Fn := fun ds S => if ds.length = ar then
    match b (ds.map some ++ List.replicate (n - ds.length) none) S with
    | .ok (.nx _) S1 => .ok .non S1
    | .ok (.rt d) S1 => .ok d S1
    | .exc k S1 => .exc k S1
    | _ => .bad
  else .bad
/-! ### dicts of the store -/
def unlF {α : Type} (r : Nat) : Out α → Out α
  | .ok a S => .ok a (unlockAt S (some r))
  | o => o
/-- a path to a dict -/
abbrev MP := Env → Store → Option Nat
def pV (i : Nat) : MP := fun e _ => match e[i]? with
  | some (some (.obj r)) => some r
  | _ => none
def pF (f i : Nat) : MP := fun e S => match e[i]? with
  | some (some x) => match insAt S x with
    | some (_, _, fs) => match getF f fs with
      | some (.obj r) => some r
      | _ => none
    | none => none
  | _ => none
def dctR (p : MP) (e : Env) (S : Store) : Option (Nat × List (K1 × D)) := match p e S with
  | some r => match S[r]? with
    | some (.dct kvs) => some (r, kvs)
    | _ => none
  | none => none
/-- while the dict is locked -/
def sLk (p : MP) (m : MS) : MS := fun e S => match dctR p e S with
  | some (r, kvs) => unlF r (m e (S.set r (.lck (.dct kvs))))
  | none => m e S
def eLk (p : MP) (m : ME) : ME := fun e S => match dctR p e S with
  | some (r, kvs) => unlF r (m e (S.set r (.lck (.dct kvs))))
  | none => m e S
def oDct0 : MO := fun _ S => .ok (.dct []) S
def oDctT0 : MO := fun _ S => .ok (.dctT []) S
/-- a fresh thing from a built-in function -/
def oCB (f : Store → List D → Option Ob) (r : MA) : MO := fun e S => (r e S).bind fun ds S1 => ofO (f S1 ds) S1
def pairsD : List D → Option (List (K1 × D))
  | [] => some []
  | .tup [k, v] :: r => match keyD k, pairsD r with
    | some k, some l => some ((k, v) :: l)
    | _, _ => none
  | _ => none
def lstV (S : Store) (x : D) : Option (List D) := match view S x with
  | .lst xs => some xs
  | _ => none
def nDictP (S : Store) : List D → Option Ob
  | [x] => (lstV S x).bind fun xs => (pairsD xs).map fun kvs => .dct (mergeK [] kvs)
  | _ => none
def nDictC (S : Store) : List D → Option Ob
  | [x] => match view S x with
    | .dct kvs => some (.dct kvs)
    | _ => none
  | _ => none
def nList (S : Store) : List D → Option Ob
  | [x] => (seqD S x).map .lst
  | _ => none
/-- {k: v, ..} -/
def aPairs : List (ME × ME) → Env → Store → Out (List (K1 × D))
  | [], _, S => .ok [] S
  | (k, v) :: r, e, S => (k e S).bind fun x S1 => (v e S1).bind fun y S2 => (aPairs r e S2).bind fun l S3 => match keyD x with
    | some k => .ok ((k, y) :: l) S3
    | none => .bad
def oDisp (ps : List (ME × ME)) : MO := fun e S => (aPairs ps e S).bind fun l S1 => .ok (.dct (mergeK [] l)) S1
/-- the store behind x[k] = y -/
def dput (S : Store) (x k y : D) : Option Store := match x with
  | .obj r => match S[r]? with
    | some (.dct kvs) => (keyD k).bind fun kk => if kvs.length < 100000 then some (S.set r (.dct (putK kk y kvs))) else none
    | some (.dctT kvs) => (keyT k).bind fun kk => if kvs.length < 100000 then some (S.set r (.dctT (putK kk y kvs))) else none
    | _ => none
  | _ => none
def sPutD (o i v : ME) : MS := fun e S => (v e S).bind fun y S1 => (o e S1).bind fun x S2 => (i e S2).bind fun k S3 => match dput S3 x k y with
  | some S4 => .ok (.nx e) S4
  | none => .bad
def sAugD (f : Store → D → D → Option D) (o i v : ME) : MS := fun e S => (o e S).bind fun x S1 => (i e S1).bind fun k S2 => match dlook S2 x k with
  | some (some y) => (v e S2).bind fun z S3 => match f S3 y z with
    | some u => match dput S3 x k u with
      | some S4 => .ok (.nx e) S4
      | none => .bad
    | none => .bad
  | _ => .bad
/-- what x[k] is, and the store without it -/
def dcut (S : Store) (x k : D) : Option (D × Store) := match x with
  | .obj r => match S[r]? with
    | some (.dct kvs) => (keyD k).bind fun kk => (getK kk kvs).map fun v => (v, S.set r (.dct (delK kk kvs)))
    | _ => none
  | _ => none
def sDelD (o i : ME) : MS := fun e S => (o e S).bind fun x S1 => (i e S1).bind fun k S2 => match dcut S2 x k with
  | some (_, S3) => .ok (.nx e) S3
  | none => .bad
def isDict (S : Store) (x : D) : Bool := match view S x with
  | .dct _ => true
  | .dctT _ => true
  | _ => false
def eDPop (o i : ME) : ME := fun e S => (o e S).bind fun x S1 => if isDict S1 x = true then (i e S1).bind fun k S2 => match dcut S2 x k with
    | some (d, S3) => .ok d S3
    | none => .bad
  else .bad
def eDGet2 (o i d : ME) : ME := fun e S => (o e S).bind fun x S1 => if isDict S1 x = true then (i e S1).bind fun k S2 => (d e S2).bind fun z S3 => match dlook S3 x k with
    | some w => .ok (w.getD z) S3
    | none => .bad
  else .bad
/-- what a generator expression over pairs walks -/
def gPairs (a : ME) : MW := fun e S => (a e S).bind fun x S1 => match view S1 x with
  | .lst xs => .ok xs S1
  | _ => .bad
/-! ### built-in functions over dicts -/
def itemsD (kvs : List (K1 × D)) : List D := kvs.map fun p => .tup [dK p.1, p.2]
def eItTup (o : ME) : ME := fun e S => (o e S).bind fun x S1 => match dctM S1 x with
  | some kvs => .ok (.tup (itemsD kvs)) S1
  | none => .bad
def eItSort (o : ME) : ME := fun e S => (o e S).bind fun x S1 => match dctM S1 x with
  | some kvs => if okSort (itemsD kvs) = true then .ok (.lst (sortB (leR false) (itemsD kvs))) S1 else .bad
  | none => .bad
def eVals (f : List Int → Option Int) (o : ME) : ME := fun e S => (o e S).bind fun x S1 => match dctM S1 x with
  | some kvs => ofO (((intsD (kvs.map fun p => p.2)).bind f).map .int) S1
  | none => .bad
def vSum (l : List Int) : Option Int := some (sumI l)
def vMax : List Int → Option Int
  | [] => none
  | y :: r => some (maxI r y)
def vMin : List Int → Option Int
  | [] => none
  | y :: r => some (minI r y)
/-! ### x == {} -/
def eEmp (neg : Bool) (a : ME) : ME := fun e S => (a e S).bind fun x S1 => match view S1 x with
  | .dct kvs => .ok (.bl (if neg = true then !kvs.isEmpty else kvs.isEmpty)) S1
  | _ => .bad
/-- max(list of ints, default=d) -/
def eMaxDef (a d : ME) : ME := fun e S => (a e S).bind fun x S1 => (d e S1).bind fun y S2 => match (match view S2 x with | .lst xs => intsD xs | _ => none) with
  | some [] => .ok y S2
  | some (z :: r) => .ok (.int (maxI r z)) S2
  | none => .bad
/-- sorted(x, reverse=b) -/
def eSortKw (b : Bool) (a : ME) : ME := fun e S => (a e S).bind fun x S1 => ofO (bSortedR b S1 [x]) S1
/-- x in range(a, b) -/
def eInRng (x a b : ME) : ME := fun e S => (x e S).bind fun i S1 => (a e S1).bind fun lo S2 => (b e S2).bind fun hi S3 => match i, lo, hi with
  | .int i, .int lo, .int hi => .ok (.bl (decide (lo ≤ i ∧ i < hi))) S3
  | _, _, _ => .bad
/-- the place of an int in a list of ints -/
def ixOf (i : Int) : List Int → Option Nat
  | [] => none
  | y :: r => if y = i then some 0 else (ixOf i r).map (· + 1)
def eIndex (o a : ME) : ME := fun e S => (o e S).bind fun x S1 => match lstV S1 x with
  | some _ => (a e S1).bind fun y S2 => match lstV S2 x with
    | some xs => match intsD xs, y with
      | some ns, .int i => match ixOf i ns with
        | some j => .ok (.int j) S2
        | none => .bad
      | _, _ => .bad
    | none => .bad
  | none => .bad
/-- a dict's place as a target -/
def gSubD (o i : ME) : MG := fun x e S => (o e S).bind fun v S1 => (i e S1).bind fun k S2 => match dput S2 v k x with
  | some S3 => .ok e S3
  | none => .bad
/-- a list's place as a target -/
def gSubL (o i : ME) : MG := fun x e S => (o e S).bind fun v S1 => (i e S1).bind fun k S2 => match lstAt S2 v with
  | some (r, xs) => match k with
    | .int z => match ixZ xs.length z with
      | some j => .ok e (S2.set r (.lst (xs.set j x)))
      | none => .bad
    | _ => .bad
  | none => .bad
/-! ### more walks -/
def enumD (n : Nat) : List D → List D
  | [] => []
  | x :: r => .tup [.int n, x] :: enumD (n + 1) r
def iEnum (r : MA) : MI := fun e S => (r e S).bind fun ds S1 => match ds with
  | [a] => match treeL a with
    | some xs => .ok (enumD 0 xs, none) S1
    | none => .bad
  | _ => .bad
def iRevS (r : MA) : MI := fun e S => (r e S).bind fun ds S1 => match ds with
  | [a] => match treeL a with
    | some xs => .ok (xs.reverse, none) S1
    | none => .bad
  | _ => .bad
/-! ### sorted(.., key=lambda), min(.., key=lambda) -/
def walkD (S : Store) (x : D) : Option (List D) := match view S x with
  | .lst xs => some xs
  | .tup xs => some xs
  | .dct kvs => some (kvs.map fun p => dK p.1)
  | _ => none
/-- each with its key -/
def keysG (i : Nat) (m : ME) (e : Env) (S : Store) : List D → Option (List (D × D))
  | [] => some []
  | x :: r => match m (e.set i (some x)) S with
    | .ok k _ => (keysG i m e S r).map ((k, x) :: ·)
    | _ => none
mutual
def noLst : D → Bool
  | .non | .bl _ | .int _ | .str _ => true
  | .tup xs => noLstL xs
  | _ => false
def noLstL : List D → Bool
  | [] => true
  | x :: xs => noLst x && noLstL xs
end
def okKeys (ps : List (D × D)) : Bool := okSort (ps.map fun p => p.1) && ps.all fun p => noLst p.1
def insK (x : D × D) : List (D × D) → List (D × D)
  | [] => [x]
  | y :: r => if leR false x.1 y.1 = true then x :: y :: r else y :: insK x r
def sortK : List (D × D) → List (D × D)
  | [] => []
  | x :: r => insK x (sortK r)
def minK : List (D × D) → D × D → D × D
  | [], b => b
  | p :: r, b => minK r (if ltD p.1 b.1 = true then p else b)
def keyed (i : Nat) (m : ME) (e : Env) (S : Store) (x : D) : Option (List (D × D)) := (walkD S x).bind fun ds => (keysG i m e S ds).bind fun ps => if okKeys ps = true then some ps else none
def eSortKey (i : Nat) (m a : ME) : ME := fun e S => (a e S).bind fun x S1 => ofO ((keyed i m e S1 x).map fun ps => .lst ((sortK ps).map fun p => p.2)) S1
def eMinKey (i : Nat) (m a : ME) : ME := fun e S => (a e S).bind fun x S1 => ofO ((keyed i m e S1 x).bind fun ps => match ps with
  | [] => none
  | p :: r => some (minK r p).2) S1
/-- of lists, tuples, texts, dicts with plain keys -/
def oIxK (S : Store) (x y : D) : Option D := match view S x, y with
  | .lst xs, .int i => atZ xs i
  | .tup xs, .int i => atZ xs i
  | .str t, .int i => if t.length ≤ 100000 then (atZ t i).map fun c => .str [c] else none
  | .dct kvs, y => (keyD y).bind fun k => getK k kvs
  | _, _ => none
/-! ### list.pop, list(range(..)), quiet operators -/
def eLPop (o : ME) : ME := fun e S => (o e S).bind fun x S1 => match lstAt S1 x with
  | some (r, xs) => match xs[xs.length - 1]? with
    | some y => .ok y (S1.set r (.lst xs.dropLast))
    | none => .bad
  | none => .bad
def eLPopAt (o i : ME) : ME := fun e S => (o e S).bind fun x S1 => match lstAt S1 x with
  | some _ => (i e S1).bind fun k S2 => match lstAt S2 x with
    | some (r, xs) => match k with
      | .int z => match ixZ xs.length z with
        | some j => match xs[j]? with
          | some y => if xs.length ≤ 100000 then .ok y (S2.set r (.lst (xs.eraseIdx j))) else .bad
          | none => .bad
        | none => .bad
      | _ => .bad
    | none => .bad
  | none => .bad
def rng1 : D → Option (List D)
  | .int n => if -1000000 ≤ n ∧ n ≤ 1000000 then some (rangeL 0 n.toNat) else none
  | _ => none
def rng2 : D → D → Option (List D)
  | .int a, .int b => if -1000000 ≤ a ∧ a ≤ 1000000 ∧ -1000000 ≤ b ∧ b ≤ 1000000 then some (rangeL a (b - a).toNat) else none
  | _, _ => none
def eLRng1 (a : ME) : ME := fun e S => (a e S).bind fun x S1 => ofO ((rng1 x).map .lst) S1
def eLRng2 (a b : ME) : ME := fun e S => (a e S).bind fun x S1 => (b e S1).bind fun y S2 => ofO ((rng2 x y).map .lst) S2
def oLRng1 (a : ME) : MO := fun e S => (a e S).bind fun x S1 => ofO ((rng1 x).map .lst) S1
def eLRev (a : ME) : ME := fun e S => (a e S).bind fun x S1 => ofO ((lstV S1 x).map fun xs => .lst xs.reverse) S1
def kMul (_ : Store) (x y : D) : Option D := match x, y with
  | .int a, .int b => if (-big < a ∧ a < big) ∨ (-big < b ∧ b < big) then some (.int (a * b)) else none
  | _, _ => none
def kEqB : D → D → Option Bool
  | .int a, .int b => some (decide (a = b))
  | .str a, .str b => some (decide (a = b))
  | _, _ => none
def kEq (_ : Store) (x y : D) : Option D := (kEqB x y).map .bl
def kNe (_ : Store) (x y : D) : Option D := (kEqB x y).map fun b => .bl (!b)
end Sm
end

section
set_option Elab.async false
set_option linter.all false
set_option autoImplicit false
set_option maxRecDepth 100000
set_option maxHeartbeats 4000000
namespace Sm
open PySem L2
/-! ### what stands for what -/
def sS (t : Tx) : Str := ⟨t.toArray⟩
def kK : K1 → Key
  | .i n => .inl n
  | .s t => .inr (sS t)
theorem sS_inj {a b : Tx} (h : sS a = sS b) : a = b := by
  have := congrArg (fun s : Str => s.cps.toList) h
  simpa [sS] using this
structure Gx where
  K : PySem.W.Frag
  fn : Nat → Str
  cl : Nat → Addr
  ex : Nat → Addr
  tabs : List (Addr × Str)
  fni : ∀ i j, fn i = fn j → i = j
structure Ct where
  ι : Nat → Addr
  S : Store
  H : Hp
  rs : List Addr
def Ct.live (c : Ct) (r : Nat) : Prop := ∃ o, c.S[r]? = some o ∧ o ≠ Ob.dead
def Ct.free (c : Ct) (a : Addr) : Prop := a ∉ c.rs ∧ ∀ r, c.live r → c.ι r ≠ a
mutual
def Rep (c : Ct) : D → V → Prop
  | .non, v => v = .non
  | .bl b, v => v = .bl b
  | .int i, v => v = .int i
  | .str t, v => v = .str (sS t)
  | .lst ds, v => ∃ a vs, v = .ref a ∧ c.free a ∧ c.H a = some (.lst vs) ∧ RepL c ds vs
  | .tup ds, v => ∃ a vs, v = .ref a ∧ c.free a ∧ c.H a = some (.tup vs) ∧ RepL c ds vs
  | .dct kvs, v => ∃ a us, v = .ref a ∧ c.free a ∧ Rd c.H a (.dK us) ∧ RepK c kvs us
  | .dctT kvs, v => ∃ a us, v = .ref a ∧ c.free a ∧ Rd c.H a (.dT us) ∧ RepKT c kvs us
  | .obj r, v => r < c.S.length ∧ (c.live r → v = .ref (c.ι r))
def RepL (c : Ct) : List D → List V → Prop
  | [], vs => vs = []
  | d :: ds, vs => ∃ v r, vs = v :: r ∧ Rep c d v ∧ RepL c ds r
def RepK (c : Ct) : List (K1 × D) → List (Key × V) → Prop
  | [], us => us = []
  | (k, d) :: ds, us => ∃ v r, us = (kK k, v) :: r ∧ Rep c d v ∧ RepK c ds r
def RepKT (c : Ct) : List (List K1 × D) → List (List Key × V) → Prop
  | [], us => us = []
  | (k, d) :: ds, us => ∃ v r, us = (k.map kK, v) :: r ∧ Rep c d v ∧ RepKT c ds r
end
def RepF (g : Gx) (c : Ct) : List (Nat × D) → List (Str × V) → Prop
  | [], us => us = []
  | (k, d) :: ds, us => ∃ v r, us = (g.fn k, v) :: r ∧ Rep c d v ∧ RepF g c ds r
def isT : HO → Prop
  | .lst _ => True
  | .tup _ => True
  | _ => False
def isD : HO → Prop
  | .dK _ => True
  | .dT _ => True
  | _ => False
/-- no table -/
def nT (o : HO) : Prop := ∀ ps, o ≠ .tbl ps
/-- c' is later than c -/
structure Lw (c c' : Ct) : Prop where
  len : c.S.length ≤ c'.S.length
  liv : ∀ r, r < c.S.length → c'.live r → c.live r ∧ c'.ι r = c.ι r
  sur : ∀ a o, c.H a = some o → nT o → ∃ o', c'.H a = some o' ∧ nT o'
  fre : ∀ a o, c.free a → c.H a = some o → nT o → c'.free a
  tre : ∀ a u, isT u → c.free a → c.H a = some u → c'.H a = some u
  trd : ∀ a u, isD u → c.free a → Rd c.H a u → Rd c'.H a u
/-- .. and what is locked is locked still -/
structure Le (c c' : Ct) : Prop extends Lw c c' where
  lkd : ∀ (r : Nat) (o : Ob), c.S[r]? = some (Ob.lck o) → c'.S[r]? = some (Ob.lck o)
  fzn : ∀ (a : Addr) (ob : Obj) (u : HO), c.H a = some (.frz ob u) → c'.H a = some (.frz ob u)
theorem rd_some {H : Hp} {a : Addr} {u : HO} (h : Rd H a u) : ∃ o, H a = some o := by
  rcases h with h | ⟨o, h⟩
  · exact ⟨_, h⟩
  · exact ⟨_, h⟩
theorem isT_nT {u : HO} (t : isT u) : nT u := fun ps z => by subst z; exact t
theorem rd_nT {H : Hp} {a : Addr} {u : HO} (t : isD u) (h : Rd H a u) : ∃ o, H a = some o ∧ nT o := by
  rcases h with h | ⟨o, h⟩
  · exact ⟨_, h, fun ps z => by subst z; exact t⟩
  · exact ⟨_, h, fun ps z => by cases z⟩
theorem Le.refl (c : Ct) : Le c c := ⟨⟨Nat.le_refl _, fun _ _ h => ⟨h, rfl⟩, fun _ o h t => ⟨o, h, t⟩, fun _ _ h _ _ => h, fun _ _ _ _ h' => h', fun _ _ _ _ h' => h'⟩, fun _ _ h => h, fun _ _ _ h => h⟩
theorem Le.trans {a b c : Ct} (x : Le a b) (y : Le b c) : Le a c where
  len := Nat.le_trans x.len y.len
  liv := fun r hr hl => by
    obtain ⟨h1, e1⟩ := y.liv r (Nat.lt_of_lt_of_le hr x.len) hl
    obtain ⟨h2, e2⟩ := x.liv r hr h1
    exact ⟨h2, e1.trans e2⟩
  sur := fun p o h t => by
    obtain ⟨o1, h1, t1⟩ := x.sur p o h t
    exact y.sur p o1 h1 t1
  fre := fun p o hf hr t => by
    obtain ⟨o1, h1, t1⟩ := x.sur p o hr t
    exact y.fre p o1 (x.fre p o hf hr t) h1 t1
  tre := fun p u t hf hr => y.tre p u t (x.fre p _ hf hr (isT_nT t)) (x.tre p u t hf hr)
  trd := fun p u t hf hr => by
    obtain ⟨o, e, n⟩ := rd_nT t hr
    exact y.trd p u t (x.fre p o hf e n) (x.trd p u t hf hr)
  lkd := fun r o h => y.lkd r o (x.lkd r o h)
  fzn := fun a ob u h => y.fzn a ob u (x.fzn a ob u h)
mutual
theorem Rep.monoW {c c' : Ct} (l : Lw c c') : ∀ (d : D) (v : V), Rep c d v → Rep c' d v
  | .non, v, h => by unfold Rep at h ⊢; exact h
  | .bl b, v, h => by unfold Rep at h ⊢; exact h
  | .int i, v, h => by unfold Rep at h ⊢; exact h
  | .str t, v, h => by unfold Rep at h ⊢; exact h
  | .lst ds, v, h => by
    unfold Rep at h ⊢
    obtain ⟨a, vs, e, f, r, q⟩ := h
    exact ⟨a, vs, e, l.fre a _ f r (fun _ z => by cases z), l.tre a (.lst vs) trivial f r, RepL.monoW l ds vs q⟩
  | .tup ds, v, h => by
    unfold Rep at h ⊢
    obtain ⟨a, vs, e, f, r, q⟩ := h
    exact ⟨a, vs, e, l.fre a _ f r (fun _ z => by cases z), l.tre a (.tup vs) trivial f r, RepL.monoW l ds vs q⟩
  | .dct ds, v, h => by
    unfold Rep at h ⊢
    obtain ⟨a, vs, e, f, r, q⟩ := h
    obtain ⟨o, eo, no⟩ := rd_nT (u := .dK vs) trivial r
    exact ⟨a, vs, e, l.fre a o f eo no, l.trd a (.dK vs) trivial f r, RepK.monoW l ds vs q⟩
  | .dctT ds, v, h => by
    unfold Rep at h ⊢
    obtain ⟨a, vs, e, f, r, q⟩ := h
    obtain ⟨o, eo, no⟩ := rd_nT (u := .dT vs) trivial r
    exact ⟨a, vs, e, l.fre a o f eo no, l.trd a (.dT vs) trivial f r, RepKT.monoW l ds vs q⟩
  | .obj r, v, h => by
    unfold Rep at h ⊢
    refine ⟨Nat.lt_of_lt_of_le h.1 l.len, fun hl => ?_⟩
    obtain ⟨h1, e⟩ := l.liv r h.1 hl
    rw [e]
    exact h.2 h1
theorem RepL.monoW {c c' : Ct} (l : Lw c c') : ∀ (ds : List D) (vs : List V), RepL c ds vs → RepL c' ds vs
  | [], vs, h => by unfold RepL at h ⊢; exact h
  | d :: ds, vs, h => by
    unfold RepL at h ⊢
    obtain ⟨v, r, e, h1, h2⟩ := h
    exact ⟨v, r, e, Rep.monoW l d v h1, RepL.monoW l ds r h2⟩
theorem RepK.monoW {c c' : Ct} (l : Lw c c') : ∀ (ds : List (K1 × D)) (vs : List (Key × V)), RepK c ds vs → RepK c' ds vs
  | [], vs, h => by unfold RepK at h ⊢; exact h
  | (k, d) :: ds, vs, h => by
    unfold RepK at h ⊢
    obtain ⟨v, r, e, h1, h2⟩ := h
    exact ⟨v, r, e, Rep.monoW l d v h1, RepK.monoW l ds r h2⟩
theorem RepKT.monoW {c c' : Ct} (l : Lw c c') : ∀ (ds : List (List K1 × D)) (vs : List (List Key × V)), RepKT c ds vs → RepKT c' ds vs
  | [], vs, h => by unfold RepKT at h ⊢; exact h
  | (k, d) :: ds, vs, h => by
    unfold RepKT at h ⊢
    obtain ⟨v, r, e, h1, h2⟩ := h
    exact ⟨v, r, e, Rep.monoW l d v h1, RepKT.monoW l ds r h2⟩
end
theorem RepF.monoW {g : Gx} {c c' : Ct} (l : Lw c c') : ∀ (ds : List (Nat × D)) (vs : List (Str × V)), RepF g c ds vs → RepF g c' ds vs
  | [], vs, h => h
  | (k, d) :: ds, vs, h => by
    obtain ⟨v, r, e, h1, h2⟩ := h
    exact ⟨v, r, e, Rep.monoW l d v h1, RepF.monoW l ds r h2⟩
theorem Rep.mono {c c' : Ct} (l : Le c c') (d : D) (v : V) (h : Rep c d v) : Rep c' d v := Rep.monoW l.toLw d v h
theorem RepL.mono {c c' : Ct} (l : Le c c') (d : List D) (v : List V) (h : RepL c d v) : RepL c' d v := RepL.monoW l.toLw d v h
theorem RepK.mono {c c' : Ct} (l : Le c c') (d : List (K1 × D)) (v : List (Key × V)) (h : RepK c d v) : RepK c' d v := RepK.monoW l.toLw d v h
theorem RepKT.mono {c c' : Ct} (l : Le c c') (d : List (List K1 × D)) (v : List (List Key × V)) (h : RepKT c d v) : RepKT c' d v := RepKT.monoW l.toLw d v h
theorem RepF.mono {g : Gx} {c c' : Ct} (l : Le c c') (d : List (Nat × D)) (v : List (Str × V)) (h : RepF g c d v) : RepF g c' d v := RepF.monoW l.toLw d v h
/-- what stands at an object's place -/
def RepO (g : Gx) (c : Ct) : Ob → Addr → Prop
  | .dead, _ => True
  | .lst ds, a => ∃ vs, c.H a = some (.lst vs) ∧ RepL c ds vs
  | .dct kvs, a => ∃ us, c.H a = some (.dK us) ∧ RepK c kvs us
  | .dctT kvs, a => ∃ us, c.H a = some (.dT us) ∧ RepKT c kvs us
  | .ins k fs, a => ∃ dx us, c.H a = some (.ins (g.cl k) dx us) ∧ RepF g c fs us
  | .lck (.lst ds), a => ∃ vs, c.H a = some (.lst vs) ∧ RepL c ds vs
  | .lck (.lck (.lst ds)), a => ∃ vs, Rd c.H a (.lst vs) ∧ RepL c ds vs
  | .lck (.dct kvs), a => ∃ ob us, c.H a = some (.frz ob (.dK us)) ∧ RepK c kvs us
  | .lck (.dctT kvs), a => ∃ ob us, c.H a = some (.frz ob (.dT us)) ∧ RepKT c kvs us
  | .lck _, _ => False
structure Ok (g : Gx) (c : Ct) : Prop where
  inj : ∀ r s, c.live r → c.live s → c.ι r = c.ι s → r = s
  at_ : ∀ r o, c.S[r]? = some o → RepO g c o (c.ι r)
  rsv : ∀ r, c.live r → c.ι r ∉ c.rs
  tabs : LamX.Tabs g.tabs c.H
  rsh : ∀ p, p ∈ c.rs → ∃ o, c.H p = some o ∧ ∀ ps, o ≠ .tbl ps
theorem RepO.monoW {g : Gx} {c c' : Ct} (l : Lw c c') {a : Addr} (e : c'.H a = c.H a) : ∀ {o : Ob}, RepO g c o a → RepO g c' o a
  | .dead, _ => trivial
  | .lst ds, ⟨vs, h1, h2⟩ => ⟨vs, e.trans h1, RepL.monoW l _ _ h2⟩
  | .dct ds, ⟨vs, h1, h2⟩ => ⟨vs, e.trans h1, RepK.monoW l _ _ h2⟩
  | .dctT ds, ⟨vs, h1, h2⟩ => ⟨vs, e.trans h1, RepKT.monoW l _ _ h2⟩
  | .ins k fs, ⟨dx, us, h1, h2⟩ => ⟨dx, us, e.trans h1, RepF.monoW l _ _ h2⟩
  | .lck (.lst ds), ⟨vs, h1, h2⟩ => ⟨vs, e.trans h1, RepL.monoW l _ _ h2⟩
  | .lck (.dct ds), ⟨ob, vs, h1, h2⟩ => ⟨ob, vs, e.trans h1, RepK.monoW l _ _ h2⟩
  | .lck (.dctT ds), ⟨ob, vs, h1, h2⟩ => ⟨ob, vs, e.trans h1, RepKT.monoW l _ _ h2⟩
  | .lck (.lck (.lst ds)), ⟨vs, h1, h2⟩ => ⟨vs, by
      rcases h1 with h1 | ⟨x, h1⟩
      · exact .inl (e.trans h1)
      · exact .inr ⟨x, e.trans h1⟩, RepL.monoW l _ _ h2⟩
  | .lck .dead, h => h.elim
  | .lck (.ins _ _), h => h.elim
  | .lck (.lck .dead), h => h.elim
  | .lck (.lck (.ins _ _)), h => h.elim
  | .lck (.lck (.dct _)), h => h.elim
  | .lck (.lck (.dctT _)), h => h.elim
  | .lck (.lck (.lck _)), h => h.elim
theorem RepO.mono {g : Gx} {c c' : Ct} (l : Le c c') {a : Addr} (e : c'.H a = c.H a) {o : Ob} (h : RepO g c o a) : RepO g c' o a := RepO.monoW l.toLw e h
theorem RepO.some {g : Gx} {c : Ct} {a : Addr} : ∀ {o : Ob}, o ≠ .dead → RepO g c o a → ∃ u, c.H a = Option.some u
  | .dead, n, _ => absurd rfl n
  | .lst ds, _, ⟨vs, h1, h2⟩ => ⟨_, h1⟩
  | .dct ds, _, ⟨vs, h1, h2⟩ => ⟨_, h1⟩
  | .dctT ds, _, ⟨vs, h1, h2⟩ => ⟨_, h1⟩
  | .ins k fs, _, ⟨dx, us, h1, h2⟩ => ⟨_, h1⟩
  | .lck (.lst ds), _, ⟨vs, h1, h2⟩ => ⟨_, h1⟩
  | .lck (.dct ds), _, ⟨ob, vs, h1, h2⟩ => ⟨_, h1⟩
  | .lck (.dctT ds), _, ⟨ob, vs, h1, h2⟩ => ⟨_, h1⟩
  | .lck (.lck (.lst ds)), _, ⟨vs, h1, h2⟩ => rd_some h1
  | .lck .dead, _, h => h.elim
  | .lck (.ins _ _), _, h => h.elim
  | .lck (.lck .dead), _, h => h.elim
  | .lck (.lck (.ins _ _)), _, h => h.elim
  | .lck (.lck (.dct _)), _, h => h.elim
  | .lck (.lck (.dctT _)), _, h => h.elim
  | .lck (.lck (.lck _)), _, h => h.elim
/-- the place of a living thing is known -/
theorem Ok.held {g : Gx} {c : Ct} (ok : Ok g c) {r : Nat} (h : c.live r) : ∃ o, c.H (c.ι r) = some o := by
  obtain ⟨o, e, n⟩ := h
  exact RepO.some n (ok.at_ r o e)
theorem rd_ext {H : Hp} {p a : Addr} {u o : HO} (hn : H p = none) (h : Rd H a u) : Rd (upd H p o) a u ∧ p ≠ a := by
  have hne : a ≠ p := by
    obtain ⟨x, e⟩ := rd_some h
    exact ne_of_none e hn
  refine ⟨?_, hne.symm⟩
  rcases h with h | ⟨x, h⟩
  · exact .inl (by rw [upd_ne hne]; exact h)
  · exact .inr ⟨x, by rw [upd_ne hne]; exact h⟩
theorem tabs_new {T : List (Addr × Str)} {H : Hp} {p : Addr} {o : HO} (hn : H p = none) (t : LamX.Tabs T H) : LamX.Tabs T (upd H p o) :=
  t.ext fun b u e => by rw [upd_ne (ne_of_none e hn)]; exact e
theorem sur_upd {H : Hp} {p : Addr} {u : HO} (hu : nT u) (a : Addr) (o : HO) (h : H a = some o) (t : nT o) : ∃ o', upd H p u a = some o' ∧ nT o' := by
  by_cases z : a = p
  · subst z; exact ⟨u, upd_same, hu⟩
  · exact ⟨o, by rw [upd_ne z]; exact h, t⟩
theorem rd_upd {H : Hp} {p a : Addr} {u o : HO} (hne : a ≠ p) (h : Rd H a u) : Rd (upd H p o) a u := by
  rcases h with h | ⟨x, h⟩
  · exact .inl (by rw [upd_ne hne]; exact h)
  · exact .inr ⟨x, by rw [upd_ne hne]; exact h⟩
/-- a new thing that nobody owns -/
theorem Le.new {c : Ct} {p : Addr} {o : HO} (hn : c.H p = none) (hnt : nT o := by intro _ z; cases z) : Le c { c with H := upd c.H p o } :=
  ⟨⟨Nat.le_refl _, fun _ _ h => ⟨h, rfl⟩, sur_upd hnt, fun _ _ h _ _ => h, fun a u _ f r => by show upd c.H p o a = _; rw [upd_ne (ne_of_none r hn)]; exact r, fun a u _ f r => (rd_ext hn r).1⟩, fun _ _ h => h, fun a ob u h => by show upd c.H p o a = _; rw [upd_ne (ne_of_none h hn)]; exact h⟩
theorem Ok.new {g : Gx} {c : Ct} (ok : Ok g c) {p : Addr} {o : HO} (hn : c.H p = none) (hnt : nT o := by intro _ z; cases z) : Ok g { c with H := upd c.H p o } where
  inj := ok.inj
  at_ := fun r x e => by
    by_cases hd : x = Ob.dead
    · subst hd; trivial
    · refine RepO.mono (Le.new hn hnt) ?_ (ok.at_ r x e)
      obtain ⟨y, hy⟩ := ok.held ⟨x, e, hd⟩
      exact upd_ne (ne_of_none hy hn)
  rsv := ok.rsv
  tabs := tabs_new hn ok.tabs
  rsh := fun q hq => by
    obtain ⟨x, e, nt⟩ := ok.rsh q hq
    exact ⟨x, by show upd c.H p o q = _; rw [upd_ne (ne_of_none e hn)]; exact e, nt⟩
theorem rd_no {H : Hp} {p : Addr} (h : H p = none) (u : HO) : ¬ Rd H p u := fun r => by
  obtain ⟨o, e⟩ := rd_some r
  rw [h] at e; cases e
/-- a new thing laid under reserve -/
theorem Le.newR {c : Ct} {p : Addr} {o : HO} (hn : c.H p = none) (hnt : nT o := by intro _ z; cases z) : Le c { c with H := upd c.H p o, rs := p :: c.rs } :=
  ⟨⟨Nat.le_refl _, fun _ _ h => ⟨h, rfl⟩, sur_upd hnt, fun a x f r _ => ⟨by
    intro hm
    rcases List.mem_cons.mp hm with e | e
    · rw [e, hn] at r; cases r
    · exact f.1 e, f.2⟩, fun a u _ f r => by show upd c.H p o a = _; rw [upd_ne (ne_of_none r hn)]; exact r, fun a u _ f r => (rd_ext hn r).1⟩, fun _ _ h => h, fun a ob u h => by show upd c.H p o a = _; rw [upd_ne (ne_of_none h hn)]; exact h⟩
theorem Ok.newR {g : Gx} {c : Ct} (ok : Ok g c) {p : Addr} {o : HO} (hn : c.H p = none) (hnt : ∀ ps, o ≠ .tbl ps := by intro _ z; cases z) : Ok g { c with H := upd c.H p o, rs := p :: c.rs } where
  inj := ok.inj
  at_ := fun r x e => by
    by_cases hd : x = Ob.dead
    · subst hd; trivial
    · refine RepO.mono (Le.newR hn hnt) ?_ (ok.at_ r x e)
      obtain ⟨y, hy⟩ := ok.held ⟨x, e, hd⟩
      exact upd_ne (ne_of_none hy hn)
  rsv := fun r h hm => by
    rcases List.mem_cons.mp hm with e | e
    · obtain ⟨y, hy⟩ := ok.held h
      rw [e] at hy
      rw [hn] at hy; cases hy
    · exact ok.rsv r h e
  tabs := tabs_new hn ok.tabs
  rsh := fun q hq => by
    by_cases z : q = p
    · subst z; exact ⟨o, upd_same, hnt⟩
    · rcases List.mem_cons.mp hq with e | e
      · exact absurd e z
      · obtain ⟨x, e, nt⟩ := ok.rsh q e
        exact ⟨x, by show upd c.H p o q = _; rw [upd_ne z]; exact e, nt⟩
/-- what is under reserve changes -/
theorem Le.mutR {c : Ct} {p : Addr} {o : HO} (hm : p ∈ c.rs) (hf : ∀ ob u, c.H p ≠ some (.frz ob u)) (hnt : nT o := by intro _ z; cases z) : Le c { c with H := upd c.H p o } :=
  ⟨⟨Nat.le_refl _, fun _ _ h => ⟨h, rfl⟩, sur_upd hnt, fun _ _ h _ _ => h, fun a u t f r => by
    have hne : a ≠ p := fun e => f.1 (e ▸ hm)
    show upd c.H p o a = _
    rw [upd_ne hne]; exact r, fun a u t f r => rd_upd (fun e => f.1 (e ▸ hm)) r⟩, fun _ _ h => h, fun a ob u h => by
    show upd c.H p o a = _
    by_cases z : a = p
    · subst z; exact absurd h (hf ob u)
    · rw [upd_ne z]; exact h⟩
theorem Ok.mutR {g : Gx} {c : Ct} (ok : Ok g c) {p : Addr} {o : HO} (hm : p ∈ c.rs) (ht : ∀ ps, c.H p ≠ some (.tbl ps)) (hc : ∀ q, c.H p ≠ some (LamX.CodeO p q)) (hf : ∀ ob u, c.H p ≠ some (.frz ob u)) (hnt : ∀ ps, o ≠ .tbl ps := by intro _ z; cases z) : Ok g { c with H := upd c.H p o } where
  inj := ok.inj
  at_ := fun r x e => by
    by_cases hd : x = Ob.dead
    · subst hd; trivial
    · refine RepO.mono (Le.mutR hm hf hnt) ?_ (ok.at_ r x e)
      have hne : c.ι r ≠ p := fun z => ok.rsv r ⟨x, e, hd⟩ (z ▸ hm)
      exact upd_ne hne
  rsv := ok.rsv
  tabs := fun q hq => by
    obtain ⟨ps, h1, h2, h3⟩ := ok.tabs q hq
    have n1 : q.1 ≠ p := fun z => ht ps (z ▸ h1)
    refine ⟨ps, by show upd c.H p o q.1 = _; rw [upd_ne n1]; exact h1, h2, fun pos cv hcv => ?_⟩
    obtain ⟨b, e1, e2⟩ := h3 pos cv hcv
    refine ⟨b, e1, ?_⟩
    have n2 : b ≠ p := fun z => hc q.2 (by rw [← z]; exact e2)
    show upd c.H p o b = _
    rw [upd_ne n2]; exact e2
  rsh := fun q hq => by
    by_cases z : q = p
    · subst z; exact ⟨o, upd_same, hnt⟩
    · obtain ⟨x, e, nt⟩ := ok.rsh q hq
      exact ⟨x, by show upd c.H p o q = _; rw [upd_ne z]; exact e, nt⟩
/-- the reserve on p is given up -/
theorem Le.unR {c : Ct} {p : Addr} {l : List Addr} (hr : c.rs = p :: l) : Le c { c with rs := l } :=
  ⟨⟨Nat.le_refl _, fun _ _ h => ⟨h, rfl⟩, fun _ o h t => ⟨o, h, t⟩, fun a x f r _ => ⟨fun h => f.1 (by rw [hr]; exact List.mem_cons_of_mem _ h), f.2⟩, fun _ _ _ _ h => h, fun _ _ _ _ h => h⟩, fun _ _ h => h, fun _ _ _ h => h⟩
theorem Ok.unR {g : Gx} {c : Ct} (ok : Ok g c) {p : Addr} {l : List Addr} (hr : c.rs = p :: l) : Ok g { c with rs := l } where
  inj := ok.inj
  at_ := fun r x e => RepO.mono (Le.unR hr) rfl (ok.at_ r x e)
  rsv := fun r h hm => ok.rsv r h (by rw [hr]; exact List.mem_cons_of_mem _ hm)
  tabs := ok.tabs
  rsh := fun q hq => ok.rsh q (by rw [hr]; exact List.mem_cons_of_mem _ hq)
theorem live_lt {c : Ct} {r : Nat} (h : c.live r) : r < c.S.length := by
  obtain ⟨o, e, _⟩ := h
  exact (List.getElem?_eq_some_iff.mp e).1
def addI (c : Ct) (p : Addr) : Nat → Addr := fun r => if r = c.S.length then p else c.ι r
theorem addI_lt {c : Ct} {p : Addr} {r : Nat} (h : r < c.S.length) : addI c p r = c.ι r := if_neg (Nat.ne_of_lt h)
theorem addI_eq {c : Ct} {p : Addr} : addI c p c.S.length = p := if_pos rfl
/-- the state with one more object, at p, that was under reserve -/
def Ct.own (c : Ct) (p : Addr) (o : Ob) (l : List Addr) : Ct := { ι := addI c p, S := c.S ++ [o], H := c.H, rs := l }
theorem own_live {c : Ct} {p : Addr} {o : Ob} {l : List Addr} {r : Nat} (h : (c.own p o l).live r) : (c.live r ∧ r < c.S.length) ∨ r = c.S.length := by
  obtain ⟨x, e, n⟩ := h
  have hl := (List.getElem?_eq_some_iff.mp e).1
  have hl' : r < c.S.length + 1 := by simpa [Ct.own] using hl
  by_cases hr : r < c.S.length
  · refine .inl ⟨⟨x, ?_, n⟩, hr⟩
    have e' : (c.S ++ [o])[r]? = some x := e
    rw [List.getElem?_append_left hr] at e'
    exact e'
  · exact .inr (by omega)
theorem Le.own {c : Ct} {p : Addr} {l : List Addr} {o : Ob} (hr : c.rs = p :: l) : Le c (c.own p o l) where
  len := by simp [Ct.own]
  liv := fun r h hl => by
    rcases own_live hl with ⟨h1, _⟩ | h1
    · exact ⟨h1, addI_lt h⟩
    · omega
  sur := fun _ o h t => ⟨o, h, t⟩
  tre := fun _ _ _ _ h => h
  trd := fun _ _ _ _ h => h
  lkd := fun r x h => by
    show (c.S ++ [o])[r]? = _
    rw [List.getElem?_append_left (List.getElem?_eq_some_iff.mp h).1]; exact h
  fzn := fun _ _ _ h => h
  fre := fun a x f r _ => by
    refine ⟨fun h => f.1 (by rw [hr]; exact List.mem_cons_of_mem _ h), fun k hk => ?_⟩
    show addI c p k ≠ a
    rcases own_live hk with ⟨h1, h2⟩ | h1
    · rw [addI_lt h2]; exact f.2 k h1
    · rw [h1, addI_eq]
      intro e
      exact f.1 (by rw [hr, ← e]; exact List.mem_cons_self)
theorem Ok.own {g : Gx} {c : Ct} (ok : Ok g c) {p : Addr} {l : List Addr} {o : Ob} (hr : c.rs = p :: l) (hp : p ∉ l) (ho : RepO g c o p) : Ok g (c.own p o l) where
  inj := fun r s h1 h2 e => by
    have e' : addI c p r = addI c p s := e
    rcases own_live h1 with ⟨a1, b1⟩ | a1
    · rcases own_live h2 with ⟨a2, b2⟩ | a2
      · rw [addI_lt b1, addI_lt b2] at e'; exact ok.inj r s a1 a2 e'
      · rw [addI_lt b1, a2, addI_eq] at e'
        exact absurd (by rw [hr, e']; exact List.mem_cons_self) (ok.rsv r a1)
    · rcases own_live h2 with ⟨a2, b2⟩ | a2
      · rw [addI_lt b2, a1, addI_eq] at e'
        exact absurd (by rw [hr, ← e']; exact List.mem_cons_self) (ok.rsv s a2)
      · omega
  at_ := fun r x e => by
    have e' : (c.S ++ [o])[r]? = some x := e
    show RepO g (c.own p o l) x (addI c p r)
    by_cases hl : r < c.S.length
    · rw [List.getElem?_append_left hl] at e'
      rw [addI_lt hl]
      exact RepO.mono (Le.own hr) rfl (ok.at_ r x e')
    · have hr2 : r < c.S.length + 1 := by
        have := (List.getElem?_eq_some_iff.mp e').1
        simpa using this
      have e2 : r = c.S.length := by omega
      subst e2
      rw [List.getElem?_append_right (Nat.le_refl _), Nat.sub_self] at e'
      have e3 : o = x := by simpa using e'
      subst e3
      rw [addI_eq]
      exact RepO.mono (Le.own hr) rfl ho
  rsv := fun r h hm => by
    have hm' : addI c p r ∈ l := hm
    rcases own_live h with ⟨a1, b1⟩ | a1
    · rw [addI_lt b1] at hm'
      exact ok.rsv r a1 (by rw [hr]; exact List.mem_cons_of_mem _ hm')
    · rw [a1, addI_eq] at hm'; exact hp hm'
  tabs := ok.tabs
  rsh := fun q hq => ok.rsh q (by rw [hr]; exact List.mem_cons_of_mem _ hq)
/-- an object's content changes -/
def Ct.put (c : Ct) (r : Nat) (o : Ob) (u : HO) : Ct := { ι := c.ι, S := c.S.set r o, H := upd c.H (c.ι r) u, rs := c.rs }
theorem put_live {c : Ct} {r : Nat} {o : Ob} {u : HO} {k : Nat} (hl : c.live r) (h : (c.put r o u).live k) : c.live k := by
  obtain ⟨x, e, n⟩ := h
  have e' : (c.S.set r o)[k]? = some x := e
  by_cases hk : r = k
  · exact hk ▸ hl
  · rw [List.getElem?_set_ne hk] at e'
    exact ⟨x, e', n⟩
theorem Le.put {c : Ct} {r : Nat} {o : Ob} {u : HO} (hl : c.live r) (hk : ∀ x, c.S[r]? ≠ some (.lck x)) (hf : ∀ ob u', c.H (c.ι r) ≠ some (.frz ob u')) (hnt : nT u := by intro _ z; cases z) : Le c (c.put r o u) where
  len := by simp [Ct.put]
  liv := fun k _ h => ⟨put_live hl h, rfl⟩
  sur := sur_upd hnt
  fre := fun a x f _ _ => ⟨f.1, fun k hk => f.2 k (put_live hl hk)⟩
  tre := fun a w t f rd => by
    have hne : a ≠ c.ι r := fun e => f.2 r hl e.symm
    show upd c.H (c.ι r) u a = _
    rw [upd_ne hne]; exact rd
  trd := fun a w t f rd => rd_upd (fun e => f.2 r hl e.symm) rd
  lkd := fun k x h => by
    show (c.S.set r o)[k]? = _
    by_cases z : r = k
    · subst z; exact absurd h (hk x)
    · rw [List.getElem?_set_ne z]; exact h
  fzn := fun a ob u' h => by
    show upd c.H (c.ι r) u a = _
    by_cases z : a = c.ι r
    · subst z; exact absurd h (hf ob u')
    · rw [upd_ne z]; exact h
theorem Ok.put {g : Gx} {c : Ct} (ok : Ok g c) {r : Nat} {o : Ob} {u x : HO} (hl : c.live r) (hk : ∀ y, c.S[r]? ≠ some (.lck y)) (hx : c.H (c.ι r) = some x) (ht : ∀ ps, x ≠ .tbl ps) (hc : ∀ q, x ≠ LamX.CodeO (c.ι r) q) (ho : RepO g (c.put r o u) o (c.ι r)) (hnt : ∀ ps, u ≠ .tbl ps := by intro _ z; cases z) (hf : ∀ ob u', x ≠ .frz ob u' := by intro _ _ z; cases z) : Ok g (c.put r o u) where
  inj := fun a b h1 h2 e => ok.inj a b (put_live hl h1) (put_live hl h2) e
  at_ := fun k y e => by
    have e' : (c.S.set r o)[k]? = some y := e
    show RepO g (c.put r o u) y (c.ι k)
    by_cases hkk : r = k
    · subst hkk
      have hlt := live_lt hl
      rw [List.getElem?_set_self hlt] at e'
      cases e'
      exact ho
    · rw [List.getElem?_set_ne hkk] at e'
      by_cases hd : y = Ob.dead
      · subst hd; trivial
      · refine RepO.mono (Le.put hl hk (fun ob u' z => hf ob u' (Option.some.inj (hx.symm.trans z))) hnt) ?_ (ok.at_ k y e')
        have hne : c.ι k ≠ c.ι r := fun z => hkk (ok.inj r k hl ⟨y, e', hd⟩ z.symm)
        exact upd_ne hne
  rsv := fun k h => ok.rsv k (put_live hl h)
  tabs := fun q hq => by
    obtain ⟨ps, h1, h2, h3⟩ := ok.tabs q hq
    have n1 : q.1 ≠ c.ι r := fun z => ht ps (Option.some.inj (hx.symm.trans (z ▸ h1)))
    refine ⟨ps, by show upd c.H (c.ι r) u q.1 = _; rw [upd_ne n1]; exact h1, h2, fun pos cv hcv => ?_⟩
    obtain ⟨b, e1, e2⟩ := h3 pos cv hcv
    refine ⟨b, e1, ?_⟩
    have n2 : b ≠ c.ι r := fun z => hc q.2 (Option.some.inj (hx.symm.trans (by rw [← z]; exact e2)))
    show upd c.H (c.ι r) u b = _
    rw [upd_ne n2]; exact e2
  rsh := fun q hq => by
    by_cases z : q = c.ι r
    · exact absurd hq (z ▸ ok.rsv r hl)
    · obtain ⟨x, e, nt⟩ := ok.rsh q hq
      exact ⟨x, by show upd c.H (c.ι r) u q = _; rw [upd_ne z]; exact e, nt⟩
theorem Ok.notR {g : Gx} {c : Ct} (ok : Ok g c) {p : Addr} (hn : c.H p = none) : p ∉ c.rs := fun h => by
  obtain ⟨x, e, nt⟩ := ok.rsh p h
  rw [hn] at e; cases e
/-- the reserve is the same, and what stands there -/
structure RsE (c' c : Ct) : Prop where
  eq : c'.rs = c.rs
  kp : ∀ a, a ∈ c.rs → c'.H a = c.H a
theorem RsE.refl (c : Ct) : RsE c c := ⟨rfl, fun _ _ => rfl⟩
theorem RsE.trans {a b c : Ct} (x : RsE a b) (y : RsE b c) : RsE a c := ⟨x.eq.trans y.eq, fun p h => (x.kp p (by rw [y.eq]; exact h)).trans (y.kp p h)⟩
theorem RsE.new {g : Gx} {c : Ct} (ok : Ok g c) {p : Addr} {o : HO} (hn : c.H p = none) : RsE { c with H := upd c.H p o } c := ⟨rfl, fun a h => by
  obtain ⟨x, e, nt⟩ := ok.rsh a h
  show upd c.H p o a = _
  rw [upd_ne (ne_of_none e hn)]⟩
theorem RsE.put {g : Gx} {c : Ct} (ok : Ok g c) {r : Nat} {o : Ob} {u : HO} (hl : c.live r) : RsE (c.put r o u) c := ⟨rfl, fun a h => by
  have hne : a ≠ c.ι r := fun e => ok.rsv r hl (e ▸ h)
  show upd c.H (c.ι r) u a = _
  rw [upd_ne hne]⟩
/-- later than c, and then the new thing at p, unknown to c, changes -/
theorem Le.mutAfter {c c1 : Ct} {p : Addr} {o : HO} (l : Le c c1) (hn : c.H p = none) (hnt : nT o := by intro _ z; cases z) : Le c { c1 with H := upd c1.H p o } where
  len := l.len
  liv := l.liv
  sur := fun a x h t => by
    obtain ⟨y, e, ty⟩ := l.sur a x h t
    exact sur_upd hnt a y e ty
  fre := l.fre
  tre := fun a u t f h => by
    show upd c1.H p o a = _
    rw [upd_ne (ne_of_none h hn)]; exact l.tre a u t f h
  trd := fun a u t f h => by
    obtain ⟨x, e⟩ := rd_some h
    exact rd_upd (ne_of_none e hn) (l.trd a u t f h)
  lkd := l.lkd
  fzn := fun a ob u h => by
    show upd c1.H p o a = _
    rw [upd_ne (ne_of_none h hn)]; exact l.fzn a ob u h
end Sm
end

section
set_option Elab.async false
set_option linter.all false
set_option autoImplicit false
set_option maxRecDepth 100000
set_option maxHeartbeats 4000000
namespace Sm
open PySem L2
/-! ### judgements -/
def EnvR (c : Ct) (e : Env) (σ : L2.St) : Prop := e.length = σ.length ∧ ∀ (i : Nat) (d : D), e[i]? = some (some d) → ∃ v, σ[i]? = some (some v) ∧ Rep c d v
theorem EnvR.mono {c c' : Ct} (l : Le c c') {e : Env} {σ : L2.St} (h : EnvR c e σ) : EnvR c' e σ := ⟨h.1, fun i d q => by
  obtain ⟨v, a, b⟩ := h.2 i d q
  exact ⟨v, a, Rep.mono l _ _ b⟩⟩
/-- what is wanted behind an outcome: R of a value and the store, E of an error -/
def PostG {α : Type} (g : Gx) (c : Ct) (E : XK) (R : α → Store → Prop) : Out α → Prop
  | .ok a S => R a S
  | .exc k S => ∀ c', Ok g c' → Le c c' → RsE c' c → c'.S = S → E (.ref (g.ex k)) none c'.H
  | .bad => False
theorem PostG.later {α : Type} {g : Gx} {c c1 : Ct} {E : XK} {R : α → Store → Prop} (l : Le c c1) (hr : RsE c1 c) : ∀ {o : Out α}, PostG g c E R o → PostG g c1 E R o
  | .ok a S, h => h
  | .exc k S, h => fun c' ok' l' r' s' => h c' ok' (l.trans l') (r'.trans hr) s'
  | .bad, h => h
/-- the wish of a value -/
def WE (g : Gx) (c : Ct) (Q : VK) (d : D) (S : Store) : Prop := ∀ c' v, Ok g c' → Le c c' → RsE c' c → c'.S = S → Rep c' d v → Q v c'.H
def WB (g : Gx) (c : Ct) (Q : Bool → Hp → Prop) (b : Bool) (S : Store) : Prop := ∀ c', Ok g c' → Le c c' → RsE c' c → c'.S = S → Q b c'.H
def WA (g : Gx) (c : Ct) (Q : List V → Hp → Prop) (ds : List D) (S : Store) : Prop := ∀ c' vs, Ok g c' → Le c c' → RsE c' c → c'.S = S → RepL c' ds vs → Q vs c'.H
def SE (g : Gx) (E : XK) (t : TE) (m : ME) : Prop := ∀ c σ e Q, Ok g c → EnvR c e σ → PostG g c E (WE g c Q) (m e c.S) → t σ c.H Q
def SB (g : Gx) (E : XK) (t : TT) (m : MB) : Prop := ∀ c σ e Q, Ok g c → EnvR c e σ → PostG g c E (WB g c Q) (m e c.S) → t σ c.H Q
def SA (g : Gx) (E : XK) (t : TA) (m : MA) : Prop := ∀ c σ e Q, Ok g c → EnvR c e σ → PostG g c E (WA g c Q) (m e c.S) → t σ c.H Q
section
variable {g : Gx} {E : XK} {c : Ct} {σ : L2.St} {e : Env} {β : Type} {R : β → Store → Prop}
theorem bindE {t : TE} {m : ME} {Q : VK} {f : D → Store → Out β} (h : SE g E t m) (ok : Ok g c) (er : EnvR c e σ) (hp : PostG g c E R ((m e c.S).bind f))
    (k : ∀ c1 d v, Ok g c1 → Le c c1 → RsE c1 c → Rep c1 d v → PostG g c1 E R (f d c1.S) → Q v c1.H) : t σ c.H Q := by
  refine h c σ e Q ok er ?_
  cases q : m e c.S with
  | bad => rw [q] at hp; exact hp
  | exc j S => rw [q] at hp; exact hp
  | ok d S =>
    rw [q] at hp
    intro c1 v ok1 l1 r1 s1 rp
    exact k c1 d v ok1 l1 r1 rp (by rw [s1]; exact PostG.later l1 r1 hp)
theorem bindB {t : TT} {m : MB} {Q : Bool → Hp → Prop} {f : Bool → Store → Out β} (h : SB g E t m) (ok : Ok g c) (er : EnvR c e σ) (hp : PostG g c E R ((m e c.S).bind f))
    (k : ∀ c1 d, Ok g c1 → Le c c1 → RsE c1 c → PostG g c1 E R (f d c1.S) → Q d c1.H) : t σ c.H Q := by
  refine h c σ e Q ok er ?_
  cases q : m e c.S with
  | bad => rw [q] at hp; exact hp
  | exc j S => rw [q] at hp; exact hp
  | ok d S =>
    rw [q] at hp
    intro c1 ok1 l1 r1 s1
    exact k c1 d ok1 l1 r1 (by rw [s1]; exact PostG.later l1 r1 hp)
theorem bindA {t : TA} {m : MA} {Q : List V → Hp → Prop} {f : List D → Store → Out β} (h : SA g E t m) (ok : Ok g c) (er : EnvR c e σ) (hp : PostG g c E R ((m e c.S).bind f))
    (k : ∀ c1 ds vs, Ok g c1 → Le c c1 → RsE c1 c → RepL c1 ds vs → PostG g c1 E R (f ds c1.S) → Q vs c1.H) : t σ c.H Q := by
  refine h c σ e Q ok er ?_
  cases q : m e c.S with
  | bad => rw [q] at hp; exact hp
  | exc j S => rw [q] at hp; exact hp
  | ok d S =>
    rw [q] at hp
    intro c1 v ok1 l1 r1 s1 rp
    exact k c1 d v ok1 l1 r1 rp (by rw [s1]; exact PostG.later l1 r1 hp)
end
/-- the wish of a value, from a later state -/
theorem WE.later {g : Gx} {c c1 : Ct} {Q : VK} {d : D} {S : Store} (l : Le c c1) (r : RsE c1 c) (h : WE g c Q d S) : WE g c1 Q d S :=
  fun c' v ok' l' r' s' => h c' v ok' (l.trans l') (r'.trans r) s'
theorem WE.here {g : Gx} {c : Ct} {Q : VK} {d : D} {v : V} (ok : Ok g c) (r : Rep c d v) (h : WE g c Q d c.S) : Q v c.H := h c v ok (Le.refl c) (RsE.refl c) rfl r

/-! ### forms of values -/
theorem rep_int {c : Ct} {i : Int} {v : V} : Rep c (.int i) v ↔ v = .int i := by unfold Rep; exact Iff.rfl
theorem rep_bl {c : Ct} {i : Bool} {v : V} : Rep c (.bl i) v ↔ v = .bl i := by unfold Rep; exact Iff.rfl
theorem rep_non {c : Ct} {v : V} : Rep c .non v ↔ v = .non := by unfold Rep; exact Iff.rfl
theorem rep_str {c : Ct} {t : Tx} {v : V} : Rep c (.str t) v ↔ v = .str (sS t) := by unfold Rep; exact Iff.rfl
theorem rep_lst {c : Ct} {ds : List D} {v : V} : Rep c (.lst ds) v ↔ ∃ a vs, v = .ref a ∧ c.free a ∧ c.H a = some (.lst vs) ∧ RepL c ds vs := by conv => lhs; unfold Rep
theorem rep_tup {c : Ct} {ds : List D} {v : V} : Rep c (.tup ds) v ↔ ∃ a vs, v = .ref a ∧ c.free a ∧ c.H a = some (.tup vs) ∧ RepL c ds vs := by conv => lhs; unfold Rep
theorem rep_dct {c : Ct} {ds : List (K1 × D)} {v : V} : Rep c (.dct ds) v ↔ ∃ a us, v = .ref a ∧ c.free a ∧ Rd c.H a (.dK us) ∧ RepK c ds us := by conv => lhs; unfold Rep
theorem rep_obj {c : Ct} {r : Nat} {v : V} : Rep c (.obj r) v ↔ r < c.S.length ∧ (c.live r → v = .ref (c.ι r)) := by conv => lhs; unfold Rep
theorem repL_nil {c : Ct} {vs : List V} : RepL c [] vs ↔ vs = [] := by unfold RepL; exact Iff.rfl
theorem repL_cons {c : Ct} {d : D} {ds : List D} {vs : List V} : RepL c (d :: ds) vs ↔ ∃ v r, vs = v :: r ∧ Rep c d v ∧ RepL c ds r := by conv => lhs; unfold RepL
theorem repL_len {c : Ct} : ∀ {ds : List D} {vs : List V}, RepL c ds vs → vs.length = ds.length
  | [], vs, h => by rw [repL_nil] at h; subst h; rfl
  | d :: ds, vs, h => by
    obtain ⟨v, r, rfl, _, h2⟩ := repL_cons.mp h
    rw [List.length_cons, List.length_cons, repL_len h2]
theorem repL_get {c : Ct} : ∀ {ds : List D} {vs : List V} {i : Nat} {d : D}, RepL c ds vs → ds[i]? = some d → ∃ v, vs[i]? = some v ∧ Rep c d v
  | [], _, _, _, _, e => by simp at e
  | d :: ds, vs, 0, d', h, e => by
    obtain ⟨v, r, rfl, h1, _⟩ := repL_cons.mp h
    have e' : d = d' := by simpa using e
    subst e'
    exact ⟨v, by simp, h1⟩
  | d :: ds, vs, i + 1, d', h, e => by
    obtain ⟨v, r, rfl, _, h2⟩ := repL_cons.mp h
    obtain ⟨w, a, b⟩ := repL_get (i := i) h2 (by simpa using e)
    exact ⟨w, by simpa using a, b⟩
theorem repL_app {c : Ct} : ∀ {ds es : List D} {vs ws : List V}, RepL c ds vs → RepL c es ws → RepL c (ds ++ es) (vs ++ ws)
  | [], es, vs, ws, h, h' => by rw [repL_nil] at h; subst h; exact h'
  | d :: ds, es, vs, ws, h, h' => by
    obtain ⟨v, r, rfl, h1, h2⟩ := repL_cons.mp h
    exact repL_cons.mpr ⟨v, r ++ ws, rfl, h1, repL_app h2 h'⟩
theorem repL_one {c : Ct} {d : D} {v : V} (h : Rep c d v) : RepL c [d] [v] := repL_cons.mpr ⟨v, [], rfl, h, repL_nil.mpr rfl⟩
theorem repL_take {c : Ct} : ∀ {ds : List D} {vs : List V} (n : Nat), RepL c ds vs → RepL c (ds.take n) (vs.take n)
  | ds, vs, 0, _ => by simp only [List.take_zero]; exact repL_nil.mpr rfl
  | [], vs, n + 1, h => by rw [repL_nil] at h; subst h; exact repL_nil.mpr rfl
  | d :: ds, vs, n + 1, h => by
    obtain ⟨v, r, rfl, h1, h2⟩ := repL_cons.mp h
    exact repL_cons.mpr ⟨v, r.take n, rfl, h1, repL_take n h2⟩
theorem repL_drop {c : Ct} : ∀ {ds : List D} {vs : List V} (n : Nat), RepL c ds vs → RepL c (ds.drop n) (vs.drop n)
  | ds, vs, 0, h => h
  | [], vs, n + 1, h => by rw [repL_nil] at h; subst h; exact repL_nil.mpr rfl
  | d :: ds, vs, n + 1, h => by
    obtain ⟨v, r, rfl, h1, h2⟩ := repL_cons.mp h
    exact repL_drop n h2
theorem repL_set {c : Ct} {d : D} {v : V} (hd : Rep c d v) : ∀ {ds : List D} {vs : List V} (n : Nat), RepL c ds vs → RepL c (ds.set n d) (vs.set n v)
  | [], vs, n, h => by rw [repL_nil] at h; subst h; exact repL_nil.mpr rfl
  | x :: ds, vs, 0, h => by
    obtain ⟨w, r, rfl, h1, h2⟩ := repL_cons.mp h
    exact repL_cons.mpr ⟨v, r, rfl, hd, h2⟩
  | x :: ds, vs, n + 1, h => by
    obtain ⟨w, r, rfl, h1, h2⟩ := repL_cons.mp h
    exact repL_cons.mpr ⟨w, r.set n v, rfl, h1, repL_set hd n h2⟩
/-- a value seen as a list that may be read -/
theorem view_tree {S : Store} {d : D} (h : ∀ r, d ≠ .obj r) : view S d = d := by
  cases d <;> first | rfl | exact absurd rfl (h _)
theorem live_of {c : Ct} {r : Nat} {o : Ob} (e : c.S[r]? = some o) (n : o ≠ .dead) : c.live r := ⟨o, e, n⟩
theorem val_lst {o : Ob} {ds : List D} (h : o.val = some (.lst ds)) : o ≠ .dead := by intro e; subst e; cases h
theorem repO_lst {g : Gx} {c : Ct} {a : Addr} : ∀ {o : Ob} {ds : List D}, o.val = some (.lst ds) → RepO g c o a → ∃ vs, Rd c.H a (.lst vs) ∧ RepL c ds vs
  | .lst xs, ds, h, q => by cases h; obtain ⟨vs, a, b⟩ := q; exact ⟨vs, .inl a, b⟩
  | .lck (.lst xs), ds, h, q => by cases h; obtain ⟨vs, a, b⟩ := q; exact ⟨vs, .inl a, b⟩
  | .lck (.lck (.lst xs)), ds, h, q => by cases h; exact q
  | .dead, _, h, _ => by cases h
  | .dct _, _, h, _ => by cases h
  | .dctT _, _, h, _ => by cases h
  | .ins _ _, _, h, _ => by cases h
  | .lck .dead, _, h, _ => by cases h
  | .lck (.dct _), _, h, _ => by cases h
  | .lck (.dctT _), _, h, _ => by cases h
  | .lck (.ins _ _), _, h, _ => by cases h
  | .lck (.lck .dead), _, _, q => q.elim
  | .lck (.lck (.ins _ _)), _, _, q => q.elim
  | .lck (.lck (.dct _)), _, _, q => q.elim
  | .lck (.lck (.dctT _)), _, _, q => q.elim
  | .lck (.lck (.lck _)), _, _, q => q.elim
theorem repO_dct {g : Gx} {c : Ct} {a : Addr} : ∀ {o : Ob} {ds : List (K1 × D)}, o.val = some (.dct ds) → RepO g c o a → ∃ us, Rd c.H a (.dK us) ∧ RepK c ds us
  | .dct xs, ds, h, q => by cases h; obtain ⟨us, a, b⟩ := q; exact ⟨us, .inl a, b⟩
  | .lck (.dct xs), ds, h, q => by cases h; obtain ⟨ob, us, a, b⟩ := q; exact ⟨us, .inr ⟨ob, a⟩, b⟩
  | .dead, _, h, _ => by cases h
  | .lst _, _, h, _ => by cases h
  | .dctT _, _, h, _ => by cases h
  | .ins _ _, _, h, _ => by cases h
  | .lck .dead, _, h, _ => by cases h
  | .lck (.lst _), _, h, _ => by cases h
  | .lck (.dctT _), _, h, _ => by cases h
  | .lck (.ins _ _), _, h, _ => by cases h
  | .lck (.lck .dead), _, _, q => q.elim
  | .lck (.lck (.ins _ _)), _, _, q => q.elim
  | .lck (.lck (.dct _)), _, _, q => q.elim
  | .lck (.lck (.dctT _)), _, _, q => q.elim
  | .lck (.lck (.lst _)), _, h, _ => by cases h
  | .lck (.lck (.lck _)), _, _, q => q.elim
/-- view of an object -/
theorem view_obj {S : Store} {r : Nat} {d : D} (h : view S (.obj r) = d) (n : d ≠ .obj r) : ∃ o, S[r]? = some o ∧ o.val = some d := by
  unfold view at h
  dsimp only at h
  cases e : S[r]? with
  | none => simp only [e] at h; exact absurd h.symm n
  | some o =>
    cases q : o.val with
    | none => simp only [e, q] at h; exact absurd h.symm n
    | some d' => simp only [e, q] at h; exact ⟨o, rfl, by rw [← h]; exact q⟩
theorem val_dead {o : Ob} {d : D} (h : o.val = some d) : o ≠ .dead := by intro e; subst e; cases h
theorem val_obj {r : Nat} : ∀ {o : Ob}, o.val ≠ some (.obj r)
  | .lst _, h => by cases h
  | .dct _, h => by cases h
  | .dctT _, h => by cases h
  | .ins _ _, h => by cases h
  | .dead, h => by cases h
  | .lck o, h => val_obj (o := o) h
theorem see_lst {g : Gx} {c : Ct} (ok : Ok g c) {x : D} {v : V} {ds : List D} (h : Rep c x v) (e : view c.S x = .lst ds) : ∃ a vs, v = .ref a ∧ Rd c.H a (.lst vs) ∧ RepL c ds vs := by
  cases x with
  | lst xs =>
    have e' : D.lst xs = D.lst ds := e
    cases e'
    obtain ⟨a, vs, h1, _, h2, h3⟩ := rep_lst.mp h
    exact ⟨a, vs, h1, .inl h2, h3⟩
  | obj r =>
    obtain ⟨o, e1, e2⟩ := view_obj e (by intro z; cases z)
    obtain ⟨_, h2⟩ := rep_obj.mp h
    obtain ⟨vs, h3, h4⟩ := repO_lst e2 (ok.at_ r o e1)
    exact ⟨c.ι r, vs, h2 (live_of e1 (val_dead e2)), h3, h4⟩
  | non => cases e
  | bl b => cases e
  | int i => cases e
  | str t => cases e
  | tup t => cases e
  | dct t => cases e
  | dctT t => cases e
theorem see_tup {g : Gx} {c : Ct} (ok : Ok g c) {x : D} {v : V} {ds : List D} (h : Rep c x v) (e : view c.S x = .tup ds) : ∃ a vs, v = .ref a ∧ c.H a = some (.tup vs) ∧ RepL c ds vs := by
  cases x with
  | tup xs =>
    have e' : D.tup xs = D.tup ds := e
    cases e'
    obtain ⟨a, vs, h1, _, h2, h3⟩ := rep_tup.mp h
    exact ⟨a, vs, h1, h2, h3⟩
  | obj r =>
    obtain ⟨o, e1, e2⟩ := view_obj e (by intro z; cases z)
    cases o with
    | lck o => 
      have : ∀ o : Ob, o.val ≠ some (.tup ds) := by
        intro o
        induction o with
        | lck o ih => exact ih
        | _ => intro z; cases z
      exact absurd e2 (this (.lck o))
    | _ => cases e2
  | non => cases e
  | bl b => cases e
  | int i => cases e
  | str t => cases e
  | lst t => cases e
  | dct t => cases e
  | dctT t => cases e
theorem see_dct {g : Gx} {c : Ct} (ok : Ok g c) {x : D} {v : V} {ds : List (K1 × D)} (h : Rep c x v) (e : view c.S x = .dct ds) : ∃ a us, v = .ref a ∧ Rd c.H a (.dK us) ∧ RepK c ds us := by
  cases x with
  | dct xs =>
    have e' : D.dct xs = D.dct ds := e
    cases e'
    obtain ⟨a, vs, h1, _, h2, h3⟩ := rep_dct.mp h
    exact ⟨a, vs, h1, h2, h3⟩
  | obj r =>
    obtain ⟨o, e1, e2⟩ := view_obj e (by intro z; cases z)
    obtain ⟨_, h2⟩ := rep_obj.mp h
    obtain ⟨vs, h3, h4⟩ := repO_dct e2 (ok.at_ r o e1)
    exact ⟨c.ι r, vs, h2 (live_of e1 (val_dead e2)), h3, h4⟩
  | non => cases e
  | bl b => cases e
  | int i => cases e
  | str t => cases e
  | lst t => cases e
  | tup t => cases e
  | dctT t => cases e
theorem view_int {S : Store} {x : D} {i : Int} (e : view S x = .int i) : x = .int i := by
  cases x with
  | obj r =>
    obtain ⟨o, e1, e2⟩ := view_obj e (by intro z; cases z)
    have : ∀ o : Ob, o.val ≠ some (.int i) := by
      intro o
      induction o with
      | lck o ih => exact ih
      | _ => intro z; cases z
    exact absurd e2 (this o)
  | _ => exact e
theorem view_str {S : Store} {x : D} {i : Tx} (e : view S x = .str i) : x = .str i := by
  cases x with
  | obj r =>
    obtain ⟨o, e1, e2⟩ := view_obj e (by intro z; cases z)
    have : ∀ o : Ob, o.val ≠ some (.str i) := by
      intro o
      induction o with
      | lck o ih => exact ih
      | _ => intro z; cases z
    exact absurd e2 (this o)
  | _ => exact e
theorem view_non {S : Store} {x : D} (e : view S x = .non) : x = .non := by
  cases x with
  | obj r =>
    obtain ⟨o, e1, e2⟩ := view_obj e (by intro z; cases z)
    have : ∀ o : Ob, o.val ≠ some .non := by
      intro o
      induction o with
      | lck o ih => exact ih
      | _ => intro z; cases z
    exact absurd e2 (this o)
  | _ => exact e
theorem view_bl {S : Store} {x : D} {b : Bool} (e : view S x = .bl b) : x = .bl b := by
  cases x with
  | obj r =>
    obtain ⟨o, e1, e2⟩ := view_obj e (by intro z; cases z)
    have : ∀ o : Ob, o.val ≠ some (.bl b) := by
      intro o
      induction o with
      | lck o ih => exact ih
      | _ => intro z; cases z
    exact absurd e2 (this o)
  | _ => exact e
theorem viewM_obj {S : Store} {r : Nat} {d : D} (h : viewM S (.obj r) = d) (n : d ≠ .obj r) : ∃ ds, S[r]? = some (.lst ds) ∧ d = .lst ds := by
  unfold viewM at h
  dsimp only at h
  cases e : S[r]? with
  | none => simp only [e] at h; exact absurd h.symm n
  | some o =>
    cases o with
    | lst xs => simp only [e] at h; exact ⟨xs, rfl, h.symm⟩
    | _ => simp only [e] at h; exact absurd h.symm n
theorem viewM_int {S : Store} {x : D} {i : Int} (e : viewM S x = .int i) : x = .int i := by
  cases x with
  | obj r =>
    obtain ⟨o, e1, e2⟩ := viewM_obj e (by intro z; cases z)
    cases e2
  | _ => exact e
theorem viewM_str {S : Store} {x : D} {i : Tx} (e : viewM S x = .str i) : x = .str i := by
  cases x with
  | obj r =>
    obtain ⟨o, e1, e2⟩ := viewM_obj e (by intro z; cases z)
    cases e2
  | _ => exact e
theorem viewM_tup {S : Store} {x : D} {i : List D} (e : viewM S x = .tup i) : x = .tup i := by
  cases x with
  | obj r =>
    obtain ⟨o, e1, e2⟩ := viewM_obj e (by intro z; cases z)
    cases e2
  | _ => exact e
theorem see_mut {g : Gx} {c : Ct} (ok : Ok g c) {x : D} {v : V} {ds : List D} (h : Rep c x v) (e : viewM c.S x = .lst ds) : ∃ a vs, v = .ref a ∧ c.H a = some (.lst vs) ∧ RepL c ds vs := by
  cases x with
  | lst xs =>
    have e' : D.lst xs = D.lst ds := e
    cases e'
    obtain ⟨a, vs, h1, _, h2, h3⟩ := rep_lst.mp h
    exact ⟨a, vs, h1, h2, h3⟩
  | obj r =>
    obtain ⟨o, e1, e2⟩ := viewM_obj e (by intro z; cases z)
    cases e2
    obtain ⟨_, h2⟩ := rep_obj.mp h
    obtain ⟨vs, h3, h4⟩ := ok.at_ r _ e1
    exact ⟨c.ι r, vs, h2 (live_of e1 (by intro z; cases z)), h3, h4⟩
  | _ => cases e
/-- a new list, tuple -/
theorem rep_newL {g : Gx} {c : Ct} (ok : Ok g c) {p : Addr} {ds : List D} {vs : List V} (hn : c.H p = none) (r : RepL c ds vs) : Rep { c with H := upd c.H p (.lst vs) } (.lst ds) (.ref p) :=
  rep_lst.mpr ⟨p, vs, rfl, ⟨ok.notR hn, fun k hk e => by
    have hk' : c.live k := hk
    obtain ⟨o, ho⟩ := ok.held hk'
    have e' : c.ι k = p := e
    rw [e', hn] at ho; cases ho⟩, upd_same, RepL.mono (Le.new hn) _ _ r⟩
theorem rep_newT {g : Gx} {c : Ct} (ok : Ok g c) {p : Addr} {ds : List D} {vs : List V} (hn : c.H p = none) (r : RepL c ds vs) : Rep { c with H := upd c.H p (.tup vs) } (.tup ds) (.ref p) :=
  rep_tup.mpr ⟨p, vs, rfl, ⟨ok.notR hn, fun k hk e => by
    have hk' : c.live k := hk
    obtain ⟨o, ho⟩ := ok.held hk'
    have e' : c.ι k = p := e
    rw [e', hn] at ho; cases ho⟩, upd_same, RepL.mono (Le.new hn) _ _ r⟩
end Sm
end

section
set_option Elab.async false
set_option linter.all false
set_option autoImplicit false
set_option maxRecDepth 100000
set_option maxHeartbeats 4000000
namespace Sm
open PySem L2
/-! ### where one stands -/
structure XO (g : Gx) (X : Cx) (E : XK) : Prop where
  K : X.K = g.K
  calm : X.calm = true
  nd : X.N.Nodup
  take : Takes X fun cls d _ H' => E cls d H'
  units : X.A.units + 100 < cLine
theorem XO.pass {g : Gx} {X : Cx} {E : XK} (x : XO g X E) : Passes (L2.CX X.prog X.w) X E := passes_call x.take fun _ _ _ _ h => h
def ES (g : Gx) (X : Cx) (E : XK) (e : Expr) (m : ME) : Prop := ∃ t, PE X e t ∧ SE g E t m
def BS (g : Gx) (X : Cx) (E : XK) (e : Expr) (m : MB) : Prop := ∃ t, PT X e t ∧ SB g E t m
def BW (g : Gx) (X : Cx) (E : XK) (e : Expr) (m : MB) : Prop := ∃ t, PW X e t ∧ SB g E t m
/-- so many values -/
def ALen (n : Nat) (m : MA) : Prop := ∀ e S ds S', m e S = .ok ds S' → ds.length = n
def AS (g : Gx) (X : Cx) (E : XK) (es : List Expr) (m : MA) : Prop := ∃ t, PA X es t ∧ SA g E t m ∧ ALen es.length m
/-! ### what operators do -/
def SR (g : Gx) (r : R2) (f : Store → D → D → Option D) : Prop := ∀ c x y v u Q z, Ok g c → Rep c x v → Rep c y u → f c.S x y = some z → WE g c Q z c.S → r v u c.H Q
def SU (g : Gx) (r : V → Hp → VK → Prop) (f : Store → D → Option D) : Prop := ∀ c x v Q z, Ok g c → Rep c x v → f c.S x = some z → WE g c Q z c.S → r v c.H Q
def SC (g : Gx) (r : List V → Hp → VK → Prop) (f : Store → List D → Option D) : Prop := ∀ c xs vs Q z, Ok g c → RepL c xs vs → f c.S xs = some z → WE g c Q z c.S → r vs c.H Q
section
variable {g : Gx} {c : Ct} {Q : VK}
theorem we_int (ok : Ok g c) {i : Int} (h : WE g c Q (.int i) c.S) : Q (.int i) c.H := WE.here ok (rep_int.mpr rfl) h
theorem we_bl (ok : Ok g c) {i : Bool} (h : WE g c Q (.bl i) c.S) : Q (.bl i) c.H := WE.here ok (rep_bl.mpr rfl) h
theorem we_str (ok : Ok g c) {t : Tx} (h : WE g c Q (.str t) c.S) : Q (.str (sS t)) c.H := WE.here ok (rep_str.mpr rfl) h
theorem we_newL (ok : Ok g c) {ds : List D} {vs : List V} (r : RepL c ds vs) (h : WE g c Q (.lst ds) c.S) : ∀ p, c.H p = none → Q (.ref p) (upd c.H p (.lst vs)) := fun p hp =>
  h { c with H := upd c.H p (.lst vs) } (.ref p) (ok.new hp) (Le.new hp) (RsE.new ok hp) rfl (rep_newL ok hp r)
theorem we_newT (ok : Ok g c) {ds : List D} {vs : List V} (r : RepL c ds vs) (h : WE g c Q (.tup ds) c.S) : ∀ p, c.H p = none → Q (.ref p) (upd c.H p (.tup vs)) := fun p hp =>
  h { c with H := upd c.H p (.tup vs) } (.ref p) (ok.new hp) (Le.new hp) (RsE.new ok hp) rfl (rep_newT ok hp r)
end
theorem big_eq : big = 2 ^ 64 := by decide
theorem sz5 {n : Nat} (h : n ≤ 100000) : n ≤ sizeLine := Nat.le_trans h (by rw [sizeLine_eq]; decide)
theorem sz5' {n : Nat} (h : n < 100000) : n < sizeLine := Nat.lt_of_lt_of_le h (by rw [sizeLine_eq]; decide)
theorem sS_len (t : Tx) : (sS t).length = t.length := by simp [sS, Str.length]
theorem sS_app (a b : Tx) : sS a ++ sS b = sS (a ++ b) := by
  show Str.append (sS a) (sS b) = _
  simp [Str.append, sS]
theorem sr_int {g : Gx} {f : Int → Int → Int} {o : Store → D → D → Option D} (h : ∀ S x y z, o S x y = some z → ∃ a b, x = .int a ∧ y = .int b ∧ z = .int (f a b)) : SR g (rI0 fun i j => .int (f i j)) o := by
  intro c x y v u Q z ok rx ry e q
  obtain ⟨a, b, rfl, rfl, rfl⟩ := h _ _ _ _ e
  exact ⟨a, b, rep_int.mp rx, rep_int.mp ry, we_int ok q⟩
theorem sr_sub {g : Gx} : SR g (rI0 fun i j => .int (i - j)) oSub := sr_int fun S x y z e => by
  unfold oSub at e
  split at e
  · cases e; exact ⟨_, _, rfl, rfl, rfl⟩
  · cases e
theorem sr_cmp {g : Gx} {f : Int → Int → Bool} : SR g (rI0 fun i j => .bl (f i j)) (cmpI f) := by
  intro c x y v u Q z ok rx ry e q
  unfold cmpI at e
  split at e
  · rename_i a b
    cases e
    exact ⟨a, b, rep_int.mp rx, rep_int.mp ry, we_bl ok q⟩
  · cases e
theorem sr_div {g : Gx} : SR g (rI CDivN fun i j => .int (i.fdiv j)) oDiv := by
  intro c x y v u Q z ok rx ry e q
  unfold oDiv at e
  split at e
  · rename_i a b
    split at e
    · rename_i hb
      cases e
      exact ⟨a, b, rep_int.mp rx, rep_int.mp ry, hb, we_int ok q⟩
    · cases e
  · cases e
theorem sr_mod {g : Gx} : SR g (rI (fun _ j => j ≠ 0) fun i j => .int (i.fmod j)) oMod := by
  intro c x y v u Q z ok rx ry e q
  unfold oMod at e
  split at e
  · rename_i a b
    split at e
    · rename_i hb
      cases e
      exact ⟨a, b, rep_int.mp rx, rep_int.mp ry, hb, we_int ok q⟩
    · cases e
  · cases e
theorem sr_pow {g : Gx} : SR g (rI CPow fun i j => .int (i ^ j.toNat)) oPow := by
  intro c x y v u Q z ok rx ry e q
  unfold oPow at e
  split at e
  · rename_i a b
    split at e
    · rename_i hb
      cases e
      rw [big_eq] at hb
      refine ⟨a, b, rep_int.mp rx, rep_int.mp ry, ⟨hb.1, by omega, by omega⟩, we_int ok q⟩
    · cases e
  · cases e
abbrev rAddAll (K : PySem.W.Frag) : R2 := fun x y H Q => rI0 (fun i j => .int (i + j)) x y H Q ∨ (∃ i j, x = .str i ∧ y = .str j ∧ i.length + j.length ≤ sizeLine ∧ Q (.str (i ++ j)) H) ∨ rCat x y H Q ∨ rCatA K x y H Q
theorem op_addAll {X : Cx} : OpR X (binaryOp .Add) (rAddAll X.K) := op_add.or (op_add_str.or (op_cat.or op_catA))
theorem sr_add {g : Gx} {K : PySem.W.Frag} : SR g (rAddAll K) oAdd := by
  intro c x y v u Q z ok rx ry e q
  unfold oAdd at e
  split at e
  · rename_i a b ea eb
    cases e
    have ea := viewM_int ea
    have eb := viewM_int eb
    subst ea eb
    exact .inl ⟨a, b, rep_int.mp rx, rep_int.mp ry, we_int ok q⟩
  · rename_i a b ea eb
    split at e
    · rename_i hb
      cases e
      have ea := viewM_str ea
      have eb := viewM_str eb
      subst ea eb
      refine .inr (.inl ⟨_, _, rep_str.mp rx, rep_str.mp ry, ?_, ?_⟩)
      · rw [sS_len, sS_len]; exact sz5 hb
      · rw [sS_app]; exact we_str ok q
    · cases e
  · rename_i a b ea eb
    split at e
    · rename_i hb
      cases e
      obtain ⟨p, vs, rfl, h1, h2⟩ := see_mut ok rx ea
      obtain ⟨p', ws, rfl, h3, h4⟩ := see_mut ok ry eb
      refine .inr (.inr (.inl ⟨p, p', vs, ws, rfl, rfl, h1, h3, ?_, we_newL ok (repL_app h2 h4) q⟩))
      rw [repL_len h2, repL_len h4]; exact sz5 hb
    · cases e
  · rename_i a b ea eb
    split at e
    · rename_i hb
      cases e
      have ea := viewM_tup ea
      have eb := viewM_tup eb
      subst ea eb
      obtain ⟨p, vs, rfl, _, h1, h2⟩ := rep_tup.mp rx
      obtain ⟨p', ws, rfl, _, h3, h4⟩ := rep_tup.mp ry
      refine .inr (.inr (.inr ⟨p, p', vs, ws, rfl, rfl, SqT.of h1, SqT.of h3, ?_, fun e1 => ?_, fun e1 e2 => ?_, fun _ _ => we_newT ok (repL_app h2 h4) q⟩))
      · rw [repL_len h2, repL_len h4]; exact sz5 hb
      · have z1 : a = [] := by
          have := repL_len h2
          rw [e1] at this
          exact List.length_eq_zero_iff.mp this.symm
        subst z1
        exact WE.here ok ry q
      · have z1 : b = [] := by
          have := repL_len h4
          rw [e2] at this
          exact List.length_eq_zero_iff.mp this.symm
        subst z1
        rw [List.append_nil] at q
        exact WE.here ok rx q
    · cases e
  · cases e

/-! ### == -/
mutual
def toP : D → PyData
  | .non => .none
  | .bl b => .bool b
  | .int i => .int i
  | .str t => .str (sS t)
  | .lst xs => .list (toPL xs)
  | .tup xs => .tuple (toPL xs)
  | .dct _ => .none
  | .dctT _ => .none
  | .obj _ => .none
def toPL : List D → List PyData
  | [] => []
  | x :: xs => toP x :: toPL xs
end
theorem sS_beq (a b : Tx) : (sS a == sS b) = (a == b) := by
  rw [Bool.eq_iff_iff]
  constructor
  · intro h
    have h := eq_of_beq h
    rw [sS_inj h]; exact beq_self_eq_true _
  · intro h
    have h := eq_of_beq h
    rw [h]; exact beq_self_eq_true _
mutual
theorem eqv_toP : ∀ (n m : Nat) (x y : D), dataN n x = true → dataN m y = true → PyData.eqv (toP x) (toP y) = eqD x y
  | n, m, .non, y, h1, h2 => by cases y <;> first | (simp [dataN] at h2; done) | (cases m <;> simp [dataN] at h2; done) | (simp [toP, PyData.eqv, eqD])
  | n, m, .bl b, y, h1, h2 => by cases y <;> first | (simp [dataN] at h2; done) | (cases m <;> simp [dataN] at h2; done) | (simp [toP, PyData.eqv, eqD])
  | n, m, .int b, y, h1, h2 => by cases y <;> first | (simp [dataN] at h2; done) | (cases m <;> simp [dataN] at h2; done) | (simp [toP, PyData.eqv, eqD])
  | n, m, .str b, y, h1, h2 => by cases y <;> first | (simp [dataN] at h2; done) | (cases m <;> simp [dataN] at h2; done) | (simp only [toP, PyData.eqv, eqD]; exact sS_beq _ _) | (simp [toP, PyData.eqv, eqD])
  | n, m, .lst xs, y, h1, h2 => by
    cases n with
    | zero => simp [dataN] at h1
    | succ n =>
      cases y <;> first | (cases m <;> simp [dataN] at h2; done) | skip
      case lst ys =>
        cases m with
        | zero => simp [dataN] at h2
        | succ m =>
          simp only [dataN] at h1 h2
          simp only [toP, PyData.eqv, eqD]
          exact eqvL_toP n m xs ys h1 h2
      all_goals simp [toP, PyData.eqv, eqD]
  | n, m, .tup xs, y, h1, h2 => by
    cases n with
    | zero => simp [dataN] at h1
    | succ n =>
      cases y <;> first | (cases m <;> simp [dataN] at h2; done) | skip
      case tup ys =>
        cases m with
        | zero => simp [dataN] at h2
        | succ m =>
          simp only [dataN] at h1 h2
          simp only [toP, PyData.eqv, eqD]
          exact eqvL_toP n m xs ys h1 h2
      all_goals simp [toP, PyData.eqv, eqD]
  | n, m, .dct _, y, h1, h2 => by cases n <;> simp [dataN] at h1
  | n, m, .dctT _, y, h1, h2 => by cases n <;> simp [dataN] at h1
  | n, m, .obj _, y, h1, h2 => by cases n <;> simp [dataN] at h1
theorem eqvL_toP : ∀ (n m : Nat) (xs ys : List D), xs.all (dataN n) = true → ys.all (dataN m) = true → PyData.eqvAll (toPL xs) (toPL ys) = eqL xs ys
  | n, m, [], [], _, _ => by simp [toPL, PyData.eqvAll, eqL]
  | n, m, [], y :: ys, _, _ => by simp [toPL, PyData.eqvAll, eqL]
  | n, m, x :: xs, [], _, _ => by simp [toPL, PyData.eqvAll, eqL]
  | n, m, x :: xs, y :: ys, h1, h2 => by
    simp only [List.all_cons, Bool.and_eq_true] at h1 h2
    simp only [toPL, PyData.eqvAll, eqL]
    rw [eqv_toP n m x y h1.1 h2.1, eqvL_toP n m xs ys h1.2 h2.2]
end
mutual
theorem dp_of {K : PySem.W.Frag} {c : Ct} : ∀ (n : Nat) (x : D) (v : V), dataN n x = true → Rep c x v → Dp K c.H v (toP x)
  | n, .non, v, _, r => by rw [rep_non.mp r]; exact .non
  | n, .bl b, v, _, r => by rw [rep_bl.mp r]; exact .bl b
  | n, .int i, v, _, r => by rw [rep_int.mp r]; exact .int i
  | n, .str t, v, _, r => by rw [rep_str.mp r]; exact .str _
  | n, .lst xs, v, h, r => by
    cases n with
    | zero => simp [dataN] at h
    | succ n =>
      simp only [dataN] at h
      obtain ⟨a, vs, rfl, _, h1, h2⟩ := rep_lst.mp r
      exact .lst (SqL.of h1) (dpL_of n xs vs h h2)
  | n, .tup xs, v, h, r => by
    cases n with
    | zero => simp [dataN] at h
    | succ n =>
      simp only [dataN] at h
      obtain ⟨a, vs, rfl, _, h1, h2⟩ := rep_tup.mp r
      exact .tup (SqT.of h1) (dpL_of n xs vs h h2)
  | n, .dct _, v, h, r => by cases n <;> simp [dataN] at h
  | n, .dctT _, v, h, r => by cases n <;> simp [dataN] at h
  | n, .obj _, v, h, r => by cases n <;> simp [dataN] at h
theorem dpL_of {K : PySem.W.Frag} {c : Ct} : ∀ (n : Nat) (xs : List D) (vs : List V), xs.all (dataN n) = true → RepL c xs vs → DpAll K c.H vs (toPL xs)
  | n, [], vs, _, r => by rw [repL_nil.mp r]; exact .nil
  | n, x :: xs, vs, h, r => by
    obtain ⟨v, q, rfl, h1, h2⟩ := repL_cons.mp r
    simp only [List.all_cons, Bool.and_eq_true] at h
    exact .cons (dp_of n x v h.1 h1) (dpL_of n xs q h.2 h2)
end
/-- .. of what an object holds too -/
theorem dp_view {K : PySem.W.Frag} {g : Gx} {c : Ct} (ok : Ok g c) {n : Nat} {x : D} {v : V} (h : dataN n (view c.S x) = true) (r : Rep c x v) : Dp K c.H v (toP (view c.S x)) := by
  cases e : view c.S x with
  | lst ds =>
    rw [e] at h
    cases n with
    | zero => simp [dataN] at h
    | succ n =>
      simp only [dataN] at h
      obtain ⟨a, vs, rfl, h1, h2⟩ := see_lst ok r e
      exact .lst (.inl h1) (dpL_of n ds vs h h2)
  | tup ds =>
    rw [e] at h
    cases n with
    | zero => simp [dataN] at h
    | succ n =>
      simp only [dataN] at h
      obtain ⟨a, vs, rfl, h1, h2⟩ := see_tup ok r e
      exact .tup (SqT.of h1) (dpL_of n ds vs h h2)
  | dct _ => rw [e] at h; cases n <;> simp [dataN] at h
  | dctT _ => rw [e] at h; cases n <;> simp [dataN] at h
  | obj _ => rw [e] at h; cases n <;> simp [dataN] at h
  | int i =>
    rw [view_int e] at r
    rw [rep_int.mp r]; exact .int i
  | str i =>
    rw [view_str e] at r
    rw [rep_str.mp r]; exact .str _
  | non =>
    rw [view_non e] at r
    rw [rep_non.mp r]; exact .non
  | bl b =>
    rw [view_bl e] at r
    rw [rep_bl.mp r]; exact .bl b
theorem strOk_of {t : Tx} (h : (t.all fun c => decide (c < 128)) = true) : PyData.strOk (sS t) = true := by
  unfold PyData.strOk
  rw [List.all_eq_true] at h
  rw [Array.all_eq_true_iff_forall_mem]
  intro x hx
  have hx' : x ∈ t := by simpa [sS] using hx
  have := of_decide_eq_true (h x hx')
  exact decide_eq_true (by omega)
mutual
theorem shp_of : ∀ (n : Nat) (x : D), dataN n x = true → PyData.canLay0 (toP x) = true ∧ PyData.depth (toP x) ≤ n
  | n, .non, h => by simp [toP, PyData.canLay0, PyData.depth]
  | n, .bl b, h => by simp [toP, PyData.canLay0, PyData.depth]
  | n, .int i, h => by simp [toP, PyData.canLay0, PyData.depth]
  | n, .str t, h => by
    have h' : (t.all fun c => decide (c < 128)) = true := by cases n <;> simpa [dataN] using h
    simp only [toP, PyData.canLay0, PyData.depth]
    exact ⟨strOk_of h', Nat.zero_le _⟩
  | n, .lst xs, h => by
    cases n with
    | zero => simp [dataN] at h
    | succ n =>
      simp only [dataN] at h
      obtain ⟨h1, h2⟩ := shpL_of n xs h
      simp only [toP, PyData.canLay0, PyData.depth]
      exact ⟨h1, by omega⟩
  | n, .tup xs, h => by
    cases n with
    | zero => simp [dataN] at h
    | succ n =>
      simp only [dataN] at h
      obtain ⟨h1, h2⟩ := shpL_of n xs h
      simp only [toP, PyData.canLay0, PyData.depth]
      exact ⟨h1, by omega⟩
  | n, .dct _, h => by cases n <;> simp [dataN] at h
  | n, .dctT _, h => by cases n <;> simp [dataN] at h
  | n, .obj _, h => by cases n <;> simp [dataN] at h
theorem shpL_of : ∀ (n : Nat) (xs : List D), xs.all (dataN n) = true → PyData.canLayAll0 (toPL xs) = true ∧ PyData.depthAll (toPL xs) ≤ n
  | n, [], _ => by simp [toPL, PyData.canLayAll0, PyData.depthAll]
  | n, x :: xs, h => by
    simp only [List.all_cons, Bool.and_eq_true] at h
    obtain ⟨a1, a2⟩ := shp_of n x h.1
    obtain ⟨b1, b2⟩ := shpL_of n xs h.2
    simp only [toPL, PyData.canLayAll0, PyData.depthAll, Bool.and_eq_true]
    exact ⟨⟨a1, b1⟩, by omega⟩
end
theorem shaped_of {x : D} (h : dataD x = true) : SeqAt.shaped (toP x) = true := by
  obtain ⟨h1, h2⟩ := shp_of 6 x h
  unfold SeqAt.shaped
  rw [h1, Bool.true_and]
  exact decide_eq_true (by omega)
theorem eqV_some {g : Gx} {K : PySem.W.Frag} {c : Ct} (ok : Ok g c) {x y : D} {v u : V} {b : Bool} (rx : Rep c x v) (ry : Rep c y u) (e : eqV c.S x y = some b) :
    ∃ d d', Dp K c.H v d ∧ Dp K c.H u d' ∧ SeqAt.shaped d = true ∧ SeqAt.shaped d' = true ∧ PyData.eqv d d' = b := by
  unfold eqV at e
  split at e
  · rename_i h
    rw [Bool.and_eq_true] at h
    cases e
    exact ⟨_, _, dp_view ok h.1 rx, dp_view ok h.2 ry, shaped_of h.1, shaped_of h.2, eqv_toP 6 6 _ _ h.1 h.2⟩
  · cases e
theorem sr_eq {g : Gx} {K : PySem.W.Frag} : SR g (rEqD K) oEq := by
  intro c x y v u Q z ok rx ry e q
  unfold oEq at e
  cases h : eqV c.S x y with
  | none => rw [h] at e; cases e
  | some b =>
    rw [h] at e; cases e
    obtain ⟨d, d', h1, h2, h3, h4, h5⟩ := eqV_some ok rx ry h
    refine ⟨d, d', h1, h2, h3, h4, ?_⟩
    rw [h5]
    exact we_bl ok q
theorem sr_ne {g : Gx} {K : PySem.W.Frag} : SR g (rNeD K) oNe := by
  intro c x y v u Q z ok rx ry e q
  unfold oNe at e
  cases h : eqV c.S x y with
  | none => rw [h] at e; cases e
  | some b =>
    rw [h] at e; cases e
    obtain ⟨d, d', h1, h2, h3, h4, h5⟩ := eqV_some ok rx ry h
    refine ⟨d, d', h1, h2, h3, h4, ?_⟩
    rw [h5]
    exact we_bl ok q

/-! ### in, items, slices, built-in functions -/
theorem flat_of {c : Ct} {x : D} {v : V} (h : flatD x = true) (r : Rep c x v) : flatV v = true := by
  cases x <;> first | (simp [flatD] at h; done) | skip
  · rw [rep_non.mp r]; rfl
  · rw [rep_bl.mp r]; rfl
  · rw [rep_int.mp r]; rfl
  · rw [rep_str.mp r]; rfl
theorem flatL_of {c : Ct} : ∀ {xs : List D} {vs : List V}, xs.all flatD = true → RepL c xs vs → vs.all flatV = true
  | [], vs, _, r => by rw [repL_nil.mp r]; rfl
  | x :: xs, vs, h, r => by
    obtain ⟨v, q, rfl, h1, h2⟩ := repL_cons.mp r
    simp only [List.all_cons, Bool.and_eq_true] at h ⊢
    exact ⟨flat_of h.1 h1, flatL_of h.2 h2⟩
theorem sS_deq (a b : Tx) : decide (sS a = sS b) = (a == b) := by
  by_cases h : a = b
  · subst h; simp
  · rw [decide_eq_false (fun e => h (sS_inj e))]
    exact (beq_eq_false_iff_ne.mpr h).symm
theorem eqV_flat {c : Ct} {x y : D} {v u : V} (hx : flatD x = true) (hy : flatD y = true) (rx : Rep c x v) (ry : Rep c y u) : L2.eqV v u = eqD x y := by
  cases x <;> first | (simp [flatD] at hx; done) | skip
  · rw [rep_non.mp rx]
    cases y <;> first | (simp [flatD] at hy; done) | skip
    · rw [rep_non.mp ry]; simp [L2.eqV, eqD]
    · rw [rep_bl.mp ry]; simp [L2.eqV, eqD]
    · rw [rep_int.mp ry]; simp [L2.eqV, eqD]
    · rw [rep_str.mp ry]; simp [L2.eqV, eqD]
  · rw [rep_bl.mp rx]
    cases y <;> first | (simp [flatD] at hy; done) | skip
    · rw [rep_non.mp ry]; simp [L2.eqV, eqD]
    · rw [rep_bl.mp ry]; simp [L2.eqV, eqD]
    · rw [rep_int.mp ry]; simp [L2.eqV, eqD]
    · rw [rep_str.mp ry]; simp [L2.eqV, eqD]
  · rw [rep_int.mp rx]
    cases y <;> first | (simp [flatD] at hy; done) | skip
    · rw [rep_non.mp ry]; simp [L2.eqV, eqD]
    · rw [rep_bl.mp ry]; simp [L2.eqV, eqD]
    · rw [rep_int.mp ry]; simp [L2.eqV, eqD]
    · rw [rep_str.mp ry]; simp [L2.eqV, eqD]
  · rw [rep_str.mp rx]
    cases y <;> first | (simp [flatD] at hy; done) | skip
    · rw [rep_non.mp ry]; simp [L2.eqV, eqD]
    · rw [rep_bl.mp ry]; simp [L2.eqV, eqD]
    · rw [rep_int.mp ry]; simp [L2.eqV, eqD]
    · rw [rep_str.mp ry]
      simp only [L2.eqV, eqD]
      first | exact sS_beq _ _ | exact sS_deq _ _
theorem inV_of {c : Ct} {x : D} {v : V} (hx : flatD x = true) (rx : Rep c x v) : ∀ {xs : List D} {vs : List V}, xs.all flatD = true → RepL c xs vs → L2.inV v vs = inL x xs
  | [], vs, _, r => by rw [repL_nil.mp r]; rfl
  | y :: ys, vs, h, r => by
    obtain ⟨w, q, rfl, h1, h2⟩ := repL_cons.mp r
    simp only [List.all_cons, Bool.and_eq_true] at h
    unfold L2.inV inL
    rw [List.any_cons, eqV_flat h.1 hx h1 rx]
    have := inV_of hx rx h.2 h2
    unfold L2.inV at this
    rw [this]
theorem cutA_eq (n d : Nat) (o : Option Int) : HT.sIx n d o = cutA n d o := by cases o <;> rfl
theorem cutV_eq (vs : List V) (lo hi : Option Int) : L2.cutV vs lo hi = cutL vs lo hi := by
  unfold L2.cutV cutL
  rw [cutA_eq, cutA_eq]
theorem repL_cut {c : Ct} {ds : List D} {vs : List V} (r : RepL c ds vs) (lo hi : Option Int) : RepL c (cutL ds lo hi) (L2.cutV vs lo hi) := by
  rw [cutV_eq]
  unfold cutL
  rw [repL_len r]
  exact repL_take _ (repL_drop _ r)
theorem ixZ_eq (n : Nat) (i : Int) : L2.ixN n i = ixZ n i := rfl
theorem at_of' {c : Ct} {ds : List D} {vs : List V} {i : Int} {d : D} (r : RepL c ds vs) (e : atZ ds i = some d) : ∃ v, L2.atI vs i = some v ∧ Rep c d v := by
  unfold atZ at e
  cases h : ixZ ds.length i with
  | none => rw [h] at e; cases e
  | some j =>
    rw [h] at e
    obtain ⟨v, h1, h2⟩ := repL_get (i := j) r e
    refine ⟨v, ?_, h2⟩
    unfold L2.atI
    rw [ixZ_eq, repL_len r, h]
    exact h1
/-! ### dicts -/
theorem kK_inj {a b : K1} (h : kK a = kK b) : a = b := by
  cases a with
  | i n => cases b with
    | i m => injection h with h; rw [h]
    | s t => cases h
  | s t => cases b with
    | i m => cases h
    | s u => injection h with h; rw [sS_inj h]
theorem kKs_inj : ∀ {a b : List K1}, a.map kK = b.map kK → a = b
  | [], [], _ => rfl
  | [], _ :: _, h => by simp at h
  | _ :: _, [], h => by simp at h
  | x :: xs, y :: ys, h => by
    rw [List.map_cons, List.map_cons] at h
    injection h with h1 h2
    rw [kK_inj h1, kKs_inj h2]
def RK {κ κ' : Type} (c : Ct) (f : κ → κ') : List (κ × D) → List (κ' × V) → Prop
  | [], us => us = []
  | (k, d) :: ds, us => ∃ v r, us = (f k, v) :: r ∧ Rep c d v ∧ RK c f ds r
theorem rk_of {c : Ct} : ∀ {l : List (K1 × D)} {us : List (Key × V)}, RepK c l us ↔ RK c kK l us
  | [], us => by unfold RepK RK; exact Iff.rfl
  | (k, d) :: l, us => by
    unfold RepK RK
    exact ⟨fun ⟨v, r, e, h1, h2⟩ => ⟨v, r, e, h1, rk_of.mp h2⟩, fun ⟨v, r, e, h1, h2⟩ => ⟨v, r, e, h1, rk_of.mpr h2⟩⟩
theorem rkT_of {c : Ct} : ∀ {l : List (List K1 × D)} {us : List (List Key × V)}, RepKT c l us ↔ RK c (List.map kK) l us
  | [], us => by unfold RepKT RK; exact Iff.rfl
  | (k, d) :: l, us => by
    unfold RepKT RK
    exact ⟨fun ⟨v, r, e, h1, h2⟩ => ⟨v, r, e, h1, rkT_of.mp h2⟩, fun ⟨v, r, e, h1, h2⟩ => ⟨v, r, e, h1, rkT_of.mpr h2⟩⟩
section
variable {κ κ' : Type} [DecidableEq κ] [DecidableEq κ'] {f : κ → κ'} {c : Ct}
theorem rk_len : ∀ {l : List (κ × D)} {us : List (κ' × V)}, RK c f l us → us.length = l.length
  | [], us, h => by rw [show us = [] from h]; rfl
  | (k, d) :: l, us, h => by
    obtain ⟨v, r, rfl, _, h2⟩ := h
    rw [List.length_cons, List.length_cons, rk_len h2]
theorem rk_some (inj : ∀ a b, f a = f b → a = b) {k : κ} {d : D} : ∀ {l : List (κ × D)} {us : List (κ' × V)}, RK c f l us → getK k l = some d → ∃ v, valV us (f k) = some v ∧ Rep c d v
  | [], us, h, e => by cases e
  | (k', d') :: l, us, h, e => by
    obtain ⟨v, r, rfl, h1, h2⟩ := h
    unfold getK at e
    dsimp only at e
    by_cases hk : k' = k
    · rw [if_pos hk] at e
      cases e
      subst hk
      exact ⟨v, L2.valV_pos (p := (f k', v)) rfl, h1⟩
    · rw [if_neg hk] at e
      obtain ⟨w, e1, e2⟩ := rk_some inj h2 e
      exact ⟨w, (L2.valV_neg (p := (f k', v)) fun z => hk (inj _ _ z)).trans e1, e2⟩
theorem rk_none (inj : ∀ a b, f a = f b → a = b) {k : κ} : ∀ {l : List (κ × D)} {us : List (κ' × V)}, RK c f l us → getK k l = none → valV us (f k) = none
  | [], us, h, e => by rw [show us = [] from h]; rfl
  | (k', d') :: l, us, h, e => by
    obtain ⟨v, r, rfl, h1, h2⟩ := h
    unfold getK at e
    dsimp only at e
    by_cases hk : k' = k
    · rw [if_pos hk] at e; cases e
    · rw [if_neg hk] at e
      exact (L2.valV_neg (p := (f k', v)) fun z => hk (inj _ _ z)).trans (rk_none inj h2 e)
theorem rk_has (inj : ∀ a b, f a = f b → a = b) {k : κ} : ∀ {l : List (κ × D)} {us : List (κ' × V)}, RK c f l us → (us.any fun p => decide (p.1 = f k)) = hasK k l
  | [], us, h => by rw [show us = [] from h]; rfl
  | (k', d') :: l, us, h => by
    obtain ⟨v, r, rfl, h1, h2⟩ := h
    rw [List.any_cons, rk_has inj h2]
    show _ = (decide (k' = k) || hasK k l)
    congr 1
    by_cases hk : k' = k
    · subst hk; simp
    · simp only [hk, decide_false]; exact decide_eq_false fun z => hk (inj _ _ z)
theorem rk_map (inj : ∀ a b, f a = f b → a = b) {k : κ} {d : D} {v : V} (rd : Rep c d v) : ∀ {l : List (κ × D)} {us : List (κ' × V)}, RK c f l us →
    RK c f (l.map fun p => if p.1 = k then (p.1, d) else p) (us.map fun p => if p.1 = f k then (p.1, v) else p)
  | [], us, h => by rw [show us = [] from h]; exact rfl
  | (k', d') :: l, us, h => by
    obtain ⟨w, r, rfl, h1, h2⟩ := h
    rw [List.map_cons, List.map_cons]
    by_cases hk : k' = k
    · subst hk
      rw [if_pos rfl, if_pos rfl]
      exact ⟨v, _, rfl, rd, rk_map inj rd h2⟩
    · rw [if_neg hk, if_neg fun z => hk (inj _ _ z)]
      exact ⟨w, _, rfl, h1, rk_map inj rd h2⟩
theorem rk_snoc {k : κ} {d : D} {v : V} (rd : Rep c d v) : ∀ {l : List (κ × D)} {us : List (κ' × V)}, RK c f l us → RK c f (l ++ [(k, d)]) (us ++ [(f k, v)])
  | [], us, h => by rw [show us = [] from h]; exact ⟨v, [], rfl, rd, rfl⟩
  | (k', d') :: l, us, h => by
    obtain ⟨w, r, rfl, h1, h2⟩ := h
    exact ⟨w, _, rfl, h1, rk_snoc rd h2⟩
theorem rk_put (inj : ∀ a b, f a = f b → a = b) {k : κ} {d : D} {v : V} (rd : Rep c d v) {l : List (κ × D)} {us : List (κ' × V)} (h : RK c f l us) : RK c f (putK k d l) (L2.putK us (f k) v) := by
  unfold putK L2.putK
  rw [rk_has inj h]
  by_cases hk : hasK k l = true
  · rw [if_pos hk, if_pos hk]; exact rk_map inj rd h
  · rw [if_neg hk, if_neg hk]; exact rk_snoc rd h
theorem rk_del (inj : ∀ a b, f a = f b → a = b) {k : κ} : ∀ {l : List (κ × D)} {us : List (κ' × V)}, RK c f l us → RK c f (delK k l) (L2.dropK us (f k))
  | [], us, h => by rw [show us = [] from h]; exact rfl
  | (k', d') :: l, us, h => by
    obtain ⟨w, r, rfl, h1, h2⟩ := h
    have ih := rk_del inj (k := k) h2
    unfold delK L2.dropK at ih ⊢
    rw [List.filter_cons, List.filter_cons]
    by_cases hk : k' = k
    · subst hk
      rw [if_neg (by simp), if_neg (by simp)]
      exact ih
    · have : ¬ f k' = f k := fun z => hk (inj _ _ z)
      rw [if_pos (by simp [hk]), if_pos (by simp [this])]
      exact ⟨w, _, rfl, h1, ih⟩
theorem rk_get {k : κ} {d : D} : ∀ {i : Nat} {l : List (κ × D)} {us : List (κ' × V)}, RK c f l us → l[i]? = some (k, d) → ∃ v, us[i]? = some (f k, v) ∧ Rep c d v
  | _, [], us, h, e => by simp at e
  | 0, (k', d') :: l, us, h, e => by
    obtain ⟨w, r, rfl, h1, h2⟩ := h
    have e' : (k', d') = (k, d) := by simpa using e
    cases e'
    exact ⟨w, by simp, h1⟩
  | i + 1, (k', d') :: l, us, h, e => by
    obtain ⟨w, r, rfl, h1, h2⟩ := h
    obtain ⟨v, a, b⟩ := rk_get (i := i) h2 (by simpa using e)
    exact ⟨v, by simpa using a, b⟩
theorem rk_mono {c' : Ct} (m : ∀ d v, Rep c d v → Rep c' d v) : ∀ {l : List (κ × D)} {us : List (κ' × V)}, RK c f l us → RK c' f l us
  | [], us, h => h
  | (k', d') :: l, us, h => by
    obtain ⟨w, r, e, h1, h2⟩ := h
    exact ⟨w, r, e, m _ _ h1, rk_mono m h2⟩
end
theorem key_rep {c : Ct} {x : D} {v : V} {k : K1} (h : keyD x = some k) (r : Rep c x v) : v = kV (kK k) := by
  cases x <;> first | (cases h; done) | skip
  · cases h; rw [rep_int.mp r]; rfl
  · cases h; rw [rep_str.mp r]; rfl
theorem keysL_rep {c : Ct} : ∀ {xs : List D} {vs : List V} {ks : List K1}, keysL xs = some ks → RepL c xs vs → vs = (ks.map kK).map kV
  | [], vs, ks, h, r => by cases h; rw [repL_nil.mp r]; rfl
  | x :: xs, vs, ks, h, r => by
    obtain ⟨v, q, rfl, h1, h2⟩ := repL_cons.mp r
    unfold keysL at h
    cases e1 : keyD x with
    | none => rw [e1] at h; cases h
    | some k =>
      cases e2 : keysL xs with
      | none => rw [e1, e2] at h; cases h
      | some l =>
        rw [e1, e2] at h; cases h
        rw [key_rep e1 h1, keysL_rep e2 h2]; rfl
theorem keyT_rep {c : Ct} {x : D} {v : V} {ks : List K1} (h : keyT x = some ks) (r : Rep c x v) : ∃ b, v = .ref b ∧ c.H b = some (.tup ((ks.map kK).map kV)) := by
  cases x <;> first | (cases h; done) | skip
  obtain ⟨b, vs, rfl, _, h1, h2⟩ := rep_tup.mp r
  rw [keysL_rep (show keysL _ = some ks from h) h2] at h1
  exact ⟨b, rfl, h1⟩
theorem see_dctT {g : Gx} {c : Ct} (ok : Ok g c) {x : D} {v : V} {ds : List (List K1 × D)} (h : Rep c x v) (e : view c.S x = .dctT ds) : ∃ a us, v = .ref a ∧ Rd c.H a (.dT us) ∧ RepKT c ds us := by
  cases x with
  | dctT xs =>
    have e' : D.dctT xs = D.dctT ds := e
    cases e'
    unfold Rep at h
    obtain ⟨a, vs, h1, _, h2, h3⟩ := h
    exact ⟨a, vs, h1, h2, h3⟩
  | obj r =>
    obtain ⟨o, e1, e2⟩ := view_obj e (by intro z; cases z)
    obtain ⟨_, h2⟩ := rep_obj.mp h
    have : ∃ us, Rd c.H (c.ι r) (.dT us) ∧ RepKT c ds us := by
      have q := ok.at_ r o e1
      cases o with
      | dctT xs => cases e2; obtain ⟨us, a, b⟩ := q; exact ⟨us, .inl a, b⟩
      | lck o =>
        cases o with
        | dctT xs => cases e2; obtain ⟨ob, us, a, b⟩ := q; exact ⟨us, .inr ⟨ob, a⟩, b⟩
        | lck o => cases o <;> first | (exact (q : False).elim) | cases e2
        | _ => cases e2
      | _ => cases e2
    obtain ⟨vs, h3, h4⟩ := this
    exact ⟨c.ι r, vs, h2 (live_of e1 (val_dead e2)), h3, h4⟩
  | non => cases e
  | bl b => cases e
  | int i => cases e
  | str t => cases e
  | lst t => cases e
  | tup t => cases e
  | dct t => cases e
/-- what a dict holds, by the mirror -/
theorem dget_of {g : Gx} {c : Ct} (ok : Ok g c) {x y : D} {v u : V} {o : Option D} (rx : Rep c x v) (ry : Rep c y u) (e : dlook c.S x y = some o) :
    ∃ a ov, v = .ref a ∧ L2.IsD c.H a ∧ DGet c.H a u ov ∧ ov.isSome = o.isSome ∧ ∀ d, o = some d → ∃ w, ov = some w ∧ Rep c d w := by
  unfold dlook at e
  split at e
  · rename_i kvs ex
    obtain ⟨a, us, rfl, h1, h2⟩ := see_dct ok rx ex
    obtain ⟨k, hk, rfl⟩ := Option.map_eq_some_iff.mp e
    have hu := key_rep hk ry
    subst hu
    cases hg : getK k kvs with
    | none => exact ⟨a, none, rfl, .inl ⟨_, h1⟩, .inl ⟨us, kK k, h1, rfl, (rk_none (fun _ _ => kK_inj) (rk_of.mp h2) hg).symm⟩, rfl, fun d z => by cases z⟩
    | some d =>
      obtain ⟨w, h3, h4⟩ := rk_some (fun _ _ => kK_inj) (rk_of.mp h2) hg
      exact ⟨a, some w, rfl, .inl ⟨_, h1⟩, .inl ⟨us, kK k, h1, rfl, h3.symm⟩, rfl, fun d z => by cases z; exact ⟨w, rfl, h4⟩⟩
  · rename_i kvs ex
    obtain ⟨a, us, rfl, h1, h2⟩ := see_dctT ok rx ex
    obtain ⟨k, hk, rfl⟩ := Option.map_eq_some_iff.mp e
    obtain ⟨b, rfl, hb⟩ := keyT_rep hk ry
    cases hg : getK k kvs with
    | none => exact ⟨a, none, rfl, .inr ⟨_, h1⟩, .inr ⟨us, k.map kK, b, h1, rfl, hb, (rk_none (fun _ _ => kKs_inj) (rkT_of.mp h2) hg).symm⟩, rfl, fun d z => by cases z⟩
    | some d =>
      obtain ⟨w, h3, h4⟩ := rk_some (fun _ _ => kKs_inj) (rkT_of.mp h2) hg
      exact ⟨a, some w, rfl, .inr ⟨_, h1⟩, .inr ⟨us, k.map kK, b, h1, rfl, hb, h3.symm⟩, rfl, fun d z => by cases z; exact ⟨w, rfl, h4⟩⟩
  · cases e
/-- y in .. -/
abbrev rInA (K : PySem.W.Frag) (neg : Bool) : R2 := fun x y H Q => rIn K neg x y H Q ∨ (∃ a o, y = .ref a ∧ DGet H a x o ∧ Q (.bl (if neg = true then !o.isSome else o.isSome)) H) ∨
  ∃ (c : Nat) (z : Str), x = .str ⟨#[c]⟩ ∧ y = .str z ∧ Q (.bl (if neg = true then !decide (c ∈ z.cps.toList) else decide (c ∈ z.cps.toList))) H
theorem op_inA {X : Cx} (hu : X.A.units + 1 < cLine) : OpR X (compareOp .In) (rInA X.K false) := op_in_seq.or ((show OpR X (compareOp .In) _ from fun pins s σ H x y v u Q I rx ry ⟨a, o, ey, hg, q⟩ => by
  subst ey
  obtain rfl : u = Value.ref a := ry
  exact d_in hu I hg rx fun s' I' => ⟨.bl o.isSome, H, I', rfl, q⟩).or op_in_sign)
theorem op_notInA {X : Cx} (hu : X.A.units + 1 < cLine) : OpR X (compareOp .NotIn) (rInA X.K true) := op_notIn_seq.or ((show OpR X (compareOp .NotIn) _ from fun pins s σ H x y v u Q I rx ry ⟨a, o, ey, hg, q⟩ => by
  subst ey
  obtain rfl : u = Value.ref a := ry
  exact d_notIn hu I hg rx fun s' I' => ⟨.bl (!o.isSome), H, I', rfl, q⟩).or op_notIn_sign)
theorem inSV_of {g : Gx} {K : PySem.W.Frag} {c : Ct} (ok : Ok g c) {x y : D} {v u : V} {b : Bool} (rx : Rep c x v) (ry : Rep c y u) (e : inSV c.S x y = some b) :
    (∃ p vs, u = .ref p ∧ (SqL K c.H p vs ∨ SqT K c.H p vs) ∧ flatV v = true ∧ vs.all flatV = true ∧ L2.inV v vs = b) ∨ (∃ a o, u = .ref a ∧ DGet c.H a v o ∧ o.isSome = b) ∨ ∃ (k : Nat) (z : Str), v = .str ⟨#[k]⟩ ∧ u = .str z ∧ decide (k ∈ z.cps.toList) = b := by
  unfold inSV at e
  split at e
  · rename_i kvs ey
    cases hk : keyD x with
    | none => rw [hk] at e; cases e
    | some k =>
      rw [hk] at e; cases e
      obtain ⟨a, ov, e1, _, e2, e3, _⟩ := dget_of (o := getK k kvs) ok ry rx (by unfold dlook; rw [ey]; simp only [hk]; rfl)
      exact .inr (.inl ⟨a, ov, e1, e2, e3⟩)
  · rename_i kvs ey
    cases hk : keyT x with
    | none => rw [hk] at e; cases e
    | some k =>
      rw [hk] at e; cases e
      obtain ⟨a, ov, e1, _, e2, e3, _⟩ := dget_of (o := getK k kvs) ok ry rx (by unfold dlook; rw [ey]; simp only [hk]; rfl)
      exact .inr (.inl ⟨a, ov, e1, e2, e3⟩)
  · rename_i t ey
    have ey := view_str ey
    subst ey
    split at e
    · rename_i k
      cases e
      refine .inr (.inr ⟨k, sS t, rep_str.mp rx, rep_str.mp ry, ?_⟩)
      show decide (k ∈ t.toArray.toList) = _
      rw [List.contains_eq_mem]
    · cases e
  · rename_i xs ey
    split at e
    · rename_i h
      rw [Bool.and_eq_true] at h
      cases e
      obtain ⟨a, vs, rfl, h1, h2⟩ := see_lst ok ry ey
      exact .inl ⟨a, vs, rfl, .inl (.inl h1), flat_of h.1 rx, flatL_of h.2 h2, inV_of h.1 rx h.2 h2⟩
    · cases e
  · rename_i xs ey
    split at e
    · rename_i h
      rw [Bool.and_eq_true] at h
      cases e
      obtain ⟨a, vs, rfl, h1, h2⟩ := see_tup ok ry ey
      exact .inl ⟨a, vs, rfl, .inr (SqT.of h1), flat_of h.1 rx, flatL_of h.2 h2, inV_of h.1 rx h.2 h2⟩
    · cases e
  · cases e
theorem sr_inS {g : Gx} {K : PySem.W.Frag} : SR g (rInA K false) oInS := by
  intro c x y v u Q z ok rx ry e q
  unfold oInS at e
  cases h : inSV c.S x y with
  | none => rw [h] at e; cases e
  | some b =>
    rw [h] at e; cases e
    have w := we_bl ok q
    rcases inSV_of (K := K) ok rx ry h with ⟨p, vs, h1, h2, h3, h4, h5⟩ | ⟨a, o, h1, h2, h3⟩ | ⟨k, s, h1, h2, h3⟩
    · refine .inl ⟨p, vs, h1, h2, h3, h4, ?_⟩
      rw [if_neg (by decide), h5]; exact w
    · refine .inr (.inl ⟨a, o, h1, h2, ?_⟩)
      rw [if_neg (by decide), h3]; exact w
    · refine .inr (.inr ⟨k, s, h1, h2, ?_⟩)
      rw [if_neg (by decide), h3]; exact w
theorem sr_notInS {g : Gx} {K : PySem.W.Frag} : SR g (rInA K true) oNotInS := by
  intro c x y v u Q z ok rx ry e q
  unfold oNotInS at e
  cases h : inSV c.S x y with
  | none => rw [h] at e; cases e
  | some b =>
    rw [h] at e; cases e
    have w := we_bl ok q
    rcases inSV_of (K := K) ok rx ry h with ⟨p, vs, h1, h2, h3, h4, h5⟩ | ⟨a, o, h1, h2, h3⟩ | ⟨k, s, h1, h2, h3⟩
    · refine .inl ⟨p, vs, h1, h2, h3, h4, ?_⟩
      rw [if_pos (by decide), h5]; exact w
    · refine .inr (.inl ⟨a, o, h1, h2, ?_⟩)
      rw [if_pos (by decide), h3]; exact w
    · refine .inr (.inr ⟨k, s, h1, h2, ?_⟩)
      rw [if_pos (by decide), h3]; exact w
/-- a subscript of a dict -/
theorem ix_dict {X : Cx} (hu : X.A.units + 1 < cLine) : IxR X (fun x y H Q => ∃ a w, x = .ref a ∧ DGet H a y (some w) ∧ Q w H) := by
  intro value slice pins s σ H x y v u Q I rx ry ⟨a, w, ex, hg, q⟩ hs
  subst ex
  obtain rfl : v = Value.ref a := rx
  have hT := dict_typeIs I hg
  unfold PyProof.Rows.subscriptTail
  refine wpAny_bind ?_
  rw [getitemInPython_of_ne hT.not_modules]
  refine wpAny_bind (wpAny_specialOf hT PySem.F.slot_dict_getitem.lookup ?_)
  have fin : wpAny (model X.prog X.w) X.A (subscripted slice false (.ref a) u) (fun r s₃ => wpAny (model X.prog X.w) X.A (letTemporaryGo value (.ref a) r >>= fun _ => pure r) (EP X pins σ Q) X.xe s₃) X.xe s := by
    rw [hs]
    exact wpAny_operating (d_getItem hu I hg ry fun w' s' I' rw' => wpAny_bind (wpAny_letTemporaryGo (wpAny_pure ⟨w, H, I', rw', q⟩)))
  first
    | exact wpAny_pure (wpAny_bind fin)
    | exact wpAny_bind (wpAny_pure (wpAny_bind fin))
    | exact wpAny_bind fin
abbrev rIxA (K : PySem.W.Frag) : R2 := fun x y H Q => (∃ a w, x = .ref a ∧ DGet H a y (some w) ∧ Q w H) ∨ rIx K x y H Q
theorem ix_all {X : Cx} (hu : X.A.units + 1 < cLine) : IxR X (rIxA X.K) := (ix_dict hu).or ix_seq
theorem sr_ix {g : Gx} {K : PySem.W.Frag} : SR g (rIxA K) oIx := by
  intro c x y v u Q z ok rx ry e q
  unfold oIx at e
  split at e
  · rename_i xs i ex
    obtain ⟨a, vs, rfl, h1, h2⟩ := see_lst ok rx ex
    obtain ⟨w, h3, h4⟩ := at_of' h2 e
    exact .inr (.inl ⟨a, vs, i, w, rfl, rep_int.mp ry, .inl h1, h3, WE.here ok h4 q⟩)
  · rename_i xs i ex
    obtain ⟨a, vs, rfl, h1, h2⟩ := see_tup ok rx ex
    obtain ⟨w, h3, h4⟩ := at_of' h2 e
    exact .inr (.inr (.inl ⟨a, vs, i, w, rfl, rep_int.mp ry, SqT.of h1, h3, WE.here ok h4 q⟩))
  · rename_i t i ex
    split at e
    · rename_i hb
      have ex := view_str ex
      subst ex
      cases h : atZ t i with
      | none => rw [h] at e; cases e
      | some k =>
        rw [h] at e; cases e
        refine .inr (.inr (.inr ⟨sS t, i, k, rep_str.mp rx, rep_int.mp ry, by rw [sS_len]; exact sz5 hb, ?_, we_str ok q⟩))
        unfold L2.atI
        unfold atZ at h
        exact h
    · cases e
  · rename_i y _ _ kvs ex
    cases hk : keyD y with
    | none => rw [hk] at e; cases e
    | some k =>
      rw [hk] at e
      have e' : getK k kvs = some z := e
      obtain ⟨a, ov, e1, _, e2, _, e3⟩ := dget_of (o := some z) ok rx ry (by unfold dlook; rw [ex]; simp only [hk, Option.map_some, e'])
      obtain ⟨w, rfl, h4⟩ := e3 z rfl
      exact .inl ⟨a, w, e1, e2, WE.here ok h4 q⟩
  · rename_i y _ _ kvs ex
    cases hk : keyT y with
    | none => rw [hk] at e; cases e
    | some k =>
      rw [hk] at e
      have e' : getK k kvs = some z := e
      obtain ⟨a, ov, e1, _, e2, _, e3⟩ := dget_of (o := some z) ok rx ry (by unfold dlook; rw [ex]; simp only [hk, Option.map_some, e'])
      obtain ⟨w, rfl, h4⟩ := e3 z rfl
      exact .inl ⟨a, w, e1, e2, WE.here ok h4 q⟩
  · cases e
theorem nonD_of {g : Gx} {c : Ct} (ok : Ok g c) {x : D} {v : V} {b : Bool} (rx : Rep c x v) (e : nonD c.S x = some b) : decide (v = V.non) = b := by
  cases x with
  | non => cases e; rw [rep_non.mp rx]; rfl
  | bl b => cases e; rw [rep_bl.mp rx]; rfl
  | int b => cases e; rw [rep_int.mp rx]; rfl
  | str b => cases e; rw [rep_str.mp rx]; rfl
  | lst ds => cases e; obtain ⟨a, vs, rfl, _⟩ := rep_lst.mp rx; rfl
  | tup ds => cases e; obtain ⟨a, vs, rfl, _⟩ := rep_tup.mp rx; rfl
  | dct ds => cases e; obtain ⟨a, vs, rfl, _⟩ := rep_dct.mp rx; rfl
  | dctT ds => cases e; unfold Rep at rx; obtain ⟨a, vs, rfl, _⟩ := rx; rfl
  | obj r =>
    obtain ⟨_, h2⟩ := rep_obj.mp rx
    unfold nonD at e
    cases h : c.S[r]? with
    | none => simp only [h] at e; cases e
    | some o =>
      simp only [h] at e
      cases o <;> first | (cases e; done) | skip
      all_goals
        cases e
        rw [h2 (live_of h (by intro z; cases z))]
        rfl
theorem sr_isN {g : Gx} : SR g (fun x y H Q => y = .non ∧ Q (.bl (decide (x = .non))) H) oIsN := by
  intro c x y v u Q z ok rx ry e q
  unfold oIsN at e
  split at e
  · refine ⟨rep_non.mp ry, ?_⟩
    cases h : nonD c.S x with
    | none => rw [h] at e; cases e
    | some b =>
      rw [h] at e; cases e
      rw [nonD_of ok rx h]
      exact we_bl ok q
  · cases e
theorem sr_notN {g : Gx} : SR g (fun x y H Q => y = .non ∧ Q (.bl (!decide (x = .non))) H) oNotN := by
  intro c x y v u Q z ok rx ry e q
  unfold oNotN at e
  split at e
  · refine ⟨rep_non.mp ry, ?_⟩
    cases h : nonD c.S x with
    | none => rw [h] at e; cases e
    | some b =>
      rw [h] at e; cases e
      rw [nonD_of ok rx h]
      exact we_bl ok q
  · cases e
theorem fold_app : ∀ (l : List Tx) (acc : Array Nat), (l.map (·.toArray)).foldl (· ++ ·) acc = acc ++ l.flatten.toArray
  | [], acc => by simp
  | x :: l, acc => by
    rw [List.map_cons, List.foldl_cons, fold_app l, List.flatten_cons]
    apply Array.ext'
    simp
theorem rep_fold (t : Tx) (n : Nat) : (List.replicate n t.toArray).foldl (· ++ ·) #[] = (List.replicate n t).flatten.toArray := by
  have := fold_app (List.replicate n t) #[]
  rw [List.map_replicate] at this
  rw [this]; simp
theorem flat_len (t : Tx) (n : Nat) : (List.replicate n t).flatten.length = n * t.length := by simp
def rMulS : R2 := fun x y H Q => ∃ (t : Tx) (n : Int), x = .str (sS t) ∧ y = .int n ∧ -1000 < n ∧ n < 1000 ∧ t.length ≤ 1000 ∧ Q (.str (sS (List.replicate n.toNat t).flatten)) H
theorem op_mulS {X : Cx} : OpR X (binaryOp .Mult) rMulS := by
  intro pins s σ H x y v u Q I rx ry h
  obtain ⟨t, n, rfl, rfl, h1, h2, h3, q⟩ := h
  obtain ⟨tk, rfl⟩ := rx
  obtain ⟨tk', rfl⟩ := ry
  have hl : (sS t).length = t.length := rfl
  have hle : n.toNat * t.length ≤ 1000 * 1000 := Nat.mul_le_mul (by omega) h3
  refine P.mul_str ?_ (fun hn hz => ?_) (fun hn hz => ?_) ?_
  · simp only [Bool.or_eq_false_iff, decide_eq_false_iff_not]; omega
  · rw [hl]
    have hn1 : 1 ≤ n := by omega
    have h8 : (t.length : Int) * n ≤ 1000 * 1000 := Int.mul_le_mul (by omega) (by omega) (by omega) (by decide)
    have : (t.length : Int) ≤ (2 ^ 63 - 1) / n := (Int.le_ediv_iff_mul_le (by omega)).mpr (by omega)
    omega
  · unfold PySem.Builtin.Str.tooLong
    rw [hl, sizeLine_eq, Nat.mul_comm]
    exact decide_eq_false (by omega)
  · by_cases hn : n < 1
    · rw [if_pos hn]
      refine ⟨by decide, ⟨.str Str.empty, H, I.tok _, ⟨_, rfl⟩, ?_⟩⟩
      have : n.toNat = 0 := by omega
      rw [this] at q
      exact q
    · rw [if_neg hn]
      by_cases hz : (n == 1 || (sS t).length == 0) = true
      · rw [if_pos hz]
        refine ⟨.str (sS t), H, I, ⟨tk, rfl⟩, ?_⟩
        have e : (List.replicate n.toNat t).flatten = t := by
          rw [Bool.or_eq_true] at hz
          rcases hz with hz | hz
          · have : n = 1 := by simpa using hz
            subst this
            simp
          · have : t.length = 0 := by rw [hl] at hz; simpa using hz
            have : t = [] := List.length_eq_zero_iff.mp this
            subst this
            simp
        rw [e] at q
        exact q
      · rw [if_neg hz]
        have e : (List.replicate n.toNat (sS t).cps).foldl (· ++ ·) #[] = (List.replicate n.toNat t).flatten.toArray := rep_fold t n.toNat
        rw [e]
        refine ⟨?_, ⟨.str (sS (List.replicate n.toNat t).flatten), H, I.tok _, ⟨_, rfl⟩, q⟩⟩
        first
          | exact decide_eq_true (by show (List.replicate n.toNat t).flatten.toArray.size ≤ sizeLine; rw [sizeLine_eq]; simp; omega)
          | exact decide_eq_false (by show ¬ (List.replicate n.toNat t).flatten.toArray.size > sizeLine; rw [sizeLine_eq]; simp; omega)
          | (show (List.replicate n.toNat t).flatten.toArray.size ≤ sizeLine; rw [sizeLine_eq]; simp; omega)
abbrev rMulAll : R2 := fun x y H Q => rI CMul (fun i j => .int (i * j)) x y H Q ∨ rRep x y H Q ∨ rMulS x y H Q
theorem op_mulAll {X : Cx} : OpR X (binaryOp .Mult) rMulAll := op_mul.or (op_rep.or op_mulS)
theorem repL_rep {c : Ct} {ds : List D} {vs : List V} (r : RepL c ds vs) : ∀ n, RepL c (List.replicate n ds).flatten (List.replicate n vs).flatten
  | 0 => repL_nil.mpr rfl
  | n + 1 => by
    rw [List.replicate_succ, List.replicate_succ, List.flatten_cons, List.flatten_cons]
    exact repL_app r (repL_rep r n)
theorem sr_mul {g : Gx} : SR g rMulAll oMul := by
  intro c x y v u Q z ok rx ry e q
  unfold oMul at e
  split at e
  · rename_i a b ea
    split at e
    · rename_i hb
      cases e
      have ea := viewM_int ea
      subst ea
      rw [big_eq] at hb
      refine .inl ⟨a, b, rep_int.mp rx, rep_int.mp ry, ?_, we_int ok q⟩
      rcases hb with h | h
      · exact .inl ⟨by have := h.1; omega, h.2⟩
      · exact .inr ⟨by have := h.1; omega, h.2⟩
    · cases e
  · rename_i a b ea
    split at e
    · rename_i hb
      cases e
      obtain ⟨p, vs, rfl, h1, h2⟩ := see_mut ok rx ea
      refine .inr (.inl ⟨p, b, vs, rfl, rep_int.mp ry, h1, by omega, by omega, ?_, we_newL ok (repL_rep h2 _) q⟩)
      rw [repL_len h2]
      have h3 : b.toNat ≤ 1000 := by omega
      have h4 : a.length * b.toNat ≤ 1000 * 1000 := Nat.mul_le_mul hb.2.2 h3
      exact Nat.le_trans h4 (by rw [sizeLine_eq]; decide)
    · cases e
  · rename_i a b ea
    split at e
    · rename_i hb
      cases e
      have ea := viewM_str ea
      subst ea
      exact .inr (.inr ⟨a, b, rep_str.mp rx, rep_int.mp ry, hb.1, hb.2.1, hb.2.2, we_str ok q⟩)
    · cases e
  · cases e
theorem su_neg {g : Gx} : SU g (rU fun i => .int (-i)) uNeg := by
  intro c x v Q z ok rx e q
  unfold uNeg at e
  split at e
  · cases e
    exact ⟨_, rep_int.mp rx, we_int ok q⟩
  · cases e
/-! ### built-in functions -/
theorem intsD_of {c : Ct} : ∀ {xs : List D} {vs : List V} {ns : List Int}, intsD xs = some ns → RepL c xs vs → vs = ns.map V.int
  | [], vs, ns, e, r => by cases e; rw [repL_nil.mp r]; rfl
  | x :: xs, vs, ns, e, r => by
    obtain ⟨v, q, rfl, h1, h2⟩ := repL_cons.mp r
    cases x <;> first | (simp [intsD] at e; done) | skip
    case int i =>
      unfold intsD at e
      cases h : intsD xs with
      | none => rw [h] at e; cases e
      | some l =>
        rw [h] at e; cases e
        rw [rep_int.mp h1, intsD_of h h2]; rfl
theorem repL_ints {c : Ct} : ∀ ns : List Int, RepL c (ns.map .int) (ns.map V.int)
  | [] => repL_nil.mpr rfl
  | n :: ns => repL_cons.mpr ⟨_, _, rfl, rep_int.mpr rfl, repL_ints ns⟩
theorem rep1 {c : Ct} {x : D} {vs : List V} (r : RepL c [x] vs) : ∃ v, vs = [v] ∧ Rep c x v := by
  obtain ⟨v, q, rfl, h1, h2⟩ := repL_cons.mp r
  rw [repL_nil.mp h2]
  exact ⟨v, rfl, h1⟩
theorem rep2 {c : Ct} {x y : D} {vs : List V} (r : RepL c [x, y] vs) : ∃ v u, vs = [v, u] ∧ Rep c x v ∧ Rep c y u := by
  obtain ⟨v, q, rfl, h1, h2⟩ := repL_cons.mp r
  obtain ⟨u, rfl, h3⟩ := rep1 h2
  exact ⟨v, u, rfl, h1, h3⟩
theorem repK_len {c : Ct} : ∀ {ds : List (K1 × D)} {vs : List (Key × V)}, RepK c ds vs → vs.length = ds.length
  | [], vs, h => by unfold RepK at h; subst h; rfl
  | (k, d) :: ds, vs, h => by
    unfold RepK at h
    obtain ⟨v, r, rfl, _, h2⟩ := h
    rw [List.length_cons, List.length_cons, repK_len h2]
theorem sc_abs {g : Gx} : SC g (fun xs H Q => ∃ i, xs = [.int i] ∧ Q (.int (if i < 0 then -i else i)) H) bAbs := by
  intro c xs vs Q z ok r e q
  unfold bAbs at e
  split at e
  · cases e
    obtain ⟨v, rfl, h⟩ := rep1 r
    exact ⟨_, by rw [rep_int.mp h], we_int ok q⟩
  · cases e
theorem sc_int {g : Gx} : SC g (fun xs H Q => (∃ i, xs = [.int i] ∧ Q (.int i) H) ∨ ∃ k, xs = [.bl k] ∧ Q (.int (if k then 1 else 0)) H) bInt := by
  intro c xs vs Q z ok r e q
  unfold bInt at e
  split at e
  · cases e
    obtain ⟨v, rfl, h⟩ := rep1 r
    exact .inl ⟨_, by rw [rep_int.mp h], we_int ok q⟩
  · cases e
    obtain ⟨v, rfl, h⟩ := rep1 r
    exact .inr ⟨_, by rw [rep_bl.mp h], we_int ok q⟩
  · cases e
theorem maxI_spec : ∀ (l : List Int) (m : Int), (maxI l m = m ∨ maxI l m ∈ l) ∧ m ≤ maxI l m ∧ ∀ y, y ∈ l → y ≤ maxI l m
  | [], m => by simp [maxI]
  | x :: r, m => by
    unfold maxI
    have hM : x ≤ (if x > m then x else m) ∧ m ≤ (if x > m then x else m) ∧ ((if x > m then x else m) = x ∨ (if x > m then x else m) = m) := by split <;> omega
    generalize (if x > m then x else m) = M at hM
    obtain ⟨h1, h2, h3⟩ := maxI_spec r M
    refine ⟨?_, by omega, ?_⟩
    · rcases h1 with h | h
      · rw [h]
        rcases hM.2.2 with z | z
        · rw [z]; exact .inr List.mem_cons_self
        · exact .inl z
      · exact .inr (List.mem_cons_of_mem _ h)
    · intro y hy
      rcases List.mem_cons.mp hy with e | e
      · subst e; omega
      · exact h3 y e
theorem minI_spec : ∀ (l : List Int) (m : Int), (minI l m = m ∨ minI l m ∈ l) ∧ minI l m ≤ m ∧ ∀ y, y ∈ l → minI l m ≤ y
  | [], m => by simp [minI]
  | x :: r, m => by
    unfold minI
    have hM : (if x < m then x else m) ≤ x ∧ (if x < m then x else m) ≤ m ∧ ((if x < m then x else m) = x ∨ (if x < m then x else m) = m) := by split <;> omega
    generalize (if x < m then x else m) = M at hM
    obtain ⟨h1, h2, h3⟩ := minI_spec r M
    refine ⟨?_, by omega, ?_⟩
    · rcases h1 with h | h
      · rw [h]
        rcases hM.2.2 with z | z
        · rw [z]; exact .inr List.mem_cons_self
        · exact .inl z
      · exact .inr (List.mem_cons_of_mem _ h)
    · intro y hy
      rcases List.mem_cons.mp hy with e | e
      · subst e; omega
      · exact h3 y e
theorem sumI_eq : ∀ l : List Int, l.sum = sumI l
  | [] => rfl
  | x :: r => by rw [List.sum_cons, sumI_eq r]; rfl
abbrev rMaxAll (K : PySem.W.Frag) : List V → Hp → VK → Prop := fun xs H Q => (∃ i j, xs = [.int i, .int j] ∧ Q (.int (if j > i then j else i)) H) ∨ rMax K xs H Q
abbrev rMinAll (K : PySem.W.Frag) : List V → Hp → VK → Prop := fun xs H Q => (∃ i j, xs = [.int i, .int j] ∧ Q (.int (if j < i then j else i)) H) ∨ rMin K xs H Q
theorem callR_or {X : Cx} {f : Value} {r r' : List V → Hp → VK → Prop} (h : CallR X f r) (h' : CallR X f r') : CallR X f (fun xs H Q => r xs H Q ∨ r' xs H Q) := by
  intro pins s σ H xs us Q I rr q
  rcases q with q | q
  · exact h pins s σ H xs us Q I rr q
  · exact h' pins s σ H xs us Q I rr q
theorem sc_max {g : Gx} {K : PySem.W.Frag} : SC g (rMaxAll K) bMax := by
  intro c xs vs Q z ok r e q
  unfold bMax at e
  split at e
  · cases e
    obtain ⟨v, u, rfl, h1, h2⟩ := rep2 r
    exact .inl ⟨_, _, by rw [rep_int.mp h1, rep_int.mp h2], we_int ok q⟩
  · rename_i x _
    split at e
    · rename_i y l hl
      cases e
      split at hl
      · rename_i ds ex
        obtain ⟨v, rfl, h⟩ := rep1 r
        obtain ⟨a, ws, rfl, h1, h2⟩ := see_lst ok h ex
        have h3 := intsD_of hl h2
        subst h3
        refine .inr ⟨a, y :: l, rfl, .inl h1, by simp, fun m hm hle => ?_⟩
        obtain ⟨s1, s2, s3⟩ := maxI_spec l y
        have e1 : m = maxI l y := by
          have a1 : m ≤ maxI l y := by
            rcases List.mem_cons.mp hm with z | z
            · subst z; exact s2
            · exact s3 m z
          have a2 : maxI l y ≤ m := hle _ (by
            rcases s1 with z | z
            · rw [z]; exact List.mem_cons_self
            · exact List.mem_cons_of_mem _ z)
          omega
        rw [e1]
        exact we_int ok q
      · cases hl
    · cases e
  · cases e
theorem sc_min {g : Gx} {K : PySem.W.Frag} : SC g (rMinAll K) bMin := by
  intro c xs vs Q z ok r e q
  unfold bMin at e
  split at e
  · cases e
    obtain ⟨v, u, rfl, h1, h2⟩ := rep2 r
    exact .inl ⟨_, _, by rw [rep_int.mp h1, rep_int.mp h2], we_int ok q⟩
  · rename_i x _
    split at e
    · rename_i y l hl
      cases e
      split at hl
      · rename_i ds ex
        obtain ⟨v, rfl, h⟩ := rep1 r
        obtain ⟨a, ws, rfl, h1, h2⟩ := see_lst ok h ex
        have h3 := intsD_of hl h2
        subst h3
        refine .inr ⟨a, y :: l, rfl, .inl h1, by simp, fun m hm hle => ?_⟩
        obtain ⟨s1, s2, s3⟩ := minI_spec l y
        have e1 : m = minI l y := by
          have a1 : minI l y ≤ m := by
            rcases List.mem_cons.mp hm with z | z
            · subst z; exact s2
            · exact s3 m z
          have a2 : m ≤ minI l y := hle _ (by
            rcases s1 with z | z
            · rw [z]; exact List.mem_cons_self
            · exact List.mem_cons_of_mem _ z)
          omega
        rw [e1]
        exact we_int ok q
      · cases hl
    · cases e
  · cases e
theorem sc_sum {g : Gx} {K : PySem.W.Frag} : SC g (rSum K) bSum := by
  intro c xs vs Q z ok r e q
  unfold bSum at e
  split at e
  · rename_i x
    split at e
    · rename_i ds ex
      cases hl : intsD ds with
      | none => rw [hl] at e; cases e
      | some l =>
        rw [hl] at e; cases e
        obtain ⟨v, rfl, h⟩ := rep1 r
        obtain ⟨a, ws, rfl, h1, h2⟩ := see_lst ok h ex
        have h3 := intsD_of hl h2
        subst h3
        refine ⟨a, l, rfl, .inl h1, ?_⟩
        rw [sumI_eq]
        exact we_int ok q
    · cases e
  · cases e
theorem dctM_of {g : Gx} {c : Ct} (ok : Ok g c) {x : D} {v : V} {kvs : List (K1 × D)} (rx : Rep c x v) (e : dctM c.S x = some kvs) : ∃ a us, v = .ref a ∧ c.H a = some (.dK us) ∧ RepK c kvs us := by
  cases x <;> first | (cases e; done) | skip
  rename_i r
  unfold dctM at e
  dsimp only at e
  cases h : c.S[r]? with
  | none => rw [h] at e; cases e
  | some o =>
    cases o <;> first | (rw [h] at e; cases e; done) | skip
    rw [h] at e
    cases e
    obtain ⟨us, h1, h2⟩ := ok.at_ r _ h
    exact ⟨c.ι r, us, (rep_obj.mp rx).2 (live_of h (by intro z; cases z)), h1, h2⟩
abbrev rLenA (K : PySem.W.Frag) : List V → Hp → VK → Prop := fun xs H Q => (∃ x n, xs = [x] ∧ LenV K x H n ∧ Q (.int n) H) ∨ ∃ a kvs, xs = [V.ref a] ∧ H a = some (.dK kvs) ∧ Q (.int kvs.length) H
theorem sc_len {g : Gx} {K : PySem.W.Frag} : SC g (rLenA K) bLen := by
  intro c xs vs Q z ok r e q
  unfold bLen at e
  split at e
  · rename_i x
    obtain ⟨v, rfl, h⟩ := rep1 r
    split at e
    · rename_i ds ex
      cases e
      obtain ⟨a, ws, rfl, h1, h2⟩ := see_lst ok h ex
      exact .inl ⟨_, ds.length, rfl, .inl ⟨ws, .inl h1, (repL_len h2).symm⟩, we_int ok q⟩
    · rename_i ds ex
      cases e
      obtain ⟨a, ws, rfl, h1, h2⟩ := see_tup ok h ex
      exact .inl ⟨_, ds.length, rfl, .inr ⟨ws, SqT.of h1, (repL_len h2).symm⟩, we_int ok q⟩
    · rename_i t ex
      split at e
      · rename_i hb
        cases e
        rw [view_str ex] at h
        rw [rep_str.mp h]
        exact .inl ⟨_, t.length, rfl, ⟨by rw [sS_len]; exact sz5 hb, (sS_len t).symm⟩, we_int ok q⟩
      · cases e
    · split at e
      · rename_i k hk
        cases e
        obtain ⟨a, us, rfl, h1, h2⟩ := dctM_of ok h hk
        refine .inr ⟨a, us, rfl, h1, ?_⟩
        rw [rk_len (rk_of.mp h2)]
        exact we_int ok q
      · cases e
  · cases e

theorem seqD_of {g : Gx} {c : Ct} (ok : Ok g c) {x : D} {v : V} {ds : List D} (r : Rep c x v) (e : seqD c.S x = some ds) : ∃ p vs, v = .ref p ∧ ((view c.S x = .lst ds ∧ Rd c.H p (.lst vs)) ∨ (x = .tup ds ∧ c.H p = some (.tup vs))) ∧ RepL c ds vs := by
  unfold seqD at e
  split at e
  · rename_i xs ex
    cases e
    obtain ⟨a, ws, rfl, h1, h2⟩ := see_lst ok r ex
    exact ⟨a, ws, rfl, .inl ⟨ex, h1⟩, h2⟩
  · rename_i xs ex
    cases e
    obtain ⟨a, ws, rfl, h1, h2⟩ := see_tup ok r ex
    have ex : x = .tup ds := by
      cases x with
      | obj k =>
        obtain ⟨o, e1, e2⟩ := view_obj ex (by intro z; cases z)
        have : ∀ o : Ob, o.val ≠ some (.tup ds) := by
          intro o
          induction o with
          | lck o ih => exact ih
          | _ => intro z; cases z
        exact absurd e2 (this o)
      | _ => exact ex
    exact ⟨a, ws, rfl, .inr ⟨ex, h1⟩, h2⟩
  · cases e
theorem sc_list {g : Gx} {K : PySem.W.Frag} : SC g (fun xs H Q => ∃ p ys, xs = [.ref p] ∧ (SqL K H p ys ∨ SqT K H p ys) ∧ ∀ l, H l = none → Q (.ref l) (upd H l (.lst ys))) bList := by
  intro c xs vs Q z ok r e q
  unfold bList at e
  split at e
  · rename_i x
    cases h : seqD c.S x with
    | none => rw [h] at e; cases e
    | some ds =>
      rw [h] at e; cases e
      obtain ⟨v, rfl, rx⟩ := rep1 r
      obtain ⟨p, ws, rfl, h1, h2⟩ := seqD_of ok rx h
      refine ⟨p, ws, rfl, ?_, we_newL ok h2 q⟩
      rcases h1 with ⟨_, h1⟩ | ⟨_, h1⟩
      · exact .inl (.inl h1)
      · exact .inr (SqT.of h1)
  · cases e
theorem sc_tuple {g : Gx} {K : PySem.W.Frag} : SC g (fun xs H Q => ∃ p ys, xs = [.ref p] ∧ ((SqL K H p ys ∧ ∀ l, H l = none → Q (.ref l) (upd H l (.tup ys))) ∨ (SqT K H p ys ∧ Q (.ref p) H))) bTuple := by
  intro c xs vs Q z ok r e q
  unfold bTuple at e
  split at e
  · rename_i x
    cases h : seqD c.S x with
    | none => rw [h] at e; cases e
    | some ds =>
      rw [h] at e; cases e
      obtain ⟨v, rfl, rx⟩ := rep1 r
      obtain ⟨p, ws, rfl, h1, h2⟩ := seqD_of ok rx h
      refine ⟨p, ws, rfl, ?_⟩
      rcases h1 with ⟨_, h1⟩ | ⟨ex, h1⟩
      · exact .inl ⟨.inl h1, we_newT ok h2 q⟩
      · subst ex
        exact .inr ⟨SqT.of h1, WE.here ok rx q⟩
  · cases e
end Sm
end

section
set_option Elab.async false
set_option linter.all false
set_option autoImplicit false
set_option maxRecDepth 100000
set_option maxHeartbeats 4000000
namespace Sm
open PySem L2
/-! ### expressions: the rule and what it does, in one -/
section
variable {g : Gx} {X : Cx} {E : XK}
theorem es_v (i : Nat) {x : Str} {pos : Pos} (hN : X.N[i]? = some x := by rfl) (hv : Vis X.env.scope x := by first | exact Or.inl rfl | exact Or.inr (Or.inl rfl) | exact Or.inr (Or.inr rfl)) (hd : (x == ("__debug__" : Str)) = false := by decide)
    (hcd : (x == ("__classdict__" : Str)) = false := by decide) : ES g X E (.Name x pos) (eV i) :=
  ⟨_, pe_var hN hv hd hcd, fun c σ e Q ok er hp => by
    unfold eV at hp
    cases h : e[i]? with
    | none => simp only [h] at hp; exact hp.elim
    | some o =>
      cases o with
      | none => simp only [h] at hp; exact hp.elim
      | some d =>
        simp only [h] at hp
        obtain ⟨v, h1, h2⟩ := er.2 i d h
        exact ⟨v, h1, WE.here ok h2 hp⟩⟩
theorem es_int {i j pos} : ES g X E (.Constant (.int i) j pos) (eC (.int i)) := ⟨_, pe_int, fun c σ e Q ok er hp => we_int ok hp⟩
theorem es_bl {b j pos} : ES g X E (.Constant (.bool b) j pos) (eC (.bl b)) := ⟨_, pe_bl, fun c σ e Q ok er hp => we_bl ok hp⟩
theorem es_non {j pos} : ES g X E (.Constant .none j pos) (eC .non) := ⟨_, pe_non, fun c σ e Q ok er hp => WE.here ok (rep_non.mpr rfl) hp⟩
theorem es_str (t : Tx) {x : Str} {j pos} (h : x = sS t := by rfl) : ES g X E (.Constant (.str x) j pos) (eC (.str t)) := ⟨_, pe_str, fun c σ e Q ok er hp => by
  show Q (.str x) c.H
  rw [h]
  exact we_str ok hp⟩
theorem PostG.ofO {α β : Type} {c : Ct} {R : β → Store → Prop} {o : Option β} {S : Store} (h : PostG g c E R (ofO o S)) : ∃ b, o = some b ∧ R b S := by
  cases o with
  | none => exact h.elim
  | some b => exact ⟨b, rfl, h⟩
theorem se_op {r : R2} {f : Store → D → D → Option D} {ta tb : TE} {ma mb : ME} (hs : SR g r f) (ha : SE g E ta ma) (hb : SE g E tb mb) : SE g E (tOp r ta tb) (eOp f ma mb) := by
  intro c σ e Q ok er hp
  show ta σ c.H _
  refine bindE ha ok er hp fun c1 x v ok1 l1 r1 rx hp1 => ?_
  show tb σ c1.H _
  refine bindE hb ok1 (er.mono l1) hp1 fun c2 y u ok2 l2 r2 ry hp2 => ?_
  obtain ⟨z, hz, q⟩ := PostG.ofO (α := D) hp2
  exact hs c2 x y v u Q z ok2 (Rep.mono l2 _ _ rx) ry hz (WE.later (l1.trans l2) (r2.trans r1) q)
theorem es_op {op : Operator} {r : R2} {f : Store → D → D → Option D} {a b : Expr} {ma mb : ME} {pos : Pos} (ho : OpR X (binaryOp op) r) (hs : SR g r f) : ES g X E a ma → ES g X E b mb → ES g X E (.BinOp a op b pos) (eOp f ma mb) :=
  fun ⟨ta, pa, sa⟩ ⟨tb, pb, sb⟩ => ⟨_, pe_op ho pa pb, se_op hs sa sb⟩
theorem es_cmp {op : CmpOp} {r : R2} {f : Store → D → D → Option D} {a b : Expr} {ma mb : ME} {pos : Pos} (ho : OpR X (compareOp op) r) (hs : SR g r f) (hm : behindInMarks op b = false := by rfl) : ES g X E a ma → ES g X E b mb → ES g X E (.Compare a [op] [b] pos) (eOp f ma mb) :=
  fun ⟨ta, pa, sa⟩ ⟨tb, pb, sb⟩ => ⟨_, pe_cmpR ho pa pb hm, se_op hs sa sb⟩
/-- f gives a bool -/
def GivesB (f : Store → D → D → Option D) : Prop := ∀ S x y z, f S x y = some z → ∃ b, z = .bl b
theorem bs_cmp {op : CmpOp} {r : R2} {f : Store → D → D → Option D} {a b : Expr} {ma mb : ME} {pos : Pos} (ho : OpR X (compareOp op) r) (hs : SR g r f) (hm : behindInMarks op b = false := by rfl) : ES g X E a ma → ES g X E b mb → BS g X E (.Compare a [op] [b] pos) (tB (eOp f ma mb)) :=
  fun ⟨ta, pa, sa⟩ ⟨tb, pb, sb⟩ => ⟨_, pt_cmpR ho pa pb hm, fun c σ e Q ok er hp => by
    show tOp r ta tb σ c.H _
    refine bindE (R := WB g c Q) (se_op hs sa sb) ok er hp fun c1 x v ok1 l1 r1 rx hp1 => ?_
    cases x <;> first | exact hp1.elim | skip
    rename_i k
    exact ⟨k, rep_bl.mp rx, hp1 c1 ok1 l1 r1 rfl⟩⟩
theorem bs_val {a : Expr} {ma : ME} (he : ∀ whole, isTrue a X.env whole = (do let v ← whole; standAt a.pos; holding [v] (truthy v)) := by intro _; rfl) : ES g X E a ma → BS g X E a (tB ma) :=
  fun ⟨ta, pa, sa⟩ => ⟨_, pt_val pa he, fun c σ e Q ok er hp => by
    show ta σ c.H _
    refine bindE (R := WB g c Q) sa ok er hp fun c1 x v ok1 l1 r1 rx hp1 => ?_
    cases x <;> first | exact hp1.elim | skip
    rename_i k
    exact ⟨k, rep_bl.mp rx, hp1 c1 ok1 l1 r1 rfl⟩⟩
theorem sb_and {ta tb : TT} {ma mb : MB} (ha : SB g E ta ma) (hb : SB g E tb mb) : SB g E (L2.tAnd ta tb) (tAnd ma mb) := by
  intro c σ e Q ok er hp
  show ta σ c.H _
  refine bindB ha ok er hp fun c1 x ok1 l1 r1 hp1 => ?_
  cases x with
  | true =>
    rw [if_pos rfl] at hp1
    rw [if_pos rfl]
    refine hb c1 σ e Q ok1 (er.mono l1) ?_
    revert hp1
    cases mb e c1.S with
    | bad => exact id
    | exc k S => exact id
    | ok b S => exact fun hp1 c' ok' l' r' s' => hp1 c' ok' (l1.trans l') (r'.trans r1) s'
  | false =>
    rw [if_neg (by decide)] at hp1
    rw [if_neg (by decide)]
    exact hp1 c1 ok1 l1 r1 rfl
theorem sb_or {ta tb : TT} {ma mb : MB} (ha : SB g E ta ma) (hb : SB g E tb mb) : SB g E (L2.tOr ta tb) (tOr ma mb) := by
  intro c σ e Q ok er hp
  show ta σ c.H _
  refine bindB ha ok er hp fun c1 x ok1 l1 r1 hp1 => ?_
  cases x with
  | true =>
    rw [if_pos rfl] at hp1
    rw [if_pos rfl]
    exact hp1 c1 ok1 l1 r1 rfl
  | false =>
    rw [if_neg (by decide)] at hp1
    rw [if_neg (by decide)]
    refine hb c1 σ e Q ok1 (er.mono l1) ?_
    revert hp1
    cases mb e c1.S with
    | bad => exact id
    | exc k S => exact id
    | ok b S => exact fun hp1 c' ok' l' r' s' => hp1 c' ok' (l1.trans l') (r'.trans r1) s'
theorem bw_and1 {a : Expr} {ma : MB} {pos : Pos} : BS g X E a ma → BW g X E (.BoolOp .And [a] pos) ma := fun ⟨ta, pa, sa⟩ => ⟨_, pw_and1 pa, sa⟩
theorem bw_or1 {a : Expr} {ma : MB} {pos : Pos} : BS g X E a ma → BW g X E (.BoolOp .Or [a] pos) ma := fun ⟨ta, pa, sa⟩ => ⟨_, pw_or1 pa, sa⟩
theorem bw_and {a b : Expr} {r : List Expr} {ma mb : MB} {pos : Pos} : BS g X E a ma → BW g X E (.BoolOp .And (b :: r) pos) mb → BW g X E (.BoolOp .And (a :: b :: r) pos) (tAnd ma mb) :=
  fun ⟨ta, pa, sa⟩ ⟨tb, pb, sb⟩ => ⟨_, pw_and pa pb, sb_and sa sb⟩
theorem bw_or {a b : Expr} {r : List Expr} {ma mb : MB} {pos : Pos} : BS g X E a ma → BW g X E (.BoolOp .Or (b :: r) pos) mb → BW g X E (.BoolOp .Or (a :: b :: r) pos) (tOr ma mb) :=
  fun ⟨ta, pa, sa⟩ ⟨tb, pb, sb⟩ => ⟨_, pw_or pa pb, sb_or sa sb⟩
theorem bs_w {a : Expr} {ma : MB} : BW g X E a ma → BS g X E a ma := fun ⟨ta, pa, sa⟩ => ⟨_, pa.pt, sa⟩
theorem bs_not {a : Expr} {ma : MB} {pos : Pos} : BS g X E a ma → BS g X E (.UnaryOp .Not a pos) (tNot ma) := fun ⟨ta, pa, sa⟩ => ⟨_, pt_not pa, fun c σ e Q ok er hp => by
  show ta σ c.H _
  refine bindB (R := WB g c Q) sa ok er hp fun c1 x ok1 l1 r1 hp1 => ?_
  exact hp1 c1 ok1 l1 r1 rfl⟩
theorem es_un {op : UnaryOp} {r : V → Hp → VK → Prop} {f : Store → D → Option D} {a : Expr} {ma : ME} {pos : Pos} (ho : UnR X (unaryOp op) r) (hs : SU g r f) : ES g X E a ma → ES g X E (.UnaryOp op a pos) (eUn f ma) :=
  fun ⟨ta, pa, sa⟩ => ⟨_, pe_un ho pa, fun c σ e Q ok er hp => by
    show ta σ c.H _
    refine bindE (R := WE g c Q) sa ok er hp fun c1 x v ok1 l1 r1 rx hp1 => ?_
    obtain ⟨z, hz, q⟩ := PostG.ofO (α := D) hp1
    exact hs c1 x v Q z ok1 rx hz (WE.later l1 r1 q)⟩
theorem es_not {a : Expr} {ma : ME} {pos : Pos} : ES g X E a ma → ES g X E (.UnaryOp .Not a pos) (eUn uNot ma) := fun ⟨ta, pa, sa⟩ => ⟨_, pe_not pa, fun c σ e Q ok er hp => by
  show ta σ c.H _
  refine bindE (R := WE g c Q) sa ok er hp fun c1 x v ok1 l1 r1 rx hp1 => ?_
  obtain ⟨z, hz, q⟩ := PostG.ofO (α := D) hp1
  unfold uNot at hz
  split at hz
  · cases hz
    exact ⟨_, rep_bl.mp rx, we_bl ok1 (WE.later l1 r1 q)⟩
  · cases hz⟩
/-- the wish of the rest, from a later state -/
theorem postE_later {c c1 : Ct} {Q : VK} (l : Le c c1) (r : RsE c1 c) : ∀ {o : Out D}, PostG g c1 E (WE g c Q) o → PostG g c1 E (WE g c1 Q) o
  | .ok d S, h => WE.later l r h
  | .exc k S, h => h
  | .bad, h => h
theorem postB_later {c c1 : Ct} {Q : Bool → Hp → Prop} (l : Le c c1) (r : RsE c1 c) : ∀ {o : Out Bool}, PostG g c1 E (WB g c Q) o → PostG g c1 E (WB g c1 Q) o
  | .ok d S, h => fun c' ok' l' r' s' => h c' ok' (l.trans l') (r'.trans r) s'
  | .exc k S, h => h
  | .bad, h => h
theorem es_and {a b : Expr} {r : List Expr} {ma mb : ME} {pos : Pos} : ES g X E a ma → ES g X E (.BoolOp .And (b :: r) pos) mb → ES g X E (.BoolOp .And (a :: b :: r) pos) (eAnd ma mb) :=
  fun ⟨ta, pa, sa⟩ ⟨tb, pb, sb⟩ => ⟨_, pe_and pa pb, fun c σ e Q ok er hp => by
    show ta σ c.H _
    refine bindE (R := WE g c Q) sa ok er hp fun c1 x v ok1 l1 r1 rx hp1 => ?_
    cases x <;> first | exact hp1.elim | skip
    rename_i k
    refine ⟨k, rep_bl.mp rx, ?_⟩
    cases k with
    | true =>
      rw [if_pos rfl]
      exact sb c1 σ e Q ok1 (er.mono l1) (postE_later l1 r1 hp1)
    | false =>
      rw [if_neg (by decide)]
      exact we_bl ok1 (WE.later l1 r1 hp1)⟩
theorem es_or {a b : Expr} {r : List Expr} {ma mb : ME} {pos : Pos} : ES g X E a ma → ES g X E (.BoolOp .Or (b :: r) pos) mb → ES g X E (.BoolOp .Or (a :: b :: r) pos) (eOr ma mb) :=
  fun ⟨ta, pa, sa⟩ ⟨tb, pb, sb⟩ => ⟨_, pe_or pa pb, fun c σ e Q ok er hp => by
    show ta σ c.H _
    refine bindE (R := WE g c Q) sa ok er hp fun c1 x v ok1 l1 r1 rx hp1 => ?_
    cases x <;> first | exact hp1.elim | skip
    rename_i k
    refine ⟨k, rep_bl.mp rx, ?_⟩
    cases k with
    | true =>
      rw [if_pos rfl]
      exact we_bl ok1 (WE.later l1 r1 hp1)
    | false =>
      rw [if_neg (by decide)]
      exact sb c1 σ e Q ok1 (er.mono l1) (postE_later l1 r1 hp1)⟩
theorem es_one {op : PySem.BoolOp} {a : Expr} {ma : ME} {pos : Pos} : ES g X E a ma → ES g X E (.BoolOp op [a] pos) ma := fun ⟨ta, pa, sa⟩ => ⟨_, pe_one pa, sa⟩
theorem es_if {t a b : Expr} {mt : MB} {ma mb : ME} {pos : Pos} : BS g X E t mt → ES g X E a ma → ES g X E b mb → ES g X E (.IfExp t a b pos) (eIf mt ma mb) :=
  fun ⟨tt, pt, st⟩ ⟨ta, pa, sa⟩ ⟨tb, pb, sb⟩ => ⟨_, pe_ifExp pt pa pb, fun c σ e Q ok er hp => by
    show tt σ c.H _
    refine bindB (R := WE g c Q) st ok er hp fun c1 x ok1 l1 r1 hp1 => ?_
    cases x with
    | true =>
      rw [if_pos rfl] at hp1 ⊢
      exact sa c1 σ e Q ok1 (er.mono l1) (postE_later l1 r1 hp1)
    | false =>
      rw [if_neg (by decide)] at hp1 ⊢
      exact sb c1 σ e Q ok1 (er.mono l1) (postE_later l1 r1 hp1)⟩
theorem as_nil : AS g X E [] aNil := ⟨_, pa_nil, fun c σ e Q ok er hp => hp c [] ok (Le.refl c) (RsE.refl c) rfl (repL_nil.mpr rfl), fun e S ds S' h => by cases h; rfl⟩
theorem alen_cons {n : Nat} {m : ME} {mr : MA} (h : ALen n mr) : ALen (n + 1) (aCons m mr) := fun e S ds S' q => by
  unfold aCons at q
  cases h1 : m e S with
  | bad => rw [h1] at q; cases q
  | exc k S1 => rw [h1] at q; cases q
  | ok x S1 =>
    rw [h1] at q
    have q : (mr e S1).bind (fun xs S2 => Out.ok (x :: xs) S2) = .ok ds S' := q
    cases h2 : mr e S1 with
    | bad => rw [h2] at q; cases q
    | exc k S2 => rw [h2] at q; cases q
    | ok xs S2 =>
      rw [h2] at q
      cases q
      rw [List.length_cons, h e S1 xs _ h2]
theorem as_cons {e : Expr} {es : List Expr} {m : ME} {mr : MA} (hs : starEach (e :: es) X.env = (false, eval e X.env) :: starEach es X.env := by rfl) : ES g X E e m → AS g X E es mr → AS g X E (e :: es) (aCons m mr) :=
  fun ⟨ta, pa, sa⟩ ⟨tb, pb, sb, al⟩ => ⟨_, pa_cons pa pb hs, fun c σ e Q ok er hp => by
    show ta σ c.H _
    refine bindE (R := WA g c Q) sa ok er hp fun c1 x v ok1 l1 r1 rx hp1 => ?_
    show tb σ c1.H _
    refine bindA (R := WA g c Q) sb ok1 (er.mono l1) hp1 fun c2 xs vs ok2 l2 r2 rxs hp2 => ?_
    exact hp2 c2 (v :: vs) ok2 (l1.trans l2) (r2.trans r1) rfl (repL_cons.mpr ⟨v, vs, rfl, Rep.mono l2 _ _ rx, rxs⟩), alen_cons al⟩
theorem sz3 {n : Nat} (h : n ≤ 1000) : n ≤ sizeLine := Nat.le_trans h (by rw [sizeLine_eq]; decide)
theorem es_tup {es : List Expr} {m : MA} {x1} {pos : Pos} : AS g X E es m → ES g X E (.Tuple es x1 pos) (eTup m) := fun ⟨ta, pa, sa, _⟩ => ⟨_, pe_tup pa, fun c σ e Q ok er hp => by
  show ta σ c.H _
  refine bindA (R := WE g c Q) sa ok er hp fun c1 xs vs ok1 l1 r1 rx hp1 => ?_
  split at hp1
  · rename_i hb
    exact ⟨by rw [repL_len rx]; exact sz3 hb, we_newT ok1 rx (WE.later l1 r1 hp1)⟩
  · exact hp1.elim⟩
theorem es_lst {es : List Expr} {m : MA} {pos : Pos} : AS g X E es m → ES g X E (.List es pos) (eLst m) := fun ⟨ta, pa, sa, _⟩ => ⟨_, pe_lst pa, fun c σ e Q ok er hp => by
  show ta σ c.H _
  refine bindA (R := WE g c Q) sa ok er hp fun c1 xs vs ok1 l1 r1 rx hp1 => ?_
  split at hp1
  · rename_i hb
    exact ⟨by rw [repL_len rx]; exact sz3 hb, we_newL ok1 rx (WE.later l1 r1 hp1)⟩
  · exact hp1.elim⟩
theorem es_ix {a b : Expr} {ma mb : ME} {pos : Pos} (xo : XO g X E) (hs : PlainIx b := by intro _ _; rfl) : ES g X E a ma → ES g X E b mb → ES g X E (.Subscript a b pos) (eOp oIx ma mb) :=
  fun ⟨ta, pa, sa⟩ ⟨tb, pb, sb⟩ => ⟨_, pe_ix (ix_all (by have := xo.units; omega)) pa pb hs, se_op sr_ix sa sb⟩
theorem es_cb {x : Str} {id : String} {r : List V → Hp → VK → Prop} {f : Store → List D → Option D} {e : Expr} {es : List Expr} {m : MA} {p pos : Pos} (hc : CallR X (.builtin id) r) (hs : SC g r f) (hm : X.mg x = none) (hv : bootBuiltins x = some (.builtin id)) (hg : Gl X x := by rfl)
    (hn : x ≠ "__name__" := by decide) (hdb : (x == ("__debug__" : Str)) = false := by decide) (he : starEach (e :: es) X.env = (false, eval e X.env) :: starEach es X.env := by rfl) (hpl : (backTo pos (starEach es X.env)).any (·.1) = false := by rfl) :
    AS g X E (e :: es) m → ES g X E (.Call (.Name x p) (e :: es) [] pos) (eCB f m) := fun ⟨ta, pa, sa, _⟩ => ⟨_, pe_callB hc hg hm hv pa hn hdb he hpl, fun c σ e Q ok er hp => by
  show ta σ c.H _
  refine bindA (R := WE g c Q) sa ok er hp fun c1 xs vs ok1 l1 r1 rx hp1 => ?_
  obtain ⟨z, hz, q⟩ := PostG.ofO (α := D) hp1
  exact hs c1 xs vs Q z ok1 rx hz (WE.later l1 r1 q)⟩
theorem es_cty {x : Str} {T : String} {r : List V → Hp → VK → Prop} {f : Store → List D → Option D} {e : Expr} {es : List Expr} {m : MA} {p pos : Pos} (hc : CallR X (.type T) r) (hs : SC g r f) (hm : X.mg x = none) (hv : bootBuiltins x = some (.type T)) (hg : Gl X x := by rfl)
    (hn : x ≠ "__name__" := by decide) (hdb : (x == ("__debug__" : Str)) = false := by decide) (he : starEach (e :: es) X.env = (false, eval e X.env) :: starEach es X.env := by rfl) (hpl : (backTo pos (starEach es X.env)).any (·.1) = false := by rfl) :
    AS g X E (e :: es) m → ES g X E (.Call (.Name x p) (e :: es) [] pos) (eCB f m) := fun ⟨ta, pa, sa, _⟩ => ⟨_, pe_callTy hc hg hm hv pa hn hdb he hpl, fun c σ e Q ok er hp => by
  show ta σ c.H _
  refine bindA (R := WE g c Q) sa ok er hp fun c1 xs vs ok1 l1 r1 rx hp1 => ?_
  obtain ⟨z, hz, q⟩ := PostG.ofO (α := D) hp1
  exact hs c1 xs vs Q z ok1 rx hz (WE.later l1 r1 q)⟩
end
end Sm
end

section
set_option Elab.async false
set_option linter.all false
set_option autoImplicit false
set_option maxRecDepth 100000
set_option maxHeartbeats 4000000
namespace Sm
open PySem L2
section
variable {g : Gx} {X : Cx} {E : XK}
theorem chain_hp {f h : Store → D → D → Option D} {mc : ME} {e : Env} {c : Ct} {x y : D} {Q : Out D → Prop}
    (hp : Q (match f c.S x y with
      | some (.bl true) => (mc e c.S).bind fun z S3 => ofO (h S3 y z) S3
      | some (.bl false) => .ok (.bl false) c.S
      | _ => .bad)) (hq : ¬ Q .bad) : ∃ b, f c.S x y = some (.bl b) ∧ Q (if b = true then (mc e c.S).bind fun z S3 => ofO (h S3 y z) S3 else .ok (.bl false) c.S) := by
  cases q : f c.S x y with
  | none => simp only [q] at hp; exact absurd hp hq
  | some d =>
    cases d <;> first | (simp only [q] at hp; exact absurd hp hq) | skip
    rename_i b
    refine ⟨b, rfl, ?_⟩
    cases b with
    | true => simp only [q] at hp; simpa using hp
    | false => simp only [q] at hp; simpa using hp
theorem se_chain {r r' : R2} {f h : Store → D → D → Option D} {ta tb tc : TE} {ma mb mc : ME} (hs : SR g r f) (hs' : SR g r' h) (sa : SE g E ta ma) (sb : SE g E tb mb) (sc : SE g E tc mc) : SE g E (tChain r r' ta tb tc) (eChain f h ma mb mc) := by
  intro c σ e Q ok er hp
  show ta σ c.H _
  refine bindE (R := WE g c Q) sa ok er hp fun c1 x v ok1 l1 r1 rx hp1 => ?_
  show tb σ c1.H _
  refine bindE (R := WE g c Q) sb ok1 (er.mono l1) hp1 fun c2 y u ok2 l2 r2 ry hp2 => ?_
  obtain ⟨b, e1, hp3⟩ := chain_hp (Q := PostG g c2 E (WE g c Q)) hp2 (fun z => z)
  refine hs c2 x y v u _ (.bl b) ok2 (Rep.mono l2 _ _ rx) ry e1 fun c3 w ok3 l3 r3 s3 rw3 => ?_
  refine ⟨b, rep_bl.mp rw3, ?_⟩
  cases b with
  | true =>
    rw [if_pos rfl] at hp3 ⊢
    rw [← s3] at hp3
    show tc σ c3.H _
    have l13 := l2.trans l3
    refine bindE (R := WE g c Q) sc ok3 (er.mono (l1.trans l13)) (PostG.later l3 r3 hp3) fun c4 z w4 ok4 l4 r4 rz hp4 => ?_
    obtain ⟨z', hz, q⟩ := PostG.ofO (α := D) hp4
    exact hs' c4 y z u w4 Q z' ok4 (Rep.mono (l3.trans l4) _ _ ry) rz hz (WE.later (l1.trans (l13.trans l4)) (r4.trans (r3.trans (r2.trans r1))) q)
  | false =>
    rw [if_neg (by decide)] at hp3 ⊢
    rw [← s3] at hp3
    exact we_bl ok3 (WE.later (l1.trans (l2.trans l3)) (r3.trans (r2.trans r1)) hp3)
theorem es_chain {op op' : CmpOp} {r r' : R2} {f h : Store → D → D → Option D} {a b d : Expr} {ma mb mc : ME} {pos : Pos} (ho : OpR X (compareOp op) r) (hs : SR g r f) (ho' : OpR X (compareOp op') r') (hs' : SR g r' h) (hm : lastMarks [op, op'] [b, d] = false := by with_unfolding_all rfl) :
    ES g X E a ma → ES g X E b mb → ES g X E d mc → ES g X E (.Compare a [op, op'] [b, d] pos) (eChain f h ma mb mc) :=
  fun ⟨ta, pa, sa⟩ ⟨tb, pb, sb⟩ ⟨tc, pc, sc⟩ => ⟨_, pe_chain ho ho' pa pb pc hm, se_chain hs hs' sa sb sc⟩
/-- the chain as a test -/
theorem bs_chain {op op' : CmpOp} {r r' : R2} {f h : Store → D → D → Option D} {a b d : Expr} {ma mb mc : ME} {pos : Pos} (ho : OpR X (compareOp op) r) (hs : SR g r f) (ho' : OpR X (compareOp op') r') (hs' : SR g r' h) (hm : lastMarks [op, op'] [b, d] = false := by with_unfolding_all rfl) :
    ES g X E a ma → ES g X E b mb → ES g X E d mc → BS g X E (.Compare a [op, op'] [b, d] pos) (tB (eChain f h ma mb mc)) :=
  fun ⟨ta, pa, sa⟩ ⟨tb, pb, sb⟩ ⟨tc, pc, sc⟩ => ⟨_, pt_chain ho ho' pa pb pc hm, fun c σ e Q ok er hp => by
    show tChain r r' ta tb tc σ c.H _
    refine bindE (R := WB g c Q) (se_chain hs hs' sa sb sc) ok er hp fun c1 x v ok1 l1 r1 rx hp1 => ?_
    cases x <;> first | exact hp1.elim | skip
    rename_i k
    exact ⟨k, rep_bl.mp rx, hp1 c1 ok1 l1 r1 rfl⟩⟩
/-! ### instances -/
theorem repF_look {c : Ct} {i : Nat} {d : D} : ∀ {fs : List (Nat × D)} {us : List (Str × V)}, RepF g c fs us → getF i fs = some d → ∃ v, us.lookup (g.fn i) = some v ∧ Rep c d v
  | [], _, _, e => by cases e
  | (k, x) :: r, us, h, e => by
    obtain ⟨v, q, rfl, h1, h2⟩ := h
    unfold getF at e
    by_cases hk : k = i
    · subst hk
      rw [if_pos rfl] at e
      cases e
      exact ⟨v, by simp [List.lookup], h1⟩
    · rw [if_neg hk] at e
      obtain ⟨w, a, b⟩ := repF_look h2 e
      refine ⟨w, ?_, b⟩
      have : (g.fn i == g.fn k) = false := beq_eq_false_iff_ne.mpr fun z => hk (g.fni _ _ z).symm
      simp only [List.lookup, this]
      exact a
theorem repF_no {c : Ct} {m : Str} (hm : ∀ i, g.fn i ≠ m) : ∀ {fs : List (Nat × D)} {us : List (Str × V)}, RepF g c fs us → us.lookup m = none
  | [], us, h => by
    have h : us = [] := h
    subst h; rfl
  | (k, x) :: r, us, h => by
    obtain ⟨v, q, rfl, h1, h2⟩ := h
    have : (m == g.fn k) = false := beq_eq_false_iff_ne.mpr fun z => hm k z.symm
    simp only [List.lookup, this]
    exact repF_no hm h2
theorem repF_len {c : Ct} : ∀ {fs : List (Nat × D)} {us : List (Str × V)}, RepF g c fs us → us.length = fs.length
  | [], us, h => by
    have h : us = [] := h
    subst h; rfl
  | (k, x) :: r, us, h => by
    obtain ⟨v, q, rfl, h1, h2⟩ := h
    rw [List.length_cons, List.length_cons, repF_len h2]
theorem repF_put {c : Ct} {i : Nat} {d : D} {v : V} (hd : Rep c d v) : ∀ {fs : List (Nat × D)} {us : List (Str × V)}, RepF g c fs us → RepF g c (putF i d fs) (L2.putF (g.fn i) v us)
  | [], us, h => by
    have h : us = [] := h
    subst h
    exact ⟨v, [], rfl, hd, rfl⟩
  | (k, x) :: r, us, h => by
    obtain ⟨w, q, rfl, h1, h2⟩ := h
    unfold putF
    by_cases hk : k = i
    · subst hk
      rw [if_pos rfl]
      show RepF g c ((k, d) :: r) (if g.fn k = g.fn k then _ else _)
      rw [if_pos rfl]
      exact ⟨v, q, rfl, hd, h2⟩
    · rw [if_neg hk]
      show RepF g c ((k, x) :: putF i d r) (if g.fn k = g.fn i then _ else _)
      rw [if_neg (fun z => hk (g.fni _ _ z))]
      exact ⟨w, _, rfl, h1, repF_put hd h2⟩
theorem insAt_of {c : Ct} (ok : Ok g c) {x : D} {v : V} {r k : Nat} {fs : List (Nat × D)} (rx : Rep c x v) (e : insAt c.S x = some (r, k, fs)) :
    x = .obj r ∧ c.live r ∧ c.S[r]? = some (.ins k fs) ∧ v = .ref (c.ι r) ∧ ∃ dx us, c.H (c.ι r) = some (.ins (g.cl k) dx us) ∧ RepF g c fs us := by
  cases x <;> first | (simp [insAt] at e; done) | skip
  rename_i j
  unfold insAt at e
  dsimp only at e
  cases h : c.S[j]? with
  | none => simp only [h] at e; cases e
  | some o =>
    cases o <;> first | (simp only [h] at e; cases e; done) | skip
    simp only [h] at e
    cases e
    have hl := live_of h (by intro z; cases z)
    exact ⟨rfl, hl, h, (rep_obj.mp rx).2 hl, ok.at_ _ _ h⟩
/-- what is known of the classes -/
structure CK (g : Gx) (X : Cx) : Prop where
  K : X.K = g.K
  cls : ∀ k, Cls X.K (g.cl k)
theorem es_fld (i : Nat) {a : Expr} {n : Str} {ma : ME} {pos : Pos} (hn : n = g.fn i) (hc : ∀ k, Cls X.K (g.cl k) ∧ NoAttr X.K (g.cl k) n) (hb : attributeBase a n X.env (eval a X.env) = eval a X.env := by rfl) : ES g X E a ma → ES g X E (.Attribute a n pos) (eFld i ma) :=
  fun ⟨ta, pa, sa⟩ => ⟨_, pe_fld pa hb, fun c σ e Q ok er hp => by
    show ta σ c.H _
    refine bindE (R := WE g c Q) sa ok er hp fun c1 x v ok1 l1 r1 rx hp1 => ?_
    cases h : insAt c1.S x with
    | none => simp only [h] at hp1; exact hp1.elim
    | some p =>
      obtain ⟨r, k, fs⟩ := p
      simp only [h] at hp1
      obtain ⟨d, hd, q⟩ := PostG.ofO (α := D) hp1
      obtain ⟨_, hl, _, rfl, dx, us, h1, h2⟩ := insAt_of ok1 rx h
      obtain ⟨w, h3, h4⟩ := repF_look h2 hd
      exact ⟨c1.ι r, g.cl k, dx, us, w, rfl, h1, (hc k).1, (hc k).2, by rw [hn]; exact h3, WE.here ok1 h4 (WE.later l1 r1 q)⟩⟩
/-! ### defs: their promise by the mirror -/
def spOf (g : Gx) (n : Nat) (m : Fn) : Sp := fun vs H Q E => vs.length = n ∧ ∃ c ds, c.H = H ∧ Ok g c ∧ RepL c ds vs ∧ PostG g c E (WE g c Q) (m ds c.S)
/-- a def of the module; a method; a class that is made -/
def FnF (g : Gx) (P : Program) (w : World) (K : PySem.W.Frag) (mg : Str → Option Value) (base : Heap) (k : Nat) (x : Str) (ps : List Str) (m : Fn) : Prop :=
  ∃ f fd, FnOk P w K mg base (L2.CX P w) k f fd ps (spOf g ps.length m) ∧ mg x = some (.ref f) ∧ PySem.W.keepIn K (.ref f) = true ∧ Binds K fd ps []
def MeF (g : Gx) (P : Program) (w : World) (K : PySem.W.Frag) (mg : Str → Option Value) (base : Heap) (k : Nat) (C : Addr) (x : Str) (ps : List Str) (m : Fn) : Prop :=
  ∃ f fd, FnOk P w K mg base (L2.CX P w) k f fd ps (spOf g ps.length m) ∧ Meth K C x f ∧ Binds K fd ps [] ∧ Cls K C ∧ ∀ i, g.fn i ≠ x
def MkF (g : Gx) (P : Program) (w : World) (K : PySem.W.Frag) (mg : Str → Option Value) (base : Heap) (k : Nat) (C : Addr) (x : Str) (ps : List Str) (m : Fn) : Prop :=
  ∃ f fd, FnOk P w K mg base (L2.CX P w) k f fd ps (spOf g ps.length m) ∧ mg x = some (.ref C) ∧ Mk K C f ∧ Binds K fd ps []
theorem run_sp {c c1 : Ct} {ds : List D} {vs : List V} {n : Nat} {m : Fn} {Q : VK} (ok1 : Ok g c1) (l1 : Le c c1) (r1 : RsE c1 c) (rx : RepL c1 ds vs) (hl : ds.length = n) (hp : PostG g c1 E (WE g c Q) (m ds c1.S)) : spOf g n m vs c1.H Q E :=
  ⟨by rw [repL_len rx]; exact hl, c1, ds, rfl, ok1, rx, postE_later l1 r1 hp⟩
theorem bindAL {t : TA} {m : MA} {n : Nat} {c : Ct} {σ : L2.St} {e : Env} {β : Type} {R : β → Store → Prop} {Q : List V → Hp → Prop} {f : List D → Store → Out β} (h : SA g E t m) (al : ALen n m) (ok : Ok g c) (er : EnvR c e σ) (hp : PostG g c E R ((m e c.S).bind f))
    (k : ∀ c1 ds vs, Ok g c1 → Le c c1 → RsE c1 c → RepL c1 ds vs → ds.length = n → PostG g c1 E R (f ds c1.S) → Q vs c1.H) : t σ c.H Q := by
  refine h c σ e Q ok er ?_
  cases q : m e c.S with
  | bad => rw [q] at hp; exact hp
  | exc j S => rw [q] at hp; exact hp
  | ok d S =>
    rw [q] at hp
    intro c1 v ok1 l1 r1 s1 rp
    exact k c1 d v ok1 l1 r1 rp (al _ _ _ _ q) (by rw [s1]; exact PostG.later l1 r1 hp)
theorem es_call {k : Nat} {ps : List Str} {x : Str} {m : Fn} {mr : MA} {p pos : Pos} {e : Expr} {es : List Expr} (xo : XO g X E) (F : FnF g X.prog X.w X.K X.mg X.base k x ps m) (hr : Room k X.A) (hl : (e :: es).length = ps.length := by rfl)
    (hg : Gl X x := by rfl) (hdb : (x == ("__debug__" : Str)) = false := by decide) (he : starEach (e :: es) X.env = (false, eval e X.env) :: starEach es X.env := by rfl) (hpl : (backTo pos (starEach es X.env)).any (·.1) = false := by rfl) :
    AS g X E (e :: es) mr → ES g X E (.Call (.Name x p) (e :: es) [] pos) (eCall m mr) := fun ⟨ta, pa, sa, al⟩ => by
  obtain ⟨f, fd, F, hm, hk, hb⟩ := F
  refine ⟨_, pe_call (dvs := []) F hr hg hm hk hb .nil xo.pass pa hdb he hpl, fun c σ e0 Q ok er hp => ?_⟩
  show ta σ c.H _
  refine bindAL (R := WE g c Q) sa al ok er hp fun c1 ds vs ok1 l1 r1 rx hlen hp1 => ?_
  rw [List.append_nil]
  exact run_sp ok1 l1 r1 rx (hlen.trans hl) hp1
theorem es_call0 {k : Nat} {x : Str} {m : Fn} {p pos : Pos} (xo : XO g X E) (F : FnF g X.prog X.w X.K X.mg X.base k x [] m) (hr : Room k X.A) (hg : Gl X x := by rfl) (hdb : (x == ("__debug__" : Str)) = false := by decide) : ES g X E (.Call (.Name x p) [] [] pos) (eCall m aNil) := by
  obtain ⟨f, fd, F, hm, hk, hb⟩ := F
  refine ⟨_, pe_call0 (dvs := []) F hr hg hm hk hb .nil xo.pass hdb, fun c σ e0 Q ok er hp => ?_⟩
  exact run_sp (ds := []) ok (Le.refl c) (RsE.refl c) (repL_nil.mpr rfl) rfl hp
theorem es_meth {pl : Sem Bool} {k kc : Nat} {ps : List Str} {x : Str} {m : Fn} {mo : ME} {mr : MA} {apos pos : Pos} {o e : Expr} {es : List Expr} (xo : XO g X E) (F : MeF g X.prog X.w X.K X.mg X.base k (g.cl kc) x ps m) (hr : Room k X.A) (hl : (e :: es).length + 1 = ps.length := by rfl)
    (hst : starEach (e :: es) X.env = (false, eval e X.env) :: starEach es X.env := by rfl) (hpl : (backTo pos (starEach es X.env)).any (·.1) = false := by rfl)
    (ht : eval (.Call (.Attribute o x apos) (e :: es) [] pos) X.env = (do
      let ov ← eval o X.env
      standAt apos.atName
      let (f, first) ← holding [ov] (getMethod ov x pl)
      callWith pos f first (backTo pos (starEach (e :: es) X.env)) (backToKw pos (keywordEach [] X.env))) := by rfl) :
    ES g X E o mo → AS g X E (e :: es) mr → ES g X E (.Call (.Attribute o x apos) (e :: es) [] pos) (eMeth kc m mo mr) := fun ⟨to, po, so⟩ ⟨ta, pa, sa, al⟩ => by
  obtain ⟨f, fd, F, hm, hb, hc, hn⟩ := F
  refine ⟨_, pe_meth (dvs := []) (pl := pl) po hc hm F hr hb .nil xo.pass pa hst hpl ht, fun c σ e0 Q ok er hp => ?_⟩
  show to σ c.H _
  refine bindE (R := WE g c Q) so ok er hp fun c1 xd v ok1 l1 r1 rx hp1 => ?_
  cases h : insAt c1.S xd with
  | none => simp only [h] at hp1; exact hp1.elim
  | some p =>
    obtain ⟨r, k', fs⟩ := p
    simp only [h] at hp1
    by_cases hk : k' = kc
    · subst hk
      rw [if_pos rfl] at hp1
      obtain ⟨rfl, hl1, _, rfl, dx, us, h1, h2⟩ := insAt_of ok1 rx h
      refine ⟨c1.ι r, dx, us, rfl, h1, repF_no hn h2, ?_⟩
      show ta σ c1.H _
      refine bindAL (R := WE g c Q) sa al ok1 (er.mono l1) hp1 fun c2 ds vs ok2 l2 r2 rxs hlen hp2 => ?_
      rw [List.append_nil]
      exact run_sp ok2 (l1.trans l2) (r2.trans r1) (repL_cons.mpr ⟨_, _, rfl, Rep.mono l2 _ _ rx, rxs⟩) (by rw [List.length_cons, hlen]; exact hl) hp2
    · rw [if_neg hk] at hp1; exact hp1.elim
theorem es_meth0 {pl : Sem Bool} {k kc : Nat} {ps : List Str} {x : Str} {m : Fn} {mo : ME} {apos pos : Pos} {o : Expr} (xo : XO g X E) (F : MeF g X.prog X.w X.K X.mg X.base k (g.cl kc) x ps m) (hr : Room k X.A) (hl : 1 = ps.length := by rfl)
    (ht : eval (.Call (.Attribute o x apos) [] [] pos) X.env = (do
      let ov ← eval o X.env
      standAt apos.atName
      let (f, first) ← holding [ov] (getMethod ov x pl)
      callWith pos f first (backTo pos (starEach [] X.env)) (backToKw pos (keywordEach [] X.env))) := by rfl) :
    ES g X E o mo → ES g X E (.Call (.Attribute o x apos) [] [] pos) (eMeth kc m mo aNil) := fun ⟨to, po, so⟩ => by
  obtain ⟨f, fd, F, hm, hb, hc, hn⟩ := F
  refine ⟨_, pe_meth0 (dvs := []) (pl := pl) po hc hm F hr hb .nil xo.pass ht, fun c σ e0 Q ok er hp => ?_⟩
  show to σ c.H _
  refine bindE (R := WE g c Q) so ok er hp fun c1 xd v ok1 l1 r1 rx hp1 => ?_
  cases h : insAt c1.S xd with
  | none => simp only [h] at hp1; exact hp1.elim
  | some p =>
    obtain ⟨r, k', fs⟩ := p
    simp only [h] at hp1
    by_cases hk : k' = kc
    · subst hk
      rw [if_pos rfl] at hp1
      obtain ⟨rfl, hl1, _, rfl, dx, us, h1, h2⟩ := insAt_of ok1 rx h
      refine ⟨c1.ι r, dx, us, rfl, h1, repF_no hn h2, ?_⟩
      have hp2 : PostG g c1 E (WE g c Q) (m [.obj r] c1.S) := hp1
      exact run_sp (ds := [.obj r]) ok1 l1 r1 (repL_one rx) hl hp2
    · rw [if_neg hk] at hp1; exact hp1.elim
/-- a new instance is laid, with nothing in it -/
theorem made_ok {c : Ct} (ok : Ok g c) {x dx : Addr} {k : Nat} (hx : c.H x = none) (hd : c.H dx = none) (hne : dx ≠ x) :
    ∃ c', Ok g c' ∧ Le c c' ∧ RsE c' c ∧ c'.S = c.S ++ [.ins k []] ∧ c'.H = upd (upd c.H dx (.own x)) x (.ins (g.cl k) dx []) ∧ Rep c' (.obj c.S.length) (.ref x) := by
  have ok1 := ok.new (o := .own x) hd
  have l1 := Le.new (o := .own x) hd
  have hx1 : ({ c with H := upd c.H dx (.own x) } : Ct).H x = none := by
    show upd c.H dx (.own x) x = none
    rw [upd_ne (Ne.symm hne)]; exact hx
  have ok2 := ok1.newR (o := .ins (g.cl k) dx []) hx1
  have l2 := Le.newR (c := { c with H := upd c.H dx (.own x) }) (o := .ins (g.cl k) dx []) hx1
  refine ⟨_, ok2.own (p := x) (l := c.rs) (o := .ins k []) rfl (ok.notR hx) ⟨dx, [], upd_same, rfl⟩, (l1.trans l2).trans (Le.own rfl), ⟨rfl, fun a h => ?_⟩, rfl, rfl, rep_obj.mpr ⟨by simp [Ct.own], fun _ => ?_⟩⟩
  · obtain ⟨y, e⟩ : ∃ y, c.H a = some y := (ok.rsh a h).elim fun y z => ⟨y, z.1⟩
    show upd (upd c.H dx (.own x)) x (.ins (g.cl k) dx []) a = _
    rw [upd_ne (ne_of_none e hx), upd_ne (ne_of_none e hd)]
  show V.ref x = V.ref (addI _ x c.S.length)
  rw [show addI ({ ι := c.ι, S := c.S, H := upd (upd c.H dx (.own x)) x (.ins (g.cl k) dx []), rs := x :: c.rs } : Ct) x c.S.length = x from addI_eq]
theorem es_make {k kc : Nat} {ps : List Str} {x : Str} {m : Fn} {mr : MA} {p pos : Pos} {e : Expr} {es : List Expr} (xo : XO g X E) (F : MkF g X.prog X.w X.K X.mg X.base k (g.cl kc) x ps m) (hr : Room (k + 1) X.A) (hl : (e :: es).length + 1 = ps.length := by rfl)
    (hg : Gl X x := by rfl) (hdb : (x == ("__debug__" : Str)) = false := by decide) (he : starEach (e :: es) X.env = (false, eval e X.env) :: starEach es X.env := by rfl) (hpl : (backTo pos (starEach es X.env)).any (·.1) = false := by rfl) :
    AS g X E (e :: es) mr → ES g X E (.Call (.Name x p) (e :: es) [] pos) (eMake kc m mr) := fun ⟨ta, pa, sa, al⟩ => by
  obtain ⟨f, fd, F, hm, hk, hb⟩ := F
  refine ⟨_, pe_make (dvs := []) hk F hr hg hm hb .nil xo.pass pa hdb he hpl, fun c σ e0 Q ok er hp => ?_⟩
  show ta σ c.H _
  refine bindAL (R := WE g c Q) sa al ok er hp fun c1 ds vs ok1 l1 r1 rx hlen hp1 => ?_
  intro x dx hx hd hne
  obtain ⟨c2, ok2, l2, r2, s2, h2, rp⟩ := made_ok (k := kc) ok1 hx hd hne
  rw [← h2, List.append_nil]
  have hp2 := PostG.later l2 r2 hp1
  rw [← s2] at hp2
  refine ⟨?_, c2, .obj c1.S.length :: ds, rfl, ok2, repL_cons.mpr ⟨_, _, rfl, rp, RepL.mono l2 _ _ rx⟩, ?_⟩
  · rw [List.length_cons, repL_len rx, hlen]; exact hl
  · revert hp2
    cases m (.obj c1.S.length :: ds) c2.S with
    | bad => exact id
    | exc j S => exact id
    | ok d S =>
      intro hp2
      cases d <;> first | exact hp2.elim | skip
      intro c3 v ok3 l3 r3 s3 rv
      refine ⟨rep_non.mp rv, ?_⟩
      have q : WE g c Q (.obj c1.S.length) S := hp2
      exact q c3 (.ref x) ok3 (l1.trans (l2.trans l3)) (r3.trans (r2.trans r1)) s3 (Rep.mono l3 _ _ rp)
/-! ### slices -/
theorem rSl_all {x : V} {lo hi : Option Int} {H : Hp} {Q : VK} {K : PySem.W.Frag} : True := trivial
abbrev rSlAll (K : PySem.W.Frag) : V → Option Int → Option Int → Hp → VK → Prop := fun x lo hi H Q => rSlL K x lo hi H Q ∨ rSlA K x lo hi H Q ∨ rSlS x lo hi H Q
theorem sl_all : SlR X (rSlAll X.K) := sl_list.or (sl_tupA.or sl_str)
theorem cutS_eq (t : Tx) (a b : Option Int) : cutS (sS t) a b = sS (cutL t a b) := by
  unfold cutS cutL
  rw [cutA_eq, cutA_eq]
  rfl
theorem slD_of {K : PySem.W.Frag} {c : Ct} (ok : Ok g c) {x : D} {v : V} {a b : Option Int} {z : D} {Q : VK} (rx : Rep c x v) (e : slD c.S x a b = some z) (q : WE g c Q z c.S) : rSlAll K v a b c.H Q := by
  unfold slD at e
  split at e
  · rename_i xs ex
    cases e
    obtain ⟨p, vs, rfl, h1, h2⟩ := see_lst ok rx ex
    exact .inl ⟨p, vs, rfl, .inl h1, we_newL ok (repL_cut h2 a b) q⟩
  · rename_i xs ex
    cases e
    have ex : x = .tup xs := by
      cases x with
      | obj k =>
        obtain ⟨o, e1, e2⟩ := view_obj ex (by intro z; cases z)
        have : ∀ o : Ob, o.val ≠ some (.tup xs) := by
          intro o
          induction o with
          | lck o ih => exact ih
          | _ => intro z; cases z
        exact absurd e2 (this o)
      | _ => exact ex
    subst ex
    obtain ⟨p, vs, rfl, _, h1, h2⟩ := rep_tup.mp rx
    refine .inr (.inl ⟨p, vs, rfl, SqT.of h1, fun hw => ?_, fun _ => we_newT ok (repL_cut h2 a b) q⟩)
    have e2 : cutL xs a b = xs := by
      unfold cutL
      rw [cutA_eq, cutA_eq, repL_len h2] at hw
      rw [hw.1, hw.2, List.drop_zero, Nat.sub_zero, List.take_length]
    rw [e2] at q
    exact WE.here ok rx q
  · rename_i t ex
    split at e
    · rename_i hz
      cases e
      have ex := view_str ex
      subst ex
      refine .inr (.inr ⟨sS t, rep_str.mp rx, by show t.length ≤ _; rw [sizeLine_eq]; omega, ?_⟩)
      have e3 : cutS (sS t) a b = sS (cutL t a b) := cutS_eq t a b
      rw [e3]
      exact we_str ok q
    · cases e
  · cases e
def SO (g : Gx) (E : XK) (t : TO) (m : Option ME) : Prop := ∀ c σ e (Q : Option Int → Hp → Prop), Ok g c → EnvR c e σ →
  PostG g c E (fun o S => ∀ c', Ok g c' → Le c c' → RsE c' c → c'.S = S → Q o c'.H) (pO m e c.S) → t σ c.H Q
def OS (g : Gx) (X : Cx) (E : XK) (o : Option Expr) (m : Option ME) : Prop := ∃ t, PO X o t ∧ SO g E t m
theorem os_none : OS g X E none none := ⟨_, po_none, fun c σ e Q ok er hp => hp c ok (Le.refl c) (RsE.refl c) rfl⟩
theorem os_some {e : Expr} {m : ME} : ES g X E e m → OS g X E (some e) (some m) := fun ⟨ta, pa, sa⟩ => ⟨_, po_some pa, fun c σ e Q ok er hp => by
  show ta σ c.H _
  refine bindE (R := fun o S => ∀ c', Ok g c' → Le c c' → RsE c' c → c'.S = S → Q o c'.H) sa ok er hp fun c1 x v ok1 l1 r1 rx hp1 => ?_
  cases x <;> first | exact hp1.elim | skip
  exact ⟨_, rep_int.mp rx, hp1 c1 ok1 l1 r1 rfl⟩⟩
theorem bindO {t : TO} {m : Option ME} {c : Ct} {σ : L2.St} {e : Env} {β : Type} {R : β → Store → Prop} {Q : Option Int → Hp → Prop} {f : Option Int → Store → Out β} (h : SO g E t m) (ok : Ok g c) (er : EnvR c e σ) (hp : PostG g c E R ((pO m e c.S).bind f))
    (k : ∀ c1 d, Ok g c1 → Le c c1 → RsE c1 c → PostG g c1 E R (f d c1.S) → Q d c1.H) : t σ c.H Q := by
  refine h c σ e Q ok er ?_
  cases q : pO m e c.S with
  | bad => rw [q] at hp; exact hp
  | exc j S => rw [q] at hp; exact hp
  | ok d S =>
    rw [q] at hp
    intro c1 ok1 l1 r1 s1
    exact k c1 d ok1 l1 r1 (by rw [s1]; exact PostG.later l1 r1 hp)
theorem es_sl {a : Expr} {lo hi : Option Expr} {ma : ME} {ml mh : Option ME} {p2 pos : Pos} : ES g X E a ma → OS g X E lo ml → OS g X E hi mh → ES g X E (.Subscript a (.Slice lo hi none p2) pos) (eSl ma ml mh) :=
  fun ⟨ta, pa, sa⟩ ⟨tl, pl, sl⟩ ⟨th, ph, sh⟩ => ⟨_, pe_slice sl_all pa pl ph, fun c σ e Q ok er hp => by
    show ta σ c.H _
    refine bindE (R := WE g c Q) sa ok er hp fun c1 x v ok1 l1 r1 rx hp1 => ?_
    show tl σ c1.H _
    refine bindO (R := WE g c Q) sl ok1 (er.mono l1) hp1 fun c2 i ok2 l2 r2 hp2 => ?_
    show th σ c2.H _
    refine bindO (R := WE g c Q) sh ok2 (er.mono (l1.trans l2)) hp2 fun c3 j ok3 l3 r3 hp3 => ?_
    obtain ⟨z, hz, q⟩ := PostG.ofO (α := D) hp3
    exact slD_of ok3 (Rep.mono (l2.trans l3) _ _ rx) hz (WE.later (l1.trans (l2.trans l3)) (r3.trans (r2.trans r1)) q)⟩
/-! ### targets -/
def WG (g : Gx) (c : Ct) (σ : L2.St) (tv : List Nat) (Q : L2.St → Hp → Prop) (e1 : Env) (S : Store) : Prop := ∀ c' σ1, Ok g c' → Le c c' → RsE c' c → c'.S = S → EnvR c' e1 σ1 → σ1.length = σ.length → (∀ k, k ∉ tv → σ1[k]? = σ[k]?) → Q σ1 c'.H
def SG (g : Gx) (E : XK) (t : TG) (m : MG) (tv : List Nat) : Prop := ∀ c d v e σ (Q : L2.St → Hp → Prop), Ok g c → Rep c d v → EnvR c e σ → PostG g c E (WG g c σ tv Q) (m d e c.S) → t v σ c.H Q
def GS (g : Gx) (X : Cx) (E : XK) (tg : Expr) (m : MG) (tv : List Nat) : Prop := ∃ t, PG X tg t ∧ SG g E t m tv
theorem envR_set {c : Ct} {e : Env} {σ : L2.St} {i : Nat} {d : D} {v : V} (er : EnvR c e σ) (r : Rep c d v) : EnvR c (e.set i (some d)) (σ.set i (some v)) := by
  refine ⟨by rw [List.length_set, List.length_set]; exact er.1, fun k x h => ?_⟩
  by_cases hk : i = k
  · subst hk
    have hlt : i < e.length := by
      rcases Nat.lt_or_ge i e.length with z | z
      · exact z
      · rw [List.getElem?_eq_none (by rw [List.length_set]; exact z)] at h; cases h
    rw [List.getElem?_set_self hlt] at h
    cases h
    exact ⟨v, List.getElem?_set_self (by rw [← er.1]; exact hlt), r⟩
  · rw [List.getElem?_set_ne hk] at h
    obtain ⟨w, a, b⟩ := er.2 k x h
    exact ⟨w, by rw [List.getElem?_set_ne hk]; exact a, b⟩
theorem gs_n (i : Nat) {x : Str} {pos : Pos} (xo : X.N.Nodup) (hN : X.N[i]? = some x := by rfl) (hl : Loc X.env.scope x := by first | exact Or.inl rfl | exact Or.inr rfl) (hf : X.fn x = true ∨ X.env.scope.names.lookup x = some .local := by first | exact .inl rfl | exact .inr rfl | assumption) : GS g X E (.Name x pos) (gN i) [i] :=
  ⟨_, pg_name xo hN hl hf, fun c d v e σ Q ok r er h => h c _ ok (Le.refl c) (RsE.refl c) rfl (envR_set er r) (by rw [List.length_set]) fun k hk => List.getElem?_set_ne fun z => hk (by rw [z]; exact List.mem_cons_self)⟩
def SGs (g : Gx) (E : XK) (t : TGs) (ms : List MG) (tv : List Nat) : Prop := ∀ c ds vs e σ (Q : L2.St → Hp → Prop), Ok g c → RepL c ds vs → EnvR c e σ → PostG g c E (WG g c σ tv Q) (gAll ms ds e c.S) → t vs σ c.H Q
def GsS (g : Gx) (X : Cx) (E : XK) (ts : List Expr) (ms : List MG) (tv : List Nat) : Prop := ∃ t, PGs X ts t ∧ SGs g E t ms tv ∧ ts.length = ms.length
theorem gss_nil : GsS g X E [] [] [] := ⟨_, pgs_nil, fun c ds vs e σ Q ok r er h => by
  cases ds with
  | nil => exact ⟨repL_nil.mp r, h c σ ok (Le.refl c) (RsE.refl c) rfl er rfl fun _ _ => rfl⟩
  | cons d ds => exact h.elim, rfl⟩
theorem gss_cons {t : Expr} {ts : List Expr} {m : MG} {ms : List MG} {tv tw : List Nat} (hs : (assignEach (t :: ts) X.env).map (·.2) = assign t X.env :: (assignEach ts X.env).map (·.2) := by rfl) : GS g X E t m tv → GsS g X E ts ms tw → GsS g X E (t :: ts) (m :: ms) (tv ++ tw) :=
  fun ⟨ta, pa, sa⟩ ⟨tb, pb, sb, hl⟩ => ⟨_, pgs_cons pa pb hs, fun c ds vs e σ Q ok r er h => by
    cases ds with
    | nil => exact h.elim
    | cons d ds =>
      obtain ⟨v, q, rfl, h1, h2⟩ := repL_cons.mp r
      refine ⟨v, q, rfl, ?_⟩
      show ta v σ c.H _
      refine sa c d v e σ _ ok h1 er ?_
      have h' : PostG g c E (WG g c σ (tv ++ tw) Q) ((m d e c.S).bind fun e1 S1 => gAll ms ds e1 S1) := h
      revert h'
      cases m d e c.S with
      | bad => exact id
      | exc k S => exact id
      | ok e1 S1 =>
        intro h' c1 σ1 ok1 l1 r1 s1 er1 n1 k1
        have h2' : PostG g c1 E (WG g c σ (tv ++ tw) Q) (gAll ms ds e1 c1.S) := by rw [s1]; exact PostG.later l1 r1 h'
        refine sb c1 ds q e1 σ1 Q ok1 (RepL.mono l1 _ _ h2) er1 ?_
        revert h2'
        cases gAll ms ds e1 c1.S with
        | bad => exact id
        | exc k S => exact id
        | ok e2 S2 => exact fun h2' c' σ' ok' l' r' s' er' n' k' => h2' c' σ' ok' (l1.trans l') (r'.trans r1) s' er' (n'.trans n1) fun k hk => (k' k fun z => hk (List.mem_append_right _ z)).trans (k1 k fun z => hk (List.mem_append_left _ z)), by rw [List.length_cons, List.length_cons, hl]⟩
theorem gs_t {es : List Expr} {k : Nat} {pos : Pos} {ms : List MG} {tv : List Nat} {n : Nat} (hc : X.calm = true) (hn : (assignEach es X.env).length = n := by rfl) (hn2 : n = ms.length := by rfl) (hst : (assignEach es X.env).findIdx? (·.1) = none := by rfl) : GsS g X E es ms tv → GS g X E (.Tuple es k pos) (gT ms) tv :=
  fun ⟨tb, pb, sb, hl⟩ => ⟨_, pg_tup hc pb hn hst, fun c d v e σ Q ok r er h => by
    cases d <;> first | exact h.elim | skip
    rename_i ds
    have h' : PostG g c E (WG g c σ tv Q) (if ds.length = ms.length then gAll ms ds e c.S else .bad) := h
    by_cases hd : ds.length = ms.length
    · rw [if_pos hd] at h'
      obtain ⟨a, vs, rfl, _, h1, h2⟩ := rep_tup.mp r
      exact ⟨a, vs, rfl, SqT.of h1, by rw [repL_len h2, hd, hn2], sb c ds vs e σ Q ok h2 er h'⟩
    · rw [if_neg hd] at h'; exact h'.elim⟩
end
end Sm
end

section
set_option Elab.async false
set_option linter.all false
set_option autoImplicit false
set_option maxRecDepth 100000
set_option maxHeartbeats 4000000
namespace Sm
open PySem L2
/-! ### what is walked -/
structure JW (g : Gx) (J : It) (xs : List D) (good : Ct → Prop) : Prop where
  mono : ∀ c c', good c → Le c c' → good c'
  stop : ∀ c, Ok g c → good c → J.stop xs.length c.H
  go : ∀ c (i : Nat) d, xs[i]? = some d → Ok g c → good c → J.go i c.H
  yld : ∀ c (i : Nat) d v H', xs[i]? = some d → Ok g c → good c → J.yld i c.H v H' → ∃ c', Ok g c' ∧ Le c c' ∧ RsE c' c ∧ c'.S = c.S ∧ c'.H = H' ∧ Rep c' d v
def WI (g : Gx) (c : Ct) (R : It → Hp → Prop) (p : List D × Option Nat) (S : Store) : Prop :=
  ∀ c' J good, Ok g c' → Le c c' → RsE c' c → c'.S = S → JW g J p.1 good → good c' → (∀ r, p.2 = some r → ∃ o, c'.S[r]? = some (.lck (.lst o)) ∧ ∀ x, c.S[r]? ≠ some (.lck x)) → R J c'.H
def SI (g : Gx) (E : XK) (wi : TI) (m : MI) : Prop := ∀ c σ e (R : It → Hp → Prop), Ok g c → EnvR c e σ → PostG g c E (WI g c R) (m e c.S) → wi σ c.H R
def IS (g : Gx) (X : Cx) (E : XK) (tg it : Expr) (m : MI) : Prop := ∃ wi, PI X tg it wi ∧ SI g E wi m
theorem pi_or {X : Cx} {tg it : Expr} {w1 w2 : TI} (h1 : PI X tg it w1) (h2 : PI X tg it w2) : PI X tg it (fun σ H R => w1 σ H R ∨ w2 σ H R) := ⟨fun pins s σ H R I h => by
  rcases h with h | h
  · exact h1.run pins s σ H R I h
  · exact h2.run pins s σ H R I h⟩
theorem sql_uniq {g : Gx} {c : Ct} {K : PySem.W.Frag} {a : Addr} {xs ys : List V} (h : Rd c.H a (.lst xs)) (h2 : Rd c.H a (.lst ys)) : xs = ys := by
  rcases h with h | ⟨o, h⟩
  · rcases h2 with h2 | ⟨o', h2⟩
    · rw [h] at h2; cases h2; rfl
    · rw [h] at h2; cases h2
  · rcases h2 with h2 | ⟨o', h2⟩
    · rw [h] at h2; cases h2
    · rw [h] at h2; cases h2; rfl
section
variable {g : Gx} {X : Cx} {E : XK}
/-- a tree list that is walked -/
theorem jw_lst {K : PySem.W.Frag} {a : Addr} {ds : List D} {vs : List V} : JW g (Itl K a) ds (fun c => c.free a ∧ c.H a = some (.lst vs) ∧ RepL c ds vs) where
  mono := fun c c' ⟨f, h, r⟩ l => ⟨l.fre a _ f h (fun _ z => by cases z), l.tre a _ trivial f h, RepL.mono l _ _ r⟩
  stop := fun c ok ⟨f, h, r⟩ => ⟨vs, SqL.of h, by rw [repL_len r]; exact Nat.le_refl _⟩
  go := fun c i d e ok ⟨f, h, r⟩ => by
    obtain ⟨v, h1, _⟩ := repL_get r e
    exact ⟨vs, v, SqL.of h, h1⟩
  yld := fun c i d v H' e ok ⟨f, h, r⟩ y => by
    obtain ⟨w, h1, h2⟩ := repL_get r e
    obtain ⟨e1, y⟩ := y
    have h3 := y vs (SqL.of h)
    rw [h1] at h3
    cases h3
    exact ⟨c, ok, Le.refl c, RsE.refl c, rfl, e1.symm, h2⟩
theorem jw_tup {K : PySem.W.Frag} {a : Addr} {ds : List D} {vs : List V} : JW g (Itt K a) ds (fun c => c.free a ∧ c.H a = some (.tup vs) ∧ RepL c ds vs) where
  mono := fun c c' ⟨f, h, r⟩ l => ⟨l.fre a _ f h (fun _ z => by cases z), l.tre a _ trivial f h, RepL.mono l _ _ r⟩
  stop := fun c ok ⟨f, h, r⟩ => ⟨vs, SqT.of h, by rw [repL_len r]; exact Nat.le_refl _⟩
  go := fun c i d e ok ⟨f, h, r⟩ => by
    obtain ⟨v, h1, _⟩ := repL_get r e
    exact ⟨vs, v, SqT.of h, h1⟩
  yld := fun c i d v H' e ok ⟨f, h, r⟩ y => by
    obtain ⟨w, h1, h2⟩ := repL_get r e
    obtain ⟨e1, y⟩ := y
    have h3 := y vs (SqT.of h)
    rw [h1] at h3
    cases h3
    exact ⟨c, ok, Le.refl c, RsE.refl c, rfl, e1.symm, h2⟩
/-- an object's list, locked -/
theorem jw_lck {K : PySem.W.Frag} {r : Nat} {a : Addr} {ds : List D} : JW g (Itl K a) ds (fun c => r < c.S.length ∧ c.S[r]? = some (.lck (.lst ds)) ∧ c.ι r = a) where
  mono := fun c c' ⟨hl, h, e⟩ l => by
    have h' := l.lkd r _ h
    have hlive : c'.live r := live_of h' (by intro z; cases z)
    exact ⟨Nat.lt_of_lt_of_le hl l.len, h', (l.liv r hl hlive).2.trans e⟩
  stop := fun c ok ⟨hl, h, e⟩ => by
    obtain ⟨vs, h1, h2⟩ := ok.at_ r _ h
    subst e
    exact ⟨vs, SqL.of h1, by rw [repL_len h2]; exact Nat.le_refl _⟩
  go := fun c i d e ok ⟨hl, h, e1⟩ => by
    obtain ⟨vs, h1, h2⟩ := ok.at_ r _ h
    subst e1
    obtain ⟨v, h3, _⟩ := repL_get h2 e
    exact ⟨vs, v, SqL.of h1, h3⟩
  yld := fun c i d v H' e ok ⟨hl, h, e1⟩ y => by
    obtain ⟨vs, h1, h2⟩ := ok.at_ r _ h
    subst e1
    obtain ⟨w, h3, h4⟩ := repL_get h2 e
    obtain ⟨e2, y⟩ := y
    have h5 := y vs (SqL.of h1)
    rw [h3] at h5
    cases h5
    exact ⟨c, ok, Le.refl c, RsE.refl c, rfl, e2.symm, h4⟩
/-- the ghost lock of a list -/
theorem lock_ok {c : Ct} (ok : Ok g c) {r : Nat} {ds : List D} (h : c.S[r]? = some (.lst ds)) : Ok g { c with S := c.S.set r (.lck (.lst ds)) } ∧ Le c { c with S := c.S.set r (.lck (.lst ds)) } := by
  have hlt := (List.getElem?_eq_some_iff.mp h).1
  have live1 : ∀ k, ({ c with S := c.S.set r (.lck (.lst ds)) } : Ct).live k → c.live k := fun k ⟨x, e, n⟩ => by
    have e' : (c.S.set r (.lck (.lst ds)))[k]? = some x := e
    by_cases hk : r = k
    · subst hk; exact live_of h (by intro z; cases z)
    · rw [List.getElem?_set_ne hk] at e'; exact ⟨x, e', n⟩
  have l : Le c { c with S := c.S.set r (.lck (.lst ds)) } := {
    len := by simp
    liv := fun k _ hk => ⟨live1 k hk, rfl⟩
    sur := fun _ o h t => ⟨o, h, t⟩
    fre := fun a o f _ _ => ⟨f.1, fun k hk => f.2 k (live1 k hk)⟩
    tre := fun _ _ _ _ h => h
    trd := fun _ _ _ _ h => h
    lkd := fun k o hk => by
      show (c.S.set r (.lck (.lst ds)))[k]? = _
      by_cases z : r = k
      · subst z; rw [h] at hk; cases hk
      · rw [List.getElem?_set_ne z]; exact hk
    fzn := fun _ _ _ h => h }
  refine ⟨⟨fun a b h1 h2 e => ok.inj a b (live1 a h1) (live1 b h2) e, fun k x e => ?_, fun k hk => ok.rsv k (live1 k hk), ok.tabs, ok.rsh⟩, l⟩
  have e' : (c.S.set r (.lck (.lst ds)))[k]? = some x := e
  by_cases hk : r = k
  · subst hk
    rw [List.getElem?_set_self hlt] at e'
    cases e'
    obtain ⟨vs, h1, h2⟩ := ok.at_ r _ h
    exact ⟨vs, h1, RepL.mono l _ _ h2⟩
  · rw [List.getElem?_set_ne hk] at e'
    exact RepO.mono l rfl (ok.at_ k x e')
/-- the lock is undone -/
def Ct.unlk (c : Ct) (lk : Option Nat) : Ct := { c with S := unlockAt c.S lk }
theorem unlk_live {c : Ct} {lk : Option Nat} {k : Nat} (hl : ∀ r, lk = some r → ∃ o, c.S[r]? = some (.lck (.lst o))) (h : (c.unlk lk).live k) : c.live k := by
  cases lk with
  | none => exact h
  | some r =>
    obtain ⟨o, ho⟩ := hl r rfl
    obtain ⟨x, e, n⟩ := h
    have e' : (unlockAt c.S (some r))[k]? = some x := e
    unfold unlockAt at e'
    simp only [ho] at e'
    by_cases hk : r = k
    · subst hk; exact live_of ho (by intro z; cases z)
    · rw [List.getElem?_set_ne hk] at e'; exact ⟨x, e', n⟩
theorem unlk_le {c0 c : Ct} {lk : Option Nat} (l : Le c0 c) (hl : ∀ r, lk = some r → ∃ o, c.S[r]? = some (.lck (.lst o))) (hn : ∀ r, lk = some r → ∀ x, c0.S[r]? ≠ some (.lck x)) : Le c0 (c.unlk lk) where
  len := by
    refine Nat.le_trans l.len ?_
    cases lk with
    | none => exact Nat.le_refl _
    | some r =>
      obtain ⟨o, ho⟩ := hl r rfl
      show c.S.length ≤ (unlockAt c.S (some r)).length
      unfold unlockAt
      simp only [ho]
      simp
  liv := fun k hk h => l.liv k hk (unlk_live hl h)
  sur := l.sur
  fre := fun a o f h t => by
    have := l.fre a o f h t
    exact ⟨this.1, fun k hk => this.2 k (unlk_live hl hk)⟩
  tre := l.tre
  trd := l.trd
  lkd := fun k o h => by
    cases lk with
    | none => exact l.lkd k o h
    | some r =>
      obtain ⟨q, hq⟩ := hl r rfl
      show (unlockAt c.S (some r))[k]? = _
      unfold unlockAt
      simp only [hq]
      by_cases z : r = k
      · subst z; exact absurd h (hn r rfl o)
      · rw [List.getElem?_set_ne z]; exact l.lkd k o h
  fzn := l.fzn
theorem unlk_w {c : Ct} {lk : Option Nat} (hl : ∀ r, lk = some r → ∃ o, c.S[r]? = some (.lck (.lst o))) : Lw c (c.unlk lk) where
  len := by
    cases lk with
    | none => exact Nat.le_refl _
    | some r =>
      obtain ⟨o, ho⟩ := hl r rfl
      show c.S.length ≤ (unlockAt c.S (some r)).length
      unfold unlockAt
      simp only [ho]
      simp
  liv := fun k hk h => ⟨unlk_live hl h, rfl⟩
  sur := fun _ o h t => ⟨o, h, t⟩
  fre := fun a o f h _ => ⟨f.1, fun k hk => f.2 k (unlk_live hl hk)⟩
  tre := fun _ _ _ _ h => h
  trd := fun _ _ _ _ h => h
theorem unlk_ok {c : Ct} (ok : Ok g c) {lk : Option Nat} (hl : ∀ r, lk = some r → ∃ o, c.S[r]? = some (.lck (.lst o))) : Ok g (c.unlk lk) where
  inj := fun a b h1 h2 e => ok.inj a b (unlk_live hl h1) (unlk_live hl h2) e
  at_ := fun k x e => by
    have w := unlk_w hl
    cases lk with
    | none => exact ok.at_ k x e
    | some r =>
      obtain ⟨o, ho⟩ := hl r rfl
      have hlt := (List.getElem?_eq_some_iff.mp ho).1
      have e' : (unlockAt c.S (some r))[k]? = some x := e
      unfold unlockAt at e'
      simp only [ho] at e'
      by_cases hk : r = k
      · subst hk
        rw [List.getElem?_set_self hlt] at e'
        cases e'
        obtain ⟨vs, h1, h2⟩ := ok.at_ r _ ho
        exact ⟨vs, h1, RepL.monoW w _ _ h2⟩
      · rw [List.getElem?_set_ne hk] at e'
        exact RepO.monoW w rfl (ok.at_ k x e')
  rsv := fun k h => ok.rsv k (unlk_live hl h)
  tabs := ok.tabs
  rsh := ok.rsh
/-- a text that is walked -/
theorem jw_txt {t : Tx} : JW g (Its (sS t)) (t.map fun c => .str [c]) (fun _ => True) where
  mono := fun _ _ _ _ => trivial
  stop := fun c ok _ => by show (sS t).cps.size ≤ _; simp [sS]
  go := fun c i d e ok _ => by
    show i < (sS t).cps.size
    have := (List.getElem?_eq_some_iff.mp e).1
    simpa [sS] using this
  yld := fun c i d v H' e ok _ y => by
    obtain ⟨rfl, x, h1, rfl⟩ := y
    have h2 : t[i]? = some x := by simpa [sS] using h1
    have h3 : (D.str [x]) = d := by
      rw [List.getElem?_map, h2] at e
      exact Option.some.inj e
    subst h3
    exact ⟨c, ok, Le.refl c, RsE.refl c, rfl, rfl, rep_str.mpr rfl⟩
/-- a locked dict: what stands there -/
def LkD (r : Nat) (a : Addr) (ob : Obj) (us : List (Key × V)) (kvs : List (K1 × D)) (c : Ct) : Prop := r < c.S.length ∧ c.S[r]? = some (.lck (.dct kvs)) ∧ c.ι r = a ∧ c.H a = some (.frz ob (.dK us)) ∧ RK c kK kvs us
theorem LkD.mono {r : Nat} {a : Addr} {ob : Obj} {us : List (Key × V)} {kvs : List (K1 × D)} {c c' : Ct} (h : LkD r a ob us kvs c) (l : Le c c') : LkD r a ob us kvs c' := by
  obtain ⟨hl, h1, e, h2, h3⟩ := h
  have h' := l.lkd r _ h1
  have hlive : c'.live r := live_of h' (by intro z; cases z)
  exact ⟨Nat.lt_of_lt_of_le hl l.len, h', (l.liv r hl hlive).2.trans e, l.fzn _ _ _ h2, rk_mono (fun d v => Rep.mono l d v) h3⟩
def LkT (r : Nat) (a : Addr) (ob : Obj) (us : List (List Key × V)) (kvs : List (List K1 × D)) (c : Ct) : Prop := r < c.S.length ∧ c.S[r]? = some (.lck (.dctT kvs)) ∧ c.ι r = a ∧ c.H a = some (.frz ob (.dT us)) ∧ RK c (List.map kK) kvs us
theorem dK_rep {c : Ct} (k : K1) : Rep c (dK k) (kV (kK k)) := by
  cases k with
  | i n => exact rep_int.mpr rfl
  | s t => exact rep_str.mpr rfl
theorem jw_keys {r : Nat} {a : Addr} {ob : Obj} {us : List (Key × V)} {kvs : List (K1 × D)} : JW g (Itk a ob us) (kvs.map fun p => dK p.1) (LkD r a ob us kvs) where
  mono := fun c c' h l => h.mono l
  stop := fun c ok ⟨_, _, _, h2, h3⟩ => ⟨h2, by rw [rk_len h3, List.length_map]; exact Nat.le_refl _⟩
  go := fun c i d e ok ⟨_, _, _, h2, h3⟩ => ⟨h2, by
    have := (List.getElem?_eq_some_iff.mp e).1
    rw [rk_len h3]
    simpa using this⟩
  yld := fun c i d v H' e ok ⟨_, _, _, h2, h3⟩ y => by
    obtain ⟨rfl, k, w, h4, rfl⟩ := y
    rw [List.getElem?_map] at e
    cases hk : kvs[i]? with
    | none => rw [hk] at e; cases e
    | some p =>
      rw [hk] at e
      have e' : dK p.1 = d := Option.some.inj e
      obtain ⟨u, h5, _⟩ := rk_get (k := p.1) (d := p.2) h3 hk
      rw [h4] at h5
      cases h5
      subst e'
      exact ⟨c, ok, Le.refl c, RsE.refl c, rfl, rfl, dK_rep _⟩
theorem jw_vals {r : Nat} {a : Addr} {ob : Obj} {us : List (Key × V)} {kvs : List (K1 × D)} : JW g (Itd a ob us) (kvs.map fun p => p.2) (LkD r a ob us kvs) where
  mono := fun c c' h l => h.mono l
  stop := fun c ok ⟨_, _, _, h2, h3⟩ => ⟨h2, by rw [rk_len h3, List.length_map]; exact Nat.le_refl _⟩
  go := fun c i d e ok ⟨_, _, _, h2, h3⟩ => ⟨h2, by
    have := (List.getElem?_eq_some_iff.mp e).1
    rw [rk_len h3]
    simpa using this⟩
  yld := fun c i d v H' e ok ⟨_, _, _, h2, h3⟩ y => by
    obtain ⟨rfl, k, h4⟩ := y
    rw [List.getElem?_map] at e
    cases hk : kvs[i]? with
    | none => rw [hk] at e; cases e
    | some p =>
      rw [hk] at e
      have e' : p.2 = d := Option.some.inj e
      obtain ⟨u, h5, h6⟩ := rk_get (k := p.1) (d := p.2) h3 hk
      rw [h4] at h5
      cases h5
      subst e'
      exact ⟨c, ok, Le.refl c, RsE.refl c, rfl, rfl, h6⟩
theorem jw_items {r : Nat} {a : Addr} {ob : Obj} {us : List (Key × V)} {kvs : List (K1 × D)} : JW g (Iti a ob us) (kvs.map fun p => .tup [dK p.1, p.2]) (LkD r a ob us kvs) where
  mono := fun c c' h l => h.mono l
  stop := fun c ok ⟨_, _, _, h2, h3⟩ => ⟨h2, by rw [rk_len h3, List.length_map]; exact Nat.le_refl _⟩
  go := fun c i d e ok ⟨_, _, _, h2, h3⟩ => ⟨h2, by
    have := (List.getElem?_eq_some_iff.mp e).1
    rw [rk_len h3]
    simpa using this⟩
  yld := fun c i d v H' e ok ⟨_, _, _, h2, h3⟩ y => by
    obtain ⟨T, k, w, h4, rfl, hT, rfl⟩ := y
    rw [List.getElem?_map] at e
    cases hk : kvs[i]? with
    | none => rw [hk] at e; cases e
    | some p =>
      rw [hk] at e
      have e' : D.tup [dK p.1, p.2] = d := Option.some.inj e
      obtain ⟨u, h5, h6⟩ := rk_get (k := p.1) (d := p.2) h3 hk
      rw [h4] at h5
      cases h5
      subst e'
      exact ⟨{ c with H := upd c.H T (.tup [kV (kK p.1), w]) }, ok.new hT, Le.new hT, RsE.new ok hT, rfl, rfl, rep_newT ok hT (repL_cons.mpr ⟨_, _, rfl, dK_rep _, repL_one h6⟩)⟩
/-- a locked dict that is met -/
theorem lkd_of {c : Ct} (ok : Ok g c) {r : Nat} {v : V} {kvs : List (K1 × D)} (rx : Rep c (.obj r) v) (z : c.S[r]? = some (.lck (.dct kvs))) : ∃ a ob us, v = .ref a ∧ c.H a = some (.frz ob (.dK us)) ∧ LkD r a ob us kvs c := by
  obtain ⟨hr, hv⟩ := rep_obj.mp rx
  obtain ⟨ob, us, h1, h2⟩ := ok.at_ r _ z
  exact ⟨c.ι r, ob, us, hv (live_of z (by intro z; cases z)), h1, hr, z, rfl, h1, rk_of.mp h2⟩
theorem is_vals {tg o : Expr} {m : ME} {apos cpos : Pos} (hbase : attributeBase o "values" X.env (eval o X.env) = eval o X.env := by rfl) (hline : (apos.endLine == cpos.line) = true := by rfl) : ES g X E o m → IS g X E tg (.Call (.Attribute o "values" apos) [] [] cpos) (iVals m) := fun ⟨ta, pa, sa⟩ => ⟨_, pi_values pa hbase hline, fun c σ e R ok er hp => by
  show ta σ c.H _
  refine bindE (R := WI g c R) sa ok er hp fun c1 x v ok1 l1 r1 rx hp1 => ?_
  cases x <;> first | exact hp1.elim | skip
  rename_i r
  cases z : c1.S[r]? with
  | none => simp only [z] at hp1; exact hp1.elim
  | some o =>
    cases o <;> first | (simp only [z] at hp1; exact hp1.elim) | skip
    rename_i o
    cases o <;> first | (simp only [z] at hp1; exact hp1.elim) | skip
    simp only [z] at hp1
    obtain ⟨a, ob, us, rfl, h1, h2⟩ := lkd_of ok1 rx z
    exact ⟨a, ob, us, rfl, h1, hp1 c1 _ _ ok1 l1 r1 rfl jw_vals h2 (fun r h => by cases h)⟩⟩
theorem is_items {elts : List Expr} {kk : Nat} {tpos : Pos} {o : Expr} {m : ME} {apos cpos : Pos} (hbase : attributeBase o "items" X.env (eval o X.env) = eval o X.env := by rfl) (hline : (apos.endLine == cpos.line) = true := by rfl) : ES g X E o m → IS g X E (.Tuple elts kk tpos) (.Call (.Attribute o "items" apos) [] [] cpos) (iItems m) := fun ⟨ta, pa, sa⟩ => ⟨_, pi_items pa hbase hline, fun c σ e R ok er hp => by
  show ta σ c.H _
  refine bindE (R := WI g c R) sa ok er hp fun c1 x v ok1 l1 r1 rx hp1 => ?_
  cases x <;> first | exact hp1.elim | skip
  rename_i r
  cases z : c1.S[r]? with
  | none => simp only [z] at hp1; exact hp1.elim
  | some o =>
    cases o <;> first | (simp only [z] at hp1; exact hp1.elim) | skip
    rename_i o
    cases o <;> first | (simp only [z] at hp1; exact hp1.elim) | skip
    simp only [z] at hp1
    obtain ⟨a, ob, us, rfl, h1, h2⟩ := lkd_of ok1 rx z
    exact ⟨a, ob, us, rfl, h1, hp1 c1 _ _ ok1 l1 r1 rfl jw_items h2 (fun r h => by cases h)⟩⟩
theorem is_seq {tg it : Expr} {m : ME} : ES g X E it m → IS g X E tg it (iSeq m) := fun ⟨ta, pa, sa⟩ => ⟨_, pi_or (pi_list pa) (pi_or (pi_tup pa) (pi_or (pi_str pa) (pi_keys pa))), fun c σ e R ok er hp => by
  have hp' : PostG g c E (WI g c R) ((m e c.S).bind fun x S1 => match x with
    | .lst xs => .ok (xs, none) S1
    | .tup xs => .ok (xs, none) S1
    | .str t => .ok (t.map fun c => .str [c], none) S1
    | .obj r => match S1[r]? with
      | some (.lst xs) => .ok (xs, some r) (S1.set r (.lck (.lst xs)))
      | some (.lck (.lst xs)) => .ok (xs, none) S1
      | some (.lck (.dct kvs)) => .ok (kvs.map fun p => dK p.1, none) S1
      | _ => .bad
    | _ => .bad) := hp
  cases q : m e c.S with
  | bad => rw [q] at hp'; exact hp'.elim
  | exc j S =>
    rw [q] at hp'
    refine .inl (sa c σ e _ ok er ?_)
    rw [q]; exact hp'
  | ok x S =>
    rw [q] at hp'
    cases x <;> first | exact hp'.elim | skip
    case lst xs =>
      refine .inl (sa c σ e _ ok er ?_)
      rw [q]
      intro c1 v ok1 l1 r1 s1 rx
      obtain ⟨a, vs, rfl, f, h1, h2⟩ := rep_lst.mp rx
      refine ⟨a, rfl, ⟨vs, SqL.of h1⟩, hp' c1 _ _ ok1 l1 r1 s1 jw_lst ⟨f, h1, h2⟩ (fun r h => by cases h)⟩
    case tup xs =>
      refine .inr (.inl (sa c σ e _ ok er ?_))
      rw [q]
      intro c1 v ok1 l1 r1 s1 rx
      obtain ⟨a, vs, rfl, f, h1, h2⟩ := rep_tup.mp rx
      refine ⟨a, rfl, ⟨vs, SqT.of h1⟩, hp' c1 _ _ ok1 l1 r1 s1 jw_tup ⟨f, h1, h2⟩ (fun r h => by cases h)⟩
    case str t =>
      refine .inr (.inr (.inl (sa c σ e _ ok er ?_)))
      rw [q]
      intro c1 v ok1 l1 r1 s1 rx
      exact ⟨sS t, rep_str.mp rx, hp' c1 _ _ ok1 l1 r1 s1 jw_txt trivial (fun r h => by cases h)⟩
    case obj r =>
      by_cases hD : ∃ kvs, S[r]? = some (.lck (.dct kvs))
      · obtain ⟨kvs, z⟩ := hD
        refine .inr (.inr (.inr (sa c σ e _ ok er ?_)))
        rw [q]
        intro c1 v ok1 l1 r1 s1 rx
        subst s1
        simp only [Out.bind, z] at hp'
        obtain ⟨a, ob, us, rfl, h1, h2⟩ := lkd_of ok1 rx z
        exact ⟨a, ob, rfl, .inl ⟨us, h1, hp' c1 _ _ ok1 l1 r1 rfl jw_keys h2 (fun r h => by cases h)⟩⟩
      refine .inl (sa c σ e _ ok er ?_)
      rw [q]
      intro c1 v ok1 l1 r1 s1 rx
      obtain ⟨hr, hv⟩ := rep_obj.mp rx
      cases z : S[r]? with
      | none => simp only [Out.bind, z] at hp'; exact hp'.elim
      | some o =>
        rw [← s1] at z
        cases o <;> first | (simp only [Out.bind, ← s1, z] at hp'; exact hp'.elim) | skip
        case lst xs =>
          have hlive := live_of z (by intro z; cases z)
          simp only [Out.bind, ← s1, z] at hp'
          obtain ⟨vs, h1, h2⟩ := ok1.at_ r _ z
          obtain ⟨ok2, l2⟩ := lock_ok ok1 z
          rw [hv hlive]
          refine ⟨c1.ι r, rfl, ⟨vs, SqL.of h1⟩, hp' { c1 with S := c1.S.set r (.lck (.lst xs)) } _ _ ok2 (l1.trans l2) ⟨r1.eq, r1.kp⟩ rfl (jw_lck (r := r) (a := c1.ι r)) ⟨by simpa using hr, List.getElem?_set_self hr, rfl⟩ (fun r' h => ?_)⟩
          cases h
          refine ⟨xs, List.getElem?_set_self hr, fun x hx => ?_⟩
          have := l1.lkd r x hx
          rw [z] at this; cases this
        case lck o =>
          cases o <;> first | (simp only [Out.bind, ← s1, z] at hp'; exact hp'.elim) | (exact absurd ⟨_, by rw [← s1]; exact z⟩ hD) | skip
          case lst xs =>
            have hlive := live_of z (by intro z; cases z)
            simp only [Out.bind, ← s1, z] at hp'
            obtain ⟨vs, h1, h2⟩ := ok1.at_ r _ z
            rw [hv hlive]
            refine ⟨c1.ι r, rfl, ⟨vs, SqL.of h1⟩, hp' _ _ _ ok1 l1 r1 rfl (jw_lck (r := r) (a := c1.ι r)) ⟨hr, z, rfl⟩ (fun r' h => by cases h)⟩⟩
theorem rangeL_get {n : Nat} : ∀ {lo : Int} {i : Nat} {d : D}, (rangeL lo n)[i]? = some d → d = .int (lo + i) ∧ i < n := by
  induction n with
  | zero => intro lo i d h; simp [rangeL] at h
  | succ n ih =>
    intro lo i d h
    cases i with
    | zero =>
      have h' : D.int lo = d := by simpa [rangeL] using h
      subst h'
      exact ⟨by simp, Nat.succ_pos n⟩
    | succ i =>
      have h' : (rangeL (lo + 1) n)[i]? = some d := by simpa [rangeL] using h
      obtain ⟨e, hl⟩ := ih h'
      refine ⟨?_, Nat.succ_lt_succ hl⟩
      rw [e]
      congr 1
      omega
theorem rangeL_len : ∀ (n : Nat) (lo : Int), (rangeL lo n).length = n
  | 0, _ => rfl
  | n + 1, lo => by show (rangeL (lo + 1) n).length + 1 = n + 1; rw [rangeL_len n]
theorem jw_rng {lo : Int} {n : Nat} : JW g (Itr lo n) (rangeL lo n) (fun _ => True) where
  mono := fun _ _ _ _ => trivial
  stop := fun c ok _ => by show n ≤ (rangeL lo n).length; rw [rangeL_len]; exact Nat.le_refl _
  go := fun c i d e ok _ => (rangeL_get e).2
  yld := fun c i d v H' e ok _ y => by
    obtain ⟨e1, e2⟩ := y
    obtain ⟨e3, _⟩ := rangeL_get e
    subst e3
    exact ⟨c, ok, Le.refl c, RsE.refl c, rfl, e1.symm, rep_int.mpr e2⟩
theorem is_range1 {tg a : Expr} {m : MA} {p pos : Pos} (hm : X.mg "range" = none) (hg : Gl X "range" := by rfl) (hs : starEach [a] X.env = [(false, eval a X.env)] := by rfl) : AS g X E [a] m → IS g X E tg (.Call (.Name "range" p) [a] [] pos) (iRange1 m) :=
  fun ⟨ta, pa, sa, _⟩ => ⟨_, pi_range1 hg hm pa hs, fun c σ e R ok er hp => by
    show ta σ c.H _
    refine bindA (R := WI g c R) sa ok er hp fun c1 ds vs ok1 l1 r1 rx hp1 => ?_
    split at hp1
    · rename_i n
      split at hp1
      · rename_i hb
        obtain ⟨v, rfl, h⟩ := rep1 rx
        rw [rep_int.mp h]
        exact ⟨n, rfl, by omega, by omega, hp1 c1 _ _ ok1 l1 r1 rfl jw_rng trivial (fun r h => by cases h)⟩
      · exact hp1.elim
    · exact hp1.elim⟩
theorem is_range2 {tg a b : Expr} {m : MA} {p pos : Pos} (hm : X.mg "range" = none) (hg : Gl X "range" := by rfl) (hs : starEach [a, b] X.env = [(false, eval a X.env), (false, eval b X.env)] := by rfl) (hs2 : starEach [b] X.env = [(false, eval b X.env)] := by rfl) : AS g X E [a, b] m → IS g X E tg (.Call (.Name "range" p) [a, b] [] pos) (iRange2 m) :=
  fun ⟨ta, pa, sa, _⟩ => ⟨_, pi_range2 hg hm pa hs hs2, fun c σ e R ok er hp => by
    show ta σ c.H _
    refine bindA (R := WI g c R) sa ok er hp fun c1 ds vs ok1 l1 r1 rx hp1 => ?_
    split at hp1
    · rename_i n k
      split at hp1
      · rename_i hb
        obtain ⟨v, u, rfl, h, h'⟩ := rep2 rx
        rw [rep_int.mp h, rep_int.mp h']
        exact ⟨n, k, rfl, by omega, hp1 c1 _ _ ok1 l1 r1 rfl jw_rng trivial (fun r h => by cases h)⟩
      · exact hp1.elim
    · exact hp1.elim⟩
theorem zipD_get : ∀ {xs ys : List D} {i : Nat} {d : D}, (zipD xs ys)[i]? = some d → ∃ x y, xs[i]? = some x ∧ ys[i]? = some y ∧ d = .tup [x, y]
  | [], _, _, _, h => by simp [zipD] at h
  | _ :: _, [], _, _, h => by simp [zipD] at h
  | x :: xs, y :: ys, 0, d, h => by
    have h' : D.tup [x, y] = d := by simpa [zipD] using h
    exact ⟨x, y, by simp, by simp, h'.symm⟩
  | x :: xs, y :: ys, i + 1, d, h => by
    obtain ⟨a, b, h1, h2, h3⟩ := zipD_get (xs := xs) (ys := ys) (i := i) (by simpa [zipD] using h)
    exact ⟨a, b, by simpa using h1, by simpa using h2, h3⟩
theorem zipD_len : ∀ xs ys : List D, (zipD xs ys).length = min xs.length ys.length
  | [], _ => by simp [zipD]
  | _ :: _, [] => by simp [zipD]
  | x :: xs, y :: ys => by
    show (zipD xs ys).length + 1 = min (xs.length + 1) (ys.length + 1)
    rw [zipD_len xs ys]; omega
theorem jw_zip {K : PySem.W.Frag} {a b : Addr} {xs ys : List D} {vs ws : List V} : JW g (Itz K a b) (zipD xs ys) (fun c => (c.free a ∧ c.H a = some (.lst vs) ∧ RepL c xs vs) ∧ (c.free b ∧ c.H b = some (.lst ws) ∧ RepL c ys ws)) where
  mono := fun c c' ⟨⟨f, h, r⟩, f2, h2, r2⟩ l => ⟨⟨l.fre a _ f h (fun _ z => by cases z), l.tre a _ trivial f h, RepL.mono l _ _ r⟩, l.fre b _ f2 h2 (fun _ z => by cases z), l.tre b _ trivial f2 h2, RepL.mono l _ _ r2⟩
  stop := fun c ok ⟨⟨f, h, r⟩, f2, h2, r2⟩ => ⟨vs, ws, SqL.of h, SqL.of h2, by
    rw [zipD_len, repL_len r, repL_len r2]
    omega⟩
  go := fun c i d e ok ⟨⟨f, h, r⟩, f2, h2, r2⟩ => by
    obtain ⟨x, y, e1, e2, rfl⟩ := zipD_get e
    obtain ⟨v, h3, _⟩ := repL_get r e1
    obtain ⟨u, h4, _⟩ := repL_get r2 e2
    exact ⟨vs, ws, v, u, SqL.of h, SqL.of h2, h3, h4⟩
  yld := fun c i d v H' e ok ⟨⟨f, h, r⟩, f2, h2, r2⟩ y => by
    obtain ⟨x, y', e1, e2, rfl⟩ := zipD_get e
    obtain ⟨v1, h3, q3⟩ := repL_get r e1
    obtain ⟨u1, h4, q4⟩ := repL_get r2 e2
    obtain ⟨T, p, q, rfl, hT, e3, k1, k2⟩ := y
    have z1 := k1 vs (SqL.of h)
    have z2 := k2 ws (SqL.of h2)
    rw [h3] at z1; cases z1
    rw [h4] at z2; cases z2
    exact ⟨{ c with H := upd c.H T (.tup [v1, u1]) }, ok.new hT, Le.new hT, RsE.new ok hT, rfl, e3.symm, rep_newT ok hT (repL_cons.mpr ⟨_, _, rfl, q3, repL_one q4⟩)⟩
theorem is_zip {e1 e2 : Expr} {m : MA} {p pos tpos : Pos} {elts : List Expr} {kk : Nat} (hm : X.mg "zip" = none) (hg : Gl X "zip" := by rfl)
    (hs : starEach [e1, e2] X.env = (false, eval e1 X.env) :: starEach [e2] X.env := by rfl) (hpl : (backTo pos (starEach [e2] X.env)).any (·.1) = false := by rfl) : AS g X E [e1, e2] m → IS g X E (.Tuple elts kk tpos) (.Call (.Name "zip" p) [e1, e2] [] pos) (iZip m) :=
  fun ⟨ta, pa, sa, _⟩ => ⟨_, pi_zip hg hm pa hs hpl, fun c σ e R ok er hp => by
    show ta σ c.H _
    refine bindA (R := WI g c R) sa ok er hp fun c1 ds vs ok1 l1 r1 rx hp1 => ?_
    split at hp1
    · rename_i a b
      split at hp1
      · rename_i xs ys ea eb
        have ea : a = .lst xs := by
          cases a <;> first | (cases ea; done) | skip
          cases ea; rfl
        have eb : b = .lst ys := by
          cases b <;> first | (cases eb; done) | skip
          cases eb; rfl
        subst ea eb
        obtain ⟨v, u, rfl, h, h'⟩ := rep2 rx
        obtain ⟨p1, vs1, rfl, f1, h1, q1⟩ := rep_lst.mp h
        obtain ⟨p2, vs2, rfl, f2, h2, q2⟩ := rep_lst.mp h'
        exact ⟨p1, p2, vs1, vs2, rfl, SqL.of h1, SqL.of h2, hp1 c1 _ _ ok1 l1 r1 rfl jw_zip ⟨⟨f1, h1, q1⟩, f2, h2, q2⟩ (fun r h => by cases h)⟩
      · exact hp1.elim
    · exact hp1.elim⟩
/-! ### comprehensions -/
theorem wipe_len : ∀ (e : Env) (vs : List Nat), (wipe e vs).length = e.length
  | e, [] => rfl
  | e, v :: vs => by unfold wipe; rw [List.length_set, wipe_len e vs]
theorem wipe_get : ∀ {e : Env} {vs : List Nat} {i : Nat} {d : D}, (wipe e vs)[i]? = some (some d) → e[i]? = some (some d) ∧ i ∉ vs
  | e, [], i, d, h => ⟨h, by simp⟩
  | e, v :: vs, i, d, h => by
    unfold wipe at h
    by_cases hk : v = i
    · subst hk
      by_cases hl : v < (wipe e vs).length
      · rw [List.getElem?_set_self hl] at h; cases h
      · rw [List.getElem?_eq_none (by rw [List.length_set]; omega)] at h; cases h
    · rw [List.getElem?_set_ne hk] at h
      obtain ⟨h1, h2⟩ := wipe_get h
      exact ⟨h1, by simp only [List.mem_cons, not_or]; exact ⟨fun z => hk z.symm, h2⟩⟩
theorem wipeV_out {σ : L2.St} {i : Nat} : ∀ {vs : List Nat}, i ∉ vs → (L2.wipe σ vs)[i]? = σ[i]?
  | [], _ => rfl
  | v :: vs, h => by
    simp only [List.mem_cons, not_or] at h
    show ((L2.wipe σ vs).set v none)[i]? = _
    rw [List.getElem?_set_ne (fun z => h.1 z.symm), wipeV_out h.2]
theorem wipeV_in {σ : L2.St} {i : Nat} : ∀ {vs : List Nat}, i ∈ vs → i < σ.length → (L2.wipe σ vs)[i]? = some none
  | v :: vs, h, hl => by
    show ((L2.wipe σ vs).set v none)[i]? = _
    by_cases hk : v = i
    · subst hk
      rw [List.getElem?_set_self (by rw [wipe_length]; exact hl)]
    · rw [List.getElem?_set_ne hk]
      rcases List.mem_cons.mp h with z | z
      · exact absurd z.symm hk
      · exact wipeV_in z hl
theorem wipe_same {σ σ1 : L2.St} {vs : List Nat} (hl : σ1.length = σ.length) (h : ∀ k, k ∉ vs → σ1[k]? = (L2.wipe σ vs)[k]?) : L2.wipe σ1 vs = L2.wipe σ vs := by
  apply List.ext_getElem?
  intro i
  by_cases hi : i ∈ vs
  · by_cases hb : i < σ.length
    · rw [wipeV_in hi hb, wipeV_in hi (by rw [hl]; exact hb)]
    · rw [List.getElem?_eq_none (by rw [wipe_length]; omega), List.getElem?_eq_none (by rw [wipe_length]; omega)]
  · rw [wipeV_out hi, h i hi]
theorem envR_wipe {c : Ct} {e : Env} {σ : L2.St} (er : EnvR c e σ) (vs : List Nat) : EnvR c (wipe e vs) (L2.wipe σ vs) := by
  refine ⟨by rw [wipe_len, wipe_length]; exact er.1, fun i d h => ?_⟩
  obtain ⟨h1, h2⟩ := wipe_get h
  obtain ⟨v, a, b⟩ := er.2 i d h1
  exact ⟨v, by rw [wipeV_out h2]; exact a, b⟩
abbrev F0 : XK := fun _ _ _ => False
/-- one reading for a family of places -/
theorem unifE {ι : Type} {Xs : ι → Cx} {a : Expr} {m : ME} {E : XK} (h : ∀ i, ES g (Xs i) E a m) : ∃ t, (∀ i, PE (Xs i) a t) ∧ SE g E t m :=
  ⟨fun σ H Q => ∀ i, (h i).choose σ H Q, fun i => ⟨fun pins s σ H Q I hh => (h i).choose_spec.1.run pins s σ H Q I (hh i)⟩, fun c σ e Q ok er hp i => (h i).choose_spec.2 c σ e Q ok er hp⟩
def TS' (g : Gx) (X : Cx) (E : XK) (ifs : List Expr) (m : MB) : Prop := ∃ t, PTs X ifs t ∧ SB g E t m
theorem unifT {ι : Type} {Xs : ι → Cx} {a : List Expr} {m : MB} {E : XK} (h : ∀ i, TS' g (Xs i) E a m) : ∃ t, (∀ i, PTs (Xs i) a t) ∧ SB g E t m :=
  ⟨fun σ H Q => ∀ i, (h i).choose σ H Q, fun i => ⟨fun pins s σ H Q I hh => (h i).choose_spec.1.run pins s σ H Q I (hh i)⟩, fun c σ e Q ok er hp i => (h i).choose_spec.2 c σ e Q ok er hp⟩
theorem unifG {ι : Type} {Xs : ι → Cx} {a : Expr} {m : MG} {tv : List Nat} {E : XK} (h : ∀ i, GS g (Xs i) E a m tv) : ∃ t, (∀ i, PG (Xs i) a t) ∧ SG g E t m tv :=
  ⟨fun v σ H Q => ∀ i, (h i).choose v σ H Q, fun i => ⟨fun pins s σ H v u Q I r hh => (h i).choose_spec.1.run pins s σ H v u Q I r (hh i)⟩, fun c d v e σ Q ok r er hp i => (h i).choose_spec.2 c d v e σ Q ok r er hp⟩
theorem ts_nil : TS' g X E [] tYes := ⟨_, pts_nil, fun c σ e Q ok er hp => hp c ok (Le.refl c) (RsE.refl c) rfl⟩
theorem ts_one {a : Expr} {m : MB} : BS g X E a m → TS' g X E [a] m := fun ⟨t, pt, st⟩ => ⟨_, pts_one pt, st⟩
/-- the block's context -/
abbrev blkX (X : Cx) (scope : Scope) (p : Shared × Hp × Addr × List (Str × Addr) × List Addr) : Cx := X.blk p.1 p.2.1 scope (compEnvC scope p.2.2.2.1 p.2.2.1 X.env) p.2.2.2.2
theorem lcL_ok {mg : MG} {mt : MB} {me : ME} {e : Env} {x : D} {xs : List D} {S : Store} {acc : List D} {c : Ct} {β : Type} {R : β → Store → Prop} {f : List D → Store → Out β} (hp : PostG g c E R ((lcL mg mt me e (x :: xs) S acc).bind f)) :
    ∃ e1 S0 b S1, mg x e S = .ok e1 S0 ∧ mt e1 S0 = .ok b S1 ∧ (b = true → ∃ y S2, me e1 S1 = .ok y S2 ∧ PostG g c E R ((lcL mg mt me e xs S2 (acc ++ [y])).bind f)) ∧ (b = false → PostG g c E R ((lcL mg mt me e xs S1 acc).bind f)) := by
  unfold lcL at hp
  cases h1 : mg x e S with
  | bad => simp only [h1] at hp; exact hp.elim
  | exc k S => simp only [h1] at hp; exact hp.elim
  | ok e1 S0 =>
    simp only [h1] at hp
    cases h2 : mt e1 S0 with
    | bad => simp only [h2] at hp; exact hp.elim
    | exc k S => simp only [h2] at hp; exact hp.elim
    | ok b S1 =>
      refine ⟨e1, S0, b, S1, rfl, h2, fun hb => ?_, fun hb => ?_⟩
      · subst hb
        simp only [h2] at hp
        cases h3 : me e1 S1 with
        | bad => simp only [h3] at hp; exact hp.elim
        | exc k S => simp only [h3] at hp; exact hp.elim
        | ok y S2 => simp only [h3] at hp; exact ⟨y, S2, rfl, hp⟩
      · subst hb
        simp only [h2] at hp
        exact hp
/-- what holds between two turns: c1 the state ahead, D the new list -/
structure LcI (g : Gx) (E : XK) (c1 : Ct) (good : Ct → Prop) (Dl : Addr) (R : List D → Store → Prop) (mg : MG) (mt : MB) (me : ME) (e : Env) (xs : List D) (i m : Nat) (H : Hp) : Prop where
  ex : ∃ c acc vs, m = xs.length - i ∧ i ≤ xs.length ∧ c.H = H ∧ Ok g c ∧ Le c1 c ∧ c.rs = Dl :: c1.rs ∧ (∀ a, a ∈ c1.rs → c.H a = c1.H a) ∧ good c ∧ RepL c acc vs ∧ c.H Dl = some (.lst vs) ∧ vs.length ≤ i ∧ PostG g c1 E R (lcL mg mt me e (xs.drop i) c.S acc)
theorem unb {c : Ct} {E : XK} {α : Type} {R : α → Store → Prop} {o : Out α} (h : PostG g c E R (o.bind fun ys S2 => .ok ys S2)) : PostG g c E R o := by
  cases o with
  | bad => exact h
  | exc k S => exact h
  | ok ys S2 => exact h
theorem bnu {c : Ct} {E : XK} {α : Type} {R : α → Store → Prop} {o : Out α} (h : PostG g c E R o) : PostG g c E R (o.bind fun ys S2 => .ok ys S2) := by
  cases o with
  | bad => exact h
  | exc k S => exact h
  | ok ys S2 => exact h
theorem lc_has {elt tg it : Expr} {ifs : List Expr} {scope : Scope} {own : List (Str × Nat)} {mi : MI} {mg : MG} {mt : MB} {me : ME} {tv : List Nat} (hi : IS g X E tg it mi)
    (hg : ∀ p, GS g (blkX X scope p) F0 tg mg tv) (htv : ∀ k, k ∈ tv → k ∈ own.map (·.2)) (ht : ∀ p, TS' g (blkX X scope p) F0 ifs mt) (he : ∀ p, ES g (blkX X scope p) F0 elt me) :
    ∃ wi g1 tt te, PI X tg it wi ∧ (∀ p, PG (blkX X scope p) tg g1) ∧ (∀ p, PTs (blkX X scope p) ifs tt) ∧ (∀ p, PE (blkX X scope p) elt te) ∧ SE g E (tLc wi g1 tt te (own.map (·.2))) (eLC (own.map (·.2)) mi mg mt me) := by
  obtain ⟨wi, pi, si⟩ := hi
  obtain ⟨tg', pg, sg⟩ := unifG hg
  obtain ⟨tt, pt, st⟩ := unifT ht
  obtain ⟨te, pe, se⟩ := unifE he
  refine ⟨wi, tg', tt, te, pi, pg, pt, pe, fun c σ e Q okc er hp => ?_⟩
  show wi σ c.H _
  refine si c σ e _ okc er ?_
  have hp' : PostG g c E (WE g c Q) ((mi e c.S).bind fun p S1 => if 100000 < p.1.length then .bad else (lcL mg mt me (wipe e (own.map (·.2))) p.1 S1 []).bind fun ys S2 => .ok (.lst ys) (unlockAt S2 p.2)) := hp
  revert hp'
  cases q : mi e c.S with
  | bad => exact id
  | exc k S => exact id
  | ok p S =>
    intro hp' c1 J good ok1 l1 r1 s1 jw gd hlk
    intro Dl hD
    have hp1 : PostG g c E (WE g c Q) (if 100000 < p.1.length then .bad else (lcL mg mt me (wipe e (own.map (·.2))) p.1 S []).bind fun ys S2 => .ok (.lst ys) (unlockAt S2 p.2)) := hp'
    by_cases hbig : 100000 < p.1.length
    · rw [if_pos hbig] at hp1; exact hp1.elim
    rw [if_neg hbig, ← s1] at hp1
    have hlcR : PostG g c1 E (fun ys S2 => WE g c Q (.lst ys) (unlockAt S2 p.2)) (lcL mg mt me (wipe e (own.map (·.2))) p.1 c1.S []) := by
      have h2 := PostG.later l1 r1 hp1
      revert h2
      cases lcL mg mt me (wipe e (own.map (·.2))) p.1 c1.S [] with
      | bad => exact id
      | exc k S => exact id
      | ok ys S2 => exact id
    have okD := ok1.newR (o := .lst []) hD
    have lD := Le.newR (c := c1) (o := .lst []) hD
    have nD : Dl ∉ c1.rs := ok1.notR hD
    refine ⟨LcI g E c1 good Dl (fun ys S2 => WE g c Q (.lst ys) (unlockAt S2 p.2)) mg mt me (wipe e (own.map (·.2))) p.1, ⟨p.1.length, ⟨_, [], [], by simp, Nat.zero_le _, rfl, okD, lD, rfl, fun a h => (RsE.new ok1 hD).kp a h, jw.mono _ _ gd lD, repL_nil.mpr rfl, upd_same, Nat.zero_le _, by simpa using hlcR⟩⟩, ?_⟩
    rintro i m H ⟨c2, acc, vs, rfl, hil, rfl, ok2, l2, r2, k2, gd2, ra, hDl, hvl, hp2⟩
    have mD : Dl ∈ c2.rs := by rw [r2]; exact List.mem_cons_self
    by_cases hlt : i < p.1.length
    · -- a turn
      obtain ⟨x, hx⟩ : ∃ x, p.1[i]? = some x := ⟨p.1[i], List.getElem?_eq_getElem hlt⟩
      have hdrop : p.1.drop i = x :: p.1.drop (i + 1) := by
        rw [List.drop_eq_getElem_cons hlt]
        rw [List.getElem?_eq_getElem hlt] at hx
        rw [Option.some.inj hx]
      rw [hdrop] at hp2
      obtain ⟨e1, S0, b, S1, q1, q2, qt, qf⟩ := lcL_ok (bnu hp2)
      refine .inr ⟨jw.go c2 i x hx ok2 gd2, LcI g E c1 good Dl (fun ys S2 => WE g c Q (.lst ys) (unlockAt S2 p.2)) mg mt me (wipe e (own.map (·.2))) p.1 (i + 1) (p.1.length - (i + 1)), fun H' hH => ⟨p.1.length - (i + 1), by omega, hH⟩, fun v H' hy => ?_⟩
      obtain ⟨c3, ok3, l3, r3, s3, rfl, rv⟩ := jw.yld c2 i x v H' hx ok2 gd2 hy
      have l13 := l2.trans l3
      show tg' v (L2.wipe σ (own.map (·.2))) c3.H _
      refine sg c3 x v (wipe e (own.map (·.2))) _ _ ok3 rv ((envR_wipe (er.mono l1) _).mono l13) ?_
      rw [s3, q1]
      intro c4 σ4 ok4 l4 r4 s4 er4 n4 k4
      refine ⟨wipe_same (by rw [n4, wipe_length]) fun k hk => k4 k fun z => hk (htv k z), ?_⟩
      refine st c4 σ4 e1 _ ok4 er4 ?_
      rw [s4, q2]
      intro c5 ok5 l5 r5 s5
      have l25 := (l3.trans l4).trans l5
      have l15 := l2.trans l25
      have r25 : RsE c5 c2 := r5.trans (r4.trans r3)
      cases b with
      | false =>
        rw [if_neg (by decide)]
        exact ⟨c5, acc, vs, rfl, hlt, rfl, ok5, l15, by rw [r25.eq, r2], fun a h => (r25.kp a (by rw [r2]; exact List.mem_cons_of_mem _ h)).trans (k2 a h), jw.mono _ _ gd2 l25, RepL.mono l25 _ _ ra, (r25.kp Dl mD).trans hDl, by omega, by rw [s5]; exact unb (qf rfl)⟩
      | true =>
        rw [if_pos rfl]
        obtain ⟨y, S2, q3, hp4⟩ := qt rfl
        refine se c5 σ4 e1 _ ok5 (er4.mono l5) ?_
        rw [s5, q3]
        intro c6 w ok6 l6 r6 s6 rw6
        have l26 := l25.trans l6
        have r26 : RsE c6 c2 := r6.trans r25
        have hD6 : c6.H Dl = some (.lst vs) := (r26.kp Dl mD).trans hDl
        have m6 : Dl ∈ c6.rs := by rw [r26.eq]; exact mD
        have l67 : Le c6 { c6 with H := upd c6.H Dl (.lst (vs ++ [w])) } := Le.mutR m6 (fun ob u z => by rw [hD6] at z; cases z)
        refine ⟨vs, hD6, by rw [sizeLine_eq]; omega, ⟨{ c6 with H := upd c6.H Dl (.lst (vs ++ [w])) }, acc ++ [y], vs ++ [w], rfl, hlt, rfl, ok6.mutR m6 (fun ps z => by rw [hD6] at z; cases z) (fun q z => by rw [hD6] at z; cases z) (fun ob u z => by rw [hD6] at z; cases z), (l2.trans l26).mutAfter hD, by rw [← r2]; exact r26.eq, fun a h => ?_, jw.mono _ _ gd2 (l26.trans l67), RepL.mono l67 _ _ (repL_app (RepL.mono l26 _ _ ra) (repL_one rw6)), upd_same, by rw [List.length_append]; simp; omega, by rw [← s6] at hp4; exact unb hp4⟩⟩
        show upd c6.H Dl (.lst (vs ++ [w])) a = _
        have hne : a ≠ Dl := fun z => nD (z ▸ h)
        rw [upd_ne hne]
        exact (r26.kp a (by rw [r2]; exact List.mem_cons_of_mem _ h)).trans (k2 a h)
    · -- the end
      have hi2 : i = p.1.length := by omega
      subst hi2
      rw [List.drop_length] at hp2
      refine .inl ⟨jw.stop c2 ok2 gd2, ?_⟩
      have hq : WE g c Q (.lst acc) (unlockAt c2.S p.2) := hp2
      have okU := ok2.unR r2
      have lU := Le.unR (c := c2) r2
      have l1U : Le c1 { c2 with rs := c1.rs } := l2.trans lU
      have hlk2 : ∀ r, p.2 = some r → ∃ o, ({ c2 with rs := c1.rs } : Ct).S[r]? = some (.lck (.lst o)) := fun r hr => by
        obtain ⟨o, ho, _⟩ := hlk r hr
        exact ⟨o, l2.lkd r _ ho⟩
      have hn0 : ∀ r, p.2 = some r → ∀ x, c.S[r]? ≠ some (.lck x) := fun r hr x => by
        obtain ⟨o, _, hx⟩ := hlk r hr
        exact hx x
      refine hq (({ c2 with rs := c1.rs } : Ct).unlk p.2) (.ref Dl) (unlk_ok okU hlk2) (unlk_le (l1.trans l1U) hlk2 hn0) ⟨r1.eq, fun a h => (k2 a (by rw [r1.eq]; exact h)).trans (r1.kp a h)⟩ rfl ?_
      refine rep_lst.mpr ⟨Dl, vs, rfl, ⟨nD, fun k hk e => ?_⟩, hDl, RepL.monoW (unlk_w hlk2) _ _ (RepL.mono lU _ _ ra)⟩
      have hk' : c2.live k := unlk_live hlk2 hk
      exact ok2.rsv k hk' (by rw [show c2.ι k = Dl from e]; exact mD)
theorem es_lc {elt tg it : Expr} {ifs : List Expr} {scope : Scope} {own : List (Str × Nat)} {pos : Pos} {mi : MI} {mg : MG} {mt : MB} {me : ME} {tv : List Nat} (xo : XO g X E) (hi : IS g X E tg it mi) (ok : BlkOk X.N X.env.scope scope own)
    (hg : ∀ p, GS g (blkX X scope p) F0 tg mg tv) (htv : ∀ k, k ∈ tv → k ∈ own.map (·.2)) (ht : ∀ p, TS' g (blkX X scope p) F0 ifs mt) (he : ∀ p, ES g (blkX X scope p) F0 elt me) (hs : ∀ x, foldedSetIterable it X.env x = pure x := by intro _; rfl) :
    ES g X E (.ListComp elt [⟨tg, it, ifs, 0⟩] scope pos) (eLC (own.map (·.2)) mi mg mt me) := by
  obtain ⟨wi, g1, tt, te, pi, pg, pt, pe, sl⟩ := lc_has hi hg htv ht he
  exact ⟨_, pe_lc xo.calm xo.nd pi ok (fun s H C cl fp => pg (s, H, C, cl, fp)) (fun s H C cl fp => pt (s, H, C, cl, fp)) (fun s H C cl fp => pe (s, H, C, cl, fp)) hs, sl⟩
end
end Sm
end

section
set_option Elab.async false
set_option linter.all false
set_option autoImplicit false
set_option maxRecDepth 100000
set_option maxHeartbeats 4000000
namespace Sm
open PySem L2
/-! ### statements -/
/-- what is wanted behind a statement, by how it ends -/
def WF (g : Gx) (c : Ct) (D : Ends) : Fl → Store → Prop
  | .nx e, S => ∀ c' σ', Ok g c' → Le c c' → RsE c' c → c'.S = S → EnvR c' e σ' → D.nx σ' c'.H
  | .bk e, S => ∀ c' σ', Ok g c' → Le c c' → RsE c' c → c'.S = S → EnvR c' e σ' → D.bk σ' c'.H
  | .ct e, S => ∀ c' σ', Ok g c' → Le c c' → RsE c' c → c'.S = S → EnvR c' e σ' → D.ct σ' c'.H
  | .rt d, S => ∀ c' v, Ok g c' → Le c c' → RsE c' c → c'.S = S → Rep c' d v → D.rt v c'.H
section
variable {g : Gx} {X : Cx} {E : XK} {En : Ends}
theorem WF.later {c c1 : Ct} (l : Le c c1) (r : RsE c1 c) : ∀ {f : Fl} {S : Store}, WF g c En f S → WF g c1 En f S
  | .nx _, _, h => fun c' σ' ok' l' r' s' er => h c' σ' ok' (l.trans l') (r'.trans r) s' er
  | .bk _, _, h => fun c' σ' ok' l' r' s' er => h c' σ' ok' (l.trans l') (r'.trans r) s' er
  | .ct _, _, h => fun c' σ' ok' l' r' s' er => h c' σ' ok' (l.trans l') (r'.trans r) s' er
  | .rt _, _, h => fun c' σ' ok' l' r' s' er => h c' σ' ok' (l.trans l') (r'.trans r) s' er
theorem postF_later {c c1 : Ct} (l : Le c c1) (r : RsE c1 c) : ∀ {o : Out Fl}, PostG g c1 E (WF g c En) o → PostG g c1 E (WF g c1 En) o
  | .ok _ _, h => WF.later l r h
  | .exc _ _, h => h
  | .bad, h => h
theorem postF_on {c c1 : Ct} (l : Le c c1) (r : RsE c1 c) {o : Out Fl} (h : PostG g c E (WF g c En) o) : PostG g c1 E (WF g c1 En) o := postF_later l r (PostG.later l r h)
def SS (g : Gx) (E : XK) (t : TS) (m : MS) : Prop := ∀ c σ e D, Ok g c → EnvR c e σ → PostG g c E (WF g c D) (m e c.S) → t D σ c.H
def ST (g : Gx) (X : Cx) (E : XK) (st : Stmt) (m : MS) : Prop := ∃ t, PS X st t ∧ SS g E t m
def SL (g : Gx) (X : Cx) (E : XK) (st : List Stmt) (m : MS) : Prop := ∃ t, PSs X st t ∧ SS g E t m
theorem sl_nil : SL g X E [] sNil := ⟨_, pss_nil, fun c σ e D ok er hp => hp c σ ok (Le.refl c) (RsE.refl c) rfl er⟩
theorem sl_one {a : Stmt} {m : MS} : ST g X E a m → SL g X E [a] m := fun ⟨t, pt, st⟩ => ⟨t, pss_one pt, st⟩
theorem sl_cons {a : Stmt} {r : List Stmt} {ma mr : MS} : ST g X E a ma → SL g X E r mr → SL g X E (a :: r) (sSeq ma mr) :=
  fun ⟨ta, pa, sa⟩ ⟨tb, pb, sb⟩ => ⟨_, pss_cons pa pb, fun c σ e D ok er hp => by
    show ta { D with nx := tb D } σ c.H
    refine sa c σ e _ ok er ?_
    have hp' : PostG g c E (WF g c D) ((ma e c.S).bind fun f S1 => match f with
      | .nx e1 => mr e1 S1
      | f => .ok f S1) := hp
    revert hp'
    cases ma e c.S with
    | bad => exact id
    | exc k S => exact id
    | ok f S =>
      cases f with
      | nx e1 => exact fun hp c' σ' ok' l' r' s' er' => sb c' σ' e1 D ok' er' (by rw [s']; exact postF_on l' r' hp)
      | bk e1 => exact id
      | ct e1 => exact id
      | rt e1 => exact id⟩
theorem st_pass {pos : Pos} : ST g X E (.Pass pos) sNil := ⟨_, ps_pass, fun c σ e D ok er hp => hp c σ ok (Le.refl c) (RsE.refl c) rfl er⟩
theorem st_doc {x : Str} {j pos pos' : _} : ST g X E (.Expr (.Constant (.str x) j pos) pos') sNil := ⟨_, ps_doc, fun c σ e D ok er hp => hp c σ ok (Le.refl c) (RsE.refl c) rfl er⟩
theorem st_break {pos : Pos} : ST g X E (.Break pos) sBrk := ⟨_, ps_break, fun c σ e D ok er hp => hp c σ ok (Le.refl c) (RsE.refl c) rfl er⟩
theorem st_cont {pos : Pos} : ST g X E (.Continue pos) sCt := ⟨_, ps_continue, fun c σ e D ok er hp => hp c σ ok (Le.refl c) (RsE.refl c) rfl er⟩
theorem st_expr {a : Expr} {m : ME} {pos : Pos} (hs : swapsWith a none pos.line X.env = pure false := by rfl) : ES g X E a m → ST g X E (.Expr a pos) (sExpr m) := fun ⟨ta, pa, sa⟩ => ⟨_, ps_expr pa hs, fun c σ e D ok er hp => by
  show ta σ c.H _
  exact bindE (R := WF g c D) sa ok er hp fun c1 d v ok1 l1 r1 rx hp1 => hp1 c1 σ ok1 l1 r1 rfl (er.mono l1)⟩
theorem st_ret {a : Expr} {m : ME} {pos : Pos} : ES g X E a m → ST g X E (.Return (some a) pos) (sRet m) := fun ⟨ta, pa, sa⟩ => ⟨_, ps_ret pa, fun c σ e D ok er hp => by
  show ta σ c.H _
  exact bindE (R := WF g c D) sa ok er hp fun c1 d v ok1 l1 r1 rx hp1 => hp1 c1 v ok1 l1 r1 rfl rx⟩
theorem st_retN {pos : Pos} : ST g X E (.Return none pos) sRetN := ⟨_, ps_retN, fun c σ e D ok er hp => hp c .non ok (Le.refl c) (RsE.refl c) rfl (rep_non.mpr rfl)⟩
theorem st_if {a : Expr} {p q : List Stmt} {mt : MB} {ma mb : MS} {pos : Pos} : BS g X E a mt → SL g X E p ma → SL g X E q mb → ST g X E (.If a p q pos) (sIf mt ma mb) :=
  fun ⟨tt, pt, st⟩ ⟨ta, pa, sa⟩ ⟨tb, pb, sb⟩ => ⟨_, ps_if pt pa pb, fun c σ e D ok er hp => by
    show tt σ c.H _
    refine bindB (R := WF g c D) st ok er hp fun c1 b ok1 l1 r1 hp1 => ?_
    cases b with
    | true => exact sa c1 σ e D ok1 (er.mono l1) (postF_later l1 r1 hp1)
    | false => exact sb c1 σ e D ok1 (er.mono l1) (postF_later l1 r1 hp1)⟩
theorem st_set (i : Nat) {x : Str} {a : Expr} {m : ME} {pos pos' : Pos} (xo : XO g X E) (hN : X.N[i]? = some x := by rfl) (hl : Loc X.env.scope x := by first | exact Or.inl rfl | exact Or.inr rfl) (hs : swapsWith a (some (.Name x pos')) pos.line X.env = pure false := by rfl)
    (hf : X.fn x = true ∨ X.env.scope.names.lookup x = some .local := by first | exact .inl rfl | exact .inr rfl | assumption) : ES g X E a m → ST g X E (.Assign [.Name x pos'] a pos) (sSet i m) := fun ⟨ta, pa, sa⟩ => ⟨_, ps_set xo.nd hN hl pa hs hf, fun c σ e D ok er hp => by
  show ta σ c.H _
  exact bindE (R := WF g c D) sa ok er hp fun c1 d v ok1 l1 r1 rx hp1 => hp1 c1 _ ok1 l1 r1 rfl (envR_set (er.mono l1) rx)⟩
theorem st_setLc (i : Nat) {y : Str} {py : Pos} {elt tg it : Expr} {ifs : List Expr} {scope : Scope} {own : List (Str × Nat)} {pos spos : Pos} {mi : MI} {mg : MG} {mt : MB} {me : ME} {tv : List Nat} (xo : XO g X E) (hi : IS g X E tg it mi) (ok : BlkOk X.N X.env.scope scope own)
    (hg : ∀ p, GS g (blkX X scope p) F0 tg mg tv) (htv : ∀ k, k ∈ tv → k ∈ own.map (·.2)) (ht : ∀ p, TS' g (blkX X scope p) F0 ifs mt) (he : ∀ p, ES g (blkX X scope p) F0 elt me)
    (hsw : swapsWith (.ListComp elt [⟨tg, it, ifs, 0⟩] scope pos) (some (.Name y py)) spos.line X.env = pure true) (hN : X.N[i]? = some y := by rfl) (hyl : X.env.scope.names.lookup y = some .local := by rfl) (hs : ∀ x, foldedSetIterable it X.env x = pure x := by intro _; rfl) :
    ST g X E (.Assign [.Name y py] (.ListComp elt [⟨tg, it, ifs, 0⟩] scope pos) spos) (sSet i (eLC (own.map (·.2)) mi mg mt me)) := by
  obtain ⟨wi, g1, tt, te, pi, pg, pt, pe, sl⟩ := lc_has hi hg htv ht he
  refine ⟨_, ps_setLc xo.calm xo.nd hN hyl hsw pi ok (fun s H C cl fp => pg (s, H, C, cl, fp)) (fun s H C cl fp => pt (s, H, C, cl, fp)) (fun s H C cl fp => pe (s, H, C, cl, fp)) hs, fun c σ e D ok er hp => ?_⟩
  show tLc wi g1 tt te (own.map (·.2)) σ c.H _
  exact bindE (R := WF g c D) sl ok er hp fun c1 d v ok1 l1 r1 rx hp1 => hp1 c1 _ ok1 l1 r1 rfl (envR_set (er.mono l1) rx)
theorem st_asg {tg a : Expr} {m : ME} {mg : MG} {tv : List Nat} {pos : Pos} (hs : swapsWithSole [tg] a pos.line X.env = pure false := by rfl) (hw : swappedStores [tg] a X.env = pure none := by rfl)
    (h1 : (assignEach [tg] X.env).map (·.2) = [assign tg X.env] := by rfl) : GS g X E tg mg tv → ES g X E a m → ST g X E (.Assign [tg] a pos) (sAsg mg m) := fun ⟨tg', pg, sg⟩ ⟨ta, pa, sa⟩ => ⟨_, ps_asg pa pg hs hw h1, fun c σ e D ok er hp => by
  show ta σ c.H _
  refine bindE (R := WF g c D) sa ok er hp fun c1 d v ok1 l1 r1 rx hp1 => ?_
  show tg' v σ c1.H D.nx
  refine sg c1 d v e σ _ ok1 rx (er.mono l1) ?_
  revert hp1
  cases mg d e c1.S with
  | bad => exact id
  | exc k S => exact id
  | ok e1 S => exact fun hp1 c2 σ2 ok2 l2 r2 s2 er2 _ _ => hp1 c2 σ2 ok2 (l1.trans l2) (r2.trans r1) s2 er2⟩
theorem rep3 {c : Ct} {a b d : D} {vs : List V} (h : RepL c [a, b, d] vs) : ∃ u v w, vs = [u, v, w] ∧ Rep c a u ∧ Rep c b v ∧ Rep c d w := by
  obtain ⟨u, q, rfl, h1, h2⟩ := repL_cons.mp h
  obtain ⟨v, w, rfl, h3, h4⟩ := rep2 h2
  exact ⟨u, v, w, rfl, h1, h3, h4⟩
theorem st_par (i j : Nat) {x y : Str} {a b : Expr} {m : MA} {px py pt pos : Pos} {kt k2 pt2} (xo : XO g X E) (hij : i ≠ j := by decide) (hi : X.N[i]? = some x := by rfl) (hj : X.N[j]? = some y := by rfl) (hx : X.env.scope.names.lookup x = some .local := by rfl) (hy : X.env.scope.names.lookup y = some .local := by rfl)
    (hw : swappedStores [.Tuple [.Name x px, .Name y py] kt pt] (.Tuple [a, b] k2 pt2) X.env = pure (some [x, y]) := by rfl)
    (hs : swapsWithSole [.Tuple [.Name x px, .Name y py] kt pt] (.Tuple [a, b] k2 pt2) pos.line X.env = pure false := by rfl) : AS g X E [a, b] m →
    ST g X E (.Assign [.Tuple [.Name x px, .Name y py] kt pt] (.Tuple [a, b] k2 pt2) pos) (sPar i j m) := fun ⟨ta, pa, sa, _⟩ => ⟨_, ps_par xo.calm xo.nd hi hj hij hx hy pa hw hs, fun c σ e D ok er hp => by
  show ta σ c.H _
  refine bindA (R := WF g c D) sa ok er hp fun c1 ds vs ok1 l1 r1 rx hp1 => ?_
  split at hp1
  · obtain ⟨v, w, rfl, h1, h2⟩ := rep2 rx
    exact ⟨v, w, rfl, hp1 c1 _ ok1 l1 r1 rfl (envR_set (envR_set (er.mono l1) h1) h2)⟩
  · exact hp1.elim⟩
theorem st_par3 (i j k : Nat) {x y z : Str} {a b d : Expr} {m : MA} {px py pz pt pos : Pos} {kt k2 pt2} (xo : XO g X E) (hij : i ≠ j := by decide) (hik : i ≠ k := by decide) (hjk : j ≠ k := by decide) (hi : X.N[i]? = some x := by rfl) (hj : X.N[j]? = some y := by rfl) (hk : X.N[k]? = some z := by rfl)
    (hx : X.env.scope.names.lookup x = some .local := by rfl) (hy : X.env.scope.names.lookup y = some .local := by rfl) (hz : X.env.scope.names.lookup z = some .local := by rfl)
    (hw : swappedStores [.Tuple [.Name x px, .Name y py, .Name z pz] kt pt] (.Tuple [a, b, d] k2 pt2) X.env = pure (some [x, y, z]) := by rfl)
    (hs : swapsWithSole [.Tuple [.Name x px, .Name y py, .Name z pz] kt pt] (.Tuple [a, b, d] k2 pt2) pos.line X.env = pure false := by rfl) : AS g X E [a, b, d] m →
    ST g X E (.Assign [.Tuple [.Name x px, .Name y py, .Name z pz] kt pt] (.Tuple [a, b, d] k2 pt2) pos) (sPar3 i j k m) := fun ⟨ta, pa, sa, _⟩ => ⟨_, ps_par3 xo.calm xo.nd hi hj hk hij hik hjk hx hy hz pa hw hs, fun c σ e D ok er hp => by
  show ta σ c.H _
  refine bindA (R := WF g c D) sa ok er hp fun c1 ds vs ok1 l1 r1 rx hp1 => ?_
  split at hp1
  · obtain ⟨u, v, w, rfl, h1, h2, h3⟩ := rep3 rx
    exact ⟨u, v, w, rfl, hp1 c1 _ ok1 l1 r1 rfl (envR_set (envR_set (envR_set (er.mono l1) h1) h2) h3)⟩
  · exact hp1.elim⟩
/-- name op= e -/
theorem sr_iadd : SR g (ipI fun i j => i + j) iAdd := fun c x y v u Q z ok rx ry e q => by
  cases x <;> first | (cases e; done) | skip
  cases y <;> first | (cases e; done) | skip
  cases e
  exact ⟨_, _, rep_int.mp rx, rep_int.mp ry, we_int ok q⟩
theorem sr_isub : SR g (ipI fun i j => i - j) iSub := fun c x y v u Q z ok rx ry e q => by
  cases x <;> first | (cases e; done) | skip
  cases y <;> first | (cases e; done) | skip
  cases e
  exact ⟨_, _, rep_int.mp rx, rep_int.mp ry, we_int ok q⟩
theorem st_aug (i : Nat) {x : Str} {a : Expr} {m : ME} {op : Operator} {ti : TIp} {f : Store → D → D → Option D} {pos pos' : Pos} (xo : XO g X E) (ho : PIp X op ti) (hr : SR g ti f) (hN : X.N[i]? = some x := by rfl) (hl : Loc X.env.scope x := by first | exact Or.inl rfl | exact Or.inr rfl)
    (hf : X.fn x = true ∨ X.env.scope.names.lookup x = some .local := by first | exact .inl rfl | exact .inr rfl | assumption) : ES g X E a m → ST g X E (.AugAssign (.Name x pos') op a pos) (sAug f i m) := fun ⟨ta, pa, sa⟩ => ⟨_, ps_aug xo.nd hN hl pa ho hf, fun c σ e D ok er hp => by
  have hp' : PostG g c E (WF g c D) (match e[i]? with
    | some (some x) => (m e c.S).bind fun y S1 => match f S1 x y with
      | some z => .ok (.nx (e.set i (some z))) S1
      | none => .bad
    | _ => .bad) := hp
  split at hp'
  · rename_i d hd
    obtain ⟨v, h1, h2⟩ := er.2 i d hd
    refine ⟨v, h1, ?_⟩
    show ta σ c.H _
    refine bindE (R := WF g c D) sa ok er hp' fun c1 y u ok1 l1 r1 ry hp1 => ?_
    split at hp1
    · rename_i z hz
      exact hr c1 d y v u _ z ok1 (Rep.mono l1 _ _ h2) ry hz fun c2 w ok2 l2 r2 s2 rw2 => hp1 c2 _ ok2 (l1.trans l2) (r2.trans r1) s2 (envR_set (er.mono (l1.trans l2)) rw2)
    · exact hp1.elim
  · exact hp'.elim⟩
/-! ### fields -/
theorem put_ins {c : Ct} (ok : Ok g c) {r k i : Nat} {fs : List (Nat × D)} {dx : Addr} {us : List (Str × V)} {d : D} {v : V} (hl : c.live r) (hS : c.S[r]? = some (.ins k fs)) (hH : c.H (c.ι r) = some (.ins (g.cl k) dx us)) (hF : RepF g c fs us) (hd : Rep c d v) :
    ∃ c', Ok g c' ∧ Le c c' ∧ RsE c' c ∧ c'.S = c.S.set r (.ins k (putF i d fs)) ∧ c'.H = upd c.H (c.ι r) (.ins (g.cl k) dx (L2.putF (g.fn i) v us)) := by
  have nl : ∀ x, c.S[r]? ≠ some (.lck x) := fun x z => by rw [hS] at z; cases z
  have l : Le c (c.put r (.ins k (putF i d fs)) (.ins (g.cl k) dx (L2.putF (g.fn i) v us))) := Le.put hl nl (fun ob u z => by rw [hH] at z; cases z)
  exact ⟨c.put r (.ins k (putF i d fs)) (.ins (g.cl k) dx (L2.putF (g.fn i) v us)), ok.put (o := .ins k (putF i d fs)) (u := .ins (g.cl k) dx (L2.putF (g.fn i) v us)) hl nl hH (fun ps z => by cases z) (fun q z => by cases z) ⟨dx, _, upd_same, RepF.monoW l.toLw _ _ (repF_put hd hF)⟩, l, RsE.put ok hl, rfl, rfl⟩
theorem st_fld (i : Nat) {o a : Expr} {n : Str} {mo m : ME} {pos pos' : Pos} (hn : n = g.fn i) (hc : ∀ k, Cls X.K (g.cl k) ∧ NoAttr X.K (g.cl k) n) (hs : swapsWith a (some (.Attribute o n pos')) pos.line X.env = pure false := by rfl) :
    ES g X E o mo → ES g X E a m → ST g X E (.Assign [.Attribute o n pos'] a pos) (sFld i mo m) := fun ⟨to, po, so⟩ ⟨ta, pa, sa⟩ => ⟨_, ps_fld po pa hs, fun c σ e D ok er hp => by
  show ta σ c.H _
  refine bindE (R := WF g c D) sa ok er hp fun c1 y u ok1 l1 r1 ry hp1 => ?_
  show to σ c1.H _
  refine bindE (R := WF g c D) so ok1 (er.mono l1) hp1 fun c2 x v ok2 l2 r2 rx hp2 => ?_
  split at hp2
  · rename_i r k fs h
    by_cases hlen : fs.length < 1000
    · rw [if_pos hlen] at hp2
      obtain ⟨_, hl, hS, rfl, dx, us, h1, h2⟩ := insAt_of ok2 rx h
      obtain ⟨c3, ok3, l3, r3, s3, h3⟩ := put_ins (i := i) ok2 hl hS h1 h2 (Rep.mono l2 _ _ ry)
      refine ⟨c2.ι r, g.cl k, dx, us, rfl, h1, (hc k).1, (hc k).2, by rw [repF_len h2]; exact hlen, ?_⟩
      rw [hn, ← h3]
      exact hp2 c3 σ ok3 (l1.trans (l2.trans l3)) (r3.trans (r2.trans r1)) s3 (er.mono (l1.trans (l2.trans l3)))
    · rw [if_neg hlen] at hp2; exact hp2.elim
  · exact hp2.elim⟩
theorem sr_radd : SR g rAdd iAdd := sr_iadd
theorem sr_rsub : SR g rSub iSub := sr_isub
theorem st_fldaug (i : Nat) {o a : Expr} {n : Str} {mo m : ME} {op : Operator} {rd : V → V → Hp → VK → Prop} {f : Store → D → D → Option D} {pos tpos : Pos} (hop : InOp X op rd) (hr : SR g rd f) (hn : n = g.fn i) (hc : ∀ k, Cls X.K (g.cl k) ∧ NoAttr X.K (g.cl k) n) :
    ES g X E o mo → ES g X E a m → ST g X E (.AugAssign (.Attribute o n tpos) op a pos) (sFldAug f i mo m) := fun ⟨to, po, so⟩ ⟨ta, pa, sa⟩ => ⟨_, ps_fldaug po pa hop, fun c σ e D ok er hp => by
  show to σ c.H _
  refine bindE (R := WF g c D) so ok er hp fun c1 x v ok1 l1 r1 rx hp1 => ?_
  split at hp1
  · rename_i r0 k0 fs0 h
    obtain ⟨_, hl, hS, rfl, dx, us, h1, h2⟩ := insAt_of ok1 rx h
    split at hp1
    · rename_i d hd
      obtain ⟨w, h3, h4⟩ := repF_look h2 hd
      refine ⟨c1.ι r0, g.cl k0, dx, us, w, rfl, h1, (hc k0).1, (hc k0).2, by rw [hn]; exact h3, ?_⟩
      show ta σ c1.H _
      refine bindE (R := WF g c D) sa ok1 (er.mono l1) hp1 fun c2 y u ok2 l2 r2 ry hp2 => ?_
      split at hp2
      · rename_i z hz
        have rx2 := Rep.mono l2 _ _ rx
        cases h' : insAt c2.S x with
        | none => simp only [h'] at hp2; exact hp2.elim
        | some p =>
          obtain ⟨r, k, fs⟩ := p
          simp only [h'] at hp2
          by_cases hlen : k = k0 ∧ fs.length < 1000
          · rw [if_pos hlen] at hp2
            obtain ⟨hk, hlen⟩ := hlen
            subst hk
            refine hr c2 d y w u _ z ok2 (Rep.mono l2 _ _ h4) ry hz fun c3 t ok3 l3 r3 s3 rt => ?_
            have rx3 := Rep.mono l3 _ _ rx2
            have h'3 : insAt c3.S x = some (r, k, fs) := by rw [s3]; exact h'
            obtain ⟨_, hl2, hS2, e2, dx2, us2, h12, h22⟩ := insAt_of ok3 rx3 h'3
            have e3 : c1.ι r0 = c3.ι r := V.ref.inj e2
            obtain ⟨c4, ok4, l4, r4, s4, h44⟩ := put_ins (i := i) ok3 hl2 hS2 h12 h22 rt
            refine ⟨dx2, us2, by rw [e3]; exact h12, by rw [repF_len h22]; exact hlen, ?_⟩
            rw [hn, e3, ← h44]
            exact hp2 c4 σ ok4 (l1.trans (l2.trans (l3.trans l4))) (r4.trans (r3.trans (r2.trans r1))) (by rw [s4, s3]) (er.mono (l1.trans (l2.trans (l3.trans l4))))
          · rw [if_neg hlen] at hp2; exact hp2.elim
      · exact hp2.elim
    · exact hp1.elim
  · exact hp1.elim⟩
/-! ### lists of the store -/
theorem lstAt_of {c : Ct} (ok : Ok g c) {x : D} {v : V} {r : Nat} {xs : List D} (rx : Rep c x v) (e : lstAt c.S x = some (r, xs)) :
    x = .obj r ∧ c.live r ∧ c.S[r]? = some (.lst xs) ∧ v = .ref (c.ι r) ∧ ∃ vs, c.H (c.ι r) = some (.lst vs) ∧ RepL c xs vs := by
  cases x <;> first | (simp [lstAt] at e; done) | skip
  rename_i j
  unfold lstAt at e
  dsimp only at e
  cases h : c.S[j]? with
  | none => simp only [h] at e; cases e
  | some o =>
    cases o <;> first | (simp only [h] at e; cases e; done) | skip
    simp only [h] at e
    cases e
    have hl := live_of h (by intro z; cases z)
    exact ⟨rfl, hl, h, (rep_obj.mp rx).2 hl, ok.at_ _ _ h⟩
theorem put_lst {c : Ct} (ok : Ok g c) {r : Nat} {xs ys : List D} {vs ws : List V} (hl : c.live r) (hS : c.S[r]? = some (.lst xs)) (hH : c.H (c.ι r) = some (.lst vs)) (hF : RepL c ys ws) :
    ∃ c', Ok g c' ∧ Le c c' ∧ RsE c' c ∧ c'.S = c.S.set r (.lst ys) ∧ c'.H = upd c.H (c.ι r) (.lst ws) := by
  have nl : ∀ x, c.S[r]? ≠ some (.lck x) := fun x z => by rw [hS] at z; cases z
  have l : Le c (c.put r (.lst ys) (.lst ws)) := Le.put hl nl (fun ob u z => by rw [hH] at z; cases z)
  exact ⟨c.put r (.lst ys) (.lst ws), ok.put (o := .lst ys) (u := .lst ws) hl nl hH (fun ps z => by cases z) (fun q z => by cases z) ⟨_, upd_same, RepL.monoW l.toLw _ _ hF⟩, l, RsE.put ok hl, rfl, rfl⟩
theorem es_append {o a : Expr} {mo m : ME} {apos cpos : Pos} (hbase : attributeBase o "append" X.env (eval o X.env) = eval o X.env := by rfl)
    (hfew : ((backTo cpos (starEach [a] X.env)).all (fun x => !x.1) && (backToKw cpos (keywordEach [] X.env)).all (fun x => x.1.isSome)
      && decide (([a] : List Expr).length + ([] : List Keyword).length + (if ([] : List Keyword).isEmpty then 0 else 1) < 30)) = true := by rfl)
    (hline : (apos.endLine == cpos.line) = true := by rfl) (hs : starEach [a] X.env = (false, eval a X.env) :: starEach [] X.env := by rfl) (hpl : (backTo cpos (starEach [] X.env)).any (·.1) = false := by rfl) :
    ES g X E o mo → ES g X E a m → ES g X E (.Call (.Attribute o "append" apos) [a] [] cpos) (eAppend mo m) := fun ⟨to, po, so⟩ ⟨ta, pa, sa⟩ => by
  refine ⟨_, pe_bm PySem.F.plainAttrs_list PySem.F.slot_list_append PySem.F.type_list_append mt_append po (pa_cons pa pa_nil hs) hbase hfew hline hs hpl, fun c σ e Q ok er hp => ?_⟩
  show to σ c.H _
  refine bindE (R := WE g c Q) so ok er hp fun c1 x v ok1 l1 r1 rx hp1 => ?_
  split at hp1
  · rename_i p0 h0
    obtain ⟨r0, xs0⟩ := p0
    obtain ⟨e0, _, _, rfl, vs0, h1, _⟩ := lstAt_of ok1 rx h0
    refine ⟨.inl ⟨rfl, _, SqL.of h1⟩, ?_⟩
    show ta σ c1.H _
    refine bindE (R := WE g c Q) sa ok1 (er.mono l1) hp1 fun c2 y w ok2 l2 r2 ry hp2 => ?_
    have rx2 := Rep.mono l2 _ _ rx
    split at hp2
    · rename_i r xs h
      by_cases hlen : xs.length < 100000
      · rw [if_pos hlen] at hp2
        obtain ⟨_, hl, hS, e2, vs, h3, h4⟩ := lstAt_of ok2 rx2 h
        obtain ⟨c3, ok3, l3, r3, s3, h5⟩ := put_lst ok2 hl hS h3 (repL_app h4 (repL_one ry))
        refine ⟨c2.ι r, vs, w, e2, rfl, h3, by rw [sizeLine_eq, repL_len h4]; omega, ?_⟩
        rw [← h5]
        exact hp2 c3 .non ok3 (l1.trans (l2.trans l3)) (r3.trans (r2.trans r1)) s3 (rep_non.mpr rfl)
      · rw [if_neg hlen] at hp2; exact hp2.elim
    · exact hp2.elim
  · exact hp1.elim
theorem st_raise {a : Expr} {k : Nat} {pos : Pos} (xo : XO g X E) (hm : PMk X a fun _ H Q => Q (.ref (g.ex k)) none H) : ST g X E (.Raise (some a) none pos) (sRaise k) :=
  ⟨_, ps_raise xo.calm xo.take hm, fun c σ e D ok er hp => hp c ok (Le.refl c) (RsE.refl c) rfl⟩
theorem st_raise1 {a : Expr} {n : Str} {k : Nat} {m : ME} {C : Addr} {bmB : List Value} {B newId initId : String} {p pos rpos : Pos} (xo : XO g X E) (hC : C = g.ex k) (F : ExcBaseFacts B newId initId bmB) (q : PySem.W.excIn X.K C bmB newId = true) (gC : X.mg n = some (.ref C)) (kC : PySem.W.keepIn X.K (.ref C) = true) (r : Raises X (.ref C)) (hg : Gl X n := by rfl)
    (hs : starEach [a] X.env = (false, eval a X.env) :: starEach [] X.env := by rfl) (hdb : (n == ("__debug__" : Str)) = false := by decide) : ES g X E a m → ST g X E (.Raise (some (.Call (.Name n p) [a] [] pos)) none rpos) (sRaise1 k m) :=
  fun ⟨ta, pa, sa⟩ => ⟨_, ps_raise xo.calm xo.take (SkE.pmk_own1 F q gC kC r hg pa hs hdb), fun c σ e D ok er hp => by
    subst hC
    show ta σ c.H _
    exact bindE (R := WF g c D) sa ok er hp fun c1 d v ok1 l1 r1 rx hp1 => hp1 c1 ok1 (Le.refl _) (RsE.refl _) rfl⟩
/-- o[i] = v -/
theorem st_sub {o i a : Expr} {mo mi m : ME} {spos pos : Pos} (ha : ∀ v, assign (.Subscript o i spos) X.env v = (do
      let ov ← holding [v] (eval o X.env)
      let iv ← holding [v, ov] (eval i X.env)
      standAt spos
      holding [v, ov, iv] (setItem ov iv v)
      release [v, ov, iv] []) := by intro _; rfl)
    (hs : swapsWithSole [.Subscript o i spos] a pos.line X.env = pure false := by rfl) (hw : swappedStores [.Subscript o i spos] a X.env = pure none := by rfl)
    (h1 : (assignEach [.Subscript o i spos] X.env).map (·.2) = [assign (.Subscript o i spos) X.env] := by rfl) :
    ES g X E o mo → ES g X E i mi → ES g X E a m → ST g X E (.Assign [.Subscript o i spos] a pos) (sSub mo mi m) := fun ⟨to, po, so⟩ ⟨ti, pi, si⟩ ⟨ta, pa, sa⟩ =>
  ⟨_, ps_asg pa (pg_sub po pi set_list ha) hs hw h1, fun c σ e D ok er hp => by
    show ta σ c.H _
    refine bindE (R := WF g c D) sa ok er hp fun c1 y u ok1 l1 r1 ry hp1 => ?_
    show to σ c1.H _
    refine bindE (R := WF g c D) so ok1 (er.mono l1) hp1 fun c2 x v ok2 l2 r2 rx hp2 => ?_
    show ti σ c2.H _
    refine bindE (R := WF g c D) si ok2 (er.mono (l1.trans l2)) hp2 fun c3 k w ok3 l3 r3 rk hp3 => ?_
    split at hp3
    · rename_i r xs h
      obtain ⟨_, hl, hS, e2, vs, h3, h4⟩ := lstAt_of ok3 (Rep.mono l3 _ _ rx) h
      split at hp3
      · rename_i z
        split at hp3
        · rename_i j hj
          obtain ⟨c4, ok4, l4, r4, s4, h5⟩ := put_lst ok3 hl hS h3 (repL_set (Rep.mono (l2.trans l3) _ _ ry) j h4)
          refine ⟨c3.ι r, vs, z, j, e2, rep_int.mp rk, h3, by rw [ixZ_eq, repL_len h4]; exact hj, ?_⟩
          rw [← h5]
          exact hp3 c4 σ ok4 (l1.trans (l2.trans (l3.trans l4))) (r4.trans (r3.trans (r2.trans r1))) s4 (er.mono (l1.trans (l2.trans (l3.trans l4))))
        · exact hp3.elim
      · exact hp3.elim
    · exact hp3.elim⟩
/-! ### loops -/
theorem EnvR.monoW {c c' : Ct} (l : Lw c c') {e : Env} {σ : L2.St} (h : EnvR c e σ) : EnvR c' e σ := ⟨h.1, fun i d q => by
  obtain ⟨v, a, b⟩ := h.2 i d q
  exact ⟨v, a, Rep.monoW l _ _ b⟩⟩
structure FoI (g : Gx) (E : XK) (c0 c1 : Ct) (D : Ends) (good : Ct → Prop) (lk : Option Nat) (mg : MG) (mb : MS) (xs : List Sm.D) (i m : Nat) (σ : L2.St) (H : Hp) : Prop where
  ex : ∃ c e, m = xs.length - i ∧ i ≤ xs.length ∧ c.H = H ∧ Ok g c ∧ Le c1 c ∧ RsE c c1 ∧ good c ∧ EnvR c e σ ∧ PostG g c1 E (WF g c0 D) (forL lk mg mb (xs.drop i) e c.S)
theorem st_for {tg it : Expr} {body : List Stmt} {mi : MI} {mg : MG} {mb : MS} {tv : List Nat} {pos : Pos} (xo : XO g X E) (hp : PassesOwn (model X.prog X.w) X.A X.env X.xe) (hs : ∀ x, foldedSetIterable it X.env x = pure x := by intro _; rfl) :
    IS g X E tg it mi → GS g X E tg mg tv → SL g X E body mb → ST g X E (.For tg it body [] pos) (sFor mi mg mb) := fun ⟨wi, pi, si⟩ ⟨g1, pg, sg⟩ ⟨tb, pb, sb⟩ => ⟨_, ps_for hp xo.calm pi pg pb hs, fun c σ e D okc er hp => by
  show wi σ c.H _
  refine si c σ e _ okc er ?_
  have hp' : PostG g c E (WF g c D) ((mi e c.S).bind fun p S1 => forL p.2 mg mb p.1 e S1) := hp
  revert hp'
  cases mi e c.S with
  | bad => exact id
  | exc k S => exact id
  | ok p S =>
    intro hp' c1 J good ok1 l1 r1 s1 jw gd hlk
    have hp1 : PostG g c E (WF g c D) (forL p.2 mg mb p.1 e S) := hp'
    rw [← s1] at hp1
    have hn0 : ∀ r, p.2 = some r → ∀ x, c.S[r]? ≠ some (.lck x) := fun r hr x => by
      obtain ⟨o, _, hx⟩ := hlk r hr
      exact hx x
    have hlk1 : ∀ {c2 : Ct}, Le c1 c2 → ∀ r, p.2 = some r → ∃ o, c2.S[r]? = some (.lck (.lst o)) := fun l2 r hr => by
      obtain ⟨o, ho, _⟩ := hlk r hr
      exact ⟨o, l2.lkd r _ ho⟩
    -- the end of a walk: the lock is undone
    have endN : ∀ {c2 : Ct} {e2 : Sm.Env} {σ2 : L2.St} {S2 : Store}, Ok g c2 → Le c1 c2 → RsE c2 c1 → c2.S = S2 → EnvR c2 e2 σ2 → WF g c D (.nx e2) (unlockAt S2 p.2) → D.nx σ2 c2.H := fun {c2 e2 σ2 S2} ok2 l2 r2 s2 er2 h =>
      h (c2.unlk p.2) σ2 (unlk_ok ok2 (hlk1 l2)) (unlk_le (l1.trans l2) (hlk1 l2) hn0) ⟨r2.eq.trans r1.eq, fun a ha => (r2.kp a (by rw [r1.eq]; exact ha)).trans (r1.kp a ha)⟩ (by rw [← s2]; rfl) (er2.monoW (unlk_w (hlk1 l2)))
    have endR : ∀ {c2 : Ct} {d : Sm.D} {v : V} {S2 : Store}, Ok g c2 → Le c1 c2 → RsE c2 c1 → c2.S = S2 → Rep c2 d v → WF g c D (.rt d) (unlockAt S2 p.2) → D.rt v c2.H := fun {c2 d v S2} ok2 l2 r2 s2 rv h =>
      h (c2.unlk p.2) v (unlk_ok ok2 (hlk1 l2)) (unlk_le (l1.trans l2) (hlk1 l2) hn0) ⟨r2.eq.trans r1.eq, fun a ha => (r2.kp a (by rw [r1.eq]; exact ha)).trans (r1.kp a ha)⟩ (by rw [← s2]; rfl) (Rep.monoW (unlk_w (hlk1 l2)) _ _ rv)
    refine ⟨FoI g E c c1 D good p.2 mg mb p.1, ⟨p.1.length, ⟨c1, e, by simp, Nat.zero_le _, rfl, ok1, Le.refl _, RsE.refl _, gd, er.mono l1, by rw [List.drop_zero]; exact PostG.later l1 r1 hp1⟩⟩, ?_⟩
    rintro i m σ2 H ⟨c2, e2, rfl, hil, rfl, ok2, l2, r2, gd2, er2, hp2⟩
    by_cases hlt : i < p.1.length
    · obtain ⟨x, hx⟩ : ∃ x, p.1[i]? = some x := ⟨p.1[i], List.getElem?_eq_getElem hlt⟩
      have hdrop : p.1.drop i = x :: p.1.drop (i + 1) := by
        rw [List.drop_eq_getElem_cons hlt]
        rw [List.getElem?_eq_getElem hlt] at hx
        rw [Option.some.inj hx]
      rw [hdrop] at hp2
      refine .inr ⟨jw.go c2 i x hx ok2 gd2, FoI g E c c1 D good p.2 mg mb p.1 (i + 1) (p.1.length - (i + 1)), fun σ' H' hH => ⟨p.1.length - (i + 1), by omega, hH⟩, fun v H' hy => ?_⟩
      obtain ⟨c3, ok3, l3, r3, s3, rfl, rv⟩ := jw.yld c2 i x v H' hx ok2 gd2 hy
      show g1 v σ2 c3.H _
      refine sg c3 x v e2 σ2 _ ok3 rv (er2.mono l3) ?_
      rw [s3]
      have hp3 : PostG g c1 E (WF g c D) ((mg x e2 c2.S).bind fun e1 S1 => match mb e1 S1 with
        | .ok (.nx e2) S2 => forL p.2 mg mb (p.1.drop (i + 1)) e2 S2
        | .ok (.ct e2) S2 => forL p.2 mg mb (p.1.drop (i + 1)) e2 S2
        | .ok (.bk e2) S2 => .ok (.nx e2) (unlockAt S2 p.2)
        | .ok (.rt d) S2 => .ok (.rt d) (unlockAt S2 p.2)
        | r => r) := hp2
      have l13 := l2.trans l3
      have r13 := r3.trans r2
      revert hp3
      cases mg x e2 c2.S with
      | bad => exact id
      | exc k S => exact fun hp3 => PostG.later (R := WF g c D) (o := .exc k S) l13 r13 hp3
      | ok e3 S3 =>
        intro hp3 c4 σ4 ok4 l4 r4 s4 er4 _ _
        have l14 := l13.trans l4
        have r14 := r4.trans r13
        show tb _ σ4 c4.H
        refine sb c4 σ4 e3 _ ok4 er4 ?_
        rw [s4]
        have hp4 : PostG g c1 E (WF g c D) (match mb e3 S3 with
          | .ok (.nx e2) S2 => forL p.2 mg mb (p.1.drop (i + 1)) e2 S2
          | .ok (.ct e2) S2 => forL p.2 mg mb (p.1.drop (i + 1)) e2 S2
          | .ok (.bk e2) S2 => .ok (.nx e2) (unlockAt S2 p.2)
          | .ok (.rt d) S2 => .ok (.rt d) (unlockAt S2 p.2)
          | r => r) := hp3
        revert hp4
        cases mb e3 S3 with
        | bad => exact id
        | exc k S => exact fun hp3 => PostG.later (R := WF g c D) (o := .exc k S) l14 r14 hp3
        | ok f S =>
          cases f with
          | nx e5 => exact fun hp4 c5 σ5 ok5 l5 r5 s5 er5 => ⟨c5, e5, rfl, hlt, rfl, ok5, l14.trans l5, r5.trans r14, jw.mono _ _ gd2 (l3.trans (l4.trans l5)), er5, by rw [s5]; exact hp4⟩
          | ct e5 => exact fun hp4 c5 σ5 ok5 l5 r5 s5 er5 => ⟨c5, e5, rfl, hlt, rfl, ok5, l14.trans l5, r5.trans r14, jw.mono _ _ gd2 (l3.trans (l4.trans l5)), er5, by rw [s5]; exact hp4⟩
          | bk e5 => exact fun hp4 c5 σ5 ok5 l5 r5 s5 er5 => endN ok5 (l14.trans l5) (r5.trans r14) s5 er5 hp4
          | rt d5 => exact fun hp4 c5 σ5 ok5 l5 r5 s5 er5 => endR ok5 (l14.trans l5) (r5.trans r14) s5 er5 hp4
    · have hi2 : i = p.1.length := by omega
      subst hi2
      rw [List.drop_length] at hp2
      exact .inl ⟨jw.stop c2 ok2 gd2, endN ok2 l2 r2 rfl er2 hp2⟩⟩
structure WhI (g : Gx) (E : XK) (c0 : Ct) (D : Ends) (mt : MB) (mb : MS) (m : Nat) (σ : L2.St) (H : Hp) : Prop where
  ex : ∃ c e, c.H = H ∧ Ok g c ∧ Le c0 c ∧ RsE c c0 ∧ EnvR c e σ ∧ PostG g c E (WF g c0 D) (sWhile mt mb m e c.S)
theorem st_while {a : Expr} {body : List Stmt} {mt : MB} {mb : MS} {n : Nat} {pos : Pos} (hp : PassesOwn (model X.prog X.w) X.A X.env X.xe) : BS g X E a mt → SL g X E body mb → ST g X E (.While a body [] pos) (sWhile mt mb n) := fun ⟨tt, pt, st⟩ ⟨tb, pb, sb⟩ => ⟨_, ps_while hp pt pb, fun c σ e D okc er hp => by
  refine ⟨WhI g E c D mt mb, ⟨n, ⟨c, e, rfl, okc, Le.refl c, RsE.refl c, er, hp⟩⟩, ?_⟩
  rintro m σ1 H ⟨c1, e1, rfl, ok1, l1, r1, er1, hp1⟩
  cases m with
  | zero => exact hp1.elim
  | succ m =>
    show tt σ1 c1.H _
    refine bindB (R := WF g c D) st ok1 er1 hp1 fun c2 b ok2 l2 r2 hp2 => ?_
    have l02 := l1.trans l2
    have r02 := r2.trans r1
    cases b with
    | false =>
      rw [if_neg (by decide)]
      exact hp2 c2 σ1 ok2 l02 r02 rfl (er1.mono l2)
    | true =>
      rw [if_pos rfl]
      refine ⟨WhI g E c D mt mb m, fun σ' H' h => ⟨m, Nat.lt_succ_self m, h⟩, ?_⟩
      refine sb c2 σ1 e1 _ ok2 (er1.mono l2) ?_
      have hp3 : PostG g c2 E (WF g c D) (match mb e1 c2.S with
        | .ok (.nx e2) S2 => sWhile mt mb m e2 S2
        | .ok (.ct e2) S2 => sWhile mt mb m e2 S2
        | .ok (.bk e2) S2 => .ok (.nx e2) S2
        | r => r) := hp2
      revert hp3
      cases mb e1 c2.S with
      | bad => exact id
      | exc k S => exact id
      | ok f S =>
        cases f with
        | nx e5 => exact fun hp4 c5 σ5 ok5 l5 r5 s5 er5 => ⟨c5, e5, rfl, ok5, l02.trans l5, r5.trans r02, er5, by rw [s5]; exact PostG.later l5 r5 hp4⟩
        | ct e5 => exact fun hp4 c5 σ5 ok5 l5 r5 s5 er5 => ⟨c5, e5, rfl, ok5, l02.trans l5, r5.trans r02, er5, by rw [s5]; exact PostG.later l5 r5 hp4⟩
        | bk e5 => exact fun hp4 c5 σ5 ok5 l5 r5 s5 er5 => hp4 c5 σ5 ok5 (l02.trans l5) (r5.trans r02) s5 er5
        | rt d5 => exact fun hp4 c5 σ5 ok5 l5 r5 s5 er5 => hp4 c5 σ5 ok5 (l02.trans l5) (r5.trans r02) s5 er5⟩
/-! ### a fresh list, laid into the store -/
theorem own_new {c : Ct} (ok : Ok g c) {p : Addr} {ds : List Sm.D} {vs : List V} (hp : c.H p = none) (r : RepL c ds vs) :
    ∃ c', Ok g c' ∧ Le c c' ∧ RsE c' c ∧ c'.S = c.S ++ [.lst ds] ∧ c'.H = upd c.H p (.lst vs) ∧ Rep c' (.obj c.S.length) (.ref p) := by
  have ok1 := ok.newR (o := .lst vs) hp
  have l1 := Le.newR (c := c) (o := .lst vs) hp
  refine ⟨_, ok1.own (p := p) (l := c.rs) (o := .lst ds) rfl (ok.notR hp) ⟨vs, upd_same, RepL.mono l1 _ _ r⟩, l1.trans (Le.own rfl), ⟨rfl, fun a h => ?_⟩, rfl, rfl, rep_obj.mpr ⟨by simp [Ct.own], fun _ => ?_⟩⟩
  · obtain ⟨y, e⟩ : ∃ y, c.H a = some y := (ok.rsh a h).elim fun y z => ⟨y, z.1⟩
    show upd c.H p (.lst vs) a = _
    rw [upd_ne (ne_of_none e hp)]
  show V.ref p = V.ref (addI _ p c.S.length)
  rw [show addI ({ ι := c.ι, S := c.S, H := upd c.H p (.lst vs), rs := p :: c.rs } : Ct) p c.S.length = p from addI_eq]
theorem we_own {c : Ct} {Q : VK} (ok : Ok g c) {ds : List Sm.D} {vs : List V} (r : RepL c ds vs) (h : WE g c Q (.obj c.S.length) (c.S ++ [.lst ds])) : ∀ p, c.H p = none → Q (.ref p) (upd c.H p (.lst vs)) := fun p hp => by
  obtain ⟨c2, ok2, l2, r2, s2, h2, rp⟩ := own_new ok hp r
  rw [← h2]
  exact h c2 _ ok2 l2 r2 s2 rp
theorem es_newL {es : List Expr} {m : MA} {pos : Pos} : AS g X E es m → ES g X E (.List es pos) (eNew (oLst m)) := fun ⟨ta, pa, sa, _⟩ => ⟨_, pe_lst pa, fun c σ e Q ok er hp => by
  show ta σ c.H _
  have hp' : PostG g c E (WE g c Q) ((m e c.S).bind fun xs S1 => if xs.length ≤ 1000 then .ok (.obj S1.length) (S1 ++ [.lst xs]) else .bad) := by
    have h0 : PostG g c E (WE g c Q) (((m e c.S).bind fun xs S1 => if xs.length ≤ 1000 then Out.ok (Ob.lst xs) S1 else .bad).bind fun o S1 => .ok (.obj S1.length) (S1 ++ [o])) := hp
    revert h0
    cases m e c.S with
    | bad => exact id
    | exc k S => exact id
    | ok xs S =>
      show PostG g c E (WE g c Q) ((if xs.length ≤ 1000 then Out.ok (Ob.lst xs) S else .bad).bind fun o S1 => .ok (.obj S1.length) (S1 ++ [o])) → PostG g c E (WE g c Q) (if xs.length ≤ 1000 then .ok (.obj S.length) (S ++ [.lst xs]) else .bad)
      by_cases hl : xs.length ≤ 1000
      · rw [if_pos hl, if_pos hl]; exact id
      · rw [if_neg hl, if_neg hl]; exact id
  refine bindA (R := WE g c Q) sa ok er hp' fun c1 xs vs ok1 l1 r1 rx hp1 => ?_
  split at hp1
  · rename_i hb
    exact ⟨by rw [repL_len rx]; exact sz3 hb, we_own ok1 rx (WE.later l1 r1 hp1)⟩
  · exact hp1.elim⟩
end
end Sm
end

section
set_option Elab.async false
set_option linter.all false
set_option autoImplicit false
set_option maxRecDepth 100000
set_option maxHeartbeats 4000000
namespace Sm
open PySem L2
/-! ### contexts -/
theorem units_of {k : Nat} {A : Around} (hr : Room k A) : A.units + 100 < cLine := by have := hr.un; omega
theorem takesN {X : Cx} : Takes X fun cls d _ H' => F0 cls d H' := LamX.takes0
/-- a block of X -/
theorem XO.blk {g : Gx} {X : Cx} {E : XK} (x : XO g X E) {scope : Scope} {p : Shared × Hp × Addr × List (Str × Addr) × List Addr} : XO g (blkX X scope p) F0 := ⟨x.K, x.calm, x.nd, takesN, x.units⟩
section
variable {g : Gx} {P : Program} {w : World} {K : PySem.W.Frag} {mg : Str → Option Value} {base : Heap}
/-- a def's own context -/
theorem XO.ofDef {N : List Str} {qual : Str} {scope : Scope} {f : Addr} {cd : Value} {A : Around} {outer : List PySem.Env} {s : Shared} {H : Hp} {E : XK} {k : Nat} (hK : K = g.K) (nd : N.Nodup) (hr : Room k (A.deeper (PyProof.Rows.envOfC qual scope s.heap.objs.size f cd))) :
    XO g (cxOf (L2.CX P w) P w K mg base N qual scope f cd A outer s H E) E := ⟨hK, rfl, nd, takes_of rfl rfl rfl rfl, units_of hr⟩
theorem own_def {N : List Str} {qual : Str} {scope : Scope} {f : Addr} {cd : Value} {A : Around} {outer : List PySem.Env} {s : Shared} {H : Hp} {E : XK} :
    PassesOwn (model (cxOf (L2.CX P w) P w K mg base N qual scope f cd A outer s H E).prog (cxOf (L2.CX P w) P w K mg base N qual scope f cd A outer s H E).w) (cxOf (L2.CX P w) P w K mg base N qual scope f cd A outer s H E).A (cxOf (L2.CX P w) P w K mg base N qual scope f cd A outer s H E).env (cxOf (L2.CX P w) P w K mg base N qual scope f cd A outer s H E).xe := passes_of rfl
/-- a lambda's context -/
theorem XO.lam {X : Cx} {E E' : XK} (x : XO g X E) {A : Around} {outer : List PySem.Env} {s : Shared} {H : Hp} {scope : Scope} {f c' : Addr} {k : Nat} (hr : Room k (A.deeper (LamX.lamEnv X scope s.heap.objs.size f c'))) : XO g (LamX.lamCx X A outer s H E' scope f c') E' :=
  ⟨x.K, rfl, x.nd, takes_of rfl rfl rfl rfl, units_of hr⟩
/-! ### a def keeps its mirror -/
theorem getElem?_start {vs : List V} {N : List Str} {i : Nat} : (L2.start N vs)[i]? = if i < vs.length then (vs[i]?).map some else if i < vs.length + (N.length - vs.length) then some none else none := by
  unfold L2.start
  by_cases h : i < vs.length
  · rw [if_pos h, List.getElem?_append_left (by rw [List.length_map]; exact h), List.getElem?_map]
  · rw [if_neg h, List.getElem?_append_right (by rw [List.length_map]; omega), List.length_map]
    by_cases h2 : i < vs.length + (N.length - vs.length)
    · rw [if_pos h2, List.getElem?_replicate, if_pos (by omega)]
    · rw [if_neg h2, List.getElem?_replicate, if_neg (by omega)]
theorem envR_start {c : Ct} {ds : List D} {vs : List V} {N : List Str} {n : Nat} (hn : N.length = n) (r : RepL c ds vs) : EnvR c (ds.map some ++ List.replicate (n - ds.length) none) (L2.start N vs) := by
  have hl := repL_len r
  refine ⟨?_, fun i d h => ?_⟩
  · unfold L2.start
    rw [List.length_append, List.length_append, List.length_map, List.length_map, List.length_replicate, List.length_replicate, hl, hn]
  · by_cases hi : i < ds.length
    · rw [List.getElem?_append_left (by rw [List.length_map]; exact hi), List.getElem?_map] at h
      cases e : ds[i]? with
      | none => rw [e] at h; cases h
      | some x =>
        rw [e] at h
        have h' : x = d := by cases h; rfl
        subst h'
        obtain ⟨v, h1, h2⟩ := repL_get r e
        refine ⟨v, ?_, h2⟩
        rw [getElem?_start, if_pos (by rw [hl]; exact hi), h1]
        rfl
    · rw [List.getElem?_append_right (by rw [List.length_map]; omega), List.length_map, List.getElem?_replicate] at h
      split at h <;> cases h
theorem fnok {x qual : Str} {st : Stmt} {f : Addr} {fd : FuncData} {N ps : List Str} {k n : Nat} {m : MS} (F : Fun K x qual st f fd) (S : FnScope N ps (defScope st)) (hn : N.length = n)
    (h : ∀ (cdv : Value) (A : Around) (outer : List PySem.Env) (s : Shared) (H : Hp) (E : XK), PySem.W.codeIn K cdv qual = true → Room k (A.deeper (PyProof.Rows.envOfC qual (defScope st) s.heap.objs.size f cdv)) →
      SL g (cxOf (L2.CX P w) P w K mg base N qual (defScope st) f cdv A outer s H E) E (defBody st) m) : FnOk P w K mg base (L2.CX P w) (k + 1) f fd ps (spOf g ps.length (mkFn n ps.length m)) := by
  obtain ⟨oc, od, kV, doc, pm, an, cdv, ct, osl, rfl, lk, hcd⟩ := F.ex
  refine fn_of lk hcd S (fun vs H Q E h => h.1) fun A outer s H vs Q E hr hsp => ?_
  obtain ⟨t, pt, st'⟩ := h cdv A outer s H E hcd hr
  obtain ⟨hl, c, ds, rfl, ok, rx, hp⟩ := hsp
  refine ⟨t, pt, st' c _ (ds.map some ++ List.replicate (n - ds.length) none) _ ok (envR_start hn rx) ?_⟩
  have hld : ds.length = ps.length := by rw [← repL_len rx]; exact hl
  have hp' : PostG g c E (WE g c Q) (if ds.length = ps.length then
      match m (ds.map some ++ List.replicate (n - ds.length) none) c.S with
      | .ok (.nx _) S1 => .ok .non S1
      | .ok (.rt d) S1 => .ok d S1
      | .exc k S1 => .exc k S1
      | _ => .bad
    else .bad) := hp
  rw [if_pos hld] at hp'
  revert hp'
  cases m (ds.map some ++ List.replicate (n - ds.length) none) c.S with
  | bad => exact id
  | exc k S => exact id
  | ok f S =>
    cases f with
    | nx e1 => exact fun hp c' σ' ok' l' r' s' er' => hp c' .non ok' l' r' s' (rep_non.mpr rfl)
    | rt d => exact fun hp c' v ok' l' r' s' rv => hp c' v ok' l' r' s' rv
    | bk e1 => exact fun h => h.elim
    | ct e1 => exact fun h => h.elim
end
/-! ### told(lambda) -/
/-- the clauses' answer to an error -/
def tellX (K : PySem.W.Frag) : List (Value × Str) → VK → XK
  | [], _ => fun _ _ _ => False
  | (c, s) :: r, Q => fun cls d H => ∃ b, PySem.W.exmOne K cls c = some b ∧ (b = true → Q (.str s) H) ∧ (b = false → tellX K r Q cls d H)
/-- the clauses, by places: class x, its value, the text told -/
def hdls : List (Str × Value × Str × (Pos × Pos × Pos × Pos × Nat)) → List ExceptHandler
  | [] => []
  | (x, _, s, (p1, p2, p3, p4, j)) :: r => .ExceptHandler (some (.Name x p1)) none [.Return (some (.Constant (.str s) j p2)) p3] p4 :: hdls r
theorem told_many {X : Cx} {Ng : List Str} {x a q : Str} {sg : Scope} {g : Addr} {cdg : Value} {p1 p2 p3 p8 : Pos} {L : List (Str × Value × Str × (Pos × Pos × Pos × Pos × Nat))} {h0 : ExceptHandler} {hds : List ExceptHandler} (hL : hdls L = h0 :: hds)
    (hn : ∀ y ∈ L, sg.names.lookup y.1 = some .globalImplicit ∧ X.mg y.1 = some y.2.1 ∧ (y.1 == ("__debug__" : Str)) = false) (h0' : ∀ f : Addr, (L2.start Ng [V.ref f])[0]? = some (some (V.ref f))) :
    LamX.GivesTo X Ng x sg g cdg [.Try [.Return (some (.Call (.Name a p1) [] [] p2)) p3] (h0 :: hds) [] [] p8] a q (fun tl H Q => tl (tellX X.K (L.map fun y => (y.2.1, y.2.2.1)) Q) H Q) := by
  intro f c' s H Q tl act hc h
  have hk : ∀ (L : List (Str × Value × Str × (Pos × Pos × Pos × Pos × Nat))), (∀ y ∈ L, sg.names.lookup y.1 = some .globalImplicit ∧ X.mg y.1 = some y.2.1 ∧ (y.1 == ("__debug__" : Str)) = false) →
      HdsOk (cxOf C8.CX0 X.prog X.w X.K X.mg X.base Ng x sg g cdg X.A X.stack s H C8.E0).nox (hdls L) (L.map fun y => (y.2.1, fun _ _ _ => tRet fun _ H' Q' => Q' (.str y.2.2.1) H')) := by
    intro L
    induction L with
    | nil => exact fun _ => .nil
    | cons y r ih =>
      intro hy
      obtain ⟨y1, y2, y3, p1, p2, p3, p4, j⟩ := y
      obtain ⟨e1, e2, e3⟩ := hy _ List.mem_cons_self
      have hgl : Gl (cxOf C8.CX0 X.prog X.w X.K X.mg X.base Ng x sg g cdg X.A X.stack s H C8.E0).nox y1 := e1
      exact .cons ⟨hgl, e3, .inl e2⟩ (fun a oe cls d pn _ _ => pss_one (ps_ret pe_str)) (ih fun z hz => hy z (List.mem_cons_of_mem _ hz))
  have wm : ∀ (L : List (Str × Value × Str × (Pos × Pos × Pos × Pos × Nat))) (D : Ends) (cls : Value) (d : Option Addr) (σ : L2.St) (H' : Hp), tellX X.K (L.map fun y => (y.2.1, y.2.2.1)) D.rt cls d H' →
      wMany X.K (fun _ _ _ _ => False) D (L.map fun y => (y.2.1, fun _ _ _ => tRet fun _ H' Q' => Q' (.str y.2.2.1) H')) cls d σ H' := by
    intro L
    induction L with
    | nil => exact fun _ _ _ _ _ h => h
    | cons y r ih => exact fun D cls d σ H' ⟨b, e1, e2, e3⟩ => ⟨b, e1, fun hb _ _ => e2 hb, fun hb => ih D cls d σ H' (e3 hb)⟩
  have hh := hk L hn
  rw [hL] at hh
  refine ⟨_, pss_one (ps_try_many (X := (cxOf C8.CX0 X.prog X.w X.K X.mg X.base Ng x sg g cdg X.A X.stack s H C8.E0).nox)
      (tb := fun W D σ H => ∃ Ech : XK, (∀ cls d σ' H', Ech cls d H' → W cls d σ' H') ∧ σ[0]? = some (some (.ref f)) ∧ H c' = some (LamX.CodeO c' q) ∧ tl Ech H D.rt)
      rfl rfl LamX.takes0 (fun W pn xe tk _ => ?_) hh), ?_⟩
  · refine ⟨fun pins s' σ H' D I h' => ?_⟩
    obtain ⟨Ech, hW, h1, h2, h3⟩ := h'
    have hp := act W pn xe Ech p1 p2 tk hW
    have hq := pss_one (ps_ret (pos := p3) hp)
    exact hq.run pins s' σ H' D I ⟨h1, h2, h3⟩
  · exact ⟨tellX X.K (L.map fun y => (y.2.1, y.2.2.1)) Q, fun cls d σ' H' h => wm L _ cls d σ' H' h, h0' f, hc, h⟩
theorem repO_nT {g : Gx} {c : Ct} {a : Addr} {u : HO} : ∀ {o : Ob}, o ≠ .dead → RepO g c o a → c.H a = some u → nT u
  | .dead, n, _, _ => absurd rfl n
  | .lst ds, _, ⟨vs, h1, h2⟩, h => fun ps z => by rw [h] at h1; subst z; cases h1
  | .dct ds, _, ⟨vs, h1, h2⟩, h => fun ps z => by rw [h] at h1; subst z; cases h1
  | .dctT ds, _, ⟨vs, h1, h2⟩, h => fun ps z => by rw [h] at h1; subst z; cases h1
  | .ins k fs, _, ⟨dx, us, h1, h2⟩, h => fun ps z => by rw [h] at h1; subst z; cases h1
  | .lck (.lst ds), _, ⟨vs, h1, h2⟩, h => fun ps z => by rw [h] at h1; subst z; cases h1
  | .lck (.dct ds), _, ⟨ob, vs, h1, h2⟩, h => fun ps z => by rw [h] at h1; subst z; cases h1
  | .lck (.dctT ds), _, ⟨ob, vs, h1, h2⟩, h => fun ps z => by rw [h] at h1; subst z; cases h1
  | .lck (.lck (.lst ds)), _, ⟨vs, h1, h2⟩, h => fun ps z => by
    rcases h1 with h1 | ⟨x, h1⟩
    · rw [h] at h1; subst z; cases h1
    · rw [h] at h1; subst z; cases h1
  | .lck .dead, _, h, _ => h.elim
  | .lck (.ins _ _), _, h, _ => h.elim
  | .lck (.lck .dead), _, h, _ => h.elim
  | .lck (.lck (.ins _ _)), _, h, _ => h.elim
  | .lck (.lck (.dct _)), _, h, _ => h.elim
  | .lck (.lck (.dctT _)), _, h, _ => h.elim
  | .lck (.lck (.lck _)), _, h, _ => h.elim
/-- a table has grown, or not -/
theorem ext_ok {g : Gx} {c : Ct} (ok : Ok g c) {H1 : Hp} (e : LamX.ExtN c.H H1) (T : LamX.Tabs g.tabs H1) : Ok g { c with H := H1 } ∧ Le c { c with H := H1 } ∧ RsE { c with H := H1 } c := by
  have l : Le c { c with H := H1 } := ⟨⟨Nat.le_refl _, fun _ _ h => ⟨h, rfl⟩, fun a o h t => ⟨o, e a o h t, t⟩, fun _ _ h _ _ => h, fun a u t f h => e a u h (isT_nT t), fun a u t f h => by
    rcases h with h | ⟨x, h⟩
    · exact .inl (e _ _ h fun ps z => by subst z; exact t)
    · exact .inr ⟨x, e _ _ h fun ps z => by cases z⟩⟩, fun _ _ h => h, fun _ _ _ h => e _ _ h fun ps z => by cases z⟩
  refine ⟨⟨ok.inj, fun r x h => ?_, ok.rsv, T, fun p hp => ?_⟩, l, ⟨rfl, fun a h => ?_⟩⟩
  · by_cases hd : x = Ob.dead
    · subst hd; trivial
    · have h0 := ok.at_ r x h
      refine RepO.mono l ?_ h0
      show H1 (c.ι r) = c.H (c.ι r)
      obtain ⟨u, hu⟩ := ok.held ⟨x, h, hd⟩
      rw [hu]
      exact e _ _ hu (repO_nT hd h0 hu)
  · obtain ⟨x, h1, h2⟩ := ok.rsh p hp
    exact ⟨x, e _ _ h1 h2, h2⟩
  · obtain ⟨x, h1, h2⟩ := ok.rsh a h
    show H1 a = c.H a
    rw [h1]
    exact e _ _ h1 h2
theorem tell_of {K : PySem.W.Frag} {ex : Nat → Addr} {sub : Nat → Nat → Bool} {k : Nat} {h0 : Nat × Tx} {Q : VK} {H : Hp} {d : Option Addr} : ∀ {hs : List (Nat × Tx)}, hs.find? (fun h => sub k h.1) = some h0 → (∀ y ∈ hs, PySem.W.exmOne K (.ref (ex k)) (.ref (ex y.1)) = some (sub k y.1)) → Q (.str (sS h0.2)) H →
    tellX K (hs.map fun h => (Value.ref (ex h.1), sS h.2)) Q (.ref (ex k)) d H
  | [], h, _, _ => by cases h
  | y :: r, h, hx, q => by
    refine ⟨sub k y.1, hx y List.mem_cons_self, fun hb => ?_, fun hb => ?_⟩
    · rw [List.find?_cons, hb] at h
      cases h
      exact q
    · rw [List.find?_cons, hb] at h
      exact tell_of h (fun z hz => hx z (List.mem_cons_of_mem _ hz)) q
theorem es_told {g : Gx} {X : Cx} {E : XK} {x a : Str} {gA cA PA : Addr} {k : Nat} {pg : Arguments} {sg : Scope} {dV kV doc pm cdv ct oc : Value} {an od : Option Addr} {osl : Array (Option Value)} {Ng : List Str}
    {params : Arguments} {body : Expr} {scope : Scope} {m : ME} {sub : Nat → Nat → Bool} {hs : List (Nat × Tx)} {L : List (Str × Value × Str × (Pos × Pos × Pos × Pos × Nat))} {h0 : ExceptHandler} {hds : List ExceptHandler} {p lpos pos p1 p2 p3 p8 : Pos}
    (hm : X.mg x = some (.ref gA)) (hk : PySem.W.keepIn X.K (.ref gA) = true)
    (lk : X.K.lookup gA = some ⟨oc, od, .func (PySem.W.fnOf x x pg [.Try [.Return (some (.Call (.Name a p1) [] [] p2)) p3] (h0 :: hds) [] [] p8] sg dV kV doc pm an cdv ct), osl⟩) (hcg : PySem.W.codeIn X.K cdv x = true)
    (hb : L2.Binds X.K (PySem.W.fnOf x x pg [.Try [.Return (some (.Call (.Name a p1) [] [] p2)) p3] (h0 :: hds) [] [] p8] sg dV kV doc pm an cdv ct) [a] []) (Sg : FnScope Ng [a] sg) (hNg : Ng[0]? = some a) (hva : Vis sg a)
    (hL : hdls L = h0 :: hds) (hn : ∀ y ∈ L, sg.names.lookup y.1 = some .globalImplicit ∧ X.mg y.1 = some y.2.1 ∧ (y.1 == ("__debug__" : Str)) = false) (hh : (L.map fun y => (y.2.1, y.2.2.1)) = hs.map fun h => (Value.ref (g.ex h.1), sS h.2))
    (h0' : ∀ f : Addr, (L2.start Ng [V.ref f])[0]? = some (some (V.ref f))) (hsub : ∀ j i, sub j i = true → ∀ y ∈ hs, PySem.W.exmOne X.K (.ref (g.ex j)) (.ref (g.ex y.1)) = some (sub j y.1))
    (TB : LamX.TabB X.base X.mg cA PA) (hcode : X.env.code = .ref cA) (hmT : (PA, X.env.qual ++ "<lambda>") ∈ g.tabs) (hu : ∀ p ∈ g.tabs, p.1 = PA → p.2 = X.env.qual ++ "<lambda>") (hr : Room (k + 2) X.A) (hLS : LamX.LamS X.env.scope scope)
    (hbody : ∀ (A : Around) (outer : List PySem.Env) (s : Shared) (H : Hp) (E' : XK) (f c' : Addr), Room k (A.deeper (LamX.lamEnv X scope s.heap.objs.size f c')) → ES g (LamX.lamCx X A outer s H E' scope f c') E' body m)
    (hg : Gl X x := by rfl) (hdef : defaultsOf params X.env = ([], []) := by rfl)
    (hbind : ∀ (q : Str) (cl : List (Str × Addr)) (pm cv ctv : Value), bindArgs (PySem.W.kla_fn "<lambda>" q params body scope cl pm cv ctv) ⟨[], []⟩ = pure [] := by intros; rfl)
    (hdb : (x == ("__debug__" : Str)) = false := by decide) (hd : (a == ("__debug__" : Str)) = false := by decide) (hcd : (a == ("__classdict__" : Str)) = false := by decide) :
    ES g X E (.Call (.Name x p) [.Lambda params body scope lpos] [] pos) (eTold sub hs m) := by
  -- one reading of the body for every place that the lambda may be called from
  let I := { i : Around × List PySem.Env × Shared × Hp × Addr × Addr // Room k (i.1.deeper (LamX.lamEnv X scope i.2.2.1.heap.objs.size i.2.2.2.2.1 i.2.2.2.2.2)) }
  have hu1 : ∀ E', ∃ t, (∀ i : I, PE (LamX.lamCx X i.1.1 i.1.2.1 i.1.2.2.1 i.1.2.2.2.1 E' scope i.1.2.2.2.2.1 i.1.2.2.2.2.2) body t) ∧ SE g E' t m := fun E' =>
    unifE (Xs := fun i : I => LamX.lamCx X i.1.1 i.1.2.1 i.1.2.2.1 i.1.2.2.2.1 E' scope i.1.2.2.2.2.1 i.1.2.2.2.2.2) fun i => hbody _ _ _ _ E' _ _ i.2
  refine ⟨_, LamX.pe_lamcall (t := fun E' => (hu1 E').choose) hg hm hk lk hcg hb Sg hNg hva (told_many hL hn h0') TB hcode hmT hu hr hLS hdef hbind (fun A outer s H E' f c' hr' => (hu1 E').choose_spec.1 ⟨(A, outer, s, H, f, c'), hr'⟩) hdb hd hcd, fun c σ e Q ok er hp => ?_⟩
  refine ⟨ok.tabs, fun H1 eN T1 => ?_⟩
  obtain ⟨ok1, l1, r1⟩ := ext_ok ok eN T1
  show (hu1 (tellX X.K (L.map fun y => (y.2.1, y.2.2.1)) Q)).choose σ ({ c with H := H1 } : Ct).H Q
  refine (hu1 (tellX X.K (L.map fun y => (y.2.1, y.2.2.1)) Q)).choose_spec.2 { c with H := H1 } σ e Q ok1 (er.mono l1) ?_
  have hp' : PostG g c E (WE g c Q) (match m e c.S with
    | .ok d S1 => .ok d S1
    | .exc k S1 => match hs.find? fun h => sub k h.1 with
      | some h => .ok (.str h.2) S1
      | none => .bad
    | .bad => .bad) := hp
  revert hp'
  show _ → PostG g { c with H := H1 } _ (WE g { c with H := H1 } Q) (m e c.S)
  cases m e c.S with
  | bad => exact id
  | ok d S => exact fun hp => WE.later l1 r1 hp
  | exc k S =>
    intro hp c' ok' l' r' s'
    have hp2 : PostG g c E (WE g c Q) (match hs.find? fun h => sub k h.1 with
      | some h => .ok (.str h.2) S
      | none => .bad) := hp
    rw [hh]
    cases q : hs.find? fun h => sub k h.1 with
    | none => simp only [q] at hp2; exact hp2.elim
    | some h0 =>
      simp only [q] at hp2
      have hs1 : sub k h0.1 = true := by simpa using List.find?_some q
      refine tell_of q (hsub k h0.1 hs1) ?_
      have hw : WE g c Q (.str h0.2) S := hp2
      exact hw c' _ ok' (l1.trans l') (r'.trans r1) s' (rep_str.mpr rfl)
end Sm
end

section
set_option Elab.async false
set_option linter.all false
set_option autoImplicit false
set_option maxRecDepth 100000
set_option maxHeartbeats 4000000
namespace Sm
open PySem L2
/-! ### field names -/
def fnL (l : List Str) (i : Nat) : Str := match l[i]? with
  | some x => x
  | none => sS [65, 1000000 + i, 65]
theorem fnL_out {l : List Str} {x : Str} (h : x.cps.size ≠ 3 ∨ x.cps.toList.headD 0 ≠ 65) (hl : x ∉ l) (i : Nat) : fnL l i ≠ x := by
  unfold fnL
  cases e : l[i]? with
  | none =>
    intro z; subst z
    rcases h with h | h
    · exact h rfl
    · exact h rfl
  | some y => intro z; subst z; exact hl (List.mem_of_getElem? e)
theorem sS_inj3 {a b : Nat} (h : sS [65, a, 65] = sS [65, b, 65]) : a = b := by
  have h2 : (sS [65, a, 65]).cps = (sS [65, b, 65]).cps := congrArg _ h
  have h3 : ([65, a, 65] : List Nat).toArray = [65, b, 65].toArray := h2
  have h4 : ([65, a, 65] : List Nat) = [65, b, 65] := congrArg Array.toList h3
  simpa using h4
theorem fnL_inj {l : List Str} (hn : l.Nodup) (hs : ∀ x ∈ l, x.cps.size ≠ 3 ∨ x.cps.toList.headD 0 ≠ 65) (i j : Nat) (h : fnL l i = fnL l j) : i = j := by
  have no : ∀ {x : Str} {k : Nat}, x ∈ l → x ≠ sS [65, k, 65] := fun {x k} hx z => by
    subst z
    rcases hs _ hx with h | h
    · exact h rfl
    · exact h rfl
  unfold fnL at h
  cases e : l[i]? with
  | none =>
    cases e2 : l[j]? with
    | none =>
      simp only [e, e2] at h
      have := sS_inj3 h
      omega
    | some y =>
      simp only [e, e2] at h
      exact absurd h.symm (no (List.mem_of_getElem? e2))
  | some x =>
    cases e2 : l[j]? with
    | none =>
      simp only [e, e2] at h
      exact absurd h (no (List.mem_of_getElem? e))
    | some y =>
      simp only [e, e2] at h
      subst h
      obtain ⟨h1, h2⟩ := List.getElem?_eq_some_iff.mp e
      obtain ⟨h3, h4⟩ := List.getElem?_eq_some_iff.mp e2
      exact (List.getElem_inj hn).mp (h2.trans h4.symm)
/-! ### what the top tells -/
structure Tt (fa : List He.Fa) (fn : List He.DefD) (tf : List He.Defn) (K : PySem.W.Frag) (mg : Str → Option Value) (base : Heap) : Prop where
  X : K.In base
  G : base.Ns mainGlobals mg
  d : He.SaysD fa fn K
  tb : ∀ p ∈ tf, LamX.TabB base mg (He.cT K p).1 (He.cT K p).2
  nd : (tf.map fun p => (He.cT K p).2).Nodup
section
variable {fa : List He.Fa} {fn : List He.DefD} {tf : List He.Defn} {K : PySem.W.Frag} {mg : Str → Option Value} {base : Heap} {P : Program} {w : World} {g : Gx}
theorem Tt.glo (T : Tt fa fn tf K mg base) (i : Nat) {x : Str} (h : fa[i]? = some (.glo x) := by rfl) : mg x = some (.ref (He.ga K x)) := He.glo_ok T.X T.G (T.d.fact i h)
theorem Tt.free (T : Tt fa fn tf K mg base) (i : Nat) {x : Str} (h : fa[i]? = some (.free x) := by rfl) : mg x = none := He.free_ok T.X T.G (T.d.fact i h)
theorem Tt.cls (T : Tt fa fn tf K mg base) (i : Nat) {x : Str} (h : fa[i]? = some (.cls x) := by rfl) : Cls K (He.ga K x) := He.cls_ok (T.d.fact i h)
theorem Tt.noat (T : Tt fa fn tf K mg base) (i : Nat) {x f : Str} (h : fa[i]? = some (.noat x f) := by rfl) : NoAttr K (He.ga K x) f := He.noat_ok (T.d.fact i h)
theorem Tt.exm (T : Tt fa fn tf K mg base) (i : Nat) {x y : Str} {b : Bool} (h : fa[i]? = some (.exm x y b) := by rfl) : PySem.W.exmOne K (.ref (He.ga K x)) (.ref (He.ga K y)) = some b := He.exm_ok (T.d.fact i h)
theorem Tt.code (T : Tt fa fn tf K mg base) (i : Nat) {p : He.Defn} (h : tf[i]? = some p := by rfl) : LamX.TabB base mg (He.codeOf K p) (He.tabOf K (He.codeOf K p)) := T.tb p (List.mem_of_getElem? h)
/-- raise X('..') -/
theorem Tt.raise {X : Cx} (T : Tt fa fn tf X.K X.mg base) (i j : Nat) {x m : Str} {jj : Nat} {p p2 pos : Pos} (hg : Gl X x := by rfl) (h : fa[i]? = some (.exc x) := by rfl) (h2 : fa[j]? = some (.glo x) := by rfl) (hdb : (x == ("__debug__" : Str)) = false := by decide) :
    PMk X (.Call (.Name x p) [.Constant (.str m) jj p2] [] pos) (fun _ H Q => Q (.ref (He.ga X.K x)) none H) := by
  obtain ⟨h1, h2', h3, h4⟩ := He.exc_ok (T.d.fact i h)
  exact pmk_own PySem.F.excBase_ValueError h1 (T.glo j h2) h2' (raises_own h3 h4) hg hdb
/-- a def, from its row -/
theorem fnokD {x qual : Str} {params : Arguments} {body : List Stmt} {scope : Scope} {at_ : He.Defn} {fd : FuncData} {N ps : List Str} {k n : Nat} {m : MS} (F : FunD K x qual params body scope [] [] (He.fAd K at_) fd) (S : FnScope N ps scope) (hn : N.length = n)
    (h : ∀ (cdv : Value) (A : Around) (outer : List PySem.Env) (s : Shared) (H : Hp) (E : XK), cdv = .ref (He.codeOf K at_) → Room k (A.deeper (PyProof.Rows.envOfC qual scope s.heap.objs.size (He.fAd K at_) cdv)) →
      SL g (cxOf (L2.CX P w) P w K mg base N qual scope (He.fAd K at_) cdv A outer s H E) E body m) : FnOk P w K mg base (L2.CX P w) (k + 1) (He.fAd K at_) fd ps (spOf g ps.length (mkFn n ps.length m)) := by
  obtain ⟨oc, od, dV, kV, doc, pm, an, cdv, ct, osl, rfl, lk, hcd, _, _⟩ := F.ex
  obtain ⟨c0, hc0⟩ := He.codeIn_ref hcd
  have hc1 : cdv = .ref (He.codeOf K at_) := by
    rw [He.codeOf_eq lk (show (PySem.W.fnOf x qual params body scope dV kV doc pm an cdv ct).code = .ref c0 from hc0)]
    exact hc0
  refine fn_of lk hcd S (fun vs H Q E h => h.1) fun A outer s H vs Q E hr hsp => ?_
  obtain ⟨t, pt, st'⟩ := h cdv A outer s H E hc1 hr
  obtain ⟨hl, c, ds, rfl, ok, rx, hp⟩ := hsp
  refine ⟨t, pt, st' c _ (ds.map some ++ List.replicate (n - ds.length) none) _ ok (envR_start hn rx) ?_⟩
  have hld : ds.length = ps.length := by rw [← repL_len rx]; exact hl
  have hp' : PostG g c E (WE g c Q) (if ds.length = ps.length then
      match m (ds.map some ++ List.replicate (n - ds.length) none) c.S with
      | .ok (.nx _) S1 => .ok .non S1
      | .ok (.rt d) S1 => .ok d S1
      | .exc k S1 => .exc k S1
      | _ => .bad
    else .bad) := hp
  rw [if_pos hld] at hp'
  revert hp'
  cases m (ds.map some ++ List.replicate (n - ds.length) none) c.S with
  | bad => exact id
  | exc k S => exact id
  | ok f S =>
    cases f with
    | nx e1 => exact fun hp c' σ' ok' l' r' s' er' => hp c' .non ok' l' r' s' (rep_non.mpr rfl)
    | rt d => exact fun hp c' v ok' l' r' s' rv => hp c' v ok' l' r' s' rv
    | bk e1 => exact fun h => h.elim
    | ct e1 => exact fun h => h.elim
/-- the arguments bind: no defaults -/
def BindN (x qual : Str) (params : Arguments) (body : List Stmt) (scope : Scope) (ps : List Str) : Prop :=
  ∀ (kV doc pm : Value) (an : Option Addr) (cdv ct : Value) (us : List Value), us.length = ps.length → bindArgs (PySem.W.fnOf x qual params body scope .none kV doc pm an cdv ct) ⟨us, []⟩ = pure (ps.zip us)
theorem mkF {x : Str} {params : Arguments} {body : List Stmt} {scope : Scope} {N ps : List Str} {k n : Nat} {m : MS} (T : Tt fa fn tf K mg base) (i j : Nat) (S : FnScope N ps scope) (hb : BindN x x params body scope ps)
    (h : ∀ (cdv : Value) (A : Around) (outer : List PySem.Env) (s : Shared) (H : Hp) (E : XK), cdv = .ref (He.codeOf K (x, none)) → Room k (A.deeper (PyProof.Rows.envOfC x scope s.heap.objs.size (He.fAd K (x, none)) cdv)) →
      SL g (cxOf (L2.CX P w) P w K mg base N x scope (He.fAd K (x, none)) cdv A outer s H E) E body m)
    (hd : fn[i]? = some ⟨(x, none), x, x, params, body, scope, [], []⟩ := by rfl) (hg : fa[j]? = some (.glo x) := by rfl) (hn : N.length = n := by rfl) : FnF g P w K mg base (k + 1) x ps (mkFn n ps.length m) := by
  obtain ⟨fd, F⟩ := T.d.def_ i hd
  have F' : FunD K x x params body scope [] [] (He.fAd K (x, none)) fd := F
  exact ⟨He.fAd K (x, none), fd, fnokD F' S hn h, T.glo j hg, F'.kp, F'.bindsN hb⟩
theorem mkM {c x qual : Str} {params : Arguments} {body : List Stmt} {scope : Scope} {N ps : List Str} {k n : Nat} {m : MS} (T : Tt fa fn tf K mg base) (i j l : Nat) (S : FnScope N ps scope) (hb : BindN x qual params body scope ps)
    (h : ∀ (cdv : Value) (A : Around) (outer : List PySem.Env) (s : Shared) (H : Hp) (E : XK), cdv = .ref (He.codeOf K (c, some x)) → Room k (A.deeper (PyProof.Rows.envOfC qual scope s.heap.objs.size (He.fAd K (c, some x)) cdv)) →
      SL g (cxOf (L2.CX P w) P w K mg base N qual scope (He.fAd K (c, some x)) cdv A outer s H E) E body m) (hf : ∀ i, g.fn i ≠ x)
    (hd : fn[i]? = some ⟨(c, some x), x, qual, params, body, scope, [], []⟩ := by rfl) (hm : fa[j]? = some (.meth c x) := by rfl) (hc : fa[l]? = some (.cls c) := by rfl) (hn : N.length = n := by rfl) : MeF g P w K mg base (k + 1) (He.ga K c) x ps (mkFn n ps.length m) := by
  obtain ⟨fd, F⟩ := T.d.def_ i hd
  have F' : FunD K x qual params body scope [] [] (He.fAd K (c, some x)) fd := F
  exact ⟨He.fAd K (c, some x), fd, fnokD F' S hn h, He.meth_ok (T.d.fact j hm), F'.bindsN hb, T.cls l hc, hf⟩
theorem mkI {c qual : Str} {params : Arguments} {body : List Stmt} {scope : Scope} {N ps : List Str} {k n : Nat} {m : MS} (T : Tt fa fn tf K mg base) (i j l : Nat) (S : FnScope N ps scope) (hb : BindN "__init__" qual params body scope ps)
    (h : ∀ (cdv : Value) (A : Around) (outer : List PySem.Env) (s : Shared) (H : Hp) (E : XK), cdv = .ref (He.codeOf K (c, some "__init__")) → Room k (A.deeper (PyProof.Rows.envOfC qual scope s.heap.objs.size (He.fAd K (c, some "__init__")) cdv)) →
      SL g (cxOf (L2.CX P w) P w K mg base N qual scope (He.fAd K (c, some "__init__")) cdv A outer s H E) E body m)
    (hd : fn[i]? = some ⟨(c, some "__init__"), "__init__", qual, params, body, scope, [], []⟩ := by rfl) (hm : fa[j]? = some (.mkr c) := by rfl) (hg : fa[l]? = some (.glo c) := by rfl) (hn : N.length = n := by rfl) : MkF g P w K mg base (k + 1) (He.ga K c) c ps (mkFn n ps.length m) := by
  obtain ⟨fd, F⟩ := T.d.def_ i hd
  have F' : FunD K "__init__" qual params body scope [] [] (He.fAd K (c, some "__init__")) fd := F
  exact ⟨He.fAd K (c, some "__init__"), fd, fnokD F' S hn h, T.glo l hg, He.mkr_ok (T.d.fact j hm), F'.bindsN hb⟩
end
/-! ### told(lambda), from the def's row -/
theorem tabs_uniq {l : List (Addr × Str)} {PA : Addr} {q : Str} : (l.map (·.1)).Nodup → (PA, q) ∈ l → ∀ p ∈ l, p.1 = PA → p.2 = q := by
  induction l with
  | nil => intro _ h; cases h
  | cons y r ih =>
    intro hn hm p hp e
    rw [List.map_cons, List.nodup_cons] at hn
    rcases List.mem_cons.mp hm with h1 | h1
    · rcases List.mem_cons.mp hp with h2 | h2
      · rw [h2, ← h1]
      · exact absurd (List.mem_map.mpr ⟨p, h2, by rw [e, ← h1]⟩) hn.1
    · rcases List.mem_cons.mp hp with h2 | h2
      · exact absurd (List.mem_map.mpr ⟨_, h1, by rw [← h2, e]⟩) hn.1
      · exact ih hn.2 h1 p h2 e
theorem es_toldD {g : Gx} {X : Cx} {E : XK} {x a : Str} {gA cA PA : Addr} {k : Nat} {pg : Arguments} {sg : Scope} {fd : FuncData} {Ng : List Str}
    {params : Arguments} {body : Expr} {scope : Scope} {m : ME} {sub : Nat → Nat → Bool} {hs : List (Nat × Tx)} {L : List (Str × Value × Str × (Pos × Pos × Pos × Pos × Nat))} {h0 : ExceptHandler} {hds : List ExceptHandler} {p lpos pos p1 p2 p3 p8 : Pos}
    (hm : X.mg x = some (.ref gA)) (F : FunD X.K x x pg [.Try [.Return (some (.Call (.Name a p1) [] [] p2)) p3] (h0 :: hds) [] [] p8] sg [] [] gA fd)
    (hb : BindN x x pg [.Try [.Return (some (.Call (.Name a p1) [] [] p2)) p3] (h0 :: hds) [] [] p8] sg [a]) (Sg : FnScope Ng [a] sg) (hNg : Ng[0]? = some a) (hva : Vis sg a)
    (hL : hdls L = h0 :: hds) (hn : ∀ y ∈ L, sg.names.lookup y.1 = some .globalImplicit ∧ X.mg y.1 = some y.2.1 ∧ (y.1 == ("__debug__" : Str)) = false) (hh : (L.map fun y => (y.2.1, y.2.2.1)) = hs.map fun h => (Value.ref (g.ex h.1), sS h.2))
    (h0' : ∀ f : Addr, (L2.start Ng [V.ref f])[0]? = some (some (V.ref f))) (hsub : ∀ j i, sub j i = true → ∀ y ∈ hs, PySem.W.exmOne X.K (.ref (g.ex j)) (.ref (g.ex y.1)) = some (sub j y.1))
    (TB : LamX.TabB X.base X.mg cA PA) (hcode : X.env.code = .ref cA) (hmT : (PA, X.env.qual ++ "<lambda>") ∈ g.tabs) (hu : ∀ p ∈ g.tabs, p.1 = PA → p.2 = X.env.qual ++ "<lambda>") (hr : Room (k + 2) X.A) (hLS : LamX.LamS X.env.scope scope)
    (hbody : ∀ (A : Around) (outer : List PySem.Env) (s : Shared) (H : Hp) (E' : XK) (f c' : Addr), Room k (A.deeper (LamX.lamEnv X scope s.heap.objs.size f c')) → ES g (LamX.lamCx X A outer s H E' scope f c') E' body m)
    (hg : Gl X x) (hdef : defaultsOf params X.env = ([], []))
    (hbind : ∀ (q : Str) (cl : List (Str × Addr)) (pm cv ctv : Value), bindArgs (PySem.W.kla_fn "<lambda>" q params body scope cl pm cv ctv) ⟨[], []⟩ = pure [])
    (hdb : (x == ("__debug__" : Str)) = false) (hd : (a == ("__debug__" : Str)) = false) (hcd : (a == ("__classdict__" : Str)) = false) :
    ES g X E (.Call (.Name x p) [.Lambda params body scope lpos] [] pos) (eTold sub hs m) := by
  have hB := F.bindsN hb
  have hk := F.kp
  obtain ⟨oc, od, dV, kV, doc, pm, an, cdv, ct, osl, rfl, lk, hcg, hD, _⟩ := F.ex
  exact es_told hm hk lk hcg hB Sg hNg hva hL hn hh h0' hsub TB hcode hmT hu hr hLS hbody hg hdef hbind hdb hd hcd
/-! ### the clauses of a told, read from its text -/
def posOf : ExceptHandler → Str × Str × (Pos × Pos × Pos × Pos × Nat)
  | .ExceptHandler (some (.Name x p1)) none [.Return (some (.Constant (.str s) j p2)) p3] p4 => (x, s, (p1, p2, p3, p4, j))
  | _ => ("", "", (⟨0, 0, 0, 0⟩, ⟨0, 0, 0, 0⟩, ⟨0, 0, 0, 0⟩, ⟨0, 0, 0, 0⟩, 0))
def hdsOf : List Stmt → List ExceptHandler
  | [.Try _ hs _ _ _] => hs
  | _ => []
def toldL (K : PySem.W.Frag) (b : List Stmt) : List (Str × Value × Str × (Pos × Pos × Pos × Pos × Nat)) := (hdsOf b).map fun h => ((posOf h).1, .ref (He.ga K (posOf h).1), (posOf h).2.1, (posOf h).2.2)
/-! ### words for what a program of mine prints -/
theorem xu {g : Gx} {X : Cx} {E : XK} (x : XO g X E) : X.A.units + 64 < cLine := by have := x.units; omega
theorem bt_abs : bootBuiltins "abs" = some (.builtin "abs") := by decide +kernel
theorem bt_max : bootBuiltins "max" = some (.builtin "max") := by decide +kernel
theorem bt_min : bootBuiltins "min" = some (.builtin "min") := by decide +kernel
theorem bt_sum : bootBuiltins "sum" = some (.builtin "sum") := by decide +kernel
theorem bt_sorted : bootBuiltins "sorted" = some (.builtin "sorted") := by decide +kernel
theorem bt_int : bootBuiltins "int" = some (.type "int") := by decide +kernel
theorem bt_list : bootBuiltins "list" = some (.type "list") := by decide +kernel
theorem bt_tuple : bootBuiltins "tuple" = some (.type "tuple") := by decide +kernel
end Sm
end

section
set_option Elab.async false
set_option linter.all false
set_option autoImplicit false
set_option maxRecDepth 100000
set_option maxHeartbeats 4000000
namespace Sm
open PySem PySem.Spec PyProof.Rows L2
/-! ### quiet evaluation: in a generator expression, wherever it is resumed -/
def RepU (c : Ct) (d : Sm.D) (u : Value) : Prop := ∃ v, Rep c d v ∧ L2.RelV v u
theorem repU_int {c : Ct} {i : Int} {u : Value} : RepU c (.int i) u ↔ ∃ t, u = .int i t := ⟨fun ⟨v, h1, h2⟩ => by
  rw [rep_int] at h1; subst h1; exact h2, fun h => ⟨_, rep_int.mpr rfl, h⟩⟩
theorem repU_bl {c : Ct} {i : Bool} {u : Value} : RepU c (.bl i) u ↔ u = .bool i := ⟨fun ⟨v, h1, h2⟩ => by
  rw [rep_bl] at h1; subst h1; exact h2, fun h => ⟨_, rep_bl.mpr rfl, h⟩⟩
structure Qp (X : Cx) (c : Ct) (own : List (Str × Nat)) (scope : Scope) (e : Sm.Env) (cenv : PySem.Env) (s₁ s₂ : Shared) (m₂ : Str → Option Value) : Prop where
  sc : cenv.scope = scope
  kind : scope.kind = .function
  ns : s₂.heap.Ns cenv.locals m₂
  own : ∀ p ∈ own, ∃ (d : Sm.D) (u : Value), e[p.2]? = some (some d) ∧ m₂ p.1 = some u ∧ RepU c d u
  cell : ∀ (y : Str) (i : Nat) (d : Sm.D), X.N[i]? = some y → scope.names.lookup y = some .free → e[i]? = some (some d) → ∃ (cl : Addr) (u : Value), cenv.cells.lookup y = some cl ∧ s₂.heap.IsCell cl (some u) ∧ RepU c d u
  old : ∀ a o ho, s₁.heap.get? a = some o → c.H a = some ho → nT ho → s₂.heap.get? a = some o
  gl : cenv.globals = mainGlobals
  bt : cenv.builtins = builtinsNs
  bs : ∀ b o, X.base.get? b = some o → s₂.heap.get? b = some o
theorem Qp.keeps {X : Cx} {c : Ct} {own : List (Str × Nat)} {scope : Scope} {e : Sm.Env} {cenv : PySem.Env} {s₁ s₂ s₃ : Shared} {m₂ : Str → Option Value} (q : Qp X c own scope e cenv s₁ s₂ m₂) (k : Keeps s₂ s₃) : Qp X c own scope e cenv s₁ s₃ m₂ := by
  obtain ⟨h', tk, rfl, hk⟩ := k
  exact ⟨q.sc, q.kind, q.ns.keeps hk, q.own, fun y i d h1 h2 h3 => by
    obtain ⟨cl, u, a, ⟨o, b, b2⟩, r⟩ := q.cell y i d h1 h2 h3
    exact ⟨cl, u, a, ⟨o, hk _ _ b, b2⟩, r⟩, fun a o ho h1 h2 h3 => hk _ _ (q.old a o ho h1 h2 h3), q.gl, q.bt, fun b o e => hk _ _ (q.bs b o e)⟩
theorem keeps_trans {s₁ s₂ s₃ : Shared} (a : Keeps s₁ s₂) (b : Keeps s₂ s₃) : Keeps s₁ s₃ := by
  obtain ⟨h1, t1, rfl, k1⟩ := a
  obtain ⟨h2, t2, rfl, k2⟩ := b
  exact ⟨h2, t2, rfl, fun b o e => k2 b o (k1 b o e)⟩
def QE (g : Gx) (X : Cx) (scope : Scope) (own : List (Str × Nat)) (elt : Expr) (m : ME) : Prop :=
  ∀ (c : Ct) (pins : List (Addr × Obj)) (σ : L2.St) (s₁ s₂ : Shared) (e : Sm.Env) (cenv : PySem.Env) (A' : Around) (E' : Value → Shared → Prop) (m₂ : Str → Option Value) (d : Sm.D) (S' : Store), Inv X pins σ c.H s₁ → Ok g c → Qp X c own scope e cenv s₁ s₂ m₂ → A'.handled = none →
    m e c.S = .ok d S' → S' = c.S ∧ wpAny (model X.prog X.w) A' (eval elt cenv) (fun y s₃ => RepU c d y ∧ Keeps s₂ s₃) E' s₂
def QB (g : Gx) (X : Cx) (scope : Scope) (own : List (Str × Nat)) (elt : Expr) (m : MB) : Prop :=
  ∀ (c : Ct) (pins : List (Addr × Obj)) (σ : L2.St) (s₁ s₂ : Shared) (e : Sm.Env) (cenv : PySem.Env) (A' : Around) (E' : Value → Shared → Prop) (m₂ : Str → Option Value) (b : Bool) (S' : Store), Inv X pins σ c.H s₁ → Ok g c → Qp X c own scope e cenv s₁ s₂ m₂ → A'.handled = none →
    m e c.S = .ok b S' → S' = c.S ∧ wpAny (model X.prog X.w) A' (isTrue elt cenv (eval elt cenv)) (fun y s₃ => y = b ∧ Keeps s₂ s₃) E' s₂
def QO (g : Gx) (X : Cx) (op : Value → Value → Sem Value) (f : Store → Sm.D → Sm.D → Option Sm.D) : Prop :=
  ∀ (c : Ct) (pins : List (Addr × Obj)) (σ : L2.St) (s₁ s₂ : Shared) (A' : Around) (E' : Value → Shared → Prop) (x y : Sm.D) (u w : Value) (z : Sm.D), Inv X pins σ c.H s₁ → Ok g c → (∀ a o ho, s₁.heap.get? a = some o → c.H a = some ho → nT ho → s₂.heap.get? a = some o) → A'.handled = none →
    RepU c x u → RepU c y w → f c.S x y = some z → wpAny (model X.prog X.w) A' (op u w) (fun r s₃ => RepU c z r ∧ Keeps s₂ s₃) E' s₂
theorem rd_nTl {H : Hp} {a : Addr} {vs : List V} (h : Rd H a (.lst vs)) : ∃ o, H a = some o ∧ nT o := by
  rcases h with h | ⟨o, h⟩
  · exact ⟨_, h, fun ps z => by cases z⟩
  · exact ⟨_, h, fun ps z => by cases z⟩
section
variable {g : Gx} {X : Cx} {scope : Scope} {own : List (Str × Nat)}
theorem keepsR (s : Shared) : Keeps s s := GxR.keeps_refl s
theorem keepsT (s : Shared) (k : Nat) : Keeps s { s with toks := k } := GxR.keeps_tok s k
theorem q_own (i : Nat) {x : Str} {pos : Pos} (hm : (x, i) ∈ own) (hl : scope.names.lookup x = some .local) (hd : (x == ("__debug__" : Str)) = false := by decide) : QE g X scope own (.Name x pos) (eV i) := fun c pins σ s₁ s₂ e cenv A' E' m₂ d S' I ok q hA he => by
  obtain ⟨d0, u, h1, h2, h3⟩ := q.own _ hm
  have he' : eV i e c.S = .ok d0 c.S := by unfold eV; simp only [show e[i]? = some (some d0) from h1]
  rw [he'] at he
  cases he
  exact ⟨rfl, wpAny_Name (wpAny_loadName_local (by rw [q.sc]; exact q.kind) (show cenv.scope.names.lookup x = some .local by rw [q.sc]; exact hl) q.ns h2 ⟨h3, keepsR _⟩) hd⟩
theorem q_free (i : Nat) {x : Str} {pos : Pos} (hN : X.N[i]? = some x) (hl : scope.names.lookup x = some .free) (hd : (x == ("__debug__" : Str)) = false := by decide) (hc : (x == ("__classdict__" : Str)) = false := by decide) : QE g X scope own (.Name x pos) (eV i) := fun c pins σ s₁ s₂ e cenv A' E' m₂ d S' I ok q hA he => by
  cases h : e[i]? with
  | none => unfold eV at he; simp only [h] at he; cases he
  | some o =>
    cases o with
    | none => unfold eV at he; simp only [h] at he; cases he
    | some d0 =>
      unfold eV at he; simp only [h] at he; cases he
      obtain ⟨cl, u, h1, h2, h3⟩ := q.cell x i _ hN hl h
      exact ⟨rfl, wpAny_Name (wpAny_loadName_free (by rw [q.sc]; exact q.kind) (show cenv.scope.names.lookup x = some .free by rw [q.sc]; exact hl) h1 h2 ⟨h3, keepsR _⟩ hc) hd⟩
theorem q_int {i j pos} : QE g X scope own (.Constant (.int i) j pos) (eC (.int i)) := fun c pins σ s₁ s₂ e cenv A' E' m₂ d S' I ok q hA he => by
  cases he
  exact ⟨rfl, wpAny_Constant_int ⟨repU_int.mpr ⟨_, rfl⟩, keepsT _ _⟩⟩
theorem q_str (t : Tx) {x : Str} {j pos} (h : x = sS t := by rfl) : QE g X scope own (.Constant (.str x) j pos) (eC (.str t)) := fun c pins σ s₁ s₂ e cenv A' E' m₂ d S' I ok q hA he => by
  cases he
  exact ⟨rfl, Calls.Constant_str ⟨⟨.str x, by rw [h]; exact rep_str.mpr rfl, _, rfl⟩, keepsT _ _⟩⟩
/-- two operands, one after the other -/
theorem q_two {a b : Expr} {ma mb : ME} {f : Store → Sm.D → Sm.D → Option Sm.D} (qa : QE g X scope own a ma) (qb : QE g X scope own b mb) {c : Ct} {pins : List (Addr × Obj)} {σ : L2.St} {s₁ s₂ : Shared} {e : Sm.Env} {cenv : PySem.Env} {A' : Around} {E' : Value → Shared → Prop} {m₂ : Str → Option Value} {d : Sm.D} {S' : Store}
    (I : Inv X pins σ c.H s₁) (ok : Ok g c) (q : Qp X c own scope e cenv s₁ s₂ m₂) (hA : A'.handled = none) (he : eOp f ma mb e c.S = .ok d S') {op : Value → Value → Sem Value} (qo : QO g X op f) :
    S' = c.S ∧ wpAny (model X.prog X.w) A' (eval a cenv) (fun v s₃ => wpAny (model X.prog X.w) A' (eval b cenv) (fun u s₄ => wpAny (model X.prog X.w) A' (op v u) (fun y s₃ => RepU c d y ∧ Keeps s₂ s₃) E' s₄) E' s₃) E' s₂ := by
  unfold eOp at he
  cases h1 : ma e c.S with
  | bad => rw [h1] at he; cases he
  | exc k S => rw [h1] at he; cases he
  | ok x S1 =>
    rw [h1] at he
    obtain ⟨rfl, w1⟩ := qa c pins σ s₁ s₂ e cenv A' E' m₂ x S1 I ok q hA h1
    have he' : ((mb e c.S).bind fun y S2 => ofO (f S2 x y) S2) = .ok d S' := he
    cases h2 : mb e c.S with
    | bad => rw [h2] at he'; cases he'
    | exc k S => rw [h2] at he'; cases he'
    | ok y S2 =>
      rw [h2] at he'
      have e2 := (qb c pins σ s₁ s₂ e cenv A' E' m₂ y S2 I ok q hA h2).1
      subst e2
      have he2 : ofO (f c.S x y) c.S = .ok d S' := he'
      cases h3 : f c.S x y with
      | none => rw [h3] at he2; cases he2
      | some z =>
        rw [h3] at he2
        cases he2
        refine ⟨rfl, wpAny_mono w1 (fun v s₃ ⟨rv, k3⟩ => ?_) fun _ _ x => x⟩
        have q3 := q.keeps k3
        refine wpAny_mono (qb c pins σ s₁ s₃ e cenv A' E' m₂ y c.S I ok q3 hA h2).2 (fun u s₄ ⟨ru, k4⟩ => ?_) fun _ _ x => x
        have q4 := q3.keeps k4
        exact wpAny_mono (qo c pins σ s₁ s₄ A' E' x y v u d I ok q4.old hA rv ru h3) (fun r s₅ ⟨rr, k5⟩ => ⟨rr, keeps_trans k3 (keeps_trans k4 k5)⟩) fun _ _ x => x
theorem q_op {op : Operator} {f : Store → Sm.D → Sm.D → Option Sm.D} {a b : Expr} {ma mb : ME} {pos : Pos} (qo : QO g X (binaryOp op) f) (qa : QE g X scope own a ma) (qb : QE g X scope own b mb) : QE g X scope own (.BinOp a op b pos) (eOp f ma mb) :=
  fun c pins σ s₁ s₂ e cenv A' E' m₂ d S' I ok q hA he => by
    obtain ⟨h1, h2⟩ := q_two (m₂ := m₂) qa qb I ok q hA he qo
    exact ⟨h1, wpAny_BinOp h2⟩
theorem q_cmp {op : CmpOp} {f : Store → Sm.D → Sm.D → Option Sm.D} {a b : Expr} {ma mb : ME} {pos : Pos} (qo : QO g X (compareOp op) f) (hm : behindInMarks op b = false) (qa : QE g X scope own a ma) (qb : QE g X scope own b mb) : QE g X scope own (.Compare a [op] [b] pos) (eOp f ma mb) :=
  fun c pins σ s₁ s₂ e cenv A' E' m₂ d S' I ok q hA he => by
    obtain ⟨h1, h2⟩ := q_two (m₂ := m₂) qa qb I ok q hA he qo
    exact ⟨h1, wpAny_Compare1 h2 hm⟩
/-! the operators -/
theorem qo_cmpI {op : CmpOp} {f : Int → Int → Bool} (h : ∀ (i j : Int) (t u : Tok) (s : Shared) (A : Around) (Q : Value → Shared → Prop) (E : Value → Shared → Prop), Q (.bool (f i j)) s → wpAny (model X.prog X.w) A (compareOp op (.int i t) (.int j u)) Q E s) : QO g X (compareOp op) (cmpI f) := by
  intro c pins σ s₁ s₂ A' E' x y u w z I ok old hA ru rw' hz
  unfold cmpI at hz
  split at hz
  · cases hz
    rename_i a b
    obtain ⟨t, rfl⟩ := repU_int.mp ru
    obtain ⟨t', rfl⟩ := repU_int.mp rw'
    exact h _ _ _ _ _ _ _ _ ⟨repU_bl.mpr rfl, keepsR _⟩
  · cases hz
theorem qo_lt : QO g X (compareOp .Lt) oLt := qo_cmpI fun i j t u s A Q E q => lt_int q
theorem qo_le : QO g X (compareOp .LtE) oLe := qo_cmpI fun i j t u s A Q E q => le_int q
theorem qo_gt : QO g X (compareOp .Gt) oGt := qo_cmpI fun i j t u s A Q E q => gt_int q
theorem qo_ge : QO g X (compareOp .GtE) oGe := qo_cmpI fun i j t u s A Q E q => ge_int q
/-- ints in, an int out -/
theorem qo_intI {op : Operator} {f : Int → Int → Int} {C : Int → Int → Prop} {o : Store → Sm.D → Sm.D → Option Sm.D} (ho : ∀ S x y z, o S x y = some z → ∃ a b, x = .int a ∧ y = .int b ∧ C a b ∧ z = .int (f a b))
    (h : ∀ (i j : Int) (t u : Tok) (s : Shared) (A : Around) (Q : Value → Shared → Prop) (E : Value → Shared → Prop), C i j → Q (.int (f i j) s.toks) { s with toks := s.toks + 1 } → wpAny (model X.prog X.w) A (binaryOp op (.int i t) (.int j u)) Q E s) : QO g X (binaryOp op) o := by
  intro c pins σ s₁ s₂ A' E' x y u w z I ok old hA ru rw' hz
  obtain ⟨a, b, rfl, rfl, hc, rfl⟩ := ho _ _ _ _ hz
  obtain ⟨t, rfl⟩ := repU_int.mp ru
  obtain ⟨t', rfl⟩ := repU_int.mp rw'
  exact h _ _ _ _ _ _ _ _ hc ⟨repU_int.mpr ⟨_, rfl⟩, keepsT _ _⟩
theorem qo_div : QO g X (binaryOp .FloorDiv) oDiv := qo_intI (f := fun i j => i.fdiv j) (C := CDivN) (fun S x y z e => by
    unfold oDiv at e
    split at e
    · rename_i a b
      split at e
      · rename_i hb
        cases e
        exact ⟨_, _, rfl, rfl, ⟨by omega, by omega⟩, rfl⟩
      · cases e
    · cases e) fun i j t u s A Q E hc q => floordiv_int hc.1 q (.inl (PyProof.noPylong_small hc.2))
theorem qo_sub : QO g X (binaryOp .Sub) oSub := qo_intI (f := fun i j => i - j) (C := fun _ _ => True) (fun S x y z e => by
    unfold oSub at e
    split at e
    · cases e
      exact ⟨_, _, rfl, rfl, trivial, rfl⟩
    · cases e) fun i j t u s A Q E hc q => sub_int q
/-- a list's or tuple's items, at a later heap -/
theorem seeL {c : Ct} {pins : List (Addr × Obj)} {σ : L2.St} {s₁ s₂ : Shared} (I : Inv X pins σ c.H s₁) (ok : Ok g c) (old : ∀ a o ho, s₁.heap.get? a = some o → c.H a = some ho → nT ho → s₂.heap.get? a = some o) {x : Sm.D} {u : Value} {ds : List Sm.D} (r : RepU c x u) (e : view c.S x = .lst ds) :
    ∃ a its vs, u = .ref a ∧ Vals vs its ∧ RepL c ds vs ∧ PlainL s₂.heap a its.toArray ∧ its.length ≤ sizeLine := by
  obtain ⟨v, h1, h2⟩ := r
  obtain ⟨a, vs, rfl, h3, h4⟩ := see_lst ok h1 e
  obtain ⟨its, rv, pl, hz⟩ := I.list (.inl h3)
  obtain rfl : u = Value.ref a := h2
  obtain ⟨ho, h5, h6⟩ := rd_nTl h3
  obtain ⟨o, n, e1, e2⟩ := pl
  exact ⟨a, its, vs, rfl, rv, h4, ⟨o, n, old _ _ _ e1 h5 h6, e2⟩, by rw [← rv.length]; exact hz⟩
theorem seeT {c : Ct} {pins : List (Addr × Obj)} {σ : L2.St} {s₁ s₂ : Shared} (I : Inv X pins σ c.H s₁) (ok : Ok g c) (old : ∀ a o ho, s₁.heap.get? a = some o → c.H a = some ho → nT ho → s₂.heap.get? a = some o) {x : Sm.D} {u : Value} {ds : List Sm.D} (r : RepU c x u) (e : view c.S x = .tup ds) :
    ∃ a its vs, u = .ref a ∧ Vals vs its ∧ RepL c ds vs ∧ IsTup s₂.heap a its.toArray ∧ its.length ≤ sizeLine := by
  obtain ⟨v, h1, h2⟩ := r
  have ex : x = .tup ds := by
    cases x with
    | obj k =>
      obtain ⟨o, e1, e2⟩ := view_obj e (by intro z; cases z)
      have : ∀ o : Ob, o.val ≠ some (.tup ds) := by
        intro o
        induction o with
        | lck o ih => exact ih
        | _ => intro z; cases z
      exact absurd e2 (this o)
    | _ => exact e
  subst ex
  obtain ⟨a, vs, rfl, _, h3, h4⟩ := rep_tup.mp h1
  obtain ⟨its, rv, pl, hz⟩ := I.tuple (SqT.of h3)
  obtain rfl : u = Value.ref a := h2
  obtain ⟨o, e1, hc, n, e2⟩ := pl
  exact ⟨a, its, vs, rfl, rv, h4, ⟨o, old _ _ _ e1 h3 (fun ps z => by cases z), hc, n, e2⟩, by rw [← rv.length]; exact hz⟩
/-- o[i] -/
theorem q_ix {a b : Expr} {ma mb : ME} {pos : Pos} (hs : PlainIx b) (qa : QE g X scope own a ma) (qb : QE g X scope own b mb) : QE g X scope own (.Subscript a b pos) (eOp oIxQ ma mb) :=
  fun c pins σ s₁ s₂ e cenv A' E' m₂ d S' I ok q hA he => by
    have qo : QO g X (fun v u => subscriptTail a b v u) oIxQ := by
      intro c pins σ s₁ s₂ A' E' x y u w z I ok old hA ru rw' hz
      unfold oIxQ at hz
      split at hz
      · rename_i xs i ex
        obtain ⟨p, its, vs, rfl, rv, rl, pl, hsz⟩ := seeL I ok old ru ex
        obtain ⟨t, rfl⟩ := repU_int.mp rw'
        obtain ⟨v, hv, rv2⟩ : ∃ v, atI vs i = some v ∧ Rep c z v := by
          unfold atZ at hz
          unfold atI
          rw [ixZ_eq, repL_len rl]
          cases h : ixZ xs.length i with
          | none => rw [h] at hz; cases hz
          | some j =>
            rw [h] at hz
            obtain ⟨v, a1, a2⟩ := repL_get rl (show xs[j]? = some z from hz)
            exact ⟨v, a1, a2⟩
        obtain ⟨j, h1, h2, h3, h4, h5⟩ := atI_get hv
        obtain ⟨w, ew, rw2⟩ := rv.get h2
        have hl := rv.length
        have hn := line63
        have fin : RepU c z w ∧ Keeps s₂ s₂ := ⟨⟨v, rv2, rw2⟩, keepsR _⟩
        by_cases h0 : 0 ≤ i
        · have hj : i.toNat = j := by
            rw [seqIndex_of h0 h5] at h1
            exact Option.some.inj h1
          exact item_listR pl.isList h0 (by omega) (by rw [hj]; simpa using ew) fin (hs _ _)
        · have hj : (i + (its.toArray.size : Int)).toNat = j := by
            rw [seqIndex_neg (by omega) h4] at h1
            rw [List.size_toArray, ← hl]
            exact Option.some.inj h1
          exact subscriptTail_builtinR (x := w) pl.isList.typeIs slot_list_getitem.lookup
            (wpAny_getItem_list_neg (Q := fun r s' => r = w ∧ (RepU c z r ∧ Keeps s₂ s')) pl.isList (by omega) (by rw [List.size_toArray] <;> omega) (by omega) (by rw [hj]; simpa using ew) ⟨rfl, fin⟩) (hs _ _)
      · rename_i xs i ex
        obtain ⟨p, its, vs, rfl, rv, rl, pl, hsz⟩ := seeT I ok old ru ex
        obtain ⟨t, rfl⟩ := repU_int.mp rw'
        obtain ⟨v, hv, rv2⟩ : ∃ v, atI vs i = some v ∧ Rep c z v := by
          unfold atZ at hz
          unfold atI
          rw [ixZ_eq, repL_len rl]
          cases h : ixZ xs.length i with
          | none => rw [h] at hz; cases hz
          | some j =>
            rw [h] at hz
            obtain ⟨v, a1, a2⟩ := repL_get rl (show xs[j]? = some z from hz)
            exact ⟨v, a1, a2⟩
        obtain ⟨j, h1, h2, h3, h4, h5⟩ := atI_get hv
        obtain ⟨w, ew, rw2⟩ := rv.get h2
        have hl := rv.length
        have hn := line63
        have fin : RepU c z w ∧ Keeps s₂ s₂ := ⟨⟨v, rv2, rw2⟩, keepsR _⟩
        exact subscriptTail_builtinR (x := w) pl.typeIs slot_tuple_getitem.lookup
          (getItem_tuple (j := j) (Q := fun r s' => r = w ∧ (RepU c z r ∧ Keeps s₂ s')) pl (by omega) (by omega) (by rw [List.size_toArray, ← hl]; exact h1) (by simpa using ew) ⟨rfl, fin⟩) (hs _ _)
      · cases hz
    obtain ⟨h1, h2⟩ := q_two (m₂ := m₂) qa qb I ok q hA he qo
    exact ⟨h1, Subscript_ h2⟩
/-- a op b op' d -/
theorem q_chain {op op' : CmpOp} {f h : Store → Sm.D → Sm.D → Option Sm.D} {a b d : Expr} {ma mb mc : ME} {pos : Pos} (qo : QO g X (compareOp op) f) (qo' : QO g X (compareOp op') h) (hm : lastMarks [op, op'] [b, d] = false) (qa : QE g X scope own a ma) (qb : QE g X scope own b mb) (qc : QE g X scope own d mc) :
    QE g X scope own (.Compare a [op, op'] [b, d] pos) (eChain f h ma mb mc) := fun c pins σ s₁ s₂ e cenv A' E' m₂ r S' I ok q hA he => by
  unfold eChain at he
  cases h1 : ma e c.S with
  | bad => rw [h1] at he; cases he
  | exc k S => rw [h1] at he; cases he
  | ok x S1 =>
    rw [h1] at he
    obtain ⟨rfl, w1⟩ := qa c pins σ s₁ s₂ e cenv A' E' m₂ x S1 I ok q hA h1
    have he' : ((mb e c.S).bind fun y S2 => match f S2 x y with
      | some (.bl true) => (mc e S2).bind fun z S3 => ofO (h S3 y z) S3
      | some (.bl false) => .ok (.bl false) S2
      | _ => .bad) = .ok r S' := he
    cases h2 : mb e c.S with
    | bad => rw [h2] at he'; cases he'
    | exc k S => rw [h2] at he'; cases he'
    | ok y S2 =>
      rw [h2] at he'
      have e2 := (qb c pins σ s₁ s₂ e cenv A' E' m₂ y S2 I ok q hA h2).1
      subst e2
      have he2 : (match f c.S x y with
        | some (.bl true) => (mc e c.S).bind fun z S3 => ofO (h S3 y z) S3
        | some (.bl false) => .ok (.bl false) c.S
        | _ => .bad) = .ok r S' := he'
      split at he2
      · rename_i hf
        cases h3 : mc e c.S with
        | bad => rw [h3] at he2; cases he2
        | exc k S => rw [h3] at he2; cases he2
        | ok z S3 =>
          rw [h3] at he2
          have e3 := (qc c pins σ s₁ s₂ e cenv A' E' m₂ z S3 I ok q hA h3).1
          subst e3
          have he3 : ofO (h c.S y z) c.S = .ok r S' := he2
          cases h4 : h c.S y z with
          | none => rw [h4] at he3; cases he3
          | some t =>
            rw [h4] at he3
            cases he3
            refine ⟨rfl, Compare_chain (wpAny_mono w1 (fun v s₃ ⟨rv, k3⟩ => ?_) fun _ _ x => x) hm⟩
            have q3 := q.keeps k3
            refine chain_link (wpAny_mono (qb c pins σ s₁ s₃ e cenv A' E' m₂ y c.S I ok q3 hA h2).2 (fun u s₄ ⟨ru, k4⟩ => ?_) fun _ _ x => x)
            have q4 := q3.keeps k4
            refine wpAny_mono (qo c pins σ s₁ s₄ A' E' x y v u (.bl true) I ok q4.old hA rv ru hf) (fun b1 s₅ ⟨rb, k5⟩ => ?_) fun _ _ x => x
            obtain rfl := repU_bl.mp rb
            refine wpAny_truthy_bool ?_
            have q5 := q4.keeps k5
            refine ite_tt (chain_last (wpAny_mono (qc c pins σ s₁ s₅ e cenv A' E' m₂ z c.S I ok q5 hA h3).2 (fun t1 s₆ ⟨rt, k6⟩ => ?_) fun _ _ x => x))
            have q6 := q5.keeps k6
            exact wpAny_mono (qo' c pins σ s₁ s₆ A' E' y z u t1 r I ok q6.old hA ru rt h4) (fun b2 s₇ ⟨r2, k7⟩ => ⟨r2, keeps_trans k3 (keeps_trans k4 (keeps_trans k5 (keeps_trans k6 k7)))⟩) fun _ _ x => x
      · rename_i hf
        cases he2
        refine ⟨rfl, Compare_chain (wpAny_mono w1 (fun v s₃ ⟨rv, k3⟩ => ?_) fun _ _ x => x) hm⟩
        have q3 := q.keeps k3
        refine chain_link (wpAny_mono (qb c pins σ s₁ s₃ e cenv A' E' m₂ y c.S I ok q3 hA h2).2 (fun u s₄ ⟨ru, k4⟩ => ?_) fun _ _ x => x)
        have q4 := q3.keeps k4
        refine wpAny_mono (qo c pins σ s₁ s₄ A' E' x y v u (.bl false) I ok q4.old hA rv ru hf) (fun b1 s₅ ⟨rb, k5⟩ => ?_) fun _ _ x => x
        obtain rfl := repU_bl.mp rb
        exact wpAny_truthy_bool (ite_ff ⟨repU_bl.mpr rfl, keeps_trans k3 (keeps_trans k4 k5)⟩)
      · cases he2
theorem q_not {a : Expr} {m : ME} {pos : Pos} (qa : QE g X scope own a m) : QE g X scope own (.UnaryOp .Not a pos) (eUn uNot m) := fun c pins σ s₁ s₂ e cenv A' E' m₂ r S' I ok q hA he => by
  unfold eUn at he
  cases h1 : m e c.S with
  | bad => rw [h1] at he; cases he
  | exc k S => rw [h1] at he; cases he
  | ok x S1 =>
    rw [h1] at he
    obtain ⟨rfl, w1⟩ := qa c pins σ s₁ s₂ e cenv A' E' m₂ x S1 I ok q hA h1
    have he' : ofO (uNot c.S x) c.S = .ok r S' := he
    unfold uNot at he'
    cases x <;> first | (cases he'; done) | skip
    cases he'
    refine ⟨rfl, UnaryOp_ (wpAny_mono w1 (fun v s₃ ⟨rv, k3⟩ => ?_) fun _ _ x => x)⟩
    obtain rfl := repU_bl.mp rv
    exact not_of (wpAny_truthy_bool ⟨repU_bl.mpr rfl, k3⟩)
/-- a test -/
theorem qb_val {a : Expr} {m : ME} (hv : ∀ env whole, isTrue a env whole = (do let v ← whole; standAt a.pos; holding [v] (truthy v)) := by intro _ _; rfl) (qa : QE g X scope own a m) : QB g X scope own a (tB m) := fun c pins σ s₁ s₂ e cenv A' E' m₂ b S' I ok q hA he => by
  unfold tB at he
  cases h1 : m e c.S with
  | bad => rw [h1] at he; cases he
  | exc k S => rw [h1] at he; cases he
  | ok x S1 =>
    rw [h1] at he
    obtain ⟨rfl, w1⟩ := qa c pins σ s₁ s₂ e cenv A' E' m₂ x S1 I ok q hA h1
    cases x <;> first | (cases he; done) | skip
    cases he
    refine ⟨rfl, ?_⟩
    rw [hv]
    refine wpAny_bind (wpAny_mono w1 (fun v s₃ ⟨rv, k3⟩ => wpAny_bind (wpAny_standAt (wpAny_holding ?_))) fun _ _ x => x)
    obtain rfl := repU_bl.mp rv
    exact wpAny_truthy_bool ⟨rfl, k3⟩
end
end Sm
end

section
set_option Elab.async false
set_option linter.all false
set_option autoImplicit false
set_option maxRecDepth 100000
set_option maxHeartbeats 4000000
namespace Sm
open PySem PySem.Spec PyProof.Rows L2
/-! ### generator expressions -/
/-- the generator expression's own scope -/
structure GenOk (N : List Str) (sc scope : Scope) (own : List (Str × Nat)) : Prop where
  kind : scope.kind = .function
  co : scope.isCoroutine = false
  nocell : ∀ y ∈ scope.names, y.2 ≠ .cell
  dot : scope.names.lookup (".0" : Str) = some NameKind.local
  loc : ∀ p ∈ own, scope.names.lookup p.1 = some .local ∧ N[p.2]? = some p.1
  free : ∀ y ∈ scope.names, y.2 = .free → sc.names.lookup y.1 = some .cell ∨ sc.names.lookup y.1 = some .free
def genB (N : List Str) (sc scope : Scope) (own : List (Str × Nat)) : Bool :=
  decide (scope.kind = .function) && (!scope.isCoroutine && ((scope.names.all fun y => !decide (y.2 = .cell)) && (decide (scope.names.lookup (".0" : Str) = some NameKind.local) && ((own.all fun p => decide (scope.names.lookup p.1 = some .local) && decide (N[p.2]? = some p.1)) &&
    (scope.names.all fun y => !decide (y.2 = .free) || decide (sc.names.lookup y.1 = some .cell) || decide (sc.names.lookup y.1 = some .free))))))
theorem genOk_by {N : List Str} {sc scope : Scope} {own : List (Str × Nat)} (h : genB N sc scope own = true) : GenOk N sc scope own := by
  unfold genB at h
  simp only [Bool.and_eq_true, Bool.or_eq_true, Bool.not_eq_true', decide_eq_true_eq, decide_eq_false_iff_not, List.all_eq_true] at h
  obtain ⟨h1, h2, h3, h4, h5, h6⟩ := h
  refine ⟨h1, h2, h3, h4, h5, fun y hy e => ?_⟩
  rcases h6 y hy with (z | z) | z
  · exact absurd e z
  · exact .inl z
  · exact .inr z
/-- what passes, and what it gives -/
def pzOf (f : Sm.D → Option (Option Sm.D)) (ds : List Sm.D) (i : Nat) : Bool := match ds[i]? with
  | some x => match f x with
    | some (some _) => true
    | _ => false
  | none => false
theorem pz_succ {f : Sm.D → Option (Option Sm.D)} {x : Sm.D} {xs : List Sm.D} : (pzOf f (x :: xs) ∘ Nat.succ) = pzOf f xs := by
  funext i
  show pzOf f (x :: xs) (i + 1) = pzOf f xs i
  unfold pzOf
  rw [List.getElem?_cons_succ]
theorem genL_pass {f : Sm.D → Option (Option Sm.D)} : ∀ {ds ys : List Sm.D}, genL f ds = some ys → ((List.range ds.length).filter (pzOf f ds)).map (fun i => (ds[i]?.bind f).bind id) = ys.map some
  | [], ys, h => by cases h; rfl
  | x :: xs, ys, h => by
    unfold genL at h
    have step : ((List.range (x :: xs).length).filter (pzOf f (x :: xs))) = (if pzOf f (x :: xs) 0 = true then [0] else []) ++ ((List.range xs.length).filter (pzOf f xs)).map Nat.succ := by
      rw [List.length_cons, List.range_succ_eq_map, List.filter_cons, List.filter_map, pz_succ]
      split <;> simp
    have tail : ∀ l : List Nat, (l.map Nat.succ).map (fun i => ((x :: xs)[i]?.bind f).bind id) = l.map (fun i => (xs[i]?.bind f).bind id) := fun l => by
      rw [List.map_map]
      rfl
    rw [step, List.map_append, tail]
    split at h
    · rename_i y hy
      cases h2 : genL f xs with
      | none => rw [h2] at h; cases h
      | some zs =>
        rw [h2] at h
        cases h
        rw [genL_pass h2]
        have p0 : pzOf f (x :: xs) 0 = true := by unfold pzOf; simp only [List.getElem?_cons_zero, hy]
        rw [if_pos p0]
        simp [hy]
    · rename_i hy
      rw [genL_pass h]
      have p0 : pzOf f (x :: xs) 0 = false := by unfold pzOf; simp only [List.getElem?_cons_zero, hy]
      rw [p0]
      simp
    · cases h
theorem genL_all {f : Sm.D → Option (Option Sm.D)} : ∀ {ds ys : List Sm.D}, genL f ds = some ys → ∀ (i : Nat) (x : Sm.D), ds[i]? = some x → ∃ r, f x = some r
  | [], ys, h, i, x, e => by simp at e
  | d :: ds, ys, h, i, x, e => by
    unfold genL at h
    cases i with
    | zero =>
      have e' : d = x := by simpa using e
      subst e'
      split at h
      · exact ⟨_, by assumption⟩
      · exact ⟨_, by assumption⟩
      · cases h
    | succ i =>
      have e' : ds[i]? = some x := by simpa using e
      split at h
      · cases h2 : genL f ds with
        | none => rw [h2] at h; cases h
        | some zs => exact genL_all h2 i x e'
      · exact genL_all h i x e'
      · cases h
theorem pass_get {f : Sm.D → Option (Option Sm.D)} {ds ys : List Sm.D} (h : genL f ds = some ys) : (passing (pzOf f ds) ds.length 0).length = ys.length ∧ ∀ j i : Nat, (passing (pzOf f ds) ds.length 0)[j]? = some i → ∃ x y, ds[i]? = some x ∧ f x = some (some y) ∧ ys[j]? = some y := by
  have h1 := genL_pass h
  have e : passing (pzOf f ds) ds.length 0 = (List.range ds.length).filter (pzOf f ds) := by unfold passing; rw [List.drop_zero]
  rw [e]
  refine ⟨by have := congrArg List.length h1; simpa using this, fun j i hj => ?_⟩
  have h2 : ys.map some = _ := h1.symm
  have h3 : (ys.map some)[j]? = some ((ds[i]?.bind f).bind id) := by rw [h2, List.getElem?_map, hj]; rfl
  have hm := List.mem_of_getElem? hj
  have hp := (List.mem_filter.mp hm).2
  unfold pzOf at hp
  cases hx : ds[i]? with
  | none => rw [hx] at hp; cases hp
  | some x =>
    simp only [hx] at hp
    cases hf : f x with
    | none => rw [hf] at hp; cases hp
    | some r =>
      cases r with
      | none => rw [hf] at hp; cases hp
      | some y =>
        refine ⟨x, y, rfl, hf, ?_⟩
        rw [hx] at h3
        have h4 : (ys.map some)[j]? = some (some y) := by rw [h3]; show some ((f x).bind id) = _; rw [hf]; rfl
        rw [List.getElem?_map] at h4
        cases hy : ys[j]? with
        | none => rw [hy] at h4; cases h4
        | some z => rw [hy] at h4; cases h4; rfl
/-- the generator, ready to be walked -/
def ReadyG (g : Gx) (X : Cx) (pins : List (Addr × Obj)) (σ : L2.St) (c : Ct) (ys : List Sm.D) (ga : Addr) (s5 : Shared) : Prop :=
  ∃ (fp wr : List Addr) (G : Array GenState → Array GenState → Prop) (F : Nat → Value → Prop) (St : Nat → Shared → Prop),
    WalksS X.prog X.w X.A.in1 ga fp wr G ys.length F St ∧ St 0 s5 ∧ (∀ b ∈ fp, b < s5.heap.objs.size) ∧ (∀ j v, F j v → ∃ d, ys[j]? = some d ∧ RepU c d v) ∧
    ∀ s', Moved wr G s5 s' → ∃ c2, Inv X pins σ c2.H s' ∧ Ok g c2 ∧ Le c c2 ∧ RsE c2 c ∧ c2.S = c.S
/-! ### the table behind it -/
theorem upd_id {H : Hp} {P : Addr} {o : HO} (h : H P = some o) : upd H P o = H := funext fun b => by
  by_cases z : b = P
  · subst z; rw [upd_same, h]
  · rw [upd_ne z]
theorem app_empty (ps : Array Value) : ps ++ #[] = ps := by simp
/-- behind it: the table as it was, or one code more -/
theorem gen_after {g : Gx} {X : Cx} {pins : List (Addr × Obj)} {σ : L2.St} {c : Ct} {s1 s' : Shared} {P : Addr} {q : Str} {ps ps' : Array Value} {gpos : Pos} (I : Inv X pins σ c.H s1) (ok : Ok g c) (hmT : (P, q) ∈ g.tabs) (hu : ∀ p ∈ g.tabs, p.1 = P → p.2 = q) (hP : c.H P = some (.tbl ps)) (ht : TriplesOk ps.toList)
    (ha : ∀ (pos : Pos) (cv : Value), codeAmong pos ps.toList = some cv → ∃ c0, cv = .ref c0 ∧ c.H c0 = some (LamX.CodeO c0 q)) (k : ∀ b o, b ≠ P → s1.heap.get? b = some o → s'.heap.get? b = some o) (hm : s'.heap.get? P = some { cls := .none, data := .fields ps' }) (hg : AllBare s'.gens) (hos : s'.os = s1.os)
    (hnew : ps' = ps ∨ ∃ c', ps' = ps ++ #[rawInt gpos.line, rawInt gpos.col, .ref c'] ∧ s1.heap.objs.size ≤ c' ∧ ∃ (oc : Obj) (vs : Array Value) (t : Tok), s'.heap.get? c' = some oc ∧ oc.data = .fields vs ∧ vs[1]? = some (.str q t)) :
    ∃ c2, Inv X pins σ c2.H s' ∧ Ok g c2 ∧ Le c c2 ∧ RsE c2 c ∧ c2.S = c.S := by
  rcases hnew with rfl | ⟨c', rfl, hge, hrec⟩
  · have J := GxR.inv_tab (more := #[]) (h' := s'.heap) (g' := s'.gens) (d' := s'.drawn) (t' := s'.toks) I hP k (by rw [app_empty]; exact hm) hg
    rw [GxR.sh_eta s1 s' hos, app_empty, upd_id hP] at J
    exact ⟨c, J, ok, Le.refl c, RsE.refl c, rfl⟩
  · have J1 := LamX.inv_table (t' := s'.toks) I hP k hm hge hrec
    have nC : c.H c' = none := I.hok.fresh hge
    have nPc : P ≠ c' := ne_of_none hP nC
    have hP2 : upd (upd c.H P (.tbl (ps ++ #[rawInt gpos.line, rawInt gpos.col, .ref c']))) c' (LamX.CodeO c' q) P = some (.tbl (ps ++ #[rawInt gpos.line, rawInt gpos.col, .ref c'])) := by rw [upd_ne nPc, upd_same]
    have J := GxR.inv_tab (more := #[]) (h' := s'.heap) (g' := s'.gens) (d' := s'.drawn) (t' := s'.toks) J1 hP2 (fun b u _ e => e) (by rw [app_empty]; exact hm) hg
    have J' : Inv X pins σ (upd (upd (upd c.H P (.tbl (ps ++ #[rawInt gpos.line, rawInt gpos.col, .ref c']))) c' (LamX.CodeO c' q)) P (.tbl (ps ++ #[rawInt gpos.line, rawInt gpos.col, .ref c'] ++ #[]))) ({ s1 with heap := s'.heap, gens := s'.gens, drawn := s'.drawn, toks := s'.toks } : Shared) := J
    rw [GxR.sh_eta s1 s' hos, app_empty, upd_id hP2] at J'
    have hE : LamX.ExtN c.H (upd (upd c.H P (.tbl (ps ++ #[rawInt gpos.line, rawInt gpos.col, .ref c']))) c' (LamX.CodeO c' q)) := fun b o e n => by
      rw [upd_ne (ne_of_none e nC), upd_ne (fun z => n ps (Option.some.inj (e.symm.trans (by rw [z]; exact hP))))]
      exact e
    have eL : (ps ++ #[rawInt gpos.line, rawInt gpos.col, .ref c']).toList = ps.toList ++ [rawInt gpos.line, rawInt gpos.col, .ref c'] := by simp
    have T1 : LamX.Tabs g.tabs (upd (upd c.H P (.tbl (ps ++ #[rawInt gpos.line, rawInt gpos.col, .ref c']))) c' (LamX.CodeO c' q)) := fun p hp => by
      by_cases hb : p.1 = P
      · rw [hu p hp hb, hb]
        refine ⟨_, hP2, by rw [eL]; exact PySem.TriplesOk_snoc _ _ _ _ ht, fun p' cv hcv => ?_⟩
        rw [eL] at hcv
        rcases LamX.among_app _ ht hcv with z | z
        · obtain ⟨c0, e1, e2⟩ := ha p' cv z
          exact ⟨c0, e1, hE _ _ e2 LamX.codeO_ne⟩
        · exact ⟨c', z, upd_same⟩
      · obtain ⟨ps', a1, a2, a3⟩ := ok.tabs p hp
        refine ⟨ps', by rw [upd_ne (ne_of_none a1 nC), upd_ne hb]; exact a1, a2, fun p' cv hcv => ?_⟩
        obtain ⟨c0, e1, e2⟩ := a3 p' cv hcv
        exact ⟨c0, e1, hE _ _ e2 LamX.codeO_ne⟩
    obtain ⟨ok2, l2, r2⟩ := ext_ok ok hE T1
    exact ⟨_, J', ok2, l2, r2, rfl⟩
/-- tests of a generator expression: none or one -/
def QI (g : Gx) (X : Cx) (scope : Scope) (own : List (Str × Nat)) (ifs : List Expr) (mt : MB) : Prop := (ifs = [] ∧ mt = tYes) ∨ ∃ t, ifs = [t] ∧ QB g X scope own t mt
theorem qi_run {g : Gx} {X : Cx} {scope : Scope} {own : List (Str × Nat)} {ifs : List Expr} {mt : MB} (h : QI g X scope own ifs mt) {c : Ct} {pins : List (Addr × Obj)} {σ : L2.St} {s₁ s₂ : Shared} {e : Sm.Env} {cenv : PySem.Env} {A' : Around} {E' : Value → Shared → Prop} {m₂ : Str → Option Value} {b : Bool} {S' : Store}
    (I : Inv X pins σ c.H s₁) (ok : Ok g c) (q : Qp X c own scope e cenv s₁ s₂ m₂) (hA : A'.handled = none) (he : mt e c.S = .ok b S') :
    S' = c.S ∧ wpAny (model X.prog X.w) A' (forIn ifs true fun c r => if r = true then do let ok ← isTrue c cenv (eval c cenv); pure (ForInStep.yield ok) else pure (ForInStep.yield r)) (fun ok s₃ => ok = b ∧ Keeps s₂ s₃) E' s₂ := by
  rcases h with ⟨rfl, rfl⟩ | ⟨t, rfl, hb⟩
  · cases he
    refine ⟨rfl, ?_⟩
    simp only [List.forIn_nil]
    exact wpAny_pure ⟨rfl, keepsR _⟩
  · obtain ⟨h1, h2⟩ := hb c pins σ s₁ s₂ e cenv A' E' m₂ b S' I ok q hA he
    refine ⟨h1, ?_⟩
    simp only [List.forIn_cons, List.forIn_nil, if_true]
    exact wpAny_bind (wpAny_bind (wpAny_mono h2 (fun y s₃ ⟨e1, k⟩ => wpAny_pure (wpAny_pure ⟨e1, k⟩)) fun _ _ x => x))
/-- the place of an element -/
theorem qp_make {g : Gx} {X : Cx} {pins : List (Addr × Obj)} {σ : L2.St} {c : Ct} {own : List (Str × Nat)} {scope : Scope} {e e1 : Sm.Env} {cenv : PySem.Env} {s1 s₂ : Shared} {m₂ : Str → Option Value} {P : Addr} {ps : Array Value} (I : Inv X pins σ c.H s1) (er : EnvR c e σ) (S : GenOk X.N X.env.scope scope own)
    (hcs : cenv.scope = scope) (hcc : cenv.cells = cloFrom X.env.cells scope.names []) (hgl : cenv.globals = X.env.globals) (hbt : cenv.builtins = builtinsNs) (ns : s₂.heap.Ns cenv.locals m₂) (hown : ∀ p ∈ own, ∃ (d : Sm.D) (u : Value), e1[p.2]? = some (some d) ∧ m₂ p.1 = some u ∧ RepU c d u) (heq : ∀ i : Nat, i ∉ own.map (·.2) → e1[i]? = e[i]?)
    (hP : c.H P = some (.tbl ps)) (kp : ∀ b o, b ≠ P → s1.heap.get? b = some o → s₂.heap.get? b = some o) : Qp X c own scope e1 cenv s1 s₂ m₂ where
  sc := hcs
  kind := S.kind
  ns := ns
  own := hown
  cell := fun y i d hN hfree he1 => by
    have hy : (y, NameKind.free) ∈ scope.names := PySem.mem_of_lookup hfree
    have hi : i ∉ own.map (·.2) := fun hm => by
      obtain ⟨p, hp, rfl⟩ := List.mem_map.mp hm
      obtain ⟨h1, h2⟩ := S.loc p hp
      rw [h2] at hN
      have e : p.1 = y := Option.some.inj hN
      rw [e, hfree] at h1
      cases h1
    rw [heq i hi] at he1
    obtain ⟨v, hv1, hv2⟩ := er.2 i d he1
    obtain ⟨m, hn, hl⟩ := I.loc
    have vis : Vis X.env.scope y := (S.free _ hy rfl).elim (fun k => .inr (.inl k)) (fun k => .inr (.inr k))
    obtain ⟨u, ru, hlook⟩ := hl i y v hN hv1 vis
    rcases hlook with ⟨k, _⟩ | ⟨_, cl, hcl, hcell⟩
    · have k' : X.env.scope.names.lookup y = some .local := k
      rcases S.free _ hy rfl with z | z
      · rw [show X.env.scope.names.lookup y = _ from z] at k'; cases k'
      · rw [show X.env.scope.names.lookup y = _ from z] at k'; cases k'
    · obtain ⟨c2, h2⟩ : ∃ c2, (cloFrom X.env.cells scope.names []).lookup y = some c2 := mem_lookup (cloFrom_has (cells := X.env.cells) (acc := []) hy)
      have e2 : c2 = cl := by
        rcases cloFrom_mem (PySem.mem_of_lookup h2) with hm | ⟨_, h3⟩
        · cases hm
        · rw [h3, hcl] <;> rfl
      obtain ⟨o, ho, hd⟩ := hcell
      have hne : cl ≠ P := fun z => by
        have hPs : s1.heap.get? P = some { cls := .none, data := .fields ps } := I.hok P _ hP
        rw [z, hPs] at ho
        cases ho
        cases hd
      exact ⟨cl, u, by rw [hcc, ← e2]; exact h2, ⟨o, kp _ _ hne ho, hd⟩, v, hv2, ru⟩
  old := fun a o ho h1 h2 h3 => kp a o (fun z => by subst z; rw [hP] at h2; exact h3 _ (Option.some.inj h2).symm) h1
  gl := by rw [hgl, I.ok.glob]
  bt := hbt
  bs := fun b o h1 => kp b o (fun z => by have := (I.bs b o h1).2; rw [z, hP] at this; cases this) (I.bk b o h1)
theorem gen_core1 {g : Gx} {X : Cx} {pins : List (Addr × Obj)} {σ : L2.St} {c : Ct} {e : Sm.Env} {s1 : Shared} {elt : Expr} {ifs : List Expr} {scope : Scope} {x : Str} {j : Nat} {gpos : Pos} {cA P : Addr} {me : ME} {mt : MB} {Q' : Value → Shared → Prop} {ds ys : List Sm.D} {vs : List V} {its : List Value} {a : Addr} {o : Obj} {St : Nat → Heap → Prop}
    (TB : LamX.TabB X.base X.mg cA P) (hcode : X.env.code = .ref cA) (hmT : (P, X.env.qual ++ "<genexpr>") ∈ g.tabs) (hu : ∀ p ∈ g.tabs, p.1 = P → p.2 = X.env.qual ++ "<genexpr>") (S : GenOk X.N X.env.scope scope [(x, j)]) (hel : QE g X scope [(x, j)] elt me) (hif : QI g X scope [(x, j)] ifs mt)
    (I1 : Inv X pins σ c.H s1) (ok : Ok g c) (er : EnvR c e σ) (rv : Vals vs its) (rl : RepL c ds vs) (hat : a < s1.heap.objs.size) (haP : ∀ ps, s1.heap.get? a ≠ some { cls := .none, data := .fields ps })
    (hW : ∀ A' : Around, A'.handled = none → Walks X.prog X.w A' s1.heap.objs.size [s1.heap.objs.size, a] [s1.heap.objs.size] its.toArray.size (fun i v => its.toArray[i]? = some v) St)
    (hSt : ∀ h : Heap, (∀ b u, b ≠ P → (s1.heap.push o).get? b = some u → h.get? b = some u) → St 0 h) (hg : genL (turnG (gN j) mt me e c.S) ds = some ys) (hQ : ∀ ga s5, ReadyG g X pins σ c ys ga s5 → Q' (.ref ga) s5) :
    ({ s1 with heap := s1.heap.push o } : Shared).heap.NoLimit ∧ wpAny (model X.prog X.w) X.A (genexprCode X.env gpos (X.env.qual ++ "<genexpr>") scope) (fun code s₃ => wpAny (model X.prog X.w) X.A (builtinsFor X.env.globals X.env.builtins) (fun bi s₄ =>
        ∃ Ia fp wr n₀ Pf St₀ pz F, Value.ref s1.heap.objs.size = .ref Ia ∧ (∀ A' : Around, A'.handled = none → Walks X.prog X.w A' Ia fp wr n₀ Pf St₀) ∧ St₀ 0 s₄.heap ∧ (∀ b ∈ fp, b < s₄.heap.objs.size) ∧ s₄.heap.NoLimit ∧ cStatics ∉ wr ∧
          (∀ href : Heap, (∀ b o, s₄.heap.get? b = some o → href.get? b = some o) →
            QuietGen X.prog X.w (genEnv scope (cloFrom X.env.cells scope.names []) s₄.heap.objs.size code bi X.env) x ifs elt (List.range s₄.heap.objs.size) wr Pf pz F href) ∧
          (∀ a h₅ tk gs, gs.bare = true → s₄.heap.objs.size < a → h₅.objs.size = a + 1 → (∀ b o, s₄.heap.get? b = some o → h₅.get? b = some o) →
            WalksS X.prog X.w X.A.in4 a (a :: s₄.heap.objs.size :: List.range s₄.heap.objs.size) (s₄.heap.objs.size :: wr) (GenOnlyQ s₄.gens.size) (passing pz n₀ 0).length
              (fun j y => ∃ i, (passing pz n₀ 0)[j]? = some i ∧ F i y) (GenAt X.prog X.w X.A.in4 a s₄.gens.size s₄.heap.objs.size (List.range s₄.heap.objs.size) wr pz n₀ F) →
            GenAt X.prog X.w X.A.in4 a s₄.gens.size s₄.heap.objs.size (List.range s₄.heap.objs.size) wr pz n₀ F 0 { s₄ with gens := s₄.gens.push gs, toks := tk, heap := h₅ } →
            Q' (.ref a) { s₄ with gens := s₄.gens.push gs, toks := tk, heap := h₅ })) X.xe s₃) X.xe { s1 with heap := s1.heap.push o } := by
  obtain ⟨ps, hP, ht, ha⟩ := ok.tabs _ hmT
  have hPs : s1.heap.get? P = some { cls := .none, data := .fields ps } := I1.hok P _ hP
  have hPlt : P < s1.heap.objs.size := Heap.lt_size hPs
  have hP2 : (s1.heap.push o).get? P = some { cls := .none, data := .fields ps } := Heap.get?_push_of_some _ hPs
  have cd : PySem.W.CodeHd (s1.heap.push o) cA P := TB.code.keeps fun b u e => Heap.get?_push_of_some _ (I1.bk b u e)
  have lim2 : (s1.heap.push o).NoLimit := I1.nolimit.push o
  have haNe : a ≠ P := fun z => haP ps (by rw [z]; exact hPs)
  obtain ⟨hxl, hxN⟩ := S.loc (x, j) List.mem_cons_self
  have hjlt : j < e.length := by
    rw [er.1, I1.len]
    exact (List.getElem?_eq_some_iff.mp hxN).1
  have hlen : ds.length = its.toArray.size := by rw [List.size_toArray, ← rv.length, repL_len rl]
  have hitem : ∀ (i : Nat) (v : Value), its.toArray[i]? = some v → ∃ d, ds[i]? = some d ∧ RepU c d v := fun i v hv => by
    have hv2 : its[i]? = some v := by simpa using hv
    have hi2 : i < its.length := (List.getElem?_eq_some_iff.mp hv2).1
    have hi3 : i < ds.length := by rw [hlen, List.size_toArray]; exact hi2
    obtain ⟨w, h1, h2⟩ := repL_get rl (List.getElem?_eq_getElem hi3)
    obtain ⟨u, h3, h4⟩ := rv.get h1
    rw [hv2] at h3
    cases h3
    exact ⟨ds[i], List.getElem?_eq_getElem hi3, w, h2, h4⟩
  have cont : ∀ (code : Value) (h3 : Heap) (tk : Nat) (ps' : Array Value), Heap.ExtBut P (s1.heap.push o) h3 → (s1.heap.push o).objs.size ≤ h3.objs.size → h3.get? P = some { cls := .none, data := .fields ps' } →
      (ps' = ps ∨ ∃ c', ps' = ps ++ #[rawInt gpos.line, rawInt gpos.col, .ref c'] ∧ (s1.heap.push o).objs.size ≤ c' ∧ c' < h3.objs.size ∧ ∃ (oc : Obj) (vs : Array Value) (t : Tok), h3.get? c' = some oc ∧ oc.data = .fields vs ∧ vs[1]? = some (.str (X.env.qual ++ "<genexpr>") t)) →
      wpAny (model X.prog X.w) X.A (builtinsFor X.env.globals X.env.builtins) (fun bi s₄ =>
        ∃ Ia fp wr n₀ Pf St₀ pz F, Value.ref s1.heap.objs.size = .ref Ia ∧ (∀ A' : Around, A'.handled = none → Walks X.prog X.w A' Ia fp wr n₀ Pf St₀) ∧ St₀ 0 s₄.heap ∧ (∀ b ∈ fp, b < s₄.heap.objs.size) ∧ s₄.heap.NoLimit ∧ cStatics ∉ wr ∧
          (∀ href : Heap, (∀ b o, s₄.heap.get? b = some o → href.get? b = some o) →
            QuietGen X.prog X.w (genEnv scope (cloFrom X.env.cells scope.names []) s₄.heap.objs.size code bi X.env) x ifs elt (List.range s₄.heap.objs.size) wr Pf pz F href) ∧
          (∀ a h₅ tk gs, gs.bare = true → s₄.heap.objs.size < a → h₅.objs.size = a + 1 → (∀ b o, s₄.heap.get? b = some o → h₅.get? b = some o) →
            WalksS X.prog X.w X.A.in4 a (a :: s₄.heap.objs.size :: List.range s₄.heap.objs.size) (s₄.heap.objs.size :: wr) (GenOnlyQ s₄.gens.size) (passing pz n₀ 0).length
              (fun j y => ∃ i, (passing pz n₀ 0)[j]? = some i ∧ F i y) (GenAt X.prog X.w X.A.in4 a s₄.gens.size s₄.heap.objs.size (List.range s₄.heap.objs.size) wr pz n₀ F) →
            GenAt X.prog X.w X.A.in4 a s₄.gens.size s₄.heap.objs.size (List.range s₄.heap.objs.size) wr pz n₀ F 0 { s₄ with gens := s₄.gens.push gs, toks := tk, heap := h₅ } →
            Q' (.ref a) { s₄ with gens := s₄.gens.push gs, toks := tk, heap := h₅ })) X.xe { s1 with heap := h3, toks := tk } := by
    intro code h3 tk ps' hx hsz hP3 hmore
    obtain ⟨bm, ob, e1, e2, e3, e4, e5, e6, e7, e8⟩ := TB.bm
    have hcP : cStatics ≠ P := fun e => by
      obtain ⟨_, hns, _⟩ := I1.nolimit
      obtain ⟨o', es, ep, ho, hd, _⟩ := hns
      rw [e, hPs] at ho
      cases ho
      cases hd
    have hcl : cStatics < s1.heap.objs.size := let ⟨_, hns, _⟩ := I1.nolimit; hns.lt
    have sz2 : (s1.heap.push o).objs.size = s1.heap.objs.size + 1 := Heap.size_push ..
    have keep3 : ∀ b u, b ≠ P → s1.heap.get? b = some u → h3.get? b = some u := fun b u hb e => hx b u hb (Heap.get?_push_of_some _ e)
    refine wpAny_builtinsFor (m := X.mg) (by rw [I1.ok.glob]; exact ((I1.mod.glob.keeps I1.bk).push o).extBut hx TB.gP) e1 e2 (keep3 _ _ e4 (I1.bk _ _ e5)) e6 e7 e8 ?_
    refine ⟨s1.heap.objs.size, [s1.heap.objs.size, a], [s1.heap.objs.size], its.toArray.size, (fun i v => its.toArray[i]? = some v), St, pzOf (turnG (gN j) mt me e c.S) ds,
      (fun i y => ∃ d0 d, ds[i]? = some d0 ∧ turnG (gN j) mt me e c.S d0 = some (some d) ∧ RepU c d y), rfl, hW, hSt h3 (fun b u hb e => hx b u hb e), ?_, lim2.extBut hx hcP, ?_, ?_, ?_⟩
    · intro b hb
      show b < h3.objs.size
      have e9 : (s1.heap.objs.size : Nat) < h3.objs.size := by omega
      rcases List.mem_cons.mp hb with z | z
      · rw [z]; exact e9
      · rcases List.mem_cons.mp z with z | z
        · rw [z]; exact Nat.lt_trans hat e9
        · cases z
    · intro z
      rcases List.mem_cons.mp z with z | z
      · exact Nat.ne_of_lt hcl z
      · cases z
    · intro href hhref
      have kp2 : ∀ {s₂ : Shared}, (∀ b ∈ List.range h3.objs.size, b ∉ [s1.heap.objs.size] → ∀ o, href.get? b = some o → s₂.heap.get? b = some o) → ∀ b u, b ≠ P → s1.heap.get? b = some u → s₂.heap.get? b = some u := fun {s₂} hk b u hb e1 => by
        have hlt := Heap.lt_size e1
        refine hk b (List.mem_range.mpr (Nat.lt_of_lt_of_le hlt (show (s1.heap.objs.size : Nat) ≤ h3.objs.size by omega))) (fun z => ?_) u (hhref _ _ (keep3 b u hb e1))
        rcases List.mem_cons.mp z with z | z
        · rw [z] at hlt; exact Nat.lt_irrefl _ hlt
        · cases z
      have place : ∀ {s₂ : Shared} {m₂ : Str → Option Value} {i : Nat} {v : Value} {d0 : Sm.D}, s₂.heap.Ns (genEnv scope (cloFrom X.env.cells scope.names []) h3.objs.size code builtinsNs X.env).locals m₂ → m₂ x = some v → RepU c d0 v →
          (∀ b ∈ List.range h3.objs.size, b ∉ [s1.heap.objs.size] → ∀ o, href.get? b = some o → s₂.heap.get? b = some o) → Qp X c [(x, j)] scope (e.set j (some d0)) (genEnv scope (cloFrom X.env.cells scope.names []) h3.objs.size code builtinsNs X.env) s1 s₂ m₂ := fun {s₂ m₂ i v d0} hn hm hr hk =>
        qp_make (g := g) I1 er S rfl rfl rfl rfl hn (fun p hp => by
          rcases List.mem_cons.mp hp with z | z
          · subst z
            exact ⟨d0, v, List.getElem?_set_self hjlt, hm, hr⟩
          · cases z) (fun i hi => List.getElem?_set_ne fun z => hi (by rw [← z]; exact List.mem_cons_self)) hP (kp2 hk)
      refine ⟨fun A' E' i v s₂ m₂ hA hPv hn hm hk => ?_, fun A' E' i v s₂ m₂ hA hPv hp hn hm hk => ?_⟩
      · obtain ⟨d0, hd0, hr0⟩ := hitem i v hPv
        obtain ⟨r, hr⟩ := genL_all hg i d0 hd0
        have q := place (i := i) hn hm hr0 hk
        unfold turnG gN at hr
        cases h1 : mt (e.set j (some d0)) c.S with
        | bad => simp only [h1] at hr; cases hr
        | exc k S => simp only [h1] at hr; cases hr
        | ok b S' =>
          refine wpAny_mono (qi_run hif (m₂ := m₂) I1 ok q hA h1).2 (fun y s3 ⟨e9, k9⟩ => ⟨?_, k9⟩) fun _ _ e => e
          subst e9
          unfold pzOf turnG gN
          simp only [hd0, h1]
          cases y with
          | false => rfl
          | true =>
            simp only [h1] at hr
            cases h2 : me (e.set j (some d0)) c.S with
            | bad => simp only [h2] at hr; cases hr
            | exc k S => simp only [h2] at hr; cases hr
            | ok d S => simp only [h2]
      · obtain ⟨d0, hd0, hr0⟩ := hitem i v hPv
        have q := place (i := i) hn hm hr0 hk
        unfold pzOf at hp
        simp only [hd0] at hp
        cases hf : turnG (gN j) mt me e c.S d0 with
        | none => rw [hf] at hp; cases hp
        | some r =>
          cases r with
          | none => rw [hf] at hp; cases hp
          | some d =>
            have hf0 := hf
            unfold turnG gN at hf
            cases h1 : mt (e.set j (some d0)) c.S with
            | bad => simp only [h1] at hf; cases hf
            | exc k S => simp only [h1] at hf; cases hf
            | ok b S' =>
              cases b with
              | false => simp only [h1] at hf; cases hf
              | true =>
                simp only [h1] at hf
                cases h2 : me (e.set j (some d0)) c.S with
                | bad => simp only [h2] at hf; cases hf
                | exc k S => simp only [h2] at hf; cases hf
                | ok d1 S =>
                  simp only [h2] at hf
                  cases hf
                  exact wpAny_mono (hel c pins σ s1 s₂ _ _ A' E' m₂ d S I1 ok q hA h2).2 (fun y s3 ⟨r9, k9⟩ => ⟨⟨d0, d, hd0, hf0, r9⟩, k9⟩) fun _ _ e => e
    · intro ga h5 tk5 gs hgb hag hsz5 hk5 W5 hgat
      rw [← hlen] at W5 hgat
      obtain ⟨p1, p2⟩ := pass_get hg
      rw [p1] at W5
      refine hQ ga _ ⟨_, _, _, _, _, W5.in4_1, hgat, ?_, fun j' v hv => ?_, fun s' hm => ?_⟩
      · intro b hb
        show b < h5.objs.size
        have e5 : h5.objs.size = ga + 1 := hsz5
        have h8 : h3.objs.size < ga := hag
        rw [e5]
        rcases List.mem_cons.mp hb with z | z
        · rw [z]
          exact Nat.lt_succ_self ga
        · rcases List.mem_cons.mp z with z | z
          · rw [z]
            exact Nat.lt_succ_of_lt h8
          · have z2 := List.mem_range.mp z
            have h7 : b < h3.objs.size := z2
            exact Nat.lt_succ_of_lt (Nat.lt_trans h7 h8)
      · obtain ⟨i, hij, d0, d, hd0, hf, hr⟩ := hv
        obtain ⟨x', y', hx', hf', hy'⟩ := p2 j' i hij
        rw [hd0] at hx'
        cases hx'
        rw [hf] at hf'
        cases hf'
        exact ⟨d, hy', hr⟩
      · have nwr : ∀ b u, s1.heap.get? b = some u → b ∉ h3.objs.size :: [s1.heap.objs.size] := fun b u e hb => by
          have hl := Heap.lt_size e
          rcases List.mem_cons.mp hb with z | z
          · rw [z] at hl
            have h9 : (h3.objs.size : Nat) < s1.heap.objs.size := hl
            omega
          · rcases List.mem_cons.mp z with z | z
            · rw [z] at hl
              exact Nat.lt_irrefl _ hl
            · cases z
        refine gen_after (gpos := gpos) I1 ok hmT hu hP ht ha (fun b u hb e => hm.heap b u (nwr b u e) (hk5 b u (keep3 b u hb e))) (hm.heap P _ (nwr P _ hPs) (hk5 P _ hP3)) (AllBare.movedS (I1.bare.push hgb) hm) hm.os ?_
        rcases hmore with z | ⟨c', z, hc1, hc2, oc, vs', t, f1, f2, f3⟩
        · exact .inl z
        · refine .inr ⟨c', z, by omega, oc, vs', t, hm.heap c' oc (fun hb => ?_) (hk5 c' oc f1), f2, f3⟩
          rcases List.mem_cons.mp hb with z | z
          · rw [z] at hc2; exact Nat.lt_irrefl _ hc2
          · rcases List.mem_cons.mp z with z | z
            · rw [z] at hc1; omega
            · cases z
  refine ⟨lim2, ?_⟩
  cases hf : codeAmong gpos ps.toList with
  | none =>
    refine wpAny_genexprCodeX hcode (cd.code hP2 ht) (cd.tab hP2) hf fun c' h' tk hx hge hlt hco' hrec htab' _ => ?_
    obtain ⟨c2, oc, vs', t, e2, hoc, hd, hv⟩ := hrec
    cases e2
    exact cont _ h' tk _ hx (Nat.le_trans hge (Nat.le_of_lt hlt)) htab'.2 (.inr ⟨c', rfl, hge, hlt, oc, vs', t, hoc, hd, hv⟩)
  | some cv =>
    refine wpAny_genexprCode_hit hcode (cd.code hP2 ht) hf ?_
    exact cont cv (s1.heap.push o) s1.toks ps (Heap.ExtBut.refl _ _) (Nat.le_refl _) hP2 (.inl rfl)
theorem gSeq_bind {g : Gx} {E : XK} {c : Ct} {e : Sm.Env} {S : Store} {ma : ME} {β : Type} {R : β → Store → Prop} {k : List Sm.D → Store → Out β} (h : PostG g c E R ((gSeq ma e S).bind k)) :
    PostG g c E R ((ma e S).bind fun x S1 => match view S1 x with
      | .lst xs => k xs S1
      | .tup xs => k xs S1
      | _ => .bad) := by
  unfold gSeq at h
  cases q : ma e S with
  | bad => rw [q] at h; exact h
  | exc j S => rw [q] at h; exact h
  | ok x S1 =>
    rw [q] at h
    have h' : PostG g c E R ((match view S1 x with
      | .lst xs => .ok xs S1
      | .tup xs => .ok xs S1
      | _ => .bad : Out (List Sm.D)).bind k) := h
    show PostG g c E R (match view S1 x with
      | .lst xs => k xs S1
      | .tup xs => k xs S1
      | _ => .bad)
    revert h'
    cases view S1 x <;> exact id
theorem gen_seq1 {g : Gx} {X : Cx} {E : XK} {k : Nat} {pins : List (Addr × Obj)} {σ : L2.St} {c : Ct} {e : Sm.Env} {s : Shared} {elt iter : Expr} {ifs : List Expr} {scope : Scope} {x : Str} {j : Nat} {px gpos : Pos} {cA P : Addr} {ma me : ME} {mt : MB} {Q' : Value → Shared → Prop} {β : Type} {R : β → Store → Prop} {h : List Sm.D → Store → Out β}
    (hr : Room k X.A) (TB : LamX.TabB X.base X.mg cA P) (hcode : X.env.code = .ref cA) (hmT : (P, X.env.qual ++ "<genexpr>") ∈ g.tabs) (hu : ∀ p ∈ g.tabs, p.1 = P → p.2 = X.env.qual ++ "<genexpr>") (S : GenOk X.N X.env.scope scope [(x, j)]) (hi : ES g X E iter ma) (hel : QE g X scope [(x, j)] elt me) (hif : QI g X scope [(x, j)] ifs mt)
    (hs : ∀ v, genFold iter X.env v = pure v) (I : Inv X pins σ c.H s) (ok : Ok g c) (er : EnvR c e σ) (hp : PostG g c E R ((gSeq ma e c.S).bind fun p S1 => match genL (turnG (gN j) mt me e S1) p with
      | some ys => h ys S1
      | none => .bad))
    (hQ : ∀ c1 ys ga s5, Ok g c1 → Le c c1 → RsE c1 c → PostG g c1 E R (h ys c1.S) → ReadyG g X pins σ c1 ys ga s5 → Q' (.ref ga) s5) :
    wpAny (model X.prog X.w) X.A (eval (.GeneratorExp elt [⟨.Name x px, iter, ifs, 0⟩] scope gpos) X.env) Q' X.xe s := by
  obtain ⟨hxl, hxN⟩ := S.loc (x, j) List.mem_cons_self
  obtain ⟨ti, pi, si⟩ := hi
  refine wpAny_GeneratorExp_walksQ hr.hd S.co (closure_ok fun y hy e => (S.free y hy e).elim (fun k => I.ok.has _ (.inl k)) fun k => I.ok.has _ (.inr k)) S.nocell S.dot hxl S.kind (by have := hr.dp; omega) ?_ hs
  refine thn (pi.run pins s σ c.H (fun v H1 => ∃ c1 d, c1.H = H1 ∧ Ok g c1 ∧ Le c c1 ∧ RsE c1 c ∧ Rep c1 d v ∧ PostG g c1 E R (match view c1.S d with
      | .lst xs => (match genL (turnG (gN j) mt me e c1.S) xs with
        | some ys => h ys c1.S
        | none => .bad)
      | .tup xs => (match genL (turnG (gN j) mt me e c1.S) xs with
        | some ys => h ys c1.S
        | none => .bad)
      | _ => .bad)) I (bindE (R := R) si ok er (gSeq_bind hp) fun c1 d v ok1 l1 r1 rx hp1 => ⟨c1, d, rfl, ok1, l1, r1, rx, hp1⟩)) fun xv s1 ⟨v, H1, I1, r1, c1, d, e1, ok1, l1, re1, rd, hp1⟩ => ?_
  subst e1
  have hP : ∃ ps, c1.H P = some (.tbl ps) := let ⟨ps, h, _⟩ := ok1.tabs _ hmT; ⟨ps, h⟩
  obtain ⟨ps, hP⟩ := hP
  have hPs : s1.heap.get? P = some { cls := .none, data := .fields ps } := I1.hok P _ hP
  have hPlt : P < s1.heap.objs.size := Heap.lt_size hPs
  split at hp1
  · rename_i xs ex
    obtain ⟨a, its, vs, rfl, rv, rl, pl, hz⟩ := seeL I1 ok1 (fun _ _ _ h _ _ => h) ⟨v, rd, r1⟩ ex
    cases hg : genL (turnG (gN j) mt me e c1.S) xs with
    | none => rw [hg] at hp1; exact hp1.elim
    | some ys =>
      rw [hg] at hp1
      have hIL := pl.isList
      have hat : a < s1.heap.objs.size := let ⟨_, e, _⟩ := hIL; Heap.lt_size e
      have haP : ∀ ps, s1.heap.get? a ≠ some { cls := .none, data := .fields ps } := fun ps z => by
        obtain ⟨o, n, e1, e2, _⟩ := pl
        rw [z] at e1
        cases e1
        cases e2
      have haNe : a ≠ P := fun z => haP ps (by rw [z]; exact hPs)
      refine wpAny_pyIter_list hIL ?_
      refine gen_core1 (a := a) (St := fun i h => h.IsListIter s1.heap.objs.size a i ∧ h.IsList a its.toArray) TB hcode hmT hu S hel hif I1 ok1 (er.mono l1) rv rl hat haP (fun A' hA => Walks.list hA _ _ (Nat.ne_of_lt hat) _) (fun hh hk => ⟨?_, ?_⟩) hg fun ga s5 hrdy => hQ c1 ys ga s5 ok1 l1 re1 hp1 hrdy
      · exact ⟨_, hk _ _ (Nat.ne_of_gt hPlt) (Heap.get?_push_size _ rfl), rfl, rfl⟩
      · obtain ⟨o, e1, e2⟩ := hIL
        exact ⟨o, hk _ _ haNe (Heap.get?_push_of_some _ e1), e2⟩
  · rename_i xs ex
    obtain ⟨a, its, vs, rfl, rv, rl, pl, hz⟩ := seeT I1 ok1 (fun _ _ _ h _ _ => h) ⟨v, rd, r1⟩ ex
    cases hg : genL (turnG (gN j) mt me e c1.S) xs with
    | none => rw [hg] at hp1; exact hp1.elim
    | some ys =>
      rw [hg] at hp1
      have hIL : s1.heap.IsTuple a its.toArray := pl
      have hat : a < s1.heap.objs.size := let ⟨_, e, _⟩ := hIL; Heap.lt_size e
      have haP : ∀ ps, s1.heap.get? a ≠ some { cls := .none, data := .fields ps } := fun ps z => by
        obtain ⟨o, e1, e2, _⟩ := pl
        rw [z] at e1
        cases e1
        cases e2
      have haNe : a ≠ P := fun z => haP ps (by rw [z]; exact hPs)
      refine wpAny_pyIter_tuple hIL ?_
      refine gen_core1 (a := a) (St := fun i h => h.IsTupleIter s1.heap.objs.size a i ∧ h.IsTuple a its.toArray) TB hcode hmT hu S hel hif I1 ok1 (er.mono l1) rv rl hat haP (fun A' hA => Walks.tuple hA _ _ (Nat.ne_of_lt hat) _) (fun hh hk => ⟨?_, ?_⟩) hg fun ga s5 hrdy => hQ c1 ys ga s5 ok1 l1 re1 hp1 hrdy
      · exact ⟨_, hk _ _ (Nat.ne_of_gt hPlt) (Heap.get?_push_size _ rfl), rfl, rfl⟩
      · obtain ⟨o, e1, e2⟩ := hIL
        exact ⟨o, hk _ _ haNe (Heap.get?_push_of_some _ e1), e2⟩
  · exact hp1.elim
theorem turnG_pair {ja jb : Nat} {mt : MB} {me : ME} {e : Sm.Env} {S : Store} {da db : Sm.D} : turnG (gT [gN ja, gN jb]) mt me e S (.tup [da, db]) = match mt ((e.set ja (some da)).set jb (some db)) S with
  | .ok true _ => match me ((e.set ja (some da)).set jb (some db)) S with
    | .ok y _ => some (some y)
    | _ => none
  | .ok false _ => some none
  | _ => none := rfl
theorem gen_core2 {g : Gx} {X : Cx} {pins : List (Addr × Obj)} {σ : L2.St} {c : Ct} {e : Sm.Env} {s1 : Shared} {elt : Expr} {ifs : List Expr} {scope : Scope} {xa xb : Str} {ja jb : Nat} {gpos : Pos} {cA P : Addr} {me : ME} {mt : MB} {Q' : Value → Shared → Prop} {ds ys : List Sm.D} {h₁ : Heap} {It : Addr} {fp wr : List Addr} {n₀ : Nat} {Pt : Nat → Array Value → Prop} {St : Nat → Heap → Prop} {Mid : Nat → Addr → Heap → Prop}
    (TB : LamX.TabB X.base X.mg cA P) (hcode : X.env.code = .ref cA) (hmT : (P, X.env.qual ++ "<genexpr>") ∈ g.tabs) (hu : ∀ p ∈ g.tabs, p.1 = P → p.2 = X.env.qual ++ "<genexpr>") (S : GenOk X.N X.env.scope scope [(xa, ja), (xb, jb)]) (hel : QE g X scope [(xa, ja), (xb, jb)] elt me) (hif : QI g X scope [(xa, ja), (xb, jb)] ifs mt)
    (I1 : Inv X pins σ c.H s1) (ok : Ok g c) (er : EnvR c e σ) (hk1 : ∀ b o, s1.heap.get? b = some o → h₁.get? b = some o) (hsz1 : (s1.heap.objs.size : Nat) ≤ h₁.objs.size) (hfp : ∀ b ∈ fp, b < h₁.objs.size) (hwr : ∀ b ∈ wr, (s1.heap.objs.size : Nat) ≤ b) (hfp' : ∀ b ∈ wr, b < h₁.objs.size) (hab : xa ≠ xb) (hj : ja ≠ jb) (hn : ds.length = n₀) (hsz2 : ∀ i vals, Pt i vals → ∃ va vb, vals = #[va, vb]) (hPt : ∀ i va vb, Pt i #[va, vb] → ∃ da db, ds[i]? = some (.tup [da, db]) ∧ RepU c da va ∧ RepU c db vb)
    (hW : ∀ A' : Around, A'.handled = none → WalksU X.prog X.w A' It fp wr n₀ Pt St Mid)
    (hSt : ∀ h : Heap, (∀ b u, b ≠ P → h₁.get? b = some u → h.get? b = some u) → St 0 h) (hg : genL (turnG (gT [gN ja, gN jb]) mt me e c.S) ds = some ys) (hQ : ∀ ga s5, ReadyG g X pins σ c ys ga s5 → Q' (.ref ga) s5) :
    ({ s1 with heap := h₁ } : Shared).heap.NoLimit ∧ wpAny (model X.prog X.w) X.A (genexprCode X.env gpos (X.env.qual ++ "<genexpr>") scope) (fun code s₃ => wpAny (model X.prog X.w) X.A (builtinsFor X.env.globals X.env.builtins) (fun bi s₄ =>
        ∃ Ia fp wr n₀ Pf St₀ Mid pz F, Value.ref It = .ref Ia ∧ (∀ A' : Around, A'.handled = none → WalksU X.prog X.w A' Ia fp wr n₀ Pf St₀ Mid) ∧ (∀ i vals, Pf i vals → ∃ va vb, vals = #[va, vb]) ∧ St₀ 0 s₄.heap ∧ (∀ b ∈ fp, b < s₄.heap.objs.size) ∧ s₄.heap.NoLimit ∧ cStatics ∉ wr ∧
          (∀ href : Heap, (∀ b o, s₄.heap.get? b = some o → href.get? b = some o) →
            QuietGenT X.prog X.w (genEnv scope (cloFrom X.env.cells scope.names []) s₄.heap.objs.size code bi X.env) xa xb ifs elt (List.range s₄.heap.objs.size) wr Pf pz F href) ∧
          (∀ a h₅ tk gs, gs.bare = true → s₄.heap.objs.size < a → h₅.objs.size = a + 1 → (∀ b o, s₄.heap.get? b = some o → h₅.get? b = some o) →
            WalksS X.prog X.w X.A.in4 a (a :: s₄.heap.objs.size :: List.range s₄.heap.objs.size) (s₄.heap.objs.size :: wr) (GenOnlyQ s₄.gens.size) (passing pz n₀ 0).length
              (fun j y => ∃ i, (passing pz n₀ 0)[j]? = some i ∧ F i y) (GenAt X.prog X.w X.A.in4 a s₄.gens.size s₄.heap.objs.size (List.range s₄.heap.objs.size) wr pz n₀ F) →
            GenAt X.prog X.w X.A.in4 a s₄.gens.size s₄.heap.objs.size (List.range s₄.heap.objs.size) wr pz n₀ F 0 { s₄ with gens := s₄.gens.push gs, toks := tk, heap := h₅ } →
            Q' (.ref a) { s₄ with gens := s₄.gens.push gs, toks := tk, heap := h₅ })) X.xe s₃) X.xe { s1 with heap := h₁ } := by
  obtain ⟨ps, hP, ht, ha⟩ := ok.tabs _ hmT
  have hPs : s1.heap.get? P = some { cls := .none, data := .fields ps } := I1.hok P _ hP
  have hPlt : P < s1.heap.objs.size := Heap.lt_size hPs
  have hP2 : h₁.get? P = some { cls := .none, data := .fields ps } := hk1 _ _ hPs
  have cd : PySem.W.CodeHd h₁ cA P := TB.code.keeps fun b u e => hk1 _ _ (I1.bk b u e)
  have lim2 : h₁.NoLimit := I1.nolimit.keeps hk1
  obtain ⟨hxl, hxN⟩ := S.loc (xa, ja) List.mem_cons_self
  obtain ⟨hxl2, hxN2⟩ := S.loc (xb, jb) (List.mem_cons_of_mem _ List.mem_cons_self)
  have hjlt : ja < e.length := by
    rw [er.1, I1.len]
    exact (List.getElem?_eq_some_iff.mp hxN).1
  have hjlt2 : jb < e.length := by
    rw [er.1, I1.len]
    exact (List.getElem?_eq_some_iff.mp hxN2).1
  have cont : ∀ (code : Value) (h3 : Heap) (tk : Nat) (ps' : Array Value), Heap.ExtBut P h₁ h3 → h₁.objs.size ≤ h3.objs.size → h3.get? P = some { cls := .none, data := .fields ps' } →
      (ps' = ps ∨ ∃ c', ps' = ps ++ #[rawInt gpos.line, rawInt gpos.col, .ref c'] ∧ h₁.objs.size ≤ c' ∧ c' < h3.objs.size ∧ ∃ (oc : Obj) (vs : Array Value) (t : Tok), h3.get? c' = some oc ∧ oc.data = .fields vs ∧ vs[1]? = some (.str (X.env.qual ++ "<genexpr>") t)) →
      wpAny (model X.prog X.w) X.A (builtinsFor X.env.globals X.env.builtins) (fun bi s₄ =>
        ∃ Ia fp wr n₀ Pf St₀ Mid pz F, Value.ref It = .ref Ia ∧ (∀ A' : Around, A'.handled = none → WalksU X.prog X.w A' Ia fp wr n₀ Pf St₀ Mid) ∧ (∀ i vals, Pf i vals → ∃ va vb, vals = #[va, vb]) ∧ St₀ 0 s₄.heap ∧ (∀ b ∈ fp, b < s₄.heap.objs.size) ∧ s₄.heap.NoLimit ∧ cStatics ∉ wr ∧
          (∀ href : Heap, (∀ b o, s₄.heap.get? b = some o → href.get? b = some o) →
            QuietGenT X.prog X.w (genEnv scope (cloFrom X.env.cells scope.names []) s₄.heap.objs.size code bi X.env) xa xb ifs elt (List.range s₄.heap.objs.size) wr Pf pz F href) ∧
          (∀ a h₅ tk gs, gs.bare = true → s₄.heap.objs.size < a → h₅.objs.size = a + 1 → (∀ b o, s₄.heap.get? b = some o → h₅.get? b = some o) →
            WalksS X.prog X.w X.A.in4 a (a :: s₄.heap.objs.size :: List.range s₄.heap.objs.size) (s₄.heap.objs.size :: wr) (GenOnlyQ s₄.gens.size) (passing pz n₀ 0).length
              (fun j y => ∃ i, (passing pz n₀ 0)[j]? = some i ∧ F i y) (GenAt X.prog X.w X.A.in4 a s₄.gens.size s₄.heap.objs.size (List.range s₄.heap.objs.size) wr pz n₀ F) →
            GenAt X.prog X.w X.A.in4 a s₄.gens.size s₄.heap.objs.size (List.range s₄.heap.objs.size) wr pz n₀ F 0 { s₄ with gens := s₄.gens.push gs, toks := tk, heap := h₅ } →
            Q' (.ref a) { s₄ with gens := s₄.gens.push gs, toks := tk, heap := h₅ })) X.xe { s1 with heap := h3, toks := tk } := by
    intro code h3 tk ps' hx hsz hP3 hmore
    obtain ⟨bm, ob, e1, e2, e3, e4, e5, e6, e7, e8⟩ := TB.bm
    have hcP : cStatics ≠ P := fun e => by
      obtain ⟨_, hns, _⟩ := I1.nolimit
      obtain ⟨o', es, ep, ho, hd, _⟩ := hns
      rw [e, hPs] at ho
      cases ho
      cases hd
    have hcl : cStatics < s1.heap.objs.size := let ⟨_, hns, _⟩ := I1.nolimit; hns.lt
    have keep3 : ∀ b u, b ≠ P → s1.heap.get? b = some u → h3.get? b = some u := fun b u hb e => hx b u hb (hk1 _ _ e)
    refine wpAny_builtinsFor (m := X.mg) (by rw [I1.ok.glob]; exact ((I1.mod.glob.keeps I1.bk).keeps hk1).extBut hx TB.gP) e1 e2 (keep3 _ _ e4 (I1.bk _ _ e5)) e6 e7 e8 ?_
    refine ⟨It, fp, wr, n₀, Pt, St, Mid, pzOf (turnG (gT [gN ja, gN jb]) mt me e c.S) ds,
      (fun i y => ∃ d0 d, ds[i]? = some d0 ∧ turnG (gT [gN ja, gN jb]) mt me e c.S d0 = some (some d) ∧ RepU c d y), rfl, hW, hsz2, hSt h3 (fun b u hb e => hx b u hb e), fun b hb => Nat.lt_of_lt_of_le (hfp b hb) hsz, lim2.extBut hx hcP, fun z => Nat.lt_irrefl _ (Nat.lt_of_lt_of_le hcl (hwr _ z)), ?_, ?_⟩
    · intro href hhref
      have kp2 : ∀ {s₂ : Shared}, (∀ b ∈ List.range h3.objs.size, b ∉ wr → ∀ o, href.get? b = some o → s₂.heap.get? b = some o) → ∀ b u, b ≠ P → s1.heap.get? b = some u → s₂.heap.get? b = some u := fun {s₂} hk b u hb e1 => by
        have hlt := Heap.lt_size e1
        exact hk b (List.mem_range.mpr (Nat.lt_of_lt_of_le hlt (Nat.le_trans hsz1 hsz))) (fun z => Nat.lt_irrefl _ (Nat.lt_of_lt_of_le hlt (hwr b z))) u (hhref _ _ (keep3 b u hb e1))
      have place : ∀ {s₂ : Shared} {m₂ : Str → Option Value} {i : Nat} {va vb : Value} {da db : Sm.D}, s₂.heap.Ns (genEnv scope (cloFrom X.env.cells scope.names []) h3.objs.size code builtinsNs X.env).locals m₂ → m₂ xa = some va → m₂ xb = some vb → RepU c da va → RepU c db vb →
          (∀ b ∈ List.range h3.objs.size, b ∉ wr → ∀ o, href.get? b = some o → s₂.heap.get? b = some o) → Qp X c [(xa, ja), (xb, jb)] scope ((e.set ja (some da)).set jb (some db)) (genEnv scope (cloFrom X.env.cells scope.names []) h3.objs.size code builtinsNs X.env) s1 s₂ m₂ := fun {s₂ m₂ i va vb da db} hn hm hm2 hr hr2 hk =>
        qp_make (g := g) I1 er S rfl rfl rfl rfl hn (fun p hp => by
          rcases List.mem_cons.mp hp with z | z
          · subst z
            exact ⟨da, va, by rw [List.getElem?_set_ne (Ne.symm hj), List.getElem?_set_self hjlt], hm, hr⟩
          · rcases List.mem_cons.mp z with z | z
            · subst z
              exact ⟨db, vb, List.getElem?_set_self (by rw [List.length_set]; exact hjlt2), hm2, hr2⟩
            · cases z) (fun i hi => by
          rw [List.getElem?_set_ne (fun z => hi (by rw [← z]; exact List.mem_cons_of_mem _ List.mem_cons_self)), List.getElem?_set_ne (fun z => hi (by rw [← z]; exact List.mem_cons_self))]) hP (kp2 hk)
      refine ⟨fun A' E' i va vb s₂ m₂ hA hPv hn hm hm2 hk => ?_, fun A' E' i va vb s₂ m₂ hA hPv hp hn hm hm2 hk => ?_⟩
      · obtain ⟨da, db, hd0, hr0, hr1⟩ := hPt i va vb hPv
        obtain ⟨r, hr⟩ := genL_all hg i _ hd0
        have q := place (i := i) hn hm hm2 hr0 hr1 hk
        rw [turnG_pair] at hr
        cases h1 : mt ((e.set ja (some da)).set jb (some db)) c.S with
        | bad => simp only [h1] at hr; cases hr
        | exc k S => simp only [h1] at hr; cases hr
        | ok b S' =>
          refine wpAny_mono (qi_run hif (m₂ := m₂) I1 ok q hA h1).2 (fun y s3 ⟨e9, k9⟩ => ⟨?_, k9⟩) fun _ _ e => e
          subst e9
          unfold pzOf
          simp only [hd0, turnG_pair, h1]
          cases y with
          | false => rfl
          | true =>
            simp only [h1] at hr
            cases h2 : me ((e.set ja (some da)).set jb (some db)) c.S with
            | bad => simp only [h2] at hr; cases hr
            | exc k S => simp only [h2] at hr; cases hr
            | ok d S => simp only [h2]
      · obtain ⟨da, db, hd0, hr0, hr1⟩ := hPt i va vb hPv
        have q := place (i := i) hn hm hm2 hr0 hr1 hk
        unfold pzOf at hp
        simp only [hd0] at hp
        cases hf : turnG (gT [gN ja, gN jb]) mt me e c.S (.tup [da, db]) with
        | none => rw [hf] at hp; cases hp
        | some r =>
          cases r with
          | none => rw [hf] at hp; cases hp
          | some d =>
            have hf0 := hf
            rw [turnG_pair] at hf
            cases h1 : mt ((e.set ja (some da)).set jb (some db)) c.S with
            | bad => simp only [h1] at hf; cases hf
            | exc k S => simp only [h1] at hf; cases hf
            | ok b S' =>
              cases b with
              | false => simp only [h1] at hf; cases hf
              | true =>
                simp only [h1] at hf
                cases h2 : me ((e.set ja (some da)).set jb (some db)) c.S with
                | bad => simp only [h2] at hf; cases hf
                | exc k S => simp only [h2] at hf; cases hf
                | ok d1 S =>
                  simp only [h2] at hf
                  cases hf
                  exact wpAny_mono (hel c pins σ s1 s₂ _ _ A' E' m₂ d S I1 ok q hA h2).2 (fun y s3 ⟨r9, k9⟩ => ⟨⟨_, d, hd0, hf0, r9⟩, k9⟩) fun _ _ e => e
    · intro ga h5 tk5 gs hgb hag hsz5 hk5 W5 hgat
      rw [← hn] at W5 hgat
      obtain ⟨p1, p2⟩ := pass_get hg
      rw [p1] at W5
      refine hQ ga _ ⟨_, _, _, _, _, W5.in4_1, hgat, ?_, fun j' v hv => ?_, fun s' hm => ?_⟩
      · intro b hb
        show b < h5.objs.size
        have e5 : h5.objs.size = ga + 1 := hsz5
        have h8 : h3.objs.size < ga := hag
        rw [e5]
        rcases List.mem_cons.mp hb with z | z
        · rw [z]
          exact Nat.lt_succ_self ga
        · rcases List.mem_cons.mp z with z | z
          · rw [z]
            exact Nat.lt_succ_of_lt h8
          · have z2 := List.mem_range.mp z
            have h7 : b < h3.objs.size := z2
            exact Nat.lt_succ_of_lt (Nat.lt_trans h7 h8)
      · obtain ⟨i, hij, d0, d, hd0, hf, hr⟩ := hv
        obtain ⟨x', y', hx', hf', hy'⟩ := p2 j' i hij
        rw [hd0] at hx'
        cases hx'
        rw [hf] at hf'
        cases hf'
        exact ⟨d, hy', hr⟩
      · have nwr : ∀ b u, s1.heap.get? b = some u → b ∉ h3.objs.size :: wr := fun b u e hb => by
          have hl := Heap.lt_size e
          rcases List.mem_cons.mp hb with z | z
          · rw [z] at hl
            have h9 : (h3.objs.size : Nat) < s1.heap.objs.size := hl
            omega
          · exact Nat.lt_irrefl _ (Nat.lt_of_lt_of_le hl (hwr b z))
        refine gen_after (gpos := gpos) I1 ok hmT hu hP ht ha (fun b u hb e => hm.heap b u (nwr b u e) (hk5 b u (keep3 b u hb e))) (hm.heap P _ (nwr P _ hPs) (hk5 P _ hP3)) (AllBare.movedS (I1.bare.push hgb) hm) hm.os ?_
        rcases hmore with z | ⟨c', z, hc1, hc2, oc, vs', t, f1, f2, f3⟩
        · exact .inl z
        · refine .inr ⟨c', z, Nat.le_trans hsz1 hc1, oc, vs', t, hm.heap c' oc (fun hb => ?_) (hk5 c' oc f1), f2, f3⟩
          rcases List.mem_cons.mp hb with z | z
          · rw [z] at hc2; exact Nat.lt_irrefl _ hc2
          · exact Nat.lt_irrefl _ (Nat.lt_of_lt_of_le (hfp' c' z) hc1)
  refine ⟨lim2, ?_⟩
  cases hf : codeAmong gpos ps.toList with
  | none =>
    refine wpAny_genexprCodeX hcode (cd.code hP2 ht) (cd.tab hP2) hf fun c' h' tk hx hge hlt hco' hrec htab' _ => ?_
    obtain ⟨c2, oc, vs', t, e2, hoc, hd, hv⟩ := hrec
    cases e2
    exact cont _ h' tk _ hx (Nat.le_trans hge (Nat.le_of_lt hlt)) htab'.2 (.inr ⟨c', rfl, hge, hlt, oc, vs', t, hoc, hd, hv⟩)
  | some cv =>
    refine wpAny_genexprCode_hit hcode (cd.code hP2 ht) hf ?_
    exact cont cv h₁ s1.toks ps (Heap.ExtBut.refl _ _) (Nat.le_refl _) hP2 (.inl rfl)
theorem zipD_at : ∀ {xs ys : List Sm.D} {i : Nat} {x y : Sm.D}, xs[i]? = some x → ys[i]? = some y → (zipD xs ys)[i]? = some (.tup [x, y])
  | [], _, _, _, _, h, _ => by simp at h
  | _ :: _, [], _, _, _, _, h => by simp at h
  | a :: xs, b :: ys, 0, x, y, h, h2 => by
    have e1 : a = x := by simpa using h
    have e2 : b = y := by simpa using h2
    subst e1 e2
    simp [zipD]
  | a :: xs, b :: ys, i + 1, x, y, h, h2 => by
    have := zipD_at (xs := xs) (ys := ys) (i := i) (by simpa using h) (by simpa using h2)
    simpa [zipD] using this
end Sm
end

section
set_option Elab.async false
set_option linter.all false
set_option autoImplicit false
set_option maxRecDepth 100000
set_option maxHeartbeats 4000000
namespace Sm
open PySem PySem.Spec PyProof.Rows L2
/-- a generator expression: what it gives, and it is ready -/
def GenJ (g : Gx) (X : Cx) (E : XK) (ge : Expr) (mw : MW) : Prop :=
  ∀ (pins : List (Addr × Obj)) (σ : L2.St) (c : Ct) (e : Sm.Env) (s : Shared) (β : Type) (R : β → Store → Prop) (h : List Sm.D → Store → Out β) (Q' : Value → Shared → Prop), Inv X pins σ c.H s → Ok g c → EnvR c e σ → PostG g c E R ((mw e c.S).bind h) →
    (∀ c1 ys ga s5, Ok g c1 → Le c c1 → RsE c1 c → PostG g c1 E R (h ys c1.S) → ReadyG g X pins σ c1 ys ga s5 → Q' (.ref ga) s5) → wpAny (model X.prog X.w) X.A (eval ge X.env) Q' X.xe s
theorem mGen_bind {g : Gx} {E : XK} {c : Ct} {e : Sm.Env} {S : Store} {it : MW} {mg : MG} {mt : MB} {me : ME} {β : Type} {R : β → Store → Prop} {h : List Sm.D → Store → Out β} (hp : PostG g c E R ((mGen it mg mt me e S).bind h)) :
    PostG g c E R ((it e S).bind fun p S1 => match genL (turnG mg mt me e S1) p with
      | some ys => h ys S1
      | none => .bad) := by
  unfold mGen at hp
  cases q : it e S with
  | bad => rw [q] at hp; exact hp
  | exc j S => rw [q] at hp; exact hp
  | ok p S1 =>
    rw [q] at hp
    have h' : PostG g c E R ((match genL (turnG mg mt me e S1) p with
      | some ys => .ok ys S1
      | none => .bad : Out (List Sm.D)).bind h) := hp
    show PostG g c E R (match genL (turnG mg mt me e S1) p with
      | some ys => h ys S1
      | none => .bad)
    revert h'
    cases genL (turnG mg mt me e S1) p <;> exact id
section
variable {g : Gx} {X : Cx} {E : XK}
/-- for x in a list or tuple -/
theorem gj_seq {k : Nat} {elt iter : Expr} {ifs : List Expr} {scope : Scope} {x : Str} {j : Nat} {px gpos : Pos} {cA P : Addr} {ma me : ME} {mt : MB} (hr : Room k X.A) (TB : LamX.TabB X.base X.mg cA P) (hcode : X.env.code = .ref cA) (hmT : (P, X.env.qual ++ "<genexpr>") ∈ g.tabs) (hu : ∀ p ∈ g.tabs, p.1 = P → p.2 = X.env.qual ++ "<genexpr>")
    (S : GenOk X.N X.env.scope scope [(x, j)]) (hi : ES g X E iter ma) (hel : QE g X scope [(x, j)] elt me) (hif : QI g X scope [(x, j)] ifs mt) (hs : ∀ v, genFold iter X.env v = pure v := by intro _; rfl) : GenJ g X E (.GeneratorExp elt [⟨.Name x px, iter, ifs, 0⟩] scope gpos) (mGen (gSeq ma) (gN j) mt me) :=
  fun pins σ c e s β R h Q' I ok er hp hQ => gen_seq1 hr TB hcode hmT hu S hi hel hif hs I ok er (mGen_bind hp) hQ
theorem gZip_bind {c : Ct} {e : Sm.Env} {S : Store} {ma : MA} {β : Type} {R : β → Store → Prop} {k : List Sm.D → Store → Out β} (h : PostG g c E R ((gZip ma e S).bind k)) :
    PostG g c E R ((ma e S).bind fun ds S1 => match ds with
      | [a, b] => (match view S1 a, view S1 b with
        | .lst xs, .lst ys => k (zipD xs ys) S1
        | _, _ => .bad)
      | _ => .bad) := by
  unfold gZip at h
  cases q : ma e S with
  | bad => rw [q] at h; exact h
  | exc j S => rw [q] at h; exact h
  | ok ds S1 =>
    rw [q] at h
    have h' : PostG g c E R ((match (generalizing := false) ds with
      | [a, b] => (match view S1 a, view S1 b with
        | .lst xs, .lst ys => .ok (zipD xs ys) S1
        | _, _ => .bad)
      | _ => .bad : Out (List Sm.D)).bind k) := h
    show PostG g c E R (match (generalizing := false) ds with
      | [a, b] => (match view S1 a, view S1 b with
        | .lst xs, .lst ys => k (zipD xs ys) S1
        | _, _ => .bad)
      | _ => .bad)
    revert h'
    split
    · split <;> exact id
    · exact id
/-- for a, b in zip(xs, ys) -/
theorem gj_zip {k : Nat} {elt e1 e2 : Expr} {ifs : List Expr} {scope : Scope} {xa xb : Str} {ja jb : Nat} {pa pb pt gpos p zpos : Pos} {kt : Nat} {cA P : Addr} {ma : MA} {me : ME} {mt : MB} (hr : Room k X.A) (TB : LamX.TabB X.base X.mg cA P) (hcode : X.env.code = .ref cA) (hmT : (P, X.env.qual ++ "<genexpr>") ∈ g.tabs) (hu : ∀ p ∈ g.tabs, p.1 = P → p.2 = X.env.qual ++ "<genexpr>")
    (S : GenOk X.N X.env.scope scope [(xa, ja), (xb, jb)]) (hab : xa ≠ xb) (hj : ja ≠ jb) (hm : X.mg "zip" = none) (hi : AS g X E [e1, e2] ma) (hel : QE g X scope [(xa, ja), (xb, jb)] elt me) (hif : QI g X scope [(xa, ja), (xb, jb)] ifs mt)
    (hg : Gl X "zip" := by rfl) (hs1 : starEach [e1, e2] X.env = (false, eval e1 X.env) :: starEach [e2] X.env := by rfl) (hpl : (backTo zpos (starEach [e2] X.env)).any (·.1) = false := by rfl) (hs : ∀ v, genFold (.Call (.Name "zip" p) [e1, e2] [] zpos) X.env v = pure v := by intro _; rfl) :
    GenJ g X E (.GeneratorExp elt [⟨.Tuple [.Name xa pa, .Name xb pb] kt pt, .Call (.Name "zip" p) [e1, e2] [] zpos, ifs, 0⟩] scope gpos) (mGen (gZip ma) (gT [gN ja, gN jb]) mt me) :=
  fun pins σ c e s β R h Q' I ok er hp hQ => by
    obtain ⟨hxl, hxN⟩ := S.loc (xa, ja) List.mem_cons_self
    obtain ⟨hxl2, hxN2⟩ := S.loc (xb, jb) (List.mem_cons_of_mem _ List.mem_cons_self)
    obtain ⟨ti, pi, si, _⟩ := hi
    refine wpAny_GeneratorExp_walksQT hr.hd S.co (closure_ok fun y hy e => (S.free y hy e).elim (fun k => I.ok.has _ (.inl k)) fun k => I.ok.has _ (.inr k)) S.nocell S.dot hxl hxl2 hab S.kind (by have := hr.dp; omega) ?_ hs
    refine Call_ (ld_blt I hg hm PyProof.Rows.boot_zip (PyProof.Rows.callWith_type1 (thn (pi.run zpos pins s σ c.H (fun vs H1 => ∃ c1 ds, c1.H = H1 ∧ Ok g c1 ∧ Le c c1 ∧ RsE c1 c ∧ RepL c1 ds vs ∧ PostG g c1 E R (match ds with
      | [a, b] => (match view c1.S a, view c1.S b with
        | .lst xs, .lst ys => (match genL (turnG (gT [gN ja, gN jb]) mt me e c1.S) (zipD xs ys) with
          | some ys => h ys c1.S
          | none => .bad)
        | _, _ => .bad)
      | _ => .bad)) I (bindA (R := R) si ok er (gZip_bind (mGen_bind hp)) fun c1 d v ok1 l1 r1 rx hp1 => ⟨c1, d, rfl, ok1, l1, r1, rx, hp1⟩)) fun us s1 ⟨vs, H1, I1, r1, c1, ds, ec, ok1, l1, re1, rd, hp1⟩ => ?_) hs1 hpl))
    subst ec
    split at hp1
    · rename_i a b
      split at hp1
      · rename_i xs ys ex ey
        obtain ⟨v, u, rfl, rv, ru⟩ := rep2 rd
        cases r1 with
        | cons q1 qq =>
          cases qq with
          | cons q2 qq =>
            cases qq
            rename_i w1 w2
            obtain ⟨aL, its, vs1, rfl, rv1, rl1, pl1, hz1⟩ := seeL I1 ok1 (fun _ _ _ h _ _ => h) ⟨v, rv, q1⟩ ex
            obtain ⟨bL, its2, vs2, rfl, rv2, rl2, pl2, hz2⟩ := seeL I1 ok1 (fun _ _ _ h _ _ => h) ⟨u, ru, q2⟩ ey
            cases hg2 : genL (turnG (gT [gN ja, gN jb]) mt me e c1.S) (zipD xs ys) with
            | none => rw [hg2] at hp1; exact hp1.elim
            | some zs =>
              rw [hg2] at hp1
              obtain ⟨ps, hP, _⟩ := ok1.tabs _ hmT
              have hPs : s1.heap.get? P = some { cls := .none, data := .fields ps } := I1.hok P _ hP
              have hPlt : P < s1.heap.objs.size := Heap.lt_size hPs
              have notP : ∀ {a : Addr} {its : Array Value}, PlainL s1.heap a its → a ≠ P := fun {a its} pl z => by
                obtain ⟨o, n, e1, e2, _⟩ := pl
                rw [z, hPs] at e1
                cases e1
                cases e2
              refine call_zip_2 pl1.isList pl2.isList fun h' hz hTI hTO h1 h2 hsz hk => wpAny_pyIter_zip hz ?_
              have lenZ : (zipD xs ys).length = min its.toArray.size its2.toArray.size := by
                rw [zipD_len, List.size_toArray, List.size_toArray, ← rv1.length, ← rv2.length, repL_len rl1, repL_len rl2]
              have leP : ∀ n : Nat, P ≠ s1.heap.objs.size + n := fun n z => by
                have := hPlt
                rw [z] at this
                exact absurd this (Nat.not_lt_of_le (Nat.le_add_right _ _))
              have leP0 : P ≠ s1.heap.objs.size := leP 0
              refine gen_core2 (h₁ := h') (n₀ := min its.toArray.size its2.toArray.size) TB hcode hmT hu S hel hif I1 ok1 (er.mono l1) hk (by omega) ?_ ?_ ?_ hab hj lenZ (fun i vals hv => ?_) (fun i va vb hv => ?_)
                (fun A' hA => (WalksT.zip2 hA _ _ _ _ _ aL bL (PySem.W.ktu_apart s1.heap.objs.size aL bL pl1.lt pl2.lt) its.toArray its2.toArray).toU) (fun hh hkk => ?_) hg2 fun ga s5 hrdy => hQ c1 zs ga s5 ok1 l1 re1 hp1 hrdy
              · intro b hb
                have e5 : (h'.objs.size : Nat) = s1.heap.objs.size + 5 := hsz
                simp only [List.mem_cons, List.mem_nil_iff, or_false] at hb
                have la := pl1.lt
                have lb := pl2.lt
                rcases hb with z | z | z | z | z | z | z
                all_goals
                  rw [z]
                  first
                    | exact (show (s1.heap.objs.size : Nat) + 4 < h'.objs.size by omega)
                    | exact (show (s1.heap.objs.size : Nat) + 2 < h'.objs.size by omega)
                    | exact (show (s1.heap.objs.size : Nat) + 3 < h'.objs.size by omega)
                    | exact (show (s1.heap.objs.size : Nat) < h'.objs.size by omega)
                    | exact (show (s1.heap.objs.size : Nat) + 1 < h'.objs.size by omega)
                    | exact Nat.lt_of_lt_of_le la (show (s1.heap.objs.size : Nat) ≤ h'.objs.size by omega)
                    | exact Nat.lt_of_lt_of_le lb (show (s1.heap.objs.size : Nat) ≤ h'.objs.size by omega)
              · intro b hb
                simp only [List.mem_cons, List.mem_nil_iff, or_false] at hb
                rcases hb with z | z | z | z
                all_goals
                  rw [z]
                  first
                    | exact Nat.le_add_right _ _
                    | exact Nat.le_refl _
              · intro b hb
                have e5 : (h'.objs.size : Nat) = s1.heap.objs.size + 5 := hsz
                simp only [List.mem_cons, List.mem_nil_iff, or_false] at hb
                rcases hb with z | z | z | z
                all_goals
                  rw [z]
                  first
                    | exact (show (s1.heap.objs.size : Nat) + 4 < h'.objs.size by omega)
                    | exact (show (s1.heap.objs.size : Nat) + 3 < h'.objs.size by omega)
                    | exact (show (s1.heap.objs.size : Nat) < h'.objs.size by omega)
                    | exact (show (s1.heap.objs.size : Nat) + 1 < h'.objs.size by omega)
              · obtain ⟨x, y, _, _, rfl⟩ := hv
                exact ⟨x, y, rfl⟩
              · obtain ⟨x, y, hx, hy, evs⟩ := hv
                have e1 : va = x ∧ vb = y := by simpa using evs
                obtain ⟨rfl, rfl⟩ := e1
                have hx2 : its[i]? = some va := by simpa using hx
                have hy2 : its2[i]? = some vb := by simpa using hy
                have ix : i < xs.length := by rw [← repL_len rl1, rv1.length]; exact (List.getElem?_eq_some_iff.mp hx2).1
                have iy : i < ys.length := by rw [← repL_len rl2, rv2.length]; exact (List.getElem?_eq_some_iff.mp hy2).1
                obtain ⟨w1, h3, h4⟩ := repL_get rl1 (List.getElem?_eq_getElem ix)
                obtain ⟨w2, h5, h6⟩ := repL_get rl2 (List.getElem?_eq_getElem iy)
                obtain ⟨t1, h7, h8⟩ := rv1.get h3
                obtain ⟨t2, h9, h10⟩ := rv2.get h5
                rw [hx2] at h7
                rw [hy2] at h9
                cases h7
                cases h9
                exact ⟨xs[i], ys[i], zipD_at (List.getElem?_eq_getElem ix) (List.getElem?_eq_getElem iy), ⟨w1, h4, h8⟩, w2, h6, h10⟩
              · exact ⟨hkk _ _ (leP 4).symm hz, hkk _ _ (leP 2).symm hTI, ⟨_, _, hkk _ _ (leP 3).symm hTO⟩, h1.at fun o e => hkk _ o leP0.symm e, h2.at fun o e => hkk _ o (leP 1).symm e,
                  let ⟨o, e1, e2⟩ := pl1.isList; ⟨o, hkk _ _ (notP pl1) (hk _ _ e1), e2⟩, let ⟨o, e1, e2⟩ := pl2.isList; ⟨o, hkk _ _ (notP pl2) (hk _ _ e1), e2⟩⟩
      · exact hp1.elim
    · exact hp1.elim
/-! ### any, all, sum -/
theorem boolsD_get : ∀ {ys : List Sm.D} {bs : List Bool}, boolsD ys = some bs → ys.length = bs.length ∧ ∀ (j : Nat) (d : Sm.D), ys[j]? = some d → ∃ b, bs[j]? = some b ∧ d = .bl b
  | [], bs, h => by cases h; exact ⟨rfl, fun j d e => by simp at e⟩
  | x :: xs, bs, h => by
    cases x <;> first | (cases h; done) | skip
    rename_i b
    unfold boolsD at h
    cases h2 : boolsD xs with
    | none => rw [h2] at h; cases h
    | some cs =>
      rw [h2] at h
      cases h
      obtain ⟨h3, h4⟩ := boolsD_get h2
      refine ⟨by rw [List.length_cons, List.length_cons, h3], fun j d e => ?_⟩
      cases j with
      | zero => exact ⟨b, rfl, by simpa using e.symm⟩
      | succ j => exact h4 j d (by simpa using e)
theorem range_any {bs : List Bool} : (List.range bs.length).any (fun j => bs[j]?.getD false) = bs.any id := by
  rw [Bool.eq_iff_iff, List.any_eq_true, List.any_eq_true]
  constructor
  · intro ⟨j, hj, h⟩
    have hj' := List.mem_range.mp hj
    rw [List.getElem?_eq_getElem hj'] at h
    exact ⟨bs[j], List.getElem_mem hj', h⟩
  · intro ⟨b, hb, h⟩
    obtain ⟨j, hj, e⟩ := List.getElem_of_mem hb
    exact ⟨j, List.mem_range.mpr hj, by rw [List.getElem?_eq_getElem hj, e]; exact h⟩
theorem range_all {bs : List Bool} : (List.range bs.length).all (fun j => bs[j]?.getD false) = bs.all id := by
  rw [Bool.eq_iff_iff, List.all_eq_true, List.all_eq_true]
  constructor
  · intro h b hb
    obtain ⟨j, hj, e⟩ := List.getElem_of_mem hb
    have q := h j (List.mem_range.mpr hj)
    rw [List.getElem?_eq_getElem hj, e] at q
    exact q
  · intro h j hj
    have hj' := List.mem_range.mp hj
    rw [List.getElem?_eq_getElem hj']
    exact h _ (List.getElem_mem hj')
theorem es_any {ge : Expr} {mw : MW} {p pos : Pos} (hm : X.mg "any" = none) (hg : Gl X "any" := by rfl) (he : starEach [ge] X.env = (false, eval ge X.env) :: starEach [] X.env := by rfl) : GenJ g X E ge mw → ES g X E (.Call (.Name "any" p) [ge] [] pos) (eAny mw) := fun hj => by
  refine ⟨fun σ H Q => ∃ c e, c.H = H ∧ Ok g c ∧ EnvR c e σ ∧ PostG g c E (WE g c Q) (eAny mw e c.S), ⟨fun pins s σ H Q I hh => ?_⟩, fun c σ e Q ok er hp => ⟨c, e, rfl, ok, er, hp⟩⟩
  obtain ⟨c, e, rfl, ok, er, hp⟩ := hh
  refine wpAny_Call_Name_kw (ld_blt I hg hm boot_any ?_)
  refine PyProof.Rows.callWith_builtin1 ?_ he (by rfl)
  rw [he]
  show wpAny _ _ (spliced ((false, eval ge X.env) :: backTo pos (starEach [] X.env))) _ _ s
  refine Calls.spliced_cons (hj pins σ c e s Sm.D (WE g c Q) _ _ I ok er hp fun c1 ys ga s5 ok1 l1 r1 hp1 hR => ?_)
  obtain ⟨fp, wr, G, F, St, W, hst, hlt, hF, hI⟩ := hR
  obtain ⟨z, hz, q⟩ := PostG.ofO (α := Sm.D) hp1
  cases hb : boolsD ys with
  | none => rw [hb] at hz; cases hz
  | some bs =>
    rw [hb] at hz
    cases hz
    obtain ⟨hl, hget⟩ := boolsD_get hb
    refine Calls.spliced_nil ?_
    refine call_any_walkS (W.self 0 _ _ _ hst ⟨ga, fp, wr, G, _, F, St, fun j => bs[j]?.getD false, rfl, W, hst, fun j y sj Qj Ej hy hQj => ?_, fun s' hmv => ?_⟩)
    · obtain ⟨d, hd, hr⟩ := hF j y hy
      obtain ⟨b, hb1, rfl⟩ := hget j d hd
      obtain rfl := repU_bl.mp hr
      have hQ2 : Qj (bs[j]?.getD false) sj := hQj
      rw [hb1] at hQ2
      exact wpAny_truthy_bool hQ2
    · obtain ⟨c2, J, ok2, l2, r2, s2⟩ := hI s' hmv
      rw [hl, range_any]
      exact ⟨.bl _, c2.H, J, rfl, (q : WE g c Q _ _) c2 _ ok2 (l1.trans l2) (r2.trans r1) s2 (rep_bl.mpr rfl)⟩
theorem es_all {ge : Expr} {mw : MW} {p pos : Pos} (hm : X.mg "all" = none) (hg : Gl X "all" := by rfl) (he : starEach [ge] X.env = (false, eval ge X.env) :: starEach [] X.env := by rfl) : GenJ g X E ge mw → ES g X E (.Call (.Name "all" p) [ge] [] pos) (eAll mw) := fun hj => by
  refine ⟨fun σ H Q => ∃ c e, c.H = H ∧ Ok g c ∧ EnvR c e σ ∧ PostG g c E (WE g c Q) (eAll mw e c.S), ⟨fun pins s σ H Q I hh => ?_⟩, fun c σ e Q ok er hp => ⟨c, e, rfl, ok, er, hp⟩⟩
  obtain ⟨c, e, rfl, ok, er, hp⟩ := hh
  refine wpAny_Call_Name_kw (ld_blt I hg hm (show bootBuiltins "all" = some (.builtin "all") by decide +kernel) ?_)
  refine PyProof.Rows.callWith_builtin1 ?_ he (by rfl)
  rw [he]
  show wpAny _ _ (spliced ((false, eval ge X.env) :: backTo pos (starEach [] X.env))) _ _ s
  refine Calls.spliced_cons (hj pins σ c e s Sm.D (WE g c Q) _ _ I ok er hp fun c1 ys ga s5 ok1 l1 r1 hp1 hR => ?_)
  obtain ⟨fp, wr, G, F, St, W, hst, hlt, hF, hI⟩ := hR
  obtain ⟨z, hz, q⟩ := PostG.ofO (α := Sm.D) hp1
  cases hb : boolsD ys with
  | none => rw [hb] at hz; cases hz
  | some bs =>
    rw [hb] at hz
    cases hz
    obtain ⟨hl, hget⟩ := boolsD_get hb
    refine Calls.spliced_nil ?_
    refine call_all_walkS (W.self 0 _ _ _ hst ⟨ga, fp, wr, G, _, F, St, fun j => bs[j]?.getD false, rfl, W, hst, fun j y sj Qj Ej hy hQj => ?_, fun s' hmv => ?_⟩)
    · obtain ⟨d, hd, hr⟩ := hF j y hy
      obtain ⟨b, hb1, rfl⟩ := hget j d hd
      obtain rfl := repU_bl.mp hr
      have hQ2 : Qj (bs[j]?.getD false) sj := hQj
      rw [hb1] at hQ2
      exact wpAny_truthy_bool hQ2
    · obtain ⟨c2, J, ok2, l2, r2, s2⟩ := hI s' hmv
      rw [hl, range_all]
      exact ⟨.bl _, c2.H, J, rfl, (q : WE g c Q _ _) c2 _ ok2 (l1.trans l2) (r2.trans r1) s2 (rep_bl.mpr rfl)⟩
theorem intsD_get : ∀ {ys : List Sm.D} {ns : List Int}, intsD ys = some ns → ys.length = ns.length ∧ ∀ (j : Nat) (d : Sm.D), ys[j]? = some d → ∃ i, ns[j]? = some i ∧ d = .int i
  | [], bs, h => by cases h; exact ⟨rfl, fun j d e => by simp at e⟩
  | x :: xs, bs, h => by
    cases x <;> first | (simp [intsD] at h; done) | skip
    rename_i b
    unfold intsD at h
    cases h2 : intsD xs with
    | none => rw [h2] at h; cases h
    | some cs =>
      rw [h2] at h
      cases h
      obtain ⟨h3, h4⟩ := intsD_get h2
      refine ⟨by rw [List.length_cons, List.length_cons, h3], fun j d e => ?_⟩
      cases j with
      | zero => exact ⟨b, rfl, by simpa using e.symm⟩
      | succ j => exact h4 j d (by simpa using e)
theorem sumI_app : ∀ (l r : List Int), sumI (l ++ r) = sumI l + sumI r
  | [], r => by simp [sumI]
  | x :: l, r => by
    show x + sumI (l ++ r) = x + sumI l + sumI r
    rw [sumI_app l r]; omega
theorem pre_take {ns : List Int} : ∀ {j : Nat}, j ≤ ns.length → preSum (fun j => ns[j]?.getD 0) j = sumI (ns.take j)
  | 0, _ => rfl
  | j + 1, h => by
    show preSum (fun j => ns[j]?.getD 0) j + ns[j]?.getD 0 = _
    rw [pre_take (Nat.le_of_succ_le h)]
    have e : ns.take (j + 1) = ns.take j ++ [ns[j]'(h)] := List.take_succ_eq_append_getElem h
    rw [e, sumI_app, List.getElem?_eq_getElem h]
    show _ + ns[j] = _ + (ns[j] + 0)
    omega
theorem fits_get : ∀ {ns : List Int} {a : Int}, fitsL a ns = true → ∀ (j : Nat) (h : j < ns.length), InLong ns[j] ∧ InLong (a + sumI (ns.take (j + 1)))
  | [], _, _, j, h => absurd h (Nat.not_lt_zero _)
  | n :: r, a, hf, j, h => by
    unfold fitsL at hf
    simp only [Bool.and_eq_true, decide_eq_true_eq] at hf
    obtain ⟨⟨h1, h2, h3, h4⟩, h5⟩ := hf
    cases j with
    | zero =>
      unfold InLong
      refine ⟨⟨by show _ ≤ n; omega, by show n < _; omega⟩, ?_⟩
      show _ ≤ a + (n + 0) ∧ a + (n + 0) < _
      omega
    | succ j =>
      obtain ⟨q1, q2⟩ := fits_get h5 j (by simpa using h)
      refine ⟨q1, ?_⟩
      have e : a + sumI ((n :: r).take (j + 1 + 1)) = a + n + sumI (r.take (j + 1)) := by
        show a + (n + sumI (r.take (j + 1))) = _
        omega
      rw [e]
      exact q2
theorem es_sum {ge : Expr} {mw : MW} {p pos : Pos} (hm : X.mg "sum" = none) (hg : Gl X "sum" := by rfl) (he : starEach [ge] X.env = (false, eval ge X.env) :: starEach [] X.env := by rfl) : GenJ g X E ge mw → ES g X E (.Call (.Name "sum" p) [ge] [] pos) (eSum mw) := fun hj => by
  refine ⟨fun σ H Q => ∃ c e, c.H = H ∧ Ok g c ∧ EnvR c e σ ∧ PostG g c E (WE g c Q) (eSum mw e c.S), ⟨fun pins s σ H Q I hh => ?_⟩, fun c σ e Q ok er hp => ⟨c, e, rfl, ok, er, hp⟩⟩
  obtain ⟨c, e, rfl, ok, er, hp⟩ := hh
  refine wpAny_Call_Name_kw (ld_blt I hg hm boot_sum ?_)
  refine PyProof.Rows.callWith_builtin1 ?_ he (by rfl)
  rw [he]
  show wpAny _ _ (spliced ((false, eval ge X.env) :: backTo pos (starEach [] X.env))) _ _ s
  refine Calls.spliced_cons (hj pins σ c e s Sm.D (WE g c Q) _ _ I ok er hp fun c1 ys ga s5 ok1 l1 r1 hp1 hR => ?_)
  obtain ⟨fp, wr, G, F, St, W, hst, hlt, hF, hI⟩ := hR
  obtain ⟨z, hz, q⟩ := PostG.ofO (α := Sm.D) hp1
  cases hb : intsD ys with
  | none => rw [hb] at hz; cases hz
  | some ns =>
    rw [hb] at hz
    have hz' : (if fitsL 0 ns = true then some (.int (sumI ns)) else none) = some z := hz
    by_cases hf : fitsL 0 ns = true
    · rw [if_pos hf] at hz'
      cases hz'
      obtain ⟨hl, hget⟩ := intsD_get hb
      refine Calls.spliced_nil ?_
      refine call_sum_walkS (W.self 0 _ _ _ hst ⟨ga, fp, wr, G, _, F, St, fun j => ns[j]?.getD 0, rfl, W, hst, hlt, fun j y hy => ?_, fun j hj' => ?_, fun s' t' hmv => ?_⟩)
      · obtain ⟨d, hd, hr⟩ := hF j y hy
        obtain ⟨b, hb1, rfl⟩ := hget j d hd
        obtain ⟨t, rfl⟩ := repU_int.mp hr
        exact ⟨t, by show Value.int b t = Value.int (ns[j]?.getD 0) t; rw [hb1]; rfl⟩
      · have hj2 : j < ns.length := by rw [← hl]; exact hj'
        obtain ⟨q1, q2⟩ := fits_get hf j hj2
        refine ⟨by show InLong (ns[j]?.getD 0); rw [List.getElem?_eq_getElem hj2]; exact q1, ?_⟩
        rw [pre_take hj2]
        rw [Int.zero_add] at q2
        exact q2
      · obtain ⟨c2, J, ok2, l2, r2, s2⟩ := hI s' hmv
        rw [hl, pre_take (Nat.le_refl _), List.take_length]
        exact ⟨.int _, c2.H, J, ⟨_, rfl⟩, (q : WE g c Q _ _) c2 _ ok2 (l1.trans l2) (r2.trans r1) s2 (rep_int.mpr rfl)⟩
    · rw [if_neg hf] at hz'; cases hz'
end
end Sm
end

section
set_option Elab.async false
set_option linter.all false
set_option autoImplicit false
set_option maxRecDepth 100000
set_option maxHeartbeats 4000000
namespace Sm
open PySem PySem.Spec PyProof.Rows L2
/-! ### more quiet expressions -/
/-- the abstract heap without its tables -/
def noT (H : Hp) : Hp := fun a => match H a with
  | some (.tbl _) => none
  | o => o
theorem noT_some {H : Hp} {a : Addr} {o : HO} (h : H a = some o) (n : nT o) : noT H a = some o := by
  unfold noT
  rw [h]
  cases o <;> first | rfl | exact absurd rfl (n _)
theorem noT_of {H : Hp} {a : Addr} {o : HO} (h : noT H a = some o) : H a = some o ∧ nT o := by
  unfold noT at h
  cases q : H a with
  | none => rw [q] at h; cases h
  | some u =>
    rw [q] at h
    cases u <;> first | (cases h; done) | (cases h; exact ⟨rfl, fun ps z => by cases z⟩)
theorem hok_old {X : Cx} {H : Hp} {h h' : Heap} (k : HOk X.prog X.w H h) (old : ∀ a o ho, h.get? a = some o → H a = some ho → nT ho → h'.get? a = some o) : HOk X.prog X.w (noT H) h' := fun a o e => by
  obtain ⟨e1, n1⟩ := noT_of e
  refine (k a o e1).stay (fun b u hb q => ?_) (fun b q => noT_some q (fun ps z => by cases z)) (fun b xs q => noT_some q (fun ps z => by cases z))
  rcases hb with rfl | hb
  · exact old _ u o q e1 n1
  · exact old _ u _ q hb (fun ps z => by cases z)
section
variable {g : Gx} {X : Cx} {scope : Scope} {own : List (Str × Nat)}
/-- a.n -/
theorem q_fld (i : Nat) {a : Expr} {n : Str} {m : ME} {pos : Pos} (hn : n = g.fn i) (hc : ∀ k, Cls X.K (g.cl k) ∧ NoAttr X.K (g.cl k) n) (qa : QE g X scope own a m) (hb : ∀ env, attributeBase a n env (eval a env) = eval a env := by intro _; rfl) : QE g X scope own (.Attribute a n pos) (eFld i m) := fun c pins σ s₁ s₂ e cenv A' E' m₂ d S' I ok q hA he => by
  unfold eFld at he
  cases h1 : m e c.S with
  | bad => rw [h1] at he; cases he
  | exc k S => rw [h1] at he; cases he
  | ok x S1 =>
    rw [h1] at he
    obtain ⟨rfl, w1⟩ := qa c pins σ s₁ s₂ e cenv A' E' m₂ x S1 I ok q hA h1
    have he' : (match insAt c.S x with
      | some (_, _, fs) => ofO (getF i fs) c.S
      | none => .bad) = .ok d S' := he
    cases h : insAt c.S x with
    | none => rw [h] at he'; cases he'
    | some p =>
      obtain ⟨r, k, fs⟩ := p
      rw [h] at he'
      have he2 : ofO (getF i fs) c.S = .ok d S' := he'
      cases hd : getF i fs with
      | none => rw [hd] at he2; cases he2
      | some d' =>
        rw [hd] at he2
        cases he2
        refine ⟨rfl, attr_of (hb cenv) (wpAny_mono w1 (fun u s₃ ⟨⟨v, rv, ru⟩, k3⟩ => ?_) fun _ _ x => x)⟩
        obtain ⟨_, hl, _, rfl, dx, us, h1, h2⟩ := insAt_of ok rv h
        obtain rfl : u = Value.ref (c.ι r) := ru
        obtain ⟨w, h3, h4⟩ := repF_look h2 hd
        have q3 := q.keeps k3
        obtain ⟨mA, O, rr, _, _, _⟩ := ins_get (hok_old I.hok q3.old) (noT_some h1 (fun ps z => by cases z))
        obtain ⟨y, hy, ry⟩ := RelO.some_of (v := w) (o := mA n) (by rw [← h3, ← hn]; exact rr n)
        exact get_map (I.mod.kin.keeps q3.bs) O ((hc k).1.get n) (hc k).1.hd (hc k).2 hy (handed_of ry) ⟨⟨w, h4, ry⟩, keeps_trans k3 (keepsT _ _)⟩
/-- what a built-in function gives, quietly -/
def QC (g : Gx) (X : Cx) (id : String) (f : Store → List Sm.D → Option Sm.D) : Prop :=
  ∀ (c : Ct) (pins : List (Addr × Obj)) (σ : L2.St) (s₁ s₂ : Shared) (A' : Around) (E' : Value → Shared → Prop) (x : Sm.D) (u : Value) (z : Sm.D), Inv X pins σ c.H s₁ → Ok g c → (∀ a o ho, s₁.heap.get? a = some o → c.H a = some ho → nT ho → s₂.heap.get? a = some o) → A'.handled = none →
    RepU c x u → f c.S [x] = some z → wpAny (model X.prog X.w) A' (call (.builtin id) [u]) (fun r s₃ => RepU c z r ∧ Keeps s₂ s₃) E' s₂
theorem qc_abs : QC g X "abs" bAbs := fun c pins σ s₁ s₂ A' E' x u z I ok old hA ru hz => by
  unfold bAbs at hz
  split at hz
  · rename_i i heq
    cases hz
    cases heq
    obtain ⟨t, rfl⟩ := repU_int.mp ru
    exact call_abs_int fun u tk => ⟨repU_int.mpr ⟨_, rfl⟩, keepsT _ _⟩
  · cases hz
theorem qc_len : QC g X "len" bLen := fun c pins σ s₁ s₂ A' E' x u z I ok old hA ru hz => by
  have hl := line63
  have dict : (match dctM c.S x with
      | some k => some (Sm.D.int k.length)
      | none => none) = some z → wpAny (model X.prog X.w) A' (call (.builtin "len") [u]) (fun r s₃ => RepU c z r ∧ Keeps s₂ s₃) E' s₂ := fun hz => by
    cases hk : dctM c.S x with
    | none => rw [hk] at hz; cases hz
    | some k =>
      rw [hk] at hz
      cases hz
      obtain ⟨v, h1, h2⟩ := ru
      obtain ⟨a, us, rfl, h3, h4⟩ := dctM_of ok h1 hk
      obtain rfl : u = Value.ref a := h2
      obtain ⟨z1, hd, vs, rel, dd⟩ := dk_of (hok_old I.hok old) (noT_some h3 (fun ps z => by cases z))
      refine call_len_dict hd dd (by rw [← rel.length]; rw [sizeLine_eq] at z1; omega) ?_
      rw [← rel.length, repK_len h4]
      exact ⟨repU_int.mpr ⟨_, rfl⟩, keepsT _ _⟩
  cases ex : view c.S x <;> simp only [bLen, ex] at hz
  case lst xs =>
    cases hz
    obtain ⟨p, its, vs, rfl, rv, rl, pl, hsz⟩ := seeL I ok old ru ex
    exact Calls.call_len_list pl.isList (by simp only [List.size_toArray]; omega) ⟨repU_int.mpr ⟨_, by simp only [List.size_toArray]; rw [← rv.length, repL_len rl]⟩, keepsT _ _⟩
  case tup xs =>
    cases hz
    obtain ⟨p, its, vs, rfl, rv, rl, pl, hsz⟩ := seeT I ok old ru ex
    exact len_tuple pl (by simp only [List.size_toArray]; omega) ⟨repU_int.mpr ⟨_, by simp only [List.size_toArray]; rw [← rv.length, repL_len rl]⟩, keepsT _ _⟩
  case str t =>
    split at hz
    · rename_i ht
      cases hz
      have e2 : x = .str t := by
        cases x with
        | obj k =>
          obtain ⟨o, e1, e2⟩ := view_obj ex (by intro z; cases z)
          have : ∀ o : Ob, o.val ≠ some (.str t) := by
            intro o
            induction o with
            | lck o ih => exact ih
            | _ => intro z; cases z
          exact absurd e2 (this o)
        | _ => exact ex
      subst e2
      obtain ⟨v, h1, h2⟩ := ru
      rw [rep_str] at h1
      subst h1
      obtain ⟨tk, rfl⟩ := h2
      have h5 := sz5 ht
      exact len_str (by rw [sS_len]; omega) ⟨repU_int.mpr ⟨_, by rw [sS_len]⟩, keepsT _ _⟩
    · cases hz
  all_goals exact dict hz
/-- x(a), a built-in function -/
theorem q_cb1 {x : Str} {id : String} {f : Store → List Sm.D → Option Sm.D} {a : Expr} {m : ME} {p pos : Pos} (qc : QC g X id f) (hm : X.mg x = none) (hv : bootBuiltins x = some (.builtin id)) (hg : scope.names.lookup x = some .globalImplicit) (qa : QE g X scope own a m)
    (hs : ∀ env, starEach [a] env = (false, eval a env) :: starEach [] env := by intro _; rfl) (hn : x ≠ "__name__" := by decide) (hdb : (x == ("__debug__" : Str)) = false := by decide) : QE g X scope own (.Call (.Name x p) [a] [] pos) (eCB f (aCons m aNil)) := fun c pins σ s₁ s₂ e cenv A' E' m₂ d S' I ok q hA he => by
  unfold eCB aCons aNil at he
  cases h1 : m e c.S with
  | bad => rw [h1] at he; cases he
  | exc k S => rw [h1] at he; cases he
  | ok y S1 =>
    rw [h1] at he
    obtain ⟨rfl, w1⟩ := qa c pins σ s₁ s₂ e cenv A' E' m₂ y S1 I ok q hA h1
    have he2 : ofO (f c.S [y]) c.S = .ok d S' := he
    cases hz : f c.S [y] with
    | none => rw [hz] at he2; cases he2
    | some z =>
      rw [hz] at he2
      cases he2
      refine ⟨rfl, ?_⟩
      obtain ⟨mb, b1, b2⟩ := I.mod.blt
      have hg' : cenv.kindOf x = some .globalImplicit := by unfold PySem.Env.kindOf; rw [q.sc]; exact hg
      refine wpAny_Call_Name_kw (Calls.Name_function_global (by rw [q.sc]; exact q.kind) hg' (Calls.loadGlobal_builtin (by rw [q.gl]; exact I.mod.glob.keeps q.bs) hm (by rw [q.bt]; exact b1.keeps q.bs) ((b2 x hn).trans hv) ?_) hdb)
      refine PyProof.Rows.callWith_builtin1 ?_ (hs cenv) (by rfl)
      rw [hs cenv]
      show wpAny _ _ (spliced ((false, eval a cenv) :: backTo pos (starEach [] cenv))) _ _ s₂
      refine Calls.spliced_cons (wpAny_mono w1 (fun u s₃ ⟨ru, k3⟩ => ?_) fun _ _ x => x)
      refine Calls.spliced_nil ?_
      exact wpAny_mono (qc c pins σ s₁ s₃ A' E' y u d I ok (q.keeps k3).old hA ru hz) (fun r s₄ ⟨rr, k4⟩ => ⟨rr, keeps_trans k3 k4⟩) fun _ _ x => x
end
end Sm
end

section
set_option Elab.async false
set_option linter.all false
set_option autoImplicit false
set_option maxRecDepth 100000
set_option maxHeartbeats 4000000
namespace Sm
open PySem PySem.Spec PyProof.Rows L2
/-! ### the end: from the mirror to the law -/
/-- what the head's run looks at beside the facts: no list among the top's things, the tables are several -/
def exB (tf : List He.Defn) (K : PySem.W.Frag) : Bool := (K.all fun q => !decide (q.2.cls = .type "list")) && decide ((tf.map fun p => (He.cT K p).2).Nodup)
theorem no_list {tf : List He.Defn} {K : PySem.W.Frag} (h : exB tf K = true) {a : Addr} {o : Obj} (e : K.lookup a = some o) : o.cls ≠ .type "list" := by
  unfold exB at h
  simp only [Bool.and_eq_true] at h
  have h1 := List.all_eq_true.mp h.1 (a, o) (He.lookup_mem e)
  simpa using h1
theorem tab_nd {tf : List He.Defn} {K : PySem.W.Frag} (h : exB tf K = true) : (tf.map fun p => (He.cT K p).2).Nodup := by
  unfold exB at h
  simp only [Bool.and_eq_true] at h
  exact of_decide_eq_true h.2
theorem start_sp {g : Gx} {tf : List He.Defn} {K : PySem.W.Frag} {H : Hp} {a : Addr} {ns : List Int} {m : Fn} (hx : exB tf K = true) (hs : SqL K H a (ns.map V.int)) (ht : ∀ p ∈ g.tabs, H p.1 = some (.tbl #[])) (hm : ∃ S, m [.obj 0] [.lck (.lck (.lst (ns.map .int)))] = .ok (.bl true) S) :
    spOf g 1 m [.ref a] H (fun v _ => v = .bl true) fun _ _ _ => False := by
  rcases hs with hs | ⟨o, its, n, hk, hc, _⟩
  · have hl : ∀ r, ({ ι := fun _ => a, S := [.lck (.lck (.lst (ns.map .int)))], H := H, rs := [] } : Ct).live r → r = 0 := fun r ⟨o, e, _⟩ => by
      have := (List.getElem?_eq_some_iff.mp e).1
      simp at this
      exact this
    refine ⟨rfl, { ι := fun _ => a, S := [.lck (.lck (.lst (ns.map .int)))], H := H, rs := [] }, [.obj 0], rfl, ⟨fun r s h1 h2 _ => (hl r h1).trans (hl s h2).symm, fun r o e => ?_, fun r _ h => (by cases h), fun p hp => LamX.TabS.nil (ht p hp), fun p hp => (by cases hp)⟩, repL_one (rep_obj.mpr ⟨by simp, fun _ => rfl⟩), ?_⟩
    · cases r with
      | zero =>
        have e' : Ob.lck (.lck (.lst (ns.map .int))) = o := by simpa using e
        subst e'
        exact ⟨_, hs, repL_ints ns⟩
      | succ r => simp at e
    · obtain ⟨S, hS⟩ := hm
      rw [hS]
      exact fun c' v _ _ _ _ hv => rep_bl.mp hv
  · exact absurd hc (no_list hx hk)
theorem lawAt {l : PySem.W.OpenLaw} {w : World} {K : PySem.W.Frag} {h : Heap} {mg : Str → Option Value} {f : Addr} {fa : List He.Fa} {fn : List He.DefD} {tf : List He.Defn} {g : Gx} {params : Arguments} {body : List Stmt} {scope : Scope} {N : List Str} {k n i j : Nat} {b : MS} (KX : K.In h) (G : h.Ns mainGlobals mg) (hmg : mg "law" = some (.ref f)) (c : He.SaysX fa fn [] tf (exB tf) w h K)
    (hd : fn[i]? = some ⟨("law", none), "law", "law", params, body, scope, [], []⟩) (hj : fa[j]? = some (.glo "law")) (hb : BindN "law" "law" params body scope ["script"]) (S : FnScope N ["script"] scope) (hn : N.length = n) (hg : g.tabs.map (·.1) = tf.map fun p => (He.cT K p).2)
    (hbody : ∀ base : Heap, Tt fa fn tf K mg base → ∀ (cdv : Value) (A : Around) (outer : List PySem.Env) (s : Shared) (H : Hp) (E : XK), cdv = .ref (He.codeOf K ("law", none)) → Room k (A.deeper (PyProof.Rows.envOfC "law" scope s.heap.objs.size (He.fAd K ("law", none)) cdv)) →
      SL g (cxOf (L2.CX l.prog w) l.prog w K mg base N "law" scope (He.fAd K ("law", none)) cdv A outer s H E) E body b)
    (plain : ∀ ns : List Int, ns.length ≤ 63 → (∀ z ∈ ns, Builtin.Int.intBits z ≤ 1048576) → ∃ S, mkFn n 1 b [.obj 0] [.lck (.lck (.lst (ns.map .int)))] = .ok (.bl true) S) : LamX.LawAtS l w K (L2.CX l.prog w) (k + 1) 63 "script" mg f h := by
  have D := c.t.d
  obtain ⟨fd, F⟩ := D.def_ i hd
  have F' : FunD K "law" "law" params body scope [] [] (He.fAd K ("law", none)) fd := F
  have e := hmg.symm.trans (He.glo_ok KX G (D.fact j hj))
  have ef : f = He.fAd K ("law", none) := by cases e; rfl
  subst ef
  refine ⟨fd, tf.map (He.cT K), spOf g 1 (mkFn n 1 b), fun p hp => ?_, fun p hp => ?_, fun p hp => ?_, fun s u => F'.bindsA hb s [u] rfl, fun H a ns hl hbits hT hs => ?_, fun base KB GB TB => ?_⟩
  · obtain ⟨q, hq, rfl⟩ := List.mem_map.mp hp
    exact c.empty q hq
  · obtain ⟨q, hq, rfl⟩ := List.mem_map.mp hp
    exact c.out q hq
  · obtain ⟨q, hq, rfl⟩ := List.mem_map.mp hp
    exact PySem.W.codeHd_of_K KX (c.hd q hq)
  · refine start_sp c.more hs (fun p hp => ?_) (plain ns hl hbits)
    have hm : p.1 ∈ tf.map fun p => (He.cT K p).2 := by rw [← hg]; exact List.mem_map.mpr ⟨p, hp, rfl⟩
    obtain ⟨q, hq, e⟩ := List.mem_map.mp hm
    rw [← e]
    exact hT _ (List.mem_map.mpr ⟨q, hq, rfl⟩)
  · exact fnokD F' S hn (hbody base ⟨KB, GB, D, fun p hp => TB _ (List.mem_map.mpr ⟨p, hp, rfl⟩), tab_nd c.more⟩)
end Sm
end

section
set_option linter.all false
set_option autoImplicit false
set_option maxRecDepth 100000
set_option maxHeartbeats 4000000
namespace Sm
/-! ### the mirror's steps, as equations -/
theorem lstAt_obj {S : Store} {r : Nat} {xs : List D} (h : S[r]? = some (.lst xs)) : lstAt S (.obj r) = some (r, xs) := by
  unfold lstAt; simp only [h]
theorem insAt_obj {S : Store} {r c : Nat} {fs : List (Nat × D)} (h : S[r]? = some (.ins c fs)) : insAt S (.obj r) = some (r, c, fs) := by
  unfold insAt; simp only [h]
theorem eqV_ii {S : Store} {a b : Int} : oEq S (.int a) (.int b) = some (.bl (a == b)) := by
  simp [oEq, eqV, dataN, dataD, view, eqD]
theorem neV_ii {S : Store} {a b : Int} : oNe S (.int a) (.int b) = some (.bl (!(a == b))) := by
  simp [oNe, eqV, dataN, dataD, view, eqD]
theorem bind_ok {α β : Type} {a : α} {S : Store} {f : α → Store → Out β} : (Out.ok a S).bind f = f a S := rfl
theorem bind_exc {α β : Type} {k : Nat} {S : Store} {f : α → Store → Out β} : (Out.exc k S : Out α).bind f = .exc k S := rfl
theorem ofO_some {α : Type} {a : α} {S : Store} : ofO (some a) S = .ok a S := rfl
theorem eV_at {i : Nat} {e : Env} {S : Store} {d : D} (h : e[i]? = some (some d)) : eV i e S = .ok d S := by unfold eV; simp only [h]
theorem eC_eq {d : D} {e : Env} {S : Store} : eC d e S = .ok d S := rfl
theorem eOp_eq {f : Store → D → D → Option D} {a b : ME} {e : Env} {S S1 S2 : Store} {x y z : D} (h1 : a e S = .ok x S1) (h2 : b e S1 = .ok y S2) (h3 : f S2 x y = some z) : eOp f a b e S = .ok z S2 := by
  unfold eOp; simp only [h1, h2, h3, bind_ok, ofO_some]
theorem eUn_eq {f : Store → D → Option D} {a : ME} {e : Env} {S S1 : Store} {x z : D} (h1 : a e S = .ok x S1) (h3 : f S1 x = some z) : eUn f a e S = .ok z S1 := by
  unfold eUn; simp only [h1, h3, bind_ok, ofO_some]
theorem tB_eq {a : ME} {e : Env} {S S1 : Store} {b : Bool} (h : a e S = .ok (.bl b) S1) : tB a e S = .ok b S1 := by unfold tB; simp only [h, bind_ok]
theorem tOr_t {a b : MB} {e : Env} {S S1 : Store} (h : a e S = .ok true S1) : tOr a b e S = .ok true S1 := by unfold tOr; simp only [h, bind_ok, if_true]
theorem tOr_f {a b : MB} {e : Env} {S S1 : Store} {r : Out Bool} (h : a e S = .ok false S1) (h2 : b e S1 = r) : tOr a b e S = r := by unfold tOr; simp only [h, bind_ok, Bool.false_eq_true, if_false]; exact h2
theorem tAnd_f {a b : MB} {e : Env} {S S1 : Store} (h : a e S = .ok false S1) : tAnd a b e S = .ok false S1 := by unfold tAnd; simp only [h, bind_ok, Bool.false_eq_true, if_false]
theorem tAnd_t {a b : MB} {e : Env} {S S1 : Store} {r : Out Bool} (h : a e S = .ok true S1) (h2 : b e S1 = r) : tAnd a b e S = r := by unfold tAnd; simp only [h, bind_ok, if_true]; exact h2
theorem tNot_eq {a : MB} {e : Env} {S S1 : Store} {b : Bool} (h : a e S = .ok b S1) : tNot a e S = .ok (!b) S1 := by unfold tNot; simp only [h, bind_ok]
theorem aNil_eq {e : Env} {S : Store} : aNil e S = .ok [] S := rfl
theorem aCons_eq {a : ME} {r : MA} {e : Env} {S S1 S2 : Store} {x : D} {xs : List D} (h1 : a e S = .ok x S1) (h2 : r e S1 = .ok xs S2) : aCons a r e S = .ok (x :: xs) S2 := by unfold aCons; simp only [h1, h2, bind_ok]
theorem eCB_eq {f : Store → List D → Option D} {r : MA} {e : Env} {S S1 : Store} {xs : List D} {z : D} (h1 : r e S = .ok xs S1) (h2 : f S1 xs = some z) : eCB f r e S = .ok z S1 := by unfold eCB; simp only [h1, h2, bind_ok, ofO_some]
theorem eCall_eq {f : Fn} {r : MA} {e : Env} {S S1 : Store} {xs : List D} {o : Out D} (h1 : r e S = .ok xs S1) (h2 : f xs S1 = o) : eCall f r e S = o := by unfold eCall; simp only [h1, bind_ok]; exact h2
theorem eTup_eq {r : MA} {e : Env} {S S1 : Store} {xs : List D} (h1 : r e S = .ok xs S1) (h2 : xs.length ≤ 1000) : eTup r e S = .ok (.tup xs) S1 := by unfold eTup; simp only [h1, bind_ok, h2, if_true]
theorem eLst_eq {r : MA} {e : Env} {S S1 : Store} {xs : List D} (h1 : r e S = .ok xs S1) (h2 : xs.length ≤ 1000) : eLst r e S = .ok (.lst xs) S1 := by unfold eLst; simp only [h1, bind_ok, h2, if_true]
theorem eIf_t {t : MB} {a b : ME} {e : Env} {S S1 : Store} {o : Out D} (h : t e S = .ok true S1) (h2 : a e S1 = o) : eIf t a b e S = o := by unfold eIf; simp only [h, bind_ok, if_true]; exact h2
theorem eIf_f {t : MB} {a b : ME} {e : Env} {S S1 : Store} {o : Out D} (h : t e S = .ok false S1) (h2 : b e S1 = o) : eIf t a b e S = o := by unfold eIf; simp only [h, bind_ok, Bool.false_eq_true, if_false]; exact h2
theorem seq_nx {a b : MS} {e e1 : Env} {S S1 : Store} {o : Out Fl} (h : a e S = .ok (.nx e1) S1) (h2 : b e1 S1 = o) : sSeq a b e S = o := by unfold sSeq; simp only [h, bind_ok]; exact h2
theorem seq_rt {a b : MS} {e : Env} {S S1 : Store} {d : D} (h : a e S = .ok (.rt d) S1) : sSeq a b e S = .ok (.rt d) S1 := by unfold sSeq; simp only [h, bind_ok]
theorem seq_exc {a b : MS} {e : Env} {S S1 : Store} {k : Nat} (h : a e S = .exc k S1) : sSeq a b e S = .exc k S1 := by unfold sSeq; simp only [h, bind_exc]
theorem if_t {t : MB} {a b : MS} {e : Env} {S S1 : Store} {o : Out Fl} (h : t e S = .ok true S1) (h2 : a e S1 = o) : sIf t a b e S = o := by unfold sIf; simp only [h, bind_ok, if_true]; exact h2
theorem if_f {t : MB} {a b : MS} {e : Env} {S S1 : Store} {o : Out Fl} (h : t e S = .ok false S1) (h2 : b e S1 = o) : sIf t a b e S = o := by unfold sIf; simp only [h, bind_ok, Bool.false_eq_true, if_false]; exact h2
theorem nil_eq {e : Env} {S : Store} : sNil e S = .ok (.nx e) S := rfl
theorem set_eq {i : Nat} {m : ME} {e : Env} {S S1 : Store} {d : D} (h : m e S = .ok d S1) : sSet i m e S = .ok (.nx (e.set i (some d))) S1 := by unfold sSet; simp only [h, bind_ok]
theorem ret_eq {m : ME} {e : Env} {S S1 : Store} {d : D} (h : m e S = .ok d S1) : sRet m e S = .ok (.rt d) S1 := by unfold sRet; simp only [h, bind_ok]
theorem raise_eq {k : Nat} {e : Env} {S : Store} : sRaise k e S = .exc k S := rfl
theorem fn_rt {n ar : Nat} {b : MS} {ds : List D} {S S1 : Store} {d : D} (hl : ds.length = ar) (h : b (ds.map some ++ List.replicate (n - ds.length) none) S = .ok (.rt d) S1) : mkFn n ar b ds S = .ok d S1 := by unfold mkFn; rw [if_pos hl]; simp only [h]
theorem fn_nx {n ar : Nat} {b : MS} {ds : List D} {S S1 : Store} {e : Env} (hl : ds.length = ar) (h : b (ds.map some ++ List.replicate (n - ds.length) none) S = .ok (.nx e) S1) : mkFn n ar b ds S = .ok .non S1 := by unfold mkFn; rw [if_pos hl]; simp only [h]
theorem fn_exc {n ar : Nat} {b : MS} {ds : List D} {S S1 : Store} {k : Nat} (hl : ds.length = ar) (h : b (ds.map some ++ List.replicate (n - ds.length) none) S = .exc k S1) : mkFn n ar b ds S = .exc k S1 := by unfold mkFn; rw [if_pos hl]; simp only [h]
theorem sub_eq {o i v : ME} {e : Env} {S S1 S2 S3 : Store} {x y : D} {r j : Nat} {z : Int} {xs : List D} (h1 : v e S = .ok y S1) (h2 : o e S1 = .ok x S2) (h3 : i e S2 = .ok (.int z) S3) (h4 : lstAt S3 x = some (r, xs)) (h5 : ixZ xs.length z = some j) : sSub o i v e S = .ok (.nx e) (S3.set r (.lst (xs.set j y))) := by
  unfold sSub; simp only [h1, h2, h3, h4, h5, bind_ok]
theorem fld_at {i : Nat} {o : ME} {e : Env} {S S1 : Store} {x d : D} {r c : Nat} {fs : List (Nat × D)} (h1 : o e S = .ok x S1) (h2 : insAt S1 x = some (r, c, fs)) (h3 : getF i fs = some d) : eFld i o e S = .ok d S1 := by unfold eFld; simp only [h1, h2, h3, bind_ok, ofO_some]
theorem ii_lt {S : Store} {a b : Int} : oLt S (.int a) (.int b) = some (.bl (decide (a < b))) := rfl
theorem ii_le {S : Store} {a b : Int} : oLe S (.int a) (.int b) = some (.bl (decide (a ≤ b))) := rfl
theorem ii_gt {S : Store} {a b : Int} : oGt S (.int a) (.int b) = some (.bl (decide (b < a))) := rfl
theorem ii_ge {S : Store} {a b : Int} : oGe S (.int a) (.int b) = some (.bl (decide (b ≤ a))) := rfl
theorem ii_sub {S : Store} {a b : Int} : oSub S (.int a) (.int b) = some (.int (a - b)) := rfl
theorem ii_add {S : Store} {a b : Int} : oAdd S (.int a) (.int b) = some (.int (a + b)) := rfl
theorem ii_div {S : Store} {a b : Int} (h : b ≠ 0 ∧ b.natAbs < 1073741824) : oDiv S (.int a) (.int b) = some (.int (a.fdiv b)) := by unfold oDiv; simp only [h, and_self, if_true]; simp [h.1]
theorem ii_mod {S : Store} {a b : Int} (h : b ≠ 0) : oMod S (.int a) (.int b) = some (.int (a.fmod b)) := by unfold oMod; simp [h]
theorem fld_set {i : Nat} {o v : ME} {e : Env} {S S1 S2 : Store} {x y : D} {r c : Nat} {fs : List (Nat × D)} (h1 : v e S = .ok y S1) (h2 : o e S1 = .ok x S2) (h3 : insAt S2 x = some (r, c, fs)) (h4 : fs.length < 1000) : sFld i o v e S = .ok (.nx e) (S2.set r (.ins c (putF i y fs))) := by
  unfold sFld; simp only [h1, h2, h3, h4, bind_ok, if_true]
theorem fld_aug {f : Store → D → D → Option D} {i : Nat} {o v : ME} {e : Env} {S S1 S2 : Store} {x y z u : D} {r r' c : Nat} {fs fs' : List (Nat × D)} (h1 : o e S = .ok x S1) (h2 : insAt S1 x = some (r, c, fs)) (h3 : getF i fs = some y) (h4 : v e S1 = .ok z S2) (h5 : f S2 y z = some u) (h6 : insAt S2 x = some (r', c, fs')) (h7 : fs'.length < 1000) :
    sFldAug f i o v e S = .ok (.nx e) (S2.set r' (.ins c (putF i u fs'))) := by
  unfold sFldAug; simp only [h1, h2, h3, h4, h5, h6, h7, bind_ok, and_self, if_true]
theorem aug_eq {f : Store → D → D → Option D} {i : Nat} {m : ME} {e : Env} {S S1 : Store} {x y z : D} (h1 : e[i]? = some (some x)) (h2 : m e S = .ok y S1) (h3 : f S1 x y = some z) : sAug f i m e S = .ok (.nx (e.set i (some z))) S1 := by
  unfold sAug; simp only [h1, h2, h3, bind_ok]
theorem meth_eq {c : Nat} {f : Fn} {o : ME} {r : MA} {e : Env} {S S1 S2 : Store} {x : D} {k : Nat} {fs : List (Nat × D)} {ds : List D} {q : Out D} (h1 : o e S = .ok x S1) (h2 : insAt S1 x = some (k, c, fs)) (h3 : r e S1 = .ok ds S2) (h4 : f (x :: ds) S2 = q) : eMeth c f o r e S = q := by
  unfold eMeth; simp only [h1, h2, h3, bind_ok, if_true]; exact h4
theorem make_eq {c : Nat} {f : Fn} {r : MA} {e : Env} {S S1 S2 : Store} {ds : List D} (h1 : r e S = .ok ds S1) (h2 : f (.obj S1.length :: ds) (S1 ++ [.ins c []]) = .ok .non S2) : eMake c f r e S = .ok (.obj S1.length) S2 := by
  unfold eMake; simp only [h1, h2, bind_ok]
theorem make_exc {c k : Nat} {f : Fn} {r : MA} {e : Env} {S S1 S2 : Store} {ds : List D} (h1 : r e S = .ok ds S1) (h2 : f (.obj S1.length :: ds) (S1 ++ [.ins c []]) = .exc k S2) : eMake c f r e S = .exc k S2 := by
  unfold eMake; simp only [h1, h2, bind_ok, bind_exc]
theorem told_ok {sub : Nat → Nat → Bool} {hs : List (Nat × Tx)} {m : ME} {e : Env} {S S1 : Store} {d : D} (h : m e S = .ok d S1) : eTold sub hs m e S = .ok d S1 := by unfold eTold; simp only [h]
theorem told_exc {sub : Nat → Nat → Bool} {hs : List (Nat × Tx)} {m : ME} {e : Env} {S S1 : Store} {k : Nat} {y : Nat × Tx} (h : m e S = .exc k S1) (hf : (hs.find? fun h => sub k h.1) = some y) : eTold sub hs m e S = .ok (.str y.2) S1 := by unfold eTold; simp only [h, hf]
theorem par_eq {i j : Nat} {r : MA} {e : Env} {S S1 : Store} {v w : D} (h : r e S = .ok [v, w] S1) : sPar i j r e S = .ok (.nx ((e.set i (some v)).set j (some w))) S1 := by unfold sPar; simp only [h, bind_ok]
theorem par3_eq {i j k : Nat} {r : MA} {e : Env} {S S1 : Store} {v w u : D} (h : r e S = .ok [v, w, u] S1) : sPar3 i j k r e S = .ok (.nx (((e.set i (some v)).set j (some w)).set k (some u))) S1 := by unfold sPar3; simp only [h, bind_ok]
theorem asg_eq {g : MG} {m : ME} {e e1 : Env} {S S1 S2 : Store} {d : D} (h : m e S = .ok d S1) (h2 : g d e S1 = .ok e1 S2) : sAsg g m e S = .ok (.nx e1) S2 := by unfold sAsg; simp only [h, h2, bind_ok]
theorem for_eq {it : MI} {g : MG} {b : MS} {e : Env} {S S1 : Store} {p : List D × Option Nat} {q : Out Fl} (h : it e S = .ok p S1) (h2 : forL p.2 g b p.1 e S1 = q) : sFor it g b e S = q := by unfold sFor; simp only [h, bind_ok]; exact h2
theorem range1_eq {r : MA} {e : Env} {S S1 : Store} {n : Int} (h : r e S = .ok [.int n] S1) (h2 : -1000000 ≤ n ∧ n ≤ 1000000) : iRange1 r e S = .ok (rangeL 0 n.toNat, none) S1 := by unfold iRange1; simp only [h, bind_ok]; rw [if_pos h2]
theorem forL_nil {lk : Option Nat} {g : MG} {b : MS} {e : Env} {S : Store} : forL lk g b [] e S = .ok (.nx e) (unlockAt S lk) := rfl
theorem forL_nx {lk : Option Nat} {g : MG} {b : MS} {x : D} {xs : List D} {e e1 e2 : Env} {S S1 S2 : Store} {q : Out Fl} (h1 : g x e S = .ok e1 S1) (h2 : b e1 S1 = .ok (.nx e2) S2) (h3 : forL lk g b xs e2 S2 = q) : forL lk g b (x :: xs) e S = q := by
  unfold forL; simp only [h1, h2, bind_ok]; exact h3
theorem forL_bk {lk : Option Nat} {g : MG} {b : MS} {x : D} {xs : List D} {e e1 e2 : Env} {S S1 S2 : Store} (h1 : g x e S = .ok e1 S1) (h2 : b e1 S1 = .ok (.bk e2) S2) : forL lk g b (x :: xs) e S = .ok (.nx e2) (unlockAt S2 lk) := by
  unfold forL; simp only [h1, h2, bind_ok]
theorem seq_bk {a b : MS} {e e1 : Env} {S S1 : Store} (h : a e S = .ok (.bk e1) S1) : sSeq a b e S = .ok (.bk e1) S1 := by unfold sSeq; simp only [h, bind_ok]
theorem brk_eq {e : Env} {S : Store} : sBrk e S = .ok (.bk e) S := rfl
theorem gN_eq {i : Nat} {x : D} {e : Env} {S : Store} : gN i x e S = .ok (e.set i (some x)) S := rfl
theorem isub_ii {S : Store} {a b : Int} : iSub S (.int a) (.int b) = some (.int (a - b)) := rfl
theorem iadd_ii {S : Store} {a b : Int} : iAdd S (.int a) (.int b) = some (.int (a + b)) := rfl
end Sm
end

section
set_option Elab.async false
set_option linter.all false
set_option autoImplicit false
set_option maxRecDepth 100000
set_option maxHeartbeats 4000000
/-! More walks: enumerate over a list, reversed of a list. -/
namespace Sm
open PySem L2
theorem enumD_len : ∀ (xs : List D) (n : Nat), (enumD n xs).length = xs.length
  | [], _ => rfl
  | x :: r, n => by show (enumD (n + 1) r).length + 1 = r.length + 1; rw [enumD_len r]
theorem enumD_get : ∀ {xs : List D} {n i : Nat} {d : D}, (enumD n xs)[i]? = some d → ∃ x, xs[i]? = some x ∧ d = .tup [.int ((n + i : Nat) : Int), x]
  | [], _, _, _, h => by simp [enumD] at h
  | x :: xs, n, 0, d, h => by
    have h' : D.tup [.int (n : Int), x] = d := by simpa [enumD] using h
    exact ⟨x, by simp, h'.symm⟩
  | x :: xs, n, i + 1, d, h => by
    obtain ⟨a, h1, h2⟩ := enumD_get (xs := xs) (n := n + 1) (i := i) (by simpa [enumD] using h)
    exact ⟨a, by simpa using h1, by rw [h2, show n + 1 + i = n + (i + 1) by omega]⟩
variable {g : Gx} {X : Cx} {E : XK}
theorem jw_enum {K : PySem.W.Frag} {a : Addr} {xs : List D} {vs : List V} : JW g (Ite K a) (enumD 0 xs) (fun c => c.free a ∧ c.H a = some (.lst vs) ∧ RepL c xs vs) where
  mono := fun c c' ⟨f, h, r⟩ l => ⟨l.fre a _ f h (fun _ z => by cases z), l.tre a _ trivial f h, RepL.mono l _ _ r⟩
  stop := fun c ok ⟨f, h, r⟩ => ⟨vs, SqL.of h, by rw [enumD_len, repL_len r]; omega⟩
  go := fun c i d e ok ⟨f, h, r⟩ => by
    obtain ⟨x, e1, rfl⟩ := enumD_get e
    obtain ⟨v, h3, _⟩ := repL_get r e1
    exact ⟨vs, v, SqL.of h, h3⟩
  yld := fun c i d v H' e ok ⟨f, h, r⟩ y => by
    obtain ⟨x, e1, rfl⟩ := enumD_get e
    obtain ⟨v1, h3, q3⟩ := repL_get r e1
    obtain ⟨T, p, rfl, hT, e3, k1⟩ := y
    have z1 := k1 vs (SqL.of h)
    rw [h3] at z1; cases z1
    rw [show (0 + i : Nat) = i by omega]
    exact ⟨{ c with H := upd c.H T (.tup [.int (i : Nat), v1]) }, ok.new hT, Le.new hT, RsE.new ok hT, rfl, e3.symm, rep_newT ok hT (repL_cons.mpr ⟨_, _, rfl, rep_int.mpr rfl, repL_one q3⟩)⟩
theorem is_enum {e1 : Expr} {m : MA} {p pos tpos : Pos} {elts : List Expr} {kk : Nat} (hm : X.mg "enumerate" = none) (hg : Gl X "enumerate" := by rfl)
    (hs : starEach [e1] X.env = [(false, eval e1 X.env)] := by rfl) : AS g X E [e1] m → IS g X E (.Tuple elts kk tpos) (.Call (.Name "enumerate" p) [e1] [] pos) (iEnum m) :=
  fun ⟨ta, pa, sa, _⟩ => ⟨_, pi_enum hg hm pa hs, fun c σ e R ok er hp => by
    show ta σ c.H _
    refine bindA (R := WI g c R) sa ok er hp fun c1 ds vs ok1 l1 r1 rx hp1 => ?_
    split at hp1
    · rename_i a
      split at hp1
      · rename_i xs ea
        have ea : a = .lst xs := by
          cases a <;> first | (cases ea; done) | skip
          cases ea; rfl
        subst ea
        obtain ⟨v, rfl, h⟩ := rep1 rx
        obtain ⟨p1, vs1, rfl, f1, h1, q1⟩ := rep_lst.mp h
        exact ⟨p1, vs1, rfl, SqL.of h1, hp1 c1 _ _ ok1 l1 r1 rfl jw_enum ⟨f1, h1, q1⟩ (fun r h => by cases h)⟩
      · exact hp1.elim
    · exact hp1.elim⟩
theorem rev_get {α : Type} {xs : List α} {i : Nat} {d : α} (h : xs.reverse[i]? = some d) : i < xs.length ∧ xs[xs.length - 1 - i]? = some d := by
  have hi : i < xs.reverse.length := (List.getElem?_eq_some_iff.mp h).1
  rw [List.length_reverse] at hi
  rw [List.getElem?_reverse hi] at h
  exact ⟨hi, h⟩
theorem jw_rev {K : PySem.W.Frag} {a : Addr} {xs : List D} {vs : List V} : JW g (Itv K a vs.length) xs.reverse (fun c => c.free a ∧ c.H a = some (.lst vs) ∧ RepL c xs vs) where
  mono := fun c c' ⟨f, h, r⟩ l => ⟨l.fre a _ f h (fun _ z => by cases z), l.tre a _ trivial f h, RepL.mono l _ _ r⟩
  stop := fun c ok ⟨f, h, r⟩ => by
    show vs.length ≤ xs.reverse.length
    rw [List.length_reverse, repL_len r]; exact Nat.le_refl _
  go := fun c i d e ok ⟨f, h, r⟩ => by
    obtain ⟨hi, e1⟩ := rev_get e
    have hl : vs.length = xs.length := repL_len r
    obtain ⟨v, h3, _⟩ := repL_get r e1
    exact ⟨by rw [hl]; exact hi, vs, v, SqL.of h, by rw [hl]; exact h3⟩
  yld := fun c i d v H' e ok ⟨f, h, r⟩ y => by
    obtain ⟨hi, e1⟩ := rev_get e
    have hl : vs.length = xs.length := repL_len r
    obtain ⟨v1, h3, q3⟩ := repL_get r e1
    obtain ⟨e3, k1⟩ := y
    have z1 := k1 vs (SqL.of h)
    rw [hl, h3] at z1
    cases z1
    exact ⟨c, ok, Le.refl c, RsE.refl c, rfl, e3.symm, q3⟩
theorem is_rev {tg e1 : Expr} {m : MA} {p pos : Pos} (hm : X.mg "reversed" = none) (hg : Gl X "reversed" := by rfl)
    (hs : starEach [e1] X.env = [(false, eval e1 X.env)] := by rfl) : AS g X E [e1] m → IS g X E tg (.Call (.Name "reversed" p) [e1] [] pos) (iRevS m) :=
  fun ⟨ta, pa, sa, _⟩ => ⟨_, pi_reversed hg hm pa hs, fun c σ e R ok er hp => by
    show ta σ c.H _
    refine bindA (R := WI g c R) sa ok er hp fun c1 ds vs ok1 l1 r1 rx hp1 => ?_
    split at hp1
    · rename_i a
      split at hp1
      · rename_i xs ea
        have ea : a = .lst xs := by
          cases a <;> first | (cases ea; done) | skip
          cases ea; rfl
        subst ea
        obtain ⟨v, rfl, h⟩ := rep1 rx
        obtain ⟨p1, vs1, rfl, f1, h1, q1⟩ := rep_lst.mp h
        exact ⟨p1, vs1, rfl, SqL.of h1, hp1 c1 _ _ ok1 l1 r1 rfl jw_rev ⟨f1, h1, q1⟩ (fun r h => by cases h)⟩
      · exact hp1.elim
    · exact hp1.elim⟩
end Sm
end

section
set_option Elab.async false
set_option linter.all false
set_option autoImplicit false
set_option maxRecDepth 100000
set_option maxHeartbeats 4000000
/-! Methods of a text. -/
namespace Sm
open PySem L2
def eTM (f : Tx → List D → Option D) (o : ME) (r : MA) : ME := fun e S => (o e S).bind fun x S1 => match x with
  | .str t => (r e S1).bind fun xs S2 => ofO (f t xs) S2
  | _ => .bad
variable {g : Gx} {X : Cx} {E : XK}
def SM (g : Gx) (r : V → List V → Hp → VK → Prop) (f : Tx → List D → Option D) : Prop := ∀ c t xs vs Q z, Ok g c → RepL c xs vs → f t xs = some z → WE g c Q z c.S → r (.str (sS t)) vs c.H Q
theorem es_tm {o a : Expr} {as : List Expr} {mo : ME} {m : MA} {id : String} {name : Str} {r : V → List V → Hp → VK → Prop} {f : Tx → List D → Option D} {apos cpos : Pos} (slot : Slot "str" name id) (hty : typeOf (.builtin id) = pure (.type "method_descriptor")) (hm : MtR X id r) (hf : SM g r f)
    (hbase : attributeBase o name X.env (eval o X.env) = eval o X.env := by rfl)
    (hfew : ((backTo cpos (starEach (a :: as) X.env)).all (fun x => !x.1) && (backToKw cpos (keywordEach [] X.env)).all (fun x => x.1.isSome)
      && decide ((a :: as).length + ([] : List Keyword).length + (if ([] : List Keyword).isEmpty then 0 else 1) < 30)) = true := by rfl)
    (hline : (apos.endLine == cpos.line) = true := by rfl) (hs : starEach (a :: as) X.env = (false, eval a X.env) :: starEach as X.env := by rfl) (hpl : (backTo cpos (starEach as X.env)).any (·.1) = false := by rfl) :
    ES g X E o mo → AS g X E (a :: as) m → ES g X E (.Call (.Attribute o name apos) (a :: as) [] cpos) (eTM f mo m) := fun ⟨to, po, so⟩ ⟨ta, pa, sa, _⟩ => by
  refine ⟨_, pe_bm PySem.F.plainAttrs_str slot hty hm po pa hbase hfew hline hs hpl, fun c σ e Q ok er hp => ?_⟩
  show to σ c.H _
  refine bindE (R := WE g c Q) so ok er hp fun c1 x v ok1 l1 r1 rx hp1 => ?_
  split at hp1
  · rename_i t
    rw [rep_str.mp rx]
    refine ⟨?ty, ?_⟩
    case ty => first | trivial | rfl | exact ⟨_, rfl⟩ | simp [tyV]
    show ta σ c1.H _
    refine bindA (R := WE g c Q) sa ok1 (er.mono l1) hp1 fun c2 xs vs ok2 l2 r2 ry hp2 => ?_
    obtain ⟨z, hz, q⟩ := PostG.ofO (α := D) hp2
    exact hf c2 t xs vs Q z ok2 ry hz (WE.later (l1.trans l2) (r2.trans r1) q)
  · exact hp1.elim
/-! ### join -/
def strsD : List D → Option (List Tx)
  | [] => some []
  | .str t :: r => (strsD r).map (t :: ·)
  | _ => none
def joinT (S : Tx) : List Tx → Tx
  | [] => []
  | [p] => p
  | p :: q :: r => p ++ (S ++ joinT S (q :: r))
def sumL (ts : List Tx) : Nat := (ts.map (·.length)).sum
def fJoin (t : Tx) : List D → Option D
  | [.lst ds] => match strsD ds with
    | some ts => if sumL ts + ts.length * t.length ≤ 1000000 then some (.str (joinT t ts)) else none
    | none => none
  | _ => none
theorem joinT_eq (S : Tx) : ∀ ts : List Tx, joinT S ts = TL.joinL S ts
  | [] => rfl
  | [p] => rfl
  | p :: q :: r => by
    show p ++ (S ++ joinT S (q :: r)) = p ++ (S ++ TL.joinL S (q :: r))
    rw [joinT_eq S (q :: r)]
theorem strsD_of {c : Ct} : ∀ {ds : List D} {vs : List V} {ts : List Tx}, strsD ds = some ts → RepL c ds vs → vs = (ts.map sS).map V.str
  | [], vs, ts, h, r => by
    cases h
    exact repL_nil.mp r
  | d :: ds, vs, ts, h, r => by
    obtain ⟨v, vr, rfl, r1, r2⟩ := repL_cons.mp r
    cases d with
    | str t =>
      obtain ⟨us, hu, rfl⟩ := Option.map_eq_some_iff.mp (show (strsD ds).map (t :: ·) = some ts from h)
      rw [rep_str.mp r1, strsD_of hu r2]
      rfl
    | _ => cases h
theorem sm_join {X : Cx} : SM g (fun x xs H Q => ∃ a p, ∃ ys : List Str, x = .str a ∧ xs = [.ref p] ∧ (SqL X.K H p (ys.map V.str) ∨ SqT X.K H p (ys.map V.str)) ∧
    (ys.map (·.length)).sum + ys.length * a.length ≤ 16777216 ∧ Q (.str (Txt.join a ys)) H) fJoin := by
  intro c t xs vs Q z ok r e q
  unfold fJoin at e
  split at e
  · rename_i ds
    split at e
    · rename_i ts hts
      split at e
      · rename_i hz
        cases e
        obtain ⟨v, rfl, rx⟩ := rep1 r
        obtain ⟨p, ws, rfl, _, h1, h2⟩ := rep_lst.mp rx
        have hw := strsD_of hts h2
        subst hw
        refine ⟨sS t, p, ts.map sS, rfl, rfl, .inl (SqL.of h1), ?_, ?_⟩
        · have e1 : ((ts.map sS).map (·.length)).sum = sumL ts := by
            unfold sumL
            rw [List.map_map]
            rfl
          rw [e1, List.length_map]
          show sumL ts + ts.length * t.length ≤ 16777216
          omega
        · have := we_str ok q
          rw [joinT_eq] at this
          have js : Txt.join (sS t) (ts.map sS) = sS (TL.joinL t ts) := SX.join_S t ts
          rw [js]
          exact this
      · cases e
    · cases e
  · cases e
/-! ### strip of given signs -/
def stripLoT (b t : Tx) : Nat := (t.takeWhile fun c => b.contains c).length
def stripT (t b : Tx) : Tx := (t.drop (stripLoT b t)).take (t.length - ((t.drop (stripLoT b t)).reverse.takeWhile fun c => b.contains c).length - stripLoT b t)
def fStrip (t : Tx) : List D → Option D
  | [.str b] => if t.length ≤ 1000000 then some (.str (stripT t b)) else none
  | _ => none
theorem stripT_eq (t b : Tx) : Txt.stripChars (sS t) (sS b) = sS (stripT t b) := by
  have e : ∀ c, (sS b).cps.contains c = b.contains c := fun c => by simp [sS]
  have e2 : (sS b).cps.contains = fun c => b.contains c := funext e
  unfold Txt.stripChars
  rw [PySem.W.stripBy_eq, e2]
  unfold PySem.W.stripped PySem.Builtin.Str.strSub
  show (⟨(sS t).cps.extract (t.takeWhile fun c => b.contains c).length (t.length - ((t.drop (t.takeWhile fun c => b.contains c).length).reverse.takeWhile fun c => b.contains c).length)⟩ : Str) = _
  unfold stripT stripLoT sS
  rw [List.extract_toArray, List.extract_eq_take_drop]
theorem sm_strip : SM g (fun x xs H Q => ∃ a b, x = .str a ∧ xs = [.str b] ∧ a.length ≤ sizeLine ∧ Q (.str (Txt.stripChars a b)) H) fStrip := by
  intro c t xs vs Q z ok r e q
  unfold fStrip at e
  split at e
  · rename_i b
    split at e
    · rename_i hz
      cases e
      obtain ⟨v, rfl, rx⟩ := rep1 r
      rw [rep_str.mp rx]
      refine ⟨sS t, sS b, rfl, rfl, ?_, ?_⟩
      · rw [sizeLine_eq]
        show t.length ≤ _
        omega
      · rw [stripT_eq]
        exact we_str ok q
    · cases e
  · cases e
/-- str of an int -/
def strI (i : Int) : Tx := (Str.ofString (toString i)).cps.toList
def bStr (_ : Store) : List D → Option D
  | [.int i] => if i.natAbs.log2 < 1920 then some (.str (strI i)) else none
  | _ => none
theorem bt_str : bootBuiltins "str" = some (.type "str") := by decide +kernel
theorem sc_str : SC g (fun xs H Q => ∃ i : Int, xs = [.int i] ∧ i.natAbs.log2 < 1920 ∧ Q (.str (toString i)) H) bStr := by
  intro c xs vs Q z ok r e q
  unfold bStr at e
  split at e
  · rename_i i
    split at e
    · rename_i hz
      cases e
      obtain ⟨v, rfl, rx⟩ := rep1 r
      rw [rep_int.mp rx]
      have := we_str ok q
      exact ⟨i, rfl, hz, this⟩
    · cases e
  · cases e
end Sm
end

section
set_option Elab.async false
set_option linter.all false
set_option autoImplicit false
set_option maxRecDepth 100000
set_option maxHeartbeats 4000000
/-! Dicts of the store. -/
namespace Sm
open PySem L2
variable {g : Gx} {X : Cx} {E : XK}
/-! ### a locked dict -/
def Ct.lkd (c : Ct) (r : Nat) (kvs : List (K1 × D)) (od : Obj) (us : List (Key × V)) : Ct := { c with S := c.S.set r (.lck (.dct kvs)), H := upd c.H (c.ι r) (.frz od (.dK us)) }
theorem lkd_ok {c : Ct} (ok : Ok g c) {r : Nat} {kvs : List (K1 × D)} {us : List (Key × V)} {od : Obj} (h : c.S[r]? = some (.dct kvs)) (hH : c.H (c.ι r) = some (.dK us)) (hK : RepK c kvs us) :
    Ok g (c.lkd r kvs od us) ∧ Le c (c.lkd r kvs od us) ∧ RsE (c.lkd r kvs od us) c := by
  have hlt := (List.getElem?_eq_some_iff.mp h).1
  have hlive : c.live r := live_of h (by intro z; cases z)
  have nl : ∀ x, c.S[r]? ≠ some (.lck x) := fun x z => by rw [h] at z; cases z
  have l : Le c (c.put r (.lck (.dct kvs)) (.frz od (.dK us))) := Le.put hlive nl (fun ob u' z => by rw [hH] at z; cases z)
  exact ⟨ok.put hlive nl hH (fun ps z => by cases z) (fun q z => by cases z) ⟨od, us, upd_same, RepK.monoW l.toLw _ _ hK⟩, l, RsE.put ok hlive⟩
/-- the lock is undone -/
theorem unl_ok {c c1 : Ct} (ok : Ok g c) {r : Nat} {kvs : List (K1 × D)} {us : List (Key × V)} {od : Obj} (h : c.S[r]? = some (.dct kvs)) (hH : c.H (c.ι r) = some (.dK us)) (hK : RepK c kvs us)
    (ok1 : Ok g c1) (l1 : Le (c.lkd r kvs od us) c1) (r1 : RsE c1 (c.lkd r kvs od us)) :
    c1.H (c.ι r) = some (.frz od (.dK us)) ∧ ∃ c2, Ok g c2 ∧ Le c c2 ∧ RsE c2 c ∧ c2.S = unlockAt c1.S (some r) ∧ c2.H = upd c1.H (c.ι r) (.dK us) ∧ Lw c1 c2 := by
  obtain ⟨ok0, l0, r0⟩ := lkd_ok (od := od) ok h hH hK
  have hlt := (List.getElem?_eq_some_iff.mp h).1
  have hlive : c.live r := live_of h (by intro z; cases z)
  have hS0 : (c.lkd r kvs od us).S[r]? = some (.lck (.dct kvs)) := List.getElem?_set_self hlt
  have hS1 : c1.S[r]? = some (.lck (.dct kvs)) := l1.lkd r _ hS0
  have hlive1 : c1.live r := live_of hS1 (by intro z; cases z)
  have hι : c1.ι r = c.ι r := (l1.liv r (by show r < (c.S.set r _).length; rw [List.length_set]; exact hlt) hlive1).2
  have hH1 : c1.H (c.ι r) = some (.frz od (.dK us)) := l1.fzn _ _ _ upd_same
  refine ⟨hH1, { c1 with S := unlockAt c1.S (some r), H := upd c1.H (c.ι r) (.dK us) }, ?_⟩
  have hlt1 := (List.getElem?_eq_some_iff.mp hS1).1
  have eS : unlockAt c1.S (some r) = c1.S.set r (.dct kvs) := by unfold unlockAt; simp only [hS1]
  have live2 : ∀ k, ({ c1 with S := unlockAt c1.S (some r), H := upd c1.H (c.ι r) (.dK us) } : Ct).live k → c1.live k := fun k ⟨x, e, n⟩ => by
    have e' : (unlockAt c1.S (some r))[k]? = some x := e
    rw [eS] at e'
    by_cases hk : r = k
    · subst hk; exact hlive1
    · rw [List.getElem?_set_ne hk] at e'; exact ⟨x, e', n⟩
  have neF : ∀ a, c1.free a → a ≠ c.ι r := fun a f z => f.2 r hlive1 (by rw [hι]; exact z.symm)
  have lw : Lw c1 { c1 with S := unlockAt c1.S (some r), H := upd c1.H (c.ι r) (.dK us) } := {
    len := by show c1.S.length ≤ (unlockAt c1.S (some r)).length; rw [eS, List.length_set]; exact Nat.le_refl _
    liv := fun k _ hk => ⟨live2 k hk, rfl⟩
    sur := sur_upd (by intro _ z; cases z)
    fre := fun a o f _ _ => ⟨f.1, fun k hk => f.2 k (live2 k hk)⟩
    tre := fun a u t f e => by
      show upd c1.H (c.ι r) _ a = _
      rw [upd_ne (neF a f)]; exact e
    trd := fun a u t f e => rd_upd (neF a f) e }
  have rs1 : c1.rs = c.rs := r1.eq
  have nr : c.ι r ∉ c.rs := ok.rsv r hlive
  have lall := l0.trans l1
  refine ⟨⟨fun a b h1 h2 e => ok1.inj a b (live2 a h1) (live2 b h2) e, fun k x e => ?_, fun k hk => ok1.rsv k (live2 k hk), ?_, fun p hp => ?_⟩, ?_, ⟨rs1, fun a ha => ?_⟩, rfl, rfl, lw⟩
  · have e' : (unlockAt c1.S (some r))[k]? = some x := e
    rw [eS] at e'
    by_cases hk : r = k
    · subst hk
      rw [List.getElem?_set_self hlt1] at e'
      cases e'
      obtain ⟨ob, us1, q1, q2⟩ := ok1.at_ r _ hS1
      rw [hι, hH1] at q1
      cases q1
      refine ⟨us, ?_, RepK.monoW lw _ _ q2⟩
      show upd c1.H (c.ι r) (.dK us) (c1.ι r) = _
      rw [hι]; exact upd_same
    · rw [List.getElem?_set_ne hk] at e'
      by_cases hd : x = Ob.dead
      · subst hd; trivial
      · refine RepO.monoW lw ?_ (ok1.at_ k x e')
        have hne : c1.ι k ≠ c.ι r := fun z => hk (ok1.inj r k hlive1 ⟨x, e', hd⟩ (by rw [hι]; exact z.symm))
        show upd c1.H (c.ι r) (.dK us) (c1.ι k) = _
        exact upd_ne hne
  · exact fun p hp => by
      obtain ⟨ps, a1, a2, a3⟩ := ok1.tabs p hp
      refine ⟨ps, ?_, a2, fun p' cv hcv => ?_⟩
      · show upd c1.H (c.ι r) _ p.1 = _
        rw [upd_ne fun z => by rw [z, hH1] at a1; cases a1]
        exact a1
      · obtain ⟨c0, e1, e2⟩ := a3 p' cv hcv
        refine ⟨c0, e1, ?_⟩
        show upd c1.H (c.ι r) _ c0 = _
        rw [upd_ne fun z => by rw [z, hH1] at e2; cases e2]
        exact e2
  · obtain ⟨x, e, nt⟩ := ok1.rsh p hp
    by_cases z : p = c.ι r
    · exact ⟨.dK us, by show upd c1.H (c.ι r) _ p = _; rw [z]; exact upd_same, by intro _ q; cases q⟩
    · exact ⟨x, by show upd c1.H (c.ι r) _ p = _; rw [upd_ne z]; exact e, nt⟩
  · exact {
      len := Nat.le_trans lall.len lw.len
      liv := fun k hk hl => by
        obtain ⟨a, b⟩ := lall.liv k hk (live2 k hl)
        exact ⟨a, b⟩
      sur := fun a o e t => by
        obtain ⟨o1, e1, t1⟩ := lall.sur a o e t
        exact lw.sur a o1 e1 t1
      fre := fun a o f e t => by
        obtain ⟨o1, e1, t1⟩ := lall.sur a o e t
        exact lw.fre a o1 (lall.fre a o f e t) e1 t1
      tre := fun a u t f e => lw.tre a u t (lall.fre a _ f e (isT_nT t)) (lall.tre a u t f e)
      trd := fun a u t f e => by
        obtain ⟨o, eo, no⟩ := rd_nT t e
        exact lw.trd a u t (lall.fre a o f eo no) (lall.trd a u t f e)
      lkd := fun k o e => by
        have hk : r ≠ k := fun z => by subst z; rw [h] at e; cases e
        show (unlockAt c1.S (some r))[k]? = _
        rw [eS, List.getElem?_set_ne hk]
        exact lall.lkd k o e
      fzn := fun a ob u e => by
        have hne : a ≠ c.ι r := fun z => by rw [z, hH] at e; cases e
        show upd c1.H (c.ι r) _ a = _
        rw [upd_ne hne]
        exact lall.fzn a ob u e }
  · have hne : a ≠ c.ι r := fun z => nr (z ▸ ha)
    show upd c1.H (c.ι r) _ a = _
    rw [upd_ne hne]
    have h9 := r1.kp a (by rw [r0.eq]; exact ha)
    exact h9.trans (r0.kp a ha)
theorem dctR_of {p : MP} {e : Env} {S : Store} {r : Nat} {kvs : List (K1 × D)} (h : dctR p e S = some (r, kvs)) : S[r]? = some (.dct kvs) := by
  unfold dctR at h
  split at h
  · split at h
    · cases h; assumption
    · cases h
  · cases h
theorem st_lk {s : Stmt} {m : MS} (p : MP) : ST g X E s m → ST g X E s (sLk p m) := fun ⟨t, pt, st⟩ => ⟨fun D σ H => t D σ H ∨ tLock t D σ H, ⟨fun pins s σ H D I h => by
  rcases h with h | h
  · exact pt.run pins s σ H D I h
  · exact (ps_lock pt).run pins s σ H D I h⟩, fun c σ e D ok er hp => by
  have hp' : PostG g c E (WF g c D) (match dctR p e c.S with
    | some (r, kvs) => unlF r (m e (c.S.set r (.lck (.dct kvs))))
    | none => m e c.S) := hp
  cases q : dctR p e c.S with
  | none =>
    rw [q] at hp'
    exact .inl (st c σ e D ok er hp')
  | some z =>
    obtain ⟨r, kvs⟩ := z
    rw [q] at hp'
    have hS := dctR_of q
    obtain ⟨us, hH, hK⟩ := ok.at_ r _ hS
    refine .inr ⟨c.ι r, .dK us, hH, trivial, fun od => ?_⟩
    obtain ⟨ok0, l0, r0⟩ := lkd_ok (od := od) ok hS hH hK
    refine st (c.lkd r kvs od us) σ e _ ok0 (er.mono l0) ?_
    show PostG g (c.lkd r kvs od us) E _ (m e (c.S.set r (.lck (.dct kvs))))
    have hp2 : PostG g c E (WF g c D) (unlF r (m e (c.S.set r (.lck (.dct kvs))))) := hp'
    revert hp2
    cases m e (c.S.set r (.lck (.dct kvs))) with
    | bad => exact id
    | exc k S => exact fun hp2 => PostG.later (R := WF g c D) (o := .exc k S) l0 r0 hp2
    | ok f S =>
      intro hp2
      have hp3 : WF g c D f (unlockAt S (some r)) := hp2
      cases f with
      | nx e1 =>
        intro c1 σ1 ok1 l1 r1 s1 er1
        obtain ⟨h1, c2, ok2, l2, r2, s2, h2, lw⟩ := unl_ok ok hS hH hK ok1 l1 r1
        refine ⟨h1, ?_⟩
        rw [← h2]
        exact hp3 c2 σ1 ok2 l2 r2 (by rw [s2, s1]) (er1.monoW lw)
      | bk e1 =>
        intro c1 σ1 ok1 l1 r1 s1 er1
        obtain ⟨h1, c2, ok2, l2, r2, s2, h2, lw⟩ := unl_ok ok hS hH hK ok1 l1 r1
        refine ⟨h1, ?_⟩
        rw [← h2]
        exact hp3 c2 σ1 ok2 l2 r2 (by rw [s2, s1]) (er1.monoW lw)
      | ct e1 =>
        intro c1 σ1 ok1 l1 r1 s1 er1
        obtain ⟨h1, c2, ok2, l2, r2, s2, h2, lw⟩ := unl_ok ok hS hH hK ok1 l1 r1
        refine ⟨h1, ?_⟩
        rw [← h2]
        exact hp3 c2 σ1 ok2 l2 r2 (by rw [s2, s1]) (er1.monoW lw)
      | rt d =>
        intro c1 v ok1 l1 r1 s1 rv
        obtain ⟨h1, c2, ok2, l2, r2, s2, h2, lw⟩ := unl_ok ok hS hH hK ok1 l1 r1
        refine ⟨h1, ?_⟩
        rw [← h2]
        exact hp3 c2 v ok2 l2 r2 (by rw [s2, s1]) (Rep.monoW lw _ _ rv)⟩
theorem es_lk {s : Expr} {m : ME} (p : MP) : ES g X E s m → ES g X E s (eLk p m) := fun ⟨t, pt, st⟩ => ⟨fun σ H Q => t σ H Q ∨ tLockE t σ H Q, ⟨fun pins s σ H D I h => by
  rcases h with h | h
  · exact pt.run pins s σ H D I h
  · exact (pe_lock pt).run pins s σ H D I h⟩, fun c σ e D ok er hp => by
  have hp' : PostG g c E (WE g c D) (match dctR p e c.S with
    | some (r, kvs) => unlF r (m e (c.S.set r (.lck (.dct kvs))))
    | none => m e c.S) := hp
  cases q : dctR p e c.S with
  | none =>
    rw [q] at hp'
    exact .inl (st c σ e D ok er hp')
  | some z =>
    obtain ⟨r, kvs⟩ := z
    rw [q] at hp'
    have hS := dctR_of q
    obtain ⟨us, hH, hK⟩ := ok.at_ r _ hS
    refine .inr ⟨c.ι r, .dK us, hH, trivial, fun od => ?_⟩
    obtain ⟨ok0, l0, r0⟩ := lkd_ok (od := od) ok hS hH hK
    refine st (c.lkd r kvs od us) σ e _ ok0 (er.mono l0) ?_
    show PostG g (c.lkd r kvs od us) E _ (m e (c.S.set r (.lck (.dct kvs))))
    have hp2 : PostG g c E (WE g c D) (unlF r (m e (c.S.set r (.lck (.dct kvs))))) := hp'
    revert hp2
    cases m e (c.S.set r (.lck (.dct kvs))) with
    | bad => exact id
    | exc k S => exact fun hp2 => PostG.later (R := WE g c D) (o := .exc k S) l0 r0 hp2
    | ok d S =>
      intro hp2 c1 v ok1 l1 r1 s1 rv
      have hp3 : WE g c D d (unlockAt S (some r)) := hp2
      obtain ⟨h1, c2, ok2, l2, r2, s2, h2, lw⟩ := unl_ok ok hS hH hK ok1 l1 r1
      refine ⟨h1, ?_⟩
      rw [← h2]
      exact hp3 c2 v ok2 l2 r2 (by rw [s2, s1]) (Rep.monoW lw _ _ rv)⟩
/-! ### fresh dicts -/
theorem own_newD {c : Ct} (ok : Ok g c) {p : Addr} {kvs : List (K1 × D)} {us : List (Key × V)} (hp : c.H p = none) (r : RK c kK kvs us) :
    ∃ c', Ok g c' ∧ Le c c' ∧ RsE c' c ∧ c'.S = c.S ++ [.dct kvs] ∧ c'.H = upd c.H p (.dK us) ∧ Rep c' (.obj c.S.length) (.ref p) := by
  have ok1 := ok.newR (o := .dK us) hp
  have l1 := Le.newR (c := c) (o := .dK us) hp
  refine ⟨_, ok1.own (p := p) (l := c.rs) (o := .dct kvs) rfl (ok.notR hp) ⟨us, upd_same, rk_of.mpr (rk_mono (fun d v => Rep.mono l1 d v) r)⟩, l1.trans (Le.own rfl), ⟨rfl, fun a h => ?_⟩, rfl, rfl, rep_obj.mpr ⟨by simp [Ct.own], fun _ => ?_⟩⟩
  · obtain ⟨y, e⟩ : ∃ y, c.H a = some y := (ok.rsh a h).elim fun y z => ⟨y, z.1⟩
    show upd c.H p (.dK us) a = _
    rw [upd_ne (ne_of_none e hp)]
  show V.ref p = V.ref (addI _ p c.S.length)
  rw [show addI ({ ι := c.ι, S := c.S, H := upd c.H p (.dK us), rs := p :: c.rs } : Ct) p c.S.length = p from addI_eq]
theorem own_newDT {c : Ct} (ok : Ok g c) {p : Addr} {kvs : List (List K1 × D)} {us : List (List Key × V)} (hp : c.H p = none) (r : RK c (List.map kK) kvs us) :
    ∃ c', Ok g c' ∧ Le c c' ∧ RsE c' c ∧ c'.S = c.S ++ [.dctT kvs] ∧ c'.H = upd c.H p (.dT us) ∧ Rep c' (.obj c.S.length) (.ref p) := by
  have ok1 := ok.newR (o := .dT us) hp
  have l1 := Le.newR (c := c) (o := .dT us) hp
  refine ⟨_, ok1.own (p := p) (l := c.rs) (o := .dctT kvs) rfl (ok.notR hp) ⟨us, upd_same, rkT_of.mpr (rk_mono (fun d v => Rep.mono l1 d v) r)⟩, l1.trans (Le.own rfl), ⟨rfl, fun a h => ?_⟩, rfl, rfl, rep_obj.mpr ⟨by simp [Ct.own], fun _ => ?_⟩⟩
  · obtain ⟨y, e⟩ : ∃ y, c.H a = some y := (ok.rsh a h).elim fun y z => ⟨y, z.1⟩
    show upd c.H p (.dT us) a = _
    rw [upd_ne (ne_of_none e hp)]
  show V.ref p = V.ref (addI _ p c.S.length)
  rw [show addI ({ ι := c.ι, S := c.S, H := upd c.H p (.dT us), rs := p :: c.rs } : Ct) p c.S.length = p from addI_eq]
theorem we_ownD {c : Ct} {Q : VK} (ok : Ok g c) {kvs : List (K1 × D)} {us : List (Key × V)} (r : RK c kK kvs us) (h : WE g c Q (.obj c.S.length) (c.S ++ [.dct kvs])) : ∀ p, c.H p = none → Q (.ref p) (upd c.H p (.dK us)) := fun p hp => by
  obtain ⟨c2, ok2, l2, r2, s2, h2, rp⟩ := own_newD ok hp r
  rw [← h2]
  exact h c2 _ ok2 l2 r2 s2 rp
theorem we_ownDT {c : Ct} {Q : VK} (ok : Ok g c) {kvs : List (List K1 × D)} {us : List (List Key × V)} (r : RK c (List.map kK) kvs us) (h : WE g c Q (.obj c.S.length) (c.S ++ [.dctT kvs])) : ∀ p, c.H p = none → Q (.ref p) (upd c.H p (.dT us)) := fun p hp => by
  obtain ⟨c2, ok2, l2, r2, s2, h2, rp⟩ := own_newDT ok hp r
  rw [← h2]
  exact h c2 _ ok2 l2 r2 s2 rp
theorem es_dct0 {pos : Pos} : ES g X E (.Dict [] [] pos) (eNew oDct0) := ⟨_, pe_dnewK, fun c σ e Q ok er hp => we_ownD (kvs := []) ok rfl hp⟩
theorem es_dctT0 {pos : Pos} : ES g X E (.Dict [] [] pos) (eNew oDctT0) := ⟨_, pe_dnewT, fun c σ e Q ok er hp => we_ownDT (kvs := []) ok rfl hp⟩
/-- a fresh thing by a built-in function -/
def SN (g : Gx) (r : List V → Hp → VK → Prop) (f : Store → List D → Option Ob) : Prop := ∀ c xs vs Q z, Ok g c → RepL c xs vs → f c.S xs = some z → WE g c Q (.obj c.S.length) (c.S ++ [z]) → r vs c.H Q
theorem oCB_bind {c : Ct} {e : Env} {S : Store} {f : Store → List D → Option Ob} {m : MA} {R : D → Store → Prop} (h : PostG g c E R (eNew (oCB f m) e S)) : PostG g c E R ((m e S).bind fun xs S1 => match f S1 xs with
    | some o => .ok (.obj S1.length) (S1 ++ [o])
    | none => .bad) := by
  unfold eNew oCB at h
  cases q : m e S with
  | bad => rw [q] at h; exact h
  | exc k S => rw [q] at h; exact h
  | ok xs S1 =>
    rw [q] at h
    have h' : PostG g c E R ((ofO (f S1 xs) S1).bind fun o S1 => .ok (.obj S1.length) (S1 ++ [o])) := h
    show PostG g c E R (match f S1 xs with
      | some o => .ok (.obj S1.length) (S1 ++ [o])
      | none => .bad)
    revert h'
    cases f S1 xs <;> exact id
theorem es_cbN {x : Str} {id : String} {r : List V → Hp → VK → Prop} {f : Store → List D → Option Ob} {e : Expr} {es : List Expr} {m : MA} {p pos : Pos} (hc : CallR X (.builtin id) r) (hs : SN g r f) (hm : X.mg x = none) (hv : bootBuiltins x = some (.builtin id)) (hg : Gl X x := by rfl)
    (hn : x ≠ "__name__" := by decide) (hdb : (x == ("__debug__" : Str)) = false := by decide) (he : starEach (e :: es) X.env = (false, eval e X.env) :: starEach es X.env := by rfl) (hpl : (backTo pos (starEach es X.env)).any (·.1) = false := by rfl) :
    AS g X E (e :: es) m → ES g X E (.Call (.Name x p) (e :: es) [] pos) (eNew (oCB f m)) := fun ⟨ta, pa, sa, _⟩ => ⟨_, pe_callB hc hg hm hv pa hn hdb he hpl, fun c σ e Q ok er hp => by
  show ta σ c.H _
  refine bindA (R := WE g c Q) sa ok er (oCB_bind hp) fun c1 xs vs ok1 l1 r1 rx hp1 => ?_
  split at hp1
  · rename_i z hz
    exact hs c1 xs vs Q z ok1 rx hz (WE.later l1 r1 hp1)
  · exact hp1.elim⟩
theorem es_ctyN {x : Str} {T : String} {r : List V → Hp → VK → Prop} {f : Store → List D → Option Ob} {e : Expr} {es : List Expr} {m : MA} {p pos : Pos} (hc : CallR X (.type T) r) (hs : SN g r f) (hm : X.mg x = none) (hv : bootBuiltins x = some (.type T)) (hg : Gl X x := by rfl)
    (hn : x ≠ "__name__" := by decide) (hdb : (x == ("__debug__" : Str)) = false := by decide) (he : starEach (e :: es) X.env = (false, eval e X.env) :: starEach es X.env := by rfl) (hpl : (backTo pos (starEach es X.env)).any (·.1) = false := by rfl) :
    AS g X E (e :: es) m → ES g X E (.Call (.Name x p) (e :: es) [] pos) (eNew (oCB f m)) := fun ⟨ta, pa, sa, _⟩ => ⟨_, pe_callTy hc hg hm hv pa hn hdb he hpl, fun c σ e Q ok er hp => by
  show ta σ c.H _
  refine bindA (R := WE g c Q) sa ok er (oCB_bind hp) fun c1 xs vs ok1 l1 r1 rx hp1 => ?_
  split at hp1
  · rename_i z hz
    exact hs c1 xs vs Q z ok1 rx hz (WE.later l1 r1 hp1)
  · exact hp1.elim⟩
theorem bt_dict : bootBuiltins "dict" = some (.type "dict") := by decide +kernel
theorem merge_rk {c : Ct} : ∀ {l : List (K1 × D)} {us : List (Key × V)} {acc : List (K1 × D)} {ua : List (Key × V)}, RK c kK l us → RK c kK acc ua → RK c kK (mergeK acc l) (L2.mergeK ua us)
  | [], us, acc, ua, h, h2 => by rw [show us = [] from h]; exact h2
  | (k, d) :: l, us, acc, ua, h, h2 => by
    obtain ⟨v, r, rfl, h3, h4⟩ := h
    exact merge_rk (l := l) (us := r) (acc := putK k d acc) (ua := L2.putK ua (kK k) v) h4 (rk_put (fun _ _ => kK_inj) h3 h2)
theorem pairs_of {c : Ct} {K : PySem.W.Frag} : ∀ {xs : List D} {vs : List V} {kvs : List (K1 × D)}, pairsD xs = some kvs → RepL c xs vs →
    ∃ (ps : List Addr) (us : List (Key × V)), vs = ps.map V.ref ∧ RK c kK kvs us ∧ Paired (fun p kv => SqT K c.H p [kV kv.1, kv.2]) ps us
  | [], vs, kvs, h, r => by
    cases h
    exact ⟨[], [], repL_nil.mp r, rfl, .nil⟩
  | x :: xs, vs, kvs, h, r => by
    obtain ⟨v, q, rfl, h1, h2⟩ := repL_cons.mp r
    unfold pairsD at h
    split at h
    · rename_i heq; cases heq
    · rename_i k w r' heq
      cases heq
      split at h
      · rename_i kk l hk hl
        cases h
        obtain ⟨ps, us, e1, e2, e3⟩ := pairs_of (K := K) hl h2
        obtain ⟨a, ws, rfl, _, h3, h4⟩ := rep_tup.mp h1
        obtain ⟨v1, v2, rfl, r1, r2⟩ := rep2 h4
        have ek := key_rep hk r1
        subst ek
        refine ⟨a :: ps, (kK kk, v2) :: us, by rw [e1]; rfl, ⟨v2, us, rfl, r2, e2⟩, .cons (SqT.of h3) e3⟩
      · cases h
    · cases h
theorem sn_dictP {K : PySem.W.Frag} : SN g (fun xs H Q => ∃ (a : Addr) (ps : List Addr) (kvs : List (Key × V)), xs = [.ref a] ∧ SqL K H a (ps.map V.ref) ∧ Paired (fun p kv => SqT K H p [kV kv.1, kv.2]) ps kvs ∧ ∀ p, H p = none → Q (.ref p) (upd H p (.dK (L2.mergeK [] kvs)))) nDictP := by
  intro c xs vs Q z ok r e q
  unfold nDictP at e
  split at e
  · rename_i x
    obtain ⟨v, rfl, h⟩ := rep1 r
    unfold lstV at e
    cases hv : view c.S x <;> first | (rw [hv] at e; cases e; done) | skip
    rename_i ds
    rw [hv] at e
    obtain ⟨kvs, hk, rfl⟩ := Option.map_eq_some_iff.mp (show (pairsD ds).map (fun kvs => Ob.dct (mergeK [] kvs)) = some z from e)
    obtain ⟨a, ws, rfl, h1, h2⟩ := see_lst ok h hv
    obtain ⟨ps, us, rfl, e2, e3⟩ := pairs_of (K := K) hk h2
    exact ⟨a, ps, us, rfl, .inl h1, e3, we_ownD ok (merge_rk e2 (show RK c kK [] [] from rfl)) q⟩
  · cases e
theorem sn_dictC : SN g (fun xs H Q => ∃ (a : Addr) (kvs : List (Key × V)), xs = [.ref a] ∧ Rd H a (.dK kvs) ∧ ∀ p, H p = none → Q (.ref p) (upd H p (.dK kvs))) nDictC := by
  intro c xs vs Q z ok r e q
  unfold nDictC at e
  split at e
  · rename_i x
    obtain ⟨v, rfl, h⟩ := rep1 r
    split at e
    · rename_i kvs hv
      cases e
      obtain ⟨a, us, rfl, h1, h2⟩ := see_dct ok h hv
      exact ⟨a, us, rfl, h1, we_ownD ok (rk_of.mp h2) q⟩
    · cases e
  · cases e
/-! ### stores -/
theorem put_dct {c : Ct} (ok : Ok g c) {r : Nat} {xs ys : List (K1 × D)} {vs ws : List (Key × V)} (hS : c.S[r]? = some (.dct xs)) (hH : c.H (c.ι r) = some (.dK vs)) (hF : RK c kK ys ws) :
    ∃ c', Ok g c' ∧ Le c c' ∧ RsE c' c ∧ c'.S = c.S.set r (.dct ys) ∧ c'.H = upd c.H (c.ι r) (.dK ws) := by
  have hl : c.live r := live_of hS (by intro z; cases z)
  have nl : ∀ x, c.S[r]? ≠ some (.lck x) := fun x z => by rw [hS] at z; cases z
  have l : Le c (c.put r (.dct ys) (.dK ws)) := Le.put hl nl (fun ob u z => by rw [hH] at z; cases z)
  exact ⟨c.put r (.dct ys) (.dK ws), ok.put (o := .dct ys) (u := .dK ws) hl nl hH (fun ps z => by cases z) (fun q z => by cases z) ⟨_, upd_same, rk_of.mpr (rk_mono (fun d v => Rep.mono l d v) hF)⟩, l, RsE.put ok hl, rfl, rfl⟩
theorem put_dctT {c : Ct} (ok : Ok g c) {r : Nat} {xs ys : List (List K1 × D)} {vs ws : List (List Key × V)} (hS : c.S[r]? = some (.dctT xs)) (hH : c.H (c.ι r) = some (.dT vs)) (hF : RK c (List.map kK) ys ws) :
    ∃ c', Ok g c' ∧ Le c c' ∧ RsE c' c ∧ c'.S = c.S.set r (.dctT ys) ∧ c'.H = upd c.H (c.ι r) (.dT ws) := by
  have hl : c.live r := live_of hS (by intro z; cases z)
  have nl : ∀ x, c.S[r]? ≠ some (.lck x) := fun x z => by rw [hS] at z; cases z
  have l : Le c (c.put r (.dctT ys) (.dT ws)) := Le.put hl nl (fun ob u z => by rw [hH] at z; cases z)
  exact ⟨c.put r (.dctT ys) (.dT ws), ok.put (o := .dctT ys) (u := .dT ws) hl nl hH (fun ps z => by cases z) (fun q z => by cases z) ⟨_, upd_same, rkT_of.mpr (rk_mono (fun d v => Rep.mono l d v) hF)⟩, l, RsE.put ok hl, rfl, rfl⟩
theorem sz6 {n : Nat} (h : n < 100000) : n < sizeLine := Nat.lt_of_lt_of_le h (by rw [sizeLine_eq]; decide)
theorem dput_of {c : Ct} (ok : Ok g c) {x k y : D} {v u w : V} {S' : Store} (rx : Rep c x v) (rk : Rep c k u) (ry : Rep c y w) (e : dput c.S x k y = some S') :
    ∃ a H' c', v = .ref a ∧ DPut c.H a u w H' ∧ Ok g c' ∧ Le c c' ∧ RsE c' c ∧ c'.S = S' ∧ c'.H = H' := by
  cases x <;> first | (cases e; done) | skip
  rename_i r
  unfold dput at e
  dsimp only at e
  cases h : c.S[r]? with
  | none => rw [h] at e; cases e
  | some o =>
    cases o <;> first | (rw [h] at e; cases e; done) | skip
    · rename_i kvs
      rw [h] at e
      cases hk : keyD k with
      | none => rw [hk] at e; cases e
      | some kk =>
        rw [hk] at e
        have e' : (if kvs.length < 100000 then some (c.S.set r (.dct (putK kk y kvs))) else none) = some S' := e
        by_cases hl : kvs.length < 100000
        · rw [if_pos hl] at e'
          cases e'
          obtain ⟨us, h1, h2⟩ := ok.at_ r _ h
          have h2 := rk_of.mp h2
          obtain ⟨c', ok', l', r', s', hH⟩ := put_dct ok h h1 (rk_put (k := kk) (fun _ _ => kK_inj) ry h2)
          have eu := key_rep hk rk
          subst eu
          exact ⟨c.ι r, _, c', (rep_obj.mp rx).2 (live_of h (by intro z; cases z)), .inl ⟨us, kK kk, h1, rfl, by rw [rk_len h2]; exact sz6 hl, rfl⟩, ok', l', r', s', hH⟩
        · rw [if_neg hl] at e'; cases e'
    · rename_i kvs
      rw [h] at e
      cases hk : keyT k with
      | none => rw [hk] at e; cases e
      | some kk =>
        rw [hk] at e
        have e' : (if kvs.length < 100000 then some (c.S.set r (.dctT (putK kk y kvs))) else none) = some S' := e
        by_cases hl : kvs.length < 100000
        · rw [if_pos hl] at e'
          cases e'
          obtain ⟨us, h1, h2⟩ := ok.at_ r _ h
          have h2 := rkT_of.mp h2
          obtain ⟨c', ok', l', r', s', hH⟩ := put_dctT ok h h1 (rk_put (k := kk) (fun _ _ => kKs_inj) ry h2)
          obtain ⟨b, rfl, hb⟩ := keyT_rep hk rk
          exact ⟨c.ι r, _, c', (rep_obj.mp rx).2 (live_of h (by intro z; cases z)), .inr ⟨us, kk.map kK, b, h1, rfl, hb, by rw [rk_len h2]; exact sz6 hl, rfl⟩, ok', l', r', s', hH⟩
        · rw [if_neg hl] at e'; cases e'
theorem st_putD {o i a : Expr} {mo mi m : ME} {pos pos' : Pos} (xo : XO g X E) (hs : swapsWith a (some (.Subscript o i pos')) pos.line X.env = pure false := by rfl) : ES g X E o mo → ES g X E i mi → ES g X E a m → ST g X E (.Assign [.Subscript o i pos'] a pos) (sPutD mo mi m) :=
  fun ⟨to, po, so⟩ ⟨ti, pi, si⟩ ⟨ta, pa, sa⟩ => ⟨_, ps_dput (by have := xo.units; omega) po pi pa hs, fun c σ e D ok er hp => by
    show ta σ c.H _
    refine bindE (R := WF g c D) sa ok er hp fun c1 y w ok1 l1 r1 ry hp1 => ?_
    show to σ c1.H _
    refine bindE (R := WF g c D) so ok1 (er.mono l1) hp1 fun c2 x v ok2 l2 r2 rx hp2 => ?_
    show ti σ c2.H _
    refine bindE (R := WF g c D) si ok2 (er.mono (l1.trans l2)) hp2 fun c3 k u ok3 l3 r3 rk hp3 => ?_
    split at hp3
    · rename_i S4 h4
      obtain ⟨a0, H', c4, rfl, h5, ok4, l4, r4, s4, h6⟩ := dput_of ok3 (Rep.mono l3 _ _ rx) rk (Rep.mono (l2.trans l3) _ _ ry) h4
      refine ⟨a0, H', rfl, h5, ?_⟩
      rw [← h6]
      exact hp3 c4 σ ok4 (l1.trans (l2.trans (l3.trans l4))) (r4.trans (r3.trans (r2.trans r1))) s4 (er.mono (l1.trans (l2.trans (l3.trans l4))))
    · exact hp3.elim⟩
theorem st_augD {o i a : Expr} {mo mi m : ME} {op : Operator} {rd : V → V → Hp → VK → Prop} {f : Store → D → D → Option D} {pos tpos : Pos} (xo : XO g X E) (hop : InOp X op rd) (hr : SR g rd f)
    (ha : ∀ ov iv new, augStore i ov iv new = (do holding [new, ov, iv] (setItem ov iv new); release [new, ov, iv] []; pure .next) := by intro _ _ _; rfl) :
    ES g X E o mo → ES g X E i mi → ES g X E a m → ST g X E (.AugAssign (.Subscript o i tpos) op a pos) (sAugD f mo mi m) :=
  fun ⟨to, po, so⟩ ⟨ti, pi, si⟩ ⟨ta, pa, sa⟩ => ⟨_, ps_daug (by have := xo.units; omega) po pi pa hop ha, fun c σ e D ok er hp => by
    show to σ c.H _
    refine bindE (R := WF g c D) so ok er hp fun c1 x v ok1 l1 r1 rx hp1 => ?_
    show ti σ c1.H _
    refine bindE (R := WF g c D) si ok1 (er.mono l1) hp1 fun c2 k u ok2 l2 r2 rk hp2 => ?_
    split at hp2
    · rename_i y hy
      obtain ⟨a0, ov, rfl, _, h5, _, h6⟩ := dget_of ok2 (Rep.mono l2 _ _ rx) rk hy
      obtain ⟨w, rfl, rw1⟩ := h6 y rfl
      refine ⟨a0, w, rfl, h5, ?_⟩
      show ta σ c2.H _
      refine bindE (R := WF g c D) sa ok2 (er.mono (l1.trans l2)) hp2 fun c3 z t ok3 l3 r3 rz hp3 => ?_
      split at hp3
      · rename_i n hn
        refine hr c3 y z w t _ n ok3 (Rep.mono l3 _ _ rw1) rz hn fun c4 q ok4 l4 r4 s4 rq => ?_
        rw [← s4] at hp3
        split at hp3
        · rename_i S5 h5'
          obtain ⟨a1, H', c5, e5, h7, ok5, l5, r5, s5, h8⟩ := dput_of ok4 (Rep.mono (l2.trans (l3.trans l4)) _ _ rx) (Rep.mono (l3.trans l4) _ _ rk) rq h5'
          cases e5
          refine ⟨H', h7, ?_⟩
          rw [← h8]
          exact hp3 c5 σ ok5 (l1.trans (l2.trans (l3.trans (l4.trans l5)))) (r5.trans (r4.trans (r3.trans (r2.trans r1)))) s5 (er.mono (l1.trans (l2.trans (l3.trans (l4.trans l5)))))
        · exact hp3.elim
      · exact hp3.elim
    · exact hp2.elim⟩
theorem dcut_of {c : Ct} (ok : Ok g c) {x k d : D} {v u : V} {S' : Store} (rx : Rep c x v) (rk : Rep c k u) (e : dcut c.S x k = some (d, S')) :
    ∃ a us kk w c', v = .ref a ∧ c.H a = some (.dK us) ∧ u = kV kk ∧ valV us kk = some w ∧ Ok g c' ∧ Le c c' ∧ RsE c' c ∧ c'.S = S' ∧ c'.H = upd c.H a (.dK (L2.dropK us kk)) ∧ Rep c' d w := by
  cases x <;> first | (cases e; done) | skip
  rename_i r
  unfold dcut at e
  dsimp only at e
  cases h : c.S[r]? with
  | none => rw [h] at e; cases e
  | some o =>
    cases o <;> first | (rw [h] at e; cases e; done) | skip
    rename_i kvs
    rw [h] at e
    cases hk : keyD k with
    | none => rw [hk] at e; cases e
    | some kk =>
      rw [hk] at e
      obtain ⟨d', h3, h4⟩ := Option.map_eq_some_iff.mp (show (getK kk kvs).map (fun v => (v, c.S.set r (.dct (delK kk kvs)))) = some (d, S') from e)
      cases h4
      obtain ⟨us, h1, h2⟩ := ok.at_ r _ h
      have h2 := rk_of.mp h2
      obtain ⟨w, h5, h6⟩ := rk_some (fun _ _ => kK_inj) h2 h3
      obtain ⟨c', ok', l', r', s', hH⟩ := put_dct ok h h1 (rk_del (k := kk) (fun _ _ => kK_inj) h2)
      exact ⟨c.ι r, us, kK kk, w, c', (rep_obj.mp rx).2 (live_of h (by intro z; cases z)), h1, key_rep hk rk, h5, ok', l', r', s', hH, Rep.mono l' _ _ h6⟩
theorem st_delD {o i : Expr} {mo mi : ME} {pos tpos : Pos} : ES g X E o mo → ES g X E i mi → ST g X E (.Delete [.Subscript o i tpos] pos) (sDelD mo mi) :=
  fun ⟨to, po, so⟩ ⟨ti, pi, si⟩ => ⟨_, ps_ddel po pi, fun c σ e D ok er hp => by
    show to σ c.H _
    refine bindE (R := WF g c D) so ok er hp fun c1 x v ok1 l1 r1 rx hp1 => ?_
    show ti σ c1.H _
    refine bindE (R := WF g c D) si ok1 (er.mono l1) hp1 fun c2 k u ok2 l2 r2 rk hp2 => ?_
    split at hp2
    · rename_i d S3 hd
      obtain ⟨a, us, kk, w, c3, rfl, h1, h2, h3, ok3, l3, r3, s3, h4, h5⟩ := dcut_of ok2 (Rep.mono l2 _ _ rx) rk hd
      refine ⟨a, us, kk, rfl, h1, h2, by rw [h3]; rfl, ?_⟩
      rw [← h4]
      exact hp2 c3 σ ok3 (l1.trans (l2.trans l3)) (r3.trans (r2.trans r1)) s3 (er.mono (l1.trans (l2.trans l3)))
    · exact hp2.elim⟩
theorem isD_of {c : Ct} (ok : Ok g c) {x : D} {v : V} (rx : Rep c x v) (h : isDict c.S x = true) : ∃ a, v = .ref a ∧ L2.IsD c.H a := by
  unfold isDict at h
  split at h
  · rename_i kvs ex
    obtain ⟨a, us, rfl, h1, _⟩ := see_dct ok rx ex
    exact ⟨a, rfl, .inl ⟨us, h1⟩⟩
  · rename_i kvs ex
    obtain ⟨a, us, rfl, h1, _⟩ := see_dctT ok rx ex
    exact ⟨a, rfl, .inr ⟨us, h1⟩⟩
  · cases h
theorem es_dpop {o i : Expr} {mo mi : ME} {apos cpos : Pos} (m1 : M1 X o "pop" apos i cpos := by exact ⟨rfl, rfl, rfl, rfl⟩) : ES g X E o mo → ES g X E i mi → ES g X E (.Call (.Attribute o "pop" apos) [i] [] cpos) (eDPop mo mi) :=
  fun ⟨to, po, so⟩ ⟨ti, pi, si⟩ => ⟨_, pe_dpop1 po pi m1, fun c σ e Q ok er hp => by
    show to σ c.H _
    refine bindE (R := WE g c Q) so ok er hp fun c1 x v ok1 l1 r1 rx hp1 => ?_
    by_cases hd : isDict c1.S x = true
    · rw [if_pos hd] at hp1
      obtain ⟨a, rfl, hD⟩ := isD_of ok1 rx hd
      refine ⟨a, rfl, hD, ?_⟩
      show ti σ c1.H _
      refine bindE (R := WE g c Q) si ok1 (er.mono l1) hp1 fun c2 k u ok2 l2 r2 rk hp2 => ?_
      split at hp2
      · rename_i d S3 hd
        obtain ⟨a2, us, kk, w, c3, e2, h1, h2, h3, ok3, l3, r3, s3, h4, h5⟩ := dcut_of ok2 (Rep.mono l2 _ _ rx) rk hd
        cases e2
        refine ⟨us, kk, w, h1, h2, h3, ?_⟩
        rw [← h4]
        exact (hp2 : WE g c Q d S3) c3 w ok3 (l1.trans (l2.trans l3)) (r3.trans (r2.trans r1)) s3 h5
      · exact hp2.elim
    · rw [if_neg hd] at hp1; exact hp1.elim⟩
theorem es_dget2 {o i d : Expr} {mo mi md : ME} {apos cpos : Pos} (xo : XO g X E) (m2 : M2 X o "get" apos i d cpos := by exact ⟨rfl, rfl, rfl, rfl⟩) : ES g X E o mo → ES g X E i mi → ES g X E d md → ES g X E (.Call (.Attribute o "get" apos) [i, d] [] cpos) (eDGet2 mo mi md) :=
  fun ⟨to, po, so⟩ ⟨ti, pi, si⟩ ⟨td, pd, sd⟩ => ⟨_, pe_dget2 (by have := xo.units; omega) po pi pd m2, fun c σ e Q ok er hp => by
    show to σ c.H _
    refine bindE (R := WE g c Q) so ok er hp fun c1 x v ok1 l1 r1 rx hp1 => ?_
    by_cases hd : isDict c1.S x = true
    · rw [if_pos hd] at hp1
      obtain ⟨a, rfl, hD⟩ := isD_of ok1 rx hd
      refine ⟨a, rfl, hD, ?_⟩
      show ti σ c1.H _
      refine bindE (R := WE g c Q) si ok1 (er.mono l1) hp1 fun c2 k u ok2 l2 r2 rk hp2 => ?_
      show td σ c2.H _
      refine bindE (R := WE g c Q) sd ok2 (er.mono (l1.trans l2)) hp2 fun c3 z w ok3 l3 r3 rz hp3 => ?_
      split at hp3
      · rename_i ow hw
        obtain ⟨a3, ov, e3, _, h5, h6, h7⟩ := dget_of ok3 (Rep.mono (l2.trans l3) _ _ rx) (Rep.mono l3 _ _ rk) hw
        cases e3
        refine ⟨ov, h5, ?_⟩
        have hq := WE.later (l1.trans (l2.trans l3)) (r3.trans (r2.trans r1)) (hp3 : WE g c Q (ow.getD z) c3.S)
        cases ow with
        | none =>
          cases ov with
          | none => exact WE.here ok3 rz hq
          | some _ => cases h6
        | some d0 =>
          obtain ⟨w0, rfl, hr⟩ := h7 d0 rfl
          exact WE.here ok3 hr hq
      · exact hp3.elim
    · rw [if_neg hd] at hp1; exact hp1.elim⟩
end Sm
end

section
set_option Elab.async false
set_option linter.all false
set_option autoImplicit false
set_option maxRecDepth 100000
set_option maxHeartbeats 4000000
/-! sorted of data. -/
namespace Sm
open PySem PySem.Spec PySem.Calls PyProof.Rows PySem.W L2
/-! ### the mirror's order is the model's -/
mutual
theorem tok_eq : ∀ x : Sm.D, keyToks (toP x) = tokD x
  | .non => by simp [toP, keyToks, tokD]
  | .bl b => by simp [toP, keyToks, tokD]
  | .int i => by simp [toP, keyToks, tokD]
  | .str t => by simp [toP, keyToks, tokD, sS]
  | .lst xs => by simp only [toP, keyToks, tokD]; exact tokL_eq xs
  | .tup xs => by simp only [toP, keyToks, tokD]; exact tokL_eq xs
  | .dct _ => by simp [toP, keyToks, tokD]
  | .dctT _ => by simp [toP, keyToks, tokD]
  | .obj _ => by simp [toP, keyToks, tokD]
theorem tokL_eq : ∀ xs : List Sm.D, keyToksAll (toPL xs) = tokL xs
  | [] => by simp [toPL, keyToksAll, tokL]
  | x :: xs => by simp only [toPL, keyToksAll, tokL]; rw [tok_eq x, tokL_eq xs]
end
theorem ltTok_eq (a b : Int ⊕ Tx) : itemLt a b = ltTok a b := by
  cases a <;> cases b <;> rfl
theorem lexT_eq : ∀ a b : List (Int ⊕ Tx), PyProof.Rows.lexLt itemOrd a b = lexT a b
  | [], [] => rfl
  | [], _ :: _ => rfl
  | _ :: _, [] => rfl
  | x :: r, y :: t => by
    show (itemLt x y || (!itemLt y x && PyProof.Rows.lexLt itemOrd r t)) = _
    rw [ltTok_eq, ltTok_eq, lexT_eq r t]; rfl
theorem ltD_eq (x y : Sm.D) : dataLt (toP x) (toP y) = ltD x y := by
  unfold dataLt ltD
  rw [tok_eq, tok_eq, lexT_eq]
mutual
theorem alike_of : ∀ x y : Sm.D, alikeD x y = true → alike (toP x) (toP y) = true
  | .bl _, y, h => by cases y <;> first | (cases h; done) | simp [toP, alike]
  | .int _, y, h => by cases y <;> first | (cases h; done) | simp [toP, alike]
  | .str _, y, h => by cases y <;> first | (cases h; done) | simp [toP, alike]
  | .lst xs, y, h => by
    cases y <;> first | (cases h; done) | skip
    simp only [toP, alike]
    exact alikeL_of xs _ (by simpa [alikeD] using h)
  | .tup xs, y, h => by
    cases y <;> first | (cases h; done) | skip
    simp only [toP, alike]
    exact alikeL_of xs _ (by simpa [alikeD] using h)
  | .non, y, h => by cases y <;> cases h
  | .dct _, y, h => by cases y <;> cases h
  | .dctT _, y, h => by cases y <;> cases h
  | .obj _, y, h => by cases y <;> cases h
theorem alikeL_of : ∀ xs ys : List Sm.D, alikeL xs ys = true → alikeAll (toPL xs) (toPL ys) = true
  | [], _, _ => by simp [toPL, alikeAll]
  | _ :: _, [], _ => by simp [toPL, alikeAll]
  | x :: xs, y :: ys, h => by
    simp only [alikeL, Bool.and_eq_true] at h
    simp only [toPL, alikeAll, Bool.and_eq_true]
    exact ⟨alike_of x y h.1, alikeL_of xs ys h.2⟩
end
/-- the order of values by their data -/
def leV (rev : Bool) : V × Sm.D → V × Sm.D → Bool := dataLe rev fun b => toP b.2
theorem leV_total (rev : Bool) : TotalLe (leV rev) := sortLe_total _ _ _
theorem leV_eq (rev : Bool) (a b : V × Sm.D) : leV rev a b = leR rev a.2 b.2 := by
  show cond rev (!dataLt (toP a.2) (toP b.2)) (!dataLt (toP b.2) (toP a.2)) = _
  rw [ltD_eq, ltD_eq]
  cases rev <;> rfl
/-! ### one sort is another -/
def insG {α : Type} (le : α → α → Bool) (x : α) : List α → List α
  | [] => [x]
  | y :: r => if le x y = true then x :: y :: r else y :: insG le x r
def sortG {α : Type} (le : α → α → Bool) : List α → List α
  | [] => []
  | x :: r => insG le x (sortG le r)
theorem insG_app {α : Type} {le : α → α → Bool} {x : α} : ∀ {l1 l2 : List α}, (∀ b ∈ l1, le x b = false) → (∀ b ∈ l2, le x b = true) → insG le x (l1 ++ l2) = l1 ++ x :: l2
  | [], [], _, _ => rfl
  | [], y :: l2, _, h => by
    show (if le x y = true then x :: y :: l2 else y :: insG le x l2) = _
    rw [if_pos (h y List.mem_cons_self)]; rfl
  | y :: l1, l2, h, h2 => by
    show (if le x y = true then x :: y :: (l1 ++ l2) else y :: insG le x (l1 ++ l2)) = _
    rw [if_neg (by rw [h y List.mem_cons_self]; decide), insG_app (fun b hb => h b (List.mem_cons_of_mem _ hb)) h2]; rfl
theorem merge_sortG {α : Type} {le : α → α → Bool} (T : TotalLe le) : ∀ l : List α, l.mergeSort le = sortG le l
  | [] => by simp [sortG]
  | a :: l => by
    have tr : ∀ x y z : α, le x y = true → le y z = true → le x z = true := T.trans
    have to : ∀ x y : α, (le x y || le y x) = true := fun x y => by
      rw [Bool.or_eq_true]; exact T.total x y
    obtain ⟨l1, l2, e1, e2, h⟩ := List.mergeSort_cons tr to a l
    have hs := List.pairwise_mergeSort tr to (a :: l)
    rw [e1] at hs
    have h2 : ∀ b ∈ l2, le a b = true := fun b hb => by
      have := (List.pairwise_append.mp hs).2.1
      exact (List.pairwise_cons.mp this).1 b hb
    show _ = insG le a (sortG le l)
    rw [← merge_sortG T l, e2, e1, insG_app (fun b hb => by have := h b hb; simpa using this) h2]
theorem insG_snd {rev : Bool} {x : V × Sm.D} : ∀ l : List (V × Sm.D), (insG (leV rev) x l).map (·.2) = insB (leR rev) x.2 (l.map (·.2))
  | [] => rfl
  | y :: r => by
    show (if leV rev x y = true then x :: y :: r else y :: insG (leV rev) x r).map (·.2) = (if leR rev x.2 y.2 = true then x.2 :: y.2 :: r.map (·.2) else y.2 :: insB (leR rev) x.2 (r.map (·.2)))
    rw [leV_eq]
    split
    · rfl
    · rw [List.map_cons, insG_snd r]
theorem sortG_snd {rev : Bool} : ∀ l : List (V × Sm.D), (sortG (leV rev) l).map (·.2) = sortB (leR rev) (l.map (·.2))
  | [] => rfl
  | x :: r => by
    show (insG (leV rev) x (sortG (leV rev) r)).map (·.2) = insB (leR rev) x.2 (sortB (leR rev) (r.map (·.2)))
    rw [insG_snd, sortG_snd r]
theorem insG_mem {α : Type} {le : α → α → Bool} {x z : α} : ∀ {l : List α}, z ∈ insG le x l → z = x ∨ z ∈ l
  | [], h => .inl (List.mem_singleton.mp h)
  | y :: r, h => by
    have h' : z ∈ (if le x y = true then x :: y :: r else y :: insG le x r) := h
    split at h'
    · exact List.mem_cons.mp h'
    · rcases List.mem_cons.mp h' with e | h'
      · exact .inr (by rw [e]; exact List.mem_cons_self)
      · rcases insG_mem h' with e | e
        · exact .inl e
        · exact .inr (List.mem_cons_of_mem _ e)
theorem sortG_mem {α : Type} {le : α → α → Bool} {z : α} : ∀ {l : List α}, z ∈ sortG le l → z ∈ l
  | [], h => h
  | x :: r, h => by
    rcases insG_mem h with e | e
    · rw [e]; exact List.mem_cons_self
    · exact List.mem_cons_of_mem _ (sortG_mem e)
theorem repL_zip {c : Ct} : ∀ {l : List (V × Sm.D)}, (∀ p ∈ l, Rep c p.2 p.1) → RepL c (l.map (·.2)) (l.map (·.1))
  | [], _ => repL_nil.mpr rfl
  | p :: l, h => repL_cons.mpr ⟨p.1, _, rfl, h p List.mem_cons_self, repL_zip fun q hq => h q (List.mem_cons_of_mem _ hq)⟩
theorem repL_unzip {c : Ct} : ∀ {ds : List Sm.D} {vs : List V}, RepL c ds vs → ∃ l : List (V × Sm.D), l.map (·.2) = ds ∧ l.map (·.1) = vs ∧ ∀ p ∈ l, Rep c p.2 p.1
  | [], vs, h => ⟨[], rfl, (repL_nil.mp h).symm, fun p hp => by cases hp⟩
  | d :: ds, vs, h => by
    obtain ⟨v, r, rfl, h1, h2⟩ := repL_cons.mp h
    obtain ⟨l, e1, e2, e3⟩ := repL_unzip h2
    exact ⟨(v, d) :: l, by rw [List.map_cons, e1], by rw [List.map_cons, e2], fun p hp => by
      rcases List.mem_cons.mp hp with e | hp
      · rw [e]; exact h1
      · exact e3 p hp⟩
theorem vals_each : ∀ {l : List (V × Sm.D)} {us : List Value}, Vals (l.map (·.1)) us → EachIs (fun u (b : V × Sm.D) => RelV b.1 u) us l
  | [], us, h => by rw [List.map_nil] at h; cases h; exact .nil
  | p :: l, us, h => by
    rw [List.map_cons] at h
    cases h with
    | cons h1 t => exact .cons h1 (vals_each t)
theorem each_vals : ∀ {l : List (V × Sm.D)} {us : List Value}, EachIs (fun u (b : V × Sm.D) => RelV b.1 u) us l → Vals (l.map (·.1)) us
  | [], us, h => by cases h; exact .nil
  | p :: l, us, h => by
    cases h with
    | cons h1 t => exact .cons h1 (each_vals t)
/-! ### the builtin, whatever is collected -/
theorem args_rev_sorted (v : Value) (b : Bool) : argsOk "sorted" ⟨[v], [(Str.ofString "reverse", .bool b)]⟩ := args_sorted_rev v (.bool b)
theorem sorted_coll {prog : Program} {w : World} {A : Around} {E : Value → Shared → Prop} {s : Shared} {v : Value} {b : Bool} {kw : List (Str × Value)} {Q : Value → Shared → Prop} (hkw : (kw = [] ∧ b = false) ∨ kw = [(Str.ofString "reverse", .bool b)])
    (hcol : wpAny (model prog w) A.in1 (collect v) (fun vs s1 => ∃ bs : List (V × Sm.D), vs.length ≤ sizeLine ∧ EachIs (fun u (p : V × Sm.D) => RelV p.1 u) vs bs ∧ EachIs (fun u (p : V × Sm.D) => ∃ as, Reads s1.heap u (toP p.2) as) vs bs ∧ AllAlike (bs.map fun p => toP p.2) ∧ Sortable (bs.map fun p => toP p.2) ∧
      (∀ p, p ∈ bs → A.units + 2 + (toP p.2).depth < cLine) ∧ ∀ (out : List Value) (h' : Heap) (D : Addr) (n : Nat), (∀ b o, s1.heap.get? b = some o → h'.get? b = some o) → s1.heap.objs.size ≤ D → h'.get? D = some (seqObj "list" out.toArray n) → out.length = vs.length → EachIs (fun u (p : V × Sm.D) => RelV p.1 u) out (bs.mergeSort (leV b)) →
        Q (.ref D) { s1 with heap := h' }) E s) :
    wpAny (model prog w) A (call (.builtin "sorted") [v] kw) Q E s := by
  have ha1 : argsOk "sorted" ⟨[v], kw⟩ := by
    rcases hkw with ⟨rfl, _⟩ | rfl
    · exact args_sorted1 v
    · exact args_rev_sorted v b
  refine call_function_entry_kw kind_sorted plain_sorted entry_sorted ha1 ?_
  unfold Builtin.«sorted»
  refine wpAny_bind (m := checkCount "sorted" 1 1 _) (wpAny_pure ?_)
  refine wpAny_bind (wpAny_mono hcol (fun vs s1 hq => ?_) fun _ _ e => e)
  obtain ⟨bs, hL, e1, e2, hal, hk, hu, hQ⟩ := hq
  refine wpAny_bind (wpAny_newList ?_ hL)
  have ho : (s1.heap.push (seqObj "list" vs.toArray 0)).get? s1.heap.objs.size = some (seqObj "list" vs.toArray 0) := Heap.get?_push_size _ rfl
  have keep : ∀ b' o, s1.heap.get? b' = some o → (sortingHeap (s1.heap.push (seqObj "list" vs.toArray 0)) s1.heap.objs.size vs).get? b' = some o := fun b' o e =>
    sortingHeap_old (Nat.ne_of_lt (Heap.lt_size e)) (Heap.get?_push_of_some _ e)
  have er : EachIs (fun u (p : V × Sm.D) => ∃ as, Reads (sortingHeap (s1.heap.push (seqObj "list" vs.toArray 0)) s1.heap.objs.size vs) u (toP p.2) as) vs bs := e2.mono fun u p ⟨as, r⟩ => ⟨as, PyProof.Rows.Reads.keeps keep r⟩
  have S : SortsAt prog w A.in1.in1 { s1 with heap := sortingHeap (s1.heap.push (seqObj "list" vs.toArray 0)) s1.heap.objs.size vs } (dataKind (sortingHeap (s1.heap.push (seqObj "list" vs.toArray 0)) s1.heap.objs.size vs) (bs.map fun p => toP p.2)) vs :=
    SortsAt.data (s := { s1 with heap := sortingHeap (s1.heap.push (seqObj "list" vs.toArray 0)) s1.heap.objs.size vs }) (each_map (R := fun v d => ∃ as, Reads (sortingHeap (s1.heap.push (seqObj "list" vs.toArray 0)) s1.heap.objs.size vs) v d as) (fun p : V × Sm.D => toP p.2) er) hal hk (bound_map (A := A.in1.in1) hu)
  have so := sortVals_data b e1 er hal
  obtain ⟨n, hn⟩ := sortedHeap_at (vs := vs) (out := (sortVals (dataKind (sortingHeap (s1.heap.push (seqObj "list" vs.toArray 0)) s1.heap.objs.size vs) (bs.map fun p => toP p.2)) b vs vs).toArray) ho
  have fin : Q (.ref s1.heap.objs.size) { s1 with heap := sortedHeap (s1.heap.push (seqObj "list" vs.toArray 0)) s1.heap.objs.size vs (sortVals (dataKind (sortingHeap (s1.heap.push (seqObj "list" vs.toArray 0)) s1.heap.objs.size vs) (bs.map fun p => toP p.2)) b vs vs).toArray } :=
    hQ _ _ _ n (fun b' o e => (sortedHeap_old (Nat.ne_of_lt (Heap.lt_size e)) (Nat.lt_of_lt_of_le (Heap.lt_size e) (by rw [size_push']; exact Nat.le_succ _))).trans (Heap.get?_push_of_some _ e)) (Nat.le_refl _) hn (sortVals_length b rfl) so
  have ha2 : ∀ x, argsOk "list.sort" ⟨[.ref x], kw⟩ := fun x => by
    rcases hkw with ⟨rfl, _⟩ | rfl
    · exact args_list_sort _
    · exact args_list_sort_rev _ _
  refine wpAny_bind (wpAny_holding (wpAny_call_entry_kw slot_list_sort ⟨_, ho, rfl⟩ entry_list_sort ?body (ha2 _)))
  case body =>
    rcases hkw with ⟨rfl, rfl⟩ | rfl
    · exact list_sort_vals (s := { s1 with heap := s1.heap.push (seqObj "list" vs.toArray 0) }) ho S hL ⟨_, rfl, wpAny_pure ⟨_, rfl, fin⟩⟩
    · exact list_sort_rev_vals (s := { s1 with heap := s1.heap.push (seqObj "list" vs.toArray 0) }) ho S hL ⟨_, rfl, wpAny_pure ⟨_, rfl, fin⟩⟩
/-! ### as rules of the layer -/
variable {g : Gx} {X : Cx} {E : XK}
/-- sorted of a list or tuple of data -/
def rSortD (K : PySem.W.Frag) (b : Bool) : List V → Hp → VK → Prop := fun vs H Q => ∃ (a : Addr) (bs : List (V × Sm.D)), vs = [V.ref a] ∧ (SqL K H a (bs.map (·.1)) ∨ SqT K H a (bs.map (·.1))) ∧ (∀ p, p ∈ bs → Dp K H p.1 (toP p.2)) ∧
  AllAlike (bs.map fun p => toP p.2) ∧ Sortable (bs.map fun p => toP p.2) ∧ (∀ p, p ∈ bs → (toP p.2).depth ≤ 6) ∧ ∀ p, H p = none → Q (.ref p) (upd H p (.lst ((bs.mergeSort (leV b)).map (·.1))))
theorem each_reads {pins : List (Addr × Obj)} {σ : L2.St} {H : Hp} {s : Shared} (I : Inv X pins σ H s) : ∀ {bs : List (V × Sm.D)} {us : List Value}, (∀ p, p ∈ bs → Dp X.K H p.1 (toP p.2)) → EachIs (fun u (b : V × Sm.D) => RelV b.1 u) us bs →
    EachIs (fun u (p : V × Sm.D) => ∃ as, Reads s.heap u (toP p.2) as) us bs
  | [], us, _, h => by cases h; exact .nil
  | p :: bs, us, hd, h => by
    cases h with
    | cons h1 t => exact .cons (Dp.reads I _ _ _ (hd p List.mem_cons_self) h1) (each_reads I (fun q hq => hd q (List.mem_cons_of_mem _ hq)) t)
theorem sort_go {pins : List (Addr × Obj)} {σ : L2.St} {H : Hp} {s : Shared} {b : Bool} {bs : List (V × Sm.D)} {its : List Value} {A : Around} {Q : VK} (hu : A.units + 10 < cLine) (I : Inv X pins σ H s) (rv : Vals (bs.map (·.1)) its) (hz : its.length ≤ sizeLine) (hd : ∀ p, p ∈ bs → Dp X.K H p.1 (toP p.2))
    (hal : AllAlike (bs.map fun p => toP p.2)) (hk : Sortable (bs.map fun p => toP p.2)) (h6 : ∀ p, p ∈ bs → (toP p.2).depth ≤ 6) (q : ∀ p, H p = none → Q (.ref p) (upd H p (.lst ((bs.mergeSort (leV b)).map (·.1))))) {h1 : Heap} {tk : Nat} (hk1 : ∀ b' o, s.heap.get? b' = some o → h1.get? b' = some o) :
    ∃ bs' : List (V × Sm.D), its.length ≤ sizeLine ∧ EachIs (fun u (p : V × Sm.D) => RelV p.1 u) its bs' ∧ EachIs (fun u (p : V × Sm.D) => ∃ as, Reads h1 u (toP p.2) as) its bs' ∧ AllAlike (bs'.map fun p => toP p.2) ∧ Sortable (bs'.map fun p => toP p.2) ∧
      (∀ p, p ∈ bs' → A.units + 2 + (toP p.2).depth < cLine) ∧ ∀ (out : List Value) (h' : Heap) (D : Addr) (n : Nat), (∀ b o, h1.get? b = some o → h'.get? b = some o) → h1.objs.size ≤ D → h'.get? D = some (seqObj "list" out.toArray n) → out.length = its.length → EachIs (fun u (p : V × Sm.D) => RelV p.1 u) out (bs'.mergeSort (leV b)) →
        EP X pins σ Q (.ref D) { ({ s with heap := h1, toks := tk } : Shared) with heap := h' } := by
  have er := vals_each rv
  refine ⟨bs, hz, er, (each_reads I hd er).mono fun u p ⟨as, r⟩ => ⟨as, PyProof.Rows.Reads.keeps hk1 r⟩, hal, hk, fun p hp => by have := h6 p hp; omega, fun out h' D n kp hD hn hl he => ?_⟩
  have I1 : Inv X pins σ H ({ s with heap := h1, toks := tk } : Shared) := I.kept (t' := tk) hk1
  exact ⟨.ref D, upd H D (.lst ((bs.mergeSort (leV b)).map (·.1))), I1.laid (t' := tk) kp hD ⟨by rw [List.length_map, ← he.length, hl]; exact hz, out, n, each_vals he, hn⟩, rfl, q D (I1.hok.fresh hD)⟩
theorem cr_sortD (hu : X.A.units + 10 < cLine) : CallR X (.builtin "sorted") (rSortD X.K false) := by
  intro pins s σ H vs us Q I r ⟨a, bs, ev, hs, hd, hal, hk, h6, q⟩
  subst ev
  obtain ⟨u, rfl, ru⟩ := vals1 r
  obtain rfl : u = Value.ref a := ru
  obtain ⟨its, rv, T, o, n, hT, ho, hc, hdt, hz⟩ : ∃ its, Vals (bs.map (·.1)) its ∧ ∃ (T : String) (o : Obj) (n : Nat), (T = "list" ∨ T = "tuple") ∧ s.heap.get? a = some o ∧ o.cls = .type T ∧ o.data = .seq its.toArray n ∧ its.length ≤ sizeLine := by
    rcases hs with hs | hs
    · obtain ⟨its, rv, hl, hz⟩ := I.list hs
      obtain ⟨o, ho, hc, n, hdt⟩ := hl.isList
      exact ⟨its, rv, "list", o, n, .inl rfl, ho, hc, hdt, by rw [← rv.length]; exact hz⟩
    · obtain ⟨its, rv, hl, hz⟩ := I.tuple hs
      obtain ⟨o, ho, hc, n, hdt⟩ := hl
      exact ⟨its, rv, "tuple", o, n, .inr rfl, ho, hc, hdt, by rw [← rv.length]; exact hz⟩
  refine sorted_coll (b := false) (.inl ⟨rfl, rfl⟩) (wpAny_collect_seq a hT ho hc hdt (fun h1 hk1 => ?_) (by rw [List.size_toArray]; exact hz))
  exact sort_go (b := false) (tk := s.toks) hu I rv hz hd hal hk h6 q hk1
theorem toPL_len : ∀ xs : List Sm.D, (toPL xs).length = xs.length
  | [] => rfl
  | x :: xs => by show (toPL xs).length + 1 = xs.length + 1; rw [toPL_len xs]
theorem sort_facts {ds : List Sm.D} (h : okSort ds = true) : AllAlike (ds.map toP) ∧ Sortable (ds.map toP) ∧ (∀ d ∈ ds, dataN 5 d = true) ∧ ds.length ≤ 100000 := by
  unfold okSort at h
  simp only [Bool.and_eq_true, Bool.or_eq_true, List.all_eq_true, decide_eq_true_eq] at h
  obtain ⟨h1, h2, h3, h4⟩ := h
  refine ⟨fun d hd d' hd' => ?_, ?_, h3, h4⟩
  · obtain ⟨x, hx, rfl⟩ := List.mem_map.mp hd
    obtain ⟨y, hy, rfl⟩ := List.mem_map.mp hd'
    exact alike_of x y (h1 x hx y hy)
  · rcases h2 with h2 | h2
    · refine .inl fun d hd => ?_
      obtain ⟨x, hx, rfl⟩ := List.mem_map.mp hd
      have := h2 x hx
      cases x <;> first | (cases this; done) | skip
      rename_i xs
      cases xs with
      | nil => cases this
      | cons y r => exact ⟨toP y, toPL r, rfl⟩
    · refine .inr fun d hd => ?_
      obtain ⟨x, hx, rfl⟩ := List.mem_map.mp hd
      have := h2 x hx
      cases x <;> first | (cases this; done) | exact ⟨fun z => (by simp [toP] at z), fun xs z => (by simp [toP] at z)⟩
theorem sort_sc {K : PySem.W.Frag} {c : Ct} (ok : Ok g c) {x : Sm.D} {v : V} {ds : List Sm.D} {Q : VK} {b : Bool} (rx : Rep c x v) (e : seqD c.S x = some ds) (h : okSort ds = true) (q : WE g c Q (.lst (sortB (leR b) ds)) c.S) : rSortD K b [v] c.H Q := by
  obtain ⟨p, vs, rfl, h1, h2⟩ := seqD_of ok rx e
  obtain ⟨f1, f2, f3, f4⟩ := sort_facts h
  obtain ⟨l, e1, e2, e3⟩ := repL_unzip h2
  have em : (l.map fun p => toP p.2) = ds.map toP := by rw [← e1, List.map_map]; rfl
  refine ⟨p, l, rfl, ?_, fun z hz => ?_, by rw [em]; exact f1, by rw [em]; exact f2, fun z hz => ?_, ?_⟩
  · rw [e2]
    rcases h1 with ⟨_, h1⟩ | ⟨_, h1⟩
    · exact .inl (.inl h1)
    · exact .inr (SqT.of h1)
  · exact dp_of 5 z.2 z.1 (f3 z.2 (by rw [← e1]; exact List.mem_map.mpr ⟨z, hz, rfl⟩)) (e3 z hz)
  · have := (shp_of 5 z.2 (f3 z.2 (by rw [← e1]; exact List.mem_map.mpr ⟨z, hz, rfl⟩))).2
    omega
  · rw [merge_sortG (leV_total b)]
    refine we_newL ok ?_ q
    have := repL_zip (c := c) (l := sortG (leV b) l) fun z hz => e3 z (sortG_mem hz)
    rw [sortG_snd, e1] at this
    exact this
theorem seqD_dct {S : Store} {x : Sm.D} {kvs : List (K1 × Sm.D)} (e : view S x = .dct kvs) : seqD S x = none := by unfold seqD; rw [e]
theorem strKeys_of {c : Ct} : ∀ {kvs : List (K1 × Sm.D)} {us : List (L2.Key × V)} {ts : List Tx}, strKeys kvs = some ts → RK c kK kvs us → us.map (·.1) = (ts.map sS).map Sum.inr
  | [], us, ts, h, r => by cases h; rw [show us = [] from r]; rfl
  | (k, d) :: kvs, us, ts, h, r => by
    obtain ⟨v, q, rfl, _, h2⟩ := r
    cases k with
    | i n => cases h
    | s t =>
      obtain ⟨us', hu, rfl⟩ := Option.map_eq_some_iff.mp (show (strKeys kvs).map (t :: ·) = some ts from h)
      rw [List.map_cons, strKeys_of hu h2]; rfl
theorem le_str (a b : Tx) : leR false (.str a) (.str b) = !decide (b < a) := by
  show (!ltD (.str b) (.str a)) = _
  unfold ltD
  simp only [tokD, lexT, ltTok]
  simp
theorem tx_lt_irrefl (a : Tx) : ¬ a < a := List.lt_irrefl a
/-- sorted texts in one order -/
theorem sortS_uniq : ∀ {a b : List Tx}, a.Perm b → a.Pairwise (fun x y => ¬ y < x) → b.Pairwise (fun x y => ¬ y < x) → a = b := fun {a b} p h1 h2 =>
  p.eq_of_pairwise (fun x y _ _ h h' => by
    have h3 : x ≤ y := List.not_lt.mp h
    have h4 : y ≤ x := List.not_lt.mp h'
    exact List.le_antisymm h3 h4) h1 h2
end Sm
end

section
set_option Elab.async false
set_option linter.all false
set_option autoImplicit false
set_option maxRecDepth 100000
set_option maxHeartbeats 4000000
/-! Built-in functions over dicts. -/
namespace Sm
open PySem PySem.Spec PySem.Calls PyProof.Rows PySem.W L2
variable {g : Gx} {X : Cx} {E : XK}
theorem vals_at {xs : List V} {us : List Value} (hl : us.length = xs.length) (h : ∀ (j : Nat) (v : Value), us[j]? = some v → ∃ x, xs[j]? = some x ∧ RelV x v) : Vals xs us := by
  induction xs generalizing us with
  | nil => cases us with
    | nil => exact .nil
    | cons u us => simp at hl
  | cons x xs ih => cases us with
    | nil => simp at hl
    | cons u us =>
      obtain ⟨y, e, r⟩ := h 0 u rfl
      have e' : x = y := by simpa using e
      subst e'
      exact .cons r (ih (by simpa using hl) fun j v hj => by
        obtain ⟨z, e1, r1⟩ := h (j + 1) v (by simpa using hj)
        exact ⟨z, by simpa using e1, r1⟩)
/-! ### sorted(d) -/
def rSortK : List V → Hp → VK → Prop := fun vs H Q => ∃ (a : Addr) (us : List (L2.Key × V)) (ks : List K1), vs = [.ref a] ∧ Rd H a (.dK us) ∧ us.map (·.1) = ks.map kK ∧ AllAlike (ks.map fun k => toP (dK k)) ∧ Sortable (ks.map fun k => toP (dK k)) ∧
  ∀ p, H p = none → Q (.ref p) (upd H p (.lst (((ks.map fun k => (kV (kK k), dK k)).mergeSort (leV false)).map (·.1))))
theorem cr_sortK (hc : X.calm = true) (hu : X.A.units + 10 < cLine) : CallR X (.builtin "sorted") rSortK := by
  intro pins s σ H xs vs Q I r ⟨a, us, ks, ex, hd, hks, hal, hk, q⟩
  subst ex
  obtain ⟨u, rfl, ru⟩ := vals1 r
  obtain rfl : u = Value.ref a := ru
  obtain ⟨z, lo, ws, rel, dd⟩ := dk_rd I.hok hd
  obtain ⟨ep, hat⟩ := dd.dictAt
  have hkeys : ws.map (·.1) = ks.map kK := rel.keys.symm.trans hks
  have hl : ws.length = ks.length := by
    have e := congrArg List.length hkeys
    rw [List.length_map, List.length_map] at e
    exact e
  have hz : ws.length ≤ sizeLine := by rw [← rel.length]; exact z
  refine sorted_coll (b := false) (.inl ⟨rfl, rfl⟩) (PySem.W.kdu_collect (A := X.A.in1) (PySem.W.kdl_dict (knd := mixKind X.prog X.w) (kvs := ws) (ep := ep) lo) (I.ok.hd hc) hat hz fun h' tk acc hk' hacc => ?_)
  have hal2 : acc.toList.length = (ks.map fun k => kV (kK k)).length := by rw [Array.length_toList, hacc.1, hl, List.length_map]
  have rv : Vals (ks.map fun k => kV (kK k)) acc.toList := vals_at hal2 fun j v e => by
    obtain ⟨k, x, e1, e2⟩ := hacc.2 j v (by rw [← Array.getElem?_toList]; exact e)
    have e3 : (ws.map (·.1))[j]? = some k := by rw [List.getElem?_map, e1]; rfl
    rw [hkeys, List.getElem?_map] at e3
    cases e4 : ks[j]? with
    | none => rw [e4] at e3; cases e3
    | some y =>
      rw [e4] at e3
      have e5 : kK y = k := Option.some.inj e3
      subst e5
      exact ⟨_, by rw [List.getElem?_map, e4]; rfl, relV_key (show keyIs (kK y) v = true from e2)⟩
  have em : (ks.map fun k => (kV (kK k), dK k)).map (·.1) = ks.map fun k => kV (kK k) := by rw [List.map_map]; rfl
  have em2 : (ks.map fun k => (kV (kK k), dK k)).map (fun p => toP p.2) = ks.map fun k => toP (dK k) := by rw [List.map_map]; rfl
  have dp : ∀ p, p ∈ ks.map (fun k => (kV (kK k), dK k)) → Dp X.K H p.1 (toP p.2) ∧ (toP p.2).depth ≤ 6 := fun p hp => by
    obtain ⟨k, _, rfl⟩ := List.mem_map.mp hp
    cases k with
    | i n => exact ⟨.int n, by simp [toP, dK, PyData.depth]⟩
    | s t => exact ⟨.str (sS t), by simp [toP, dK, PyData.depth]⟩
  exact sort_go (b := false) (bs := ks.map fun k => (kV (kK k), dK k)) (tk := tk) hu I (by rw [em]; exact rv) (by rw [Array.length_toList, hacc.1]; exact hz) (fun p hp => (dp p hp).1) (by rw [em2]; exact hal) (by rw [em2]; exact hk) (fun p hp => (dp p hp).2) q hk'
theorem ssort_uniq (ts : List Tx) : (ts.map Sm.D.str).all (fun x => (ts.map Sm.D.str).all fun y => alikeD x y) = true := by
  simp [List.all_eq_true, alikeD]
theorem strKeys_keys : ∀ {kvs : List (K1 × Sm.D)} {ts : List Tx}, strKeys kvs = some ts → kvs.map (·.1) = ts.map K1.s
  | [], ts, h => by cases h; rfl
  | (k, d) :: kvs, ts, h => by
    cases k with
    | i n => cases h
    | s t =>
      obtain ⟨us', hu, rfl⟩ := Option.map_eq_some_iff.mp (show (strKeys kvs).map (t :: ·) = some ts from h)
      rw [List.map_cons, strKeys_keys hu]; rfl
theorem rk_keys {c : Ct} : ∀ {kvs : List (K1 × Sm.D)} {us : List (L2.Key × V)}, RK c kK kvs us → us.map (·.1) = (kvs.map (·.1)).map kK
  | [], us, r => by rw [show us = [] from r]; rfl
  | (k, d) :: kvs, us, r => by
    obtain ⟨v, q, rfl, _, h2⟩ := r
    rw [List.map_cons, rk_keys h2]; rfl
theorem sc_sorted {K : PySem.W.Frag} : SC g (fun xs H Q => rSortK xs H Q ∨ rSortD K false xs H Q) bSorted := by
  intro c xs vs Q z ok r e q
  unfold bSorted at e
  split at e
  · rename_i x
    obtain ⟨v, rfl, h⟩ := rep1 r
    split at e
    · rename_i kvs ex
      split at e
      · rename_i ts ht
        split at e
        · cases e
          obtain ⟨a, us, rfl, h1, h2⟩ := see_dct ok h ex
          have hks : us.map (·.1) = (ts.map K1.s).map kK := by rw [rk_keys (rk_of.mp h2), strKeys_keys ht]
          refine .inl ⟨a, us, ts.map K1.s, rfl, h1, hks, fun d hd d' hd' => ?_, .inr fun d hd => ?_, ?_⟩
          · rw [List.map_map] at hd hd'
            obtain ⟨t, _, rfl⟩ := List.mem_map.mp hd
            obtain ⟨t', _, rfl⟩ := List.mem_map.mp hd'
            simp [dK, toP, alike]
          · rw [List.map_map] at hd
            obtain ⟨t, _, rfl⟩ := List.mem_map.mp hd
            exact ⟨fun z => by simp [dK, toP] at z, fun xs z => by simp [dK, toP] at z⟩
          · rw [merge_sortG (leV_total false)]
            refine we_newL ok ?_ q
            have := repL_zip (c := c) (l := sortG (leV false) ((ts.map K1.s).map fun k => (kV (kK k), dK k))) fun z hz => by
              obtain ⟨k, _, rfl⟩ := List.mem_map.mp (sortG_mem hz)
              exact dK_rep k
            rw [sortG_snd, List.map_map, List.map_map] at this
            exact this
        · cases e
      · cases e
    · unfold bSortedR at e
      cases hs : seqD c.S x with
      | none => simp only [hs] at e; cases e
      | some ds =>
        simp only [hs] at e
        split at e
        · rename_i ho
          cases e
          exact .inr (sort_sc ok h hs ho q)
        · cases e
  · cases e
/-! ### d.items(), d.values() as an argument -/
section
variable {e : Expr} {te : TE} {apos cpos : Pos} {pins : List (Addr × Obj)} {σ : L2.St} {H : Hp} {s : Shared} {KQ : Value → Shared → Prop} {QQ : Addr → List (L2.Key × V) → Hp → Prop}
theorem items_eval (he : PE X e te) (hbase : attributeBase e "items" X.env (eval e X.env) = eval e X.env) (hline : (apos.endLine == cpos.line) = true) (I : L2.Inv X pins σ H s) (hq : te σ H fun x H1 => ∃ d kvs, x = .ref d ∧ H1 d = some (.dK kvs) ∧ QQ d kvs H1)
    (k : ∀ (s1 : Shared) (H1 : Hp) (d : Addr) (kvs : List (L2.Key × V)) (vs : List (L2.Key × Value)) (ep : Nat), L2.Inv X pins σ H1 { s1 with heap := s1.heap.push { cls := .type "dict_items", data := .fields #[.ref d] } } → (s1.heap.push { cls := .type "dict_items", data := .fields #[.ref d] }).DictAt (mixKind X.prog X.w) d vs ep → KV kvs vs → kvs.length ≤ sizeLine →
      QQ d kvs H1 → KQ (.ref s1.heap.objs.size) { s1 with heap := s1.heap.push { cls := .type "dict_items", data := .fields #[.ref d] } }) :
    wpAny (model X.prog X.w) X.A (eval (.Call (.Attribute e "items" apos) [] [] cpos) X.env) KQ X.xe s := by
  refine wpAny_Call_method (T := "dict") (id := "dict.items") hbase rfl hline F.plainAttrs_dict F.slot_dict_items F.type_dict_items (thn (he.run pins s σ H _ I hq) fun u s1 ⟨x, H1, I1, rx, d, kvs, ex, hd, q⟩ => ?_)
  subst ex
  obtain rfl : u = Value.ref d := rx
  obtain ⟨hz, hs0, vs, kv, hdo⟩ := I1.hok d _ hd
  obtain ⟨ep, hat⟩ := hdo.dictAt
  have I2 : L2.Inv X pins σ H1 { s1 with heap := s1.heap.push { cls := .type "dict_items", data := .fields #[.ref d] } } := I1.kept (t' := s1.toks) fun b ob q => Heap.get?_push_of_some _ q
  refine ⟨hdo.typeIs, hdo.mapOf.noDict, ?_⟩
  show wpAny _ _ (callWith cpos (.builtin "dict.items") [.ref d] [] []) _ X.xe s1
  refine method_meetsIn F.slot_dict_items F.entry_dict_items rfl (PySem.evalArgs_none ⟨rfl, hdo.typeIs, F.args_dict_items_1 _, _, meets_dict_items (mixKind X.prog X.w) d hs0, ⟨vs, hdo⟩, ?_⟩)
  exact k s1 H1 d kvs vs ep I2 (hat.push _) kv hz q
theorem values_eval (he : PE X e te) (hbase : attributeBase e "values" X.env (eval e X.env) = eval e X.env) (hline : (apos.endLine == cpos.line) = true) (I : L2.Inv X pins σ H s) (hq : te σ H fun x H1 => ∃ d kvs, x = .ref d ∧ H1 d = some (.dK kvs) ∧ QQ d kvs H1)
    (k : ∀ (s1 : Shared) (H1 : Hp) (d : Addr) (kvs : List (L2.Key × V)) (vs : List (L2.Key × Value)) (ep : Nat), L2.Inv X pins σ H1 { s1 with heap := s1.heap.push { cls := .type "dict_values", data := .fields #[.ref d] } } → (s1.heap.push { cls := .type "dict_values", data := .fields #[.ref d] }).DictAt (mixKind X.prog X.w) d vs ep → KV kvs vs → kvs.length ≤ sizeLine → d < s1.heap.objs.size →
      QQ d kvs H1 → KQ (.ref s1.heap.objs.size) { s1 with heap := s1.heap.push { cls := .type "dict_values", data := .fields #[.ref d] } }) :
    wpAny (model X.prog X.w) X.A (eval (.Call (.Attribute e "values" apos) [] [] cpos) X.env) KQ X.xe s := by
  refine wpAny_Call_method (T := "dict") (id := "dict.values") hbase rfl hline F.plainAttrs_dict F.slot_dict_values F.type_dict_values (thn (he.run pins s σ H _ I hq) fun u s1 ⟨x, H1, I1, rx, d, kvs, ex, hd, q⟩ => ?_)
  subst ex
  obtain rfl : u = Value.ref d := rx
  obtain ⟨hz, hs0, vs, kv, hdo⟩ := I1.hok d _ hd
  obtain ⟨ep, hat⟩ := hdo.dictAt
  have I2 : L2.Inv X pins σ H1 { s1 with heap := s1.heap.push { cls := .type "dict_values", data := .fields #[.ref d] } } := I1.kept (t' := s1.toks) fun b ob q => Heap.get?_push_of_some _ q
  refine ⟨hdo.typeIs, hdo.mapOf.noDict, ?_⟩
  have hlt : d < s1.heap.objs.size := let ⟨_, _, _, h1, _⟩ := hdo; Heap.lt_size h1
  show wpAny _ _ (callWith cpos (.builtin "dict.values") [.ref d] [] []) _ X.xe s1
  refine method_meetsIn F.slot_dict_values F.entry_dict_values rfl (PySem.evalArgs_none ⟨rfl, hdo.typeIs, F.args_dict_values_1 _, _, meets_dict_values (mixKind X.prog X.w) d hs0, ⟨vs, hdo⟩, ?_⟩)
  exact k s1 H1 d kvs vs ep I2 (hat.push _) kv hz hlt q
end
/-! ### tuple(..) of what is collected -/
section
open PySem.AutoSeq1 (wpAny_loadPart')
variable {prog : Program} {w : World} {A : Around} {s : Shared} {E' : Value → Shared → Prop}
theorem code_tuple_new_coll {v : Addr} {T : String} {Q₁ : Value → Shared → Prop} (hT : s.TypeIs (.ref v) T) (hne : (Value.type T == Value.type "tuple") = false)
    (hcol : ∀ (Q : List Value → Shared → Prop) (E : Value → Shared → Prop), (∀ vs s1, vs.length ≤ sizeLine → (Q₁ (.ref s1.heap.objs.size) { s1 with heap := s1.heap.push { cls := .type "tuple", data := .seq vs.toArray } }) → Q vs s1) → wpAny (model prog w) A.in1 (collect (.ref v)) Q E s) :
    codeAny (model prog w) A (.call (.builtin "tuple.__new__") ⟨[.type "tuple", .ref v], []⟩) (wants Q₁ E') s := by
  refine codeAny_of_tree ?_
  show wpAny _ A.in1 (do checkBuiltinCall "tuple.__new__" ⟨[.type "tuple", .ref v], []⟩; again (.builtin "tuple.__new__" ⟨[.type "tuple", .ref v], []⟩)) _ _ s
  refine wpAny_bind (wpAny_of_eq (F.newCall_tuple_1 _) (wpAny_pure ⟨plainId_quiet F.plain_tuple_new _, codeAny_builtin F.entry_tuple_new ?_⟩))
  rw [Around.under_plainId F.plain_tuple_new _]
  have hsub := sub_tuple_self
  have hinit := init_tuple_lookup
  have hmh := madeHere_tuple
  have hcol' : ∀ {Q : List Value → Shared → Prop} {E : Value → Shared → Prop}, (∀ vs s1, vs.length ≤ sizeLine → (Q₁ (.ref s1.heap.objs.size) { s1 with heap := s1.heap.push { cls := .type "tuple", data := .seq vs.toArray } }) → Q vs s1) → wpAny (model prog w) A.in1 (collect (.ref v)) Q E s := fun h => hcol _ _ h
  wp_walk using wpAny_typeOf hT, hcol'
  intro vs s1 hz hq
  show wpAny _ _ (Builtin.Tuple.tupleExact vs.toArray >>= fun v => ret v) _ _ _
  unfold Builtin.Tuple.tupleExact
  refine wpAny_bind (wpAny_newObj_type ?_ (by show vs.toArray.size ≤ sizeLine; rw [List.size_toArray]; exact hz))
  exact wpAny_pure hq
theorem call_tuple_coll {v : Addr} {T : String} {Q : Value → Shared → Prop} (hT : s.TypeIs (.ref v) T) (hne : (Value.type T == Value.type "tuple") = false)
    (hcol : ∀ (R : List Value → Shared → Prop) (E : Value → Shared → Prop), (∀ vs s1, vs.length ≤ sizeLine → Q (.ref s1.heap.objs.size) { s1 with heap := s1.heap.push { cls := .type "tuple", data := .seq vs.toArray } } → R vs s1) → wpAny (model prog w) A.in1.in1 (collect (.ref v)) R E s) :
    wpAny (model prog w) A (call (.type "tuple") [.ref v]) Q E' s := by
  refine callType_codes (Q₁ := fun obj s₁ => s₁.TypeIs obj "tuple" ∧ Q obj s₁) F.called_tuple (F.typeCall_tuple_1 _) F.entry_object_init
    (code_tuple_new_coll hT hne fun R E h => hcol R E fun vs s1 hz hq => h vs s1 hz ⟨⟨_, Heap.get?_push_size _ rfl, rfl⟩, hq⟩) fun obj s₁ h₁ => ?_
  exact ⟨h₁.1, F.args_object_init_2 obj _, object_init_meets F.called_tuple.init.lookup F.called_tuple.made (by decide) prog w A.in1 _ s₁ ⟨h₁.1, rfl, h₁.2⟩⟩
end
/-! ### the pairs, laid -/
theorem items_laidT {pins : List (Addr × Obj)} {σ : L2.St} {H : Hp} {s : Shared} {h' : Heap} {tk : Nat} {kvs : List (L2.Key × V)} {vs : List (L2.Key × Value)} {as : List Addr} (I : L2.Inv X pins σ H s) (kv : KV kvs vs)
    (hk : ∀ b o, s.heap.get? b = some o → h'.get? b = some o) (hl : as.length = vs.length) (hG : PySem.W.KdxG (mixKind X.prog X.w) vs s.heap.objs.size h' as) :
    ∃ H' : Hp, (∀ b o, H b = some o → H' b = some o) ∧ (∀ t ∈ as, H t = none) ∧ as.Nodup ∧ H' = LiI.putT H as kvs ∧ Paired (fun (t : Addr) (q : L2.Key × V) => H' t = some (.tup [kV q.1, q.2])) as kvs ∧ L2.Inv X pins σ H' { s with heap := h', toks := tk } := by
  have lk : kvs.length = vs.length := Paired.length kv
  have nd : as.Nodup := List.Pairwise.imp (fun {a b} (h : a < b) => Nat.ne_of_lt h) hG.rise
  have new : ∀ t ∈ as, H t = none := fun t ht => I.hok.fresh (Nat.le_of_lt (hG.above t ht))
  have atP := LiI.putT_at as kvs H (by omega) nd
  have off : ∀ b, b ∉ as → LiI.putT H as kvs b = H b := fun b h1 => LiI.putT_off as kvs _ h1
  have low : ∀ b o, s.heap.get? b = some o → b ∉ as := fun b o e z => absurd (Heap.lt_size e) (Nat.not_lt.mpr (Nat.le_of_lt (hG.above b z)))
  have kp : ∀ b u, H b = some u → (LiI.putT H as kvs) b = some u := fun b u e => by
    rw [off b (fun z => by rw [new b z] at e; cases e)]
    exact e
  refine ⟨LiI.putT H as kvs, kp, new, nd, rfl, atP, ?_⟩
  refine I.call' (ch := []) rfl ⟨fun b o q _ _ _ => hk b o q, fun b o q _ _ _ => ⟨o.slots, hk b o q⟩, fun b o q n _ => ?_, fun b o q _ => ⟨o, hk b o q⟩, fun b xs q => kp b _ q, fun b o u q => kp b _ q, fun b ps q => ⟨#[], by rw [kp b _ q]; simp⟩⟩ (fun b u q => ?_) I.bare fun b z => by simp at z
  · rw [off b (low b o q)]
    exact n
  · by_cases hb : b ∈ as
    · obtain ⟨j, pk, e1, e2, e3⟩ := LiI.paired_ix atP hb
      rw [e3] at q
      cases q
      obtain ⟨key, k, x, f1, f2, f3⟩ := hG.pairs j b e1
      obtain ⟨qv, g1, g2, g3⟩ := LiI.paired_get kv e2
      rw [f1] at g1
      cases g1
      have rk : RelV (kV pk.1) key := by
        rw [g2]
        exact relV_key (show keyIs k key = true from f2)
      exact ⟨by show 2 ≤ sizeLine; decide, [key, x], .cons rk (.cons g3 .nil), ⟨_, f3, rfl, _, rfl⟩⟩
    · rw [off b hb] at q
      exact (I.hok b u q).stay (fun d v _ y => hk d v y) (fun d y => kp d _ y) fun d xs y => kp d _ y
/-- new pairs stand for the items of a dict -/
theorem lay_items {c : Ct} (ok : Ok g c) : ∀ {kvs : List (K1 × Sm.D)} {us : List (L2.Key × V)} {as : List Addr}, RK c kK kvs us → as.length = us.length → as.Nodup → (∀ t ∈ as, c.H t = none) →
    ∃ c', Ok g c' ∧ Le c c' ∧ RsE c' c ∧ c'.S = c.S ∧ c'.H = LiI.putT c.H as us ∧ RepL c' (kvs.map fun p => .tup [dK p.1, p.2]) (as.map V.ref)
  | [], us, as, r, hl, _, _ => by
    have e : us = [] := r
    subst e
    have e2 : as = [] := List.length_eq_zero_iff.mp hl
    subst e2
    exact ⟨c, ok, Le.refl c, RsE.refl c, rfl, rfl, repL_nil.mpr rfl⟩
  | (k, d) :: kvs, us, as, r, hl, nd, hn => by
    obtain ⟨v, q, rfl, h1, h2⟩ := r
    cases as with
    | nil => simp at hl
    | cons t as =>
      obtain ⟨nt, nd'⟩ := List.nodup_cons.mp nd
      have ht := hn t List.mem_cons_self
      have ok1 := ok.new (o := .tup [kV (kK k), v]) ht
      have l1 : Le c _ := Le.new (o := .tup [kV (kK k), v]) ht
      obtain ⟨c', ok', l', r', s', hH, hr⟩ := lay_items ok1 (kvs := kvs) (us := q) (as := as) (rk_mono (fun d v => Rep.mono l1 d v) h2) (by simpa using hl) nd' (fun b hb => by
        show upd c.H t _ b = none
        rw [upd_ne (fun (z : b = t) => nt (by rw [← z]; exact hb))]
        exact hn b (List.mem_cons_of_mem _ hb))
      refine ⟨c', ok', l1.trans l', r'.trans (RsE.new ok ht), s', hH, repL_cons.mpr ⟨.ref t, _, rfl, Rep.mono l' _ _ (rep_newT ok ht (repL_cons.mpr ⟨_, _, rfl, dK_rep k, repL_one h1⟩)), hr⟩⟩
def tItTup (to : TE) : TE := fun σ H Q => to σ H fun x H1 => ∃ d kvs, x = .ref d ∧ H1 d = some (.dK kvs) ∧ ∀ as : List Addr, as.length = kvs.length → as.Nodup → (∀ t ∈ as, H1 t = none) → ∀ p, LiI.putT H1 as kvs p = none → Q (.ref p) (upd (LiI.putT H1 as kvs) p (.tup (as.map V.ref)))
def tItSort (K : PySem.W.Frag) (to : TE) : TE := fun σ H Q => to σ H fun x H1 => ∃ d kvs, x = .ref d ∧ H1 d = some (.dK kvs) ∧ ∀ as : List Addr, as.length = kvs.length → as.Nodup → (∀ t ∈ as, H1 t = none) → ∃ bs : List (V × Sm.D), bs.map (·.1) = as.map V.ref ∧ (∀ p, p ∈ bs → Dp K (LiI.putT H1 as kvs) p.1 (toP p.2)) ∧
  AllAlike (bs.map fun p => toP p.2) ∧ Sortable (bs.map fun p => toP p.2) ∧ (∀ p, p ∈ bs → (toP p.2).depth ≤ 6) ∧ ∀ p, LiI.putT H1 as kvs p = none → Q (.ref p) (upd (LiI.putT H1 as kvs) p (.lst ((bs.mergeSort (leV false)).map (·.1))))
section
variable {o : Expr} {to : TE} {p apos cpos pos : Pos}
theorem pe_itTup (hc : X.calm = true) (ho : PE X o to) (hg : Gl X "tuple") (hm : X.mg "tuple" = none) (hv : bootBuiltins "tuple" = some (.type "tuple")) (hbase : attributeBase o "items" X.env (eval o X.env) = eval o X.env := by rfl) (hline : (apos.endLine == cpos.line) = true := by rfl)
    (hs : starEach [.Call (.Attribute o "items" apos) [] [] cpos] X.env = (false, eval (.Call (.Attribute o "items" apos) [] [] cpos) X.env) :: starEach [] X.env := by rfl) :
    PE X (.Call (.Name "tuple" p) [.Call (.Attribute o "items" apos) [] [] cpos] [] pos) (tItTup to) := by
  refine ⟨fun pins s σ H Q I hq => ?_⟩
  refine wpAny_Call_Name_kw (ld_blt I hg hm hv ?_)
  refine PyProof.Rows.callWith_type1 ?_ hs rfl
  rw [hs]
  show wpAny _ _ (spliced ((false, eval (.Call (.Attribute o "items" apos) [] [] cpos) X.env) :: backTo pos (starEach [] X.env))) _ _ s
  refine Calls.spliced_cons (items_eval ho hbase hline I hq fun s1 H1 d kvs vs ep I2 hat kv hz q => Calls.spliced_nil ?_)
  have hz2 : vs.length ≤ sizeLine := by rw [← kv.length]; exact hz
  refine call_tuple_coll (T := "dict_items") ⟨_, Heap.get?_push_size _ rfl, rfl⟩ (by decide) fun R E' hR => ?_
  refine PySem.W.kdx_collect (knd := mixKind X.prog X.w) (kvs := vs) (ep := ep) (I.ok.hd hc) ⟨_, Heap.get?_push_size _ rfl, rfl, rfl⟩ hat hz2 fun h' tk as hk hl hG => hR _ _ (by rw [List.length_map, hl]; exact hz2) ?_
  obtain ⟨H', k1, k2, nd, e1, k3, J⟩ := items_laidT (tk := tk) I2 kv hk hl hG
  have fr := J.hok.fresh (Nat.le_refl h'.objs.size)
  rw [e1] at fr
  refine ⟨.ref h'.objs.size, upd H' h'.objs.size (.tup (as.map V.ref)), J.laid (t' := tk) (fun b u e => Heap.get?_push_of_some _ e) (Nat.le_refl _) ⟨by rw [List.length_map, hl]; exact hz2, as.map Value.ref, LiI.vals_refs as, _, Heap.get?_push_size _ rfl, rfl, _, rfl⟩, rfl, ?_⟩
  rw [e1]
  exact q as (by rw [hl]; exact kv.length.symm) nd k2 _ fr
theorem pe_itSort (hc : X.calm = true) (hu : X.A.units + 10 < cLine) (ho : PE X o to) (hg : Gl X "sorted") (hm : X.mg "sorted" = none) (hv : bootBuiltins "sorted" = some (.builtin "sorted")) (hbase : attributeBase o "items" X.env (eval o X.env) = eval o X.env := by rfl) (hline : (apos.endLine == cpos.line) = true := by rfl)
    (hs : starEach [.Call (.Attribute o "items" apos) [] [] cpos] X.env = (false, eval (.Call (.Attribute o "items" apos) [] [] cpos) X.env) :: starEach [] X.env := by rfl) :
    PE X (.Call (.Name "sorted" p) [.Call (.Attribute o "items" apos) [] [] cpos] [] pos) (tItSort X.K to) := by
  refine ⟨fun pins s σ H Q I hq => ?_⟩
  refine wpAny_Call_Name_kw (ld_blt I hg hm hv ?_)
  refine PyProof.Rows.callWith_builtin1 ?_ hs rfl
  rw [hs]
  show wpAny _ _ (spliced ((false, eval (.Call (.Attribute o "items" apos) [] [] cpos) X.env) :: backTo pos (starEach [] X.env))) _ _ s
  refine Calls.spliced_cons (items_eval ho hbase hline I hq fun s1 H1 d kvs vs ep I2 hat kv hz q => Calls.spliced_nil ?_)
  have hz2 : vs.length ≤ sizeLine := by rw [← kv.length]; exact hz
  refine sorted_coll (b := false) (.inl ⟨rfl, rfl⟩) (PySem.W.kdx_collect (knd := mixKind X.prog X.w) (kvs := vs) (ep := ep) (I.ok.hd hc) ⟨_, Heap.get?_push_size _ rfl, rfl, rfl⟩ hat hz2 fun h' tk as hk hl hG => ?_)
  obtain ⟨H', k1, k2, nd, e1, k3, J⟩ := items_laidT (tk := tk) I2 kv hk hl hG
  subst e1
  obtain ⟨bs, e2, f1, f2, f3, f4, f5⟩ := q as (by rw [hl]; exact kv.length.symm) nd k2
  exact sort_go (b := false) (bs := bs) (tk := tk) hu J (by rw [e2]; exact LiI.vals_refs as) (by rw [List.length_map, hl]; exact hz2) f1 f2 f3 f4 f5 fun b o e => e
end
theorem es_itTup {o : Expr} {mo : ME} {p apos cpos pos : Pos} (xo : XO g X E) (hm : X.mg "tuple" = none) (hg : Gl X "tuple" := by rfl) (hbase : attributeBase o "items" X.env (eval o X.env) = eval o X.env := by rfl) (hline : (apos.endLine == cpos.line) = true := by rfl)
    (hs : starEach [.Call (.Attribute o "items" apos) [] [] cpos] X.env = (false, eval (.Call (.Attribute o "items" apos) [] [] cpos) X.env) :: starEach [] X.env := by rfl) : ES g X E o mo → ES g X E (.Call (.Name "tuple" p) [.Call (.Attribute o "items" apos) [] [] cpos] [] pos) (eItTup mo) :=
  fun ⟨to, po, so⟩ => ⟨_, pe_itTup xo.calm po hg hm bt_tuple hbase hline hs, fun c σ e Q ok er hp => by
    show to σ c.H _
    refine bindE (R := WE g c Q) so ok er hp fun c1 x v ok1 l1 r1 rx hp1 => ?_
    split at hp1
    · rename_i kvs hk
      obtain ⟨a, us, rfl, h1, h2⟩ := dctM_of ok1 rx hk
      refine ⟨a, us, rfl, h1, fun as hl nd hn pp hpp => ?_⟩
      obtain ⟨c2, ok2, l2, r2, s2, hH, hr⟩ := lay_items ok1 (rk_of.mp h2) hl nd hn
      rw [← hH]
      rw [← hH] at hpp
      have hq := WE.later (l1.trans l2) (r2.trans r1) (hp1 : WE g c Q (.tup (itemsD kvs)) c1.S)
      rw [← s2] at hq
      exact we_newT ok2 hr hq pp hpp
    · exact hp1.elim⟩
theorem es_itSort {o : Expr} {mo : ME} {p apos cpos pos : Pos} (xo : XO g X E) (hm : X.mg "sorted" = none) (hg : Gl X "sorted" := by rfl) (hbase : attributeBase o "items" X.env (eval o X.env) = eval o X.env := by rfl) (hline : (apos.endLine == cpos.line) = true := by rfl)
    (hs : starEach [.Call (.Attribute o "items" apos) [] [] cpos] X.env = (false, eval (.Call (.Attribute o "items" apos) [] [] cpos) X.env) :: starEach [] X.env := by rfl) : ES g X E o mo → ES g X E (.Call (.Name "sorted" p) [.Call (.Attribute o "items" apos) [] [] cpos] [] pos) (eItSort mo) :=
  fun ⟨to, po, so⟩ => ⟨_, pe_itSort xo.calm (by have := xo.units; omega) po hg hm bt_sorted hbase hline hs, fun c σ e Q ok er hp => by
    show to σ c.H _
    refine bindE (R := WE g c Q) so ok er hp fun c1 x v ok1 l1 r1 rx hp1 => ?_
    split at hp1
    · rename_i kvs hk
      split at hp1
      · rename_i ho
        obtain ⟨a, us, rfl, h1, h2⟩ := dctM_of ok1 rx hk
        refine ⟨a, us, rfl, h1, fun as hl nd hn => ?_⟩
        obtain ⟨c2, ok2, l2, r2, s2, hH, hr⟩ := lay_items ok1 (rk_of.mp h2) hl nd hn
        obtain ⟨f1, f2, f3, f4⟩ := sort_facts ho
        obtain ⟨l, e1, e2, e3⟩ := repL_unzip hr
        have em : (l.map fun p => toP p.2) = (itemsD kvs).map toP := by
          show _ = (kvs.map fun p => Sm.D.tup [dK p.1, p.2]).map toP
          rw [← e1, List.map_map]; rfl
        have mem : ∀ z ∈ l, z.2 ∈ itemsD kvs := fun z hz => by
          show z.2 ∈ kvs.map fun p => Sm.D.tup [dK p.1, p.2]
          rw [← e1]; exact List.mem_map.mpr ⟨z, hz, rfl⟩
        rw [← hH]
        refine ⟨l, e2, fun z hz => dp_of 5 z.2 z.1 (f3 z.2 (mem z hz)) (e3 z hz), by rw [em]; exact f1, by rw [em]; exact f2, fun z hz => ?_, fun pp hpp => ?_⟩
        · have := (shp_of 5 z.2 (f3 z.2 (mem z hz))).2
          omega
        · have hq := WE.later (l1.trans l2) (r2.trans r1) (hp1 : WE g c Q (.lst (sortB (leR false) (itemsD kvs))) c1.S)
          rw [← s2] at hq
          rw [merge_sortG (leV_total false)]
          refine we_newL ok2 ?_ hq pp hpp
          have := repL_zip (c := c2) (l := sortG (leV false) l) fun z hz => e3 z (sortG_mem hz)
          rw [sortG_snd, e1] at this
          exact this
      · exact hp1.elim
    · exact hp1.elim⟩
end Sm
end

section
set_option Elab.async false
set_option linter.all false
set_option autoImplicit false
set_option maxRecDepth 100000
set_option maxHeartbeats 4000000
namespace Sm
open PySem PySem.Spec PyProof.Rows L2 PySem.W
/-! ### sorted, min with key=lambda -/
mutual
theorem reads_noL {h : Heap} : ∀ {d : Sm.D} {v : Value} {as : List Addr}, noLst d = true → Reads h v (toP d) as → as = []
  | .non, _, _, _, r => by cases r; rfl
  | .bl _, _, _, _, r => by cases r; rfl
  | .int _, _, _, _, r => by cases r; rfl
  | .str _, _, _, _, r => by cases r; rfl
  | .tup xs, _, _, n, r => by
    cases r with
    | tuple h1 h2 h3 h4 => exact readsL_noL (by simpa [noLst] using n) h4
  | .lst _, _, _, n, _ => by simp [noLst] at n
  | .dct _, _, _, n, _ => by simp [noLst] at n
  | .dctT _, _, _, n, _ => by simp [noLst] at n
  | .obj _, _, _, n, _ => by simp [noLst] at n
theorem readsL_noL {h : Heap} : ∀ {ds : List Sm.D} {vs : List Value} {as : List Addr}, noLstL ds = true → ReadsAll h vs (toPL ds) as → as = []
  | [], _, _, _, r => by cases r; rfl
  | d :: ds, _, _, n, r => by
    simp only [noLstL, Bool.and_eq_true] at n
    cases r with
    | cons h1 h2 => rw [reads_noL n.1 h1, readsL_noL n.2 h2]; rfl
end
section
variable {g : Gx} {X : Cx} {scope : Scope} {own : List (Str × Nat)}
/-- items, one after the other -/
def QAs (g : Gx) (X : Cx) (scope : Scope) (own : List (Str × Nat)) (es : List Expr) (m : MA) : Prop :=
  ∀ (c : Ct) (pins : List (Addr × Obj)) (σ : L2.St) (s₁ s₂ : Shared) (e : Sm.Env) (cenv : PySem.Env) (A' : Around) (E' : Value → Shared → Prop) (m₂ : Str → Option Value) (ds : List Sm.D) (S' : Store), Inv X pins σ c.H s₁ → Ok g c → Qp X c own scope e cenv s₁ s₂ m₂ → A'.handled = none →
    m e c.S = .ok ds S' → S' = c.S ∧ ∀ pos, wpAny (model X.prog X.w) A' (spliced (backTo pos (starEach es cenv))) (fun us s₃ => (∃ vs, RepL c ds vs ∧ Vals vs us) ∧ Keeps s₂ s₃) E' s₂
theorem qas_nil : QAs g X scope own [] aNil := fun c pins σ s₁ s₂ e cenv A' E' m₂ ds S' I ok q hA he => by
  cases he
  exact ⟨rfl, fun pos => Calls.spliced_nil ⟨⟨[], repL_nil.mpr rfl, .nil⟩, keepsR _⟩⟩
theorem qas_cons {a : Expr} {es : List Expr} {m : ME} {ma : MA} (hs : ∀ env, starEach (a :: es) env = (false, eval a env) :: starEach es env) (qa : QE g X scope own a m) (qr : QAs g X scope own es ma) : QAs g X scope own (a :: es) (aCons m ma) := fun c pins σ s₁ s₂ e cenv A' E' m₂ ds S' I ok q hA he => by
  unfold aCons at he
  cases h1 : m e c.S with
  | bad => rw [h1] at he; cases he
  | exc k S => rw [h1] at he; cases he
  | ok x S1 =>
    rw [h1] at he
    obtain ⟨rfl, w1⟩ := qa c pins σ s₁ s₂ e cenv A' E' m₂ x S1 I ok q hA h1
    have he' : ((ma e c.S).bind fun xs S2 => .ok (x :: xs) S2) = .ok ds S' := he
    cases h2 : ma e c.S with
    | bad => rw [h2] at he'; cases he'
    | exc k S => rw [h2] at he'; cases he'
    | ok xs S2 =>
      rw [h2] at he'
      cases he'
      have e2 := (qr c pins σ s₁ s₂ e cenv A' E' m₂ xs S' I ok q hA h2).1
      subst e2
      refine ⟨rfl, fun pos => ?_⟩
      rw [hs cenv]
      show wpAny _ _ (spliced ((false, eval a cenv) :: backTo pos (starEach es cenv))) _ _ s₂
      refine Calls.spliced_cons (wpAny_mono w1 (fun u s₃ ⟨⟨v, rv, ru⟩, k3⟩ => ?_) fun _ _ x => x)
      exact wpAny_mono ((qr c pins σ s₁ s₃ e cenv A' E' m₂ xs c.S I ok (q.keeps k3) hA h2).2 pos) (fun us s₄ ⟨⟨vs, rl, rvs⟩, k4⟩ => ⟨⟨v :: vs, repL_cons.mpr ⟨v, vs, rfl, rv, rl⟩, .cons ru rvs⟩, keeps_trans k3 k4⟩) fun _ _ x => x
/-- a key: data without lists -/
def QKey (g : Gx) (X : Cx) (scope : Scope) (own : List (Str × Nat)) (body : Expr) (m : ME) : Prop :=
  ∀ (c : Ct) (pins : List (Addr × Obj)) (σ : L2.St) (s₁ s₂ : Shared) (e : Sm.Env) (cenv : PySem.Env) (A' : Around) (E' : Value → Shared → Prop) (m₂ : Str → Option Value) (d : Sm.D) (S' : Store), Inv X pins σ c.H s₁ → Ok g c → (∀ b o, s₁.heap.get? b = some o → s₂.heap.get? b = some o) → Qp X c own scope e cenv s₁ s₂ m₂ → A'.handled = none →
    m e c.S = .ok d S' → dataN 5 d = true → noLst d = true → wpAny (model X.prog X.w) A' (eval body cenv) (fun y s₃ => Keeps s₂ s₃ ∧ ∀ L : List Addr, (∀ b ∈ L, s₁.heap.objs.size ≤ b ∧ ∃ o, s₂.heap.get? b = some o) → Reads (hideAll s₃.heap L) y (toP d) []) E' s₂
theorem inv_keeps {pins : List (Addr × Obj)} {σ : L2.St} {H : Hp} {s s' : Shared} (I : Inv X pins σ H s) (k : Keeps s s') : Inv X pins σ H s' := by
  obtain ⟨h', tk, rfl, hk⟩ := k
  exact I.kept (t' := tk) hk
theorem qk_tup {es : List Expr} {ma : MA} {kk pos} (qa : QAs g X scope own es ma) : QKey g X scope own (.Tuple es kk pos) (eTup ma) := fun c pins σ s₁ s₂ e cenv A' E' m₂ d S' I ok h12 q hA he hd hn => by
  unfold eTup at he
  cases h1 : ma e c.S with
  | bad => rw [h1] at he; cases he
  | exc k S => rw [h1] at he; cases he
  | ok ds S1 =>
    rw [h1] at he
    obtain ⟨rfl, w1⟩ := qa c pins σ s₁ s₂ e cenv A' E' m₂ ds S1 I ok q hA h1
    have he' : (if ds.length ≤ 1000 then .ok (.tup ds) c.S else .bad : Out Sm.D) = .ok d S' := he
    split at he'
    · rename_i hl
      cases he'
      refine wpAny_Tuple_spliced (wpAny_mono (w1 pos) (fun us s₃ ⟨⟨vs, rl, rv⟩, k3⟩ => ?_) fun _ _ x => x)
      have hlen : us.length = ds.length := by rw [← rv.length, repL_len rl]
      refine ⟨Nat.le_trans (by rw [hlen]; exact hl) (by rw [sizeLine_eq]; decide), ?_⟩
      have hkeep : ∀ b o, s₃.heap.get? b = some o → (s₃.heap.push { cls := .type "tuple", data := .seq us.toArray } : Heap).get? b = some o := fun b o e => Heap.get?_push_of_some _ e
      refine ⟨keeps_trans k3 ⟨_, s₃.toks, rfl, hkeep⟩, fun L hL => ?_⟩
      obtain ⟨as, r⟩ := Dp.readsAll I _ _ _ (dpL_of (K := X.K) 4 ds vs (by simpa [dataN] using hd) rl) rv
      have e0 := readsL_noL (by simpa [noLst] using hn) r
      subst e0
      have hid : ∀ b o, s₁.heap.get? b = some o → (hideAll (s₃.heap.push { cls := .type "tuple", data := .seq us.toArray } : Heap) L).get? b = some o := fun b o e => by
        refine hideAll_get L ?_ fun hb => Nat.lt_irrefl _ (Nat.lt_of_lt_of_le (Heap.lt_size e) (hL b hb).1)
        obtain ⟨h3, t3, e3, kk3⟩ := k3
        rw [e3]
        exact Heap.get?_push_of_some _ (kk3 _ _ (h12 b o e))
      refine Reads.tuple (xs := toPL ds) (hideAll_get L (Heap.get?_push_size _ rfl) fun hb => ?_) rfl rfl (PyProof.Rows.ReadsAll.keeps hid (by simpa using r))
      obtain ⟨_, o, ho⟩ := hL _ hb
      obtain ⟨h3, t3, e3, kk3⟩ := k3
      have h4 : s₃.heap.get? s₃.heap.objs.size = some o := by
        have := kk3 _ o ho
        rw [e3] at this ⊢
        exact this
      exact Nat.lt_irrefl _ (Heap.lt_size h4)
    · cases he'
/-! ### the lambda with one parameter -/
structure Lam1S (N : List Str) (sc scope : Scope) (x : Str) (i : Nat) : Prop where
  kind : scope.kind = .function
  co : scope.isCoroutine = false
  gen : scope.isGenerator = false
  nocell : ∀ y ∈ scope.names, y.2 ≠ .cell
  loc : scope.names.lookup x = some .local
  at_ : N[i]? = some x
  free : ∀ y ∈ scope.names, y.2 = .free → sc.names.lookup y.1 = some .cell ∨ sc.names.lookup y.1 = some .free
def lam1B (N : List Str) (sc scope : Scope) (x : Str) (i : Nat) : Bool :=
  decide (scope.kind = .function) && (!scope.isCoroutine && (!scope.isGenerator && ((scope.names.all fun y => !decide (y.2 = .cell)) && (decide (scope.names.lookup x = some .local) && (decide (N[i]? = some x) &&
    (scope.names.all fun y => !decide (y.2 = .free) || decide (sc.names.lookup y.1 = some .cell) || decide (sc.names.lookup y.1 = some .free)))))))
theorem lam1S_by {N : List Str} {sc scope : Scope} {x : Str} {i : Nat} (h : lam1B N sc scope x i = true) : Lam1S N sc scope x i := by
  unfold lam1B at h
  simp only [Bool.and_eq_true, Bool.or_eq_true, Bool.not_eq_true', decide_eq_true_eq, decide_eq_false_iff_not, List.all_eq_true] at h
  obtain ⟨h1, h2, h3, h4, h5, h6, h7⟩ := h
  refine ⟨h1, h2, h3, h4, h5, h6, fun y hy e => ?_⟩
  rcases h7 y hy with (z | z) | z
  · exact absurd e z
  · exact .inl z
  · exact .inr z
def KeyP (k : PyData) (s₁ s : Shared) (v : Value) (s' : Shared) : Prop := ∃ h' tk, s' = { s with heap := h', toks := tk } ∧ (∀ b o, s.heap.get? b = some o → h'.get? b = some o) ∧ ∀ L : List Addr, (∀ b ∈ L, s₁.heap.objs.size ≤ b ∧ ∃ o, s.heap.get? b = some o) → Reads (hideAll h' L) v k []
theorem KeyP.pure {k : PyData} {s₁ s s' : Shared} {v : Value} (h : KeyP k s₁ s v s') : KeyPure k s v s' := by
  obtain ⟨h', tk, e, kp, r⟩ := h
  exact ⟨h', tk, e, kp, r [] fun b hb => nomatch hb⟩
/-- the lambda's call on an item -/
theorem key_call {c : Ct} {pins : List (Addr × Obj)} {σ : L2.St} {s₁ s : Shared} {e : Sm.Env} {params : Arguments} {body : Expr} {x : Str} {i : Nat} {f c' : Addr} {pm ctv : Value} {m : ME} {d kd : Sm.D} {u : Value} {S' : Store} {A : Around} {E' : Value → Shared → Prop}
    (I : Inv X pins σ c.H s₁) (ok : Ok g c) (k1 : Keeps s₁ s) (er : EnvR c e σ) (L : Lam1S X.N X.env.scope scope x i) (hq : QKey g X scope [(x, i)] body m)
    (hf : s.heap.get? f = some (PySem.W.kla_obj "<lambda>" (X.env.qual ++ "<lambda>") params body scope (cloFrom X.env.cells scope.names []) pm c' ctv)) (hc : c.H c' = some (LamX.CodeO c' (X.env.qual ++ "<lambda>")))
    (hbind : bindArgs (PySem.W.kla_fn "<lambda>" (X.env.qual ++ "<lambda>") params body scope (cloFrom X.env.cells scope.names []) pm (.ref c') ctv) ⟨[u], []⟩ = pure [(x, u)])
    (hd : A.depth < recursionLimit) (hh : A.handled = none) (ru : RepU c d u) (hm : m (e.set i (some d)) c.S = .ok kd S') (hk : dataN 5 kd = true) (hn : noLst kd = true) :
    wpAny (model X.prog X.w) A (call (.ref f) [u]) (KeyP (toP kd) s₁ s) E' s := by
  have I0 := inv_keeps I k1
  obtain ⟨⟨oc, vs, t, hoc, hdc, hvc⟩, _, _⟩ := I0.hok c' _ hc
  have hfree : ∀ y ∈ scope.names, y.2 = .free → ∃ c, X.env.cells.lookup y.1 = some c := fun y hy e => (L.free y hy e).elim (fun k => I.ok.has _ (.inl k)) fun k => I.ok.has _ (.inr k)
  have hil : i < e.length := by
    rw [er.1, I.len]
    exact (List.getElem?_eq_some_iff.mp L.at_).1
  have rc : codeAny (model X.prog X.w) A (.call (.ref f) ⟨[u], []⟩) (fun r s' => match r with
      | .ok (.ret v) => KeyP (toP kd) s₁ s v s'
      | .ok _ => False
      | .error e => E' e s') s := by
    refine PySem.W.kla_callFunE hd hf rfl L.co L.gen rfl ⟨c', oc, vs, t, rfl, hoc, hdc, hvc⟩ ?_
    rw [hbind]
    refine wpAny_pure (wpAny_newFunctionEnv L.nocell (fun y hy => by
      rcases List.mem_cons.mp hy with z | z
      · rw [z]; exact L.loc
      · cases z) (fun h₁ hns hsb => ⟨I0.nolimit.fresh _ hsb, ?_⟩) L.kind)
    show codeAny _ _ (.expr body (LamX.lamEnv X scope s.heap.objs.size f c')) _ _
    have kp : ∀ b o, s.heap.get? b = some o → h₁.get? b = some o := fun b o e => hsb.extBut b o (Nat.ne_of_lt (Heap.lt_size e)) (Heap.get?_push_of_some _ e)
    have K1 : Keeps s ({ s with heap := h₁, toks := s.toks + [(x, u)].length } : Shared) := ⟨h₁, _, rfl, kp⟩
    have I1 := inv_keeps I0 K1
    have k13 : ∀ b o, s₁.heap.get? b = some o → h₁.get? b = some o := fun b o e => by
      obtain ⟨h2, t2, e2, k2⟩ := k1
      exact kp b o (by rw [e2]; exact k2 b o e)
    have q : Qp X c [(x, i)] scope (e.set i (some d)) (LamX.lamEnv X scope s.heap.objs.size f c') s₁ ({ s with heap := h₁, toks := s.toks + [(x, u)].length } : Shared) (fun y => [(x, u)].reverse.lookup y) := by
      refine ⟨rfl, L.kind, hns, fun p hp => ?_, fun y j d' hN hfr he' => ?_, fun a o ho h1 _ _ => k13 a o h1, rfl, rfl, I1.bk⟩
      · rcases List.mem_cons.mp hp with z | z
        · subst z
          exact ⟨d, u, List.getElem?_set_self hil, by simp, ru⟩
        · cases z
      · have hy : (y, NameKind.free) ∈ scope.names := PySem.mem_of_lookup hfr
        have hji : i ≠ j := fun z => by
          subst z
          have h1 := L.at_
          rw [hN] at h1
          cases h1
          rw [L.loc] at hfr
          cases hfr
        rw [List.getElem?_set_ne hji] at he'
        obtain ⟨v, hv1, hv2⟩ := er.2 j d' he'
        obtain ⟨mm, hn', hl⟩ := I1.loc
        have vis : Vis X.env.scope y := (L.free _ hy rfl).elim (fun k => .inr (.inl k)) (fun k => .inr (.inr k))
        obtain ⟨w, rw', hlook⟩ := hl j y v hN hv1 vis
        rcases hlook with ⟨k, _⟩ | ⟨_, cl, hcl, hcell⟩
        · have k' : X.env.scope.names.lookup y = some .local := k
          rcases L.free _ hy rfl with z | z
          · rw [show X.env.scope.names.lookup y = _ from z] at k'; cases k'
          · rw [show X.env.scope.names.lookup y = _ from z] at k'; cases k'
        · obtain ⟨c2, h2⟩ : ∃ c2, (cloFrom X.env.cells scope.names []).lookup y = some c2 := mem_lookup (cloFrom_has (cells := X.env.cells) (acc := []) hy)
          have e2 : c2 = cl := by
            rcases cloFrom_mem (PySem.mem_of_lookup h2) with hm | ⟨_, h3⟩
            · cases hm
            · rw [h3, hcl] <;> rfl
          exact ⟨cl, w, by rw [← e2]; exact h2, hcell, v, hv2, rw'⟩
    refine PySem.W.kla_codeExpr (wpAny_mono (hq c pins σ s₁ _ _ _ _ (fun _ _ => False) _ kd S' I ok k13 q hh hm hk hn) (fun v s' ⟨k2, r2⟩ => ?_) fun e s' hq => ?_)
    · obtain ⟨h2, t2, e2, k2'⟩ := keeps_trans K1 k2
      subst e2
      exact ⟨h2, t2, rfl, k2', fun L hL => r2 L fun b hb => ⟨(hL b hb).1, by obtain ⟨_, o, ho⟩ := hL b hb; exact ⟨o, kp b o ho⟩⟩⟩
    · exact False.elim hq
  refine wpAny_call (codeAny_mono rc fun r s' hq => ?_)
  cases r with
  | error e => exact hq
  | ok fl =>
    cases fl with
    | ret v => exact hq
    | next => exact hq
    | brk => exact hq
    | cont => exact hq
/-! ### what is walked, collected -/
theorem rep_dk {c : Ct} (k : K1) : Rep c (dK k) (kV (kK k)) := by
  cases k with
  | i n => exact rep_int.mpr rfl
  | s t => exact rep_str.mpr rfl
theorem walk_lst {S : Store} {x : Sm.D} {ds : List Sm.D} (h : walkD S x = some ds) : view S x = .lst ds ∨ view S x = .tup ds ∨ ∃ kvs, view S x = .dct kvs ∧ ds = kvs.map fun p => dK p.1 := by
  unfold walkD at h
  split at h
  · cases h; exact .inl (by assumption)
  · cases h; exact .inr (.inl (by assumption))
  · cases h; exact .inr (.inr ⟨_, by assumption, rfl⟩)
  · cases h
theorem coll_walk {c : Ct} {pins : List (Addr × Obj)} {σ : L2.St} {s : Shared} {x : Sm.D} {u : Value} {ds : List Sm.D} {A : Around} {E : Value → Shared → Prop} {Q : List Value → Shared → Prop} (hh : A.handled = none) (I : Inv X pins σ c.H s) (ok : Ok g c) (ru : RepU c x u) (e : walkD c.S x = some ds)
    (h : ∀ its s', Keeps s s' → its.length ≤ sizeLine → (∃ vs, RepL c ds vs ∧ Vals vs its) → Q its s') : wpAny (model X.prog X.w) A (collect u) Q E s := by
  rcases walk_lst e with ex | ex | ⟨kvs, ex, rfl⟩
  · obtain ⟨p, its, vs, rfl, rv, rl, pl, hsz⟩ := seeL I ok (fun _ _ _ h _ _ => h) ru ex
    obtain ⟨o, ho, hc, n, hdt⟩ := pl.isList
    exact wpAny_collect_seq p (.inl rfl) ho hc hdt (fun h1 hk1 => h _ _ ⟨h1, s.toks, rfl, hk1⟩ (by simpa using hsz) ⟨vs, rl, by simpa using rv⟩) (by rw [List.size_toArray]; exact hsz)
  · obtain ⟨p, its, vs, rfl, rv, rl, pl, hsz⟩ := seeT I ok (fun _ _ _ h _ _ => h) ru ex
    obtain ⟨o, ho, hc, n, hdt⟩ := pl
    exact wpAny_collect_seq p (.inr rfl) ho hc hdt (fun h1 hk1 => h _ _ ⟨h1, s.toks, rfl, hk1⟩ (by simpa using hsz) ⟨vs, rl, by simpa using rv⟩) (by rw [List.size_toArray]; exact hsz)
  · obtain ⟨v, h1, h2⟩ := ru
    obtain ⟨a, us, rfl, hd, hk⟩ := see_dct ok h1 ex
    obtain rfl : u = Value.ref a := h2
    obtain ⟨z, lo, ws, rel, dd⟩ := dk_rd I.hok hd
    obtain ⟨ep, hat⟩ := dd.dictAt
    have hks : us.map (·.1) = (kvs.map (·.1)).map kK := rk_keys (rk_of.mp hk)
    have hkeys : ws.map (·.1) = (kvs.map (·.1)).map kK := rel.keys.symm.trans hks
    have hl : ws.length = kvs.length := by
      have e := congrArg List.length hkeys
      simpa using e
    have hz : ws.length ≤ sizeLine := by rw [← rel.length]; exact z
    refine PySem.W.kdu_collect (A := A) (PySem.W.kdl_dict (knd := mixKind X.prog X.w) (kvs := ws) (ep := ep) lo) hh hat hz fun h' tk acc hk' hacc => ?_
    have rv : Vals (kvs.map fun p => kV (kK p.1)) acc.toList := vals_at (by rw [Array.length_toList, hacc.1, hl]; simp) fun j v e => by
      obtain ⟨k, x, e1, e2⟩ := hacc.2 j v (by rw [← Array.getElem?_toList]; exact e)
      have e3 : (ws.map (·.1))[j]? = some k := by rw [List.getElem?_map, e1]; rfl
      rw [hkeys, List.map_map, List.getElem?_map] at e3
      cases e4 : kvs[j]? with
      | none => rw [e4] at e3; cases e3
      | some y =>
        rw [e4] at e3
        have e5 : kK y.1 = k := Option.some.inj e3
        subst e5
        refine ⟨kV (kK y.1), ?_, relV_key (show keyIs (kK y.1) v = true from e2)⟩
        rw [List.getElem?_map, e4]
        rfl
    refine h _ _ ⟨h', tk, rfl, hk'⟩ (by rw [Array.length_toList, hacc.1]; exact hz) ⟨_, ?_, rv⟩
    have all : ∀ l : List (K1 × Sm.D), RepL c (l.map fun p => dK p.1) (l.map fun p => kV (kK p.1)) := fun l => by
      induction l with
      | nil => exact repL_nil.mpr rfl
      | cons y r ih => exact repL_cons.mpr ⟨_, _, rfl, rep_dk y.1, ih⟩
    exact all kvs
/-- items, with their keys -/
theorem keys_zip {c : Ct} {i : Nat} {m : ME} {e : Sm.Env} : ∀ {ds : List Sm.D} {vs : List V} {ps : List (Sm.D × Sm.D)}, RepL c ds vs → keysG i m e c.S ds = some ps →
    ∃ bs : List (V × (Sm.D × Sm.D)), bs.map (·.1) = vs ∧ bs.map (·.2) = ps ∧ ∀ b ∈ bs, Rep c b.2.2 b.1 ∧ ∃ S', m (e.set i (some b.2.2)) c.S = .ok b.2.1 S'
  | [], vs, ps, h, hk => by
    cases hk
    exact ⟨[], (repL_nil.mp h).symm, rfl, fun b hb => nomatch hb⟩
  | d :: ds, vs, ps, h, hk => by
    obtain ⟨v, r, rfl, h1, h2⟩ := repL_cons.mp h
    unfold keysG at hk
    split at hk
    · rename_i k S' hm
      obtain ⟨ps', h3, rfl⟩ := Option.map_eq_some_iff.mp hk
      obtain ⟨bs, e1, e2, e3⟩ := keys_zip h2 h3
      refine ⟨(v, k, d) :: bs, by rw [List.map_cons, e1], by rw [List.map_cons, e2], fun b hb => ?_⟩
      rcases List.mem_cons.mp hb with z | z
      · rw [z]; exact ⟨h1, S', hm⟩
      · exact e3 b z
    · cases hk
def leKV : V × (Sm.D × Sm.D) → V × (Sm.D × Sm.D) → Bool := dataLe false fun b => toP b.2.1
theorem leKV_total : TotalLe leKV := by unfold leKV dataLe; exact sortLe_total _ _ _
theorem leKV_eq (a b : V × (Sm.D × Sm.D)) : leKV a b = leR false a.2.1 b.2.1 := by
  show cond false (!dataLt (toP a.2.1) (toP b.2.1)) (!dataLt (toP b.2.1) (toP a.2.1)) = _
  rw [ltD_eq, ltD_eq]
  rfl
theorem insG_k {x : V × (Sm.D × Sm.D)} : ∀ l : List (V × (Sm.D × Sm.D)), (insG leKV x l).map (·.2) = insK x.2 (l.map (·.2))
  | [] => rfl
  | y :: r => by
    show (if leKV x y = true then x :: y :: r else y :: insG leKV x r).map (·.2) = (if leR false x.2.1 y.2.1 = true then x.2 :: y.2 :: r.map (·.2) else y.2 :: insK x.2 (r.map (·.2)))
    rw [leKV_eq]
    split
    · rfl
    · rw [List.map_cons, insG_k r]
theorem sortG_k : ∀ l : List (V × (Sm.D × Sm.D)), (sortG leKV l).map (·.2) = sortK (l.map (·.2))
  | [] => rfl
  | x :: r => by
    show (insG leKV x (sortG leKV r)).map (·.2) = insK x.2 (sortK (r.map (·.2)))
    rw [insG_k, sortG_k r]
theorem repL_zip2 {c : Ct} : ∀ {l : List (V × (Sm.D × Sm.D))}, (∀ p ∈ l, Rep c p.2.2 p.1) → RepL c (l.map fun p => p.2.2) (l.map (·.1))
  | [], _ => repL_nil.mpr rfl
  | p :: l, h => repL_cons.mpr ⟨p.1, _, rfl, h p List.mem_cons_self, repL_zip2 fun q hq => h q (List.mem_cons_of_mem _ hq)⟩
theorem vals_each2 {α : Type} {p : α → V} : ∀ {l : List α} {us : List Value}, Vals (l.map p) us → EachIs (fun u (b : α) => RelV (p b) u) us l
  | [], us, h => by rw [List.map_nil] at h; cases h; exact .nil
  | x :: l, us, h => by
    rw [List.map_cons] at h
    cases h with
    | cons h1 t => exact .cons h1 (vals_each2 t)
theorem each_vals2 {α : Type} {p : α → V} : ∀ {l : List α} {us : List Value}, EachIs (fun u (b : α) => RelV (p b) u) us l → Vals (l.map p) us
  | [], us, h => by cases h; exact .nil
  | x :: l, us, h => by
    cases h with
    | cons h1 t => exact .cons h1 (each_vals2 t)
theorem okKeys_facts {ps : List (Sm.D × Sm.D)} (h : okKeys ps = true) : okSort (ps.map fun p => p.1) = true ∧ ∀ p ∈ ps, noLst p.1 = true := by
  unfold okKeys at h
  simp only [Bool.and_eq_true, List.all_eq_true] at h
  exact h
theorem keyed_some {i : Nat} {m : ME} {e : Sm.Env} {S : Store} {x : Sm.D} {ps : List (Sm.D × Sm.D)} (h : keyed i m e S x = some ps) : ∃ ds, walkD S x = some ds ∧ keysG i m e S ds = some ps ∧ okKeys ps = true := by
  unfold keyed at h
  obtain ⟨ds, h1, h2⟩ := Option.bind_eq_some_iff.mp h
  obtain ⟨ps', h3, h4⟩ := Option.bind_eq_some_iff.mp h2
  split at h4
  · cases h4
    exact ⟨ds, h1, h3, by assumption⟩
  · cases h4
end
end Sm
end

section
set_option Elab.async false
set_option linter.all false
set_option autoImplicit false
set_option maxRecDepth 100000
set_option maxHeartbeats 4000000
namespace Sm
open PySem PySem.Spec PyProof.Rows L2 PySem.W
theorem sorted_collK {prog : Program} {w : World} {A : Around} {E : Value → Shared → Prop} {s : Shared} {v : Value} {q : Addr} {Q : Value → Shared → Prop}
    (hcol : wpAny (model prog w) A.in1 (collect v) (fun vs s1 => ∃ bs : List (V × (Sm.D × Sm.D)), vs.length ≤ sizeLine ∧ EachIs (fun u (p : V × (Sm.D × Sm.D)) => RelV p.1 u ∧ p ∈ bs) vs bs ∧ AllAlike (bs.map fun p => toP p.2.1) ∧ Sortable (bs.map fun p => toP p.2.1) ∧
      (∀ p, p ∈ bs → A.units + 2 + (toP p.2.1).depth < cLine) ∧ (∀ (u : Value) (p : V × (Sm.D × Sm.D)), RelV p.1 u → p ∈ bs → ∀ (h : Heap) (tk : Nat), (∀ b o, s1.heap.get? b = some o → h.get? b = some o) → wpAny (model prog w) A.in1.in1 (call (.ref q) [u]) (KeyPure (toP p.2.1) { s1 with heap := h, toks := tk }) (fun _ _ => False) { s1 with heap := h, toks := tk }) ∧
      ∀ (out : List Value) (h' : Heap) (tk : Nat) (D : Addr) (n : Nat), (∀ b o, s1.heap.get? b = some o → h'.get? b = some o) → s1.heap.objs.size ≤ D → h'.get? D = some (seqObj "list" out.toArray n) → out.length = vs.length → EachIs (fun u (p : V × (Sm.D × Sm.D)) => RelV p.1 u ∧ p ∈ bs) out (bs.mergeSort leKV) →
        Q (.ref D) { s1 with heap := h', toks := tk }) E s) :
    wpAny (model prog w) A (call (.builtin "sorted") [v] [(Str.ofString "key", .ref q)]) Q E s := by
  refine call_function_entry_kw kind_sorted plain_sorted entry_sorted (ksk_s1 _ _) ?_
  unfold Builtin.«sorted»
  refine wpAny_bind (m := checkCount "sorted" 1 1 _) (wpAny_pure ?_)
  refine wpAny_bind (wpAny_mono hcol (fun vs s1 hq => ?_) fun _ _ e => e)
  obtain ⟨bs, hL, e1, hal, hk, hu, turn, hQ⟩ := hq
  refine wpAny_bind (wpAny_newList ?_ hL)
  have ho : (s1.heap.push (seqObj "list" vs.toArray 0)).get? s1.heap.objs.size = some (seqObj "list" vs.toArray 0) := Heap.get?_push_size _ rfl
  have up : ∀ {g : Heap}, KeepsBut s1.heap.objs.size (s1.heap.push (seqObj "list" vs.toArray 0)) g → ∀ b o, s1.heap.get? b = some o → g.get? b = some o := fun {g} kp b o q =>
    kp b o (Nat.ne_of_lt (Heap.lt_size q)) (Heap.get?_push_of_some _ q)
  refine wpAny_bind (wpAny_holding (wpAny_call_entry_kw slot_list_sort ⟨_, ho, rfl⟩ entry_list_sort ?body (ksk_l1 _ _)))
  case body =>
    rw [ksk_t1]
    refine keyH_tree (kz := bs.map fun p => toP p.2.1) (s := { s1 with heap := s1.heap.push (seqObj "list" vs.toArray 0) }) ho (by rw [List.length_map]; exact e1.length.symm) hL hal hk (bound_map (A := A.in1.in1) hu)
      (keyH_turns (s := { s1 with heap := s1.heap.push (seqObj "list" vs.toArray 0) }) e1 fun u p hR hp h tk kp => turn u p hR.1 hp h tk (up kp)) fun h' tk out c kp hD ko => ⟨.none, rfl, wpAny_pure ⟨_, rfl, ?_⟩⟩
    exact hQ out h' tk _ c (up kp) (Nat.le_refl _) hD ((ko.length (by rw [List.length_map]; exact e1.length.symm))) (keyedOut_each (k := fun p : V × (Sm.D × Sm.D) => toP p.2.1) ko e1)
section
variable {g : Gx} {X : Cx} {E : XK} {scope : Scope}
theorem each_in {R : Value → V × (Sm.D × Sm.D) → Prop} : ∀ {us : List Value} {bs : List (V × (Sm.D × Sm.D))}, EachIs R us bs → EachIs (fun u p => R u p ∧ p ∈ bs) us bs := fun e => each_mem e
theorem keys_facts {ps : List (Sm.D × Sm.D)} {bs : List (V × (Sm.D × Sm.D))} (e2 : bs.map (·.2) = ps) (h : okKeys ps = true) : AllAlike (bs.map fun p => toP p.2.1) ∧ Sortable (bs.map fun p => toP p.2.1) ∧ ∀ p ∈ bs, dataN 5 p.2.1 = true ∧ noLst p.2.1 = true ∧ (toP p.2.1).depth ≤ 5 := by
  obtain ⟨h1, h2⟩ := okKeys_facts h
  obtain ⟨f1, f2, f3, f4⟩ := sort_facts h1
  have em : (bs.map fun p => toP p.2.1) = (ps.map fun p => p.1).map toP := by rw [← e2, List.map_map, List.map_map]; rfl
  refine ⟨by rw [em]; exact f1, by rw [em]; exact f2, fun p hp => ?_⟩
  have hp2 : p.2 ∈ ps := by rw [← e2]; exact List.mem_map.mpr ⟨p, hp, rfl⟩
  have hd := f3 p.2.1 (List.mem_map.mpr ⟨p.2, hp2, rfl⟩)
  exact ⟨hd, h2 p.2 hp2, (shp_of 5 p.2.1 hd).2⟩
/-- sorted(a, key=lambda x: body) -/
theorem es_sortKey {k i : Nat} {x : Str} {a body : Expr} {m ma : ME} {params : Arguments} {cA P : Addr} {lpos p pos kpos : Pos} (hr : Room k X.A) (TB : LamX.TabB X.base X.mg cA P) (hcode : X.env.code = .ref cA) (hmT : (P, X.env.qual ++ "<lambda>") ∈ g.tabs) (hu : ∀ p ∈ g.tabs, p.1 = P → p.2 = X.env.qual ++ "<lambda>")
    (L : Lam1S X.N X.env.scope scope x i) (hm : X.mg "sorted" = none) (hA : ES g X E a ma) (hq : QKey g X scope [(x, i)] body m) (hdef : defaultsOf params X.env = ([], []) := by rfl)
    (hbind : ∀ (u : Value) (q : Str) (cl : List (Str × Addr)) (pm cv ctv : Value), bindArgs (PySem.W.kla_fn "<lambda>" q params body scope cl pm cv ctv) ⟨[u], []⟩ = pure [(x, u)] := by intros; rfl) (hg : Gl X "sorted" := by rfl)
    (he : backTo pos (starEach [a] X.env) = (false, eval a X.env) :: backTo pos (starEach [] X.env) := by rfl) (hpl : (backTo pos (starEach [a] X.env)).any (·.1) = false := by rfl)
    (hall : (backToKw pos (keywordEach [⟨some "key", .Lambda params body scope lpos, kpos⟩] X.env)).all (·.1.isSome) = true := by rfl) (hnone : (backToKw pos (keywordEach [⟨some "key", .Lambda params body scope lpos, kpos⟩] X.env)).any (·.1.isNone) = false := by rfl) (hks : (backToKw pos (keywordEach [⟨some "key", .Lambda params body scope lpos, kpos⟩] X.env)).filterMap (·.1) = [Str.ofString "key"] := by rfl) :
    ES g X E (.Call (.Name "sorted" p) [a] [⟨some "key", .Lambda params body scope lpos, kpos⟩] pos) (eSortKey i m ma) := by
  obtain ⟨ta, pa, sa⟩ := hA
  refine ⟨fun σ H Q => ∃ c e, c.H = H ∧ Ok g c ∧ EnvR c e σ ∧ PostG g c E (WE g c Q) (eSortKey i m ma e c.S), ⟨fun pins s σ H Q I hh => ?_⟩, fun c σ e Q ok er hp => ⟨c, e, rfl, ok, er, hp⟩⟩
  obtain ⟨c, e, rfl, ok, er, hp⟩ := hh
  have hfree : ∀ y ∈ scope.names, y.2 = .free → ∃ c, X.env.cells.lookup y.1 = some c := fun y hy e => (L.free y hy e).elim (fun k => I.ok.has _ (.inl k)) fun k => I.ok.has _ (.inr k)
  refine wpAny_Call_Name_kw (ld_blt I hg hm bt_sorted ?_)
  refine PyProof.Rows.callWith_kw ?_ he hpl hall hnone
  rw [he]
  show wpAny _ _ (spliced ((false, eval a X.env) :: backTo pos (starEach [] X.env))) _ _ s
  refine Calls.spliced_cons (thn (pa.run pins s σ c.H (fun v H1 => ∃ c1 d, c1.H = H1 ∧ Ok g c1 ∧ Le c c1 ∧ RsE c1 c ∧ Rep c1 d v ∧ PostG g c1 E (WE g c Q) (ofO ((keyed i m e c1.S d).map fun ps => .lst ((sortK ps).map fun p => p.2)) c1.S)) I (bindE (R := WE g c Q) sa ok er hp fun c1 d v ok1 l1 r1 rx hp1 => ⟨c1, d, rfl, ok1, l1, r1, rx, hp1⟩)) fun u s1 ⟨v, H1, I1, ru, c1, d, ec, ok1, l1, re1, rx, hp1⟩ => ?_)
  subst ec
  refine Calls.spliced_nil ?_
  show wpAny _ _ (evalAll ((do let v ← eval (.Lambda params body scope lpos) X.env; standAt pos; pure v) :: (backToKw pos (keywordEach [] X.env)).map (·.2))) _ _ s1
  refine wpAny_evalAll_cons (wpAny_bind (LamX.lam_make2 I1 TB hcode hmT hu ok1.tabs hdef hfree fun f c' pm ctv H2 s2 I2 eN T2 hf hfn hfr hco => wpAny_bind (wpAny_standAt (wpAny_pure ?_))))
  refine wpAny_evalAll_nil ?_
  rw [hks]
  obtain ⟨ok2, l2, r2⟩ := ext_ok ok1 eN T2
  show wpAny _ _ (call (.builtin "sorted") [u] [(Str.ofString "key", .ref f)]) _ _ s2
  obtain ⟨z, hz, q⟩ := PostG.ofO (α := Sm.D) hp1
  obtain ⟨ps, hps, rfl⟩ := Option.map_eq_some_iff.mp hz
  obtain ⟨ds, hw, hkg, hok⟩ := keyed_some hps
  refine sorted_collK (coll_walk (c := { c1 with H := H2 }) (A := X.A.in1) hr.hd I2 ok2 ⟨v, Rep.mono l2 _ _ rx, ru⟩ hw fun its s3 k3 hz3 ⟨vs, rl, rv⟩ => ?_)
  obtain ⟨bs, e1, e2, e3⟩ := keys_zip (c := { c1 with H := H2 }) rl hkg
  obtain ⟨f1, f2, f3⟩ := keys_facts e2 hok
  have hun := hr.un
  refine ⟨bs, hz3, each_mem (vals_each2 (p := fun b : V × (Sm.D × Sm.D) => b.1) (by rw [e1]; exact rv)), f1, f2, fun p hp => ?_, fun w b hrel hb h tk hkeep => ?_, fun out h' tk D n kp hD hn hl he' => ?_⟩
  · have := (f3 p hp).2.2
    show X.A.units + 2 + _ < _
    omega
  · have I3 := inv_keeps I2 (keeps_trans k3 ⟨h, tk, rfl, hkeep⟩)
    obtain ⟨r3, S', hmS⟩ := e3 b hb
    obtain ⟨g1, g2, _⟩ := f3 b hb
    have hf3 : h.get? f = some (PySem.W.kla_obj "<lambda>" (X.env.qual ++ "<lambda>") params body scope (cloFrom X.env.cells scope.names []) pm c' ctv) := by
      obtain ⟨h2, t2, rfl, k2⟩ := k3
      exact hkeep _ _ (k2 _ _ hf)
    exact wpAny_mono (key_call (c := { c1 with H := H2 }) I3 ok2 (keepsR _) ((er.mono l1).mono l2) L hq hf3 hco (hbind w _ _ _ _ _) (by have := hr.dp; show X.A.depth < _; omega) hr.hd ⟨b.1, r3, hrel⟩ hmS g1 g2) (fun _ _ h => h.pure) fun _ _ x => x
  · have I3 := inv_keeps I2 k3
    have hv : Vals ((bs.mergeSort leKV).map fun b => b.1) out := each_vals2 (he'.mono fun u p h => h.1)
    have rl2 : RepL { c1 with H := H2 } ((sortK ps).map fun p => p.2) ((bs.mergeSort leKV).map fun b => b.1) := by
      rw [merge_sortG leKV_total, ← e2, ← sortG_k, List.map_map]
      exact repL_zip2 fun b hb => (e3 b (sortG_mem hb)).1
    have hlen : ((bs.mergeSort leKV).map fun b => b.1).length ≤ sizeLine := by rw [hv.length, hl]; exact hz3
    refine ⟨.ref D, upd H2 D (.lst ((bs.mergeSort leKV).map fun b => b.1)), I3.laid (t' := tk) kp hD ⟨hlen, out, n, hv, hn⟩, rfl, ?_⟩
    exact we_newL (c := { c1 with H := H2 }) ok2 rl2 (WE.later (l1.trans l2) (r2.trans re1) (q : WE g c Q _ _)) D (I3.hok.fresh hD)
end
end Sm
end

section
set_option Elab.async false
set_option linter.all false
set_option autoImplicit false
set_option maxRecDepth 100000
set_option maxHeartbeats 4000000
namespace Sm
open PySem PySem.Spec PyProof.Rows L2 PySem.W
section
variable {g : Gx} {X : Cx} {E : XK} {scope : Scope}
/-- a walk over a list, a tuple or a dict's keys -/
theorem iter_walk {c : Ct} {pins : List (Addr × Obj)} {σ : L2.St} {s : Shared} {x : Sm.D} {u : Value} {ds : List Sm.D} {A : Around} {E : Value → Shared → Prop} {Q : Value → Shared → Prop} (hh : A.handled = none) (I : Inv X pins σ c.H s) (ok : Ok g c) (ru : RepU c x u) (e : walkD c.S x = some ds)
    (h : ∀ (It a : Addr) (P : Nat → Value → Prop) (St : Nat → Shared → Prop) (s₂ : Shared), Keeps s s₂ → s.heap.objs.size ≤ It → WalksS X.prog X.w A It [It, a] [It] (fun a b => b = a) ds.length P St → St 0 s₂ → (∀ b ∈ [It, a], b < s₂.heap.objs.size) → (∀ i s, St i s → ∃ o, s.heap.get? It = some o) → (∀ (i : Nat) (s : Shared) (h' : Heap) (tk : Nat), St i s → (∀ b ∈ [It, a], ∀ o, s.heap.get? b = some o → h'.get? b = some o) → St i { s with heap := h', toks := tk }) →
      (∀ i v, P i v → ∃ d, ds[i]? = some d ∧ RepU c d v) → Q (.ref It) s₂) : wpAny (model X.prog X.w) A (pyIter u) Q E s := by
  have at_ : ∀ {vs : List V} {its : List Value} (i : Nat) (v : Value), RepL c ds vs → Vals vs its → its.toArray[i]? = some v → ∃ d, ds[i]? = some d ∧ RepU c d v := fun {vs its} i v rl rv hv => by
    have hv2 : its[i]? = some v := by simpa using hv
    have hi : i < its.length := (List.getElem?_eq_some_iff.mp hv2).1
    have hi2 : i < ds.length := by rw [← repL_len rl, rv.length]; exact hi
    obtain ⟨w, h1, h2⟩ := repL_get rl (List.getElem?_eq_getElem hi2)
    obtain ⟨u, h3, h4⟩ := rv.get h1
    rw [hv2] at h3
    cases h3
    exact ⟨ds[i], List.getElem?_eq_getElem hi2, w, h2, h4⟩
  rcases walk_lst e with ex | ex | ⟨kvs, ex, rfl⟩
  · obtain ⟨p, its, vs, rfl, rv, rl, pl, hsz⟩ := seeL I ok (fun _ _ _ h _ _ => h) ru ex
    refine iter_listW (A := A) hh pl.isList fun s₂ e2 W st hfp hw hk => ?_
    have hn : its.toArray.size = ds.length := by rw [List.size_toArray, ← rv.length, repL_len rl]
    rw [hn] at W
    refine h _ p _ _ s₂ ⟨s₂.heap, s₂.toks, by rw [e2], hk⟩ (Nat.le_refl _) W st hfp (fun i s hst => ?_) (fun i s h' tk hst hk => W.frame i s h' s.toks hst (Nat.le_refl _) hk) fun i v hv => at_ i v rl rv hv
    obtain ⟨⟨o, ho, _⟩, _⟩ := hst
    exact ⟨o, ho⟩
  · obtain ⟨p, its, vs, rfl, rv, rl, pl, hsz⟩ := seeT I ok (fun _ _ _ h _ _ => h) ru ex
    refine iter_tupleW (A := A) hh pl fun s₂ e2 W st hfp hw hk => ?_
    have hn : its.toArray.size = ds.length := by rw [List.size_toArray, ← rv.length, repL_len rl]
    rw [hn] at W
    refine h _ p _ _ s₂ ⟨s₂.heap, s₂.toks, by rw [e2], hk⟩ (Nat.le_refl _) W st hfp (fun i s hst => ?_) (fun i s h' tk hst hk => W.frame i s h' s.toks hst (Nat.le_refl _) hk) fun i v hv => at_ i v rl rv hv
    obtain ⟨⟨o, ho, _⟩, _⟩ := hst
    exact ⟨o, ho⟩
  · obtain ⟨v, h1, h2⟩ := ru
    obtain ⟨a, us, rfl, hd, hk⟩ := see_dct ok h1 ex
    obtain rfl : u = Value.ref a := h2
    obtain ⟨z, lo, ws, rel, dd⟩ := dk_rd I.hok hd
    obtain ⟨ep, hat⟩ := dd.dictAt
    have hks : us.map (·.1) = (kvs.map (·.1)).map kK := rk_keys (rk_of.mp hk)
    have hkeys : ws.map (·.1) = (kvs.map (·.1)).map kK := rel.keys.symm.trans hks
    have hl : ws.length = (kvs.map fun p => dK p.1).length := by
      have e := congrArg List.length hkeys
      simpa using e
    refine wpAny_pyIter_dict (knd := mixKind X.prog X.w) lo hat ?_
    have W := (Walks.dictKeys (prog := X.prog) (w := X.w) (knd := mixKind X.prog X.w) hh s.heap.objs.size a (Nat.ne_of_lt hat.lt_size) ws ep).toS
    rw [hl] at W
    refine h _ a _ _ _ ⟨_, s.toks, rfl, fun b o e => Heap.get?_push_of_some _ e⟩ (Nat.le_refl _) W ⟨⟨_, Heap.get?_push_size _ rfl, rfl, by rw [hl]; rfl⟩, hat.push _⟩ (fun b hb => ?_) (fun i s hst => ?_) (fun i s h' tk hst hk => W.frame i s h' s.toks hst (Nat.le_refl _) hk) fun i v ⟨k, x, e1, e2⟩ => ?_
    · show b < (s.heap.push _).objs.size
      rw [Heap.size_push]
      rcases List.mem_cons.mp hb with rfl | hb
      · exact Nat.lt_succ_self _
      · rw [List.mem_singleton.mp hb]
        exact Nat.lt_succ_of_lt hat.lt_size
    · obtain ⟨⟨o, ho, _⟩, _⟩ := hst
      exact ⟨o, ho⟩
    · have e3 : (ws.map (·.1))[i]? = some k := by rw [List.getElem?_map, e1]; rfl
      rw [hkeys, List.map_map, List.getElem?_map] at e3
      cases e4 : kvs[i]? with
      | none => rw [e4] at e3; cases e3
      | some y =>
        rw [e4] at e3
        have e5 : kK y.1 = k := Option.some.inj e3
        subst e5
        exact ⟨dK y.1, by rw [List.getElem?_map, e4]; rfl, kV (kK y.1), rep_dk y.1, relV_key (show keyIs (kK y.1) v = true from e2)⟩
theorem keysG_get {i : Nat} {m : ME} {e : Sm.Env} {S : Store} : ∀ {ds : List Sm.D} {ps : List (Sm.D × Sm.D)}, keysG i m e S ds = some ps → ps.length = ds.length ∧ ∀ (j : Nat) (d : Sm.D), ds[j]? = some d → ∃ kd, ps[j]? = some (kd, d) ∧ ∃ S', m (e.set i (some d)) S = .ok kd S'
  | [], ps, h => by cases h; exact ⟨rfl, fun j d e => by simp at e⟩
  | x :: ds, ps, h => by
    unfold keysG at h
    split at h
    · rename_i k S' hm
      obtain ⟨ps', h3, rfl⟩ := Option.map_eq_some_iff.mp h
      obtain ⟨h4, h5⟩ := keysG_get h3
      refine ⟨by rw [List.length_cons, List.length_cons, h4], fun j d e => ?_⟩
      cases j with
      | zero =>
        have e' : x = d := by simpa using e
        subst e'
        exact ⟨k, by simp, S', hm⟩
      | succ j =>
        obtain ⟨kd, h6, h7⟩ := h5 j d (by simpa using e)
        exact ⟨kd, by simpa using h6, h7⟩
    · cases h
def btK (ps : List (Sm.D × Sm.D)) (i j : Nat) : Bool := match ps[i]?, ps[j]? with
  | some p, some q => ltD p.1 q.1
  | _, _ => false
/-- the first of the least, by places -/
theorem argB_le {bt : Nat → Nat → Bool} : ∀ k, argBest bt k ≤ k
  | 0 => Nat.le_refl _
  | k + 1 => by
    show (if bt (k + 1) (argBest bt k) = true then k + 1 else argBest bt k) ≤ k + 1
    have := argB_le (bt := bt) k
    split <;> omega
theorem argBest_min {p : Sm.D × Sm.D} {r : List (Sm.D × Sm.D)} : ∀ k, k ≤ r.length → (p :: r)[argBest (btK (p :: r)) k]? = some (minK (r.take k) p)
  | 0, _ => by simp [argBest, minK]
  | k + 1, h => by
    have ih := argBest_min (p := p) (r := r) k (by omega)
    have hk : r[k]? = some r[k] := List.getElem?_eq_getElem (by omega)
    have hk1 : (p :: r)[k + 1]? = some r[k] := by rw [List.getElem?_cons_succ]; exact hk
    have mk : minK (r.take (k + 1)) p = (if ltD (r[k]).1 (minK (r.take k) p).1 = true then r[k] else minK (r.take k) p) := by
      rw [List.take_add_one, hk]
      have app : ∀ (l : List (Sm.D × Sm.D)) (q b : Sm.D × Sm.D), minK (l ++ [q]) b = (if ltD q.1 (minK l b).1 = true then q else minK l b) := by
        intro l
        induction l with
        | nil => intro q b; rfl
        | cons y l ih => intro q b; exact ih q _
      exact app _ _ _
    have bt : btK (p :: r) (k + 1) (argBest (btK (p :: r)) k) = ltD (r[k]).1 (minK (r.take k) p).1 := by
      show (match (p :: r)[k + 1]?, (p :: r)[argBest (btK (p :: r)) k]? with | some p, some q => ltD p.1 q.1 | _, _ => false) = _
      rw [hk1, ih]
    show (p :: r)[if btK (p :: r) (k + 1) (argBest (btK (p :: r)) k) = true then k + 1 else argBest (btK (p :: r)) k]? = _
    rw [bt, mk]
    split
    · exact hk1
    · exact ih
/-- min(a, key=lambda x: body) -/
theorem es_minKey {k i : Nat} {x : Str} {a body : Expr} {m ma : ME} {params : Arguments} {cA P : Addr} {lpos p pos kpos : Pos} (hr : Room k X.A) (TB : LamX.TabB X.base X.mg cA P) (hcode : X.env.code = .ref cA) (hmT : (P, X.env.qual ++ "<lambda>") ∈ g.tabs) (hu : ∀ p ∈ g.tabs, p.1 = P → p.2 = X.env.qual ++ "<lambda>")
    (L : Lam1S X.N X.env.scope scope x i) (hm : X.mg "min" = none) (hA : ES g X E a ma) (hq : QKey g X scope [(x, i)] body m) (hdef : defaultsOf params X.env = ([], []) := by rfl)
    (hbind : ∀ (u : Value) (q : Str) (cl : List (Str × Addr)) (pm cv ctv : Value), bindArgs (PySem.W.kla_fn "<lambda>" q params body scope cl pm cv ctv) ⟨[u], []⟩ = pure [(x, u)] := by intros; rfl) (hg : Gl X "min" := by rfl)
    (he : backTo pos (starEach [a] X.env) = (false, eval a X.env) :: backTo pos (starEach [] X.env) := by rfl) (hpl : (backTo pos (starEach [a] X.env)).any (·.1) = false := by rfl)
    (hall : (backToKw pos (keywordEach [⟨some "key", .Lambda params body scope lpos, kpos⟩] X.env)).all (·.1.isSome) = true := by rfl) (hnone : (backToKw pos (keywordEach [⟨some "key", .Lambda params body scope lpos, kpos⟩] X.env)).any (·.1.isNone) = false := by rfl) (hks : (backToKw pos (keywordEach [⟨some "key", .Lambda params body scope lpos, kpos⟩] X.env)).filterMap (·.1) = [Str.ofString "key"] := by rfl) :
    ES g X E (.Call (.Name "min" p) [a] [⟨some "key", .Lambda params body scope lpos, kpos⟩] pos) (eMinKey i m ma) := by
  obtain ⟨ta, pa, sa⟩ := hA
  refine ⟨fun σ H Q => ∃ c e, c.H = H ∧ Ok g c ∧ EnvR c e σ ∧ PostG g c E (WE g c Q) (eMinKey i m ma e c.S), ⟨fun pins s σ H Q I hh => ?_⟩, fun c σ e Q ok er hp => ⟨c, e, rfl, ok, er, hp⟩⟩
  obtain ⟨c, e, rfl, ok, er, hp⟩ := hh
  have hfree : ∀ y ∈ scope.names, y.2 = .free → ∃ c, X.env.cells.lookup y.1 = some c := fun y hy e => (L.free y hy e).elim (fun k => I.ok.has _ (.inl k)) fun k => I.ok.has _ (.inr k)
  refine wpAny_Call_Name_kw (ld_blt I hg hm bt_min ?_)
  refine PyProof.Rows.callWith_kw ?_ he hpl hall hnone
  rw [he]
  show wpAny _ _ (spliced ((false, eval a X.env) :: backTo pos (starEach [] X.env))) _ _ s
  refine Calls.spliced_cons (thn (pa.run pins s σ c.H (fun v H1 => ∃ c1 d, c1.H = H1 ∧ Ok g c1 ∧ Le c c1 ∧ RsE c1 c ∧ Rep c1 d v ∧ PostG g c1 E (WE g c Q) (ofO ((keyed i m e c1.S d).bind fun ps => match ps with
      | [] => none
      | p :: r => some (minK r p).2) c1.S)) I (bindE (R := WE g c Q) sa ok er hp fun c1 d v ok1 l1 r1 rx hp1 => ⟨c1, d, rfl, ok1, l1, r1, rx, hp1⟩)) fun u s1 ⟨v, H1, I1, ru, c1, d, ec, ok1, l1, re1, rx, hp1⟩ => ?_)
  subst ec
  refine Calls.spliced_nil ?_
  show wpAny _ _ (evalAll ((do let v ← eval (.Lambda params body scope lpos) X.env; standAt pos; pure v) :: (backToKw pos (keywordEach [] X.env)).map (·.2))) _ _ s1
  refine wpAny_evalAll_cons (wpAny_bind (LamX.lam_make2 I1 TB hcode hmT hu ok1.tabs hdef hfree fun f c' pm ctv H2 s2 I2 eN T2 hf hfn hfr hco => wpAny_bind (wpAny_standAt (wpAny_pure ?_))))
  refine wpAny_evalAll_nil ?_
  rw [hks]
  obtain ⟨ok2, l2, r2⟩ := ext_ok ok1 eN T2
  show wpAny _ _ (call (.builtin "min") [u] [(Str.ofString "key", .ref f)]) _ _ s2
  obtain ⟨z, hz, q⟩ := PostG.ofO (α := Sm.D) hp1
  obtain ⟨ps, hps, hz⟩ := Option.bind_eq_some_iff.mp hz
  obtain ⟨ds, hw, hkg, hok⟩ := keyed_some hps
  obtain ⟨hlen, hget⟩ := keysG_get hkg
  obtain ⟨k1, k2⟩ := okKeys_facts hok
  obtain ⟨f1, f2, f3, f4⟩ := sort_facts k1
  have hun := hr.un
  have key_ok : ∀ (j : Nat) (p : Sm.D × Sm.D), ps[j]? = some p → dataN 5 p.1 = true ∧ noLst p.1 = true ∧ toP p.1 ∈ (ps.map fun p => p.1).map toP := fun j p hj => by
    have hm := List.mem_of_getElem? hj
    have h1 : p.1 ∈ ps.map fun p => p.1 := List.mem_map.mpr ⟨p, hm, rfl⟩
    exact ⟨f3 _ h1, k2 p hm, List.mem_map.mpr ⟨_, h1, rfl⟩⟩
  cases ps with
  | nil => cases hz
  | cons p0 r0 =>
    cases hz
    have I2' : Inv X pins σ ({ c1 with H := H2 } : Ct).H s2 := I2
    refine call_min_walkK (iter_walk (c := { c1 with H := H2 }) (A := X.A.in1) hr.hd I2' ok2 ⟨v, Rep.mono l2 _ _ rx, ru⟩ hw fun It aL Pw St s3 k3 hIt W st0 hfp hSt hFr hP => ?_)
    have hS : s2.heap.objs.size ≤ s3.heap.objs.size := by
      have h1 := hfp It List.mem_cons_self
      exact Nat.le_of_lt (Nat.lt_of_le_of_lt hIt h1)
    refine ⟨It, _, _, _, _, _, St, fun s' => Keeps s2 s', fun j kx s' => ∃ (pr : Sm.D × Sm.D) (hk : Heap), (p0 :: r0)[j]? = some pr ∧ Reads hk kx (toP pr.1) [] ∧ ∀ b o, hk.get? b = some o → b ∉ [s3.heap.objs.size, It] ∧ s'.heap.get? b = some o, btK (p0 :: r0), rfl, W, st0, hfp, by rw [← hlen]; exact Nat.succ_pos _, ?_, k3, ?_⟩
    · refine ⟨fun s s' J m => ?_, fun j kx s s' ⟨pr, hk, e1, e2, e3⟩ m => ?_, fun j w s o Q E hj hPj hJ hst hSo hQ => ?_, fun i1 i2 ki kj s Q E hJ hi hj hQ => ?_⟩
      · obtain ⟨h', tk, rfl, hk⟩ := J
        refine ⟨s'.heap, s'.toks, ?_, fun b o e => m.heap b o (fun hb => ?_) (hk b o e)⟩
        · have e1 : s'.gens = s2.gens := m.gens
          have e2 : s'.drawn = s2.drawn := m.drawn
          have e3 : s'.os = s2.os := m.os
          obtain ⟨a1, a2, a3, a4, a5⟩ := s'
          cases e1
          cases e2
          cases e3
          rfl
        · have hlt := Heap.lt_size e
          rcases List.mem_cons.mp hb with z | z
          · rw [z] at hlt; exact Nat.lt_irrefl _ (Nat.lt_of_lt_of_le hlt hS)
          · rw [List.mem_singleton.mp z] at hlt; exact Nat.lt_irrefl _ (Nat.lt_of_lt_of_le hlt hIt)
      · exact ⟨pr, hk, e1, e2, fun b o hb => ⟨(e3 b o hb).1, m.heap b o (e3 b o hb).1 (e3 b o hb).2⟩⟩
      · obtain ⟨d0, hd0, hr0⟩ := hP j w hPj
        obtain ⟨kd, hkd, S', hmS⟩ := hget j d0 hd0
        obtain ⟨g1, g2, _⟩ := key_ok j _ hkd
        have hf3 : s.heap.get? f = some (PySem.W.kla_obj "<lambda>" (X.env.qual ++ "<lambda>") params body scope (cloFrom X.env.cells scope.names []) pm c' ctv) := by
          obtain ⟨h2, t2, rfl, k2⟩ := hJ
          exact k2 _ _ hf
        refine wpAny_mono (key_call (c := { c1 with H := H2 }) I2' ok2 hJ ((er.mono l1).mono l2) L hq hf3 hco (hbind w _ _ _ _ _) (by have := hr.dp; show X.A.depth < _; omega) hr.hd hr0 hmS g1 g2) (fun kx s'' ⟨h', tk, e', kp, rd⟩ => ?_) fun _ _ x => x
        subst e'
        refine hQ kx _ (keeps_trans hJ ⟨h', tk, rfl, kp⟩) ?_ (kp _ _ hSo) ⟨(kd, d0), hideAll h' [s3.heap.objs.size, It], hkd, rd _ fun b hb => ?_, fun b o hb => ⟨fun hm => ?_, of_hideAll _ hb⟩⟩ fun j2 k2 ⟨pr, hk, e1, e2, e3⟩ => ⟨pr, hk, e1, e2, fun b o hb => ⟨(e3 b o hb).1, kp _ _ (e3 b o hb).2⟩⟩
        · exact hFr _ _ _ _ hst fun b _ o e => kp b o e
        · rcases List.mem_cons.mp hb with z | z
          · rw [z]; exact ⟨hS, o, hSo⟩
          · rw [List.mem_singleton.mp z]
            exact ⟨hIt, hSt _ _ hst⟩
        · rw [hideAll_none _ hm] at hb; cases hb
      · obtain ⟨p1, h1, e1, r1, n1⟩ := hi
        obtain ⟨p2, h2, e2, r2', n2⟩ := hj
        obtain ⟨g1, g2, g3⟩ := key_ok i1 p1 e1
        obtain ⟨g4, g5, g6⟩ := key_ok i2 p2 e2
        have ra : Reads s.heap ki (toP p1.1) [] := PyProof.Rows.Reads.keeps (fun b o hb => (n1 b o hb).2) r1
        have rb : Reads s.heap kj (toP p2.1) [] := PyProof.Rows.Reads.keeps (fun b o hb => (n2 b o hb).2) r2'
        have hdep := (shp_of 5 p1.1 g1).2
        refine rcLt_alike _ _ X.A.in1 s ki kj _ _ ra rb (f1 _ g3 _ g6) (fun z => ?_) ?_ X.prog X.w E Q ?_
        · rcases f2 with f2 | f2
          · obtain ⟨y, r, hy⟩ := f2 _ g3
            rw [hy] at z; cases z
          · exact (f2 _ g3).1 z
        · have := Nat.min_le_left (toP p1.1).depth (toP p2.1).depth
          show X.A.units + 1 + _ < _
          omega
        · rw [ltD_eq]
          have eb : btK (p0 :: r0) i1 i2 = ltD p1.1 p2.1 := by unfold btK; rw [e1, e2]
          rw [← eb]
          exact hQ
    · intro w s' hPw hJ
      have hn : ds.length - 1 = r0.length := by rw [← hlen]; rfl
      rw [hn] at hPw
      obtain ⟨d0, hd0, w', hr0, hru⟩ := hP _ w hPw
      obtain ⟨kd, hkd, _⟩ := hget _ d0 hd0
      have e1 := argBest_min (p := p0) (r := r0) r0.length (Nat.le_refl _)
      rw [List.take_length] at e1
      rw [e1] at hkd
      have e2 : (minK r0 p0).2 = d0 := by rw [Option.some.inj hkd]
      have I3 := inv_keeps I2 hJ
      refine ⟨w', H2, I3, hru, ?_⟩
      rw [e2] at q
      exact (q : WE g c Q _ _) { c1 with H := H2 } w' ok2 (l1.trans l2) (r2.trans re1) rfl hr0
end
end Sm
end

section
set_option Elab.async false
set_option linter.all false
set_option autoImplicit false
set_option maxRecDepth 100000
set_option maxHeartbeats 4000000
namespace Sm
open PySem PySem.Spec PyProof.Rows L2 PySem.W
section
variable {g : Gx} {X : Cx} {scope : Scope} {own : List (Str × Nat)}
theorem rd_noT {H : Hp} {a : Addr} {u : HO} (t : isD u) (h : Rd H a u) : Rd (noT H) a u := by
  rcases h with h | ⟨o, h⟩
  · exact .inl (noT_some h fun ps z => by subst z; exact t)
  · exact .inr ⟨o, noT_some h fun ps z => by cases z⟩
theorem view_str' {S : Store} {x : Sm.D} {t : Tx} (ex : view S x = .str t) : x = .str t := by
  cases x with
  | obj k =>
    obtain ⟨o, e1, e2⟩ := view_obj ex (by intro z; cases z)
    have : ∀ o : Ob, o.val ≠ some (.str t) := by
      intro o
      induction o with
      | lck o ih => exact ih
      | _ => intro z; cases z
    exact absurd e2 (this o)
  | _ => exact ex
/-- o[i]: lists, tuples, texts, dicts -/
theorem q_ixK {a b : Expr} {ma mb : ME} {pos : Pos} (hs : PlainIx b) (qa : QE g X scope own a ma) (qb : QE g X scope own b mb) : QE g X scope own (.Subscript a b pos) (eOp oIxK ma mb) :=
  fun c pins σ s₁ s₂ e cenv A' E' m₂ d S' I ok q hA he => by
    have qo : QO g X (fun v u => subscriptTail a b v u) oIxK := by
      intro c pins σ s₁ s₂ A' E' x y u w z I ok old hA ru rw' hz
      unfold oIxK at hz
      split at hz
      · rename_i xs i ex
        obtain ⟨p, its, vs, rfl, rv, rl, pl, hsz⟩ := seeL I ok old ru ex
        obtain ⟨t, rfl⟩ := repU_int.mp rw'
        obtain ⟨v, hv, rv2⟩ := at_of' rl hz
        obtain ⟨j, h1, h2, h3, h4, h5⟩ := atI_get hv
        obtain ⟨w, ew, rw2⟩ := rv.get h2
        have hl := rv.length
        have hn := line63
        have fin : RepU c z w ∧ Keeps s₂ s₂ := ⟨⟨v, rv2, rw2⟩, keepsR _⟩
        by_cases h0 : 0 ≤ i
        · have hj : i.toNat = j := by
            rw [seqIndex_of h0 h5] at h1
            exact Option.some.inj h1
          exact item_listR pl.isList h0 (by omega) (by rw [hj]; simpa using ew) fin (hs _ _)
        · have hj : (i + (its.toArray.size : Int)).toNat = j := by
            rw [seqIndex_neg (by omega) h4] at h1
            rw [List.size_toArray, ← hl]
            exact Option.some.inj h1
          exact subscriptTail_builtinR (x := w) pl.isList.typeIs slot_list_getitem.lookup
            (wpAny_getItem_list_neg (Q := fun r s' => r = w ∧ (RepU c z r ∧ Keeps s₂ s')) pl.isList (by omega) (by rw [List.size_toArray] <;> omega) (by omega) (by rw [hj]; simpa using ew) ⟨rfl, fin⟩) (hs _ _)
      · rename_i xs i ex
        obtain ⟨p, its, vs, rfl, rv, rl, pl, hsz⟩ := seeT I ok old ru ex
        obtain ⟨t, rfl⟩ := repU_int.mp rw'
        obtain ⟨v, hv, rv2⟩ := at_of' rl hz
        obtain ⟨j, h1, h2, h3, h4, h5⟩ := atI_get hv
        obtain ⟨w, ew, rw2⟩ := rv.get h2
        have hl := rv.length
        have hn := line63
        have fin : RepU c z w ∧ Keeps s₂ s₂ := ⟨⟨v, rv2, rw2⟩, keepsR _⟩
        exact subscriptTail_builtinR (x := w) pl.typeIs slot_tuple_getitem.lookup
          (getItem_tuple (j := j) (Q := fun r s' => r = w ∧ (RepU c z r ∧ Keeps s₂ s')) pl (by omega) (by omega) (by rw [List.size_toArray, ← hl]; exact h1) (by simpa using ew) ⟨rfl, fin⟩) (hs _ _)
      · rename_i tx i ex
        split at hz
        · rename_i hlen
          have e2 := view_str' ex
          subst e2
          obtain ⟨cc, hcc, rfl⟩ := Option.map_eq_some_iff.mp hz
          obtain ⟨v, hv1, hv2⟩ := ru
          rw [rep_str] at hv1
          subst hv1
          obtain ⟨tk, rfl⟩ := hv2
          obtain ⟨t, rfl⟩ := repU_int.mp rw'
          obtain ⟨j, h1, h2, h3, h4, h5⟩ := atI_get (show L2.atI (sS tx).cps.toList i = some cc from hcc)
          have hl : (sS tx).cps.toList.length = (sS tx).length := by simp [Str.length]
          rw [hl] at h1 h4 h5
          have hn := line63
          have hz5 := sz5 hlen
          have hl2 := sS_len tx
          exact subscriptTail_builtinR (x := .str ⟨#[cc]⟩ s₂.toks) (typeIs_str s₂ (sS tx) tk) slot_str_getitem.lookup (getItem_str (c := cc) (by
            have e1 : decide (i < -(2 ^ 63 : Int)) = false := decide_eq_false (by omega)
            have e2 : decide (i ≥ 2 ^ 63) = false := decide_eq_false (by omega)
            rw [e1, e2, Bool.or_false]) (by rw [h1]; simpa using h2) ⟨rfl, ⟨.str (sS [cc]), rep_str.mpr rfl, _, rfl⟩, keepsT _ _⟩) (hs _ _)
        · cases hz
      · rename_i y _ _ kvs ex
        cases hk : keyD y with
        | none => rw [hk] at hz; cases hz
        | some k =>
          rw [hk] at hz
          have hz' : getK k kvs = some z := hz
          obtain ⟨v, hv1, hv2⟩ := ru
          obtain ⟨a, us, rfl, hd1, hk1⟩ := see_dct ok hv1 ex
          obtain rfl : u = Value.ref a := hv2
          obtain ⟨w0, h3, h4⟩ := rk_some (fun _ _ => kK_inj) (rk_of.mp hk1) hz'
          obtain ⟨y0, ry1, ry2⟩ := rw'
          have hy := key_rep hk ry1
          subst hy
          obtain ⟨z1, hd2, vs, rel, dd⟩ := dk_rd (hok_old I.hok old) (rd_noT trivial hd1)
          obtain ⟨w', hw, rww⟩ := RelO.some_of (v := w0) (o := valueAt vs (kK k)) (by rw [← h3]; exact rel.val (kK k))
          exact subscriptTail_builtinR (x := w') dd.typeIs PySem.F.slot_dict_getitem.lookup (wpAny_getItem_of (kV_is ry2) dd.mapOf hw ⟨rfl, ⟨w0, h4, rww⟩, keepsT _ _⟩) (hs _ _)
      · cases hz
    obtain ⟨h1, h2⟩ := q_two (m₂ := m₂) qa qb I ok q hA he qo
    exact ⟨h1, Subscript_ h2⟩
/-! and, or, if -/
theorem q_one {op : _} {a : Expr} {m : ME} {pos : Pos} (qa : QE g X scope own a m) : QE g X scope own (.BoolOp op [a] pos) m := fun c pins σ s₁ s₂ e cenv A' E' m₂ d S' I ok q hA he => by
  obtain ⟨h1, h2⟩ := qa c pins σ s₁ s₂ e cenv A' E' m₂ d S' I ok q hA he
  exact ⟨h1, BoolOp_one h2⟩
theorem q_and {a b : Expr} {r : List Expr} {ma mb : ME} {pos : Pos} (qa : QE g X scope own a ma) (qb : QE g X scope own (.BoolOp .And (b :: r) pos) mb) : QE g X scope own (.BoolOp .And (a :: b :: r) pos) (eAnd ma mb) := fun c pins σ s₁ s₂ e cenv A' E' m₂ d S' I ok q hA he => by
  unfold eAnd at he
  cases h1 : ma e c.S with
  | bad => rw [h1] at he; cases he
  | exc k S => rw [h1] at he; cases he
  | ok x S1 =>
    rw [h1] at he
    obtain ⟨rfl, w1⟩ := qa c pins σ s₁ s₂ e cenv A' E' m₂ x S1 I ok q hA h1
    have he' : (match x with
      | .bl true => mb e c.S
      | .bl false => .ok (.bl false) c.S
      | _ => .bad) = .ok d S' := he
    split at he'
    · refine ⟨(qb c pins σ s₁ s₂ e cenv A' E' m₂ d S' I ok q hA he').1, BoolOp_and (wpAny_mono w1 (fun v s₃ ⟨rv, k3⟩ => ?_) fun _ _ x => x)⟩
      obtain rfl := repU_bl.mp rv
      refine wpAny_truthy_bool ?_
      exact wpAny_mono (qb c pins σ s₁ s₃ e cenv A' E' m₂ d S' I ok (q.keeps k3) hA he').2 (fun y s₄ ⟨r4, k4⟩ => ⟨r4, keeps_trans k3 k4⟩) fun _ _ x => x
    · cases he'
      refine ⟨rfl, BoolOp_and (wpAny_mono w1 (fun v s₃ ⟨rv, k3⟩ => ?_) fun _ _ x => x)⟩
      obtain rfl := repU_bl.mp rv
      exact wpAny_truthy_bool ⟨rv, k3⟩
    · cases he'
theorem q_or {a b : Expr} {r : List Expr} {ma mb : ME} {pos : Pos} (qa : QE g X scope own a ma) (qb : QE g X scope own (.BoolOp .Or (b :: r) pos) mb) : QE g X scope own (.BoolOp .Or (a :: b :: r) pos) (eOr ma mb) := fun c pins σ s₁ s₂ e cenv A' E' m₂ d S' I ok q hA he => by
  unfold eOr at he
  cases h1 : ma e c.S with
  | bad => rw [h1] at he; cases he
  | exc k S => rw [h1] at he; cases he
  | ok x S1 =>
    rw [h1] at he
    obtain ⟨rfl, w1⟩ := qa c pins σ s₁ s₂ e cenv A' E' m₂ x S1 I ok q hA h1
    have he' : (match x with
      | .bl true => (Out.ok (.bl true) c.S : Out Sm.D)
      | .bl false => mb e c.S
      | _ => .bad) = .ok d S' := he
    split at he'
    · cases he'
      refine ⟨rfl, BoolOp_or (wpAny_mono w1 (fun v s₃ ⟨rv, k3⟩ => ?_) fun _ _ x => x)⟩
      obtain rfl := repU_bl.mp rv
      exact wpAny_truthy_bool ⟨rv, k3⟩
    · refine ⟨(qb c pins σ s₁ s₂ e cenv A' E' m₂ d S' I ok q hA he').1, BoolOp_or (wpAny_mono w1 (fun v s₃ ⟨rv, k3⟩ => ?_) fun _ _ x => x)⟩
      obtain rfl := repU_bl.mp rv
      refine wpAny_truthy_bool ?_
      exact wpAny_mono (qb c pins σ s₁ s₃ e cenv A' E' m₂ d S' I ok (q.keeps k3) hA he').2 (fun y s₄ ⟨r4, k4⟩ => ⟨r4, keeps_trans k3 k4⟩) fun _ _ x => x
    · cases he'
theorem q_if {t a b : Expr} {mt : MB} {ma mb : ME} {pos : Pos} (qt : QB g X scope own t mt) (qa : QE g X scope own a ma) (qb : QE g X scope own b mb) : QE g X scope own (.IfExp t a b pos) (eIf mt ma mb) := fun c pins σ s₁ s₂ e cenv A' E' m₂ d S' I ok q hA he => by
  unfold eIf at he
  cases h1 : mt e c.S with
  | bad => rw [h1] at he; cases he
  | exc k S => rw [h1] at he; cases he
  | ok x S1 =>
    rw [h1] at he
    obtain ⟨rfl, w1⟩ := qt c pins σ s₁ s₂ e cenv A' E' m₂ x S1 I ok q hA h1
    have he' : (if x = true then ma e c.S else mb e c.S) = .ok d S' := he
    cases x with
    | true =>
      have he' : ma e c.S = .ok d S' := he'
      refine ⟨(qa c pins σ s₁ s₂ e cenv A' E' m₂ d S' I ok q hA he').1, wpAny_IfExp (wpAny_mono w1 (fun v s₃ ⟨rv, k3⟩ => ?_) fun _ _ x => x)⟩
      subst rv
      exact wpAny_mono (qa c pins σ s₁ s₃ e cenv A' E' m₂ d S' I ok (q.keeps k3) hA he').2 (fun y s₄ ⟨r4, k4⟩ => ⟨r4, keeps_trans k3 k4⟩) fun _ _ x => x
    | false =>
      have he' : mb e c.S = .ok d S' := he'
      refine ⟨(qb c pins σ s₁ s₂ e cenv A' E' m₂ d S' I ok q hA he').1, wpAny_IfExp (wpAny_mono w1 (fun v s₃ ⟨rv, k3⟩ => ?_) fun _ _ x => x)⟩
      subst rv
      exact wpAny_mono (qb c pins σ s₁ s₃ e cenv A' E' m₂ d S' I ok (q.keeps k3) hA he').2 (fun y s₄ ⟨r4, k4⟩ => ⟨r4, keeps_trans k3 k4⟩) fun _ _ x => x
/-- a quiet truth value as a test -/
theorem qb_of {a : Expr} {m : ME} (hv : ∀ env whole, isTrue a env whole = (do let v ← whole; standAt a.pos; holding [v] (truthy v)) := by intro _ _; rfl) (qa : QE g X scope own a m) : QB g X scope own a (tB m) := qb_val hv qa
end
end Sm
end

section
set_option Elab.async false
set_option linter.all false
set_option autoImplicit false
set_option maxRecDepth 100000
set_option maxHeartbeats 4000000
namespace Sm
open PySem PySem.Spec PyProof.Rows L2
section
variable {g : Gx} {X : Cx} {E : XK}
theorem es_lpop {o : Expr} {mo : ME} {apos cpos : Pos} (hbase : attributeBase o "pop" X.env (eval o X.env) = eval o X.env := by rfl) (hline : (apos.endLine == cpos.line) = true := by rfl) :
    ES g X E o mo → ES g X E (.Call (.Attribute o "pop" apos) [] [] cpos) (eLPop mo) := fun ⟨to, po, so⟩ => by
  refine ⟨_, pe_bm0 PySem.F.plainAttrs_list PySem.F.slot_list_pop PySem.F.type_list_pop mt_pop po hbase hline, fun c σ e Q ok er hp => ?_⟩
  show to σ c.H _
  refine bindE (R := WE g c Q) so ok er hp fun c1 x v ok1 l1 r1 rx hp1 => ?_
  split at hp1
  · rename_i r xs h0
    obtain ⟨e0, hl, hS, rfl, vs, h1, h2⟩ := lstAt_of ok1 rx h0
    split at hp1
    · rename_i y hy
      obtain ⟨w, hw, rw'⟩ := repL_get h2 hy
      have hd : RepL c1 xs.dropLast vs.dropLast := by
        rw [List.dropLast_eq_take, List.dropLast_eq_take, repL_len h2]
        exact repL_take _ h2
      obtain ⟨c3, ok3, l3, r3, s3, h5⟩ := put_lst ok1 hl hS h1 hd
      refine ⟨.inl ⟨rfl, _, SqL.of h1⟩, c1.ι r, vs, w, rfl, rfl, h1, by rw [repL_len h2]; exact hw, ?_⟩
      rw [← h5]
      exact hp1 c3 w ok3 (l1.trans l3) (r3.trans r1) s3 (Rep.mono l3 _ _ rw')
    · exact hp1.elim
  · exact hp1.elim
theorem repL_erase {c : Ct} : ∀ {ds : List Sm.D} {vs : List V} (n : Nat), RepL c ds vs → RepL c (ds.eraseIdx n) (vs.eraseIdx n)
  | [], vs, n, h => by rw [repL_nil] at h; subst h; exact repL_nil.mpr (by simp)
  | x :: ds, vs, 0, h => by
    obtain ⟨w, r, rfl, h1, h2⟩ := repL_cons.mp h
    exact h2
  | x :: ds, vs, n + 1, h => by
    obtain ⟨w, r, rfl, h1, h2⟩ := repL_cons.mp h
    exact repL_cons.mpr ⟨w, r.eraseIdx n, rfl, h1, repL_erase n h2⟩
theorem es_lpopAt {o a : Expr} {mo m : ME} {apos cpos : Pos} (hbase : attributeBase o "pop" X.env (eval o X.env) = eval o X.env := by rfl)
    (hfew : ((backTo cpos (starEach [a] X.env)).all (fun x => !x.1) && (backToKw cpos (keywordEach [] X.env)).all (fun x => x.1.isSome)
      && decide (([a] : List Expr).length + ([] : List Keyword).length + (if ([] : List Keyword).isEmpty then 0 else 1) < 30)) = true := by rfl)
    (hline : (apos.endLine == cpos.line) = true := by rfl) (hs : starEach [a] X.env = (false, eval a X.env) :: starEach [] X.env := by rfl) (hpl : (backTo cpos (starEach [] X.env)).any (·.1) = false := by rfl) :
    ES g X E o mo → ES g X E a m → ES g X E (.Call (.Attribute o "pop" apos) [a] [] cpos) (eLPopAt mo m) := fun ⟨to, po, so⟩ ⟨ta, pa, sa⟩ => by
  refine ⟨_, pe_bm PySem.F.plainAttrs_list PySem.F.slot_list_pop PySem.F.type_list_pop mt_popAt po (pa_cons pa pa_nil hs) hbase hfew hline hs hpl, fun c σ e Q ok er hp => ?_⟩
  show to σ c.H _
  refine bindE (R := WE g c Q) so ok er hp fun c1 x v ok1 l1 r1 rx hp1 => ?_
  split at hp1
  · rename_i p0 h0
    obtain ⟨r0, xs0⟩ := p0
    obtain ⟨e0, _, _, rfl, vs0, h1, _⟩ := lstAt_of ok1 rx h0
    refine ⟨.inl ⟨rfl, _, SqL.of h1⟩, ?_⟩
    show ta σ c1.H _
    refine bindE (R := WE g c Q) sa ok1 (er.mono l1) hp1 fun c2 y w ok2 l2 r2 ry hp2 => ?_
    have rx2 := Rep.mono l2 _ _ rx
    split at hp2
    · rename_i r xs h
      split at hp2
      · rename_i z
        obtain ⟨_, hl, hS, e2, vs, h3, h4⟩ := lstAt_of ok2 rx2 h
        cases hj : ixZ xs.length z with
        | none => rw [hj] at hp2; exact hp2.elim
        | some j =>
          rw [hj] at hp2
          cases hy : xs[j]? with
          | none => simp only [hy] at hp2; exact hp2.elim
          | some d =>
            simp only [hy] at hp2
            split at hp2
            · rename_i hlen
              obtain ⟨w0, hw, rw'⟩ := repL_get h4 hy
              obtain ⟨c3, ok3, l3, r3, s3, h5⟩ := put_lst ok2 hl hS h3 (repL_erase j h4)
              have hb : -(2 ^ 63) ≤ z ∧ z < 2 ^ 63 := by
                unfold ixZ at hj
                split at hj
                · split at hj
                  · omega
                  · cases hj
                · split at hj
                  · omega
                  · cases hj
              have hi : seqIndex? z vs.length = some j := by
                rw [repL_len h4]
                unfold ixZ at hj
                split at hj
                · rename_i h0'
                  split at hj
                  · rename_i h1'
                    cases hj
                    exact seqIndex_of h0' h1'
                  · cases hj
                · rename_i h0'
                  split at hj
                  · rename_i h1'
                    cases hj
                    exact seqIndex_neg (by omega) h1'
                  · cases hj
              refine ⟨c2.ι r, vs, z, j, w0, e2, by rw [rep_int.mp ry], h3, hb.1, hb.2, hi, hw, ?_⟩
              rw [← h5]
              exact hp2 c3 w0 ok3 (l1.trans (l2.trans l3)) (r3.trans (r2.trans r1)) s3 (Rep.mono l3 _ _ rw')
            · exact hp2.elim
      · exact hp2.elim
    · exact hp2.elim
  · exact hp1.elim
theorem repL_rng {c : Ct} : ∀ (n : Nat) (a : Int) (b : Int), n = (b - a).toNat → RepL c (rangeL a n) (rgV a b)
  | 0, a, b, h => by
    unfold rgV
    rw [← h]
    exact repL_nil.mpr rfl
  | n + 1, a, b, h => by
    have ih := repL_rng (c := c) n (a + 1) b (by omega)
    unfold rgV at ih ⊢
    rw [← h, List.range_succ_eq_map, List.map_cons, List.map_map]
    refine repL_cons.mpr ⟨_, _, rfl, rep_int.mpr (by simp), ?_⟩
    have e : (b - (a + 1)).toNat = n := by omega
    rw [e] at ih
    have e2 : ((fun i : Nat => V.int (a + (i : Int))) ∘ Nat.succ) = fun i : Nat => V.int (a + 1 + (i : Int)) := by
      funext i
      show V.int (a + ((i + 1 : Nat) : Int)) = V.int (a + 1 + (i : Int))
      congr 1
      omega
    rw [e2]
    exact ih
theorem rgOk_of {a b : Int} (h : -1000000 ≤ a ∧ a ≤ 1000000 ∧ -1000000 ≤ b ∧ b ≤ 1000000) : RgOk a b := ⟨by omega, by omega, by omega, by omega, by omega⟩
theorem rng1_some {x : Sm.D} {xs : List Sm.D} (h : rng1 x = some xs) : ∃ n, x = .int n ∧ -1000000 ≤ n ∧ n ≤ 1000000 ∧ xs = rangeL 0 n.toNat := by
  unfold rng1 at h
  split at h
  · split at h
    · cases h
      rename_i hb
      exact ⟨_, rfl, hb.1, hb.2, rfl⟩
    · cases h
  · cases h
theorem rng2_some {x y : Sm.D} {xs : List Sm.D} (h : rng2 x y = some xs) : ∃ a b, x = .int a ∧ y = .int b ∧ (-1000000 ≤ a ∧ a ≤ 1000000 ∧ -1000000 ≤ b ∧ b ≤ 1000000) ∧ xs = rangeL a (b - a).toNat := by
  unfold rng2 at h
  split at h
  · split at h
    · cases h
      exact ⟨_, _, rfl, rfl, by assumption, rfl⟩
    · cases h
  · cases h
/-- list(range(a)) -/
theorem es_lrng1 {a : Expr} {ma : ME} {p p2 pos pos2 : Pos} (xo : XO g X E) (hm : X.mg "list" = none) (hm2 : X.mg "range" = none) (ha : ES g X E a ma) (hg : Gl X "list" := by rfl) (hg2 : Gl X "range" := by rfl) (hs : starEach [a] X.env = (false, eval a X.env) :: starEach [] X.env := by rfl)
    (hs2 : starEach [.Call (.Name "range" p2) [a] [] pos2] X.env = (false, eval (.Call (.Name "range" p2) [a] [] pos2) X.env) :: starEach [] X.env := by rfl) :
    ES g X E (.Call (.Name "list" p) [.Call (.Name "range" p2) [a] [] pos2] [] pos) (eLRng1 ma) := by
  obtain ⟨ta, pa, sa⟩ := ha
  refine ⟨_, pe_listRg xo.calm hg hm (prg_1 hg2 hm2 pa hs) hs2, fun c σ e Q ok er hp => ?_⟩
  show ta σ c.H _
  refine bindE (R := WE g c Q) sa ok er hp fun c1 x v ok1 l1 r1 rx hp1 => ?_
  obtain ⟨z, hz, q⟩ := PostG.ofO (α := Sm.D) hp1
  obtain ⟨xs, hx, rfl⟩ := Option.map_eq_some_iff.mp hz
  obtain ⟨n, rfl, b1, b2, rfl⟩ := rng1_some hx
  exact ⟨n, rep_int.mp rx, rgOk_of ⟨by omega, by omega, b1, b2⟩, we_newL ok1 (repL_rng _ 0 n (by omega)) (WE.later l1 r1 (q : WE g c Q _ _))⟩
/-- .. as a root -/
theorem es_lrngN1 {a : Expr} {ma : ME} {p p2 pos pos2 : Pos} (xo : XO g X E) (hm : X.mg "list" = none) (hm2 : X.mg "range" = none) (ha : ES g X E a ma) (hg : Gl X "list" := by rfl) (hg2 : Gl X "range" := by rfl) (hs : starEach [a] X.env = (false, eval a X.env) :: starEach [] X.env := by rfl)
    (hs2 : starEach [.Call (.Name "range" p2) [a] [] pos2] X.env = (false, eval (.Call (.Name "range" p2) [a] [] pos2) X.env) :: starEach [] X.env := by rfl) :
    ES g X E (.Call (.Name "list" p) [.Call (.Name "range" p2) [a] [] pos2] [] pos) (eNew (oLRng1 ma)) := by
  obtain ⟨ta, pa, sa⟩ := ha
  refine ⟨_, pe_listRg xo.calm hg hm (prg_1 hg2 hm2 pa hs) hs2, fun c σ e Q ok er hp => ?_⟩
  have hp' : PostG g c E (WE g c Q) ((ma e c.S).bind fun x S1 => (ofO ((rng1 x).map Ob.lst) S1).bind fun o S1 => .ok (.obj S1.length) (S1 ++ [o])) := by
    unfold eNew oLRng1 at hp
    cases h : ma e c.S with
    | bad => rw [h] at hp; exact hp
    | exc k S => rw [h] at hp; exact hp
    | ok x S => rw [h] at hp; exact hp
  show ta σ c.H _
  refine bindE (R := WE g c Q) sa ok er hp' fun c1 x v ok1 l1 r1 rx hp1 => ?_
  cases hx : rng1 x with
  | none => rw [hx] at hp1; exact hp1.elim
  | some xs =>
    rw [hx] at hp1
    obtain ⟨n, rfl, b1, b2, rfl⟩ := rng1_some hx
    exact ⟨n, rep_int.mp rx, rgOk_of ⟨by omega, by omega, b1, b2⟩, we_own ok1 (repL_rng _ 0 n (by omega)) (WE.later l1 r1 (hp1 : WE g c Q _ _))⟩
/-- list(range(a, b)) -/
theorem es_lrng2 {a b : Expr} {ma mb : ME} {p p2 pos pos2 : Pos} (xo : XO g X E) (hm : X.mg "list" = none) (hm2 : X.mg "range" = none) (ha : ES g X E a ma) (hb : ES g X E b mb) (hg : Gl X "list" := by rfl) (hg2 : Gl X "range" := by rfl) (hs : starEach [a, b] X.env = (false, eval a X.env) :: starEach [b] X.env := by rfl) (hsb : starEach [b] X.env = (false, eval b X.env) :: starEach [] X.env := by rfl)
    (hpb : (backTo pos2 (starEach [b] X.env)).any (·.1) = false := by rfl) (hs2 : starEach [.Call (.Name "range" p2) [a, b] [] pos2] X.env = (false, eval (.Call (.Name "range" p2) [a, b] [] pos2) X.env) :: starEach [] X.env := by rfl) :
    ES g X E (.Call (.Name "list" p) [.Call (.Name "range" p2) [a, b] [] pos2] [] pos) (eLRng2 ma mb) := by
  obtain ⟨ta, pa, sa⟩ := ha
  obtain ⟨tb, pb, sb⟩ := hb
  refine ⟨_, pe_listRg xo.calm hg hm (prg_2 hg2 hm2 pa pb hs hsb hpb) hs2, fun c σ e Q ok er hp => ?_⟩
  show ta σ c.H _
  refine bindE (R := WE g c Q) sa ok er hp fun c1 x v ok1 l1 r1 rx hp1 => ?_
  show tb σ c1.H _
  refine bindE (R := WE g c Q) sb ok1 (er.mono l1) hp1 fun c2 y w ok2 l2 r2 ry hp2 => ?_
  obtain ⟨z, hz, q⟩ := PostG.ofO (α := Sm.D) hp2
  obtain ⟨xs, hx, rfl⟩ := Option.map_eq_some_iff.mp hz
  obtain ⟨i, j, rfl, rfl, hb, rfl⟩ := rng2_some hx
  exact ⟨i, j, rep_int.mp (Rep.mono l2 _ _ rx), rep_int.mp ry, rgOk_of hb, we_newL ok2 (repL_rng _ i j rfl) (WE.later (l1.trans l2) (r2.trans r1) (q : WE g c Q _ _))⟩
/-! quiet operators -/
theorem kEqB_some {x y : Sm.D} {b : Bool} (h : kEqB x y = some b) : (∃ i j, x = .int i ∧ y = .int j ∧ b = decide (i = j)) ∨ ∃ i j, x = .str i ∧ y = .str j ∧ b = decide (i = j) := by
  cases x <;> cases y <;> first | (cases h; done) | skip
  · cases h; exact .inl ⟨_, _, rfl, rfl, rfl⟩
  · cases h; exact .inr ⟨_, _, rfl, rfl, rfl⟩
theorem repU_str {c : Ct} {i : Tx} {u : Value} (h : RepU c (.str i) u) : ∃ t, u = .str (sS i) t := by
  obtain ⟨v, h1, h2⟩ := h
  rw [rep_str] at h1
  subst h1
  exact h2
theorem beqD {α : Type} [DecidableEq α] [BEq α] [LawfulBEq α] (a b : α) : (a == b) = decide (a = b) := by
  by_cases h : a = b <;> simp [h]
theorem qo_eq : QO g X (compareOp .Eq) kEq := by
  intro c pins σ s₁ s₂ A' E' x y u w z I ok old hA ru rw' hz
  obtain ⟨b, hb, rfl⟩ := Option.map_eq_some_iff.mp hz
  rcases kEqB_some hb with ⟨i, j, rfl, rfl, rfl⟩ | ⟨i, j, rfl, rfl, rfl⟩
  · obtain ⟨t, rfl⟩ := repU_int.mp ru
    obtain ⟨t', rfl⟩ := repU_int.mp rw'
    exact PyProof.Rows.eq_int ⟨repU_bl.mpr (by simp [beqD]), keepsR _⟩
  · obtain ⟨t, rfl⟩ := repU_str ru
    obtain ⟨t', rfl⟩ := repU_str rw'
    exact PyProof.Rows.eq_str ⟨repU_bl.mpr (by rw [sS_beq, beqD]), keepsR _⟩
theorem qo_ne : QO g X (compareOp .NotEq) kNe := by
  intro c pins σ s₁ s₂ A' E' x y u w z I ok old hA ru rw' hz
  obtain ⟨b, hb, rfl⟩ := Option.map_eq_some_iff.mp hz
  rcases kEqB_some hb with ⟨i, j, rfl, rfl, rfl⟩ | ⟨i, j, rfl, rfl, rfl⟩
  · obtain ⟨t, rfl⟩ := repU_int.mp ru
    obtain ⟨t', rfl⟩ := repU_int.mp rw'
    exact PyProof.Rows.ne_int ⟨repU_bl.mpr (by simp [bne, beqD]), keepsR _⟩
  · obtain ⟨t, rfl⟩ := repU_str ru
    obtain ⟨t', rfl⟩ := repU_str rw'
    exact PyProof.Rows.ne_str ⟨repU_bl.mpr (by rw [bne, sS_beq, beqD]), keepsR _⟩
theorem qo_mod : QO g X (binaryOp .Mod) oMod := qo_intI (f := fun i j => i.fmod j) (C := fun _ j => j ≠ 0) (fun S x y z e => by
    unfold oMod at e
    split at e
    · rename_i a b
      split at e
      · cases e
        exact ⟨_, _, rfl, rfl, by assumption, rfl⟩
      · cases e
    · cases e) fun i j t u s A Q E hc q => mod_int' hc q
theorem qo_mul : QO g X (binaryOp .Mult) kMul := qo_intI (f := fun i j => i * j) (C := CMul) (fun S x y z e => by
    unfold kMul at e
    split at e
    · rename_i a b
      split at e
      · cases e
        rename_i hb
        exact ⟨_, _, rfl, rfl, by unfold CMul; rw [big_eq] at hb; exact hb, rfl⟩
      · cases e
    · cases e) fun i j t u s A Q E hc q => PyProof.Rows.mul_int q hc.ok
end
end Sm
end

section
set_option linter.all false
set_option autoImplicit false
set_option maxRecDepth 100000
namespace Sm
/-- o[i] op= v, o a list of the store, i not below nought -/
def sSubAug (f : Store → D → D → Option D) (o i v : ME) : MS := fun e S => (o e S).bind fun x S1 => (i e S1).bind fun k S2 => match k with
  | .int z => if 0 ≤ z then match lstAt S2 x with
    | some (_, xs) => match xs[z.toNat]? with
      | some y => (v e S2).bind fun w S3 => match f S3 y w with
        | some n => match lstAt S3 x with
          | some (r, ys) => if z < (ys.length : Int) then .ok (.nx e) (S3.set r (.lst (ys.set z.toNat n))) else .bad
          | none => .bad
        | none => .bad
      | none => .bad
    | none => .bad
    else .bad
  | _ => .bad
/-- xs * n, a fresh list of the store -/
def eLMul (a b : ME) : ME := fun e S => (a e S).bind fun x S1 => (b e S1).bind fun y S2 => match viewM S2 x, y with
  | .lst xs, .int n => if -1000 < n ∧ n < 1000 ∧ xs.length ≤ 1000 then .ok (.obj S2.length) (S2 ++ [.lst ((List.replicate n.toNat xs).flatten)]) else .bad
  | _, _ => .bad
/-- tuple * n, n above nought -/
def oMulT (_ : Store) (x y : D) : Option D := match x, y with
  | .tup a, .int b => if 1 ≤ b ∧ b ≤ 1000 ∧ a.length ≤ 1000 ∧ a.isEmpty = false then some (.tup ((List.replicate b.toNat a).flatten)) else none
  | _, _ => none
/-- range(a, b, -1) -/
def rangeC (lo c : Int) : Nat → List D
  | 0 => []
  | n + 1 => .int lo :: rangeC (lo + c) c n
def iRange3 (r : MA) : MI := fun e S => (r e S).bind fun ds S1 => match ds with
  | [.int a, .int b, .int c] => if (-1000000 ≤ a ∧ a ≤ 1000000) ∧ (-1000000 ≤ b ∧ b ≤ 1000000) ∧ c = -1 then .ok (rangeC a (-1) (a - b).toNat, none) S1 else .bad
  | _ => .bad
/-! sum, max, min of tuples too -/
def bSumS (S : Store) (ds : List D) : Option D := match ds with
  | [.tup xs] => (intsD xs).map fun l => .int (sumI l)
  | ds => bSum S ds
def bMaxS (S : Store) (ds : List D) : Option D := match ds with
  | [.tup xs] => match intsD xs with
    | some (y :: r) => some (.int (maxI r y))
    | _ => none
  | ds => bMax S ds
def bMinS (S : Store) (ds : List D) : Option D := match ds with
  | [.tup xs] => match intsD xs with
    | some (y :: r) => some (.int (minI r y))
    | _ => none
  | ds => bMin S ds
/-- zip of two tuples, for a generator -/
def gZipT (r : MA) : MW := fun e S => (r e S).bind fun ds S1 => match ds with
  | [a, b] => match view S1 a, view S1 b with
    | .tup xs, .tup ys => .ok (zipD xs ys) S1
    | _, _ => .bad
  | _ => .bad
end Sm
end

section
set_option linter.all false
set_option autoImplicit false
set_option maxRecDepth 100000
/-! More mirrors: generators over d.values(), list.remove, sorted(..) as a fresh list, list(range(a, b, c)). -/
namespace Sm
def valsW (x : D) (S1 : Store) : Out (List D) := match dctM S1 x with
  | some kvs => .ok (kvs.map fun p => p.2) S1
  | none => .bad
def gVals (a : ME) : MW := fun e S => (a e S).bind fun x S1 => valsW x S1
/-- how many of range(a, b, c), c above nought -/
def cntC (a b c : Int) : Nat := if a < b then ((b - a - 1) / c + 1).toNat else 0
def rngP : List D → Option (List D)
  | [.int a, .int b, .int c] => if -1000000 ≤ a ∧ a ≤ 1000000 ∧ -1000000 ≤ b ∧ b ≤ 1000000 ∧ 0 < c ∧ c ≤ 1000000 then some (rangeC a c (cntC a b c)) else none
  | _ => none
/-- list(range(a, b, c)); for .. in range(a, b, c) -/
def eLRng3 (r : MA) : ME := fun e S => (r e S).bind fun ds S1 => ofO ((rngP ds).map .lst) S1
def rngPI (ds : List D) (S1 : Store) : Out (List D × Option Nat) := match rngP ds with
  | some xs => .ok (xs, none) S1
  | none => .bad
def iRangeP (r : MA) : MI := fun e S => (r e S).bind fun ds S1 => rngPI ds S1
/-- sorted(..) as a fresh list -/
def nSorted (S : Store) : List D → Option Ob
  | [x] => (seqD S x).bind fun xs => if okSort xs = true then some (.lst (sortB (leR false) xs)) else none
  | _ => none
/-- xs.remove(y), ints -/
def eLRem (o v : ME) : ME := fun e S => (o e S).bind fun x S1 => match lstAt S1 x with
  | some _ => (v e S1).bind fun y S2 => match lstAt S2 x with
    | some (r, xs) => match intsD xs, y with
      | some ns, .int i => match ixOf i ns with
        | some j => .ok .non (S2.set r (.lst (xs.eraseIdx j)))
        | none => .bad
      | _, _ => .bad
    | none => .bad
  | none => .bad
end Sm
end

section
set_option Elab.async false
set_option linter.all false
set_option autoImplicit false
set_option maxRecDepth 100000
set_option maxHeartbeats 4000000
namespace Sm
open PySem PySem.Spec PyProof.Rows L2
section
variable {g : Gx} {X : Cx} {E : XK}
def rGetL : V → V → Hp → VK → Prop := fun x y H Q => ∃ p xs i v, x = .ref p ∧ y = .int i ∧ H p = some (.lst xs) ∧ 0 ≤ i ∧ xs[i.toNat]? = some v ∧ Q v H
theorem get_list : PGet X rGetL := by
  intro pins s σ H o i ov iv Q I ro ri h
  obtain ⟨p, xs, k, v, rfl, rfl, hp, h0, hv, q⟩ := h
  cases ro
  obtain ⟨t, rfl⟩ := ri
  obtain ⟨its, r, pl, hz⟩ := I.list (SqL.of hp)
  obtain ⟨w, ew, rw'⟩ := r.get hv
  have hlt : k.toNat < xs.length := (List.getElem?_eq_some_iff.mp hv).1
  have hn := line63
  exact getItem_listL pl.isList h0 (by omega) ew ⟨v, H, I, rw', q⟩
theorem st_subaug {o i a : Expr} {mo mi m : ME} {op : Operator} {rd : V → V → Hp → VK → Prop} {f : Store → D → D → Option D} {pos tpos : Pos} (hop : InOp X op rd) (hr : SR g rd f) (h1 : ES g X E o mo) (h2 : ES g X E i mi) (h3 : ES g X E a m)
    (ha : ∀ ov iv new, augStore i ov iv new = (do holding [new, ov, iv] (setItem ov iv new); release [new, ov, iv] []; pure .next) := by intro _ _ _; rfl) :
    ST g X E (.AugAssign (.Subscript o i tpos) op a pos) (sSubAug f mo mi m) := by
  obtain ⟨to, po, so⟩ := h1
  obtain ⟨ti, pi, si⟩ := h2
  obtain ⟨ta, pa, sa⟩ := h3
  exact ⟨_, ps_augS po pi get_list pa hop set_list ha, fun c σ e D ok er hp => by
    show to σ c.H _
    refine bindE (R := WF g c D) so ok er hp fun c1 x v ok1 l1 r1 rx hp1 => ?_
    show ti σ c1.H _
    refine bindE (R := WF g c D) si ok1 (er.mono l1) hp1 fun c2 k u ok2 l2 r2 rk hp2 => ?_
    split at hp2
    · rename_i z
      by_cases h0 : 0 ≤ z
      · rw [if_pos h0] at hp2
        split at hp2
        · rename_i r0 xs h4
          obtain ⟨e0, hl, hS, e2, vs, h3, h5⟩ := lstAt_of ok2 (Rep.mono l2 _ _ rx) h4
          split at hp2
          · rename_i y hy
            obtain ⟨w, hw, rw1⟩ := repL_get h5 hy
            refine ⟨c2.ι r0, vs, z, w, e2, rep_int.mp rk, h3, h0, hw, ?_⟩
            show ta σ c2.H _
            refine bindE (R := WF g c D) sa ok2 (er.mono (l1.trans l2)) hp2 fun c3 q t ok3 l3 r3 rq hp3 => ?_
            split at hp3
            · rename_i n hn
              refine hr c3 y q w t _ n ok3 (Rep.mono l3 _ _ rw1) rq hn fun c4 qv ok4 l4 r4 s4 rn => ?_
              rw [← s4] at hp3
              split at hp3
              · rename_i r1' ys h6
                obtain ⟨e1, hl1, hS1, e3, vs1, h7, h8⟩ := lstAt_of ok4 (Rep.mono (l2.trans (l3.trans l4)) _ _ rx) h6
                by_cases hz : z < (ys.length : Int)
                · rw [if_pos hz] at hp3
                  obtain ⟨c5, ok5, l5, r5, s5, h9⟩ := put_lst ok4 hl1 hS1 h7 (repL_set rn z.toNat h8)
                  refine ⟨c4.ι r1', vs1, z, z.toNat, e3, rep_int.mp rk, h7, ?_, ?_⟩
                  · rw [ixZ_eq, repL_len h8]; unfold ixZ; rw [if_pos h0, if_pos hz]
                  rw [← h9]
                  exact hp3 c5 σ ok5 (l1.trans (l2.trans (l3.trans (l4.trans l5)))) (r5.trans (r4.trans (r3.trans (r2.trans r1)))) s5 (er.mono (l1.trans (l2.trans (l3.trans (l4.trans l5)))))
                · rw [if_neg hz] at hp3; exact hp3.elim
              · exact hp3.elim
            · exact hp3.elim
          · exact hp2.elim
        · exact hp2.elim
      · rw [if_neg h0] at hp2; exact hp2.elim
    · exact hp2.elim⟩
theorem qb_cmp {scope : Scope} {own : List (Str × Nat)} {op : CmpOp} {f : Store → Sm.D → Sm.D → Option Sm.D} {a b : Expr} {ma mb : ME} {pos : Pos} (qo : QO g X (compareOp op) f) (hm : behindInMarks op b = false) (qa : QE g X scope own a ma) (qb : QE g X scope own b mb) : QB g X scope own (.Compare a [op] [b] pos) (Sm.tB (eOp f ma mb)) :=
  fun c pins σ s₁ s₂ e cenv A' E' m₂ r S' I ok q hA he => by
    unfold Sm.tB at he
    cases h : eOp f ma mb e c.S with
    | bad => rw [h] at he; cases he
    | exc k S => rw [h] at he; cases he
    | ok d S1 =>
      rw [h] at he
      cases d <;> first | (cases he; done) | skip
      cases he
      obtain ⟨h1, h2⟩ := q_two (m₂ := m₂) qa qb I ok q hA h qo
      refine ⟨h1, wpAny_isTrue_Compare1 (wpAny_mono h2 (fun v s3 hv => wpAny_mono hv (fun u s4 hu => wpAny_mono hu (fun t s5 ⟨rt, k⟩ => ?_) fun _ _ x => x) fun _ _ x => x) fun _ _ x => x) hm⟩
      obtain rfl := repU_bl.mp rt
      exact wpAny_truthy_bool ⟨rfl, k⟩
theorem es_lmul {a b : Expr} {ma mb : ME} {pos : Pos} (ha : ES g X E a ma) (hb : ES g X E b mb) : ES g X E (.BinOp a .Mult b pos) (eLMul ma mb) := by
  obtain ⟨ta, pa, sa⟩ := ha
  obtain ⟨tb, pb, sb⟩ := hb
  refine ⟨_, pe_op op_rep pa pb, fun c σ e Q ok er hp => ?_⟩
  show ta σ c.H _
  refine bindE (R := WE g c Q) sa ok er hp fun c1 x v ok1 l1 r1 rx hp1 => ?_
  show tb σ c1.H _
  refine bindE (R := WE g c Q) sb ok1 (er.mono l1) hp1 fun c2 y u ok2 l2 r2 ry hp2 => ?_
  split at hp2
  · rename_i xs n ea
    by_cases hn : -1000 < n ∧ n < 1000 ∧ xs.length ≤ 1000
    · rw [if_pos hn] at hp2
      obtain ⟨p, vs, rfl, h1, h2⟩ := see_mut ok2 (Rep.mono l2 _ _ rx) ea
      refine ⟨p, n, vs, rfl, rep_int.mp ry, h1, by omega, by omega, ?_, we_own ok2 (repL_rep h2 _) (WE.later (l1.trans l2) (r2.trans r1) (hp2 : WE g c Q _ _))⟩
      rw [repL_len h2]
      have h3 : n.toNat ≤ 1000 := by omega
      have h4 : xs.length * n.toNat ≤ 1000 * 1000 := Nat.mul_le_mul hn.2.2 h3
      exact Nat.le_trans h4 (by rw [sizeLine_eq]; decide)
    · rw [if_neg hn] at hp2; exact hp2.elim
  · exact hp2.elim
end
end Sm
end

section
set_option Elab.async false
set_option linter.all false
set_option autoImplicit false
set_option maxRecDepth 100000
set_option maxHeartbeats 4000000
namespace Sm
open PySem PySem.Spec PyProof.Rows L2
open PySem.SeqAt
open AutoSeq1 (wpAny_loadPart')
theorem tuple_mulW1 (l : Addr) (items : Array Value) (n : Nat) (dd : Option Addr) (sl : Array (Option Value)) (u : Tok) :
    Meets (Builtin.«tuple.__mul__» ⟨[.ref l, .int 1 u], []⟩) (fun _ R s => s.heap.get? l = some { cls := .type "tuple", dict := dd, data := .seq items n, slots := sl } ∧ R (.ok (.ret (Value.ref l))) { s with heap := s.heap, toks := s.toks }) :=
  .of_wp fun prog w A R s h => by
    obtain ⟨hp, g, d, tk, os⟩ := s
    obtain ⟨hl, h⟩ := h
    have f1 := AutoSeq1.idx_int
    have c0 : (decide ((1 : Int) < -(2 ^ 63)) || decide ((1 : Int) ≥ 2 ^ 63)) = false := by decide
    have c1 : (items.isEmpty || (1 : Int) == 1) = true := by simp
    wp_walk using wpAny_loadPart' hl
    repeat (first
      | (refine wpAny_ite_false (decide_eq_false (by rw [c0]; exact Bool.false_ne_true)) ?_; wp_walk using wpAny_loadPart' hl)
      | (refine wpAny_ite_true (decide_eq_true c1) ?_; wp_walk using wpAny_loadPart' hl))
    exact ⟨_, rfl, h⟩
def rRepT1 (K : PySem.W.Frag) : R2 := fun x y H Q => ∃ l xs, x = .ref l ∧ y = .int 1 ∧ SqT K H l xs ∧ Q (.ref l) H
section
variable {g : Gx} {X : Cx} {E : XK}
theorem op_repT1 : OpR X (binaryOp .Mult) (rRepT1 X.K) := by
  intro pins s σ H x y v u Q I rx ry h
  obtain ⟨l, xs, rfl, rfl, hT, q⟩ := h
  cases rx
  obtain ⟨t, rfl⟩ := ry
  obtain ⟨its, r, ⟨⟨cls, dd, data, sl⟩, ho, hc, n, hd⟩, hs⟩ := I.tuple hT
  simp only at hc hd
  subst hc hd
  refine wpAny_binaryOp_repeat_ref (T := "tuple") (U := "int") (by decide) ⟨_, ho, rfl⟩ (fun s' => typeIs_int s' 1 t) noFill_tuple_mul F.fills_int_mul F.slot_int_rmul repeat_tuple F.slot_int_index.lookup
    (call_meets F.slot_int_rmul (typeIs_int s 1 t) F.entry_int_rmul (F.args_int_rmul_2 _ _) (int_rmul_tuple 1 t l its.toArray n dd sl)
      ⟨ho, rfl, ⟨_, ho, rfl⟩, call_meets F.slot_tuple_mul ⟨_, ho, rfl⟩ F.entry_tuple_mul (F.args_tuple_mul_2 _ _) (tuple_mulW1 l its.toArray n dd sl t) ⟨ho, ?_⟩⟩)
  exact ⟨.ref l, H, I, rfl, q⟩
abbrev rMulT (K : PySem.W.Frag) : R2 := fun x y H Q => rRepT K x y H Q ∨ rRepT1 K x y H Q
theorem op_mulT : OpR X (binaryOp .Mult) (rMulT X.K) := op_repT.or op_repT1
theorem sr_mulT {K : PySem.W.Frag} : SR g (rMulT K) oMulT := by
  intro c x y v u Q z ok rx ry e q
  unfold oMulT at e
  split at e
  · rename_i a b
    split at e
    · rename_i hb
      cases e
      obtain ⟨p, vs, rfl, h0, h1, h2⟩ := rep_tup.mp rx
      by_cases b1 : b = 1
      · subst b1
        refine .inr ⟨p, vs, rfl, rep_int.mp ry, SqT.of h1, q c _ ok (Le.refl c) (RsE.refl c) rfl ?_⟩
        have : (List.replicate (1 : Int).toNat a).flatten = a := by simp
        rw [this]
        exact rx
      · refine .inl ⟨p, b, vs, rfl, rep_int.mp ry, SqT.of h1, ?_, by omega, hb.2.1, by rw [repL_len h2]; exact hb.2.2.1, we_newT ok (repL_rep h2 _) q⟩
        intro e
        rw [e] at h2
        have := repL_len h2
        have h3 := hb.2.2.2
        cases a with
        | nil => cases h3
        | cons _ _ => simp at this
    · cases e
  · cases e
/-- a body that is never run -/
theorem sl_bad {st : List Stmt} : SL g X E st (fun _ _ => .bad) := ⟨fun _ _ _ => False, ⟨fun _ _ _ _ _ _ h => h.elim⟩, fun _ _ _ _ _ _ hp => hp.elim⟩
theorem rangeC_get {lo c : Int} : ∀ {n i : Nat} {d : Sm.D}, (rangeC lo c n)[i]? = some d → d = .int (lo + (i : Nat) * c) ∧ i < n := by
  intro n
  induction n generalizing lo with
  | zero => intro i d h; simp [rangeC] at h
  | succ n ih =>
    intro i d h
    cases i with
    | zero =>
      have h' : Sm.D.int lo = d := by simpa [rangeC] using h
      exact ⟨by rw [← h']; simp, Nat.succ_pos _⟩
    | succ i =>
      have h' : (rangeC (lo + c) c n)[i]? = some d := by simpa [rangeC] using h
      obtain ⟨h1, h2⟩ := ih h'
      refine ⟨?_, by omega⟩
      rw [h1]
      congr 1
      rw [Int.natCast_add, Int.add_mul]
      simp
      omega
theorem rangeC_len {c : Int} : ∀ (n : Nat) (lo : Int), (rangeC lo c n).length = n
  | 0, _ => rfl
  | n + 1, lo => by show (rangeC (lo + c) c n).length + 1 = n + 1; rw [rangeC_len n]
theorem jw_rngC {lo c0 : Int} {n : Nat} : JW g (Itc lo c0 n) (rangeC lo c0 n) (fun _ => True) where
  mono := fun _ _ _ _ => trivial
  stop := fun c ok _ => by show n ≤ (rangeC lo c0 n).length; rw [rangeC_len]; exact Nat.le_refl _
  go := fun c i d e ok _ => (rangeC_get e).2
  yld := fun c i d v H' e ok _ y => by
    obtain ⟨e1, e2⟩ := y
    obtain ⟨e3, _⟩ := rangeC_get e
    subst e3
    exact ⟨c, ok, Le.refl c, RsE.refl c, rfl, e1.symm, rep_int.mpr e2⟩
theorem is_range3 {tg a b d : Expr} {m : MA} {p pos : Pos} (hm : X.mg "range" = none) (hg : Gl X "range" := by rfl) (hs : starEach [a, b, d] X.env = (false, eval a X.env) :: starEach [b, d] X.env := by rfl) (hs2 : (backTo pos (starEach [b, d] X.env)).any (·.1) = false := by rfl) : AS g X E [a, b, d] m → IS g X E tg (.Call (.Name "range" p) [a, b, d] [] pos) (iRange3 m) :=
  fun ⟨ta, pa, sa, _⟩ => ⟨_, pi_range3 hg hm pa hs hs2, fun c σ e R ok er hp => by
    show ta σ c.H _
    refine bindA (R := WI g c R) sa ok er hp fun c1 ds vs ok1 l1 r1 rx hp1 => ?_
    split at hp1
    · rename_i n k q
      split at hp1
      · rename_i hb
        obtain ⟨v, r, rfl, h, hr⟩ := repL_cons.mp rx
        obtain ⟨u, r2, rfl, h', hr2⟩ := repL_cons.mp hr
        obtain ⟨x, r3, rfl, h'', hr3⟩ := repL_cons.mp hr2
        rw [repL_nil.mp hr3, rep_int.mp h, rep_int.mp h', rep_int.mp h'']
        obtain ⟨b1, b2, rfl⟩ := hb
        exact ⟨n, k, -1, (n - k).toNat, rfl, RgC.neg (by omega) (by omega) (by omega) (by omega), hp1 c1 _ _ ok1 l1 r1 rfl jw_rngC trivial (fun r h => by cases h)⟩
      · exact hp1.elim
    · exact hp1.elim⟩
theorem qb_and1 {scope : Scope} {own : List (Str × Nat)} {a : Expr} {ma : MB} {pos : Pos} (qa : QB g X scope own a ma) : QB g X scope own (.BoolOp .And [a] pos) ma :=
  fun c pins σ s₁ s₂ e cenv A' E' m₂ r S' I ok q hA he => by
    obtain ⟨h1, h2⟩ := qa c pins σ s₁ s₂ e cenv A' E' m₂ r S' I ok q hA he
    refine ⟨h1, isTrue_and (wpAny_mono h2 (fun b s3 hb => ?_) fun _ _ x => x)⟩
    obtain ⟨rfl, k⟩ := hb
    cases b with
    | true => exact isTrue_and_nil ⟨rfl, k⟩
    | false => exact ⟨rfl, k⟩
theorem qb_and2 {scope : Scope} {own : List (Str × Nat)} {a b : Expr} {r : List Expr} {ma mb : MB} {pos : Pos} (qa : QB g X scope own a ma) (qb : QB g X scope own (.BoolOp .And (b :: r) pos) mb) : QB g X scope own (.BoolOp .And (a :: b :: r) pos) (tAnd ma mb) :=
  fun c pins σ s₁ s₂ e cenv A' E' m₂ d S' I ok q hA he => by
    unfold tAnd at he
    cases h1 : ma e c.S with
    | bad => rw [h1] at he; cases he
    | exc k S => rw [h1] at he; cases he
    | ok x S1 =>
      rw [h1] at he
      obtain ⟨rfl, w1⟩ := qa c pins σ s₁ s₂ e cenv A' E' m₂ x S1 I ok q hA h1
      have he' : (if x = true then mb e c.S else .ok false c.S) = .ok d S' := he
      cases x with
      | true =>
        have h2 : mb e c.S = .ok d S' := he'
        refine ⟨(qb c pins σ s₁ s₂ e cenv A' E' m₂ d S' I ok q hA h2).1, isTrue_and (wpAny_mono w1 (fun v s3 hv => ?_) fun _ _ x => x)⟩
        obtain ⟨rfl, k3⟩ := hv
        exact wpAny_mono (qb c pins σ s₁ s3 e cenv A' E' m₂ d S' I ok (q.keeps k3) hA h2).2 (fun y s4 hy => ⟨hy.1, keeps_trans k3 hy.2⟩) fun _ _ x => x
      | false =>
        have h2 : Out.ok false c.S = .ok d S' := he'
        cases h2
        refine ⟨rfl, isTrue_and (wpAny_mono w1 (fun v s3 hv => ?_) fun _ _ x => x)⟩
        obtain ⟨rfl, k3⟩ := hv
        exact ⟨rfl, k3⟩
end
end Sm
end

section
set_option Elab.async false
set_option linter.all false
set_option autoImplicit false
set_option maxRecDepth 100000
/-! sum, max, min of a tuple of ints: the library has the walk over a tuple and the calls over any walk -/
namespace Sm
open PySem PyProof.Rows L2
section
variable {X : Cx}
/-- a tuple's walk begun -/
theorem begun {prog : Program} {w : World} {A : Around} {E Q : Value → Shared → Prop} {s : Shared} {l : Addr} {vs : Array Value} (tup : s.heap.IsTuple l vs) (k : ∀ g : Heap, g.IsTupleIter s.heap.objs.size l 0 ∧ g.IsTuple l vs → g.objs.size = s.heap.objs.size + 1 → l < s.heap.objs.size →
    (∀ g' : Heap, (∀ b o, b ∉ [s.heap.objs.size] → g.get? b = some o → g'.get? b = some o) → ∀ b o, s.heap.get? b = some o → g'.get? b = some o) → Q (.ref s.heap.objs.size) { s with heap := g }) : wpAny (model prog w) A (pyIter (.ref l)) Q E s :=
  have hl : l < s.heap.objs.size := tup.elim fun _ z => Heap.lt_size z.1
  wpAny_pyIter_tuple tup (k _ ⟨⟨_, Heap.get?_push_size _ rfl, rfl, rfl⟩, tup.push _⟩ (Heap.size_push _ _) hl fun g' kept b o e =>
    kept b o (fun m => Nat.ne_of_lt (Heap.lt_size e) (List.mem_singleton.mp m)) (Heap.get?_push_of_some _ e))
theorem two_below {n l m : Nat} (hl : l < n) (hm : m = n + 1) : ∀ b ∈ [n, l], b < m := fun b hb => by
  simp only [List.mem_cons, List.mem_nil_iff, or_false] at hb
  omega
theorem as_items {its : List Value} {ns : List Int} (r : IntsAre its ns) : ∃ ps : Array (Int × Tok), its.toArray = intItems ps ∧ ps.toList.map (·.1) = ns :=
  r.allInts.items.elim fun ps e => ⟨ps, e, by rw [← nums_intItems, ← e]; exact r.numsOf⟩
def rSumT (K : PySem.W.Frag) : List V → Hp → VK → Prop := fun vs H Q => ∃ (p : Addr) (is : List Int), vs = [.ref p] ∧ SqT K H p (is.map V.int) ∧ Q (.int is.sum) H
/-- the greatest or the least (c: does a come before b) -/
def rBestT (c : Int → Int → Prop) (K : PySem.W.Frag) : List V → Hp → VK → Prop := fun vs H Q => ∃ (p : Addr) (is : List Int), vs = [.ref p] ∧ SqT K H p (is.map V.int) ∧ is ≠ [] ∧ ∀ m ∈ is, (∀ y ∈ is, c y m) → Q (.int m) H
theorem cr_sumT (hc : X.calm = true) : CallR X (.builtin "sum") (rSumT X.K) := by
  rintro pins s σ H vs us Q I r ⟨a, ns, rfl, hs, q⟩
  obtain ⟨its, rv, tup, -⟩ := I.tuple hs
  obtain ⟨ps, e1, e2⟩ := as_items rv.ints
  rw [Vals.ref1 r]
  rw [e1] at tup
  refine call_sum_walkG (begun tup fun g st sz lt old => ⟨_, _, _, _, _, _, numAt ps, rfl, Walks.tuple (prog := X.prog) (w := X.w) (A := X.A.in1) (I.ok.hd hc) _ a (Nat.ne_of_lt lt) (intItems ps), st, two_below lt sz, fun _ _ => intItems_at, fun g' tk t kept => ?_⟩)
  have ez : preSum (numAt ps) (intItems ps).size = ns.sum := by
    rw [preSum_eq, ← e2, List.take_of_length_le (by simp [intItems])]
  rw [ez]
  exact ⟨.int ns.sum, H, I.kept (old g' kept), ⟨_, rfl⟩, q⟩
/-- the best by argBest, among the numbers -/
theorem best_mem {ps : Array (Int × Tok)} {ns : List Int} (e2 : ps.toList.map (·.1) = ns) (h0 : ns ≠ []) {j : Nat} (hj : j ≤ ps.size - 1) : numAt ps j ∈ ns := by
  have hp : ps.size = ns.length := by rw [← e2]; simp
  have hn : 0 < ns.length := List.length_pos_iff.mpr h0
  rw [numAt_eq, e2, List.getD_eq_getElem?_getD, List.getElem?_eq_getElem (by omega)]
  exact List.getElem_mem _
theorem best_all {ps : Array (Int × Tok)} {ns : List Int} (e2 : ps.toList.map (·.1) = ns) {R : Int → Prop} (hR : ∀ j, j ≤ ps.size - 1 → R (numAt ps j)) : ∀ y ∈ ns, R y := fun y hy => by
  obtain ⟨j, hj, rfl⟩ := List.mem_iff_getElem.mp hy
  have hp : ps.size = ns.length := by rw [← e2]; simp
  have e3 := hR j (by omega)
  rwa [numAt_eq, e2, List.getD_eq_getElem?_getD, List.getElem?_eq_getElem hj] at e3
theorem cr_maxT (hc : X.calm = true) : CallR X (.builtin "max") (rBestT (fun y m => y ≤ m) X.K) := by
  rintro pins s σ H vs us Q I r ⟨a, ns, rfl, hs, h0, q⟩
  obtain ⟨its, rv, tup, -⟩ := I.tuple hs
  obtain ⟨ps, e1, e2⟩ := as_items rv.ints
  rw [Vals.ref1 r]
  rw [e1] at tup
  have pos : 0 < (intItems ps).size := by
    have := List.length_pos_iff.mpr h0
    rw [← e2] at this
    simpa [intItems] using this
  have es : (intItems ps).size = ps.size := by simp [intItems]
  refine call_max_walk (begun tup fun g st sz lt old => ⟨_, _, _, _, _, _, _, rfl, Walks.tuple (prog := X.prog) (w := X.w) (A := X.A.in1) (I.ok.hd hc) _ a (Nat.ne_of_lt lt) (intItems ps), st, two_below lt sz, pos, CmpOf.ints_gt (numAt ps) fun _ _ => intItems_at, fun v g' tk at_ kept => ?_⟩)
  rw [es] at at_
  obtain ⟨t, rfl⟩ := intItems_at at_
  obtain ⟨b1, b2⟩ := argBest_gt (numAt ps) (ps.size - 1)
  exact ⟨.int _, H, I.kept (old g' kept), ⟨_, rfl⟩, q _ (best_mem e2 h0 b1) (best_all e2 b2)⟩
theorem cr_minT (hc : X.calm = true) : CallR X (.builtin "min") (rBestT (fun y m => m ≤ y) X.K) := by
  rintro pins s σ H vs us Q I r ⟨a, ns, rfl, hs, h0, q⟩
  obtain ⟨its, rv, tup, -⟩ := I.tuple hs
  obtain ⟨ps, e1, e2⟩ := as_items rv.ints
  rw [Vals.ref1 r]
  rw [e1] at tup
  have pos : 0 < (intItems ps).size := by
    have := List.length_pos_iff.mpr h0
    rw [← e2] at this
    simpa [intItems] using this
  have es : (intItems ps).size = ps.size := by simp [intItems]
  refine call_min_walk (begun tup fun g st sz lt old => ⟨_, _, _, _, _, _, _, rfl, Walks.tuple (prog := X.prog) (w := X.w) (A := X.A.in1) (I.ok.hd hc) _ a (Nat.ne_of_lt lt) (intItems ps), st, two_below lt sz, pos, CmpOf.ints_lt (numAt ps) fun _ _ => intItems_at, fun v g' tk at_ kept => ?_⟩)
  rw [es] at at_
  obtain ⟨t, rfl⟩ := intItems_at at_
  obtain ⟨b1, b2⟩ := PySem.argBest_lt (numAt ps) (ps.size - 1)
  exact ⟨.int _, H, I.kept (old g' kept), ⟨_, rfl⟩, q _ (best_mem e2 h0 b1) (best_all e2 b2)⟩
/-! the mirrors -/
theorem scS_sum {g : Gx} {K : PySem.W.Frag} : SC g (fun xs H Q => rSum K xs H Q ∨ rSumT K xs H Q) bSumS := by
  intro c xs vs Q z ok r e q
  unfold bSumS at e
  split at e
  · rename_i ds
    cases hl : intsD ds with
    | none => rw [hl] at e; cases e
    | some l =>
      rw [hl] at e; cases e
      obtain ⟨v, rfl, h⟩ := rep1 r
      obtain ⟨a, ws, rfl, _, h1, h2⟩ := rep_tup.mp h
      have h3 := intsD_of hl h2
      subst h3
      refine .inr ⟨a, l, rfl, SqT.of h1, ?_⟩
      rw [sumI_eq]
      exact we_int ok q
  · exact .inl (sc_sum c _ vs Q z ok r e q)
theorem scS_max {g : Gx} {K : PySem.W.Frag} : SC g (fun xs H Q => rMaxAll K xs H Q ∨ rBestT (fun y m => y ≤ m) K xs H Q) bMaxS := by
  intro c xs vs Q z ok r e q
  unfold bMaxS at e
  split at e
  · rename_i ds
    split at e
    · rename_i y l hl
      cases e
      obtain ⟨v, rfl, h⟩ := rep1 r
      obtain ⟨a, ws, rfl, _, h1, h2⟩ := rep_tup.mp h
      have h3 := intsD_of hl h2
      subst h3
      refine .inr ⟨a, y :: l, rfl, SqT.of h1, by simp, fun m hm hle => ?_⟩
      obtain ⟨s1, s2, s3⟩ := maxI_spec l y
      have up : m ≤ maxI l y := (List.mem_cons.mp hm).elim (fun z => z ▸ s2) (s3 m)
      have dn : maxI l y ≤ m := hle _ (List.mem_cons.mpr s1)
      rw [Int.le_antisymm up dn]
      exact we_int ok q
    · cases e
  · exact .inl (sc_max c _ vs Q z ok r e q)
theorem scS_min {g : Gx} {K : PySem.W.Frag} : SC g (fun xs H Q => rMinAll K xs H Q ∨ rBestT (fun y m => m ≤ y) K xs H Q) bMinS := by
  intro c xs vs Q z ok r e q
  unfold bMinS at e
  split at e
  · rename_i ds
    split at e
    · rename_i y l hl
      cases e
      obtain ⟨v, rfl, h⟩ := rep1 r
      obtain ⟨a, ws, rfl, _, h1, h2⟩ := rep_tup.mp h
      have h3 := intsD_of hl h2
      subst h3
      refine .inr ⟨a, y :: l, rfl, SqT.of h1, by simp, fun m hm hle => ?_⟩
      obtain ⟨s1, s2, s3⟩ := minI_spec l y
      have dn : minI l y ≤ m := (List.mem_cons.mp hm).elim (fun z => z ▸ s2) (s3 m)
      have up : m ≤ minI l y := hle _ (List.mem_cons.mpr s1)
      rw [Int.le_antisymm up dn]
      exact we_int ok q
    · cases e
  · exact .inl (sc_min c _ vs Q z ok r e q)
end
end Sm
end

section
set_option Elab.async false
set_option linter.all false
set_option autoImplicit false
set_option maxRecDepth 100000
set_option maxHeartbeats 4000000
namespace Sm
open PySem PySem.Spec PyProof.Rows L2
theorem not_in2 {x y z : Nat} (h1 : x ≠ y) (h2 : x ≠ z) : (x : Addr) ∉ [(y : Addr), (z : Addr)] := fun m => (List.mem_cons.mp m).elim h1 fun q => h2 (List.mem_singleton.mp q)
/-- the places of a zip of tuples lie apart -/
theorem zip_sep {n a b : Nat} (ha : a < n) (hb : b < n) : ZipSep2 (n + 4 : Nat) (n + 2 : Nat) (n + 3 : Nat) n (n + 1 : Nat) [n, a] [(n + 1 : Nat), b] where
  TIz := show (n + 2 : Nat) ≠ n + 4 by omega
  TOz := show (n + 3 : Nat) ≠ n + 4 by omega
  TITO := show (n + 2 : Nat) ≠ n + 3 by omega
  TIi1 := show (n + 2 : Nat) ≠ n by omega
  mem1 := List.mem_cons_self
  zf1 := not_in2 (by omega) (by omega)
  Tf1 := not_in2 (by omega) (by omega)
  TIi2 := show (n + 2 : Nat) ≠ n + 1 by omega
  mem2 := List.mem_cons_self
  zf2 := not_in2 (by omega) (by omega)
  Tf2 := not_in2 (by omega) (by omega)
  sep1_2 := not_in2 (by omega) (by omega)
  sep2_1 := not_in2 (by omega) (by omega)
section
variable {g : Gx} {X : Cx} {E : XK}
theorem gZipT_bind {c : Ct} {e : Sm.Env} {S : Store} {ma : MA} {β : Type} {R : β → Store → Prop} {k : List Sm.D → Store → Out β} (h : PostG g c E R ((gZipT ma e S).bind k)) :
    PostG g c E R ((ma e S).bind fun ds S1 => match ds with
      | [a, b] => (match view S1 a, view S1 b with
        | .tup xs, .tup ys => k (zipD xs ys) S1
        | _, _ => .bad)
      | _ => .bad) := by
  unfold gZipT at h
  cases q : ma e S with
  | bad => rw [q] at h; exact h
  | exc j S => rw [q] at h; exact h
  | ok ds S1 =>
    rw [q] at h
    have h' : PostG g c E R ((match (generalizing := false) ds with
      | [a, b] => (match view S1 a, view S1 b with
        | .tup xs, .tup ys => .ok (zipD xs ys) S1
        | _, _ => .bad)
      | _ => .bad : Out (List Sm.D)).bind k) := h
    show PostG g c E R (match (generalizing := false) ds with
      | [a, b] => (match view S1 a, view S1 b with
        | .tup xs, .tup ys => k (zipD xs ys) S1
        | _, _ => .bad)
      | _ => .bad)
    revert h'
    split
    · split <;> exact id
    · exact id
/-- for a, b in zip(xs, ys) -/
theorem gj_zipT {k : Nat} {elt e1 e2 : Expr} {ifs : List Expr} {scope : Scope} {xa xb : Str} {ja jb : Nat} {pa pb pt gpos p zpos : Pos} {kt : Nat} {cA P : Addr} {ma : MA} {me : ME} {mt : MB} (hr : Room k X.A) (TB : LamX.TabB X.base X.mg cA P) (hcode : X.env.code = .ref cA) (hmT : (P, X.env.qual ++ "<genexpr>") ∈ g.tabs) (hu : ∀ p ∈ g.tabs, p.1 = P → p.2 = X.env.qual ++ "<genexpr>")
    (S : GenOk X.N X.env.scope scope [(xa, ja), (xb, jb)]) (hab : xa ≠ xb) (hj : ja ≠ jb) (hm : X.mg "zip" = none) (hi : AS g X E [e1, e2] ma) (hel : QE g X scope [(xa, ja), (xb, jb)] elt me) (hif : QI g X scope [(xa, ja), (xb, jb)] ifs mt)
    (hg : Gl X "zip" := by rfl) (hs1 : starEach [e1, e2] X.env = (false, eval e1 X.env) :: starEach [e2] X.env := by rfl) (hpl : (backTo zpos (starEach [e2] X.env)).any (·.1) = false := by rfl) (hs : ∀ v, genFold (.Call (.Name "zip" p) [e1, e2] [] zpos) X.env v = pure v := by intro _; rfl) :
    GenJ g X E (.GeneratorExp elt [⟨.Tuple [.Name xa pa, .Name xb pb] kt pt, .Call (.Name "zip" p) [e1, e2] [] zpos, ifs, 0⟩] scope gpos) (mGen (gZipT ma) (gT [gN ja, gN jb]) mt me) :=
  fun pins σ c e s β R h Q' I ok er hp hQ => by
    obtain ⟨hxl, hxN⟩ := S.loc (xa, ja) List.mem_cons_self
    obtain ⟨hxl2, hxN2⟩ := S.loc (xb, jb) (List.mem_cons_of_mem _ List.mem_cons_self)
    obtain ⟨ti, pi, si, _⟩ := hi
    refine wpAny_GeneratorExp_walksQT hr.hd S.co (closure_ok fun y hy e => (S.free y hy e).elim (fun k => I.ok.has _ (.inl k)) fun k => I.ok.has _ (.inr k)) S.nocell S.dot hxl hxl2 hab S.kind (by have := hr.dp; omega) ?_ hs
    refine Call_ (ld_blt I hg hm PyProof.Rows.boot_zip (PyProof.Rows.callWith_type1 (thn (pi.run zpos pins s σ c.H (fun vs H1 => ∃ c1 ds, c1.H = H1 ∧ Ok g c1 ∧ Le c c1 ∧ RsE c1 c ∧ RepL c1 ds vs ∧ PostG g c1 E R (match ds with
      | [a, b] => (match view c1.S a, view c1.S b with
        | .tup xs, .tup ys => (match genL (turnG (gT [gN ja, gN jb]) mt me e c1.S) (zipD xs ys) with
          | some ys => h ys c1.S
          | none => .bad)
        | _, _ => .bad)
      | _ => .bad)) I (bindA (R := R) si ok er (gZipT_bind (mGen_bind hp)) fun c1 d v ok1 l1 r1 rx hp1 => ⟨c1, d, rfl, ok1, l1, r1, rx, hp1⟩)) fun us s1 ⟨vs, H1, I1, r1, c1, ds, ec, ok1, l1, re1, rd, hp1⟩ => ?_) hs1 hpl))
    subst ec
    split at hp1
    · rename_i a b
      split at hp1
      · rename_i xs ys ex ey
        obtain ⟨v, u, rfl, rv, ru⟩ := rep2 rd
        cases r1 with
        | cons q1 qq =>
          cases qq with
          | cons q2 qq =>
            cases qq
            rename_i w1 w2
            obtain ⟨aL, its, vs1, rfl, rv1, rl1, pl1, hz1⟩ := seeT I1 ok1 (fun _ _ _ h _ _ => h) ⟨v, rv, q1⟩ ex
            obtain ⟨bL, its2, vs2, rfl, rv2, rl2, pl2, hz2⟩ := seeT I1 ok1 (fun _ _ _ h _ _ => h) ⟨u, ru, q2⟩ ey
            cases hg2 : genL (turnG (gT [gN ja, gN jb]) mt me e c1.S) (zipD xs ys) with
            | none => rw [hg2] at hp1; exact hp1.elim
            | some zs =>
              rw [hg2] at hp1
              obtain ⟨ps, hP, _⟩ := ok1.tabs _ hmT
              have hPs : s1.heap.get? P = some { cls := .none, data := .fields ps } := I1.hok P _ hP
              have hPlt : P < s1.heap.objs.size := Heap.lt_size hPs
              have notP : ∀ {a : Addr} {its : Array Value}, s1.heap.IsTuple a its → a ≠ P := fun {a its} pl z => by
                obtain ⟨o, e1, _, n, e2⟩ := pl
                rw [z, hPs] at e1
                cases e1
                cases e2
              refine RZ.call_zipT pl1 pl2 fun h' hz hTI hTO h1 h2 hsz hk => wpAny_pyIter_zip hz ?_
              have lenZ : (zipD xs ys).length = min its.toArray.size its2.toArray.size := by
                rw [zipD_len, List.size_toArray, List.size_toArray, ← rv1.length, ← rv2.length, repL_len rl1, repL_len rl2]
              have leP : ∀ n : Nat, P ≠ s1.heap.objs.size + n := fun n z => by
                have := hPlt
                rw [z] at this
                exact absurd this (Nat.not_lt_of_le (Nat.le_add_right _ _))
              have leP0 : P ≠ s1.heap.objs.size := leP 0
              have la0 : aL < s1.heap.objs.size := pl1.elim fun _ z => Heap.lt_size z.1
              have lb0 : bL < s1.heap.objs.size := pl2.elim fun _ z => Heap.lt_size z.1
              refine gen_core2 (h₁ := h') (n₀ := min its.toArray.size its2.toArray.size) TB hcode hmT hu S hel hif I1 ok1 (er.mono l1) hk (by omega) ?_ ?_ ?_ hab hj lenZ (fun i vals hv => ?_) (fun i va vb hv => ?_)
                (fun A' hA => (WalksT.zipD2 (zip_sep la0 lb0) (Draws.tuple (A := A'.in1) hA s1.heap.objs.size aL (Nat.ne_of_lt la0) its.toArray) (Draws.tuple (A := A'.in1) hA (s1.heap.objs.size + 1) bL (Nat.ne_of_lt (Nat.lt_succ_of_lt lb0)) its2.toArray)).toU) (fun hh hkk => ?_) hg2 fun ga s5 hrdy => hQ c1 zs ga s5 ok1 l1 re1 hp1 hrdy
              · intro b hb
                have e5 : (h'.objs.size : Nat) = s1.heap.objs.size + 5 := hsz
                simp only [List.cons_append, List.nil_append, List.mem_cons, List.mem_nil_iff, or_false] at hb
                have la := la0
                have lb := lb0
                rcases hb with z | z | z | z | z | z | z
                all_goals
                  rw [z]
                  first
                    | exact (show (s1.heap.objs.size : Nat) + 4 < h'.objs.size by omega)
                    | exact (show (s1.heap.objs.size : Nat) + 2 < h'.objs.size by omega)
                    | exact (show (s1.heap.objs.size : Nat) + 3 < h'.objs.size by omega)
                    | exact (show (s1.heap.objs.size : Nat) < h'.objs.size by omega)
                    | exact (show (s1.heap.objs.size : Nat) + 1 < h'.objs.size by omega)
                    | exact Nat.lt_of_lt_of_le la (show (s1.heap.objs.size : Nat) ≤ h'.objs.size by omega)
                    | exact Nat.lt_of_lt_of_le lb (show (s1.heap.objs.size : Nat) ≤ h'.objs.size by omega)
              · intro b hb
                simp only [List.cons_append, List.nil_append, List.mem_cons, List.mem_nil_iff, or_false] at hb
                rcases hb with z | z | z | z
                all_goals
                  rw [z]
                  first
                    | exact Nat.le_add_right _ _
                    | exact Nat.le_refl _
              · intro b hb
                have e5 : (h'.objs.size : Nat) = s1.heap.objs.size + 5 := hsz
                simp only [List.cons_append, List.nil_append, List.mem_cons, List.mem_nil_iff, or_false] at hb
                rcases hb with z | z | z | z
                all_goals
                  rw [z]
                  first
                    | exact (show (s1.heap.objs.size : Nat) + 4 < h'.objs.size by omega)
                    | exact (show (s1.heap.objs.size : Nat) + 3 < h'.objs.size by omega)
                    | exact (show (s1.heap.objs.size : Nat) < h'.objs.size by omega)
                    | exact (show (s1.heap.objs.size : Nat) + 1 < h'.objs.size by omega)
              · obtain ⟨x, y, _, _, rfl⟩ := hv
                exact ⟨x, y, rfl⟩
              · obtain ⟨x, y, hx, hy, evs⟩ := hv
                have e1 : va = x ∧ vb = y := by simpa using evs
                obtain ⟨rfl, rfl⟩ := e1
                have hx2 : its[i]? = some va := by simpa using hx
                have hy2 : its2[i]? = some vb := by simpa using hy
                have ix : i < xs.length := by rw [← repL_len rl1, rv1.length]; exact (List.getElem?_eq_some_iff.mp hx2).1
                have iy : i < ys.length := by rw [← repL_len rl2, rv2.length]; exact (List.getElem?_eq_some_iff.mp hy2).1
                obtain ⟨w1, h3, h4⟩ := repL_get rl1 (List.getElem?_eq_getElem ix)
                obtain ⟨w2, h5, h6⟩ := repL_get rl2 (List.getElem?_eq_getElem iy)
                obtain ⟨t1, h7, h8⟩ := rv1.get h3
                obtain ⟨t2, h9, h10⟩ := rv2.get h5
                rw [hx2] at h7
                rw [hy2] at h9
                cases h7
                cases h9
                exact ⟨xs[i], ys[i], zipD_at (List.getElem?_eq_getElem ix) (List.getElem?_eq_getElem iy), ⟨w1, h4, h8⟩, w2, h6, h10⟩
              · exact ⟨hkk _ _ (leP 4).symm hz, hkk _ _ (leP 2).symm hTI, ⟨_, _, hkk _ _ (leP 3).symm hTO⟩, ⟨h1.at fun o e => hkk _ o leP0.symm e, pl1.elim fun o z => ⟨o, hkk _ _ (notP pl1) (hk _ _ z.1), z.2⟩⟩, h2.at fun o e => hkk _ o (leP 1).symm e,
                  pl2.elim fun o z => ⟨o, hkk _ _ (notP pl2) (hk _ _ z.1), z.2⟩⟩
      · exact hp1.elim
    · exact hp1.elim
end
end Sm
end

section
set_option Elab.async false
set_option linter.all false
set_option autoImplicit false
set_option maxRecDepth 100000
set_option maxHeartbeats 4000000
/-! sum, max, min of d.values(); == {}; displays. -/
namespace Sm
open PySem PySem.Spec PySem.Calls PyProof.Rows PySem.W L2
variable {g : Gx} {X : Cx} {E : XK}
def tValsI (R : List Int → Int → Prop) (to : TE) : TE := fun σ H Q => to σ H fun x H1 => ∃ d kvs is, x = .ref d ∧ H1 d = some (.dK kvs) ∧ kvs.map (·.2) = is.map V.int ∧ (∀ m, R is m → Q (.int m) H1) ∧ ∃ m, R is m
theorem pre_sumI (is : List Int) : preSum (fun i => is.getD i 0) is.length = sumI is := by
  have := pre_take (ns := is) (Nat.le_refl is.length)
  rw [List.take_length] at this
  rw [← this]
  congr 1
def RSum (is : List Int) (m : Int) : Prop := m = sumI is
def RMax (is : List Int) (m : Int) : Prop := m ∈ is ∧ ∀ j ∈ is, j ≤ m
def RMin (is : List Int) (m : Int) : Prop := m ∈ is ∧ ∀ j ∈ is, m ≤ j
section
variable {o : Expr} {to : TE} {p apos cpos pos : Pos}
theorem val_ints {kvs : List (L2.Key × V)} {vs : List (L2.Key × Value)} {is : List Int} (rel : KV kvs vs) (hv : kvs.map (·.2) = is.map V.int) (i : Nat) (v : Value) (h : ∃ k, vs[i]? = some (k, v)) : ∃ t, v = Value.int (is.getD i 0) t := by
  obtain ⟨k, hk⟩ := h
  obtain ⟨x, h1, h2⟩ := KV.at' rel hk
  have e1 : (kvs.map (·.2))[i]? = some x := by rw [List.getElem?_map, h1]; rfl
  rw [hv, List.getElem?_map] at e1
  obtain ⟨j, hj, e2⟩ := Option.map_eq_some_iff.mp e1
  subst e2
  obtain ⟨t, e3⟩ := h2
  refine ⟨t, ?_⟩
  rw [e3, List.getD_eq_getElem?_getD, hj]; rfl
theorem val_len {kvs : List (L2.Key × V)} {vs : List (L2.Key × Value)} {is : List Int} (rel : KV kvs vs) (hv : kvs.map (·.2) = is.map V.int) : vs.length = is.length := by
  have e1 := congrArg List.length hv
  rw [List.length_map, List.length_map] at e1
  rw [← e1]
  exact (KV.length rel).symm
theorem pe_sumVals (hc : X.calm = true) (ho : PE X o to) (hg : Gl X "sum") (hm : X.mg "sum" = none) (hbase : attributeBase o "values" X.env (eval o X.env) = eval o X.env) (hline : (apos.endLine == cpos.line) = true)
    (hs : starEach [.Call (.Attribute o "values" apos) [] [] cpos] X.env = (false, eval (.Call (.Attribute o "values" apos) [] [] cpos) X.env) :: starEach [] X.env) :
    PE X (.Call (.Name "sum" p) [.Call (.Attribute o "values" apos) [] [] cpos] [] pos) (tValsI RSum to) := by
  refine ⟨fun pins s σ H Q I hq => ?_⟩
  refine wpAny_Call_Name_kw (ld_blt I hg hm boot_sum ?_)
  refine PyProof.Rows.callWith_builtin1 ?_ hs rfl
  rw [hs]
  show wpAny _ _ (spliced ((false, eval (.Call (.Attribute o "values" apos) [] [] cpos) X.env) :: backTo pos (starEach [] X.env))) _ _ s
  refine Calls.spliced_cons (values_eval (QQ := fun d kvs H1 => ∃ is : List Int, kvs.map (·.2) = is.map V.int ∧ (∀ m, RSum is m → Q (.int m) H1)) ho hbase hline I ?_ fun s1 H1 d kvs vs ep I2 hat kv hz hlt ⟨is, hv, q⟩ => Calls.spliced_nil ?_)
  · have hq' : to σ H fun x H1 => ∃ d kvs is, x = .ref d ∧ H1 d = some (.dK kvs) ∧ kvs.map (·.2) = is.map V.int ∧ (∀ m, RSum is m → Q (.int m) H1) ∧ ∃ m, RSum is m := hq
    have e : (fun (x : V) (H1 : Hp) => ∃ d kvs is, x = .ref d ∧ H1 d = some (.dK kvs) ∧ kvs.map (·.2) = is.map V.int ∧ (∀ m, RSum is m → Q (.int m) H1) ∧ ∃ m, RSum is m) = fun x H1 => ∃ d kvs, x = .ref d ∧ H1 d = some (.dK kvs) ∧ ∃ is : List Int, kvs.map (·.2) = is.map V.int ∧ (∀ m, RSum is m → Q (.int m) H1) := by
      funext x H1
      apply propext
      exact ⟨fun ⟨d, kvs, is, a, b, c, e, _⟩ => ⟨d, kvs, a, b, is, c, e⟩, fun ⟨d, kvs, a, b, is, c, e⟩ => ⟨d, kvs, is, a, b, c, e, _, rfl⟩⟩
    rw [e] at hq'
    exact hq'
  have K := PySem.W.kdl_values (prog := X.prog) (w := X.w) (r := s1.heap.objs.size) (knd := mixKind X.prog X.w) (d := d) (kvs := vs) (ep := ep)
  refine call_sum_walkAnyS ?_
  obtain ⟨oI, St, hit, W, st⟩ := K.iter X.A.in1 ({ s1 with heap := s1.heap.push { cls := .type "dict_values", data := .fields #[.ref d] } } : Shared) (I.ok.hd hc) ⟨⟨_, Heap.get?_push_size _ rfl, rfl, rfl⟩, hat⟩
  refine hit _ _ ⟨_, _, _, _, vs.length, _, _, (fun i => is.getD i 0), rfl, W.toS, st, fun b hb => ?_, val_ints kv hv, fun s' t' hm' => ?_⟩
  · show b < (Heap.push _ oI).objs.size
    rw [size_push']
    rcases List.mem_cons.mp hb with e | hb
    · rw [e]; exact Nat.lt_succ_self _
    · rw [List.mem_singleton.mp hb]
      refine Nat.lt_succ_of_lt ?_
      show d < (Heap.push _ _).objs.size
      rw [size_push']
      exact Nat.lt_succ_of_lt hlt
  · have hk : ∀ b o', (s1.heap.push { cls := .type "dict_values", data := .fields #[.ref d] }).get? b = some o' → s'.heap.get? b = some o' := fun b o' e =>
      hm'.heap b o' (fun hI => absurd (Heap.lt_size e) (by rw [List.mem_singleton.mp hI]; exact Nat.lt_irrefl _)) (Heap.get?_push_of_some _ e)
    rw [Moved.eq_with hm', val_len kv hv, pre_sumI]
    exact ⟨.int (sumI is), H1, I2.kept (t' := s'.toks) hk, ⟨t', rfl⟩, q _ rfl⟩
theorem pe_maxVals (hc : X.calm = true) (ho : PE X o to) (hg : Gl X "max") (hm : X.mg "max" = none) (hbase : attributeBase o "values" X.env (eval o X.env) = eval o X.env) (hline : (apos.endLine == cpos.line) = true)
    (hs : starEach [.Call (.Attribute o "values" apos) [] [] cpos] X.env = (false, eval (.Call (.Attribute o "values" apos) [] [] cpos) X.env) :: starEach [] X.env) :
    PE X (.Call (.Name "max" p) [.Call (.Attribute o "values" apos) [] [] cpos] [] pos) (tValsI RMax to) := by
  refine ⟨fun pins s σ H Q I hq => ?_⟩
  refine wpAny_Call_Name_kw (ld_blt I hg hm (show bootBuiltins "max" = some (.builtin "max") by decide +kernel) ?_)
  refine PyProof.Rows.callWith_builtin1 ?_ hs rfl
  rw [hs]
  show wpAny _ _ (spliced ((false, eval (.Call (.Attribute o "values" apos) [] [] cpos) X.env) :: backTo pos (starEach [] X.env))) _ _ s
  refine Calls.spliced_cons (values_eval (QQ := fun d kvs H1 => ∃ is : List Int, kvs.map (·.2) = is.map V.int ∧ (∀ m, RMax is m → Q (.int m) H1) ∧ ∃ m, RMax is m) ho hbase hline I ?_ fun s1 H1 d kvs vs ep I2 hat kv hz hlt ⟨is, hv, q, m0, hm0, _⟩ => Calls.spliced_nil ?_)
  · have hq' : to σ H fun x H1 => ∃ d kvs is, x = .ref d ∧ H1 d = some (.dK kvs) ∧ kvs.map (·.2) = is.map V.int ∧ (∀ m, RMax is m → Q (.int m) H1) ∧ ∃ m, RMax is m := hq
    have e : (fun (x : V) (H1 : Hp) => ∃ d kvs is, x = .ref d ∧ H1 d = some (.dK kvs) ∧ kvs.map (·.2) = is.map V.int ∧ (∀ m, RMax is m → Q (.int m) H1) ∧ ∃ m, RMax is m) = fun x H1 => ∃ d kvs, x = .ref d ∧ H1 d = some (.dK kvs) ∧ ∃ is : List Int, kvs.map (·.2) = is.map V.int ∧ (∀ m, RMax is m → Q (.int m) H1) ∧ ∃ m, RMax is m := by
      funext x H1
      apply propext
      exact ⟨fun ⟨d, kvs, is, a, b, c, e, f⟩ => ⟨d, kvs, a, b, is, c, e, f⟩, fun ⟨d, kvs, a, b, is, c, e, f⟩ => ⟨d, kvs, is, a, b, c, e, f⟩⟩
    rw [e] at hq'
    exact hq'
  have hl := val_len kv hv
  have hlen : 0 < vs.length := by rw [hl]; exact List.length_pos_of_mem hm0
  have K := PySem.W.kdl_values (prog := X.prog) (w := X.w) (r := s1.heap.objs.size) (knd := mixKind X.prog X.w) (d := d) (kvs := vs) (ep := ep)
  obtain ⟨oI, St, hit, W, st⟩ := K.iter X.A.in1 ({ s1 with heap := s1.heap.push { cls := .type "dict_values", data := .fields #[.ref d] } } : Shared) (I.ok.hd hc) ⟨⟨_, Heap.get?_push_size _ rfl, rfl, rfl⟩, hat⟩
  refine call_max_walk (hit _ _ ⟨_, _, _, vs.length, _, _, _, rfl, W, st, fun b hb => ?_, hlen, CmpOf.ints_gt (fun i => is.getD i 0) (val_ints kv hv), fun v h' tk hP hk' => ?_⟩)
  · show b < (Heap.push _ oI).objs.size
    rw [size_push']
    rcases List.mem_cons.mp hb with e | hb
    · rw [e]; exact Nat.lt_succ_self _
    · rw [List.mem_singleton.mp hb]
      refine Nat.lt_succ_of_lt ?_
      show d < (Heap.push _ _).objs.size
      rw [size_push']
      exact Nat.lt_succ_of_lt hlt
  · have hk : ∀ b o', (s1.heap.push { cls := .type "dict_values", data := .fields #[.ref d] }).get? b = some o' → h'.get? b = some o' := fun b o' e =>
      hk' b o' (fun hI => absurd (Heap.lt_size e) (by rw [List.mem_singleton.mp hI]; exact Nat.lt_irrefl _)) (Heap.get?_push_of_some _ e)
    obtain ⟨t, rfl⟩ := val_ints kv hv _ v hP
    obtain ⟨b1, b2⟩ := argBest_gt (fun i => is.getD i 0) (vs.length - 1)
    refine ⟨.int _, H1, I2.kept (t' := tk) hk, ⟨t, rfl⟩, q _ ⟨?_, fun j hj => ?_⟩⟩
    · have hb : argBest (fun i j => decide (is.getD i 0 > is.getD j 0)) (vs.length - 1) < is.length := by omega
      rw [List.getD_eq_getElem?_getD, List.getElem?_eq_getElem hb]
      exact List.getElem_mem hb
    · obtain ⟨i, hi, e⟩ := List.mem_iff_getElem.mp hj
      have e2 : is.getD i 0 = j := by rw [List.getD_eq_getElem?_getD, List.getElem?_eq_getElem hi, ← e]; rfl
      rw [← e2]
      exact b2 i (by omega)
theorem pe_minValsI (hc : X.calm = true) (ho : PE X o to) (hg : Gl X "min") (hm : X.mg "min" = none) (hbase : attributeBase o "values" X.env (eval o X.env) = eval o X.env) (hline : (apos.endLine == cpos.line) = true)
    (hs : starEach [.Call (.Attribute o "values" apos) [] [] cpos] X.env = (false, eval (.Call (.Attribute o "values" apos) [] [] cpos) X.env) :: starEach [] X.env) :
    PE X (.Call (.Name "min" p) [.Call (.Attribute o "values" apos) [] [] cpos] [] pos) (tValsI RMin to) := by
  refine ⟨fun pins s σ H Q I hq => ?_⟩
  refine wpAny_Call_Name_kw (ld_blt I hg hm (show bootBuiltins "min" = some (.builtin "min") by decide +kernel) ?_)
  refine PyProof.Rows.callWith_builtin1 ?_ hs rfl
  rw [hs]
  show wpAny _ _ (spliced ((false, eval (.Call (.Attribute o "values" apos) [] [] cpos) X.env) :: backTo pos (starEach [] X.env))) _ _ s
  refine Calls.spliced_cons (values_eval (QQ := fun d kvs H1 => ∃ is : List Int, kvs.map (·.2) = is.map V.int ∧ (∀ m, RMin is m → Q (.int m) H1) ∧ ∃ m, RMin is m) ho hbase hline I ?_ fun s1 H1 d kvs vs ep I2 hat kv hz hlt ⟨is, hv, q, m0, hm0, _⟩ => Calls.spliced_nil ?_)
  · have hq' : to σ H fun x H1 => ∃ d kvs is, x = .ref d ∧ H1 d = some (.dK kvs) ∧ kvs.map (·.2) = is.map V.int ∧ (∀ m, RMin is m → Q (.int m) H1) ∧ ∃ m, RMin is m := hq
    have e : (fun (x : V) (H1 : Hp) => ∃ d kvs is, x = .ref d ∧ H1 d = some (.dK kvs) ∧ kvs.map (·.2) = is.map V.int ∧ (∀ m, RMin is m → Q (.int m) H1) ∧ ∃ m, RMin is m) = fun x H1 => ∃ d kvs, x = .ref d ∧ H1 d = some (.dK kvs) ∧ ∃ is : List Int, kvs.map (·.2) = is.map V.int ∧ (∀ m, RMin is m → Q (.int m) H1) ∧ ∃ m, RMin is m := by
      funext x H1
      apply propext
      exact ⟨fun ⟨d, kvs, is, a, b, c, e, f⟩ => ⟨d, kvs, a, b, is, c, e, f⟩, fun ⟨d, kvs, a, b, is, c, e, f⟩ => ⟨d, kvs, is, a, b, c, e, f⟩⟩
    rw [e] at hq'
    exact hq'
  have hl := val_len kv hv
  have hlen : 0 < vs.length := by rw [hl]; exact List.length_pos_of_mem hm0
  have K := PySem.W.kdl_values (prog := X.prog) (w := X.w) (r := s1.heap.objs.size) (knd := mixKind X.prog X.w) (d := d) (kvs := vs) (ep := ep)
  obtain ⟨oI, St, hit, W, st⟩ := K.iter X.A.in1 ({ s1 with heap := s1.heap.push { cls := .type "dict_values", data := .fields #[.ref d] } } : Shared) (I.ok.hd hc) ⟨⟨_, Heap.get?_push_size _ rfl, rfl, rfl⟩, hat⟩
  refine call_min_walk (hit _ _ ⟨_, _, _, vs.length, _, _, _, rfl, W, st, fun b hb => ?_, hlen, CmpOf.ints_lt (fun i => is.getD i 0) (val_ints kv hv), fun v h' tk hP hk' => ?_⟩)
  · show b < (Heap.push _ oI).objs.size
    rw [size_push']
    rcases List.mem_cons.mp hb with e | hb
    · rw [e]; exact Nat.lt_succ_self _
    · rw [List.mem_singleton.mp hb]
      refine Nat.lt_succ_of_lt ?_
      show d < (Heap.push _ _).objs.size
      rw [size_push']
      exact Nat.lt_succ_of_lt hlt
  · have hk : ∀ b o', (s1.heap.push { cls := .type "dict_values", data := .fields #[.ref d] }).get? b = some o' → h'.get? b = some o' := fun b o' e =>
      hk' b o' (fun hI => absurd (Heap.lt_size e) (by rw [List.mem_singleton.mp hI]; exact Nat.lt_irrefl _)) (Heap.get?_push_of_some _ e)
    obtain ⟨t, rfl⟩ := val_ints kv hv _ v hP
    obtain ⟨b1, b2⟩ := argBest_lt (fun i => is.getD i 0) (vs.length - 1)
    refine ⟨.int _, H1, I2.kept (t' := tk) hk, ⟨t, rfl⟩, q _ ⟨?_, fun j hj => ?_⟩⟩
    · have hb : argBest (fun i j => decide (is.getD i 0 < is.getD j 0)) (vs.length - 1) < is.length := by omega
      rw [List.getD_eq_getElem?_getD, List.getElem?_eq_getElem hb]
      exact List.getElem_mem hb
    · obtain ⟨i, hi, e⟩ := List.mem_iff_getElem.mp hj
      have e2 : is.getD i 0 = j := by rw [List.getD_eq_getElem?_getD, List.getElem?_eq_getElem hi, ← e]; rfl
      rw [← e2]
      exact b2 i (by omega)
end
theorem rmax_of {y : Int} {r : List Int} : RMax (y :: r) (maxI r y) ∧ ∀ m, RMax (y :: r) m → m = maxI r y := by
  obtain ⟨h1, h2, h3⟩ := maxI_spec r y
  have a : RMax (y :: r) (maxI r y) := ⟨by
    rcases h1 with h1 | h1
    · rw [h1]; exact List.mem_cons_self
    · exact List.mem_cons_of_mem _ h1, fun j hj => by
    rcases List.mem_cons.mp hj with e | hj
    · rw [e]; exact h2
    · exact h3 j hj⟩
  exact ⟨a, fun m hm => Int.le_antisymm (a.2 m hm.1) (hm.2 _ a.1)⟩
theorem rmin_of {y : Int} {r : List Int} : RMin (y :: r) (minI r y) ∧ ∀ m, RMin (y :: r) m → m = minI r y := by
  obtain ⟨h1, h2, h3⟩ := minI_spec r y
  have a : RMin (y :: r) (minI r y) := ⟨by
    rcases h1 with h1 | h1
    · rw [h1]; exact List.mem_cons_self
    · exact List.mem_cons_of_mem _ h1, fun j hj => by
    rcases List.mem_cons.mp hj with e | hj
    · rw [e]; exact h2
    · exact h3 j hj⟩
  exact ⟨a, fun m hm => Int.le_antisymm (hm.2 _ a.1) (a.2 m hm.1)⟩
theorem rk_vals {c : Ct} : ∀ {kvs : List (K1 × Sm.D)} {us : List (L2.Key × V)}, RK c kK kvs us → RepL c (kvs.map fun p => p.2) (us.map (·.2))
  | [], us, r => by rw [show us = [] from r]; exact repL_nil.mpr rfl
  | (k, d) :: kvs, us, r => by
    obtain ⟨v, q, rfl, h1, h2⟩ := r
    exact repL_cons.mpr ⟨v, _, rfl, h1, rk_vals h2⟩
theorem vals_se {to : TE} {mo : ME} {R : List Int → Int → Prop} {f : List Int → Option Int} (hf : ∀ is z, f is = some z → R is z ∧ ∀ m, R is m → m = z) (so : SE g E to mo) : SE g E (tValsI R to) (eVals f mo) := by
  intro c σ e Q ok er hp
  show to σ c.H _
  refine bindE (R := WE g c Q) so ok er hp fun c1 x v ok1 l1 r1 rx hp1 => ?_
  split at hp1
  · rename_i kvs hk
    obtain ⟨a, us, rfl, h1, h2⟩ := dctM_of ok1 rx hk
    obtain ⟨z, hz, q⟩ := PostG.ofO (α := Sm.D) hp1
    cases hi : intsD (kvs.map fun p => p.2) with
    | none => rw [hi] at hz; cases hz
    | some is =>
      rw [hi] at hz
      obtain ⟨m, hm, rfl⟩ := Option.map_eq_some_iff.mp (show (f is).map Sm.D.int = some z from hz)
      obtain ⟨q1, q2⟩ := hf is m hm
      refine ⟨a, us, is, rfl, h1, intsD_of hi (rk_vals (rk_of.mp h2)), fun m' hm' => ?_, m, q1⟩
      rw [q2 m' hm']
      exact we_int ok1 (WE.later l1 r1 q)
  · exact hp1.elim
section
variable {o : Expr} {mo : ME} {p apos cpos pos : Pos}
theorem es_sumVals (xo : XO g X E) (hm : X.mg "sum" = none) (hg : Gl X "sum" := by rfl) (hbase : attributeBase o "values" X.env (eval o X.env) = eval o X.env := by rfl) (hline : (apos.endLine == cpos.line) = true := by rfl)
    (hs : starEach [.Call (.Attribute o "values" apos) [] [] cpos] X.env = (false, eval (.Call (.Attribute o "values" apos) [] [] cpos) X.env) :: starEach [] X.env := by rfl) : ES g X E o mo → ES g X E (.Call (.Name "sum" p) [.Call (.Attribute o "values" apos) [] [] cpos] [] pos) (eVals vSum mo) :=
  fun ⟨to, po, so⟩ => ⟨_, pe_sumVals xo.calm po hg hm hbase hline hs, vals_se (fun is z h => by cases h; exact ⟨rfl, fun m hm => hm⟩) so⟩
theorem es_maxVals (xo : XO g X E) (hm : X.mg "max" = none) (hg : Gl X "max" := by rfl) (hbase : attributeBase o "values" X.env (eval o X.env) = eval o X.env := by rfl) (hline : (apos.endLine == cpos.line) = true := by rfl)
    (hs : starEach [.Call (.Attribute o "values" apos) [] [] cpos] X.env = (false, eval (.Call (.Attribute o "values" apos) [] [] cpos) X.env) :: starEach [] X.env := by rfl) : ES g X E o mo → ES g X E (.Call (.Name "max" p) [.Call (.Attribute o "values" apos) [] [] cpos] [] pos) (eVals vMax mo) :=
  fun ⟨to, po, so⟩ => ⟨_, pe_maxVals xo.calm po hg hm hbase hline hs, vals_se (fun is z h => by
    cases is with
    | nil => cases h
    | cons y r => cases h; exact rmax_of) so⟩
theorem es_minVals (xo : XO g X E) (hm : X.mg "min" = none) (hg : Gl X "min" := by rfl) (hbase : attributeBase o "values" X.env (eval o X.env) = eval o X.env := by rfl) (hline : (apos.endLine == cpos.line) = true := by rfl)
    (hs : starEach [.Call (.Attribute o "values" apos) [] [] cpos] X.env = (false, eval (.Call (.Attribute o "values" apos) [] [] cpos) X.env) :: starEach [] X.env := by rfl) : ES g X E o mo → ES g X E (.Call (.Name "min" p) [.Call (.Attribute o "values" apos) [] [] cpos] [] pos) (eVals vMin mo) :=
  fun ⟨to, po, so⟩ => ⟨_, pe_minValsI xo.calm po hg hm hbase hline hs, vals_se (fun is z h => by
    cases is with
    | nil => cases h
    | cons y r => cases h; exact rmin_of) so⟩
end
/-! ### x == {} -/
def rEmp (neg : Bool) : R2 := fun x y H Q => ∃ a b ks, x = .ref a ∧ y = .ref b ∧ Rd H a (.dK ks) ∧ H b = some (.dK []) ∧ Q (.bl (if neg = true then !ks.isEmpty else ks.isEmpty)) H
theorem op_eqEmp (hu : X.A.units < cLine) : OpR X (compareOp .Eq) (rEmp false) := by
  intro pins s σ H x y v u Q I rx ry ⟨a, b, ks, ex, ey, ha, hb, q⟩
  subst ex ey
  obtain rfl : v = Value.ref a := rx
  obtain rfl : u = Value.ref b := ry
  obtain ⟨_, ya, va, ra, da⟩ := dk_rd I.hok ha
  obtain ⟨_, yb, vb, rb, db⟩ := dk_of I.hok hb
  have hb0 : vb = [] := by cases rb; rfl
  subst hb0
  have e0 : (va.length == ([] : List (L2.Key × Value)).length && true) = ks.isEmpty := by
    rw [← ra.length, Bool.and_true]
    cases ks <;> simp
  refine PySem.W.keq_eq (knd := mixKind X.prog X.w) (r := true) ya yb da db hu (fun hl => ?_) ?_
  · have : va = [] := List.length_eq_zero_iff.mp hl
    subst this
    exact KeqHits.nil
  · rw [e0]
    exact ⟨.bl _, H, I, rfl, q⟩
theorem op_neEmp (hu : X.A.units < cLine) : OpR X (compareOp .NotEq) (rEmp true) := by
  intro pins s σ H x y v u Q I rx ry ⟨a, b, ks, ex, ey, ha, hb, q⟩
  subst ex ey
  obtain rfl : v = Value.ref a := rx
  obtain rfl : u = Value.ref b := ry
  obtain ⟨_, ya, va, ra, da⟩ := dk_rd I.hok ha
  obtain ⟨_, yb, vb, rb, db⟩ := dk_of I.hok hb
  have hb0 : vb = [] := by cases rb; rfl
  subst hb0
  have e0 : (va.length == ([] : List (L2.Key × Value)).length && true) = ks.isEmpty := by
    rw [← ra.length, Bool.and_true]
    cases ks <;> simp
  refine PySem.W.keq_ne (knd := mixKind X.prog X.w) (r := true) ya yb da db hu (fun hl => ?_) ?_
  · have : va = [] := List.length_eq_zero_iff.mp hl
    subst this
    exact KeqHits.nil
  · rw [e0]
    exact ⟨.bl _, H, I, rfl, q⟩
theorem emp_se {ta : TE} {ma : ME} {neg : Bool} (sa : SE g E ta ma) : SE g E (tOp (rEmp neg) ta tDNewK) (eEmp neg ma) := by
  intro c σ e Q ok er hp
  show ta σ c.H _
  refine bindE (R := WE g c Q) sa ok er hp fun c1 x v ok1 l1 r1 rx hp1 => ?_
  split at hp1
  · rename_i kvs hv
    intro p hpn
    obtain ⟨a, us, rfl, h1, h2⟩ := see_dct ok1 rx hv
    obtain ⟨h1', hne⟩ := rd_ext (o := .dK []) hpn h1
    refine ⟨a, p, us, rfl, rfl, h1', upd_same, ?_⟩
    have hq := WE.later (l1.trans (Le.new (o := .dK []) hpn)) ((RsE.new ok1 hpn).trans r1) (hp1 : WE g c Q _ c1.S)
    have ee : us.isEmpty = kvs.isEmpty := by
      have := rk_len (rk_of.mp h2)
      cases us <;> cases kvs <;> simp_all
    rw [ee]
    exact we_bl (ok1.new hpn) hq
  · exact hp1.elim
theorem es_emp {a : Expr} {ma : ME} {p2 pos : Pos} (xo : XO g X E) : ES g X E a ma → ES g X E (.Compare a [.Eq] [.Dict [] [] p2] pos) (eEmp false ma) := fun ⟨ta, pa, sa⟩ => ⟨_, pe_cmpR (op_eqEmp (by have := xo.units; omega)) pa pe_dnewK rfl, emp_se sa⟩
theorem es_nemp {a : Expr} {ma : ME} {p2 pos : Pos} (xo : XO g X E) : ES g X E a ma → ES g X E (.Compare a [.NotEq] [.Dict [] [] p2] pos) (eEmp true ma) := fun ⟨ta, pa, sa⟩ => ⟨_, pe_cmpR (op_neEmp (by have := xo.units; omega)) pa pe_dnewK rfl, emp_se sa⟩
theorem empB {ta : TE} {ma : ME} {neg : Bool} (sa : SE g E ta ma) : SB g E (L2.tB (tOp (rEmp neg) ta tDNewK)) (tB (eEmp neg ma)) := fun c σ e Q ok er hp => by
  show tOp (rEmp neg) ta tDNewK σ c.H _
  refine bindE (R := WB g c Q) (emp_se sa) ok er hp fun c1 x v ok1 l1 r1 rx hp1 => ?_
  cases x <;> first | exact hp1.elim | skip
  rename_i k
  exact ⟨k, rep_bl.mp rx, hp1 c1 ok1 l1 r1 rfl⟩
theorem bs_emp {a : Expr} {ma : ME} {p2 pos : Pos} (xo : XO g X E) : ES g X E a ma → BS g X E (.Compare a [.Eq] [.Dict [] [] p2] pos) (tB (eEmp false ma)) := fun ⟨ta, pa, sa⟩ => ⟨_, pt_cmpR (op_eqEmp (by have := xo.units; omega)) pa pe_dnewK rfl, empB sa⟩
theorem bs_nemp {a : Expr} {ma : ME} {p2 pos : Pos} (xo : XO g X E) : ES g X E a ma → BS g X E (.Compare a [.NotEq] [.Dict [] [] p2] pos) (tB (eEmp true ma)) := fun ⟨ta, pa, sa⟩ => ⟨_, pt_cmpR (op_neEmp (by have := xo.units; omega)) pa pe_dnewK rfl, empB sa⟩
end Sm
end

section
set_option Elab.async false
set_option linter.all false
set_option autoImplicit false
set_option maxRecDepth 100000
set_option maxHeartbeats 4000000
/-! Generator expressions over lists of pairs. -/
namespace Sm
open PySem PySem.Spec PyProof.Rows L2
theorem pairs_at {c : Ct} {X : Cx} {pins : List (Addr × Obj)} {σ : L2.St} {s : Shared} (I : L2.Inv X pins σ c.H s) : ∀ {xs : List Sm.D} {vs : List V} {its : List Value}, RepL c xs vs → Vals vs its → (∀ x ∈ xs, ∃ da db, x = Sm.D.tup [da, db]) →
    ∃ (Tl : List Addr) (vl : List (Array Value)), its = Tl.map Value.ref ∧ Tl.length = xs.length ∧ vl.length = xs.length ∧ ∀ (j : Nat) (T : Addr) (v : Array Value), Tl[j]? = some T → vl[j]? = some v → ∃ da db ua ub, xs[j]? = some (.tup [da, db]) ∧ v = #[ua, ub] ∧ s.heap.IsTuple T #[ua, ub] ∧ RepU c da ua ∧ RepU c db ub
  | [], vs, its, r, rv, _ => by
    rw [repL_nil.mp r] at rv
    cases rv
    exact ⟨[], [], rfl, rfl, rfl, fun j T v h _ => by simp at h⟩
  | x :: xs, vs, its, r, rv, hp => by
    obtain ⟨v, q, rfl, h1, h2⟩ := repL_cons.mp r
    cases rv with
    | cons r1 rt =>
      rename_i u us
      obtain ⟨Tl, vl, e1, e2, e3, e4⟩ := pairs_at I h2 rt fun y hy => hp y (List.mem_cons_of_mem _ hy)
      obtain ⟨da, db, rfl⟩ := hp x List.mem_cons_self
      obtain ⟨a, ws, rfl, _, h3, h4⟩ := rep_tup.mp h1
      obtain ⟨va, vb, rfl, ra, rb⟩ := rep2 h4
      obtain ⟨it2, rv2, pl, hz⟩ := I.tuple (SqT.of h3)
      obtain ⟨ua, ub, rfl, qa, qb⟩ := vals2 rv2
      obtain rfl : u = Value.ref a := r1
      refine ⟨a :: Tl, #[ua, ub] :: vl, by rw [e1]; rfl, by rw [List.length_cons, List.length_cons, e2], by rw [List.length_cons, List.length_cons, e3], fun j T w hT hw => ?_⟩
      cases j with
      | zero =>
        have eT : a = T := by simpa using hT
        have ew : #[ua, ub] = w := by simpa using hw
        subst eT ew
        exact ⟨da, db, ua, ub, by simp, rfl, pl, ⟨va, ra, qa⟩, ⟨vb, rb, qb⟩⟩
      | succ j =>
        obtain ⟨da', db', ua', ub', f1, f2, f3, f4, f5⟩ := e4 j T w (by simpa using hT) (by simpa using hw)
        exact ⟨da', db', ua', ub', by simpa using f1, f2, f3, f4, f5⟩
theorem turnG_isPair {ja jb : Nat} {mt : MB} {me : ME} {e : Sm.Env} {S : Store} {x : Sm.D} {r : Option Sm.D} (h : turnG (gT [gN ja, gN jb]) mt me e S x = some r) : ∃ da db, x = .tup [da, db] := by
  unfold turnG gT at h
  cases x <;> first | (simp at h; done) | skip
  rename_i xs
  by_cases hl : xs.length = 2
  · match xs, hl with
    | [a, b], _ => exact ⟨a, b, rfl⟩
  · simp [hl] at h
variable {g : Gx} {X : Cx} {E : XK}
theorem gPairs_bind {c : Ct} {e : Sm.Env} {S : Store} {ma : ME} {β : Type} {R : β → Store → Prop} {k : List Sm.D → Store → Out β} (h : PostG g c E R ((gPairs ma e S).bind k)) :
    PostG g c E R ((ma e S).bind fun x S1 => match view S1 x with
      | .lst xs => k xs S1
      | _ => .bad) := by
  unfold gPairs at h
  cases q : ma e S with
  | bad => rw [q] at h; exact h
  | exc j S => rw [q] at h; exact h
  | ok x S1 =>
    rw [q] at h
    have h' : PostG g c E R ((match (generalizing := false) view S1 x with
      | .lst xs => .ok xs S1
      | _ => .bad : Out (List Sm.D)).bind k) := h
    show PostG g c E R (match (generalizing := false) view S1 x with
      | .lst xs => k xs S1
      | _ => .bad)
    revert h'
    split <;> exact id
/-- for a, b in xs, xs a list of pairs -/
theorem gj_pairs {k : Nat} {elt iter : Expr} {ifs : List Expr} {scope : Scope} {xa xb : Str} {ja jb : Nat} {pa pb pt gpos : Pos} {kt : Nat} {cA P : Addr} {ma : ME} {me : ME} {mt : MB} (hr : Room k X.A) (TB : LamX.TabB X.base X.mg cA P) (hcode : X.env.code = .ref cA) (hmT : (P, X.env.qual ++ "<genexpr>") ∈ g.tabs) (hu : ∀ p ∈ g.tabs, p.1 = P → p.2 = X.env.qual ++ "<genexpr>")
    (S : GenOk X.N X.env.scope scope [(xa, ja), (xb, jb)]) (hab : xa ≠ xb) (hj : ja ≠ jb) (hi : ES g X E iter ma) (hel : QE g X scope [(xa, ja), (xb, jb)] elt me) (hif : QI g X scope [(xa, ja), (xb, jb)] ifs mt)
    (hs : ∀ v, genFold iter X.env v = pure v := by intro _; rfl) :
    GenJ g X E (.GeneratorExp elt [⟨.Tuple [.Name xa pa, .Name xb pb] kt pt, iter, ifs, 0⟩] scope gpos) (mGen (gPairs ma) (gT [gN ja, gN jb]) mt me) :=
  fun pins σ c e s β R h Q' I ok er hp hQ => by
    obtain ⟨hxl, hxN⟩ := S.loc (xa, ja) List.mem_cons_self
    obtain ⟨hxl2, hxN2⟩ := S.loc (xb, jb) (List.mem_cons_of_mem _ List.mem_cons_self)
    obtain ⟨ti, pi, si⟩ := hi
    refine wpAny_GeneratorExp_walksQT hr.hd S.co (closure_ok fun y hy e => (S.free y hy e).elim (fun k => I.ok.has _ (.inl k)) fun k => I.ok.has _ (.inr k)) S.nocell S.dot hxl hxl2 hab S.kind (by have := hr.dp; omega) ?_ hs
    refine thn (pi.run pins s σ c.H (fun v H1 => ∃ c1 d, c1.H = H1 ∧ Ok g c1 ∧ Le c c1 ∧ RsE c1 c ∧ Rep c1 d v ∧ PostG g c1 E R (match view c1.S d with
      | .lst xs => (match genL (turnG (gT [gN ja, gN jb]) mt me e c1.S) xs with
        | some ys => h ys c1.S
        | none => .bad)
      | _ => .bad)) I (bindE (R := R) si ok er (gPairs_bind (mGen_bind hp)) fun c1 d v ok1 l1 r1 rx hp1 => ⟨c1, d, rfl, ok1, l1, r1, rx, hp1⟩)) fun xv s1 ⟨v, H1, I1, r1, c1, d, e1, ok1, l1, re1, rd, hp1⟩ => ?_
    subst e1
    obtain ⟨ps, hP, _⟩ := ok1.tabs _ hmT
    have hPs : s1.heap.get? P = some { cls := .none, data := .fields ps } := I1.hok P _ hP
    have hPlt : P < s1.heap.objs.size := Heap.lt_size hPs
    have notP : ∀ {a : Addr} {o : Obj} {xs : Array Value} {n : Nat}, s1.heap.get? a = some o → o.data = .seq xs n → a ≠ P := fun {a o xs n} e1 e2 z => by
      rw [z, hPs] at e1
      cases e1
      cases e2
    split at hp1
    · rename_i xs ex
      obtain ⟨a, its, vs, rfl, rv, rl, pl, hz⟩ := seeL I1 ok1 (fun _ _ _ h _ _ => h) ⟨v, rd, r1⟩ ex
      cases hg : genL (turnG (gT [gN ja, gN jb]) mt me e c1.S) xs with
      | none => rw [hg] at hp1; exact hp1.elim
      | some ys =>
        rw [hg] at hp1
        have hIL := pl.isList
        have hat : a < s1.heap.objs.size := let ⟨_, e, _⟩ := hIL; Heap.lt_size e
        have haP : a ≠ P := let ⟨_, e1, _, _, e2⟩ := hIL; notP e1 e2
        obtain ⟨Tl, vl, rfl, hTl, hvl, hTv⟩ := pairs_at I1 rl rv fun x hx => by
          obtain ⟨i, hi, rfl⟩ := List.getElem_of_mem hx
          obtain ⟨r, hr⟩ := genL_all hg i _ (List.getElem?_eq_getElem hi)
          exact turnG_isPair hr
        have hsz : (Tl.map Value.ref).toArray.size = xs.length := by simp [hTl]
        have tup : ∀ j, j < xs.length → ∃ da db ua ub, xs[j]? = some (.tup [da, db]) ∧ vl.getD j #[.none, .none] = #[ua, ub] ∧ s1.heap.IsTuple (Tl.getD j 0) #[ua, ub] ∧ RepU c1 da ua ∧ RepU c1 db ub := fun j hjl => by
          have h1 : Tl[j]? = some (Tl[j]'(by omega)) := List.getElem?_eq_getElem _
          have h2 : vl[j]? = some (vl[j]'(by omega)) := List.getElem?_eq_getElem _
          obtain ⟨da, db, ua, ub, f1, f2, f3, f4, f5⟩ := hTv j _ _ h1 h2
          refine ⟨da, db, ua, ub, f1, ?_, ?_, f4, f5⟩
          · rw [List.getD_eq_getElem?_getD, h2]; exact f2
          · rw [List.getD_eq_getElem?_getD, h1]; exact f3
        have W0 := fun (A' : Around) (hA : A'.handled = none) => WalksU.listOfTuples (prog := X.prog) (w := X.w) hA s1.heap.objs.size a (Nat.ne_of_lt hat) (Tl.map Value.ref).toArray (fun j => Tl.getD j 0) (fun j => vl.getD j #[.none, .none])
          (fun j hjl => by
            rw [hsz] at hjl
            have h1 : Tl[j]? = some (Tl[j]'(by omega)) := List.getElem?_eq_getElem _
            simp only [List.getElem?_toArray, List.getElem?_map, h1, Option.map_some, List.getD_eq_getElem?_getD, Option.getD_some])
          (fun j hjl => by
            rw [hsz] at hjl
            obtain ⟨da, db, ua, ub, _, _, ⟨o, f3, _⟩, _⟩ := tup j hjl
            exact Nat.ne_of_lt (Heap.lt_size f3))
        refine wpAny_pyIter_list hIL ?_
        have hpush : ∀ b o, s1.heap.get? b = some o → (s1.heap.push { cls := .type "list_iterator", data := .fields #[.ref a, .int 0 0] }).get? b = some o := fun b o e => Heap.get?_push_of_some _ e
        have hps : (s1.heap.push { cls := .type "list_iterator", data := .fields #[.ref a, .int 0 0] }).objs.size = s1.heap.objs.size + 1 := Heap.size_push _ _
        refine gen_core2 (h₁ := s1.heap.push { cls := .type "list_iterator", data := .fields #[.ref a, .int 0 0] }) TB hcode hmT hu S hel hif I1 ok1 (er.mono l1) hpush (by rw [hps]; exact Nat.le_succ _) ?_ ?_ ?_ hab hj hsz.symm (fun i vals hv => ?_) (fun i va vb hv => ?_)
          (fun A' hA => (W0 A' hA).bound) (fun hh hkk => ?_) hg fun ga s5 hrdy => hQ c1 ys ga s5 ok1 l1 re1 hp1 hrdy
        · intro b hb
          rw [hps]
          rcases List.mem_cons.mp hb with z | z
          · rw [z]; exact Nat.lt_succ_self _
          · rcases List.mem_cons.mp z with z | z
            · rw [z]; exact Nat.lt_succ_of_lt hat
            · obtain ⟨j, hj1, rfl⟩ := List.mem_map.mp z
              obtain ⟨_, _, _, _, _, _, ⟨o, f3, _⟩, _⟩ := tup j (by rw [← hsz]; exact List.mem_range.mp hj1)
              exact Nat.lt_succ_of_lt (Heap.lt_size f3)
        · intro b hb
          rw [List.mem_singleton.mp hb]
          exact Nat.le_refl _
        · intro b hb
          rw [List.mem_singleton.mp hb, hps]
          exact Nat.lt_succ_self _
        · obtain ⟨hi1, rfl⟩ := hv
          obtain ⟨_, _, ua, ub, _, f2, _⟩ := tup i (by rw [← hsz]; exact hi1)
          exact ⟨ua, ub, f2⟩
        · obtain ⟨hi1, ev⟩ := hv
          obtain ⟨da, db, ua, ub, f1, f2, _, f4, f5⟩ := tup i (by rw [← hsz]; exact hi1)
          rw [f2] at ev
          have e1 : va = ua ∧ vb = ub := by simpa using ev
          obtain ⟨rfl, rfl⟩ := e1
          exact ⟨da, db, f1, f4, f5⟩
        · refine ⟨⟨_, hkk _ _ (Nat.ne_of_gt hPlt) (Heap.get?_push_size _ rfl), rfl, rfl⟩, ?_, fun k hk => ?_⟩
          · obtain ⟨o, e1, e2⟩ := hIL
            exact ⟨o, hkk _ _ haP (hpush _ _ e1), e2⟩
          · obtain ⟨_, _, ua, ub, _, f2, ⟨o, f3, f6, n, f7⟩, _⟩ := tup k (by rw [← hsz]; exact hk)
            rw [f2]
            exact ⟨o, hkk _ _ (notP f3 f7) (hpush _ _ f3), f6, n, f7⟩
    · exact hp1.elim
theorem xu1 {E : XK} (x : XO g X E) : X.A.units + 1 < cLine := by have := x.units; omega
theorem xu10 {E : XK} (x : XO g X E) : X.A.units + 10 < cLine := by have := x.units; omega
theorem qo_add : QO g X (binaryOp .Add) iAdd := qo_intI (f := fun i j => i + j) (C := fun _ _ => True) (fun S x y z e => by
    unfold iAdd at e
    split at e
    · cases e
      exact ⟨_, _, rfl, rfl, trivial, rfl⟩
    · cases e) fun i j t u s A Q E hc q => add_int q
theorem qb_chain {scope : Scope} {own : List (Str × Nat)} {op op' : CmpOp} {f h : Store → Sm.D → Sm.D → Option Sm.D} {a b d : Expr} {ma mb mc : ME} {pos : Pos} (qo : QO g X (compareOp op) f) (qo' : QO g X (compareOp op') h) (hm : lastMarks [op, op'] [b, d] = false) (qa : QE g X scope own a ma) (qb : QE g X scope own b mb) (qc : QE g X scope own d mc) :
    QB g X scope own (.Compare a [op, op'] [b, d] pos) (Sm.tB (eChain f h ma mb mc)) := fun c pins σ s₁ s₂ e cenv A' E' m₂ r S' I ok q hA he => by
  unfold Sm.tB at he
  unfold eChain at he
  cases h1 : ma e c.S with
  | bad => rw [h1] at he; cases he
  | exc k S => rw [h1] at he; cases he
  | ok x S1 =>
    rw [h1] at he
    obtain ⟨rfl, w1⟩ := qa c pins σ s₁ s₂ e cenv A' E' m₂ x S1 I ok q hA h1
    have he' : (((mb e c.S).bind fun y S2 => match f S2 x y with
      | some (.bl true) => (mc e S2).bind fun z S3 => ofO (h S3 y z) S3
      | some (.bl false) => .ok (.bl false) S2
      | _ => .bad).bind fun x S1 => match x with
      | .bl b => .ok b S1
      | _ => .bad) = .ok r S' := he
    cases h2 : mb e c.S with
    | bad => rw [h2] at he'; cases he'
    | exc k S => rw [h2] at he'; cases he'
    | ok y S2 =>
      rw [h2] at he'
      have e2 := (qb c pins σ s₁ s₂ e cenv A' E' m₂ y S2 I ok q hA h2).1
      subst e2
      have he2 : ((match f c.S x y with
        | some (.bl true) => (mc e c.S).bind fun z S3 => ofO (h S3 y z) S3
        | some (.bl false) => .ok (.bl false) c.S
        | _ => .bad).bind fun x S1 => match x with
        | .bl b => .ok b S1
        | _ => .bad) = .ok r S' := he'
      split at he2
      · rename_i hf
        cases h3 : mc e c.S with
        | bad => rw [h3] at he2; cases he2
        | exc k S => rw [h3] at he2; cases he2
        | ok z S3 =>
          rw [h3] at he2
          have e3 := (qc c pins σ s₁ s₂ e cenv A' E' m₂ z S3 I ok q hA h3).1
          subst e3
          have he3 : ((ofO (h c.S y z) c.S).bind fun x S1 => match x with
            | .bl b => .ok b S1
            | _ => .bad) = .ok r S' := he2
          cases h4 : h c.S y z with
          | none => rw [h4] at he3; cases he3
          | some t =>
            rw [h4] at he3
            cases t <;> first | (cases he3; done) | skip
            cases he3
            refine ⟨rfl, PyProof.Rows.isTrue_chain (wpAny_mono w1 (fun v s₃ ⟨rv, k3⟩ => ?_) fun _ _ x => x) hm⟩
            have q3 := q.keeps k3
            refine PyProof.Rows.test_link (wpAny_mono (qb c pins σ s₁ s₃ e cenv A' E' m₂ y c.S I ok q3 hA h2).2 (fun u s₄ ⟨ru, k4⟩ => ?_) fun _ _ x => x)
            have q4 := q3.keeps k4
            refine wpAny_mono (qo c pins σ s₁ s₄ A' E' x y v u (.bl true) I ok q4.old hA rv ru hf) (fun b1 s₅ ⟨rb, k5⟩ => ?_) fun _ _ x => x
            obtain rfl := repU_bl.mp rb
            refine wpAny_truthy_bool ?_
            have q5 := q4.keeps k5
            refine ite_tt (PyProof.Rows.test_last (wpAny_mono (qc c pins σ s₁ s₅ e cenv A' E' m₂ z c.S I ok q5 hA h3).2 (fun t1 s₆ ⟨rt, k6⟩ => ?_) fun _ _ x => x))
            have q6 := q5.keeps k6
            refine wpAny_mono (qo' c pins σ s₁ s₆ A' E' y z u t1 _ I ok q6.old hA ru rt h4) (fun b2 s₇ ⟨r2, k7⟩ => ?_) fun _ _ x => x
            obtain rfl := repU_bl.mp r2
            exact wpAny_truthy_bool ⟨rfl, keeps_trans k3 (keeps_trans k4 (keeps_trans k5 (keeps_trans k6 k7)))⟩
      · rename_i hf
        cases he2
        refine ⟨rfl, PyProof.Rows.isTrue_chain (wpAny_mono w1 (fun v s₃ ⟨rv, k3⟩ => ?_) fun _ _ x => x) hm⟩
        have q3 := q.keeps k3
        refine PyProof.Rows.test_link (wpAny_mono (qb c pins σ s₁ s₃ e cenv A' E' m₂ y c.S I ok q3 hA h2).2 (fun u s₄ ⟨ru, k4⟩ => ?_) fun _ _ x => x)
        have q4 := q3.keeps k4
        refine wpAny_mono (qo c pins σ s₁ s₄ A' E' x y v u (.bl false) I ok q4.old hA rv ru hf) (fun b1 s₅ ⟨rb, k5⟩ => ?_) fun _ _ x => x
        obtain rfl := repU_bl.mp rb
        exact wpAny_truthy_bool (ite_ff ⟨rfl, keeps_trans k3 (keeps_trans k4 k5)⟩)
      · cases he2
end Sm
end

section
set_option Elab.async false
set_option linter.all false
set_option autoImplicit false
set_option maxRecDepth 100000
set_option maxHeartbeats 4000000
/-! More built-in functions, targets, errors. -/
namespace Sm
open PySem PySem.Spec PySem.Calls PyProof.Rows PySem.W L2
variable {g : Gx} {X : Cx} {E : XK}
/-! ### displays -/
def RPs (c : Ct) (l : List (K1 × Sm.D)) (ps : List (V × V)) : Prop := ∃ us : List (L2.Key × V), ps = us.map (fun kv => (kV kv.1, kv.2)) ∧ RK c kK l us
def SPs (g : Gx) (E : XK) (trs : List (TE × TE)) (ps : List (ME × ME)) : Prop := ∀ (c : Ct) (σ : L2.St) (e : Sm.Env) (Q : List (V × V) → Hp → Prop), Ok g c → EnvR c e σ →
  PostG g c E (fun l S => ∀ c' vs, Ok g c' → Le c c' → RsE c' c → c'.S = S → RPs c' l vs → Q vs c'.H) (aPairs ps e c.S) → tPairs trs σ c.H Q
def DPs (g : Gx) (X : Cx) (E : XK) (pos : Pos) (keys : List (Option Expr)) (values : List Expr) (ps : List (ME × ME)) : Prop := ∃ trs, PPs X pos keys values trs ∧ SPs g E trs ps
theorem dp_nil {pos : Pos} : DPs g X E pos [] [] [] := ⟨_, pps_nil, fun c σ e Q ok er hp => hp c [] ok (Le.refl c) (RsE.refl c) rfl ⟨[], rfl, rfl⟩⟩
theorem dp_cons {pos : Pos} {k v : Expr} {ks : List (Option Expr)} {vs : List Expr} {mk mv : ME} {ps : List (ME × ME)} : ES g X E k mk → ES g X E v mv → DPs g X E pos ks vs ps → DPs g X E pos (some k :: ks) (v :: vs) ((mk, mv) :: ps) :=
  fun ⟨tk, pk, sk⟩ ⟨tv, pv, sv⟩ ⟨tr, pr, sr⟩ => ⟨_, pps_cons pk pv pr, fun c σ e Q ok er hp => by
    show tk σ c.H _
    refine bindE (R := fun l S => ∀ c' vs, Ok g c' → Le c c' → RsE c' c → c'.S = S → RPs c' l vs → Q vs c'.H) sk ok er hp fun c1 x v ok1 l1 r1 rx hp1 => ?_
    show tv σ c1.H _
    refine bindE (R := fun l S => ∀ c' vs, Ok g c' → Le c c' → RsE c' c → c'.S = S → RPs c' l vs → Q vs c'.H) sv ok1 (er.mono l1) hp1 fun c2 y w ok2 l2 r2 ry hp2 => ?_
    refine sr c2 σ e _ ok2 (er.mono (l1.trans l2)) ?_
    revert hp2
    cases aPairs ps e c2.S with
    | bad => exact id
    | exc j S => exact id
    | ok l S =>
      intro hp2 c3 zs ok3 l3 r3 s3 ⟨us, e3, rk⟩
      have hp3 : PostG g c2 E (fun l S => ∀ c' vs, Ok g c' → Le c c' → RsE c' c → c'.S = S → RPs c' l vs → Q vs c'.H) (match keyD x with
        | some k => .ok ((k, y) :: l) S
        | none => .bad) := hp2
      split at hp3
      · rename_i kk hk
        have l13 := l2.trans l3
        refine (hp3 : ∀ c' vs, Ok g c' → Le c c' → RsE c' c → c'.S = S → RPs c' ((kk, y) :: l) vs → Q vs c'.H) c3 _ ok3 (l1.trans l13) (r3.trans (r2.trans r1)) s3 ⟨(kK kk, w) :: us, ?_, ⟨w, us, rfl, Rep.mono l3 _ _ ry, rk⟩⟩
        rw [key_rep hk (Rep.mono l13 _ _ rx), e3]; rfl
      · exact hp3.elim⟩
theorem es_disp {pos : Pos} {keys : List (Option Expr)} {values : List Expr} {ps : List (ME × ME)} (hall : keys.all (·.isSome) = true) (hl : keys.length = values.length) (h0 : keys ≠ []) (h15 : keys.length ≤ 15) (hn : ∀ e S l S', aPairs ps e S = .ok l S' → l.length ≤ 15) :
    DPs g X E pos keys values ps → ES g X E (.Dict keys values pos) (eNew (oDisp ps)) := fun ⟨trs, pp, sp⟩ => ⟨_, pe_disp pp hall hl h0 h15, fun c σ e Q ok er hp => by
  intro p hpn
  have ok1 := ok.newR (o := .dK []) hpn
  have l1 : Le c _ := Le.newR (c := c) (o := .dK []) hpn
  refine sp { c with H := upd c.H p (.dK []), rs := p :: c.rs } σ e _ ok1 (er.mono l1) ?_
  have hp' : PostG g c E (WE g c Q) (((aPairs ps e c.S).bind fun l S1 => (.ok (Ob.dct (mergeK [] l)) S1 : Out Ob)).bind fun o S1 => .ok (.obj S1.length) (S1 ++ [o])) := hp
  have hlen := hn e c.S
  revert hp' hlen
  show _ → _ → PostG g _ E _ (aPairs ps e c.S)
  cases aPairs ps e c.S with
  | bad => exact fun h _ => h
  | exc j S =>
    exact fun h _ c' ok' l' r' s' => by
      -- the reserve is given back
      have hr : c'.rs = p :: c.rs := r'.eq
      have h2 := h (({ c' with rs := c.rs } : Ct)) (ok'.unR hr) ((l1.trans l').trans (Le.unR hr)) ⟨rfl, fun a ha => by
        have := r'.kp a (List.mem_cons_of_mem _ ha)
        show c'.H a = _
        rw [this]
        show upd c.H p _ a = _
        obtain ⟨y, e, _⟩ := ok.rsh a ha
        rw [upd_ne (ne_of_none e hpn)]⟩ s'
      exact h2
  | ok l S =>
    intro hp2 hlen c2 vs ok2 l2 r2 s2 ⟨us, e2, rk⟩
    have hr : c2.rs = p :: c.rs := r2.eq
    have hH2 : c2.H p = some (.dK []) := (r2.kp p List.mem_cons_self).trans upd_same
    have hq : WE g c Q (.obj S.length) (S ++ [.dct (mergeK [] l)]) := hp2
    refine ⟨hH2, us, e2, by rw [rk_len rk]; exact hlen l S rfl, ?_⟩
    have mr : p ∈ c2.rs := by rw [hr]; exact List.mem_cons_self
    have ok3 := ok2.mutR (o := .dK (L2.mergeK [] us)) mr (fun ps z => by rw [hH2] at z; cases z) (fun q z => by rw [hH2] at z; cases z) (fun ob u z => by rw [hH2] at z; cases z)
    have l3 : Le c2 { c2 with H := upd c2.H p (.dK (L2.mergeK [] us)) } := Le.mutR mr (fun ob u z => by rw [hH2] at z; cases z)
    have rkm : RK ({ c2 with H := upd c2.H p (.dK (L2.mergeK [] us)) } : Ct) kK (mergeK [] l) (L2.mergeK [] us) := rk_mono (fun d v => Rep.mono l3 d v) (merge_rk rk (show RK c2 kK [] [] from rfl))
    have np : p ∉ c.rs := ok.notR hpn
    have ok4 := ok3.own (p := p) (l := c.rs) (o := .dct (mergeK [] l)) hr np ⟨_, upd_same, rk_of.mpr rkm⟩
    have l4 : Le ({ c2 with H := upd c2.H p (.dK (L2.mergeK [] us)) } : Ct) _ := Le.own (o := .dct (mergeK [] l)) (l := c.rs) hr
    refine hq _ (.ref p) ok4 ((l1.trans l2).trans (l3.trans l4)) ⟨rfl, fun a ha => ?_⟩ (by show c2.S ++ _ = _; rw [s2]) (rep_obj.mpr ⟨by show S.length < (c2.S ++ [_]).length; rw [s2]; simp, fun _ => ?_⟩)
    · obtain ⟨y, e, _⟩ := ok.rsh a ha
      have hne : a ≠ p := ne_of_none e hpn
      show upd c2.H p _ a = _
      rw [upd_ne hne, r2.kp a (List.mem_cons_of_mem _ ha)]
      show upd c.H p _ a = _
      rw [upd_ne hne]
    · show V.ref p = V.ref (addI _ p S.length)
      rw [← s2]
      rw [show addI ({ c2 with H := upd c2.H p (.dK (L2.mergeK [] us)) } : Ct) p c2.S.length = p from addI_eq]⟩
theorem pairs_len : ∀ {ps : List (ME × ME)} {e : Sm.Env} {S S' : Store} {l : List (K1 × Sm.D)}, aPairs ps e S = .ok l S' → l.length = ps.length
  | [], e, S, S', l, h => by cases h; rfl
  | (k, v) :: ps, e, S, S', l, h => by
    unfold aPairs at h
    cases h1 : k e S with
    | bad => rw [h1] at h; cases h
    | exc j S1 => rw [h1] at h; cases h
    | ok x S1 =>
      rw [h1] at h
      have h : ((v e S1).bind fun y S2 => (aPairs ps e S2).bind fun l S3 => match keyD x with
        | some k => .ok ((k, y) :: l) S3
        | none => .bad) = .ok l S' := h
      cases h2 : v e S1 with
      | bad => rw [h2] at h; cases h
      | exc j S2 => rw [h2] at h; cases h
      | ok y S2 =>
        rw [h2] at h
        have h : ((aPairs ps e S2).bind fun l S3 => (match keyD x with
          | some k => .ok ((k, y) :: l) S3
          | none => .bad : Out (List (K1 × Sm.D)))) = .ok l S' := h
        cases h3 : aPairs ps e S2 with
        | bad => rw [h3] at h; cases h
        | exc j S3 => rw [h3] at h; cases h
        | ok l' S3 =>
          rw [h3] at h
          have h : (match keyD x with
            | some k => .ok ((k, y) :: l') S3
            | none => .bad : Out (List (K1 × Sm.D))) = .ok l S' := h
          cases hk : keyD x with
          | none => rw [hk] at h; cases h
          | some kk =>
            rw [hk] at h
            cases h
            rw [List.length_cons, List.length_cons, pairs_len h3]
/-! ### max(.., default=d) -/
theorem maxOf_int : ∀ (l : List Int) (x : Int), maxOf x l = maxI l x
  | [], x => rfl
  | y :: l, x => by
    show maxOf (if decide (x < y) = true then y else x) l = maxI l (if y > x then y else x)
    rw [maxOf_int]
    congr 1
    by_cases h : x < y <;> simp [h]
def rMaxDef (K : PySem.W.Frag) : List V → List V → Hp → VK → Prop := fun vs zs H Q => ∃ (a : Addr) (ns : List Int) (d : V), vs = [V.ref a] ∧ zs = [d] ∧ SqL K H a (ns.map V.int) ∧ (ns = [] → Q d H) ∧ ∀ y r, ns = y :: r → Q (.int (maxI r y)) H
theorem cr_maxDef (hc : X.calm = true) (hu : X.A.units + 10 < cLine) : CallRK X (.builtin "max") [Str.ofString "default"] (rMaxDef X.K) := by
  intro pins s σ H vs zs us ws Q I r rz ⟨a, ns, d, e1, e2, hs, h0, h1⟩
  subst e1 e2
  obtain rfl := Vals.ref1 r
  obtain ⟨w1, rfl, rw1⟩ := vals1 rz
  obtain ⟨its, rv, hl, hz⟩ := I.list hs
  refine max_list_datum_default (α := Int) (I.ok.hd hc) hl.isList (HoldAll.of_ints (by simpa using rv.ints)) (by show X.A.units + 1 + 0 < cLine; omega) (fun e h' tk hk => ⟨d, H, I.kept (t' := tk) hk, rw1, h0 e⟩) fun y ys i v h' tk e hv hh hk => ?_
  obtain ⟨t, rfl⟩ := int_of_holds hh
  refine ⟨.int (maxI ys y), H, I.kept (t' := tk) hk, ⟨t, by rw [maxOf_int]⟩, h1 y ys e⟩
theorem es_maxDef {a d : Expr} {ma md : ME} {p pos kpos : Pos} (xo : XO g X E) (hm : X.mg "max" = none) (hg : Gl X "max" := by rfl)
    (hs : starEach [a] X.env = (false, eval a X.env) :: starEach [] X.env := by rfl) (he : backTo pos (starEach [a] X.env) = (false, eval a X.env) :: backTo pos (starEach [] X.env) := by rfl) (hpl : (backTo pos (starEach [a] X.env)).any (·.1) = false := by rfl)
    (hall : (backToKw pos (keywordEach [⟨some "default", d, kpos⟩] X.env)).all (·.1.isSome) = true := by rfl) (hnone : (backToKw pos (keywordEach [⟨some "default", d, kpos⟩] X.env)).any (·.1.isNone) = false := by rfl) (hks : (backToKw pos (keywordEach [⟨some "default", d, kpos⟩] X.env)).filterMap (·.1) = [Str.ofString "default"] := by rfl) :
    ES g X E a ma → ES g X E d md → ES g X E (.Call (.Name "max" p) [a] [⟨some "default", d, kpos⟩] pos) (eMaxDef ma md) := fun ⟨ta, pa, sa⟩ ⟨td, pd, sd⟩ =>
  ⟨_, pe_callBK (cr_maxDef xo.calm (by have := xo.units; omega)) hg hm (show bootBuiltins "max" = some (.builtin "max") by decide +kernel) (pa_cons pa pa_nil hs) (pk_cons pd pk_nil) (by decide) (by decide) he hpl hall hnone hks, fun c σ e Q ok er hp => by
    show ta σ c.H _
    refine bindE (R := WE g c Q) sa ok er hp fun c1 x v ok1 l1 r1 rx hp1 => ?_
    show td σ c1.H _
    refine bindE (R := WE g c Q) sd ok1 (er.mono l1) hp1 fun c2 y w ok2 l2 r2 ry hp2 => ?_
    have hx := Rep.mono l2 _ _ rx
    cases ex : view c2.S x <;> first | (simp only [ex] at hp2; exact hp2.elim) | skip
    rename_i ds
    simp only [ex] at hp2
    obtain ⟨q, vs, rfl, h1, h2⟩ := see_lst ok2 hx ex
    cases hi : intsD ds with
    | none => simp only [hi] at hp2; exact hp2.elim
    | some ns =>
      simp only [hi] at hp2
      have hv := intsD_of hi h2
      subst hv
      refine ⟨q, ns, w, rfl, rfl, .inl h1, fun e0 => ?_, fun z r e0 => ?_⟩
      · subst e0
        exact WE.here ok2 ry (WE.later (l1.trans l2) (r2.trans r1) (hp2 : WE g c Q y c2.S))
      · subst e0
        exact we_int ok2 (WE.later (l1.trans l2) (r2.trans r1) (hp2 : WE g c Q _ c2.S))⟩
/-! ### sorted(.., reverse=b) -/
theorem cr_sortKw {b : Bool} (hu : X.A.units + 10 < cLine) : CallRK X (.builtin "sorted") [Str.ofString "reverse"] (fun vs zs H Q => zs = [.bl b] ∧ rSortD X.K b vs H Q) := by
  intro pins s σ H vs zs us ws Q I r rz ⟨ez, a, bs, ev, hs, hd, hal, hk, h6, q⟩
  subst ev ez
  obtain ⟨u, rfl, ru⟩ := vals1 r
  obtain rfl : u = Value.ref a := ru
  obtain ⟨w1, rfl, e1⟩ := vals1 rz
  obtain rfl : w1 = Value.bool b := e1
  obtain ⟨its, rv, T, o, n, hT, ho, hc, hdt, hz⟩ : ∃ its, Vals (bs.map (·.1)) its ∧ ∃ (T : String) (o : Obj) (n : Nat), (T = "list" ∨ T = "tuple") ∧ s.heap.get? a = some o ∧ o.cls = .type T ∧ o.data = .seq its.toArray n ∧ its.length ≤ sizeLine := by
    rcases hs with hs | hs
    · obtain ⟨its, rv, hl, hz⟩ := I.list hs
      obtain ⟨o, ho, hc, n, hdt⟩ := hl.isList
      exact ⟨its, rv, "list", o, n, .inl rfl, ho, hc, hdt, by rw [← rv.length]; exact hz⟩
    · obtain ⟨its, rv, hl, hz⟩ := I.tuple hs
      obtain ⟨o, ho, hc, n, hdt⟩ := hl
      exact ⟨its, rv, "tuple", o, n, .inr rfl, ho, hc, hdt, by rw [← rv.length]; exact hz⟩
  refine sorted_coll (b := b) (.inr rfl) (wpAny_collect_seq a hT ho hc hdt (fun h1 hk1 => ?_) (by rw [List.size_toArray]; exact hz))
  exact sort_go (b := b) (tk := s.toks) hu I rv hz hd hal hk h6 q hk1
theorem es_sortKw {a : Expr} {ma : ME} {b : Bool} {j : _} {p pos kpos p2 : Pos} (xo : XO g X E) (hm : X.mg "sorted" = none) (hg : Gl X "sorted" := by rfl)
    (hs : starEach [a] X.env = (false, eval a X.env) :: starEach [] X.env := by rfl) (he : backTo pos (starEach [a] X.env) = (false, eval a X.env) :: backTo pos (starEach [] X.env) := by rfl) (hpl : (backTo pos (starEach [a] X.env)).any (·.1) = false := by rfl)
    (hall : (backToKw pos (keywordEach [⟨some "reverse", .Constant (.bool b) j p2, kpos⟩] X.env)).all (·.1.isSome) = true := by rfl) (hnone : (backToKw pos (keywordEach [⟨some "reverse", .Constant (.bool b) j p2, kpos⟩] X.env)).any (·.1.isNone) = false := by rfl) (hks : (backToKw pos (keywordEach [⟨some "reverse", .Constant (.bool b) j p2, kpos⟩] X.env)).filterMap (·.1) = [Str.ofString "reverse"] := by rfl) :
    ES g X E a ma → ES g X E (.Call (.Name "sorted" p) [a] [⟨some "reverse", .Constant (.bool b) j p2, kpos⟩] pos) (eSortKw b ma) := fun ⟨ta, pa, sa⟩ =>
  ⟨_, pe_callBK (cr_sortKw (b := b) (by have := xo.units; omega)) hg hm bt_sorted (pa_cons pa pa_nil hs) (pk_cons pe_bl pk_nil) (by decide) (by decide) he hpl hall hnone hks, fun c σ e Q ok er hp => by
    show ta σ c.H _
    refine bindE (R := WE g c Q) sa ok er hp fun c1 x v ok1 l1 r1 rx hp1 => ?_
    refine ⟨rfl, ?_⟩
    obtain ⟨z, hz, q⟩ := PostG.ofO (α := Sm.D) hp1
    unfold bSortedR at hz
    cases hsq : seqD c1.S x with
    | none => simp only [hsq] at hz; cases hz
    | some ds =>
      simp only [hsq] at hz
      split at hz
      · rename_i ho
        cases hz
        exact sort_sc ok1 rx hsq ho (WE.later l1 r1 q)
      · cases hz⟩
/-! ### x in range(a, b) -/
theorem bt_range : bootBuiltins "range" = some (.type "range") := by decide +kernel
def rIR : R2 := fun x y H Q => ∃ i a lo hi, x = V.int i ∧ y = V.ref a ∧ H a = some (.rng lo hi) ∧ Q (.bl (decide (lo ≤ i ∧ i < hi))) H
def rR2 : List V → Hp → VK → Prop := fun vs H Q => ∃ i j, vs = [V.int i, V.int j] ∧ ∀ p, H p = none → Q (.ref p) (upd H p (.rng i j))
theorem rng_se {tx ta tb : TE} {mx ma mb : ME} (sx : SE g E tx mx) (sa : SE g E ta ma) (sb : SE g E tb mb) : SE g E (tOp rIR tx (tCB rR2 (tCons ta (tCons tb tNil)))) (eInRng mx ma mb) := by
  intro c σ e Q ok er hp
  show tx σ c.H _
  refine bindE (R := WE g c Q) sx ok er hp fun c1 x v ok1 l1 r1 rx hp1 => ?_
  show ta σ c1.H _
  refine bindE (R := WE g c Q) sa ok1 (er.mono l1) hp1 fun c2 y w ok2 l2 r2 ry hp2 => ?_
  show tb σ c2.H _
  refine bindE (R := WE g c Q) sb ok2 (er.mono (l1.trans l2)) hp2 fun c3 z u ok3 l3 r3 rz hp3 => ?_
  split at hp3
  · rename_i i lo hi
    rw [rep_int.mp rx, rep_int.mp ry, rep_int.mp rz]
    refine ⟨lo, hi, rfl, fun p hpn => ⟨i, p, lo, hi, rfl, rfl, upd_same, ?_⟩⟩
    exact we_bl (ok3.new hpn) (WE.later ((l1.trans (l2.trans l3)).trans (Le.new hpn)) ((RsE.new ok3 hpn).trans (r3.trans (r2.trans r1))) (hp3 : WE g c Q _ c3.S))
  · exact hp3.elim
section
variable {x a b : Expr} {mx ma mb : ME} {p rpos pos : Pos}
theorem es_inRng (hm : X.mg "range" = none) (hg : Gl X "range" := by rfl) (hmk : behindInMarks .In (.Call (.Name "range" p) [a, b] [] rpos) = false := by rfl) (hs1 : starEach [b] X.env = (false, eval b X.env) :: starEach [] X.env := by rfl) (hs : starEach [a, b] X.env = (false, eval a X.env) :: starEach [b] X.env := by rfl)
    (hpl : (backTo rpos (starEach [b] X.env)).any (·.1) = false := by rfl) : ES g X E x mx → ES g X E a ma → ES g X E b mb → ES g X E (.Compare x [.In] [.Call (.Name "range" p) [a, b] [] rpos] pos) (eInRng mx ma mb) :=
  fun ⟨tx, px, sx⟩ ⟨ta, pa, sa⟩ ⟨tb, pb, sb⟩ => ⟨_, pe_cmpR op_in_rng px (pe_callTy cr_range2 hg hm bt_range (pa_cons pa (pa_cons pb pa_nil hs1) hs) (by decide) (by decide) hs hpl) hmk, rng_se sx sa sb⟩
theorem bs_inRng (hm : X.mg "range" = none) (hg : Gl X "range" := by rfl) (hmk : behindInMarks .In (.Call (.Name "range" p) [a, b] [] rpos) = false := by rfl) (hs1 : starEach [b] X.env = (false, eval b X.env) :: starEach [] X.env := by rfl) (hs : starEach [a, b] X.env = (false, eval a X.env) :: starEach [b] X.env := by rfl)
    (hpl : (backTo rpos (starEach [b] X.env)).any (·.1) = false := by rfl) : ES g X E x mx → ES g X E a ma → ES g X E b mb → BS g X E (.Compare x [.In] [.Call (.Name "range" p) [a, b] [] rpos] pos) (tB (eInRng mx ma mb)) :=
  fun ⟨tx, px, sx⟩ ⟨ta, pa, sa⟩ ⟨tb, pb, sb⟩ => ⟨_, pt_cmpR op_in_rng px (pe_callTy cr_range2 hg hm bt_range (pa_cons pa (pa_cons pb pa_nil hs1) hs) (by decide) (by decide) hs hpl) hmk, fun c σ e Q ok er hp => by
    show tOp rIR tx (tCB rR2 (tCons ta (tCons tb tNil))) σ c.H _
    refine bindE (R := WB g c Q) (rng_se sx sa sb) ok er hp fun c1 x v ok1 l1 r1 rx hp1 => ?_
    cases x <;> first | exact hp1.elim | skip
    rename_i k
    exact ⟨k, rep_bl.mp rx, hp1 c1 ok1 l1 r1 rfl⟩⟩
end
/-! ### the place of an int in a list -/
theorem ixOf_spec {i : Int} : ∀ {ns : List Int} {j : Nat}, ixOf i ns = some j → ns[j]? = some i ∧ ∀ m n, m < j → ns[m]? = some n → n ≠ i
  | [], j, h => by cases h
  | y :: r, j, h => by
    unfold ixOf at h
    by_cases hy : y = i
    · rw [if_pos hy] at h
      cases h
      exact ⟨by rw [hy]; rfl, fun m n hm => absurd hm (Nat.not_lt_zero _)⟩
    · rw [if_neg hy] at h
      obtain ⟨j', h1, rfl⟩ := Option.map_eq_some_iff.mp h
      obtain ⟨a, b⟩ := ixOf_spec h1
      refine ⟨by simpa using a, fun m n hm hn => ?_⟩
      cases m with
      | zero =>
        have : y = n := by simpa using hn
        rw [← this]; exact hy
      | succ m => exact b m n (by omega) (by simpa using hn)
theorem lstV_of {c : Ct} (ok : Ok g c) {x : Sm.D} {v : V} {ds : List Sm.D} (rx : Rep c x v) (h : lstV c.S x = some ds) : ∃ a vs, v = .ref a ∧ Rd c.H a (.lst vs) ∧ RepL c ds vs := by
  unfold lstV at h
  split at h
  · rename_i xs ex
    cases h
    exact see_lst ok rx ex
  · cases h
theorem es_index {o a : Expr} {mo m : ME} {apos cpos : Pos} (hbase : attributeBase o "index" X.env (eval o X.env) = eval o X.env := by rfl)
    (hfew : ((backTo cpos (starEach [a] X.env)).all (fun x => !x.1) && (backToKw cpos (keywordEach [] X.env)).all (fun x => x.1.isSome)
      && decide (([a] : List Expr).length + ([] : List Keyword).length + (if ([] : List Keyword).isEmpty then 0 else 1) < 30)) = true := by rfl)
    (hline : (apos.endLine == cpos.line) = true := by rfl) (hs : starEach [a] X.env = (false, eval a X.env) :: starEach [] X.env := by rfl) (hpl : (backTo cpos (starEach [] X.env)).any (·.1) = false := by rfl) :
    ES g X E o mo → ES g X E a m → ES g X E (.Call (.Attribute o "index" apos) [a] [] cpos) (eIndex mo m) := fun ⟨to, po, so⟩ ⟨ta, pa, sa⟩ => by
  refine ⟨_, pe_bm PySem.F.plainAttrs_list PySem.F.slot_list_index PySem.F.type_list_index mt_index po (pa_cons pa pa_nil hs) hbase hfew hline hs hpl, fun c σ e Q ok er hp => ?_⟩
  show to σ c.H _
  refine bindE (R := WE g c Q) so ok er hp fun c1 x v ok1 l1 r1 rx hp1 => ?_
  cases h0 : lstV c1.S x with
  | none => simp only [h0] at hp1; exact hp1.elim
  | some xs0 =>
    simp only [h0] at hp1
    obtain ⟨p, vs, rfl, h1, _⟩ := lstV_of ok1 rx h0
    refine ⟨.inl ⟨rfl, _, .inl h1⟩, ?_⟩
    show ta σ c1.H _
    refine bindE (R := WE g c Q) sa ok1 (er.mono l1) hp1 fun c2 y w ok2 l2 r2 ry hp2 => ?_
    cases h2 : lstV c2.S x with
    | none => simp only [h2] at hp2; exact hp2.elim
    | some xs =>
      simp only [h2] at hp2
      cases hi : intsD xs with
      | none => simp only [hi] at hp2; exact hp2.elim
      | some ns =>
        cases y <;> first | (simp only [hi] at hp2; exact hp2.elim) | skip
        rename_i i
        cases hj : ixOf i ns with
        | none => simp only [hi, hj] at hp2; exact hp2.elim
        | some j =>
          simp only [hi, hj] at hp2
          obtain ⟨p2, ws, e2, h3, h4⟩ := lstV_of ok2 (Rep.mono l2 _ _ rx) h2
          cases e2
          have hw := intsD_of hi h4
          subst hw
          obtain ⟨q1, q2⟩ := ixOf_spec hj
          rw [rep_int.mp ry]
          refine ⟨p, ns.map V.int, .int i, j, .int i, rfl, rfl, .inl h3, rfl, by simp [List.all_eq_true, flatV], by rw [List.getElem?_map, q1]; rfl, by simp [L2.eqV], fun m z' hm hz => ?_, we_int ok2 (WE.later (l1.trans l2) (r2.trans r1) (hp2 : WE g c Q _ c2.S))⟩
          rw [List.getElem?_map] at hz
          cases hn : ns[m]? with
          | none => rw [hn] at hz; cases hz
          | some n =>
            rw [hn] at hz
            cases hz
            have := q2 m n hm hn
            simp [L2.eqV, this]
/-! ### places as targets -/
theorem gs_subD {o i : Expr} {mo mi : ME} {spos : Pos} (xo : XO g X E) (ha : ∀ v, assign (.Subscript o i spos) X.env v = (do
      let ov ← holding [v] (eval o X.env)
      let iv ← holding [v, ov] (eval i X.env)
      standAt spos
      holding [v, ov, iv] (setItem ov iv v)
      release [v, ov, iv] []) := by intro _; rfl) : ES g X E o mo → ES g X E i mi → GS g X E (.Subscript o i spos) (gSubD mo mi) [] := fun ⟨to, po, so⟩ ⟨ti, pi, si⟩ =>
  ⟨_, pg_sub po pi (set_dict (by have := xo.units; omega)) ha, fun c d v e σ Q ok r er hp => by
    show to σ c.H _
    refine bindE (R := WG g c σ [] Q) so ok er hp fun c1 x u ok1 l1 r1 rx hp1 => ?_
    show ti σ c1.H _
    refine bindE (R := WG g c σ [] Q) si ok1 (er.mono l1) hp1 fun c2 k w ok2 l2 r2 rk hp2 => ?_
    split at hp2
    · rename_i S3 h3
      obtain ⟨a0, H', c3, rfl, h5, ok3, l3, r3, s3, h6⟩ := dput_of ok2 (Rep.mono l2 _ _ rx) rk (Rep.mono (l1.trans l2) _ _ r) h3
      refine ⟨a0, H', rfl, h5, ?_⟩
      rw [← h6]
      exact (hp2 : WG g c σ [] Q e S3) c3 σ ok3 (l1.trans (l2.trans l3)) (r3.trans (r2.trans r1)) s3 (er.mono (l1.trans (l2.trans l3))) rfl (fun _ _ => rfl)
    · exact hp2.elim⟩
theorem gs_subL {o i : Expr} {mo mi : ME} {spos : Pos} (ha : ∀ v, assign (.Subscript o i spos) X.env v = (do
      let ov ← holding [v] (eval o X.env)
      let iv ← holding [v, ov] (eval i X.env)
      standAt spos
      holding [v, ov, iv] (setItem ov iv v)
      release [v, ov, iv] []) := by intro _; rfl) : ES g X E o mo → ES g X E i mi → GS g X E (.Subscript o i spos) (gSubL mo mi) [] := fun ⟨to, po, so⟩ ⟨ti, pi, si⟩ =>
  ⟨_, pg_sub po pi set_list ha, fun c d v e σ Q ok r er hp => by
    show to σ c.H _
    refine bindE (R := WG g c σ [] Q) so ok er hp fun c1 x u ok1 l1 r1 rx hp1 => ?_
    show ti σ c1.H _
    refine bindE (R := WG g c σ [] Q) si ok1 (er.mono l1) hp1 fun c2 k w ok2 l2 r2 rk hp2 => ?_
    cases h : lstAt c2.S x with
    | none => simp only [h] at hp2; exact hp2.elim
    | some pr =>
      obtain ⟨r0, xs⟩ := pr
      simp only [h] at hp2
      obtain ⟨_, hl, hS, e2, vs, h3, h4⟩ := lstAt_of ok2 (Rep.mono l2 _ _ rx) h
      cases k <;> first | exact hp2.elim | skip
      rename_i z
      dsimp only at hp2
      cases hz : ixZ xs.length z with
      | none => simp only [hz] at hp2; exact hp2.elim
      | some j =>
        simp only [hz] at hp2
        obtain ⟨c3, ok3, l3, r3, s3, hH⟩ := put_lst ok2 hl hS h3 (repL_set (Rep.mono (l1.trans l2) _ _ r) j h4)
        refine ⟨c2.ι r0, vs, z, j, e2, rep_int.mp rk, h3, ?_, ?_⟩
        · rw [repL_len h4]; exact hz
        · rw [← hH]
          exact (hp2 : WG g c σ [] Q e _) c3 σ ok3 (l1.trans (l2.trans l3)) (r3.trans (r2.trans r1)) s3 (er.mono (l1.trans (l2.trans l3))) rfl (fun _ _ => rfl)⟩
/-! ### errors -/
theorem st_raiseT {fa : List He.Fa} {fn : List He.DefD} {tf : List He.Defn} {base : Heap} {x : Str} {k : Nat} {a : Expr} {m : ME} {p pos rpos : Pos} (xo : XO g X E) (T : Tt fa fn tf X.K X.mg base) (i j : Nat) (hC : He.ga X.K x = g.ex k := by rfl) (hg : Gl X x := by rfl) (h : fa[i]? = some (.exc x) := by rfl) (h2 : fa[j]? = some (.glo x) := by rfl)
    (hs : starEach [a] X.env = (false, eval a X.env) :: starEach [] X.env := by rfl) (hdb : (x == ("__debug__" : Str)) = false := by decide) : ES g X E a m → ST g X E (.Raise (some (.Call (.Name x p) [a] [] pos)) none rpos) (sRaise1 k m) := fun he => by
  obtain ⟨h1, h2', h3, h4⟩ := He.exc_ok (T.d.fact i h)
  exact st_raise1 xo hC PySem.F.excBase_ValueError h1 (T.glo j h2) h2' (raises_own h3 h4) hg hs hdb he
/-- list(x), a fresh place -/
theorem sn_list {K : PySem.W.Frag} : SN g (fun xs H Q => ∃ p ys, xs = [.ref p] ∧ (SqL K H p ys ∨ SqT K H p ys) ∧ ∀ l, H l = none → Q (.ref l) (upd H l (.lst ys))) nList := by
  intro c xs vs Q z ok r e q
  unfold nList at e
  split at e
  · rename_i x
    cases h : seqD c.S x with
    | none => rw [h] at e; cases e
    | some ds =>
      rw [h] at e; cases e
      obtain ⟨v, rfl, rx⟩ := rep1 r
      obtain ⟨p, ws, rfl, h1, h2⟩ := seqD_of ok rx h
      refine ⟨p, ws, rfl, ?_, we_own ok h2 q⟩
      rcases h1 with ⟨_, h1⟩ | ⟨_, h1⟩
      · exact .inl (.inl h1)
      · exact .inr (SqT.of h1)
  · cases e
end Sm
end

section
set_option Elab.async false
set_option linter.all false
set_option autoImplicit false
set_option maxRecDepth 100000
set_option maxHeartbeats 4000000
/-! Generator expressions over the values of a dict. -/
namespace Sm
open PySem PySem.Spec PyProof.Rows L2
theorem walks_mono {prog : Program} {w : World} {A : Around} {I : Addr} {fp wr : List Addr} {n : Nat} {P P' : Nat → Value → Prop} {St : Nat → Heap → Prop} (W : Walks prog w A I fp wr n P St) (h : ∀ i v, P i v → P' i v) : Walks prog w A I fp wr n P' St where
  sub := W.sub
  frame := W.frame
  item := fun i s Q E hi st hQ => W.item i s Q E hi st fun v h' tk p => hQ v h' tk (h i v p)
  done := W.done
  self := W.self
theorem kv_vals : ∀ {kvs : List (L2.Key × V)} {vs : List (L2.Key × Value)}, KV kvs vs → Vals (kvs.map (·.2)) (vs.map (·.2))
  | _, _, .nil => .nil
  | _, _, .cons r rr => .cons r.2 (kv_vals rr)
variable {g : Gx} {X : Cx} {E : XK}
theorem gVals_bind {c : Ct} {e : Sm.Env} {S : Store} {ma : ME} {β : Type} {R : β → Store → Prop} {k : List Sm.D → Store → Out β} (h : PostG g c E R ((gVals ma e S).bind k)) :
    PostG g c E R ((ma e S).bind fun x S1 => (valsW x S1).bind k) := by
  unfold gVals at h
  cases q : ma e S with
  | bad => rw [q] at h; exact h
  | exc j S => rw [q] at h; exact h
  | ok x S1 => rw [q] at h; exact h
/-- for x in d.values() -/
theorem gj_vals {k : Nat} {elt o : Expr} {ifs : List Expr} {scope : Scope} {x : Str} {j : Nat} {px gpos apos cpos : Pos} {cA P : Addr} {ma me : ME} {mt : MB} (hr : Room k X.A) (TB : LamX.TabB X.base X.mg cA P) (hcode : X.env.code = .ref cA) (hmT : (P, X.env.qual ++ "<genexpr>") ∈ g.tabs) (hu : ∀ p ∈ g.tabs, p.1 = P → p.2 = X.env.qual ++ "<genexpr>")
    (S : GenOk X.N X.env.scope scope [(x, j)]) (hi : ES g X E o ma) (hel : QE g X scope [(x, j)] elt me) (hif : QI g X scope [(x, j)] ifs mt)
    (hbase : attributeBase o "values" X.env (eval o X.env) = eval o X.env := by rfl) (hline : (apos.endLine == cpos.line) = true := by rfl)
    (hs : ∀ v, genFold (.Call (.Attribute o "values" apos) [] [] cpos) X.env v = pure v := by intro _; rfl) : GenJ g X E (.GeneratorExp elt [⟨.Name x px, .Call (.Attribute o "values" apos) [] [] cpos, ifs, 0⟩] scope gpos) (mGen (gVals ma) (gN j) mt me) :=
  fun pins σ c e s β R h Q' I ok er hp hQ => by
    obtain ⟨hxl, hxN⟩ := S.loc (x, j) List.mem_cons_self
    obtain ⟨ti, pi, si⟩ := hi
    refine wpAny_GeneratorExp_walksQ hr.hd S.co (closure_ok fun y hy e => (S.free y hy e).elim (fun k => I.ok.has _ (.inl k)) fun k => I.ok.has _ (.inr k)) S.nocell S.dot hxl S.kind (by have := hr.dp; omega) ?_ hs
    refine values_eval (QQ := fun d kvs H1 => ∃ c1 ds, c1.H = H1 ∧ Ok g c1 ∧ Le c c1 ∧ RsE c1 c ∧ RepL c1 ds (kvs.map (·.2)) ∧ PostG g c1 E R (match genL (turnG (gN j) mt me e c1.S) ds with
        | some ys => h ys c1.S
        | none => .bad)) pi hbase hline I ?_ fun s1 H1 d kvs vs ep I2 hat kv hz hlt ⟨c1, ds, e1, ok1, l1, re1, rd, hp1⟩ => ?_
    · refine bindE (R := R) si ok er (gVals_bind (mGen_bind hp)) fun c1 x v ok1 l1 r1 rx hp1 => ?_
      unfold valsW at hp1
      split at hp1
      · rename_i kvs hk
        obtain ⟨a, us, rfl, h1, h2⟩ := dctM_of ok1 rx hk
        exact ⟨a, us, rfl, h1, c1, _, rfl, ok1, l1, r1, rk_vals (rk_of.mp h2), hp1⟩
      · exact hp1.elim
    · subst e1
      obtain ⟨ps, hP, _⟩ := ok1.tabs _ hmT
      have hPs : (s1.heap.push { cls := .type "dict_values", data := .fields #[.ref d] }).get? P = some { cls := .none, data := .fields ps } := I2.hok P _ hP
      have hPlt : P < (s1.heap.push { cls := .type "dict_values", data := .fields #[.ref d] }).objs.size := Heap.lt_size hPs
      cases hg : genL (turnG (gN j) mt me e c1.S) ds with
      | none => rw [hg] at hp1; exact hp1.elim
      | some ys =>
        rw [hg] at hp1
        have hdl : d < (s1.heap.push { cls := .type "dict_values", data := .fields #[.ref d] }).objs.size := hat.lt_size
        have haP : ∀ ps, (s1.heap.push { cls := .type "dict_values", data := .fields #[.ref d] }).get? d ≠ some { cls := .none, data := .fields ps } := fun ps z => by
          obtain ⟨o, es, e1, _, e2, _⟩ := hat
          rw [z] at e1
          cases e1
          cases e2
        have haNe : d ≠ P := fun z => haP ps ((congrArg (Heap.get? _) z).trans hPs)
        refine wpAny_pyIter_values (s := { s1 with heap := s1.heap.push { cls := .type "dict_values", data := .fields #[.ref d] } }) ⟨_, Heap.get?_push_size _ rfl, rfl, rfl⟩ hat ?_
        have hn : (vs.map (·.2)).toArray.size = vs.length := by simp
        refine gen_core1 (a := d) (its := vs.map (·.2)) (St := fun i h => h.IsValIter (s1.heap.push { cls := .type "dict_values", data := .fields #[.ref d] }).objs.size d i vs.length ep ∧ h.DictAt (mixKind X.prog X.w) d vs ep) TB hcode hmT hu S hel hif I2 ok1 (er.mono l1) (kv_vals kv) rd hdl haP
          (fun A' hA => by
            rw [hn]
            exact walks_mono (Walks.dictValues hA _ d (Nat.ne_of_lt hdl) vs ep) fun i v ⟨k, hv⟩ => by simp [hv]) (fun hh hk => ⟨?_, ?_⟩) hg fun ga s5 hrdy => hQ c1 ys ga s5 ok1 l1 re1 hp1 hrdy
        · exact ⟨_, hk _ _ (Nat.ne_of_gt hPlt) (Heap.get?_push_size _ rfl), rfl, rfl⟩
        · exact (hat.push _).at' fun o e => hk _ _ haNe e
end Sm
end

section
set_option Elab.async false
set_option linter.all false
set_option autoImplicit false
set_option maxRecDepth 100000
set_option maxHeartbeats 4000000
/-! range with steps above nought, sorted(..) as a fresh list, list.remove. -/
namespace Sm
open PySem PySem.Spec PyProof.Rows L2
theorem cntC_eq {a b c : Int} (h : 0 < c) : Builtin.Range.rangeSize a b c = (cntC a b c : Nat) := by
  unfold Builtin.Range.rangeSize cntC
  rw [if_pos h]
  split
  · have : 0 ≤ (b - a - 1) / c := Int.ediv_nonneg (by omega) (by omega)
    omega
  · rfl
theorem cntC_le {a b c : Int} (h : 0 < c) (ha : -1000000 ≤ a) (hb : b ≤ 1000000) : cntC a b c ≤ 2000000 := by
  unfold cntC
  split
  · have h1 : 0 ≤ (b - a - 1) / c := Int.ediv_nonneg (by omega) (by omega)
    have h2 : (b - a - 1) / c ≤ b - a - 1 := Int.ediv_le_self _ (by omega)
    omega
  · omega
theorem rgC_pos {a b c : Int} (h1 : -1000000 ≤ a) (h2 : a ≤ 1000000) (h3 : -1000000 ≤ b) (h4 : b ≤ 1000000) (h5 : 0 < c) (h6 : c ≤ 1000000) : RgC a b c (cntC a b c) := by
  refine ⟨by omega, by omega, ?_, cntC_eq h5⟩
  have hz := cntC_le (a := a) (b := b) h5 h1 h4
  unfold Builtin.Range.small
  rw [cntC_eq h5]
  simp only [Builtin.Range.rangeFitsLong, Bool.and_eq_true, Bool.or_eq_true, decide_eq_true_eq, beq_iff_eq, show c > 0 from h5, if_true]
  omega
variable {g : Gx} {X : Cx} {E : XK}
theorem rngP_some {ds xs : List Sm.D} (h : rngP ds = some xs) : ∃ a b c, ds = [.int a, .int b, .int c] ∧ RgC a b c (cntC a b c) ∧ cntC a b c ≤ 2000000 ∧ xs = rangeC a c (cntC a b c) := by
  unfold rngP at h
  split at h
  · split at h
    · cases h
      rename_i hb
      exact ⟨_, _, _, rfl, rgC_pos hb.1 hb.2.1 hb.2.2.1 hb.2.2.2.1 hb.2.2.2.2.1 hb.2.2.2.2.2, cntC_le hb.2.2.2.2.1 hb.1 hb.2.2.2.1, rfl⟩
    · cases h
  · cases h
theorem ints3 {c : Ct} {i j k : Int} {vs : List V} (h : RepL c [.int i, .int j, .int k] vs) : vs = [.int i, .int j, .int k] := by
  obtain ⟨v, r, rfl, h1, h2⟩ := repL_cons.mp h
  obtain ⟨u, r2, rfl, h3, h4⟩ := repL_cons.mp h2
  obtain ⟨x, r3, rfl, h5, h6⟩ := repL_cons.mp h4
  rw [repL_nil.mp h6, rep_int.mp h1, rep_int.mp h3, rep_int.mp h5]
theorem is_rangeP {tg a b d : Expr} {m : MA} {p pos : Pos} (hm : X.mg "range" = none) (hg : Gl X "range" := by rfl) (hs : starEach [a, b, d] X.env = (false, eval a X.env) :: starEach [b, d] X.env := by rfl) (hs2 : (backTo pos (starEach [b, d] X.env)).any (·.1) = false := by rfl) : AS g X E [a, b, d] m → IS g X E tg (.Call (.Name "range" p) [a, b, d] [] pos) (iRangeP m) :=
  fun ⟨ta, pa, sa, _⟩ => ⟨_, pi_range3 hg hm pa hs hs2, fun c σ e R ok er hp => by
    show ta σ c.H _
    refine bindA (R := WI g c R) sa ok er hp fun c1 ds vs ok1 l1 r1 rx hp1 => ?_
    unfold rngPI at hp1
    split at hp1
    · rename_i xs hx
      obtain ⟨i, j, k, rfl, h2, _, rfl⟩ := rngP_some hx
      rw [ints3 rx]
      exact ⟨i, j, k, _, rfl, h2, hp1 c1 _ _ ok1 l1 r1 rfl jw_rngC trivial (fun r h => by cases h)⟩
    · exact hp1.elim⟩
/-- the ints a, a + c, .. -/
def rgCV (a c : Int) (n : Nat) : List V := (List.range n).map fun i => V.int (a + (i : Nat) * c)
theorem repL_rngC {x : Ct} {c : Int} : ∀ (n : Nat) (a : Int), RepL x (rangeC a c n) (rgCV a c n)
  | 0, _ => repL_nil.mpr rfl
  | n + 1, a => by
    have ih := repL_rngC (x := x) (c := c) n (a + c)
    unfold rgCV at ih ⊢
    rw [show List.range (n + 1) = 0 :: (List.range n).map Nat.succ from List.range_succ_eq_map, List.map_cons, List.map_map]
    refine repL_cons.mpr ⟨_, _, rfl, rep_int.mpr (by simp), ?_⟩
    have e2 : ((fun i : Nat => V.int (a + (i : Int) * c)) ∘ Nat.succ) = fun i : Nat => V.int (a + c + (i : Int) * c) := by
      funext i
      show V.int (a + ((i + 1 : Nat) : Int) * c) = V.int (a + c + (i : Int) * c)
      congr 1
      rw [Int.natCast_add, Int.add_mul]
      omega
    rw [e2]
    exact ih
theorem vals_rgC {a c : Int} {n : Nat} {acc : Array Value} (h : ItemsOf (fun i v => ∃ t, v = .int (a + i * c) t) acc n) : Vals (rgCV a c n) acc.toList := by
  have e : acc.toList.length = n := by rw [Array.length_toList]; exact h.1
  unfold rgCV
  rw [← e]
  refine vals_of_get _ (fun i => V.int (a + (i : Nat) * c)) fun k y q => ?_
  have e2 : acc[k]? = some y := by rw [← Array.getElem?_toList]; exact q
  obtain ⟨z, rfl⟩ := h.2 k y e2
  exact ⟨z, rfl⟩
def tLstC (ta : TA) : TE := fun σ H Q => ta σ H fun vs H1 => ∃ (i j c : Int) (n : Nat), vs = [.int i, .int j, .int c] ∧ RgC i j c n ∧ n ≤ 2000000 ∧ ∀ q, H1 q = none → Q (.ref q) (upd H1 q (.lst (rgCV i c n)))
theorem pe_listRgC {a b d : Expr} {ta : TA} {p p2 pos pos2 : Pos} (hc : X.calm = true) (hg : Gl X "list") (hm : X.mg "list" = none) (hg2 : Gl X "range") (hm2 : X.mg "range" = none) (ha : PA X [a, b, d] ta)
    (hs : starEach [a, b, d] X.env = (false, eval a X.env) :: starEach [b, d] X.env) (hpl : (backTo pos2 (starEach [b, d] X.env)).any (·.1) = false)
    (na : starEach [.Call (.Name "range" p2) [a, b, d] [] pos2] X.env = (false, eval (.Call (.Name "range" p2) [a, b, d] [] pos2) X.env) :: starEach [] X.env) : PE X (.Call (.Name "list" p) [.Call (.Name "range" p2) [a, b, d] [] pos2] [] pos) (tLstC ta) := by
  constructor
  intro pins s σ H Q I h
  refine Call_ (ld_blt I hg hm boot_list (PyProof.Rows.callWith_type1 (args_cons ?_ na) na))
  refine Call_ (ld_blt I hg2 hm2 boot_range (PyProof.Rows.callWith_type1 (thn (ha.run pos2 pins s σ H _ I h) fun us s1 ⟨vs, H1, I1, r1, q1⟩ => ?_) hs hpl))
  obtain ⟨i, j, k, n, e, ⟨c0, c1, c2, c3⟩, hn, q⟩ := q1
  subst e
  cases r1 with
  | cons r rr =>
    cases rr with
    | cons r' rr =>
      cases rr with
      | cons r'' rr =>
        cases rr
        obtain ⟨t, rfl⟩ := r
        obtain ⟨t', rfl⟩ := r'
        obtain ⟨t'', rfl⟩ := r''
        refine call_range_3 (hp := .inl (PyProof.noPylong_small c1)) c0 ?_
        have keep : ∀ b o, s1.heap.get? b = some o → (s1.heap.push { cls := .type "range", data := .fields #[.int i t, .int j t', .int k t''] }).get? b = some o := fun _ _ q => Heap.get?_push_of_some _ q
        have I2 := I1.kept (t' := s1.toks) keep
        refine args_nil ?_
        refine call_list_range (n := n) (I.ok.hd hc) (IsRange.new ..) c2 c3 (by omega) fun h' tk acc c' hk e' hi => ?_
        exact ⟨.ref _, upd H1 _ (.lst (rgCV i k n)), I2.laid hk (Nat.le_refl _) (show ObjOk X.prog X.w _ _ _ (.lst (rgCV i k n)) from ⟨by unfold rgCV; rw [List.length_map, List.length_range, sizeLine_eq]; omega, acc.toList, c', vals_rgC hi, by rw [Array.toArray_toList]; exact e'⟩), rfl, q _ (I2.hok.fresh (Nat.le_refl _))⟩
/-- list(range(a, b, c)) -/
theorem es_lrng3 {a b d : Expr} {m : MA} {p p2 pos pos2 : Pos} (xo : XO g X E) (hm : X.mg "list" = none) (hm2 : X.mg "range" = none) (ha : AS g X E [a, b, d] m) (hg : Gl X "list" := by rfl) (hg2 : Gl X "range" := by rfl) (hs : starEach [a, b, d] X.env = (false, eval a X.env) :: starEach [b, d] X.env := by rfl) (hpl : (backTo pos2 (starEach [b, d] X.env)).any (·.1) = false := by rfl)
    (na : starEach [.Call (.Name "range" p2) [a, b, d] [] pos2] X.env = (false, eval (.Call (.Name "range" p2) [a, b, d] [] pos2) X.env) :: starEach [] X.env := by rfl) :
    ES g X E (.Call (.Name "list" p) [.Call (.Name "range" p2) [a, b, d] [] pos2] [] pos) (eLRng3 m) := by
  obtain ⟨ta, pa, sa, _⟩ := ha
  refine ⟨_, pe_listRgC xo.calm hg hm hg2 hm2 pa hs hpl na, fun c σ e Q ok er hp => ?_⟩
  show ta σ c.H _
  refine bindA (R := WE g c Q) sa ok er hp fun c1 ds vs ok1 l1 r1 rx hp1 => ?_
  obtain ⟨z, hz, q⟩ := PostG.ofO (α := Sm.D) hp1
  obtain ⟨xs, hx, rfl⟩ := Option.map_eq_some_iff.mp hz
  obtain ⟨i, j, k, rfl, h2, h3, rfl⟩ := rngP_some hx
  exact ⟨i, j, k, _, ints3 rx, h2, h3, we_newL ok1 (repL_rngC _ i) (WE.later l1 r1 (q : WE g c Q _ _))⟩
/-- sorted(..), a fresh list of its own -/
theorem sn_sorted {K : PySem.W.Frag} : SN g (rSortD K false) nSorted := by
  intro c xs vs Q z ok r e q
  unfold nSorted at e
  split at e
  · rename_i x
    obtain ⟨v, rfl, rx⟩ := rep1 r
    cases hs : seqD c.S x with
    | none => rw [hs] at e; cases e
    | some ds =>
      rw [hs] at e
      have e' : (if okSort ds = true then some (Ob.lst (sortB (leR false) ds)) else none) = some z := e
      split at e'
      · rename_i h
        cases e'
        obtain ⟨p, ws, rfl, h1, h2⟩ := seqD_of ok rx hs
        obtain ⟨f1, f2, f3, f4⟩ := sort_facts h
        obtain ⟨l, e1, e2, e3⟩ := repL_unzip h2
        have em : (l.map fun p => toP p.2) = ds.map toP := by rw [← e1, List.map_map]; rfl
        refine ⟨p, l, rfl, ?_, fun z hz => ?_, by rw [em]; exact f1, by rw [em]; exact f2, fun z hz => ?_, ?_⟩
        · rw [e2]
          exact h1.elim (fun h => .inl (.inl h.2)) fun h => .inr (SqT.of h.2)
        · exact dp_of 5 z.2 z.1 (f3 z.2 (by rw [← e1]; exact List.mem_map.mpr ⟨z, hz, rfl⟩)) (e3 z hz)
        · have := (shp_of 5 z.2 (f3 z.2 (by rw [← e1]; exact List.mem_map.mpr ⟨z, hz, rfl⟩))).2
          omega
        · rw [merge_sortG (leV_total false)]
          have hr := repL_zip (c := c) (l := sortG (leV false) l) fun z hz => e3 z (sortG_mem hz)
          rw [sortG_snd, e1] at hr
          exact we_own ok hr q
      · cases e'
  · cases e
/-- xs.remove(y) -/
theorem es_lrem {o a : Expr} {mo m : ME} {apos cpos : Pos} (hbase : attributeBase o "remove" X.env (eval o X.env) = eval o X.env := by rfl)
    (hfew : ((backTo cpos (starEach [a] X.env)).all (fun x => !x.1) && (backToKw cpos (keywordEach [] X.env)).all (fun x => x.1.isSome)
      && decide (([a] : List Expr).length + ([] : List Keyword).length + (if ([] : List Keyword).isEmpty then 0 else 1) < 30)) = true := by rfl)
    (hline : (apos.endLine == cpos.line) = true := by rfl) (hs : starEach [a] X.env = (false, eval a X.env) :: starEach [] X.env := by rfl) (hpl : (backTo cpos (starEach [] X.env)).any (·.1) = false := by rfl) :
    ES g X E o mo → ES g X E a m → ES g X E (.Call (.Attribute o "remove" apos) [a] [] cpos) (eLRem mo m) := fun ⟨to, po, so⟩ ⟨ta, pa, sa⟩ => by
  refine ⟨_, pe_bm PySem.F.plainAttrs_list PySem.F.slot_list_remove PySem.F.type_list_remove mt_remove po (pa_cons pa pa_nil hs) hbase hfew hline hs hpl, fun c σ e Q ok er hp => ?_⟩
  show to σ c.H _
  refine bindE (R := WE g c Q) so ok er hp fun c1 x v ok1 l1 r1 rx hp1 => ?_
  split at hp1
  · rename_i p0 h0
    obtain ⟨r0, xs0⟩ := p0
    obtain ⟨e0, _, _, rfl, vs0, h1, _⟩ := lstAt_of ok1 rx h0
    refine ⟨.inl ⟨rfl, _, SqL.of h1⟩, ?_⟩
    show ta σ c1.H _
    refine bindE (R := WE g c Q) sa ok1 (er.mono l1) hp1 fun c2 y w ok2 l2 r2 ry hp2 => ?_
    have rx2 := Rep.mono l2 _ _ rx
    split at hp2
    · rename_i r xs h
      obtain ⟨_, hl, hS, e2, vs, h3, h4⟩ := lstAt_of ok2 rx2 h
      cases hi : intsD xs with
      | none => simp only [hi] at hp2; exact hp2.elim
      | some ns =>
        cases y <;> first | (simp only [hi] at hp2; exact hp2.elim) | skip
        rename_i i
        cases hj : ixOf i ns with
        | none => simp only [hi, hj] at hp2; exact hp2.elim
        | some j =>
          simp only [hi, hj] at hp2
          have hw := intsD_of hi h4
          subst hw
          obtain ⟨q1, q2⟩ := ixOf_spec hj
          obtain ⟨c3, ok3, l3, r3, s3, h5⟩ := put_lst ok2 hl hS h3 (repL_erase j h4)
          refine ⟨c2.ι r, ns, i, j, e2, by rw [rep_int.mp ry], h3, q1, fun m hm hz => q2 m i hm hz rfl, ?_⟩
          rw [← erase_mapI, ← h5]
          exact hp2 c3 .non ok3 (l1.trans (l2.trans l3)) (r3.trans (r2.trans r1)) s3 (rep_non.mpr rfl)
    · exact hp2.elim
  · exact hp1.elim
end Sm
end

section
set_option linter.all false
set_option autoImplicit false
set_option maxRecDepth 100000
set_option maxHeartbeats 4000000
namespace Sm
/-! ### evaluation of the mirror by simp -/
/-- what follows is not looked into before its turn -/
structure Blk {γ : Type} (f : γ) : Type where
def Out.bnd {α β : Type} (o : Out α) (f : α → Store → Out β) (d : Blk f := Blk.mk) : Out β := o.bind f
section
variable (e : Env) (S : Store)
@[simp] theorem ev_bindok {α β : Type} (a : α) (f : α → Store → Out β) (d : Blk f) : (Out.ok a S).bnd f d = f a S := id rfl
@[simp] theorem ev_bindexc {α β : Type} (k : Nat) (f : α → Store → Out β) : (Out.exc k S : Out α).bnd f = .exc k S := id rfl
@[simp] theorem ev_bindbad {α β : Type} (f : α → Store → Out β) : (Out.bad : Out α).bnd f = .bad := id rfl
@[simp] theorem ev_bindite {α β : Type} {c : Prop} [Decidable c] (a b : Out α) (f : α → Store → Out β) : (if c then a else b).bnd f = if c then a.bnd f else b.bnd f := by split <;> rfl
@[simp] theorem ev_okite {α : Type} {c : Prop} [Decidable c] (a b : α) : (if c then Out.ok a S else Out.ok b S) = Out.ok (if c then a else b) S := by split <;> rfl
@[simp] theorem ev_intite {c : Prop} [Decidable c] (a b : Int) : (if c then D.int a else D.int b) = D.int (if c then a else b) := by split <;> rfl
@[simp] theorem ev_ofO {α : Type} (a : α) : ofO (some a) S = .ok a S := id rfl
@[simp] theorem ev_ofN {α : Type} : ofO (none : Option α) S = .bad := id rfl
@[simp] theorem ev_V (i : Nat) : eV i e S = match e[i]? with | some (some d) => .ok d S | _ => .bad := id rfl
@[simp] theorem ev_C (d : D) : eC d e S = .ok d S := id rfl
@[simp ↓] theorem ev_Op (f : Store → D → D → Option D) (a b : ME) : eOp f a b e S = (a e S).bnd fun x S1 => (b e S1).bnd fun y S2 => ofO (f S2 x y) S2 := id rfl
@[simp ↓] theorem ev_Un (f : Store → D → Option D) (a : ME) : eUn f a e S = (a e S).bnd fun x S1 => ofO (f S1 x) S1 := id rfl
@[simp ↓] theorem ev_tB (a : ME) : tB a e S = (a e S).bnd fun x S1 => match x with | .bl b => .ok b S1 | _ => .bad := id rfl
@[simp ↓] theorem ev_And (a b : MB) : tAnd a b e S = (a e S).bnd fun c S1 => if c = true then b e S1 else .ok false S1 := id rfl
@[simp ↓] theorem ev_Or (a b : MB) : tOr a b e S = (a e S).bnd fun c S1 => if c = true then .ok true S1 else b e S1 := id rfl
@[simp ↓] theorem ev_Not (a : MB) : tNot a e S = (a e S).bnd fun c S1 => .ok (!c) S1 := id rfl
@[simp ↓] theorem ev_If (t : MB) (a b : ME) : eIf t a b e S = (t e S).bnd fun c S1 => if c = true then a e S1 else b e S1 := id rfl
@[simp] theorem ev_aNil : aNil e S = .ok [] S := id rfl
@[simp ↓] theorem ev_aCons (a : ME) (r : MA) : aCons a r e S = (a e S).bnd fun x S1 => (r e S1).bnd fun xs S2 => .ok (x :: xs) S2 := id rfl
@[simp ↓] theorem ev_eTup (r : MA) : eTup r e S = (r e S).bnd fun xs S1 => if xs.length ≤ 1000 then .ok (.tup xs) S1 else .bad := id rfl
@[simp ↓] theorem ev_eLst (r : MA) : eLst r e S = (r e S).bnd fun xs S1 => if xs.length ≤ 1000 then .ok (.lst xs) S1 else .bad := id rfl
@[simp ↓] theorem ev_oLst (r : MA) : oLst r e S = (r e S).bnd fun xs S1 => if xs.length ≤ 1000 then .ok (.lst xs) S1 else .bad := id rfl
@[simp ↓] theorem ev_eNew (m : MO) : eNew m e S = (m e S).bnd fun o S1 => .ok (.obj S1.length) (S1 ++ [o]) := id rfl
@[simp ↓] theorem ev_eCall (f : Fn) (r : MA) : eCall f r e S = (r e S).bnd fun ds S1 => f ds S1 := id rfl
@[simp ↓] theorem ev_eCB (f : Store → List D → Option D) (r : MA) : eCB f r e S = (r e S).bnd fun ds S1 => ofO (f S1 ds) S1 := id rfl
@[simp ↓] theorem ev_eFld (i : Nat) (a : ME) : eFld i a e S = (a e S).bnd fun x S1 => match insAt S1 x with | some (_, _, fs) => ofO (getF i fs) S1 | none => .bad := id rfl
@[simp ↓] theorem ev_eMeth (c : Nat) (f : Fn) (o : ME) (r : MA) : eMeth c f o r e S = (o e S).bnd fun x S1 => match insAt S1 x with | some (_, c', _) => if c' = c then (r e S1).bnd fun ds S2 => f (x :: ds) S2 else .bad | none => .bad := id rfl
@[simp ↓] theorem ev_sIf (t : MB) (a b : MS) : sIf t a b e S = (t e S).bnd fun c S1 => if c = true then a e S1 else b e S1 := id rfl
@[simp ↓] theorem ev_Seq (a b : MS) : sSeq a b e S = (a e S).bnd (fun f S1 => match f with | .nx e1 => b e1 S1 | f => .ok f S1) := id rfl
@[simp] theorem ev_sNil : sNil e S = .ok (.nx e) S := id rfl
@[simp ↓] theorem ev_sSet (i : Nat) (m : ME) : sSet i m e S = (m e S).bnd fun d S1 => .ok (.nx (e.set i (some d))) S1 := id rfl
@[simp ↓] theorem ev_sAsg (g : MG) (m : ME) : sAsg g m e S = (m e S).bnd fun d S1 => (g d e S1).bnd fun e1 S2 => .ok (.nx e1) S2 := id rfl
@[simp ↓] theorem ev_sRet (m : ME) : sRet m e S = (m e S).bnd fun d S1 => .ok (.rt d) S1 := id rfl
@[simp] theorem ev_sRetN : sRetN e S = .ok (.rt .non) S := id rfl
@[simp] theorem ev_sRaise (k : Nat) : sRaise k e S = .exc k S := id rfl
@[simp ↓] theorem ev_sExpr (m : ME) : sExpr m e S = (m e S).bnd fun _ S1 => .ok (.nx e) S1 := id rfl
@[simp] theorem ev_sBrk : sBrk e S = .ok (.bk e) S := id rfl
@[simp] theorem ev_sCt : sCt e S = .ok (.ct e) S := id rfl
@[simp ↓] theorem ev_sFld (i : Nat) (o v : ME) : sFld i o v e S = (v e S).bnd fun y S1 => (o e S1).bnd fun x S2 => match insAt S2 x with | some (r, c, fs) => if fs.length < 1000 then .ok (.nx e) (S2.set r (.ins c (putF i y fs))) else .bad | none => .bad := id rfl
@[simp] theorem ev_gN (i : Nat) (x : D) : gN i x e S = .ok (e.set i (some x)) S := id rfl
@[simp] theorem ev_lt (a b : Int) : oLt S (.int a) (.int b) = some (.bl (decide (a < b))) := id rfl
@[simp] theorem ev_le (a b : Int) : oLe S (.int a) (.int b) = some (.bl (decide (a ≤ b))) := id rfl
@[simp] theorem ev_gt (a b : Int) : oGt S (.int a) (.int b) = some (.bl (decide (b < a))) := id rfl
@[simp] theorem ev_ge (a b : Int) : oGe S (.int a) (.int b) = some (.bl (decide (b ≤ a))) := id rfl
@[simp] theorem ev_sub (a b : Int) : oSub S (.int a) (.int b) = some (.int (a - b)) := id rfl
@[simp] theorem ev_addI (a b : Int) : oAdd S (.int a) (.int b) = some (.int (a + b)) := id rfl
@[simp] theorem ev_eqI (a b : Int) : oEq S (.int a) (.int b) = some (.bl (decide (a = b))) := by rw [eqV_ii]; rfl
@[simp] theorem ev_neI (a b : Int) : oNe S (.int a) (.int b) = some (.bl (!decide (a = b))) := by rw [neV_ii]; rfl
/-- how a def ends -/
def Out.fin : Out Fl → Out D
  | .ok (.nx _) S => .ok .non S
  | .ok (.rt d) S => .ok d S
  | .exc k S => .exc k S
  | _ => .bad
@[simp ↓] theorem ev_fn (n ar : Nat) (b : MS) (ds : List D) : mkFn n ar b ds S = if ds.length = ar then (b (ds.map some ++ List.replicate (n - ds.length) none) S).fin else .bad := id rfl
@[simp] theorem fin_nx : (Out.ok (Fl.nx e) S).fin = .ok .non S := id rfl
@[simp] theorem fin_rt (d : D) : (Out.ok (Fl.rt d) S).fin = .ok d S := id rfl
@[simp] theorem fin_exc (k : Nat) : (Out.exc k S : Out Fl).fin = .exc k S := id rfl
@[simp] theorem fin_ite {c : Prop} [Decidable c] (a b : Out Fl) : (if c then a else b).fin = if c then a.fin else b.fin := by split <;> rfl
/-- then what follows -/
def Fl.then (b : MS) : Fl → Store → Out Fl := fun f S => match f with | .nx e1 => b e1 S | f => .ok f S
@[simp] theorem then_nx (b : MS) : Fl.then b (.nx e) S = b e S := id rfl
@[simp] theorem then_rt (b : MS) (d : D) : Fl.then b (.rt d) S = .ok (.rt d) S := id rfl
@[simp] theorem then_bk (b : MS) : Fl.then b (.bk e) S = .ok (.bk e) S := id rfl
@[simp] theorem then_ct (b : MS) : Fl.then b (.ct e) S = .ok (.ct e) S := id rfl
@[simp] theorem then_ite {c : Prop} [Decidable c] (b : MS) (x y : Fl) : Fl.then b (if c then x else y) S = if c then Fl.then b x S else Fl.then b y S := by split <;> rfl

@[simp] theorem ev_assoc {α β γ : Type} (o : Out α) (f : α → Store → Out β) (h : β → Store → Out γ) : (o.bnd f).bnd h = o.bnd fun a S => (f a S).bnd h := by cases o <;> rfl
@[simp] theorem fin_bind {α : Type} (o : Out α) (f : α → Store → Out Fl) : (o.bnd f).fin = o.bnd fun a S => (f a S).fin := by cases o <;> rfl
@[simp] theorem fin_bad : (Out.bad : Out Fl).fin = .bad := id rfl
@[simp ↓] theorem ev_chain (f g : Store → D → D → Option D) (a b c : ME) : eChain f g a b c e S = (a e S).bnd fun x S1 => (b e S1).bnd fun y S2 => match f S2 x y with
  | some (.bl true) => (c e S2).bnd fun z S3 => ofO (g S3 y z) S3
  | some (.bl false) => .ok (.bl false) S2
  | _ => .bad := id rfl
@[simp ↓] theorem ev_eAnd (a b : ME) : eAnd a b e S = (a e S).bnd fun x S1 => match x with
  | .bl true => b e S1
  | .bl false => .ok (.bl false) S1
  | _ => .bad := id rfl
@[simp ↓] theorem ev_eOr (a b : ME) : eOr a b e S = (a e S).bnd fun x S1 => match x with
  | .bl true => .ok (.bl true) S1
  | .bl false => b e S1
  | _ => .bad := id rfl
@[simp ↓] theorem ev_eMake (c : Nat) (f : Fn) (r : MA) : eMake c f r e S = (r e S).bnd fun ds S1 => (f (.obj S1.length :: ds) (S1 ++ [.ins c []])).bnd fun v S2 => match v with
  | .non => .ok (.obj S1.length) S2
  | _ => .bad := id rfl
@[simp] theorem ev_pN : pO none e S = .ok none S := id rfl
@[simp ↓] theorem ev_pS (m : ME) : pO (some m) e S = (m e S).bnd fun d S1 => match d with
  | .int i => .ok (some i) S1
  | _ => .bad := id rfl
@[simp ↓] theorem ev_eSl (a : ME) (lo hi : Option ME) : eSl a lo hi e S = (a e S).bnd fun x S1 => (pO lo e S1).bnd fun l S2 => (pO hi e S2).bnd fun h S3 => ofO (slD S3 x l h) S3 := id rfl
/-- what a walk over x gives -/
def seqIt (x : D) (S1 : Store) : Out (List D × Option Nat) := match x with
  | .lst xs => .ok (xs, none) S1
  | .tup xs => .ok (xs, none) S1
  | .str t => .ok (t.map fun c => .str [c], none) S1
  | .obj r => match S1[r]? with
    | some (.lst xs) => .ok (xs, some r) (S1.set r (.lck (.lst xs)))
    | some (.lck (.lst xs)) => .ok (xs, none) S1
    | some (.lck (.dct kvs)) => .ok (kvs.map fun p => dK p.1, none) S1
    | _ => .bad
  | _ => .bad
@[simp] theorem seqIt_lst (xs : List D) : seqIt (.lst xs) S = .ok (xs, none) S := id rfl
@[simp] theorem seqIt_tup (xs : List D) : seqIt (.tup xs) S = .ok (xs, none) S := id rfl
@[simp] theorem seqIt_str (t : Tx) : seqIt (.str t) S = .ok (t.map fun c => .str [c], none) S := id rfl
@[simp] theorem seqIt_obj (r : Nat) : seqIt (.obj r) S = match S[r]? with
    | some (.lst xs) => .ok (xs, some r) (S.set r (.lck (.lst xs)))
    | some (.lck (.lst xs)) => .ok (xs, none) S
    | some (.lck (.dct kvs)) => .ok (kvs.map fun p => dK p.1, none) S
    | _ => .bad := id rfl
@[simp ↓] theorem ev_iSeq (a : ME) : iSeq a e S = (a e S).bnd fun x S1 => seqIt x S1 := id rfl
@[simp ↓] theorem ev_range1 (r : MA) : iRange1 r e S = (r e S).bnd fun ds S1 => match ds with
  | [.int n] => if -1000000 ≤ n ∧ n ≤ 1000000 then .ok (rangeL 0 n.toNat, none) S1 else .bad
  | _ => .bad := id rfl
@[simp ↓] theorem ev_range2 (r : MA) : iRange2 r e S = (r e S).bnd fun ds S1 => match ds with
  | [.int a, .int b] => if -1000000 ≤ a ∧ a ≤ 1000000 ∧ -1000000 ≤ b ∧ b ≤ 1000000 then .ok (rangeL a (b - a).toNat, none) S1 else .bad
  | _ => .bad := id rfl
@[simp ↓] theorem ev_eLC (vs : List Nat) (it : MI) (g : MG) (t : MB) (m : ME) : eLC vs it g t m e S = (it e S).bnd fun p S1 => if 100000 < p.1.length then .bad else (lcL g t m (wipe e vs) p.1 S1 []).bnd fun ys S2 => .ok (.lst ys) (unlockAt S2 p.2) := id rfl
@[simp] theorem ev_wipe0 : wipe e [] = e := id rfl
@[simp] theorem ev_wipe (v : Nat) (vs : List Nat) : wipe e (v :: vs) = (wipe e vs).set v none := id rfl
@[simp] theorem ev_unl : unlockAt S none = S := id rfl
@[simp] theorem ev_lcN (g : MG) (t : MB) (m : ME) (acc : List D) : lcL g t m e [] S acc = .ok acc S := id rfl
/-- no exception passes -/
def Out.nox {α : Type} : Out α → Out α
  | .ok a S => .ok a S
  | _ => .bad
@[simp] theorem nox_ok {α : Type} (a : α) : (Out.ok a S).nox = .ok a S := id rfl
@[simp] theorem nox_exc {α : Type} (k : Nat) : (Out.exc k S : Out α).nox = .bad := id rfl
@[simp] theorem nox_bad {α : Type} : (Out.bad : Out α).nox = .bad := id rfl
@[simp] theorem ev_lcC (g : MG) (t : MB) (m : ME) (x : D) (xs acc : List D) : lcL g t m e (x :: xs) S acc = (g x e S).nox.bnd fun e1 S0 => (t e1 S0).nox.bnd fun c S1 => if c = true then (m e1 S1).nox.bnd fun y S2 => lcL g t m e xs S2 (acc ++ [y]) else lcL g t m e xs S1 acc := by
  show (match g x e S with | .ok e1 S0 => _ | _ => _) = _
  cases g x e S with
  | exc _ _ => rfl
  | bad => rfl
  | ok e1 S0 =>
    show (match t e1 S0 with | .ok true S1 => _ | .ok false S1 => _ | _ => _) = (t e1 S0).nox.bind _
    cases t e1 S0 with
    | exc _ _ => rfl
    | bad => rfl
    | ok c S1 =>
      cases c with
      | false => rfl
      | true =>
        show (match m e1 S1 with | .ok y S2 => _ | _ => _) = (m e1 S1).nox.bind _
        cases m e1 S1 <;> rfl
@[simp ↓] theorem ev_sFor (it : MI) (g : MG) (b : MS) : sFor it g b e S = (it e S).bnd fun p S1 => forL p.2 g b p.1 e S1 := id rfl
@[simp] theorem ev_forN (lk : Option Nat) (g : MG) (b : MS) : forL lk g b [] e S = .ok (.nx e) (unlockAt S lk) := id rfl
@[simp ↓] theorem ev_forC (lk : Option Nat) (g : MG) (b : MS) (x : D) (xs : List D) : forL lk g b (x :: xs) e S = (g x e S).bnd fun e1 S1 => (b e1 S1).bnd fun fl S2 => match fl with
  | .nx e2 => forL lk g b xs e2 S2
  | .ct e2 => forL lk g b xs e2 S2
  | .bk e2 => .ok (.nx e2) (unlockAt S2 lk)
  | .rt d => .ok (.rt d) (unlockAt S2 lk) := by
  show (g x e S).bind (fun e1 S1 => _) = (g x e S).bind _
  congr 1
  funext e1 S1
  cases b e1 S1 with
  | bad => rfl
  | exc k S2 => rfl
  | ok fl S2 => cases fl <;> rfl
theorem ev_while (t : MB) (b : MS) (n : Nat) : sWhile t b (n + 1) e S = (t e S).bnd fun c S1 => if c = true then (b e S1).bnd fun fl S2 => match fl with
    | .nx e2 => sWhile t b n e2 S2
    | .ct e2 => sWhile t b n e2 S2
    | .bk e2 => .ok (.nx e2) S2
    | .rt d => .ok (.rt d) S2
  else .ok (.nx e) S1 := by
  show (t e S).bind (fun c S1 => _) = (t e S).bind _
  congr 1
  funext c S1
  cases c
  · rfl
  · show (match b e S1 with | .ok (.nx e2) S2 => _ | .ok (.ct e2) S2 => _ | .ok (.bk e2) S2 => _ | r => r) = (b e S1).bind _
    cases b e S1 with
    | bad => rfl
    | exc k S2 => rfl
    | ok fl S2 => cases fl <;> rfl
@[simp ↓] theorem ev_sPar (i j : Nat) (r : MA) : sPar i j r e S = (r e S).bnd fun ds S1 => match ds with
  | [v, w] => .ok (.nx ((e.set i (some v)).set j (some w))) S1
  | _ => .bad := id rfl
@[simp ↓] theorem ev_sPar3 (i j k : Nat) (r : MA) : sPar3 i j k r e S = (r e S).bnd fun ds S1 => match ds with
  | [v, w, u] => .ok (.nx (((e.set i (some v)).set j (some w)).set k (some u))) S1
  | _ => .bad := id rfl
@[simp ↓] theorem ev_sAug (f : Store → D → D → Option D) (i : Nat) (m : ME) : sAug f i m e S = match e[i]? with
  | some (some x) => (m e S).bnd fun y S1 => match f S1 x y with
    | some z => .ok (.nx (e.set i (some z))) S1
    | none => .bad
  | _ => .bad := id rfl
@[simp ↓] theorem ev_sRaise1 (k : Nat) (m : ME) : sRaise1 k m e S = (m e S).bnd fun _ S1 => .exc k S1 := id rfl
@[simp ↓] theorem ev_sFldAug (f : Store → D → D → Option D) (i : Nat) (o v : ME) : sFldAug f i o v e S = (o e S).bnd fun x S1 => match insAt S1 x with
  | some (_, c0, fs) => match getF i fs with
    | some y => (v e S1).bnd fun z S2 => match f S2 y z with
      | some u => match insAt S2 x with
        | some (r, c, fs2) => if c = c0 ∧ fs2.length < 1000 then .ok (.nx e) (S2.set r (.ins c (putF i u fs2))) else .bad
        | none => .bad
      | none => .bad
    | none => .bad
  | none => .bad := id rfl
@[simp ↓] theorem ev_eAppend (o v : ME) : eAppend o v e S = (o e S).bnd fun x S1 => match lstAt S1 x with
  | some _ => (v e S1).bnd fun y S2 => match lstAt S2 x with
    | some (r, xs) => if xs.length < 100000 then .ok .non (S2.set r (.lst (xs ++ [y]))) else .bad
    | none => .bad
  | none => .bad := id rfl
@[simp ↓] theorem ev_sSub (o i v : ME) : sSub o i v e S = (v e S).bnd fun y S1 => (o e S1).bnd fun x S2 => (i e S2).bnd fun k S3 => match lstAt S3 x with
  | some (r, xs) => match k with
    | .int z => match ixZ xs.length z with
      | some j => .ok (.nx e) (S3.set r (.lst (xs.set j y)))
      | none => .bad
    | _ => .bad
  | none => .bad := id rfl
@[simp] theorem ev_gT (gs : List MG) (x : D) : gT gs x e S = match x with
  | .tup xs => if xs.length = gs.length then gAll gs xs e S else .bad
  | _ => .bad := id rfl
@[simp] theorem ev_gAllN : gAll [] [] e S = .ok e S := id rfl
@[simp ↓] theorem ev_gAllC (g : MG) (gs : List MG) (x : D) (xs : List D) : gAll (g :: gs) (x :: xs) e S = (g x e S).bnd fun e1 S1 => gAll gs xs e1 S1 := id rfl
@[simp] theorem ev_tYes : tYes e S = .ok true S := id rfl
/-! dicts -/
@[simp] theorem ev_dct0 : oDct0 e S = .ok (.dct []) S := id rfl
@[simp] theorem ev_dctT0 : oDctT0 e S = .ok (.dctT []) S := id rfl
@[simp ↓] theorem ev_oCB (f : Store → List D → Option Ob) (r : MA) : oCB f r e S = (r e S).bnd fun ds S1 => ofO (f S1 ds) S1 := id rfl
@[simp ↓] theorem ev_sPutD (o i v : ME) : sPutD o i v e S = (v e S).bnd fun y S1 => (o e S1).bnd fun x S2 => (i e S2).bnd fun k S3 => match dput S3 x k y with
  | some S4 => .ok (.nx e) S4
  | none => .bad := id rfl
@[simp ↓] theorem ev_sAugD (f : Store → D → D → Option D) (o i v : ME) : sAugD f o i v e S = (o e S).bnd fun x S1 => (i e S1).bnd fun k S2 => match dlook S2 x k with
  | some (some y) => (v e S2).bnd fun z S3 => match f S3 y z with
    | some u => match dput S3 x k u with
      | some S4 => .ok (.nx e) S4
      | none => .bad
    | none => .bad
  | _ => .bad := id rfl
@[simp ↓] theorem ev_eDGet2 (o i d : ME) : eDGet2 o i d e S = (o e S).bnd fun x S1 => if isDict S1 x = true then (i e S1).bnd fun k S2 => (d e S2).bnd fun z S3 => match dlook S3 x k with
    | some w => .ok (w.getD z) S3
    | none => .bad
  else .bad := id rfl
@[simp ↓] theorem ev_gSubD (o i : ME) (x : D) : gSubD o i x e S = (o e S).bnd fun v S1 => (i e S1).bnd fun k S2 => match dput S2 v k x with
  | some S3 => .ok e S3
  | none => .bad := id rfl
@[simp ↓] theorem ev_eItTup (o : ME) : eItTup o e S = (o e S).bnd fun x S1 => match dctM S1 x with
  | some kvs => .ok (.tup (itemsD kvs)) S1
  | none => .bad := id rfl
@[simp ↓] theorem ev_eVals (f : List Int → Option Int) (o : ME) : eVals f o e S = (o e S).bnd fun x S1 => match dctM S1 x with
  | some kvs => ofO (((intsD (kvs.map fun p => p.2)).bind f).map .int) S1
  | none => .bad := id rfl
@[simp ↓] theorem ev_eEmp (neg : Bool) (a : ME) : eEmp neg a e S = (a e S).bnd fun x S1 => match view S1 x with
  | .dct kvs => .ok (.bl (if neg = true then !kvs.isEmpty else kvs.isEmpty)) S1
  | _ => .bad := id rfl
@[simp ↓] theorem ev_eMaxDef (a d : ME) : eMaxDef a d e S = (a e S).bnd fun x S1 => (d e S1).bnd fun y S2 => match (match view S2 x with | .lst xs => intsD xs | _ => none) with
  | some [] => .ok y S2
  | some (z :: r) => .ok (.int (maxI r z)) S2
  | none => .bad := id rfl
@[simp ↓] theorem ev_eSortKw (b : Bool) (a : ME) : eSortKw b a e S = (a e S).bnd fun x S1 => ofO (bSortedR b S1 [x]) S1 := id rfl
@[simp ↓] theorem ev_eInRng (x a b : ME) : eInRng x a b e S = (x e S).bnd fun i S1 => (a e S1).bnd fun lo S2 => (b e S2).bnd fun hi S3 => match i, lo, hi with
  | .int i, .int lo, .int hi => .ok (.bl (decide (lo ≤ i ∧ i < hi))) S3
  | _, _, _ => .bad := rfl
@[simp ↓] theorem ev_eIndex (o a : ME) : eIndex o a e S = (o e S).bnd fun x S1 => match lstV S1 x with
  | some _ => (a e S1).bnd fun y S2 => match lstV S2 x with
    | some xs => match intsD xs, y with
      | some ns, .int i => match ixOf i ns with
        | some j => .ok (.int j) S2
        | none => .bad
      | _, _ => .bad
    | none => .bad
  | none => .bad := id rfl
def seqG (x : D) (S1 : Store) : Out (List D) := match view S1 x with
  | .lst xs => .ok xs S1
  | .tup xs => .ok xs S1
  | _ => .bad
@[simp ↓] theorem ev_gSeq (a : ME) : gSeq a e S = (a e S).bnd fun x S1 => seqG x S1 := id rfl
def pairG (x : D) (S1 : Store) : Out (List D) := match view S1 x with
  | .lst xs => .ok xs S1
  | _ => .bad
@[simp ↓] theorem ev_gPairs (a : ME) : gPairs a e S = (a e S).bnd fun x S1 => pairG x S1 := id rfl
@[simp ↓] theorem ev_mGen (it : MW) (g : MG) (t : MB) (m : ME) : mGen it g t m e S = (it e S).bnd fun p S1 => match genL (turnG g t m e S1) p with
  | some ys => .ok ys S1
  | none => .bad := id rfl
@[simp ↓] theorem ev_eAny (mw : MW) : eAny mw e S = (mw e S).bnd fun ys S1 => ofO ((boolsD ys).map fun bs => .bl (bs.any id)) S1 := id rfl
@[simp ↓] theorem ev_eAll (mw : MW) : eAll mw e S = (mw e S).bnd fun ys S1 => ofO ((boolsD ys).map fun bs => .bl (bs.all id)) S1 := id rfl
@[simp ↓] theorem ev_eSum (mw : MW) : eSum mw e S = (mw e S).bnd fun ys S1 => ofO ((intsD ys).bind fun ns => if fitsL 0 ns = true then some (.int (sumI ns)) else none) S1 := id rfl
@[simp ↓] theorem ev_lrng1 (a : ME) : eLRng1 a e S = (a e S).bnd fun x S1 => ofO ((rng1 x).map .lst) S1 := id rfl
@[simp ↓] theorem ev_olrng1 (a : ME) : oLRng1 a e S = (a e S).bnd fun x S1 => ofO ((rng1 x).map .lst) S1 := id rfl
@[simp ↓] theorem ev_lrng2 (a b : ME) : eLRng2 a b e S = (a e S).bnd fun x S1 => (b e S1).bnd fun y S2 => ofO ((rng2 x y).map .lst) S2 := id rfl
@[simp ↓] theorem ev_lpop (o : ME) : eLPop o e S = (o e S).bnd fun x S1 => match lstAt S1 x with
  | some (r, xs) => match xs[xs.length - 1]? with
    | some y => .ok y (S1.set r (.lst xs.dropLast))
    | none => .bad
  | none => .bad := id rfl
@[simp ↓] theorem ev_lpopAt (o i : ME) : eLPopAt o i e S = (o e S).bnd fun x S1 => match lstAt S1 x with
  | some _ => (i e S1).bnd fun k S2 => match lstAt S2 x with
    | some (r, xs) => match k with
      | .int z => match ixZ xs.length z with
        | some j => match xs[j]? with
          | some y => if xs.length ≤ 100000 then .ok y (S2.set r (.lst (xs.eraseIdx j))) else .bad
          | none => .bad
        | none => .bad
      | _ => .bad
    | none => .bad
  | none => .bad := id rfl
@[simp ↓] theorem ev_sortKey (i : Nat) (m a : ME) : eSortKey i m a e S = (a e S).bnd fun x S1 => ofO ((keyed i m e S1 x).map fun ps => .lst ((sortK ps).map fun p => p.2)) S1 := id rfl
@[simp ↓] theorem ev_minKey (i : Nat) (m a : ME) : eMinKey i m a e S = (a e S).bnd fun x S1 => ofO ((keyed i m e S1 x).bind fun ps => match ps with
  | [] => none
  | p :: r => some (minK r p).2) S1 := id rfl
/-! told -/
def Out.told (sub : Nat → Nat → Bool) (hs : List (Nat × Tx)) : Out D → Out D
  | .ok d S1 => .ok d S1
  | .exc k S1 => match hs.find? fun h => sub k h.1 with
    | some h => .ok (.str h.2) S1
    | none => .bad
  | .bad => .bad
@[simp ↓] theorem ev_told (sub : Nat → Nat → Bool) (hs : List (Nat × Tx)) (m : ME) : eTold sub hs m e S = (m e S).told sub hs := by unfold eTold Out.told; cases m e S <;> rfl
@[simp] theorem told_okS (sub : Nat → Nat → Bool) (hs : List (Nat × Tx)) (d : D) : (Out.ok d S).told sub hs = .ok d S := id rfl
@[simp] theorem told_excS (sub : Nat → Nat → Bool) (hs : List (Nat × Tx)) (k : Nat) : (Out.exc k S).told sub hs = match hs.find? fun h => sub k h.1 with
    | some h => .ok (.str h.2) S
    | none => .bad := id rfl
@[simp] theorem told_ite (sub : Nat → Nat → Bool) (hs : List (Nat × Tx)) {c : Prop} [Decidable c] (a b : Out D) : (if c then a else b).told sub hs = if c then a.told sub hs else b.told sub hs := by split <;> rfl
end
/-! ### what holds at the end -/
def okW {α : Type} (Q : α → Store → Prop) : Out α → Prop
  | .ok a S => Q a S
  | _ => False
@[simp] theorem okW_ok {α : Type} {Q : α → Store → Prop} (a : α) (S : Store) : okW Q (.ok a S) = Q a S := id rfl
theorem okW_bind {α β : Type} {Q : β → Store → Prop} {o : Out α} {f : α → Store → Out β} (h : okW (fun a S => okW Q (f a S)) o) : okW Q (o.bnd f) := by cases o <;> first | exact h | exact h.elim
theorem okW_mono {α : Type} {Q R : α → Store → Prop} {o : Out α} (h : okW Q o) (hq : ∀ a S, Q a S → R a S) : okW R o := by cases o <;> first | exact hq _ _ h | exact h.elim
theorem okW_ite {α : Type} {Q : α → Store → Prop} {c : Prop} [Decidable c] {a b : Out α} (h1 : c → okW Q a) (h2 : ¬ c → okW Q b) : okW Q (if c then a else b) := by split <;> simp_all
theorem okW_ex {α : Type} {Q : α → Store → Prop} {o : Out α} (h : okW Q o) : ∃ a S, o = .ok a S ∧ Q a S := by cases o <;> first | exact ⟨_, _, rfl, h⟩ | exact h.elim
/-- a loop's law: n turns are left -/
theorem forL_wp {Q : Fl → Store → Prop} {g : MG} {b : MS} (I : Nat → Env → Store → Prop) (lk : Option Nat) : ∀ (xs : List D) (k : Nat) (e : Env) (S : Store), I k e S →
    (∀ x ∈ xs, ∀ j e S, k ≤ j → j < k + xs.length → I j e S → okW (fun fl S' => match fl with | .nx e' => I (j + 1) e' S' | .ct e' => I (j + 1) e' S' | _ => False) ((g x e S).bnd fun e1 S1 => b e1 S1)) →
    (∀ e' S', I (k + xs.length) e' S' → Q (.nx e') (unlockAt S' lk)) → okW Q (forL lk g b xs e S)
  | [], k, e, S, h0, _, hq => by rw [ev_forN]; exact hq e S h0
  | x :: xs, k, e, S, h0, hs, hq => by
    rw [ev_forC, ← ev_assoc]
    refine okW_bind (okW_mono (hs x List.mem_cons_self k e S (Nat.le_refl k) (by simp) h0) fun fl S' h => ?_)
    have go : ∀ e', I (k + 1) e' S' → okW Q (forL lk g b xs e' S') := fun e' h' => forL_wp I lk xs (k + 1) e' S' h' (fun y hy j e S hj hl => hs y (List.mem_cons_of_mem _ hy) j e S (by omega) (by rw [List.length_cons]; omega)) (fun e2 S2 h2 => hq e2 S2 (by rw [List.length_cons]; rw [show k + (xs.length + 1) = k + 1 + xs.length by omega]; exact h2))
    cases fl with
    | nx e' => exact go e' h
    | ct e' => exact go e' h
    | bk e' => exact h.elim
    | rt d => exact h.elim
/-- a while loop's law, by a measure -/
theorem while_wp {Q : Fl → Store → Prop} {t : MB} {b : MS} (I : Nat → Env → Store → Prop) : ∀ (n k : Nat) (e : Env) (S : Store), k < n → I k e S →
    (∀ k e S, I k e S → okW (fun c S1 => if c = true then okW (fun fl S' => match fl with | .nx e' => ∃ k', k' < k ∧ I k' e' S' | .ct e' => ∃ k', k' < k ∧ I k' e' S' | .bk e' => Q (.nx e') S' | .rt d => Q (.rt d) S') (b e S1) else Q (.nx e) S1) (t e S)) → okW Q (sWhile t b n e S)
  | 0, k, e, S, hk, _, _ => absurd hk (Nat.not_lt_zero k)
  | n + 1, k, e, S, hk, h0, hs => by
    rw [ev_while]
    refine okW_bind (okW_mono (hs k e S h0) fun c S1 h => ?_)
    cases c with
    | false => exact h
    | true =>
      have h : okW _ (b e S1) := h
      refine okW_bind (okW_mono h fun fl S' h => ?_)
      cases fl with
      | nx e' => obtain ⟨k', hk', h'⟩ := h; exact while_wp I n k' e' S' (by omega) h' hs
      | ct e' => obtain ⟨k', hk', h'⟩ := h; exact while_wp I n k' e' S' (by omega) h' hs
      | bk e' => exact h
      | rt d => exact h
/-- a comprehension that changes nothing -/
theorem lcL_pure {g : MG} {t : MB} {m : ME} {e : Env} {S : Store} (p : D → Bool) (f : D → D) : ∀ (xs acc : List D), (∀ x ∈ xs, ∃ e1, g x e S = .ok e1 S ∧ t e1 S = .ok (p x) S ∧ (p x = true → m e1 S = .ok (f x) S)) → lcL g t m e xs S acc = .ok (acc ++ (xs.filter p).map f) S
  | [], acc, _ => by simp
  | x :: xs, acc, h => by
    obtain ⟨e1, h1, h2, h3⟩ := h x List.mem_cons_self
    have ih := fun acc => lcL_pure p f xs acc fun y hy => h y (List.mem_cons_of_mem _ hy)
    show (match g x e S with | .ok e1 S0 => _ | _ => _) = _
    rw [h1]
    show (match t e1 S with | .ok true S1 => _ | .ok false S1 => _ | _ => _) = _
    rw [h2]
    cases hp : p x with
    | false =>
      show lcL g t m e xs S acc = _
      rw [ih]; simp [hp]
    | true =>
      show (match m e1 S with | .ok y S2 => _ | _ => _) = _
      rw [h3 hp]
      show lcL g t m e xs S (acc ++ [f x]) = _
      rw [ih]; simp [hp]
/-- a comprehension with effects: all that is said of each item -/
theorem lcL_wp {slot : Nat} {m : ME} {e : Env} (I : Store → Prop) (P : D → Prop) : ∀ (xs acc : List D) (S : Store), I S → (∀ x ∈ xs, ∀ S, I S → okW (fun y S' => I S' ∧ P y) (m (e.set slot (some x)) S)) → okW (fun ys S' => I S' ∧ ∃ l : List D, ys = acc ++ l ∧ l.length = xs.length ∧ ∀ y ∈ l, P y) (lcL (gN slot) tYes m e xs S acc)
  | [], acc, S, h0, _ => ⟨h0, [], by simp, rfl, fun y hy => by cases hy⟩
  | x :: xs, acc, S, h0, hs => by
    obtain ⟨y, S', h1, h2, h3⟩ := okW_ex (hs x List.mem_cons_self S h0)
    show okW _ (match m (e.set slot (some x)) S with | .ok y S2 => lcL (gN slot) tYes m e xs S2 (acc ++ [y]) | _ => .bad)
    rw [h1]
    refine okW_mono (lcL_wp I P xs (acc ++ [y]) S' h2 fun z hz => hs z (List.mem_cons_of_mem _ hz)) fun ys S2 ⟨h4, l, h5, h6, h7⟩ => ⟨h4, y :: l, by rw [h5]; simp, by simp [h6], fun z hz => ?_⟩
    rcases List.mem_cons.mp hz with q | q
    · rw [q]; exact h3
    · exact h7 z q
/-! ### places of the store -/
theorem ap_old {S l : Store} {r : Nat} (h : (S[r]?).isSome = true) : (S ++ l)[r]? = S[r]? := by
  obtain ⟨o, ho⟩ := Option.isSome_iff_exists.mp h
  exact List.getElem?_append_left (List.getElem?_eq_some_iff.mp ho).1
theorem set_at {S : Store} {r : Nat} {o : Ob} (h : (S[r]?).isSome = true) : (S.set r o)[r]? = some o := by
  obtain ⟨x, ho⟩ := Option.isSome_iff_exists.mp h
  exact List.getElem?_set_self (List.getElem?_eq_some_iff.mp ho).1
theorem set_ne {S : Store} {r q : Nat} {o : Ob} (h : r ≠ q) : (S.set r o)[q]? = S[q]? := List.getElem?_set_ne h
theorem ap_new {S : Store} {o : Ob} : (S ++ [o])[S.length]? = some o := by simp
theorem lt_at {S : Store} {r : Nat} {o : Ob} (h : S[r]? = some o) : r < S.length := (List.getElem?_eq_some_iff.mp h).1
theorem set_same {S : Store} {r : Nat} {o : Ob} (h : S[r]? = some o) : S.set r o = S := by
  apply List.ext_getElem?
  intro j
  by_cases hj : r = j
  · subst hj; rw [set_at (by rw [h]; rfl), h]
  · rw [set_ne hj]
theorem dctR_eq {p : MP} {e : Env} {S : Store} {r : Nat} {kvs : List (K1 × D)} (h1 : p e S = some r) (h2 : S[r]? = some (.dct kvs)) : dctR p e S = some (r, kvs) := by unfold dctR; simp only [h1, h2]
/-- a comprehension over a locked dict that changes nothing -/
theorem eLk_pure {p : MP} {m : ME} {e : Env} {S : Store} {r : Nat} {kvs : List (K1 × D)} {d : D} (h1 : p e S = some r) (h2 : S[r]? = some (.dct kvs)) (h : m e (S.set r (.lck (.dct kvs))) = .ok d (S.set r (.lck (.dct kvs)))) : eLk p m e S = .ok d S := by
  unfold eLk
  rw [dctR_eq h1 h2]
  show unlF r (m e (S.set r (.lck (.dct kvs)))) = _
  rw [h]
  show Out.ok d (match (S.set r (.lck (.dct kvs)))[r]? with | some (.lck o) => (S.set r (.lck (.dct kvs))).set r o | _ => S.set r (.lck (.dct kvs))) = _
  rw [set_at (by rw [h2]; rfl)]
  show Out.ok d ((S.set r (.lck (.dct kvs))).set r (.dct kvs)) = _
  rw [List.set_set, set_same h2]
end Sm
end

section
set_option linter.all false
set_option autoImplicit false
set_option maxRecDepth 100000
set_option maxHeartbeats 4000000
namespace Sm
/-! the law's dice, alike in all laws -/
/-- _law_dice: 0 cell -/
def b_law_dice : MS := sSeq (sIf (tB (eChain oLt oLt (eOp oSub (eC (.int 0)) (eC (.int 10))) (eV 0) (eC (.int 10)))) (sRet (eNew (oLst (aCons (eCB bAbs (aCons (eV 0) (aNil))) (aCons (eC (.int 0)) (aCons (eC (.int 2)) (aNil))))))) (sNil)) (
  sRet (eNew (oLst (aCons (eV 0) (aCons (eOp oAdd (eC (.int 1)) (eOp oMod (eCB bInt (aCons (eV 0) (aNil))) (eC (.int 1009)))) (aCons (eCB bInt (aCons (eOp oGe (eV 0) (eOp oPow (eC (.int 10)) (eC (.int 18)))) (aNil))) (aNil)))))))
def m_law_dice : Fn := mkFn 1 1 b_law_dice
/-- _law_roll: 0 dice, 1 many, 2 found -/
def b_law_roll : MS := sSeq (sIf (tOr (tB (eOp oEq (eOp oIx (eV 0) (eC (.int 2))) (eC (.int 2)))) (tAnd (tB (eOp oEq (eOp oIx (eV 0) (eC (.int 2))) (eC (.int 1)))) (tB (eOp oGt (eOp oIx (eV 0) (eC (.int 0))) (eC (.int 0)))))) (sSeq (sSet 2 (eOp oMod (eCB bInt (aCons (eOp oIx (eV 0) (eC (.int 0))) (aNil))) (eV 1))) (
  sSeq (sSub (eV 0) (eC (.int 0)) (eOp oDiv (eOp oIx (eV 0) (eC (.int 0))) (eV 1))) (
  sRet (eV 2)))) (sNil)) (
  sSeq (sSub (eV 0) (eC (.int 2)) (eC (.int 0))) (
  sSeq (sSub (eV 0) (eC (.int 0)) (eOp oMod (eCB bInt (aCons (eOp oAdd (eOp oAdd (eOp oMul (eOp oIx (eV 0) (eC (.int 0))) (eC (.int 48271))) (eOp oMul (eOp oIx (eV 0) (eC (.int 1))) (eC (.int 69621)))) (eC (.int 11))) (aNil))) (eC (.int 2147483647)))) (
  sSeq (sSub (eV 0) (eC (.int 1)) (eOp oAdd (eOp oIx (eV 0) (eC (.int 1))) (eC (.int 1)))) (
  sRet (eOp oMod (eCB bInt (aCons (eOp oAdd (eOp oDiv (eOp oIx (eV 0) (eC (.int 0))) (eC (.int 7))) (eOp oIx (eV 0) (eC (.int 0)))) (aNil))) (eV 1))))))
def m_law_roll : Fn := mkFn 3 2 b_law_roll
/-- _law_rounds: 0 script, 1 most, 2 cells, 3 cell -/
def b_law_rounds : MS := sSeq (sSet 2 (eSl (eV 0) none (some (eV 1)))) (
  sSeq (sIf (tB (eOp oEq (eV 2) (eLst (aNil)))) (sSet 2 (eLst (aCons (eC (.int 0)) (aNil)))) (sNil)) (
  sRet (eLC [3] (iSeq (eV 2)) (gN 3) (tYes) (eCall m_law_dice (aCons (eV 3) (aNil))))))
def m_law_rounds : Fn := mkFn 4 2 b_law_rounds
/-- the dice: three numbers -/
def tri (a b c : Int) : Ob := .lst [.int a, .int b, .int c]
theorem tri_view {S : Store} {r : Nat} {a b c : Int} (h : S[r]? = some (tri a b c)) : view S (.obj r) = .lst [.int a, .int b, .int c] := by
  unfold view
  simp only [h, tri, Ob.val]
theorem fmod_nn (a b : Int) (h : 0 < b) : 0 ≤ a.fmod b ∧ a.fmod b < b := ⟨Int.fmod_nonneg_of_pos a h, Int.fmod_lt_of_pos a h⟩
theorem at_tri {S : Store} {r : Nat} {a b c : Int} (h : S[r]? = some (tri a b c)) : oIx S (.obj r) (.int 0) = some (.int a) ∧ oIx S (.obj r) (.int 1) = some (.int b) ∧ oIx S (.obj r) (.int 2) = some (.int c) := by
  unfold oIx; rw [tri_view h]; exact ⟨rfl, rfl, rfl⟩
theorem dice {S : Store} {x : D} {n : Int} {i : Nat} {d : D} {e : Env} (hx : oIx S x (.int n) = some d) (he : e[i]? = some (some x)) : eOp oIx (eV i) (eC (.int n)) e S = .ok d S := eOp_eq (eV_at he) eC_eq hx
/-- dice[0] // many, the first of the two ways -/
theorem roll_ok {S : Store} {r : Nat} {a b c many : Int} (h : S[r]? = some (tri a b c)) (h1 : 1 ≤ many) (h2 : many < 1000000) :
    ∃ v a' b' c', m_law_roll [.obj r, .int many] S = .ok (.int v) (S.set r (tri a' b' c')) ∧ 0 ≤ v ∧ v < many := by
  have hr : r < S.length := (List.getElem?_eq_some_iff.mp h).1
  obtain ⟨x0, x1, x2⟩ := at_tri h
  have hl := lstAt_obj (S := S) (r := r) h
  have hm : many ≠ 0 := by omega
  have hn : many.natAbs < 1073741824 := by omega
  by_cases hc : c = 2 ∨ (c = 1 ∧ a > 0)
  · refine ⟨a.fmod many, a.fdiv many, b, c, ?_, (fmod_nn a many (by omega)).1, (fmod_nn a many (by omega)).2⟩
    refine fn_rt rfl ?_
    refine seq_rt (if_t (S1 := S) ?_ ?_)
    · rcases hc with rfl | ⟨rfl, ha⟩
      · exact tOr_t (tB_eq (eOp_eq (dice x2 rfl) eC_eq (by rw [eqV_ii]; rfl)))
      · exact tOr_f (tB_eq (eOp_eq (dice x2 rfl) eC_eq (by rw [eqV_ii]; rfl))) (tAnd_t (tB_eq (eOp_eq (dice x2 rfl) eC_eq (by rw [eqV_ii]; rfl))) (tB_eq (eOp_eq (dice x0 rfl) eC_eq (by rw [ii_gt]; simp [ha]))))
    · refine seq_nx (set_eq (eOp_eq (eCB_eq (aCons_eq (dice x0 rfl) aNil_eq) rfl) (eV_at rfl) (ii_mod hm))) ?_
      refine seq_nx (sub_eq (eOp_eq (dice x0 rfl) (eV_at rfl) (ii_div ⟨hm, hn⟩)) (eV_at rfl) eC_eq hl rfl) ?_
      exact ret_eq (eV_at rfl)
  · refine ⟨(((a * 48271 + b * 69621 + 11).fmod 2147483647).fdiv 7 + (a * 48271 + b * 69621 + 11).fmod 2147483647).fmod many, (a * 48271 + b * 69621 + 11).fmod 2147483647, b + 1, 0, ?_, (fmod_nn _ many (by omega)).1, (fmod_nn _ many (by omega)).2⟩
    have set1 : (S.set r (tri a b 0))[r]? = some (tri a b 0) := List.getElem?_set_self hr
    refine fn_rt rfl ?_
    refine seq_nx (if_f (S1 := S) (e := [some (.obj r), some (.int many), none]) ?_ nil_eq) ?_
    · refine tOr_f (tB_eq (eOp_eq (dice x2 rfl) eC_eq (by rw [eqV_ii]; rw [show (c == 2) = false by simp; omega]))) ?_
      by_cases h1 : c = 1
      · subst h1
        exact tAnd_t (tB_eq (eOp_eq (dice x2 rfl) eC_eq (by rw [eqV_ii]; rfl))) (tB_eq (eOp_eq (dice x0 rfl) eC_eq (by rw [ii_gt]; simp; omega)))
      · exact tAnd_f (tB_eq (eOp_eq (dice x2 rfl) eC_eq (by rw [eqV_ii]; rw [show (c == 1) = false by simp; exact h1])))
    obtain ⟨y0, y1, y2⟩ := at_tri set1
    refine seq_nx (sub_eq (S1 := S) (S2 := S) (S3 := S) (z := 2) eC_eq (eV_at rfl) eC_eq hl rfl) ?_
    show sSeq _ _ _ (S.set r (tri a b 0)) = _
    have set2 : ((S.set r (tri a b 0)).set r (tri ((a * 48271 + b * 69621 + 11).fmod 2147483647) b 0))[r]? = some (tri ((a * 48271 + b * 69621 + 11).fmod 2147483647) b 0) := List.getElem?_set_self (by rw [List.length_set]; exact hr)
    obtain ⟨z0, z1, z2⟩ := at_tri set2
    have big1 : oMul (S.set r (tri a b 0)) (.int a) (.int 48271) = some (.int (a * 48271)) := by unfold oMul; simp [viewM, big]
    have big2 : oMul (S.set r (tri a b 0)) (.int b) (.int 69621) = some (.int (b * 69621)) := by unfold oMul; simp [viewM, big]
    refine seq_nx (sub_eq (S1 := S.set r (tri a b 0)) (S2 := S.set r (tri a b 0)) (S3 := S.set r (tri a b 0)) (z := 0) (eOp_eq (eCB_eq (aCons_eq (eOp_eq (eOp_eq (eOp_eq (dice y0 rfl) eC_eq big1) (eOp_eq (dice y1 rfl) eC_eq big2) ii_add) eC_eq ii_add) aNil_eq) rfl) eC_eq (ii_mod (by decide))) (eV_at rfl) eC_eq (lstAt_obj set1) rfl) ?_
    show sSeq _ _ _ ((S.set r (tri a b 0)).set r (tri ((a * 48271 + b * 69621 + 11).fmod 2147483647) b 0)) = _
    refine seq_nx (sub_eq (S1 := (S.set r (tri a b 0)).set r (tri ((a * 48271 + b * 69621 + 11).fmod 2147483647) b 0)) (z := 1) (eOp_eq (dice z1 rfl) eC_eq ii_add) (eV_at rfl) eC_eq (lstAt_obj set2) rfl) ?_
    show sRet _ _ (((S.set r (tri a b 0)).set r (tri ((a * 48271 + b * 69621 + 11).fmod 2147483647) b 0)).set r (tri ((a * 48271 + b * 69621 + 11).fmod 2147483647) (b + 1) 0)) = _
    have set3 : (((S.set r (tri a b 0)).set r (tri ((a * 48271 + b * 69621 + 11).fmod 2147483647) b 0)).set r (tri ((a * 48271 + b * 69621 + 11).fmod 2147483647) (b + 1) 0))[r]? = some (tri ((a * 48271 + b * 69621 + 11).fmod 2147483647) (b + 1) 0) := List.getElem?_set_self (by rw [List.length_set, List.length_set]; exact hr)
    obtain ⟨w0, w1, w2⟩ := at_tri set3
    have e2 : ((S.set r (tri a b 0)).set r (tri ((a * 48271 + b * 69621 + 11).fmod 2147483647) b 0)).set r (tri ((a * 48271 + b * 69621 + 11).fmod 2147483647) (b + 1) 0) = S.set r (tri ((a * 48271 + b * 69621 + 11).fmod 2147483647) (b + 1) 0) := by rw [List.set_set, List.set_set]
    rw [← e2]
    exact ret_eq (eOp_eq (eCB_eq (aCons_eq (eOp_eq (eOp_eq (dice w0 rfl) eC_eq (ii_div ⟨by decide, by decide⟩)) (dice w0 rfl) ii_add) aNil_eq) rfl) (eV_at rfl) (ii_mod hm))

theorem sl_eq {a : ME} {lo hi : Option ME} {e : Env} {S S1 S2 S3 : Store} {x z : D} {l h : Option Int} (h1 : a e S = .ok x S1) (h2 : pO lo e S1 = .ok l S2) (h3 : pO hi e S2 = .ok h S3) (h4 : slD S3 x l h = some z) : eSl a lo hi e S = .ok z S3 := by
  unfold eSl; simp only [h1, h2, h3, h4, bind_ok, ofO_some]
theorem pO_n {e : Env} {S : Store} : pO none e S = .ok none S := rfl
theorem pO_s {m : ME} {e : Env} {S S1 : Store} {i : Int} (h : m e S = .ok (.int i) S1) : pO (some m) e S = .ok (some i) S1 := by
  unfold pO; simp only [h, bind_ok]
theorem new_eq {r : MA} {e : Env} {S S1 : Store} {xs : List D} (h : r e S = .ok xs S1) (h2 : xs.length ≤ 1000) : eNew (oLst r) e S = .ok (.obj S1.length) (S1 ++ [.lst xs]) := by
  unfold eNew oLst; simp only [h, bind_ok]; rw [if_pos h2]; rfl
theorem lc_eq {vs : List Nat} {it : MI} {g : MG} {t : MB} {m : ME} {e : Env} {S S1 S2 : Store} {xs ys : List D} (h1 : it e S = .ok (xs, none) S1) (h2 : xs.length ≤ 100000) (h3 : lcL g t m (wipe e vs) xs S1 [] = .ok ys S2) : eLC vs it g t m e S = .ok (.lst ys) S2 := by
  unfold eLC; simp only [h1, bind_ok]; rw [if_neg (by omega)]; simp only [h3, bind_ok]; rfl
theorem seq_it {a : ME} {e : Env} {S S1 : Store} {xs : List D} (h : a e S = .ok (.lst xs) S1) : iSeq a e S = .ok (xs, none) S1 := by unfold iSeq; simp only [h, bind_ok]
theorem lcL_yes {g : MG} {m : ME} {e e1 : Env} {x y : D} {xs acc : List D} {S S0 S2 : Store} (h1 : g x e S = .ok e1 S0) (h2 : m e1 S0 = .ok y S2) : lcL g tYes m e (x :: xs) S acc = lcL g tYes m e xs S2 (acc ++ [y]) := by
  show (match g x e S with | .ok e1 S0 => _ | _ => _) = _
  simp only [h1, tYes, h2]
theorem eq_nil {S : Store} {ns : List Int} : oEq S (.lst (ns.map .int)) (.lst []) = some (.bl ns.isEmpty) := by
  have h : ∀ l : List Int, (l.map D.int).all (dataN 5) = true := fun l => by
    induction l with
    | nil => rfl
    | cons x r ih => simp [List.map_cons, List.all_cons, dataN, ih]
  unfold oEq eqV
  have d1 : dataD (.lst (ns.map .int)) = true := h ns
  simp only [view, d1]
  cases ns <;> rfl
theorem dice_ok {sc : Ob} {z : Int} : ∃ a b c, m_law_dice [.int z] [sc] = .ok (.obj 1) [sc, tri a b c] := by
  have ch : ∀ {e : Env}, e[0]? = some (some (.int z)) → eChain oLt oLt (eOp oSub (eC (.int 0)) (eC (.int 10))) (eV 0) (eC (.int 10)) e [sc] = .ok (.bl (decide (0 - 10 < z) && decide (z < 10))) [sc] := fun {e} he => by
    unfold eChain
    simp only [eOp_eq (e := e) (S := [sc]) (eC_eq (d := .int 0)) (eC_eq (d := .int 10)) ii_sub, eV_at he, eC_eq, bind_ok, ii_lt]
    by_cases hn : (0 : Int) - 10 < z
    · rw [show decide ((0 : Int) - 10 < z) = true by simp only [hn]; rfl]; rfl
    · rw [show decide ((0 : Int) - 10 < z) = false by simp only [hn]; rfl]; rfl
  cases hq : (decide ((0 : Int) - 10 < z) && decide (z < 10)) with
  | true =>
    refine ⟨if z < 0 then -z else z, 0, 2, fn_rt rfl (seq_rt (if_t (S1 := [sc]) (tB_eq (b := true) ?_) (ret_eq (new_eq (aCons_eq (eCB_eq (aCons_eq (eV_at rfl) aNil_eq) rfl) (aCons_eq eC_eq (aCons_eq eC_eq aNil_eq))) (by simp)))))⟩
    rw [ch rfl, hq]
  | false =>
    refine ⟨z, 1 + z.fmod 1009, _, fn_rt rfl (seq_nx (if_f (S1 := [sc]) (tB_eq (b := false) ?_) nil_eq) (ret_eq (new_eq (aCons_eq (eV_at rfl) (aCons_eq (eOp_eq eC_eq (eOp_eq (eCB_eq (aCons_eq (eV_at rfl) aNil_eq) rfl) eC_eq (ii_mod (by decide))) ii_add) (aCons_eq (eCB_eq (aCons_eq (eOp_eq (y := .int 1000000000000000000) (eV_at rfl) (eOp_eq eC_eq eC_eq rfl) ii_ge) aNil_eq) rfl) aNil_eq))) (by simp))))⟩
    rw [ch rfl, hq]
theorem rounds_ok {xs : List Int} : ∃ a b c, m_law_rounds [.obj 0, .int 1] [.lck (.lck (.lst (xs.map .int)))] = .ok (.lst [.obj 1]) [.lck (.lck (.lst (xs.map .int))), tri a b c] := by
  cases xs with
  | nil =>
    obtain ⟨a, b, c, d⟩ := dice_ok (sc := .lck (.lck (.lst (([] : List Int).map .int)))) (z := 0)
    refine ⟨a, b, c, fn_rt rfl ?_⟩
    refine seq_nx (set_eq (d := .lst []) (sl_eq (eV_at rfl) pO_n (pO_s (eV_at rfl)) rfl)) ?_
    refine seq_nx (if_t (S1 := [.lck (.lck (.lst (([] : List Int).map .int)))]) (tB_eq (b := true) (eOp_eq (eV_at rfl) (eLst_eq aNil_eq (by simp)) (eq_nil (ns := [])))) (set_eq (d := .lst [.int 0]) (eLst_eq (aCons_eq eC_eq aNil_eq) (by simp)))) ?_
    exact ret_eq (lc_eq (seq_it (eV_at rfl)) (by simp) (lcL_yes gN_eq (eCall_eq (aCons_eq (eV_at rfl) aNil_eq) d)))
  | cons n r =>
    obtain ⟨a, b, c, d⟩ := dice_ok (sc := .lck (.lck (.lst ((n :: r).map .int)))) (z := n)
    refine ⟨a, b, c, fn_rt rfl ?_⟩
    have cut : slD [.lck (.lck (.lst ((n :: r).map .int)))] (.obj 0) none (some 1) = some (.lst [.int n]) := by
      show some (D.lst (cutL (D.int n :: r.map .int) none (some 1))) = _
      have : cutL (D.int n :: r.map .int) none (some 1) = [.int n] := by
        have e : min (1 : Int).toNat (D.int n :: r.map D.int).length = 1 := by
          show min 1 ((r.map D.int).length + 1) = 1
          omega
        show ((D.int n :: r.map D.int).drop 0).take ((if (1 : Int) < 0 then (1 + ((D.int n :: r.map D.int).length : Int)).toNat else min (1 : Int).toNat (D.int n :: r.map D.int).length) - 0) = _
        rw [if_neg (show ¬ (1 : Int) < 0 by decide), e]
        rfl
      rw [this]
    refine seq_nx (set_eq (d := .lst [.int n]) (sl_eq (eV_at rfl) pO_n (pO_s (eV_at rfl)) cut)) ?_
    refine seq_nx (if_f (S1 := [.lck (.lck (.lst ((n :: r).map .int)))]) (tB_eq (b := false) (eOp_eq (eV_at rfl) (eLst_eq aNil_eq (by simp)) (eq_nil (ns := [n])))) nil_eq) ?_
    exact ret_eq (lc_eq (seq_it (eV_at rfl)) (by simp) (lcL_yes gN_eq (eCall_eq (aCons_eq (eV_at rfl) aNil_eq) d)))
theorem roll_wp {β : Type} {Q : β → Store → Prop} {S : Store} {r : Nat} {a b c many : Int} {f : D → Store → Out β} (h : S[r]? = some (tri a b c)) (h1 : 1 ≤ many) (h2 : many < 1000000) (k : ∀ v a b c, 0 ≤ v → v < many → okW Q (f (.int v) (S.set r (tri a b c)))) : okW Q ((m_law_roll [.obj r, .int many] S).bnd f) := by
  obtain ⟨v, a', b', c', e, h3, h4⟩ := roll_ok h h1 h2
  rw [e]
  exact k v a' b' c' h3 h4
/-- the rounds of a law with one cell -/
theorem law_wp {β : Type} {Q : β → Store → Prop} {xs : List Int} {f : D → Store → Out β} (k : ∀ a b c, okW Q (f (.lst [.obj 1]) [.lck (.lck (.lst (xs.map .int))), tri a b c])) : okW Q ((m_law_rounds [.obj 0, .int 1] [.lck (.lck (.lst (xs.map .int)))]).bnd f) := by
  obtain ⟨a, b, c, e⟩ := rounds_ok (xs := xs)
  rw [e]
  exact k a b c
/-! ### data -/
mutual
theorem eqD_self : ∀ (n : Nat) (x : D), dataN n x = true → eqD x x = true
  | _, .non, _ => rfl
  | _, .bl b, _ => by simp [eqD]
  | _, .int i, _ => by simp [eqD]
  | _, .str t, _ => by simp [eqD]
  | n + 1, .lst xs, h => by
    simp only [eqD]
    exact eqL_self n xs (by simpa [dataN] using h)
  | n + 1, .tup xs, h => by
    simp only [eqD]
    exact eqL_self n xs (by simpa [dataN] using h)
  | 0, .lst xs, h => by simp [dataN] at h
  | 0, .tup xs, h => by simp [dataN] at h
  | _, .dct _, h => by simp [dataN] at h
  | _, .dctT _, h => by simp [dataN] at h
  | _, .obj _, h => by simp [dataN] at h
theorem eqL_self : ∀ (n : Nat) (xs : List D), (∀ x ∈ xs, dataN n x = true) → eqL xs xs = true
  | _, [], _ => by simp [eqL]
  | n, x :: xs, h => by
    simp only [eqL, Bool.and_eq_true]
    exact ⟨eqD_self n x (h x List.mem_cons_self), eqL_self n xs fun y hy => h y (List.mem_cons_of_mem _ hy)⟩
end
theorem data_view {S : Store} {x : D} {n : Nat} (h : dataN n x = true) : view S x = x := by cases x <;> first | rfl | simp [dataN] at h
theorem eq_same {S : Store} {x : D} (h : dataN 6 x = true) : oEq S x x = some (.bl true) := by
  unfold oEq eqV dataD; rw [data_view h, h, eqD_self 6 x h]; rfl
theorem ne_same {S : Store} {x : D} (h : dataN 6 x = true) : oNe S x x = some (.bl false) := by
  unfold oNe eqV dataD; rw [data_view h, h, eqD_self 6 x h]; rfl
theorem intsD_mapP : ∀ ns : List Int, intsD (ns.map .int) = some ns
  | [] => rfl
  | n :: ns => by show (intsD (ns.map .int)).map (n :: ·) = _; rw [intsD_mapP ns]; rfl
theorem rangeL_lenP : ∀ (n : Nat) (lo : Int), (rangeL lo n).length = n
  | 0, _ => rfl
  | n + 1, lo => by show (rangeL (lo + 1) n).length + 1 = n + 1; rw [rangeL_lenP n]
/-! ### sorting -/
theorem insB_perm {le : D → D → Bool} {x : D} : ∀ l : List D, (insB le x l).Perm (x :: l)
  | [] => List.Perm.refl _
  | y :: r => by
    show (if le x y = true then x :: y :: r else y :: insB le x r).Perm _
    split
    · exact List.Perm.refl _
    · exact ((insB_perm r).cons y).trans (List.Perm.swap x y r)
theorem sortB_perm {le : D → D → Bool} : ∀ l : List D, (sortB le l).Perm l
  | [] => List.Perm.refl _
  | x :: r => (insB_perm (sortB le r)).trans ((sortB_perm r).cons x)
theorem insB_map {α : Type} {le : D → D → Bool} {f : α → D} {x : α} : ∀ l : List α, ∃ l' : List α, insB le (f x) (l.map f) = l'.map f ∧ l'.Perm (x :: l)
  | [] => ⟨[x], rfl, List.Perm.refl _⟩
  | y :: r => by
    obtain ⟨l', h1, h2⟩ := insB_map (le := le) (f := f) (x := x) r
    by_cases h : le (f x) (f y) = true
    · exact ⟨x :: y :: r, by show (if _ then _ else _) = _; rw [if_pos h]; rfl, List.Perm.refl _⟩
    · exact ⟨y :: l', by show (if _ then _ else _) = _; rw [if_neg h, h1]; rfl, (h2.cons y).trans (List.Perm.swap x y r)⟩
theorem sortB_map {α : Type} {le : D → D → Bool} {f : α → D} : ∀ l : List α, ∃ l' : List α, sortB le (l.map f) = l'.map f ∧ l'.Perm l
  | [] => ⟨[], rfl, List.Perm.refl _⟩
  | x :: r => by
    obtain ⟨l', h1, h2⟩ := sortB_map (le := le) (f := f) r
    obtain ⟨l2, h3, h4⟩ := insB_map (le := le) (f := f) (x := x) l'
    exact ⟨l2, by show insB le (f x) (sortB le (r.map f)) = _; rw [h1, h3], h4.trans (h2.cons x)⟩
/-! ### comprehensions and generators over what stands for other things -/
theorem lc_of {α : Type} {S : Store} {e : Env} {t : MB} {m : ME} {g : MG} {xs : List α} {acc : List D} (h : α → D) (p : α → Bool) (f : α → D) (hx : ∀ c ∈ xs, ∃ e1, g (h c) e S = .ok e1 S ∧ t e1 S = .ok (p c) S ∧ (p c = true → m e1 S = .ok (f c) S)) : lcL g t m e (xs.map h) S acc = .ok (acc ++ (xs.filter p).map f) S := by
  induction xs generalizing acc with
  | nil => simp
  | cons x xs ih =>
    obtain ⟨e1, h1, h2, h3⟩ := hx x List.mem_cons_self
    have ih := fun acc => ih (acc := acc) fun y hy => hx y (List.mem_cons_of_mem _ hy)
    show (match g (h x) e S with | .ok e1 S0 => _ | _ => _) = _
    rw [h1]
    show (match t e1 S with | .ok true S1 => _ | .ok false S1 => _ | _ => _) = _
    rw [h2]
    cases hp : p x with
    | false =>
      show lcL g t m e (xs.map h) S acc = _
      rw [ih]; simp [hp]
    | true =>
      show (match m e1 S with | .ok y S2 => _ | _ => _) = _
      rw [h3 hp]
      show lcL g t m e (xs.map h) S (acc ++ [f x]) = _
      rw [ih]; simp [hp]
/-- .. without a test -/
theorem lc_map {α : Type} {S : Store} {e : Env} {m : ME} {g : MG} {xs : List α} (h : α → D) (f : α → D) (hx : ∀ c ∈ xs, ∃ e1, g (h c) e S = .ok e1 S ∧ m e1 S = .ok (f c) S) : lcL g tYes m e (xs.map h) S [] = .ok (xs.map f) S := by
  rw [lc_of h (fun _ => true) f fun c hc => by obtain ⟨e1, h1, h2⟩ := hx c hc; exact ⟨e1, h1, rfl, fun _ => h2⟩, List.filter_eq_self.mpr fun _ _ => rfl]
  rfl
theorem gen_of {α : Type} {S : Store} {e : Env} {t : MB} {m : ME} {g : MG} (h : α → D) (p : α → Bool) (f : α → D) : ∀ {xs : List α}, (∀ c ∈ xs, ∃ e1, g (h c) e S = .ok e1 S ∧ t e1 S = .ok (p c) S ∧ (p c = true → m e1 S = .ok (f c) S)) → genL (turnG g t m e S) (xs.map h) = some ((xs.filter p).map f)
  | [], _ => rfl
  | x :: xs, hx => by
    obtain ⟨e1, h1, h2, h3⟩ := hx x List.mem_cons_self
    have ih := gen_of (S := S) (e := e) (t := t) (m := m) (g := g) h p f (xs := xs) fun y hy => hx y (List.mem_cons_of_mem _ hy)
    show (match turnG g t m e S (h x) with | some (some y) => (genL (turnG g t m e S) (xs.map h)).map (y :: ·) | some none => genL (turnG g t m e S) (xs.map h) | none => none) = _
    rw [ih]
    cases hp : p x with
    | false =>
      have : turnG g t m e S (h x) = some none := by unfold turnG; simp only [h1, h2, hp]
      rw [this]; simp [hp]
    | true =>
      have : turnG g t m e S (h x) = some (some (f x)) := by unfold turnG; simp only [h1, h2, hp, h3 hp]
      rw [this]; simp [hp]
/-- the numbers of a range -/
def rangeI (lo : Int) : Nat → List Int
  | 0 => []
  | n + 1 => lo :: rangeI (lo + 1) n
theorem rangeL_mapP : ∀ (n : Nat) (lo : Int), rangeL lo n = (rangeI lo n).map .int
  | 0, _ => rfl
  | n + 1, lo => by show D.int lo :: rangeL (lo + 1) n = _; rw [rangeL_mapP n]; rfl
theorem rangeI_len : ∀ (n : Nat) (lo : Int), (rangeI lo n).length = n
  | 0, _ => rfl
  | n + 1, lo => by show (rangeI (lo + 1) n).length + 1 = n + 1; rw [rangeI_len n]
theorem rangeI_mem : ∀ {n : Nat} {lo x : Int}, x ∈ rangeI lo n → lo ≤ x ∧ x < lo + n
  | 0, _, _, h => nomatch h
  | n + 1, lo, x, h => by
    rcases List.mem_cons.mp h with q | q
    · rw [q]; omega
    · have := rangeI_mem q; omega
theorem boolsD_mapP {α : Type} (f : α → Bool) : ∀ xs : List α, boolsD (xs.map fun c => .bl (f c)) = some (xs.map f)
  | [] => rfl
  | x :: xs => by show (boolsD (xs.map fun c => .bl (f c))).map (f x :: ·) = _; rw [boolsD_mapP f xs]; rfl
theorem sum_ones {α : Type} : ∀ xs : List α, sumI (xs.map fun _ => 1) = xs.length
  | [] => rfl
  | x :: xs => by show 1 + sumI (xs.map fun _ => 1) = _; rw [sum_ones xs]; simp; omega
theorem fits_ones {α : Type} : ∀ (xs : List α) (a : Int), 0 ≤ a → a + xs.length < 1000000 → fitsL a (xs.map fun _ => 1) = true
  | [], _, _, _ => rfl
  | x :: xs, a, h0, h => by
    show (decide (-1000000000000000000 < (1:Int) ∧ (1:Int) < 1000000000000000000 ∧ -1000000000000000000 < a + 1 ∧ a + 1 < 1000000000000000000) && fitsL (a + 1) (xs.map fun _ => 1)) = true
    simp only [List.length_cons] at h
    rw [fits_ones xs (a + 1) (by omega) (by omega), Bool.and_true, decide_eq_true_eq]
    omega
theorem maxI_specP : ∀ (r : List Int) (z : Int), (maxI r z = z ∨ maxI r z ∈ r) ∧ z ≤ maxI r z ∧ ∀ x ∈ r, x ≤ maxI r z
  | [], z => ⟨.inl rfl, Int.le_refl _, fun x h => nomatch h⟩
  | y :: r, z => by
    obtain ⟨h1, h2, h3⟩ := maxI_specP r (if y > z then y else z)
    have e : maxI (y :: r) z = maxI r (if y > z then y else z) := rfl
    rw [e]
    by_cases h : y > z
    · simp only [h, if_true] at h1 h2 h3 ⊢
      exact ⟨.inr (by rcases h1 with q | q <;> simp [q]), by omega, fun x hx => (List.mem_cons.mp hx).elim (fun q => by rw [q]; exact h2) (h3 x)⟩
    · simp only [h, if_false] at h1 h2 h3 ⊢
      exact ⟨h1.elim .inl fun q => .inr (List.mem_cons_of_mem _ q), h2, fun x hx => (List.mem_cons.mp hx).elim (fun q => by rw [q]; omega) (h3 x)⟩
theorem minI_specP : ∀ (r : List Int) (z : Int), (minI r z = z ∨ minI r z ∈ r) ∧ minI r z ≤ z ∧ ∀ x ∈ r, minI r z ≤ x
  | [], z => ⟨.inl rfl, Int.le_refl _, fun x h => nomatch h⟩
  | y :: r, z => by
    obtain ⟨h1, h2, h3⟩ := minI_specP r (if y < z then y else z)
    have e : minI (y :: r) z = minI r (if y < z then y else z) := rfl
    rw [e]
    by_cases h : y < z
    · simp only [h, if_true] at h1 h2 h3 ⊢
      exact ⟨.inr (by rcases h1 with q | q <;> simp [q]), by omega, fun x hx => (List.mem_cons.mp hx).elim (fun q => by rw [q]; exact h2) (h3 x)⟩
    · simp only [h, if_false] at h1 h2 h3 ⊢
      exact ⟨h1.elim .inl fun q => .inr (List.mem_cons_of_mem _ q), h2, fun x hx => (List.mem_cons.mp hx).elim (fun q => by rw [q]; omega) (h3 x)⟩
theorem ixOf_has {i : Int} : ∀ {ns : List Int}, i ∈ ns → ∃ j, ixOf i ns = some j
  | y :: r, h => by
    show ∃ j, (if y = i then some 0 else (ixOf i r).map (· + 1)) = some j
    by_cases hy : y = i
    · exact ⟨0, if_pos hy⟩
    · rw [if_neg hy]
      rcases List.mem_cons.mp h with q | q
      · exact absurd q.symm hy
      · obtain ⟨j, hj⟩ := ixOf_has q
        exact ⟨j + 1, by rw [hj]; rfl⟩
/-- a list of rolls, one for each turn -/
theorem rolls_wp {S0 : Store} {r slot : Nat} {m : ME} {e : Env} {P : D → Prop} (h0 : ∃ a b c, S0[r]? = some (tri a b c)) (hm : ∀ x S a b c, S[r]? = some (tri a b c) → okW (fun y S' => (∃ a b c, S' = S.set r (tri a b c)) ∧ P y) (m (e.set slot (some x)) S)) (xs : List D) {Q : List D → Store → Prop}
    (hq : ∀ (l : List D) (a b c : Int), l.length = xs.length → (∀ y ∈ l, P y) → Q l (S0.set r (tri a b c))) : okW Q (lcL (gN slot) tYes m e xs S0 []) := by
  obtain ⟨a, b, c, h⟩ := h0
  refine okW_mono (lcL_wp (fun S => ∃ a b c, S = S0.set r (tri a b c)) P xs [] S0 ⟨a, b, c, (set_same h).symm⟩ fun x _ S ⟨a1, b1, c1, hS⟩ => ?_) fun ys S' ⟨⟨a1, b1, c1, hS⟩, l, h1, h2, h3⟩ => ?_
  · have h1 : S[r]? = some (tri a1 b1 c1) := by rw [hS]; exact set_at (by rw [h]; rfl)
    refine okW_mono (hm x S a1 b1 c1 h1) fun y S' ⟨⟨a2, b2, c2, hS2⟩, hy⟩ => ⟨⟨a2, b2, c2, ?_⟩, hy⟩
    rw [hS2, hS, List.set_set]
  · subst h1 hS
    exact hq _ a1 b1 c1 h2 h3
end Sm
end

section
set_option linter.all false
set_option autoImplicit false
set_option maxRecDepth 100000
set_option maxHeartbeats 4000000
namespace Sm
theorem leR_trans {rev : Bool} (a b c : D) (h1 : leR rev a b = true) (h2 : leR rev b c = true) : leR rev a c = true := by
  have := (leV_total rev).trans (.non, a) (.non, b) (.non, c)
  rw [leV_eq, leV_eq, leV_eq] at this
  exact this h1 h2
theorem leR_total {rev : Bool} (a b : D) : leR rev a b = true ∨ leR rev b a = true := by
  have := (leV_total rev).total (.non, a) (.non, b)
  rw [leV_eq, leV_eq] at this
  exact this
/-- in order -/
def Ord (rev : Bool) (l : List D) : Prop := l.Pairwise fun a b => leR rev a b = true
theorem insB_mem {le : D → D → Bool} {x z : D} {l : List D} (h : z ∈ insB le x l) : z = x ∨ z ∈ l := by
  have := (insB_perm (le := le) (x := x) l).mem_iff.mp h
  simpa using this
theorem insB_ord {rev : Bool} {x : D} : ∀ {l : List D}, Ord rev l → Ord rev (insB (leR rev) x l)
  | [], _ => List.pairwise_singleton _ _
  | y :: r, h => by
    have h' := List.pairwise_cons.mp h
    show Ord rev (if leR rev x y = true then x :: y :: r else y :: insB (leR rev) x r)
    split
    · rename_i hx
      exact List.pairwise_cons.mpr ⟨fun z hz => by
        rcases List.mem_cons.mp hz with q | q
        · rw [q]; exact hx
        · exact leR_trans x y z hx (h'.1 z q), h⟩
    · rename_i hx
      have hy : leR rev y x = true := by
        rcases leR_total (rev := rev) x y with q | q
        · exact absurd q hx
        · exact q
      exact List.pairwise_cons.mpr ⟨fun z hz => by
        rcases insB_mem hz with q | q
        · rw [q]; exact hy
        · exact h'.1 z q, insB_ord h'.2⟩
theorem sortB_ord {rev : Bool} : ∀ l : List D, Ord rev (sortB (leR rev) l)
  | [] => List.Pairwise.nil
  | x :: r => insB_ord (sortB_ord r)
theorem insB_front {rev : Bool} {x : D} : ∀ {l : List D}, (∀ z ∈ l, leR rev x z = true) → insB (leR rev) x l = x :: l
  | [], _ => rfl
  | y :: r, h => by show (if _ then _ else _) = _; rw [if_pos (h y List.mem_cons_self)]
theorem insB_filter {rev : Bool} {x : D} (p : D → Bool) : ∀ {l : List D}, Ord rev l → (insB (leR rev) x l).filter p = if p x = true then insB (leR rev) x (l.filter p) else l.filter p
  | [], _ => by
    show [x].filter p = _
    cases h : p x <;> simp [h, insB]
  | y :: r, h => by
    have h' := List.pairwise_cons.mp h
    by_cases hx : leR rev x y = true
    · have e : insB (leR rev) x (y :: r) = x :: y :: r := by show (if _ then _ else _) = _; rw [if_pos hx]
      rw [e]
      have f : insB (leR rev) x ((y :: r).filter p) = x :: (y :: r).filter p := insB_front fun z hz => by
        rcases List.mem_cons.mp (List.mem_filter.mp hz).1 with q | q
        · rw [q]; exact hx
        · exact leR_trans x y z hx (h'.1 z q)
      rw [f]
      cases hp : p x <;> simp [List.filter_cons, hp]
    · have e : insB (leR rev) x (y :: r) = y :: insB (leR rev) x r := by show (if _ then _ else _) = _; rw [if_neg hx]
      rw [e, List.filter_cons, insB_filter p h'.2, List.filter_cons]
      cases hy : p y
      · simp
      · cases hp : p x
        · simp
        · simp only [if_true]
          show _ = (if leR rev x y = true then _ else _)
          rw [if_neg hx]
theorem sortB_filter {rev : Bool} (p : D → Bool) : ∀ l : List D, sortB (leR rev) (l.filter p) = (sortB (leR rev) l).filter p
  | [] => rfl
  | x :: r => by
    show _ = (insB (leR rev) x (sortB (leR rev) r)).filter p
    rw [insB_filter p (sortB_ord r), ← sortB_filter p r, List.filter_cons]
    cases hp : p x <;> simp [sortB]
end Sm
end

section
set_option linter.all false
set_option autoImplicit false
set_option maxRecDepth 100000
set_option maxHeartbeats 4000000
namespace Sm
/-! ### typed lists and tuples -/
def Lo {α : Type} (f : α → D) (xs : List α) : D := .lst (xs.map f)
def To {α : Type} (f : α → D) (xs : List α) : D := .tup (xs.map f)
/-- data, not deep -/
class Dat {α : Type} (f : α → D) : Prop where
  dat : ∀ x, dataN 4 (f x) = true
class EqF {α : Type} [DecidableEq α] (f : α → D) : Prop extends Dat f where
  eq : ∀ x y, eqD (f x) (f y) = decide (x = y)
class FlF {α : Type} (f : α → D) : Prop where
  fl : ∀ x, flatD (f x) = true
instance : EqF D.int where
  dat := fun _ => rfl
  eq := fun x y => by simp [eqD, Bool.beq_eq_decide_eq]
instance : FlF D.int where
  fl := fun _ => rfl
/-- a sign; a text -/
abbrev Ch := Fin 128
def stC (c : Ch) : D := .str [c.val]
def tx (t : List Ch) : D := .str (t.map (·.val))
instance : EqF stC where
  dat := fun x => by simp [stC, dataN, x.isLt]
  eq := fun x y => by
    simp only [stC, eqD]
    by_cases h : x = y
    · simp [h]
    · have : x.val ≠ y.val := fun e => h (Fin.ext e)
      simp [h, this]
instance : FlF stC where
  fl := fun _ => rfl
theorem map_val_inj : ∀ {a b : List Ch}, a.map (·.val) = b.map (·.val) → a = b
  | [], [], _ => rfl
  | [], _ :: _, h => by simp at h
  | _ :: _, [], h => by simp at h
  | x :: a, y :: b, h => by
    simp only [List.map_cons, List.cons.injEq] at h
    rw [map_val_inj h.2, Fin.ext h.1]
instance : EqF tx where
  dat := fun t => by simp [tx, dataN]
  eq := fun x y => by
    simp only [tx, eqD]
    by_cases h : x = y
    · simp [h]
    · have : x.map (fun c : Ch => c.val) ≠ y.map (fun c : Ch => c.val) := fun e => h (map_val_inj e)
      simp [h, this]
instance : FlF tx where
  fl := fun _ => rfl
theorem eqL_map {α : Type} [DecidableEq α] {f : α → D} [EqF f] : ∀ xs ys : List α, eqL (xs.map f) (ys.map f) = decide (xs = ys)
  | [], [] => by simp [eqL]
  | [], _ :: _ => by simp [eqL]
  | _ :: _, [] => by simp [eqL]
  | x :: xs, y :: ys => by
    simp only [List.map_cons, eqL, eqL_map xs ys, EqF.eq]
    by_cases h : x = y <;> simp [h]
theorem dat_mono : ∀ {n m : Nat} {x : D}, n ≤ m → dataN n x = true → dataN m x = true
  | _, _, .non, _, _ => by simp [dataN]
  | _, _, .bl _, _, _ => by simp [dataN]
  | _, _, .int _, _, _ => by simp [dataN]
  | _, _, .str t, _, h => by simpa [dataN] using h
  | 0, _, .lst _, _, h => by simp [dataN] at h
  | 0, _, .tup _, _, h => by simp [dataN] at h
  | n + 1, 0, _, h, _ => absurd h (by omega)
  | n + 1, m + 1, .lst xs, hl, h => by
    simp only [dataN, List.all_eq_true] at h ⊢
    exact fun x hx => dat_mono (Nat.le_of_succ_le_succ hl) (h x hx)
  | n + 1, m + 1, .tup xs, hl, h => by
    simp only [dataN, List.all_eq_true] at h ⊢
    exact fun x hx => dat_mono (Nat.le_of_succ_le_succ hl) (h x hx)
  | _, _, .dct _, _, h => by simp [dataN] at h
  | _, _, .dctT _, _, h => by simp [dataN] at h
  | _, _, .obj _, _, h => by simp [dataN] at h
theorem dat_Lo {α : Type} {f : α → D} [Dat f] (xs : List α) : dataN 5 (Lo f xs) = true := by
  simp only [Lo, dataN, List.all_map, List.all_eq_true]
  exact fun x _ => Dat.dat x
theorem dat_To {α : Type} {f : α → D} [Dat f] (xs : List α) : dataN 5 (To f xs) = true := by
  simp only [To, dataN, List.all_map, List.all_eq_true]
  exact fun x _ => Dat.dat x
section
variable {α : Type} {f : α → D} {S : Store} {e : Env}
@[simp] theorem view_Lo (xs : List α) : view S (Lo f xs) = Lo f xs := id rfl
@[simp] theorem view_To (xs : List α) : view S (To f xs) = To f xs := id rfl
@[simp] theorem bLen_Lo (xs : List α) : bLen S [Lo f xs] = some (.int xs.length) := by simp [bLen, Lo, view]
@[simp] theorem bLen_To (xs : List α) : bLen S [To f xs] = some (.int xs.length) := by simp [bLen, To, view]
@[simp] theorem bList_Lo (xs : List α) : bList S [Lo f xs] = some (Lo f xs) := id rfl
@[simp] theorem bList_To (xs : List α) : bList S [To f xs] = some (Lo f xs) := id rfl
@[simp] theorem bTuple_Lo (xs : List α) : bTuple S [Lo f xs] = some (To f xs) := id rfl
@[simp] theorem bTuple_To (xs : List α) : bTuple S [To f xs] = some (To f xs) := id rfl
theorem atZ_map (xs : List α) (i : Int) : atZ (xs.map f) i = (atZ xs i).map f := by
  unfold atZ
  rw [List.length_map]
  cases ixZ xs.length i with
  | none => rfl
  | some j => simp
@[simp] theorem atZ_head (x : α) (xs : List α) : atZ (x :: xs) 0 = some x := by simp [atZ, ixZ]
@[simp] theorem ix_Lo (xs : List α) (i : Int) : oIx S (Lo f xs) (.int i) = (atZ xs i).map f := by
  show atZ (xs.map f) i = _
  exact atZ_map xs i
@[simp] theorem ix_To (xs : List α) (i : Int) : oIx S (To f xs) (.int i) = (atZ xs i).map f := by
  show atZ (xs.map f) i = _
  exact atZ_map xs i
theorem cutL_map (xs : List α) (a b : Option Int) : cutL (xs.map f) a b = (cutL xs a b).map f := by
  unfold cutL
  rw [List.length_map, List.map_take, List.map_drop]
@[simp] theorem sl_Lo (xs : List α) (a b : Option Int) : slD S (Lo f xs) a b = some (Lo f (cutL xs a b)) := by
  show some (D.lst (cutL (xs.map f) a b)) = _
  rw [cutL_map]; rfl
@[simp] theorem sl_To (xs : List α) (a b : Option Int) : slD S (To f xs) a b = some (To f (cutL xs a b)) := by
  show some (D.tup (cutL (xs.map f) a b)) = _
  rw [cutL_map]; rfl
theorem cut_to (xs : List α) {k : Int} (h : 0 ≤ k) : cutL xs none (some k) = xs.take k.toNat := by
  unfold cutL cutA cutN
  simp only [Nat.sub_zero, List.drop_zero]
  rw [if_neg (by omega)]
  by_cases hk : k.toNat ≤ xs.length
  · rw [Nat.min_eq_left hk]
  · rw [Nat.min_eq_right (by omega), List.take_length, List.take_of_length_le (by omega)]
theorem cut_from (xs : List α) {k : Int} (h : 0 ≤ k) : cutL xs (some k) none = xs.drop k.toNat := by
  have e : cutN xs.length k = min k.toNat xs.length := by unfold cutN; rw [if_neg (by omega)]
  show (xs.drop (cutN xs.length k)).take (xs.length - cutN xs.length k) = _
  rw [e]
  by_cases hk : k.toNat ≤ xs.length
  · rw [Nat.min_eq_left hk, List.take_of_length_le (by rw [List.length_drop]; exact Nat.le_refl _)]
  · rw [Nat.min_eq_right (by omega), Nat.sub_self, List.take_zero, List.drop_eq_nil_of_le (by omega)]
@[simp] theorem seqIt_Lo (xs : List α) : seqIt (Lo f xs) S = .ok (xs.map f, none) S := id rfl
@[simp] theorem seqIt_To (xs : List α) : seqIt (To f xs) S = .ok (xs.map f, none) S := id rfl
@[simp] theorem seqG_Lo (xs : List α) : seqG (Lo f xs) S = .ok (xs.map f) S := id rfl
@[simp] theorem seqG_To (xs : List α) : seqG (To f xs) S = .ok (xs.map f) S := id rfl
theorem add_Lo {xs ys : List α} (h : xs.length + ys.length ≤ 100000) : oAdd S (Lo f xs) (Lo f ys) = some (Lo f (xs ++ ys)) := by
  simp [oAdd, viewM, Lo, h]
theorem add_To {xs ys : List α} (h : xs.length + ys.length ≤ 100000) : oAdd S (To f xs) (To f ys) = some (To f (xs ++ ys)) := by
  simp [oAdd, viewM, To, h]
theorem add_Lo1 {xs : List α} {y : α} {d : D} (hd : d = f y) (h : xs.length + 1 ≤ 100000) : oAdd S (Lo f xs) (.lst [d]) = some (Lo f (xs ++ [y])) := by
  subst hd
  simp [oAdd, viewM, Lo, h]
theorem add_To1 {xs : List α} {y : α} {d : D} (hd : d = f y) (h : xs.length + 1 ≤ 100000) : oAdd S (To f xs) (.tup [d]) = some (To f (xs ++ [y])) := by
  subst hd
  simp [oAdd, viewM, To, h]
theorem add_LoI {xs : List Int} {y : Int} (h : xs.length + 1 ≤ 100000) : oAdd S (Lo .int xs) (.lst [.int y]) = some (Lo .int (xs ++ [y])) := add_Lo1 rfl h
theorem add_ToI {xs : List Int} {y : Int} (h : xs.length + 1 ≤ 100000) : oAdd S (To .int xs) (.tup [.int y]) = some (To .int (xs ++ [y])) := add_To1 rfl h
theorem lst_nil : D.lst [] = Lo f [] := rfl
theorem tup_nil : D.tup [] = To f [] := rfl
theorem eqV_data {x y : D} (hx : dataN 6 x = true) (hy : dataN 6 y = true) : eqV S x y = some (eqD x y) := by
  unfold eqV dataD
  rw [data_view hx, data_view hy, hx, hy]
  rfl
theorem oEq_data {x y : D} (hx : dataN 6 x = true) (hy : dataN 6 y = true) : oEq S x y = some (.bl (eqD x y)) := by
  unfold oEq; rw [eqV_data hx hy]; rfl
theorem oNe_data {x y : D} (hx : dataN 6 x = true) (hy : dataN 6 y = true) : oNe S x y = some (.bl (!eqD x y)) := by
  unfold oNe; rw [eqV_data hx hy]; rfl
theorem d56 {x : D} (h : dataN 5 x = true) : dataN 6 x = true := dat_mono (by decide) h
@[simp] theorem eq_Lo [DecidableEq α] [EqF f] (xs ys : List α) : oEq S (Lo f xs) (Lo f ys) = some (.bl (decide (xs = ys))) := by
  rw [oEq_data (d56 (dat_Lo xs)) (d56 (dat_Lo ys))]
  simp only [Lo, eqD, eqL_map]
@[simp] theorem ne_Lo [DecidableEq α] [EqF f] (xs ys : List α) : oNe S (Lo f xs) (Lo f ys) = some (.bl (!decide (xs = ys))) := by
  rw [oNe_data (d56 (dat_Lo xs)) (d56 (dat_Lo ys))]
  simp only [Lo, eqD, eqL_map]
@[simp] theorem eq_To [DecidableEq α] [EqF f] (xs ys : List α) : oEq S (To f xs) (To f ys) = some (.bl (decide (xs = ys))) := by
  rw [oEq_data (d56 (dat_To xs)) (d56 (dat_To ys))]
  simp only [To, eqD, eqL_map]
@[simp] theorem ne_To [DecidableEq α] [EqF f] (xs ys : List α) : oNe S (To f xs) (To f ys) = some (.bl (!decide (xs = ys))) := by
  rw [oNe_data (d56 (dat_To xs)) (d56 (dat_To ys))]
  simp only [To, eqD, eqL_map]
theorem nil_b (xs : List α) (b : List D → D) (hb : ∀ ys, eqD (b ys) (b []) = ys.isEmpty) : eqD (b (xs.map f)) (b []) = xs.isEmpty := by
  rw [hb]; cases xs <;> rfl
@[simp] theorem eq_LoN [Dat f] (xs : List α) : oEq S (Lo f xs) (.lst []) = some (.bl xs.isEmpty) := by
  rw [oEq_data (d56 (dat_Lo xs)) rfl]
  cases xs <;> simp [Lo, eqD, eqL]
@[simp] theorem ne_LoN [Dat f] (xs : List α) : oNe S (Lo f xs) (.lst []) = some (.bl (!xs.isEmpty)) := by
  rw [oNe_data (d56 (dat_Lo xs)) rfl]
  cases xs <;> simp [Lo, eqD, eqL]
@[simp] theorem eq_ToN [Dat f] (xs : List α) : oEq S (To f xs) (.tup []) = some (.bl xs.isEmpty) := by
  rw [oEq_data (d56 (dat_To xs)) rfl]
  cases xs <;> simp [To, eqD, eqL]
@[simp] theorem ne_ToN [Dat f] (xs : List α) : oNe S (To f xs) (.tup []) = some (.bl (!xs.isEmpty)) := by
  rw [oNe_data (d56 (dat_To xs)) rfl]
  cases xs <;> simp [To, eqD, eqL]
theorem inL_map [DecidableEq α] [EqF f] (x : α) : ∀ xs : List α, inL (f x) (xs.map f) = decide (x ∈ xs)
  | [] => by simp [inL]
  | y :: r => by
    simp only [List.map_cons, inL, inL_map x r, EqF.eq, List.mem_cons]
    by_cases h : y = x
    · simp [h]
    · have : x ≠ y := fun q => h q.symm
      simp [h, this]
theorem allFl [FlF f] (xs : List α) : (xs.map f).all flatD = true := by
  rw [List.all_map, List.all_eq_true]; exact fun x _ => FlF.fl x
theorem in_Lo [DecidableEq α] [EqF f] [FlF f] {d : D} {x : α} (hd : d = f x) (xs : List α) : oInS S d (Lo f xs) = some (.bl (decide (x ∈ xs))) := by
  subst hd
  have h1 : flatD (f x) = true := FlF.fl x
  have h2 := allFl (f := f) xs
  simp [oInS, inSV, Lo, view, h1, inL_map]
  exact fun x _ => FlF.fl x
theorem in_To [DecidableEq α] [EqF f] [FlF f] {d : D} {x : α} (hd : d = f x) (xs : List α) : oInS S d (To f xs) = some (.bl (decide (x ∈ xs))) := by
  subst hd
  have h1 : flatD (f x) = true := FlF.fl x
  simp [oInS, inSV, To, view, h1, inL_map]
  exact fun x _ => FlF.fl x
theorem notin_Lo [DecidableEq α] [EqF f] [FlF f] {d : D} {x : α} (hd : d = f x) (xs : List α) : oNotInS S d (Lo f xs) = some (.bl (!decide (x ∈ xs))) := by
  have h := in_Lo (S := S) hd xs
  unfold oInS at h
  unfold oNotInS
  cases hv : inSV S d (Lo f xs) with
  | none => rw [hv] at h; cases h
  | some b => rw [hv] at h; simp at h; simp [h]
theorem notin_To [DecidableEq α] [EqF f] [FlF f] {d : D} {x : α} (hd : d = f x) (xs : List α) : oNotInS S d (To f xs) = some (.bl (!decide (x ∈ xs))) := by
  have h := in_To (S := S) hd xs
  unfold oInS at h
  unfold oNotInS
  cases hv : inSV S d (To f xs) with
  | none => rw [hv] at h; cases h
  | some b => rw [hv] at h; simp at h; simp [h]
@[simp] theorem in_LoI (x : Int) (xs : List Int) : oInS S (.int x) (Lo .int xs) = some (.bl (decide (x ∈ xs))) := in_Lo rfl xs
@[simp] theorem in_ToI (x : Int) (xs : List Int) : oInS S (.int x) (To .int xs) = some (.bl (decide (x ∈ xs))) := in_To rfl xs
@[simp] theorem notin_LoI (x : Int) (xs : List Int) : oNotInS S (.int x) (Lo .int xs) = some (.bl (!decide (x ∈ xs))) := notin_Lo rfl xs
@[simp] theorem notin_ToI (x : Int) (xs : List Int) : oNotInS S (.int x) (To .int xs) = some (.bl (!decide (x ∈ xs))) := notin_To rfl xs
@[simp] theorem lstV_Lo (xs : List α) : lstV S (Lo f xs) = some (xs.map f) := id rfl
@[simp] theorem len_lst (xs : List D) : bLen S [.lst xs] = some (.int xs.length) := by simp [bLen, view]
@[simp] theorem len_tup (xs : List D) : bLen S [.tup xs] = some (.int xs.length) := by simp [bLen, view]
theorem len_dct {r : Nat} {k : List (K1 × D)} (h : S[r]? = some (.dct k)) : bLen S [.obj r] = some (.int k.length) := by simp [bLen, view, h, Ob.val, dctM]
theorem len_view {x : D} {xs : List D} (h : view S x = .lst xs) : bLen S [x] = some (.int xs.length) := by simp [bLen, h]
theorem ne_view {x x' y : D} (h : view S x = x') (h2 : view S x' = x') : oNe S x y = oNe S x' y := by unfold oNe eqV; rw [h, h2]
theorem eq_view {x x' y : D} (h : view S x = x') (h2 : view S x' = x') : oEq S x y = oEq S x' y := by unfold oEq eqV; rw [h, h2]
theorem erase_map : ∀ (l : List α) (n : Nat), (l.map f).eraseIdx n = (l.eraseIdx n).map f
  | [], n => by simp
  | x :: l, 0 => rfl
  | x :: l, n + 1 => by simp [erase_map l n]
/-! numbers -/
def minL : List Int → Option Int
  | [] => none
  | y :: r => some (minI r y)
def maxL : List Int → Option Int
  | [] => none
  | y :: r => some (maxI r y)
@[simp] theorem sum_Lo (xs : List Int) : bSum S [Lo .int xs] = some (.int (sumI xs)) := by
  show (intsD (xs.map .int)).map (fun l => D.int (sumI l)) = _
  rw [intsD_mapP]; rfl
@[simp] theorem min_Lo (xs : List Int) : bMin S [Lo .int xs] = (minL xs).map .int := by
  show (match intsD (xs.map .int) with | some (y :: r) => some (D.int (minI r y)) | _ => none) = _
  rw [intsD_mapP]
  cases xs <;> rfl
@[simp] theorem max_Lo (xs : List Int) : bMax S [Lo .int xs] = (maxL xs).map .int := by
  show (match intsD (xs.map .int) with | some (y :: r) => some (D.int (maxI r y)) | _ => none) = _
  rw [intsD_mapP]
  cases xs <;> rfl
@[simp] theorem abs_int (i : Int) : bAbs S [.int i] = some (.int (i.natAbs : Int)) := by
  show some (D.int (if i < 0 then -i else i)) = _
  congr 2
  split <;> omega
@[simp] theorem max_int (i j : Int) : bMax S [.int i, .int j] = some (.int (max i j)) := by
  show some (D.int (if j > i then j else i)) = _
  congr 2
  split <;> omega
@[simp] theorem min_int (i j : Int) : bMin S [.int i, .int j] = some (.int (min i j)) := by
  show some (D.int (if j < i then j else i)) = _
  congr 2
  split <;> omega
@[simp] theorem int_int (i : Int) : bInt S [.int i] = some (.int i) := id rfl
@[simp] theorem int_bl (b : Bool) : bInt S [.bl b] = some (.int (if b = true then 1 else 0)) := by cases b <;> rfl
theorem min_view {r : Nat} {xs : List Int} (h : S[r]? = some (.lst (xs.map .int))) : bMin S [.obj r] = (minL xs).map .int := by
  have v : view S (.obj r) = Lo .int xs := by simp [view, h, Ob.val]; rfl
  show (match (match view S (.obj r) with | .lst xs => intsD xs | _ => none) with | some (y :: r) => some (D.int (minI r y)) | _ => none) = _
  rw [v]
  exact min_Lo (S := S) xs
theorem mod_int {a b : Int} (h : 0 < b) : oMod S (.int a) (.int b) = some (.int (a % b)) := by
  show (if b ≠ 0 then some (D.int (a.fmod b)) else none) = _
  rw [if_pos (by omega), Int.fmod_eq_emod_of_nonneg a (by omega)]
theorem div_int {a b : Int} (h : 0 < b) (h2 : b < 1073741824) : oDiv S (.int a) (.int b) = some (.int (a / b)) := by
  show (if b ≠ 0 ∧ b.natAbs < 1073741824 then some (D.int (a.fdiv b)) else none) = _
  rw [if_pos ⟨by omega, by omega⟩, Int.fdiv_eq_ediv_of_nonneg a (by omega)]
theorem mul_int {a b : Int} (h : (-big < a ∧ a < big) ∨ (-big < b ∧ b < big)) : oMul S (.int a) (.int b) = some (.int (a * b)) := by
  show (if _ then _ else _) = _
  rw [if_pos h]
/-! sorting -/
def insW (le : α → α → Bool) (x : α) : List α → List α
  | [] => [x]
  | y :: r => if le x y = true then x :: y :: r else y :: insW le x r
def srt (le : α → α → Bool) : List α → List α
  | [] => []
  | x :: r => insW le x (srt le r)
theorem insB_srt {le : D → D → Bool} (x : α) : ∀ l : List α, insB le (f x) (l.map f) = (insW (fun a b => le (f a) (f b)) x l).map f
  | [] => rfl
  | y :: r => by
    simp only [List.map_cons, insB, insW, insB_srt x r]
    split <;> rfl
theorem sortB_srt {le : D → D → Bool} : ∀ l : List α, sortB le (l.map f) = (srt (fun a b => le (f a) (f b)) l).map f
  | [] => rfl
  | x :: r => by
    show insB le (f x) (sortB le (r.map f)) = _
    rw [sortB_srt r, insB_srt]; rfl
theorem insK_srt {kf : α → D} (x : α) : ∀ l : List α, insK (kf x, f x) (l.map fun a => (kf a, f a)) = (insW (fun a b => leR false (kf a) (kf b)) x l).map fun a => (kf a, f a)
  | [] => rfl
  | y :: r => by
    simp only [List.map_cons, insK, insW, insK_srt x r]
    split <;> rfl
theorem sortK_srt {kf : α → D} : ∀ l : List α, sortK (l.map fun a => (kf a, f a)) = (srt (fun a b => leR false (kf a) (kf b)) l).map fun a => (kf a, f a)
  | [] => rfl
  | x :: r => by
    show insK (kf x, f x) (sortK (r.map fun a => (kf a, f a))) = _
    rw [sortK_srt r, insK_srt]; rfl
theorem insW_perm {le : α → α → Bool} (x : α) : ∀ l : List α, (insW le x l).Perm (x :: l)
  | [] => .refl _
  | y :: r => by
    show (if le x y = true then x :: y :: r else y :: insW le x r).Perm _
    split
    · exact .refl _
    · exact ((insW_perm x r).cons y).trans (.swap x y r)
theorem srt_perm {le : α → α → Bool} : ∀ l : List α, (srt le l).Perm l
  | [] => .refl _
  | x :: r => (insW_perm x _).trans ((srt_perm r).cons x)
theorem srt_mem {le : α → α → Bool} {x : α} {l : List α} : x ∈ srt le l ↔ x ∈ l := (srt_perm l).mem_iff
theorem srt_len {le : α → α → Bool} (l : List α) : (srt le l).length = l.length := (srt_perm l).length_eq
/-- a total order that is used to sort -/
structure TotL (le : α → α → Bool) : Prop where
  tr : ∀ a b c, le a b = true → le b c = true → le a c = true
  to : ∀ a b, le a b = true ∨ le b a = true
theorem totR {rev : Bool} {kf : α → D} : TotL fun a b => leR rev (kf a) (kf b) := ⟨fun _ _ _ h1 h2 => leR_trans _ _ _ h1 h2, fun _ _ => leR_total _ _⟩
def OrdW (le : α → α → Bool) (l : List α) : Prop := l.Pairwise fun a b => le a b = true
theorem insW_ord {le : α → α → Bool} (T : TotL le) {x : α} : ∀ {l : List α}, OrdW le l → OrdW le (insW le x l)
  | [], _ => List.pairwise_singleton _ _
  | y :: r, h => by
    have h' := List.pairwise_cons.mp h
    show OrdW le (if le x y = true then x :: y :: r else y :: insW le x r)
    split
    · rename_i hx
      exact List.pairwise_cons.mpr ⟨fun z hz => by
        rcases List.mem_cons.mp hz with q | q
        · rw [q]; exact hx
        · exact T.tr x y z hx (h'.1 z q), h⟩
    · rename_i hx
      have hy : le y x = true := (T.to x y).resolve_left hx
      exact List.pairwise_cons.mpr ⟨fun z hz => by
        rcases List.mem_cons.mp ((insW_perm x r).mem_iff.mp hz) with q | q
        · rw [q]; exact hy
        · exact h'.1 z q, insW_ord T h'.2⟩
theorem srt_ord {le : α → α → Bool} (T : TotL le) : ∀ l : List α, OrdW le (srt le l)
  | [] => List.Pairwise.nil
  | x :: r => insW_ord T (srt_ord T r)
theorem insW_front {le : α → α → Bool} {x : α} : ∀ {l : List α}, (∀ z ∈ l, le x z = true) → insW le x l = x :: l
  | [], _ => rfl
  | y :: r, h => by show (if _ then _ else _) = _; rw [if_pos (h y List.mem_cons_self)]
/-- what is in order stays -/
theorem srt_id {le : α → α → Bool} : ∀ {l : List α}, OrdW le l → srt le l = l
  | [], _ => rfl
  | x :: r, h => by
    have h' := List.pairwise_cons.mp h
    show insW le x (srt le r) = _
    rw [srt_id h'.2, insW_front h'.1]
theorem insW_filter {le : α → α → Bool} (T : TotL le) {x : α} (p : α → Bool) : ∀ {l : List α}, OrdW le l → (insW le x l).filter p = if p x = true then insW le x (l.filter p) else l.filter p
  | [], _ => by
    show [x].filter p = _
    cases h : p x <;> simp [h, insW]
  | y :: r, h => by
    have h' := List.pairwise_cons.mp h
    by_cases hx : le x y = true
    · have e : insW le x (y :: r) = x :: y :: r := by show (if _ then _ else _) = _; rw [if_pos hx]
      rw [e]
      have f : insW le x ((y :: r).filter p) = x :: (y :: r).filter p := insW_front fun z hz => by
        rcases List.mem_cons.mp (List.mem_filter.mp hz).1 with q | q
        · rw [q]; exact hx
        · exact T.tr x y z hx (h'.1 z q)
      rw [f]
      cases hp : p x <;> simp [List.filter_cons, hp]
    · have e : insW le x (y :: r) = y :: insW le x r := by show (if _ then _ else _) = _; rw [if_neg hx]
      rw [e, List.filter_cons, insW_filter T p h'.2, List.filter_cons]
      cases hy : p y
      · simp
      · cases hp : p x
        · simp
        · simp only [if_true]
          show _ = (if le x y = true then _ else _)
          rw [if_neg hx]
theorem srt_filter {le : α → α → Bool} (T : TotL le) (p : α → Bool) : ∀ l : List α, srt le (l.filter p) = (srt le l).filter p
  | [] => rfl
  | x :: r => by
    show _ = (insW le x (srt le r)).filter p
    rw [insW_filter T p (srt_ord T r), ← srt_filter T p r, List.filter_cons]
    cases hp : p x <;> simp [srt]
theorem srt_congr {le le' : α → α → Bool} (h : ∀ a b, le a b = le' a b) (l : List α) : srt le l = srt le' l := by
  have : le = le' := by funext a b; exact h a b
  rw [this]
theorem leR_int (a b : Int) : leR false (.int a) (.int b) = decide (a ≤ b) := by
  simp only [leR, ltD, tokD, lexT, ltTok]
  by_cases h : a ≤ b
  · have : ¬ b < a := by omega
    simp [h, this]
  · have : b < a := by omega
    simp [h, this]
theorem leR_ii (a b c d : Int) : leR false (.tup [.int a, .int b]) (.tup [.int c, .int d]) = decide (a < c ∨ (a = c ∧ b ≤ d)) := by
  simp only [leR, ltD, tokD, tokL, lexT, ltTok, List.cons_append, List.nil_append, Bool.false_eq_true, if_false]
  by_cases h1 : c < a <;> by_cases h2 : a < c <;> by_cases h3 : d < b <;> by_cases h4 : b < d <;> simp [h1, h2, h3, h4] <;> omega
theorem ltD_ii (a b c d : Int) : ltD (.tup [.int a, .int b]) (.tup [.int c, .int d]) = decide (a < c ∨ (a = c ∧ b < d)) := by
  have h := leR_ii c d a b
  unfold leR at h
  simp only [Bool.false_eq_true, if_false] at h
  have h2 : ltD (.tup [.int a, .int b]) (.tup [.int c, .int d]) = !(decide (c < a ∨ (c = a ∧ d ≤ b))) := by rw [← h, Bool.not_not]
  rw [h2]
  by_cases h1 : c < a <;> by_cases h2 : a < c <;> by_cases h3 : d ≤ b <;> by_cases h4 : b < d <;> simp [h1, h2, h3, h4] <;> omega
def srtI : List Int → List Int := srt fun a b => decide (a ≤ b)
theorem totI : TotL fun a b : Int => decide (a ≤ b) := ⟨fun a b c h1 h2 => by simp at *; omega, fun a b => by simp; omega⟩
theorem okSort_ints {xs : List Int} (h : xs.length ≤ 100000) : okSort (xs.map .int) = true := by
  unfold okSort
  simp only [Bool.and_eq_true, Bool.or_eq_true, List.all_map, List.all_eq_true, decide_eq_true_eq]
  exact ⟨fun x _ => List.all_eq_true.mpr fun y _ => rfl, .inr fun x _ => rfl, fun x _ => rfl, by simpa using h⟩
theorem sorted_Lo {xs : List Int} (h : xs.length ≤ 100000) : bSorted S [Lo .int xs] = some (Lo .int (srtI xs)) := by
  show (if okSort (xs.map .int) = true then some (D.lst (sortB (leR false) (xs.map .int))) else none) = _
  rw [if_pos (okSort_ints h), sortB_srt]
  show _ = some (D.lst ((srtI xs).map .int))
  unfold srtI
  rw [srt_congr leR_int]
theorem sorted_To {xs : List Int} (h : xs.length ≤ 100000) : bSorted S [To .int xs] = some (Lo .int (srtI xs)) := by
  show (if okSort (xs.map .int) = true then some (D.lst (sortB (leR false) (xs.map .int))) else none) = _
  rw [if_pos (okSort_ints h), sortB_srt]
  show _ = some (D.lst ((srtI xs).map .int))
  unfold srtI
  rw [srt_congr leR_int]
/-! dict([(x, 1) ..]) -/
theorem hasK_map {κ : Type} [DecidableEq κ] {g : α → κ} {v : α → D} (k : κ) : ∀ l : List α, hasK k (l.map fun x => (g x, v x)) = decide (k ∈ l.map g)
  | [] => by simp [hasK]
  | x :: r => by
    simp only [List.map_cons, hasK, hasK_map k r, List.mem_cons]
    by_cases h : g x = k
    · simp [h]
    · have : k ≠ g x := fun e => h e.symm
      simp [h, this]
theorem merge_map {κ : Type} [DecidableEq κ] : ∀ (xs acc : List (κ × D)), ((acc ++ xs).map (·.1)).Nodup → xs.foldl (fun acc p => putK p.1 p.2 acc) acc = acc ++ xs
  | [], acc, _ => by simp
  | x :: xs, acc, h => by
    have hx : hasK x.1 acc = false := by
      have e := hasK_map (g := fun p : κ × D => p.1) (v := fun p => p.2) x.1 acc
      have e2 : (acc.map fun p : κ × D => (p.1, p.2)) = acc := by simp
      rw [e2] at e
      rw [e, decide_eq_false_iff_not]
      intro hm
      rw [List.map_append, List.map_cons] at h
      have := (List.nodup_append.mp h).2.2 x.1 hm x.1 List.mem_cons_self
      exact this rfl
    have hp : putK x.1 x.2 acc = acc ++ [x] := by unfold putK; rw [hx]; rfl
    show xs.foldl _ (putK x.1 x.2 acc) = _
    rw [hp, merge_map xs (acc ++ [x]) (by simpa using h)]
    simp
theorem mergeK_nodup {xs : List (K1 × D)} (h : (xs.map (·.1)).Nodup) : mergeK [] xs = xs := merge_map xs [] h
theorem pairsD_ints {v : Int → D} : ∀ xs : List Int, pairsD (xs.map fun x => .tup [.int x, v x]) = some (xs.map fun x => (.i x, v x))
  | [] => rfl
  | x :: xs => by
    show (match keyD (.int x), pairsD (xs.map fun x => .tup [.int x, v x]) with | some k, some l => some ((k, v x) :: l) | _, _ => none) = _
    rw [pairsD_ints xs]; rfl
/-- pairs of numbers -/
def p2 (p : Int × Int) : D := .tup [.int p.1, .int p.2]
instance : EqF p2 where
  dat := fun _ => rfl
  eq := fun x y => by
    simp only [p2, eqD, eqL, Bool.and_true, Bool.beq_eq_decide_eq]
    by_cases h1 : x.1 = y.1 <;> by_cases h2 : x.2 = y.2 <;> simp [h1, h2, Prod.ext_iff]
def le2 (a b : Int × Int) : Bool := decide (a.1 < b.1 ∨ (a.1 = b.1 ∧ a.2 ≤ b.2))
theorem leR_p2 (a b : Int × Int) : leR false (p2 a) (p2 b) = le2 a b := leR_ii a.1 a.2 b.1 b.2
theorem tot2 : TotL le2 := ⟨fun a b c h1 h2 => by simp [le2] at *; omega, fun a b => by simp [le2]; omega⟩
theorem okSort_pairs {xs : List (Int × Int)} (h : xs.length ≤ 100000) : okSort (xs.map p2) = true := by
  unfold okSort
  simp only [Bool.and_eq_true, Bool.or_eq_true, List.all_map, List.all_eq_true, decide_eq_true_eq]
  exact ⟨fun x _ => List.all_eq_true.mpr fun y _ => rfl, .inl fun x _ => rfl, fun x _ => rfl, by simpa using h⟩
theorem sorted_pairs {xs : List (Int × Int)} (h : xs.length ≤ 100000) : bSorted S [Lo p2 xs] = some (Lo p2 (srt le2 xs)) := by
  show (if okSort (xs.map p2) = true then some (D.lst (sortB (leR false) (xs.map p2))) else none) = _
  rw [if_pos (okSort_pairs h), sortB_srt]
  show _ = some (D.lst ((srt le2 xs).map p2))
  rw [srt_congr leR_p2]
/-! keys -/
theorem okKeys_pairs {xs : List α} {k : α → Int × Int} {g : α → D} (h : xs.length ≤ 100000) : okKeys (xs.map fun x => (p2 (k x), g x)) = true := by
  unfold okKeys
  rw [List.map_map, Bool.and_eq_true]
  refine ⟨?_, ?_⟩
  · have := okSort_pairs (xs := xs.map k) (by rw [List.length_map]; exact h)
    rw [List.map_map] at this
    exact this
  · rw [List.all_map, List.all_eq_true]
    intro x _
    simp [p2, noLst, noLstL]
theorem keysG_map {i : Nat} {m : ME} {kf : α → D} : ∀ {xs : List α}, (∀ x ∈ xs, ∃ S', m (e.set i (some (f x))) S = .ok (kf x) S') → keysG i m e S (xs.map f) = some (xs.map fun x => (kf x, f x))
  | [], _ => rfl
  | x :: xs, h => by
    obtain ⟨S', hx⟩ := h x List.mem_cons_self
    simp only [List.map_cons, keysG, hx, keysG_map fun y hy => h y (List.mem_cons_of_mem _ hy)]
    rfl
theorem keyed_map {i : Nat} {m : ME} {d : D} {xs : List α} (k : α → Int × Int) (hd : walkD S d = some (xs.map f)) (hl : xs.length ≤ 100000) (h : ∀ x ∈ xs, ∃ S', m (e.set i (some (f x))) S = .ok (p2 (k x)) S') : keyed i m e S d = some (xs.map fun x => (p2 (k x), f x)) := by
  unfold keyed
  rw [hd]
  show ((keysG i m e S (xs.map f)).bind fun ps => if okKeys ps = true then some ps else none) = _
  rw [keysG_map h]
  show (if okKeys _ = true then _ else _) = _
  rw [if_pos (okKeys_pairs hl)]
theorem walkD_Lo (xs : List α) : walkD S (Lo f xs) = some (xs.map f) := rfl
theorem walkD_To (xs : List α) : walkD S (To f xs) = some (xs.map f) := rfl
/-- sorted by key, in typed terms -/
theorem sortK_pairs {k : α → Int × Int} (xs : List α) : (sortK (xs.map fun x => (p2 (k x), f x))).map (fun p => p.2) = (srt (fun a b => le2 (k a) (k b)) xs).map f := by
  rw [sortK_srt, List.map_map]
  rw [srt_congr fun a b => leR_p2 (k a) (k b)]
  rfl
theorem sortK_Lo {k : α → Int × Int} (xs : List α) : Lo (fun p : D × D => p.2) (sortK (xs.map fun x => (p2 (k x), f x))) = Lo f (srt (fun a b => le2 (k a) (k b)) xs) := by
  show D.lst _ = D.lst _
  rw [sortK_pairs]
/-- the first least of a row: the head of the sorted row -/
theorem minK_head : ∀ (r : List (D × D)) (b : D × D), (sortK (b :: r)).head? = some (minK r b)
  | [], b => rfl
  | q :: r, b => by
    have hd : ∀ (x : D × D) (l : List (D × D)), (insK x l).head? = some (match l.head? with | none => x | some y => if leR false x.1 y.1 = true then x else y) := fun x l => by
      cases l with
      | nil => rfl
      | cons y t =>
        show (if leR false x.1 y.1 = true then x :: y :: t else y :: insK x t).head? = _
        split <;> simp_all
    have ih1 := minK_head r q
    have ih2 := minK_head r b
    have e1 : sortK (b :: q :: r) = insK b (insK q (sortK r)) := rfl
    have e2 : sortK (q :: r) = insK q (sortK r) := rfl
    have e3 : sortK (b :: r) = insK b (sortK r) := rfl
    rw [e2] at ih1
    rw [e3] at ih2
    rw [e1, hd, ih1]
    show some (if leR false b.1 (minK r q).1 = true then b else minK r q) = some (minK r (if ltD q.1 b.1 = true then q else b))
    rw [hd] at ih1 ih2
    have nlt : leR false b.1 q.1 = !ltD q.1 b.1 := rfl
    by_cases hq : ltD q.1 b.1 = true
    · rw [if_pos hq]
      have hbq : ¬ leR false b.1 q.1 = true := by rw [nlt, hq]; decide
      have hle : leR false (minK r q).1 q.1 = true := by
        cases hs : (sortK r).head? with
        | none =>
          rw [hs] at ih1
          simp only [Option.some.injEq] at ih1
          rw [← ih1]
          exact (leR_total q.1 q.1).elim id id
        | some y =>
          rw [hs] at ih1
          simp only [Option.some.injEq] at ih1
          rw [← ih1]
          split
          · exact (leR_total q.1 q.1).elim id id
          · rename_i h; exact (leR_total q.1 y.1).resolve_left h
      rw [if_neg fun h => hbq (leR_trans _ _ _ h hle)]
    · rw [if_neg hq]
      have hbq : leR false b.1 q.1 = true := by rw [nlt]; simp [hq]
      cases hs : (sortK r).head? with
      | none =>
        rw [hs] at ih1 ih2
        simp only [Option.some.injEq] at ih1 ih2
        rw [← ih1, ← ih2, if_pos hbq]
      | some y =>
        rw [hs] at ih1 ih2
        simp only [Option.some.injEq] at ih1 ih2
        rw [← ih1, ← ih2]
        by_cases hqy : leR false q.1 y.1 = true
        · rw [if_pos hqy, if_pos hbq, if_pos (leR_trans _ _ _ hbq hqy)]
        · rw [if_neg hqy]
theorem minKey_pairs {k : α → Int × Int} (x : α) (xs : List α) : (minK (xs.map fun x => (p2 (k x), f x)) (p2 (k x), f x)).2 = f ((srt (fun a b => le2 (k a) (k b)) (x :: xs)).headD x) := by
  have h := minK_head (xs.map fun x => (p2 (k x), f x)) (p2 (k x), f x)
  have e := sortK_srt (f := f) (kf := fun a => p2 (k a)) (x :: xs)
  rw [List.map_cons] at e
  rw [e, srt_congr fun a b => leR_p2 (k a) (k b)] at h
  cases hs : srt (fun a b => le2 (k a) (k b)) (x :: xs) with
  | nil => rw [hs] at h; simp at h
  | cons y t =>
    rw [hs] at h
    simp only [List.map_cons, List.head?_cons, Option.some.injEq] at h
    rw [← h]
    rfl
end
/-! ### the dice, and what stands beside it -/
/-- only the dice may have changed; things may have been added -/
structure Dc (S S' : Store) : Prop where
  len : S.length ≤ S'.length
  old : ∀ r, r < S.length → r ≠ 1 → S'[r]? = S[r]?
  dice : ∃ a b c, S'[1]? = some (tri a b c)
theorem Dc.trans {S S1 S2 : Store} (x : Dc S S1) (y : Dc S1 S2) : Dc S S2 := ⟨Nat.le_trans x.len y.len, fun r h1 h2 => by rw [y.old r (Nat.lt_of_lt_of_le h1 x.len) h2, x.old r h1 h2], y.dice⟩
theorem Dc.at_ {S S' : Store} {r : Nat} {o : Ob} (x : Dc S S') (h : S[r]? = some o) (hr : r ≠ 1) : S'[r]? = some o := by rw [x.old r (lt_at h) hr, h]
theorem Dc.refl {S : Store} (h : ∃ a b c, S[1]? = some (tri a b c)) : Dc S S := ⟨Nat.le_refl _, fun _ _ _ => rfl, h⟩
def Dice (S : Store) : Prop := ∃ a b c, S[1]? = some (tri a b c)
theorem Dc.app {S : Store} {l : Store} (h : Dice S) : Dc S (S ++ l) := by
  obtain ⟨a, b, c, h⟩ := h
  exact ⟨by simp, fun r hr _ => List.getElem?_append_left hr, a, b, c, by rw [ap_old (by rw [h]; rfl), h]⟩
theorem roll_wpD {β : Type} {Q : β → Store → Prop} {S : Store} {many : Int} {f : D → Store → Out β} (h : Dice S) (h1 : 1 ≤ many) (h2 : many < 1000000) (k : ∀ v S', 0 ≤ v → v < many → Dc S S' → okW Q (f (.int v) S')) : okW Q ((m_law_roll [.obj 1, .int many] S).bnd f) := by
  obtain ⟨a, b, c, h⟩ := h
  exact roll_wp h h1 h2 fun v a' b' c' v0 v1 => k v _ v0 v1 ⟨by simp, fun r hr hn => set_ne (fun e => hn e.symm), a', b', c', set_at (by rw [h]; rfl)⟩
theorem roll_wpD0 {Q : D → Store → Prop} {S : Store} {many : Int} (h : Dice S) (h1 : 1 ≤ many) (h2 : many < 1000000) (k : ∀ v S', 0 ≤ v → v < many → Dc S S' → Q (.int v) S') : okW Q (m_law_roll [.obj 1, .int many] S) := by
  obtain ⟨a, b, c, h⟩ := h
  obtain ⟨v, a', b', c', e, h3, h4⟩ := roll_ok h h1 h2
  rw [e]
  exact k v _ h3 h4 ⟨by simp, fun r hr hn => set_ne (fun e => hn e.symm), a', b', c', set_at (by rw [h]; rfl)⟩
/-- a comprehension of things that are rolled -/
theorem lc_rollsD {β α : Type} {Q : β → Store → Prop} {h : α → D} {R : α → Prop} {slot : Nat} {m : ME} {e : Env} {xs : List D} {S : Store} {f : List D → Store → Out β} (h0 : Dice S)
    (hm : ∀ x S, Dice S → okW (fun y S' => Dc S S' ∧ ∃ a, y = h a ∧ R a) (m (e.set slot (some x)) S)) (k : ∀ (l : List α) S', l.length = xs.length → (∀ a ∈ l, R a) → Dc S S' → okW Q (f (l.map h) S')) : okW Q ((lcL (gN slot) tYes m e xs S []).bnd f) := by
  refine okW_bind (okW_mono (lcL_wp (fun S' => Dc S S') (fun y => ∃ a, y = h a ∧ R a) xs [] S (Dc.refl h0) fun x _ S1 hS => ?_) fun ys S' ⟨h1, l, h2, h3, h4⟩ => ?_)
  · exact okW_mono (hm x S1 hS.dice) fun y S2 ⟨h1, h2⟩ => ⟨hS.trans h1, h2⟩
  · have : ∀ l : List D, (∀ y ∈ l, ∃ a, y = h a ∧ R a) → ∃ as : List α, l = as.map h ∧ as.length = l.length ∧ ∀ a ∈ as, R a := fun l => by
      induction l with
      | nil => exact fun _ => ⟨[], rfl, rfl, fun a h => nomatch h⟩
      | cons y l ih =>
        intro hl
        obtain ⟨a, rfl, ha⟩ := hl y List.mem_cons_self
        obtain ⟨as, rfl, h5, h6⟩ := ih fun z hz => hl z (List.mem_cons_of_mem _ hz)
        exact ⟨a :: as, rfl, by simp, fun b hb => (List.mem_cons.mp hb).elim (fun q => by rw [q]; exact ha) (h6 b)⟩
    obtain ⟨as, e1, e2, e3⟩ := this l h4
    rw [h2, e1]
    exact k as S' (by rw [e2, h3]) e3 h1
/-- [_law_roll(dice, n) for ..] -/
theorem lc_rollsI {β : Type} {Q : β → Store → Prop} {slot d : Nat} {n : Int} {e : Env} {xs : List D} {S : Store} {f : List D → Store → Out β} (h0 : Dice S) (hd : e[d]? = some (some (.obj 1))) (hs : slot ≠ d) (h1 : 1 ≤ n) (h2 : n < 1000000)
    (k : ∀ (l : List Int) S', l.length = xs.length → (∀ a ∈ l, 0 ≤ a ∧ a < n) → Dc S S' → okW Q (f (l.map .int) S')) : okW Q ((lcL (gN slot) tYes (eCall m_law_roll (aCons (eV d) (aCons (eC (.int n)) aNil))) e xs S []).bnd f) :=
  lc_rollsD h0 (fun x S1 h => by
    have : (e.set slot (some x))[d]? = some (some (.obj 1)) := by rw [List.getElem?_set_ne hs]; exact hd
    simp [this]
    exact roll_wpD0 h h1 h2 fun v S' v0 v1 dc => ⟨dc, v, rfl, v0, v1⟩) k
/-- [_law_roll(dice, n) for .. in range(_law_roll(dice, m))] -/
theorem lc_rollsN {β : Type} {Q : β → Store → Prop} {slot d : Nat} {m n : Int} {e : Env} {S : Store} {f : D → Store → Out β} (h0 : Dice S) (hd : e[d]? = some (some (.obj 1))) (hs : slot ≠ d) (m1 : 1 ≤ m) (m2 : m < 1000) (h1 : 1 ≤ n) (h2 : n < 1000000)
    (k : ∀ (l : List Int) S', (l.length : Int) < m → (∀ a ∈ l, 0 ≤ a ∧ a < n) → Dc S S' → okW Q (f (Lo .int l) S')) : okW Q ((eLC [slot] (iRange1 (aCons (eCall m_law_roll (aCons (eV d) (aCons (eC (.int m)) aNil))) aNil)) (gN slot) tYes (eCall m_law_roll (aCons (eV d) (aCons (eC (.int n)) aNil))) e S).bnd f) := by
  simp [hd]
  refine roll_wpD h0 m1 (by omega) fun v S1 v0 v1 d1 => ?_
  have b1 : -1000000 ≤ v ∧ v ≤ 1000000 := by omega
  have b2 : ¬ 100000 < v.toNat := by omega
  simp [b1, rangeL_lenP, b2]
  refine lc_rollsI d1.dice (by rw [List.getElem?_set_ne hs]; exact hd) hs h1 h2 fun l S2 hl hr d2 => ?_
  simp
  refine k l S2 ?_ hr (d1.trans d2)
  rw [hl, rangeL_lenP]
  omega
/-- .. in range(1 + _law_roll(dice, m)) -/
theorem lc_rollsN1 {β : Type} {Q : β → Store → Prop} {slot d : Nat} {m n : Int} {e : Env} {S : Store} {f : D → Store → Out β} (h0 : Dice S) (hd : e[d]? = some (some (.obj 1))) (hs : slot ≠ d) (m1 : 1 ≤ m) (m2 : m < 1000) (h1 : 1 ≤ n) (h2 : n < 1000000)
    (k : ∀ (l : List Int) S', 0 < l.length → (l.length : Int) ≤ m → (∀ a ∈ l, 0 ≤ a ∧ a < n) → Dc S S' → okW Q (f (Lo .int l) S')) : okW Q ((eLC [slot] (iRange1 (aCons (eOp oAdd (eC (.int 1)) (eCall m_law_roll (aCons (eV d) (aCons (eC (.int m)) aNil)))) aNil)) (gN slot) tYes (eCall m_law_roll (aCons (eV d) (aCons (eC (.int n)) aNil))) e S).bnd f) := by
  simp [hd]
  refine roll_wpD h0 m1 (by omega) fun v S1 v0 v1 d1 => ?_
  have b1 : -1000000 ≤ 1 + v ∧ 1 + v ≤ 1000000 := by omega
  have b2 : ¬ 100000 < (1 + v).toNat := by omega
  simp [b1, rangeL_lenP, b2]
  refine lc_rollsI d1.dice (by rw [List.getElem?_set_ne hs]; exact hd) hs h1 h2 fun l S2 hl hr d2 => ?_
  simp
  refine k l S2 ?_ ?_ hr (d1.trans d2)
  · rw [hl, rangeL_lenP]; omega
  · rw [hl, rangeL_lenP]; omega
@[simp] theorem fold_lst {α : Type} {f : α → D} (xs : List α) : D.lst (xs.map f) = Lo f xs := id rfl
@[simp] theorem fold_tup {α : Type} {f : α → D} (xs : List α) : D.tup (xs.map f) = To f xs := id rfl
end Sm
end

section
set_option linter.all false
set_option autoImplicit false
set_option maxRecDepth 100000
set_option maxHeartbeats 4000000
namespace Sm
/-! ### steps of a statement -/
theorem okW_mk {α : Type} {Q : α → Store → Prop} {o : Out α} {a : α} {S : Store} (h : o = .ok a S) (q : Q a S) : okW Q o := by rw [h]; exact q
theorem okW_seq {Q : Fl → Store → Prop} {a b : MS} {e : Env} {S : Store} (R : Env → Store → Prop) (h : okW (fun fl S' => ∃ e', fl = .nx e' ∧ R e' S') (a e S)) (k : ∀ e' S', R e' S' → okW Q (b e' S')) : okW Q (sSeq a b e S) := by
  obtain ⟨fl, S', h1, e', rfl, h2⟩ := okW_ex h
  show okW Q ((a e S).bnd _)
  rw [h1]
  exact k e' S' h2
theorem okW_nx {Q : Fl → Store → Prop} {a b : MS} {e e' : Env} {S S' : Store} (h : a e S = .ok (.nx e') S') (k : okW Q (b e' S')) : okW Q (sSeq a b e S) := by
  show okW Q ((a e S).bnd _)
  rw [h]
  exact k
theorem seq_assoc {a b c : MS} : sSeq (sSeq a b) c = sSeq a (sSeq b c) := by
  funext e S
  show ((a e S).bnd _).bnd _ = (a e S).bnd _
  cases a e S with
  | ok fl S1 => cases fl <;> rfl
  | exc c S => rfl
  | bad => rfl
/-- a comprehension of a walk's items that a test with effects picks -/
theorem lcT_wp {slot : Nat} {t : MB} {e : Env} (I : Store → Prop) (hs : slot < e.length) : ∀ (xs : List Int) (acc : List D) (S : Store), I S → (∀ x ∈ xs, ∀ S, I S → okW (fun _ S' => I S') (t (e.set slot (some (.int x))) S)) → okW (fun ys S' => I S' ∧ ∃ l : List Int, ys = acc ++ l.map .int ∧ l.Sublist xs) (lcL (gN slot) t (eV slot) e (xs.map .int) S acc)
  | [], acc, S, h0, _ => ⟨h0, [], by simp, List.Sublist.refl _⟩
  | x :: xs, acc, S, h0, hI => by
    obtain ⟨b, S', h1, h2⟩ := okW_ex (hI x List.mem_cons_self S h0)
    have ih := fun acc => lcT_wp I hs xs acc S' h2 fun z hz => hI z (List.mem_cons_of_mem _ hz)
    show okW _ (match t (e.set slot (some (.int x))) S with | .ok true S1 => _ | .ok false S1 => _ | _ => _)
    rw [h1]
    cases b with
    | false => exact okW_mono (ih acc) fun ys S2 ⟨h3, l, h4, h5⟩ => ⟨h3, l, h4, h5.cons x⟩
    | true =>
      have e1 : eV slot (e.set slot (some (.int x))) S' = .ok (.int x) S' := by simp [List.getElem?_set_self hs]
      show okW _ (match eV slot (e.set slot (some (.int x))) S' with | .ok y S2 => lcL (gN slot) t (eV slot) e (xs.map .int) S2 (acc ++ [y]) | _ => .bad)
      rw [e1]
      exact okW_mono (ih (acc ++ [.int x])) fun ys S2 ⟨h3, l, h4, h5⟩ => ⟨h3, x :: l, by rw [h4]; simp, h5.cons_cons x⟩
section
variable {e : Env} {S : Store}
@[simp ↓] theorem ev_gSubL (o i : ME) (x : D) : gSubL o i x e S = (o e S).bnd fun v S1 => (i e S1).bnd fun k S2 => match lstAt S2 v with
  | some (r, xs) => match k with
    | .int z => match ixZ xs.length z with
      | some j => .ok e (S2.set r (.lst (xs.set j x)))
      | none => .bad
    | _ => .bad
  | none => .bad := id rfl
@[simp ↓] theorem ev_subaug (f : Store → D → D → Option D) (o i v : ME) : sSubAug f o i v e S = (o e S).bnd fun x S1 => (i e S1).bnd fun k S2 => match k with
  | .int z => if 0 ≤ z then match lstAt S2 x with
    | some (_, xs) => match xs[z.toNat]? with
      | some y => (v e S2).bnd fun w S3 => match f S3 y w with
        | some n => match lstAt S3 x with
          | some (r, ys) => if z < (ys.length : Int) then .ok (.nx e) (S3.set r (.lst (ys.set z.toNat n))) else .bad
          | none => .bad
        | none => .bad
      | none => .bad
    | none => .bad
    else .bad
  | _ => .bad := id rfl
@[simp ↓] theorem ev_lmul (a b : ME) : eLMul a b e S = (a e S).bnd fun x S1 => (b e S1).bnd fun y S2 => match viewM S2 x, y with
  | .lst xs, .int n => if -1000 < n ∧ n < 1000 ∧ xs.length ≤ 1000 then .ok (.obj S2.length) (S2 ++ [.lst ((List.replicate n.toNat xs).flatten)]) else .bad
  | _, _ => .bad := id rfl
/-! ### places of lists of ints -/
def gI (xs : List Int) (v : Int) : Int := xs.getD v.toNat 0
theorem atZ_gI {xs : List Int} {v : Int} (h0 : 0 ≤ v) (h1 : v < (xs.length : Int)) : atZ xs v = some (gI xs v) := by
  have : v.toNat < xs.length := by omega
  simp [atZ, ixZ, h0, h1, gI, this]
theorem at_gI {xs : List Int} {v : Int} (h0 : 0 ≤ v) (h1 : v < (xs.length : Int)) : xs[v.toNat]? = some (gI xs v) := by
  have : v.toNat < xs.length := by omega
  simp [gI, this]
theorem ixZ_in {n : Nat} {v : Int} (h0 : 0 ≤ v) (h1 : v < (n : Int)) : ixZ n v = some v.toNat := by simp [ixZ, h0, h1]
theorem ix_root {r : Nat} {xs : List Int} (h : S[r]? = some (.lst (xs.map .int))) (v : Int) : oIx S (.obj r) (.int v) = (atZ xs v).map .int := by
  have : view S (.obj r) = .lst (xs.map .int) := by simp only [view, h]; rfl
  unfold oIx
  rw [this]
  exact atZ_map xs v
theorem view_root {r : Nat} {xs : List D} (h : S[r]? = some (.lst xs)) : view S (.obj r) = .lst xs := by simp only [view, h]; rfl
theorem seq_To {α : Type} {f : α → D} (xs : List α) : seqD S (To f xs) = some (xs.map f) := rfl
theorem seq_Lo {α : Type} {f : α → D} (xs : List α) : seqD S (Lo f xs) = some (xs.map f) := rfl
theorem tup_root {r : Nat} {α : Type} {f : α → D} {xs : List α} (h : S[r]? = some (.lst (xs.map f))) : bTuple S [.obj r] = some (To f xs) := by
  show (seqD S (.obj r)).map D.tup = _
  unfold seqD
  rw [view_root h]; rfl
theorem len_root {r : Nat} {α : Type} {f : α → D} {xs : List α} (h : S[r]? = some (.lst (xs.map f))) : bLen S [.obj r] = some (.int xs.length) := by
  rw [len_view (view_root h), List.length_map]
theorem fits_bd : ∀ (ns : List Int) (a : Int), (∀ n ∈ ns, 0 ≤ n ∧ n ≤ 1000000) → 0 ≤ a → a + ns.length * 1000000 < 1000000000000000 → fitsL a ns = true
  | [], _, _, _, _ => rfl
  | n :: r, a, h, h0, h1 => by
    have hn := h n List.mem_cons_self
    rw [List.length_cons] at h1
    have := fits_bd r (a + n) (fun x hx => h x (List.mem_cons_of_mem _ hx)) (by omega) (by omega)
    unfold fitsL
    rw [this, Bool.and_true]
    exact decide_eq_true (by omega)
theorem ixK_To {xs : List Int} {v : Int} (h0 : 0 ≤ v) (h1 : v < (xs.length : Int)) : oIxK S (To .int xs) (.int v) = some (.int (gI xs v)) := by
  show atZ (xs.map D.int) v = _
  rw [atZ_map, atZ_gI h0 h1]; rfl
theorem insAt_set {r c : Nat} {fs : List (Nat × D)} (h : r < S.length) : insAt (S.set r (.ins c fs)) (.obj r) = some (r, c, fs) := insAt_obj (List.getElem?_set_self h)
theorem lt_some {r : Nat} {o : Ob} (h : S[r]? = some o) : r < S.length := (List.getElem?_eq_some_iff.mp h).1
theorem map_set {xs : List Int} {i : Nat} {y : Int} : (xs.map D.int).set i (.int y) = (xs.set i y).map .int := List.map_set.symm
/-! ### zip, pairs, enumerate -/
def zipG (ds : List D) (S1 : Store) : Out (List D) := match ds with
  | [a, b] => match view S1 a, view S1 b with
    | .lst xs, .lst ys => .ok (zipD xs ys) S1
    | _, _ => .bad
  | _ => .bad
@[simp ↓] theorem ev_gZip (r : MA) : gZip r e S = (r e S).bnd fun ds S1 => zipG ds S1 := id rfl
def zpD {α β : Type} (f : α → D) (g : β → D) (p : α × β) : D := .tup [f p.1, g p.2]
theorem zipD_map {α β : Type} {f : α → D} {g : β → D} : ∀ (a : List α) (b : List β), zipD (a.map f) (b.map g) = (a.zip b).map (zpD f g)
  | [], _ => by simp [zipD]
  | _ :: _, [] => by simp [zipD]
  | x :: a, y :: b => by
    show D.tup [f x, g y] :: zipD (a.map f) (b.map g) = _
    rw [zipD_map a b]; rfl
@[simp] theorem zipG_Lo {α β : Type} {f : α → D} {g : β → D} (a : List α) (b : List β) : zipG [Lo f a, Lo g b] S = .ok ((a.zip b).map (zpD f g)) S := by
  show Out.ok (zipD (a.map f) (b.map g)) S = _
  rw [zipD_map]
@[simp] theorem pairG_Lo {α : Type} {f : α → D} (a : List α) : pairG (Lo f a) S = .ok (a.map f) S := id rfl
def enumIt (ds : List D) (S1 : Store) : Out (List D × Option Nat) := match ds with
  | [a] => match treeL a with
    | some xs => .ok (enumD 0 xs, none) S1
    | none => .bad
  | _ => .bad
@[simp ↓] theorem ev_iEnum (r : MA) : iEnum r e S = (r e S).bnd fun ds S1 => enumIt ds S1 := id rfl
def enumI {α : Type} : Int → List α → List (Int × α)
  | _, [] => []
  | n, x :: r => (n, x) :: enumI (n + 1) r
theorem enumD_map {α : Type} {f : α → D} : ∀ (n : Nat) (a : List α), enumD n (a.map f) = (enumI (n : Int) a).map (zpD .int f)
  | _, [] => rfl
  | n, x :: a => by
    show D.tup [.int n, f x] :: enumD (n + 1) (a.map f) = _
    rw [enumD_map (n + 1) a]; rfl
@[simp] theorem enumIt_Lo {α : Type} {f : α → D} (a : List α) : enumIt [Lo f a] S = .ok ((enumI 0 a).map (zpD .int f), none) S := by
  show Out.ok (enumD 0 (a.map f), none) S = _
  rw [enumD_map]; rfl
theorem enumI_len {α : Type} : ∀ (n : Int) (a : List α), (enumI n a).length = a.length
  | _, [] => rfl
  | n, x :: a => by show (enumI (n + 1) a).length + 1 = a.length + 1; rw [enumI_len (n + 1) a]
theorem enumI_mem {α : Type} : ∀ {n : Int} {a : List α} {p : Int × α}, p ∈ enumI n a → n ≤ p.1 ∧ p.1 < n + a.length ∧ a[(p.1 - n).toNat]? = some p.2
  | _, [], p, h => nomatch h
  | n, x :: a, p, h => by
    rcases List.mem_cons.mp h with q | q
    · subst q
      simp; omega
    · obtain ⟨h1, h2, h3⟩ := enumI_mem q
      refine ⟨by omega, by rw [List.length_cons]; omega, ?_⟩
      rw [show (p.1 - n).toNat = (p.1 - (n + 1)).toNat + 1 by omega, List.getElem?_cons_succ]
      exact h3
theorem enumI_fst {α : Type} : ∀ (n : Int) (a : List α), (enumI n a).map (·.1) = rangeI n a.length
  | _, [] => rfl
  | n, x :: a => by show n :: (enumI (n + 1) a).map (·.1) = n :: rangeI (n + 1) a.length; rw [enumI_fst (n + 1) a]
/-! ### a dict of signs -/
def kvC (p : Ch × Int) : K1 × D := (.s [p.1.val], .int p.2)
def vC (l : List (Ch × Int)) (c : Ch) : Int := (l.lookup c).getD 0
def itC (p : Ch × Int) : D := .tup [stC p.1, .int p.2]
theorem pairsD_C : ∀ l : List (Ch × Int), pairsD (l.map itC) = some (l.map kvC)
  | [] => rfl
  | p :: l => by
    show (match keyD (stC p.1), pairsD (l.map itC) with | some k, some l => some ((k, D.int p.2) :: l) | _, _ => none) = _
    rw [pairsD_C l]; rfl
theorem getK_C {c : Ch} : ∀ {l : List (Ch × Int)}, c ∈ l.map (·.1) → getK (.s [c.val]) (l.map kvC) = some (.int (vC l c))
  | [], h => nomatch h
  | p :: l, h => by
    show (if (K1.s [p.1.val]) = .s [c.val] then some (D.int p.2) else getK (.s [c.val]) (l.map kvC)) = _
    by_cases e : p.1 = c
    · subst e
      rw [if_pos rfl]
      simp [vC, List.lookup]
    · have ne : ¬ (K1.s [p.1.val] = .s [c.val]) := fun q => e (Fin.ext (by simpa using q))
      have hm : c ∈ l.map (·.1) := by
        rcases List.mem_cons.mp h with q | q
        · exact absurd q.symm e
        · exact q
      rw [if_neg ne, getK_C hm]
      have ne2 : (c == p.1) = false := beq_eq_false_iff_ne.mpr fun q => e q.symm
      simp [vC, List.lookup, ne2]
theorem view_C {r : Nat} {k : List (K1 × D)} (h : S[r]? = some (.dct k)) : view S (.obj r) = .dct k := by simp only [view, h]; rfl
theorem view_CL {r : Nat} {k : List (K1 × D)} (h : S[r]? = some (.lck (.dct k))) : view S (.obj r) = .dct k := by simp only [view, h]; rfl
theorem ix_C {r : Nat} {l : List (Ch × Int)} {c : Ch} (h : view S (.obj r) = .dct (l.map kvC)) (hc : c ∈ l.map (·.1)) : oIx S (.obj r) (stC c) = some (.int (vC l c)) := by
  unfold oIx
  rw [h]
  exact getK_C hc
theorem ixK_C {r : Nat} {l : List (Ch × Int)} {c : Ch} (h : view S (.obj r) = .dct (l.map kvC)) (hc : c ∈ l.map (·.1)) : oIxK S (.obj r) (stC c) = some (.int (vC l c)) := by
  unfold oIxK
  rw [h]
  exact getK_C hc
theorem walk_C {r : Nat} {l : List (Ch × Int)} (h : view S (.obj r) = .dct (l.map kvC)) : walkD S (.obj r) = some ((l.map (·.1)).map stC) := by
  unfold walkD
  rw [h]
  show some ((l.map kvC).map fun p => dK p.1) = _
  rw [List.map_map, List.map_map]; rfl
theorem kvC_nodup {l : List (Ch × Int)} (h : (l.map (·.1)).Nodup) : ((l.map kvC).map (·.1)).Nodup := by
  rw [List.map_map]
  have e : ((fun x : K1 × D => x.1) ∘ kvC) = (fun c : Ch => K1.s [c.val]) ∘ (fun p : Ch × Int => p.1) := rfl
  rw [e, ← List.map_map]
  exact List.Pairwise.map _ (fun a b hab q => hab (Fin.ext (by simpa using q))) h
/-! ### keys of one kind -/
structure TKey {α : Type} (kf : α → D) : Prop where
  al : ∀ x y, alikeD (kf x) (kf y) = true
  t1 : ∀ x, tup1D (kf x) = true
  dt : ∀ x, dataN 5 (kf x) = true
  nl : ∀ x, noLst (kf x) = true
variable {α : Type} {kf f : α → D}
theorem TKey.okS (H : TKey kf) {xs : List α} (h : xs.length ≤ 100000) : okSort (xs.map kf) = true := by
  unfold okSort
  simp only [Bool.and_eq_true, Bool.or_eq_true, List.all_map, List.all_eq_true, decide_eq_true_eq]
  exact ⟨fun x _ => List.all_eq_true.mpr fun y _ => H.al x y, .inl fun x _ => H.t1 x, fun x _ => H.dt x, by simpa using h⟩
theorem TKey.sorted (H : TKey kf) {xs : List α} (h : xs.length ≤ 100000) : bSorted S [Lo kf xs] = some (Lo kf (srt (fun a b => leR false (kf a) (kf b)) xs)) := by
  show (if okSort (xs.map kf) = true then some (D.lst (sortB (leR false) (xs.map kf))) else none) = _
  rw [if_pos (H.okS h), sortB_srt]; rfl
theorem TKey.keyed (H : TKey kf) {i : Nat} {m : ME} {d : D} {xs : List α} (hd : walkD S d = some (xs.map f)) (hl : xs.length ≤ 100000) (h : ∀ x ∈ xs, ∃ S', m (e.set i (some (f x))) S = .ok (kf x) S') : keyed i m e S d = some (xs.map fun x => (kf x, f x)) := by
  unfold Sm.keyed
  rw [hd]
  show ((keysG i m e S (xs.map f)).bind fun ps => if okKeys ps = true then some ps else none) = _
  rw [keysG_map h]
  show (if okKeys _ = true then _ else _) = _
  rw [if_pos]
  unfold okKeys
  rw [List.map_map, Bool.and_eq_true]
  refine ⟨H.okS hl, ?_⟩
  rw [List.all_map, List.all_eq_true]
  exact fun x _ => H.nl x
theorem sortK_K (xs : List α) : (sortK (xs.map fun x => (kf x, f x))).map (fun p => p.2) = (srt (fun a b => leR false (kf a) (kf b)) xs).map f := by
  rw [sortK_srt, List.map_map]; rfl
theorem sortK_KLo (xs : List α) : Lo (fun p : D × D => p.2) (sortK (xs.map fun x => (kf x, f x))) = Lo f (srt (fun a b => leR false (kf a) (kf b)) xs) := by
  show D.lst _ = D.lst _
  rw [sortK_K]
end
end Sm
end

section
set_option linter.all false
set_option autoImplicit false
set_option maxRecDepth 100000
set_option maxHeartbeats 4000000
namespace Sm
section
variable {e : Env} {S : Store}
/-! ### range(a, b, -1), zip of tuples -/
def rng3 (ds : List D) (S1 : Store) : Out (List D × Option Nat) := match ds with
  | [.int a, .int b, .int c] => if (-1000000 ≤ a ∧ a ≤ 1000000) ∧ (-1000000 ≤ b ∧ b ≤ 1000000) ∧ c = -1 then .ok (rangeC a (-1) (a - b).toNat, none) S1 else .bad
  | _ => .bad
@[simp ↓] theorem ev_range3 (r : MA) : iRange3 r e S = (r e S).bnd fun ds S1 => rng3 ds S1 := id rfl
@[simp] theorem rng3_ints (a b c : Int) : rng3 [.int a, .int b, .int c] S = if (-1000000 ≤ a ∧ a ≤ 1000000) ∧ (-1000000 ≤ b ∧ b ≤ 1000000) ∧ c = -1 then .ok (rangeC a (-1) (a - b).toNat, none) S else .bad := id rfl
def rangeCI (lo c : Int) : Nat → List Int
  | 0 => []
  | n + 1 => lo :: rangeCI (lo + c) c n
theorem rangeC_map {c : Int} : ∀ (n : Nat) (lo : Int), rangeC lo c n = (rangeCI lo c n).map .int
  | 0, _ => rfl
  | n + 1, lo => by show D.int lo :: rangeC (lo + c) c n = _; rw [rangeC_map n]; rfl
theorem rangeCI_len {c : Int} : ∀ (n : Nat) (lo : Int), (rangeCI lo c n).length = n
  | 0, _ => rfl
  | n + 1, lo => by show (rangeCI (lo + c) c n).length + 1 = n + 1; rw [rangeCI_len n]
def zipGT (ds : List D) (S1 : Store) : Out (List D) := match ds with
  | [a, b] => match view S1 a, view S1 b with
    | .tup xs, .tup ys => .ok (zipD xs ys) S1
    | _, _ => .bad
  | _ => .bad
@[simp ↓] theorem ev_gZipT (r : MA) : gZipT r e S = (r e S).bnd fun ds S1 => zipGT ds S1 := id rfl
@[simp] theorem zipGT_To {α β : Type} {f : α → D} {g : β → D} (a : List α) (b : List β) : zipGT [To f a, To g b] S = .ok ((a.zip b).map (zpD f g)) S := by
  show Out.ok (zipD (a.map f) (b.map g)) S = _
  rw [zipD_map]
/-! ### sum, max, min of lists, tuples, two numbers -/
@[simp] theorem sumS_Lo (xs : List Int) : bSumS S [Lo .int xs] = some (.int (sumI xs)) := sum_Lo (S := S) xs
@[simp] theorem sumS_To (xs : List Int) : bSumS S [To .int xs] = some (.int (sumI xs)) := by
  show (intsD (xs.map .int)).map (fun l => D.int (sumI l)) = _
  rw [intsD_mapP]; rfl
@[simp] theorem maxS_Lo (xs : List Int) : bMaxS S [Lo .int xs] = (maxL xs).map .int := max_Lo (S := S) xs
@[simp] theorem maxS_To (xs : List Int) : bMaxS S [To .int xs] = (maxL xs).map .int := by
  show (match intsD (xs.map .int) with | some (y :: r) => some (D.int (maxI r y)) | _ => none) = _
  rw [intsD_mapP]
  cases xs <;> rfl
@[simp] theorem maxS_two (i j : Int) : bMaxS S [.int i, .int j] = some (.int (max i j)) := max_int (S := S) i j
@[simp] theorem minS_Lo (xs : List Int) : bMinS S [Lo .int xs] = (minL xs).map .int := min_Lo (S := S) xs
@[simp] theorem minS_To (xs : List Int) : bMinS S [To .int xs] = (minL xs).map .int := by
  show (match intsD (xs.map .int) with | some (y :: r) => some (D.int (minI r y)) | _ => none) = _
  rw [intsD_mapP]
  cases xs <;> rfl
@[simp] theorem minS_two (i j : Int) : bMinS S [.int i, .int j] = some (.int (min i j)) := min_int (S := S) i j
@[simp] theorem sumS_obj (r : Nat) : bSumS S [.obj r] = bSum S [.obj r] := id rfl
@[simp] theorem maxS_obj (r : Nat) : bMaxS S [.obj r] = bMax S [.obj r] := id rfl
@[simp] theorem minS_obj (r : Nat) : bMinS S [.obj r] = bMin S [.obj r] := id rfl
/-- a turn of a loop that goes on -/
theorem forL_turn {lk : Option Nat} {i : Nat} {b : MS} {x : D} {xs : List D} {e' : Env} {S' : Store} (hb : b (e.set i (some x)) S = .ok (.nx e') S') : forL lk (gN i) b (x :: xs) e S = forL lk (gN i) b xs e' S' := by
  rw [ev_forC]
  show ((b (e.set i (some x)) S).bnd fun fl S2 => _) = _
  rw [hb]
  rfl
end
end Sm
end

section
set_option linter.all false
set_option autoImplicit false
set_option maxRecDepth 100000
set_option maxHeartbeats 4000000
namespace Sm
section
variable {e : Env} {S : Store}
@[simp ↓] theorem ev_gVals (a : ME) : gVals a e S = (a e S).bnd fun x S1 => valsW x S1 := id rfl
@[simp ↓] theorem ev_eLRng3 (r : MA) : eLRng3 r e S = (r e S).bnd fun ds S1 => ofO ((rngP ds).map .lst) S1 := id rfl
@[simp ↓] theorem ev_iRangeP (r : MA) : iRangeP r e S = (r e S).bnd fun ds S1 => rngPI ds S1 := id rfl
@[simp ↓] theorem ev_eLRem (o v : ME) : eLRem o v e S = (o e S).bnd fun x S1 => match lstAt S1 x with
  | some _ => (v e S1).bnd fun y S2 => match lstAt S2 x with
    | some (r, xs) => match intsD xs, y with
      | some ns, .int i => match ixOf i ns with
        | some j => .ok .non (S2.set r (.lst (xs.eraseIdx j)))
        | none => .bad
      | _, _ => .bad
    | none => .bad
  | none => .bad := id rfl
@[simp ↓] theorem ev_eDPop (o i : ME) : eDPop o i e S = (o e S).bnd fun x S1 => if isDict S1 x = true then (i e S1).bnd fun k S2 => match dcut S2 x k with
    | some (d, S3) => .ok d S3
    | none => .bad
  else .bad := id rfl
@[simp ↓] theorem ev_eItSort (o : ME) : eItSort o e S = (o e S).bnd fun x S1 => match dctM S1 x with
  | some kvs => if okSort (itemsD kvs) = true then .ok (.lst (sortB (leR false) (itemsD kvs))) S1 else .bad
  | none => .bad := id rfl
def valsIt (x : D) (S1 : Store) : Out (List D × Option Nat) := match x with
  | .obj r => match S1[r]? with
    | some (.lck (.dct kvs)) => .ok (kvs.map fun p => p.2, none) S1
    | _ => .bad
  | _ => .bad
@[simp ↓] theorem ev_iVals (a : ME) : iVals a e S = (a e S).bnd fun x S1 => valsIt x S1 := id rfl
end
/-! ### dicts, in typed terms -/
/-- what a key stands for -/
class KeyF {κ : Type} (df : κ → D) where
  kf : κ → K1
  inj : ∀ a b, kf a = kf b → a = b
  key : ∀ a, keyD (df a) = some (kf a)
  back : ∀ a, dK (kf a) = df a
instance : KeyF D.int := ⟨K1.i, fun a b h => by injection h, fun _ => rfl, fun _ => rfl⟩
instance : KeyF stC := ⟨fun c => K1.s [c.val], fun a b h => Fin.ext (by simpa using h), fun _ => rfl, fun _ => rfl⟩
instance : KeyF tx := ⟨fun t => K1.s (t.map (·.val)), fun a b h => map_val_inj (by simpa using h), fun _ => rfl, fun _ => rfl⟩
section
variable {κ β : Type} [DecidableEq κ] (df : κ → D) [KeyF df] (f : β → D)
def kvG (p : κ × β) : K1 × D := (KeyF.kf df p.1, f p.2)
def itG (p : κ × β) : D := .tup [df p.1, f p.2]
def getG (k : κ) : List (κ × β) → Option β
  | [] => none
  | p :: r => if p.1 = k then some p.2 else getG k r
def putG (k : κ) (v : β) (l : List (κ × β)) : List (κ × β) := if k ∈ l.map (·.1) then l.map (fun p => if p.1 = k then (p.1, v) else p) else l ++ [(k, v)]
def delG (k : κ) (l : List (κ × β)) : List (κ × β) := l.filter fun p => !decide (p.1 = k)
variable {df f}
theorem kf_eq {a b : κ} : (KeyF.kf df a = KeyF.kf df b) ↔ a = b := ⟨KeyF.inj a b, fun h => h ▸ rfl⟩
theorem get_G (k : κ) : ∀ l : List (κ × β), getK (KeyF.kf df k) (l.map (kvG df f)) = (getG k l).map f
  | [] => rfl
  | p :: r => by
    show (if KeyF.kf df p.1 = KeyF.kf df k then some (f p.2) else getK (KeyF.kf df k) (r.map (kvG df f))) = (if p.1 = k then some p.2 else getG k r).map f
    rw [get_G k r]
    by_cases h : p.1 = k
    · rw [if_pos (by rw [h]), if_pos h]; rfl
    · rw [if_neg (fun q => h (kf_eq.mp q)), if_neg h]
theorem has_G (k : κ) : ∀ l : List (κ × β), hasK (KeyF.kf df k) (l.map (kvG df f)) = decide (k ∈ l.map (·.1))
  | [] => by simp [hasK]
  | p :: r => by
    show (decide (KeyF.kf df p.1 = KeyF.kf df k) || hasK (KeyF.kf df k) (r.map (kvG df f))) = _
    rw [has_G k r]
    by_cases h : p.1 = k
    · subst h; simp
    · have h' : k ≠ p.1 := fun q => h q.symm
      have h2 : ¬ KeyF.kf df p.1 = KeyF.kf df k := fun q => h (kf_eq.mp q)
      simp [h2, h']
theorem put_G (k : κ) (v : β) (l : List (κ × β)) : putK (KeyF.kf df k) (f v) (l.map (kvG df f)) = (putG k v l).map (kvG df f) := by
  unfold putK putG
  rw [has_G]
  by_cases h : k ∈ l.map (·.1)
  · rw [if_pos (by simpa using h), if_pos h, List.map_map, List.map_map]
    apply List.map_congr_left
    intro x _
    by_cases hx : x.1 = k
    · subst hx; simp [kvG]
    · have h2 : ¬ KeyF.kf df x.1 = KeyF.kf df k := fun q => hx (kf_eq.mp q)
      simp [kvG, hx, h2]
  · rw [if_neg (by simpa using h), if_neg h, List.map_append]; rfl
theorem del_G (k : κ) : ∀ l : List (κ × β), delK (KeyF.kf df k) (l.map (kvG df f)) = (delG k l).map (kvG df f)
  | [] => rfl
  | p :: r => by
    have ih := del_G k r
    unfold delK delG at ih ⊢
    rw [List.map_cons, List.filter_cons, List.filter_cons]
    by_cases h : p.1 = k
    · have h2 : KeyF.kf df p.1 = KeyF.kf df k := by rw [h]
      rw [if_neg (show ¬ decide ((kvG df f p).1 ≠ KeyF.kf df k) = true by simp [kvG, h2]), if_neg (by simpa using h)]
      exact ih
    · have h2 : ¬ KeyF.kf df p.1 = KeyF.kf df k := fun q => h (kf_eq.mp q)
      rw [if_pos (show decide ((kvG df f p).1 ≠ KeyF.kf df k) = true by simp [kvG, h2]), if_pos (by simpa using h), List.map_cons, ih]
theorem keys_G (l : List (κ × β)) : (l.map (kvG df f)).map (fun p => dK p.1) = (l.map (·.1)).map df := by
  simp only [List.map_map]
  apply List.map_congr_left
  intro p _
  exact KeyF.back p.1
theorem vals_G (l : List (κ × β)) : (l.map (kvG df f)).map (fun p => p.2) = (l.map (·.2)).map f := by
  rw [List.map_map, List.map_map]; rfl
theorem items_G (l : List (κ × β)) : itemsD (l.map (kvG df f)) = l.map (itG df f) := by
  unfold itemsD
  rw [List.map_map]
  apply List.map_congr_left
  intro p _
  show D.tup [dK (KeyF.kf df p.1), f p.2] = _
  rw [KeyF.back]; rfl
theorem pairs_G : ∀ l : List (κ × β), pairsD (l.map (itG df f)) = some (l.map (kvG df f))
  | [] => rfl
  | p :: l => by
    show (match keyD (df p.1), pairsD (l.map (itG df f)) with | some k, some l => some ((k, f p.2) :: l) | _, _ => none) = _
    rw [pairs_G l, KeyF.key]; rfl
theorem nodup_G {l : List (κ × β)} (h : (l.map (·.1)).Nodup) : ((l.map (kvG df f)).map (·.1)).Nodup := by
  rw [List.map_map]
  have e : ((fun x : K1 × D => x.1) ∘ kvG df f) = (fun c : κ => KeyF.kf df c) ∘ (fun p : κ × β => p.1) := rfl
  rw [e, ← List.map_map]
  exact List.Pairwise.map _ (fun a b hab q => hab (kf_eq.mp q)) h
theorem merge_G {l : List (κ × β)} (h : (l.map (·.1)).Nodup) : mergeK [] (l.map (kvG df f)) = l.map (kvG df f) := mergeK_nodup (nodup_G h)
theorem getG_mem {k : κ} {v : β} : ∀ {l : List (κ × β)}, getG k l = some v → (k, v) ∈ l
  | [], h => nomatch h
  | p :: r, h => by
    by_cases hp : p.1 = k
    · rw [getG, if_pos hp] at h
      injection h with h
      subst h; subst hp
      exact List.mem_cons_self
    · rw [getG, if_neg hp] at h
      exact List.mem_cons_of_mem _ (getG_mem h)
theorem getG_has {k : κ} : ∀ {l : List (κ × β)}, k ∈ l.map (·.1) → ∃ v, getG k l = some v
  | [], h => nomatch h
  | p :: r, h => by
    by_cases hp : p.1 = k
    · exact ⟨p.2, by rw [getG, if_pos hp]⟩
    · rcases List.mem_cons.mp h with q | q
      · exact absurd q.symm hp
      · obtain ⟨v, e⟩ := getG_has q
        exact ⟨v, by rw [getG, if_neg hp]; exact e⟩
theorem getG_non {k : κ} : ∀ {l : List (κ × β)}, k ∉ l.map (·.1) → getG k l = none
  | [], _ => rfl
  | p :: r, h => by
    have hp : ¬ p.1 = k := fun q => h (by rw [← q]; exact List.mem_cons_self)
    rw [getG, if_neg hp]
    exact getG_non fun q => h (List.mem_cons_of_mem _ q)
theorem getG_nodup {p : κ × β} : ∀ {l : List (κ × β)}, (l.map (·.1)).Nodup → p ∈ l → getG p.1 l = some p.2
  | [], _, h => nomatch h
  | q :: r, hn, h => by
    have hn' := List.nodup_cons.mp (by simpa using hn : (q.1 :: r.map (·.1)).Nodup)
    rcases List.mem_cons.mp h with w | e
    · subst w; rw [getG, if_pos rfl]
    · have : ¬ q.1 = p.1 := fun x => hn'.1 (by rw [x]; exact List.mem_map_of_mem e)
      rw [getG, if_neg this]
      exact getG_nodup hn'.2 e
theorem getG_isSome {k : κ} {l : List (κ × β)} : (getG k l).isSome = decide (k ∈ l.map (·.1)) := by
  by_cases h : k ∈ l.map (·.1)
  · obtain ⟨v, e⟩ := getG_has h
    rw [e, decide_eq_true h]; rfl
  · rw [getG_non h, decide_eq_false h]; rfl
/-! the store's dicts -/
variable {S : Store} {r : Nat} {l : List (κ × β)}
/-- what is looked at is a dict -/
theorem dlook_G {x : D} (h : view S x = .dct (l.map (kvG df f))) (k : κ) : dlook S x (df k) = some ((getG k l).map f) := by
  unfold dlook; rw [h, KeyF.key]
  show some (getK (KeyF.kf df k) (l.map (kvG df f))) = _
  rw [get_G]
theorem in_G {x : D} (h : view S x = .dct (l.map (kvG df f))) (k : κ) : oInS S (df k) x = some (.bl (decide (k ∈ l.map (·.1)))) := by
  unfold oInS inSV
  rw [h, KeyF.key]
  show some (D.bl (getK (KeyF.kf df k) (l.map (kvG df f))).isSome) = _
  rw [get_G, Option.isSome_map, getG_isSome]
theorem notin_G {x : D} (h : view S x = .dct (l.map (kvG df f))) (k : κ) : oNotInS S (df k) x = some (.bl (!decide (k ∈ l.map (·.1)))) := by
  unfold oNotInS inSV
  rw [h, KeyF.key]
  show some (D.bl (!(getK (KeyF.kf df k) (l.map (kvG df f))).isSome)) = _
  rw [get_G, Option.isSome_map, getG_isSome]
theorem ix_G {x : D} (h : view S x = .dct (l.map (kvG df f))) (k : κ) : oIx S x (df k) = (getG k l).map f := by
  unfold oIx
  rw [h]
  show (keyD (df k)).bind (fun k => getK k (l.map (kvG df f))) = _
  rw [KeyF.key]
  exact get_G k l
theorem ixK_G {x : D} (h : view S x = .dct (l.map (kvG df f))) (k : κ) : oIxK S x (df k) = (getG k l).map f := by
  unfold oIxK
  rw [h]
  show (keyD (df k)).bind (fun k => getK k (l.map (kvG df f))) = _
  rw [KeyF.key]
  exact get_G k l
theorem isDict_G {x : D} {k : List (K1 × D)} (h : view S x = .dct k) : isDict S x = true := by simp [isDict, h]
theorem dput_G (h : S[r]? = some (.dct (l.map (kvG df f)))) (hl : l.length < 100000) (k : κ) (v : β) : dput S (.obj r) (df k) (f v) = some (S.set r (.dct ((putG k v l).map (kvG df f)))) := by
  unfold dput
  simp only [h, KeyF.key]
  show (if (l.map (kvG df f)).length < 100000 then _ else _) = _
  rw [List.length_map, if_pos hl, put_G]
theorem dcut_G (h : S[r]? = some (.dct (l.map (kvG df f)))) {k : κ} {v : β} (hk : getG k l = some v) : dcut S (.obj r) (df k) = some (f v, S.set r (.dct ((delG k l).map (kvG df f)))) := by
  unfold dcut
  simp only [h, KeyF.key]
  show (getK (KeyF.kf df k) (l.map (kvG df f))).map _ = _
  rw [get_G, hk, del_G]; rfl
theorem dctM_G {k : List (K1 × D)} (h : S[r]? = some (.dct k)) : dctM S (.obj r) = some k := by simp [dctM, h]
theorem valsW_G (h : S[r]? = some (.dct (l.map (kvG df f)))) : valsW (.obj r) S = .ok ((l.map (·.2)).map f) S := by
  unfold valsW
  rw [dctM_G h]
  show Out.ok ((l.map (kvG df f)).map fun p => p.2) S = _
  rw [vals_G]
theorem walk_G {x : D} (h : view S x = .dct (l.map (kvG df f))) : walkD S x = some ((l.map (·.1)).map df) := by
  unfold walkD
  rw [h]
  show some ((l.map (kvG df f)).map fun p => dK p.1) = _
  rw [keys_G]
theorem nDictP_G {x : D} (h : lstV S x = some (l.map (itG df f))) (hn : (l.map (·.1)).Nodup) : nDictP S [x] = some (.dct (l.map (kvG df f))) := by
  show (lstV S x).bind (fun xs => (pairsD xs).map fun kvs => Ob.dct (mergeK [] kvs)) = _
  rw [h]
  show (pairsD (l.map (itG df f))).map (fun kvs => Ob.dct (mergeK [] kvs)) = _
  rw [pairs_G]
  show some (Ob.dct (mergeK [] (l.map (kvG df f)))) = _
  rw [merge_G hn]
/-- a walk over a dict's keys, under its lock -/
theorem seqIt_G (h : S[r]? = some (.lck (.dct (l.map (kvG df f))))) : seqIt (.obj r) S = .ok ((l.map (·.1)).map df, none) S := by
  show (match S[r]? with | some (.lst xs) => _ | some (.lck (.lst xs)) => _ | some (.lck (.dct kvs)) => _ | _ => _) = _
  rw [h]
  show Out.ok ((l.map (kvG df f)).map fun p => dK p.1, none) S = _
  rw [keys_G]
theorem valsIt_G (h : S[r]? = some (.lck (.dct (l.map (kvG df f))))) : valsIt (.obj r) S = .ok ((l.map (·.2)).map f, none) S := by
  show (match S[r]? with | some (.lck (.dct kvs)) => _ | _ => _) = _
  rw [h]
  show Out.ok ((l.map (kvG df f)).map fun p => p.2, none) S = _
  rw [vals_G]
theorem vdct {k : List (K1 × D)} (h : S[r]? = some (.dct k)) : view S (.obj r) = .dct k := by simp only [view, h]; rfl
theorem vdctL {k : List (K1 × D)} (h : S[r]? = some (.lck (.dct k))) : view S (.obj r) = .dct k := by simp only [view, h]; rfl
theorem putG_len (k : κ) (v : β) : (putG k v l).length ≤ l.length + 1 := by
  unfold putG
  split
  · rw [List.length_map]; omega
  · simp
theorem delG_len (k : κ) : (delG k l).length ≤ l.length := List.length_filter_le _ _
theorem putG_new {k : κ} {v : β} (h : k ∉ l.map (·.1)) : putG k v l = l ++ [(k, v)] := by unfold putG; rw [if_neg h]
theorem getG_cons {k : κ} {p : κ × β} {r : List (κ × β)} : getG k (p :: r) = if p.1 = k then some p.2 else getG k r := rfl
end
/-! ### list.remove -/
theorem ixOf_erase {i : Int} : ∀ {ns : List Int}, i ∈ ns → ∃ j, ixOf i ns = some j ∧ ns.eraseIdx j = ns.erase i
  | y :: r, h => by
    by_cases hy : y = i
    · exact ⟨0, by unfold ixOf; rw [if_pos hy], by subst hy; simp⟩
    · rcases List.mem_cons.mp h with q | q
      · exact absurd q.symm hy
      · obtain ⟨j, h1, h2⟩ := ixOf_erase q
        refine ⟨j + 1, by unfold ixOf; rw [if_neg hy, h1]; rfl, ?_⟩
        rw [List.eraseIdx_cons_succ, h2, List.erase_cons_tail (by simpa using hy)]
theorem rngP_ints (a b c : Int) : rngP [.int a, .int b, .int c] = if -1000000 ≤ a ∧ a ≤ 1000000 ∧ -1000000 ≤ b ∧ b ≤ 1000000 ∧ 0 < c ∧ c ≤ 1000000 then some (rangeC a c (cntC a b c)) else none := rfl
theorem rangeC_lenP {c : Int} : ∀ (n : Nat) (lo : Int), (rangeC lo c n).length = n
  | 0, _ => rfl
  | n + 1, lo => by show (rangeC (lo + c) c n).length + 1 = n + 1; rw [rangeC_lenP n]
theorem nSorted_Lo {S : Store} {xs : List Int} (h : xs.length ≤ 100000) : nSorted S [Lo .int xs] = some (.lst ((srtI xs).map .int)) := by
  show (if okSort (xs.map .int) = true then some (Ob.lst (sortB (leR false) (xs.map .int))) else none) = _
  rw [if_pos (okSort_ints h), sortB_srt]
  show _ = some (Ob.lst ((srtI xs).map .int))
  unfold srtI
  rw [srt_congr leR_int]
/-- a statement under a locked dict that changes nothing -/
theorem sLk_pure {p : MP} {m : MS} {e : Env} {S : Store} {r : Nat} {kvs : List (K1 × D)} {fl : Fl} (h1 : p e S = some r) (h2 : S[r]? = some (.dct kvs)) (h : m e (S.set r (.lck (.dct kvs))) = .ok fl (S.set r (.lck (.dct kvs)))) : sLk p m e S = .ok fl S := by
  unfold sLk
  rw [dctR_eq h1 h2]
  show unlF r (m e (S.set r (.lck (.dct kvs)))) = _
  rw [h]
  show Out.ok fl (match (S.set r (.lck (.dct kvs)))[r]? with | some (.lck o) => (S.set r (.lck (.dct kvs))).set r o | _ => S.set r (.lck (.dct kvs))) = _
  rw [set_at (by rw [h2]; rfl)]
  show Out.ok fl ((S.set r (.lck (.dct kvs))).set r (.dct kvs)) = _
  rw [List.set_set, set_same h2]
/-- the first least by keys of any one kind -/
theorem minKey_T {α : Type} {kf f : α → D} (d x : α) (xs : List α) : (minK (xs.map fun y => (kf y, f y)) (kf x, f x)).2 = f ((srt (fun a b => leR false (kf a) (kf b)) (x :: xs)).headD d) := by
  have h := minK_head (xs.map fun y => (kf y, f y)) (kf x, f x)
  have e := sortK_srt (f := f) (kf := kf) (x :: xs)
  rw [List.map_cons] at e
  rw [e] at h
  cases hs : srt (fun a b => leR false (kf a) (kf b)) (x :: xs) with
  | nil => rw [hs] at h; simp at h
  | cons y t =>
    rw [hs] at h
    simp only [List.map_cons, List.head?_cons, Option.some.injEq] at h
    rw [← h]
    rfl
/-! ### what was there stays -/
structure Fr (S S' : Store) : Prop where
  len : S.length ≤ S'.length
  old : ∀ r, r < S.length → S'[r]? = S[r]?
theorem Fr.refl (S : Store) : Fr S S := ⟨Nat.le_refl _, fun _ _ => rfl⟩
theorem Fr.trans {S S1 S2 : Store} (a : Fr S S1) (b : Fr S1 S2) : Fr S S2 := ⟨Nat.le_trans a.len b.len, fun r h => by rw [b.old r (Nat.lt_of_lt_of_le h a.len), a.old r h]⟩
theorem Fr.dc {S S' : Store} (a : Fr S S') (h : Dice S) : Dc S S' := by
  obtain ⟨x, y, z, h⟩ := h
  exact ⟨a.len, fun r h1 _ => a.old r h1, x, y, z, by rw [a.old 1 (lt_at h), h]⟩
theorem Fr.app (S l : Store) : Fr S (S ++ l) := ⟨by simp, fun r h => List.getElem?_append_left h⟩
/-- .. but at one place -/
structure Fr1 (q : Nat) (S S' : Store) : Prop where
  len : S.length ≤ S'.length
  old : ∀ r, r < S.length → r ≠ q → S'[r]? = S[r]?
theorem Fr1.refl (q : Nat) (S : Store) : Fr1 q S S := ⟨Nat.le_refl _, fun _ _ _ => rfl⟩
theorem Fr1.trans {q : Nat} {S S1 S2 : Store} (a : Fr1 q S S1) (b : Fr1 q S1 S2) : Fr1 q S S2 := ⟨Nat.le_trans a.len b.len, fun r h n => by rw [b.old r (Nat.lt_of_lt_of_le h a.len) n, a.old r h n]⟩
theorem Fr.one {S S' : Store} (a : Fr S S') (q : Nat) : Fr1 q S S' := ⟨a.len, fun r h _ => a.old r h⟩
theorem Fr1.set (q : Nat) (S : Store) (o : Ob) : Fr1 q S (S.set q o) := ⟨by simp, fun r _ n => set_ne (Ne.symm n)⟩
theorem max_view {S : Store} {r : Nat} {xs : List Int} (h : S[r]? = some (.lst (xs.map .int))) : bMax S [.obj r] = (maxL xs).map .int := by
  show (match (match view S (.obj r) with | .lst xs => intsD xs | _ => none) with | some (y :: r) => some (D.int (maxI r y)) | _ => none) = _
  rw [view_root h]
  exact max_Lo (S := S) xs
/-- a comprehension over a list that may change, but does not -/
theorem lcRoot {S : Store} {e : Env} {i j q : Nat} {t : MB} {m : ME} {xs : List Int} {ys : List D} (h1 : e[j]? = some (some (.obj q))) (h2 : S[q]? = some (.lst (xs.map .int))) (hl : xs.length ≤ 100000) (h : lcL (gN i) t m (e.set i none) (xs.map .int) (S.set q (.lck (.lst (xs.map .int)))) [] = .ok ys (S.set q (.lck (.lst (xs.map .int))))) : eLC [i] (iSeq (eV j)) (gN i) t m e S = .ok (.lst ys) S := by
  have l1 : ¬ 100000 < xs.length := by omega
  have un : unlockAt (S.set q (.lck (.lst (xs.map .int)))) (some q) = S := by
    have : (S.set q (.lck (.lst (xs.map .int))))[q]? = some (.lck (.lst (xs.map .int))) := set_at (by rw [h2]; rfl)
    simp [unlockAt, this, set_same h2]
  simp [-ev_lcC, h1, h2, l1, h, un]
end Sm
end

section
set_option Elab.async false
set_option linter.all false
set_option autoImplicit false
set_option maxRecDepth 100000
set_option maxHeartbeats 4000000
namespace Sm.K21
open PySem L2 Sm
def top (i : Nat) : Stmt := PySem.Challenge.pw_candlehall_k21_holders.main.body.getD i (.Pass ⟨0, 0, 0, 0⟩)
abbrev s_Table_init : Stmt := inClass (top 10) 0
abbrev s_Table_stand : Stmt := inClass (top 10) 1
abbrev s_Table_take : Stmt := inClass (top 10) 2
abbrev s_Table_best_for : Stmt := inClass (top 10) 3
abbrev s_Table_bare : Stmt := inClass (top 10) 4
abbrev s_Table_shown : Stmt := inClass (top 10) 5
abbrev s_fitted : Stmt := top 11
abbrev s_laid : Stmt := top 12
abbrev s_wobbles : Stmt := top 13
abbrev s_law_dice : Stmt := top 15
abbrev s_law_roll : Stmt := top 16
abbrev s_law_rounds : Stmt := top 17
abbrev s_law_most : Stmt := top 19
abbrev s_law_cases1 : Stmt := top 20
abbrev s_law_rest1 : Stmt := top 21
abbrev s_law : Stmt := top 22
abbrev s_law_told : Stmt := top 18
/-- classes of errors: 0 CandleFault, 1 BadCandle, 2 BadPlan, 3 BadSize, 4 NoSuch, 5 NoRoom, 6 NoWay, 7 BadDeed -/
def subX (a b : Nat) : Bool := [(0, 0), (1, 1), (1, 0), (2, 2), (2, 0), (3, 3), (3, 0), (4, 4), (4, 0), (5, 5), (5, 0), (6, 6), (6, 0), (7, 7), (7, 0)].contains (a, b)
def toldX : List (Nat × Tx) := [(3, [115, 105, 122, 101]), (1, [99, 97, 110, 100, 108, 101]), (2, [112, 108, 97, 110]), (4, [110, 111, 32, 115, 117, 99, 104]), (5, [110, 111, 32, 114, 111, 111, 109]), (6, [110, 111, 32, 119, 97, 121]), (7, [100, 101, 101, 100])]
/-- Table.__init__: 0 self, 1 holders, 2 paper, 3 name -/
def b_Table_init : MS := sSeq (sIf (tOr (tB (eEmp false (eV 1))) (tOr (tB (eOp oInS (eC (.str [])) (eV 1))) (tOr (tB (eOp oLt (eVals vMin (eV 1)) (eC (.int 1)))) (tB (eOp oLt (eV 2) (eC (.int 0))))))) (sRaise 2) (sNil)) (
  sSeq (sFld 0 (eV 0) (eNew (oCB nDictP (aCons (eLC [3] (iSeq (eCB bSorted (aCons (eV 1) (aNil)))) (gN 3) (tYes) (eTup (aCons (eV 3) (aCons (eOp oIx (eV 1) (eV 3)) (aNil))))) (aNil))))) (
  sSeq (sFld 1 (eV 0) (eV 2)) (
  sFld 2 (eV 0) (eNew (oDct0)))))
def m_Table_init : Fn := mkFn 4 3 b_Table_init
/-- Table.stand: 0 self, 1 name, 2 candle, 3 thick, 4 row, 5 sheets -/
def b_Table_stand_s1 : MS := sIf (tB (eOp oNotInS (eV 1) (eFld 0 (eV 0)))) (sRaise1 4 (eV 1)) (sNil)
def b_Table_stand_s2 : MS := sIf (tOr (tB (eOp oEq (eV 2) (eC (.str [])))) (tOr (tB (eOp oLt (eV 3) (eC (.int 1)))) (tB (eAny (mGen (gVals (eFld 2 (eV 0))) (gN 4) (tYes) (eOp kEq (eV 2) (eOp oIxK (eV 4) (eC (.int 0))))))))) (sRaise 1) (sNil)
def b_Table_stand_s3 : MS := sIf (tOr (tB (eOp oInS (eV 1) (eFld 2 (eV 0)))) (tB (eOp oGt (eV 3) (eOp oIx (eFld 0 (eV 0)) (eV 1))))) (sRaise 5) (sNil)
def b_Table_stand_s4 : MS := sSet 5 (eOp oSub (eC (.int 0)) (eOp oDiv (eOp oSub (eV 3) (eOp oIx (eFld 0 (eV 0)) (eV 1))) (eC (.int 2))))
def b_Table_stand_s5 : MS := sIf (tB (eOp oGt (eV 5) (eFld 1 (eV 0)))) (sRaise 6) (sNil)
def b_Table_stand_s6 : MS := sFldAug iSub 1 (eV 0) (eV 5)
def b_Table_stand_s7 : MS := sPutD (eFld 2 (eV 0)) (eV 1) (eTup (aCons (eV 2) (aCons (eV 3) (aCons (eV 5) (aNil)))))
def b_Table_stand_s8 : MS := sRet (eV 5)
def b_Table_stand : MS := sSeq b_Table_stand_s1 (sSeq b_Table_stand_s2 (sSeq b_Table_stand_s3 (sSeq b_Table_stand_s4 (sSeq b_Table_stand_s5 (sSeq b_Table_stand_s6 (sSeq b_Table_stand_s7 (b_Table_stand_s8)))))))
def m_Table_stand : Fn := mkFn 6 4 b_Table_stand
/-- Table.take: 0 self, 1 name, 2 candle, 3 thick, 4 sheets -/
def b_Table_take : MS := sSeq (sIf (tB (eOp oNotInS (eV 1) (eFld 0 (eV 0)))) (sRaise1 4 (eV 1)) (sNil)) (
  sSeq (sIf (tB (eOp oNotInS (eV 1) (eFld 2 (eV 0)))) (sRaise 7) (sNil)) (
  sSeq (sAsg (gT [gN 2, gN 3, gN 4]) (eDPop (eFld 2 (eV 0)) (eV 1))) (
  sSeq (sFldAug iAdd 1 (eV 0) (eV 4)) (
  sRet (eV 2)))))
def m_Table_take : Fn := mkFn 5 2 b_Table_take
/-- Table.best_for: 0 self, 1 thick, 2 good, 3 name -/
def b_Table_best_for : MS := sSeq (sIf (tB (eOp oLt (eV 1) (eC (.int 1)))) (sRaise 3) (sNil)) (
  sSeq (sLk (pF 0 0) (sSet 2 (eLC [3] (iSeq (eFld 0 (eV 0))) (gN 3) (tAnd (tB (eOp oNotInS (eV 3) (eFld 2 (eV 0)))) (tB (eOp oGe (eOp oIx (eFld 0 (eV 0)) (eV 3)) (eV 1)))) (eV 3)))) (
  sSeq (sIf (tB (eOp oEq (eV 2) (eLst (aNil)))) (sRaise 6) (sNil)) (
  sRet (eMinKey 3 (eTup (aCons (eOp oSub (eC (.int 0)) (eOp oDiv (eOp oSub (eV 1) (eOp oIxK (eFld 0 (eV 0)) (eV 3))) (eC (.int 2)))) (aCons (eV 3) (aNil)))) (eV 2)))))
def m_Table_best_for : Fn := mkFn 4 2 b_Table_best_for
/-- Table.bare: 0 self, 1 name -/
def b_Table_bare : MS := sRet (eCB bTuple (aCons (eLk (pF 0 0) (eLC [1] (iSeq (eFld 0 (eV 0))) (gN 1) (tB (eOp oNotInS (eV 1) (eFld 2 (eV 0)))) (eV 1))) (aNil)))
def m_Table_bare : Fn := mkFn 2 1 b_Table_bare
/-- Table.shown: 0 self -/
def b_Table_shown : MS := sRet (eTup (aCons (eCB bTuple (aCons (eItSort (eFld 2 (eV 0))) (aNil))) (aCons (eFld 1 (eV 0)) (aNil))))
def m_Table_shown : Fn := mkFn 1 1 b_Table_shown
/-- fitted: 0 candles, 1 sockets, 2 row, 3 let, 4 left, 5 many, 6 thick, 7 good, 8 wide -/
def b_fitted_l1 : MS := sSeq (sSet 7 (eLC [8] (iSeq (eV 4)) (gN 8) (tB (eChain oLe oLe (eV 6) (eV 8) (eOp oAdd (eV 6) (eV 3)))) (eV 8))) (
  sIf (tB (eOp oNe (eV 7) (eLst (aNil)))) (sSeq (sExpr (eLRem (eV 4) (eOp oIx (eV 7) (eC (.int 0))))) (
  sAug iAdd 5 (eC (.int 1)))) (sNil))
def b_fitted : MS := sSeq (sAsg (gT [gN 2, gN 3]) (eV 0)) (
  sSeq (sIf (tB (eOp oLt (eV 3) (eC (.int 0)))) (sRaise 3) (sNil)) (
  sSeq (sPar 4 5 (aCons (eNew (oCB nSorted (aCons (eV 1) (aNil)))) (aCons (eC (.int 0)) (aNil)))) (
  sSeq (sFor (iSeq (eCB bSorted (aCons (eV 2) (aNil)))) (gN 6) b_fitted_l1) (
  sRet (eV 5)))))
def m_fitted : Fn := mkFn 9 2 b_fitted
/-- laid: 0 places, 1 holders, 2 found, 3 number -/
def b_laid_l1 : MS := sExpr (eAppend (eV 2) (eIf (tB (eOp oEq (eOp oMod (eV 3) (eC (.int 2))) (eC (.int 0)))) (eOp oDiv (eV 3) (eC (.int 2))) (eOp oSub (eOp oSub (eV 0) (eC (.int 1))) (eOp oDiv (eV 3) (eC (.int 2))))))
def b_laid : MS := sSeq (sIf (tOr (tB (eOp oLt (eV 0) (eC (.int 0)))) (tB (eOp oLt (eV 1) (eC (.int 0))))) (sRaise 3) (sNil)) (
  sSeq (sIf (tB (eOp oGt (eV 1) (eV 0))) (sRaise 5) (sNil)) (
  sSeq (sSet 2 (eNew (oLst (aNil)))) (
  sSeq (sFor (iRange1 (aCons (eV 1) (aNil))) (gN 3) b_laid_l1) (
  sRet (eCB bTuple (aCons (eV 2) (aNil)))))))
def m_laid : Fn := mkFn 4 2 b_laid
/-- wobbles: 0 feet, 1 order -/
def b_wobbles : MS := sSeq (sIf (tB (eOp oLt (eCB bLen (aCons (eV 0) (aNil))) (eC (.int 3)))) (sRaise 2) (sNil)) (
  sSeq (sSet 1 (eSortKw true (eV 0))) (
  sRet (eOp oSub (eOp oIx (eV 1) (eC (.int 0))) (eOp oIx (eV 1) (eC (.int 2))))))
def m_wobbles : Fn := mkFn 2 1 b_wobbles
/-- _law_dice: 0 cell -/
def b_law_dice : MS := sSeq (sIf (tB (eChain oLt oLt (eOp oSub (eC (.int 0)) (eC (.int 10))) (eV 0) (eC (.int 10)))) (sRet (eNew (oLst (aCons (eCB bAbs (aCons (eV 0) (aNil))) (aCons (eC (.int 0)) (aCons (eC (.int 2)) (aNil))))))) (sNil)) (
  sRet (eNew (oLst (aCons (eV 0) (aCons (eOp oAdd (eC (.int 1)) (eOp oMod (eCB bInt (aCons (eV 0) (aNil))) (eC (.int 1009)))) (aCons (eCB bInt (aCons (eOp oGe (eV 0) (eOp oPow (eC (.int 10)) (eC (.int 18)))) (aNil))) (aNil)))))))
def m_law_dice : Fn := mkFn 1 1 b_law_dice
/-- _law_roll: 0 dice, 1 many, 2 found -/
def b_law_roll : MS := sSeq (sIf (tOr (tB (eOp oEq (eOp oIx (eV 0) (eC (.int 2))) (eC (.int 2)))) (tAnd (tB (eOp oEq (eOp oIx (eV 0) (eC (.int 2))) (eC (.int 1)))) (tB (eOp oGt (eOp oIx (eV 0) (eC (.int 0))) (eC (.int 0)))))) (sSeq (sSet 2 (eOp oMod (eCB bInt (aCons (eOp oIx (eV 0) (eC (.int 0))) (aNil))) (eV 1))) (
  sSeq (sSub (eV 0) (eC (.int 0)) (eOp oDiv (eOp oIx (eV 0) (eC (.int 0))) (eV 1))) (
  sRet (eV 2)))) (sNil)) (
  sSeq (sSub (eV 0) (eC (.int 2)) (eC (.int 0))) (
  sSeq (sSub (eV 0) (eC (.int 0)) (eOp oMod (eCB bInt (aCons (eOp oAdd (eOp oAdd (eOp oMul (eOp oIx (eV 0) (eC (.int 0))) (eC (.int 48271))) (eOp oMul (eOp oIx (eV 0) (eC (.int 1))) (eC (.int 69621)))) (eC (.int 11))) (aNil))) (eC (.int 2147483647)))) (
  sSeq (sSub (eV 0) (eC (.int 1)) (eOp oAdd (eOp oIx (eV 0) (eC (.int 1))) (eC (.int 1)))) (
  sRet (eOp oMod (eCB bInt (aCons (eOp oAdd (eOp oDiv (eOp oIx (eV 0) (eC (.int 0))) (eC (.int 7))) (eOp oIx (eV 0) (eC (.int 0)))) (aNil))) (eV 1))))))
def m_law_roll : Fn := mkFn 3 2 b_law_roll
/-- _law_rounds: 0 script, 1 most, 2 cells, 3 cell -/
def b_law_rounds : MS := sSeq (sSet 2 (eSl (eV 0) none (some (eV 1)))) (
  sSeq (sIf (tB (eOp oEq (eV 2) (eLst (aNil)))) (sSet 2 (eLst (aCons (eC (.int 0)) (aNil)))) (sNil)) (
  sRet (eLC [3] (iSeq (eV 2)) (gN 3) (tYes) (eCall m_law_dice (aCons (eV 3) (aNil))))))
def m_law_rounds : Fn := mkFn 4 2 b_law_rounds
/-- _law_most: 0 candles, 1 sockets, 2 let, 3 found, 4 k -/
def b_law_most_l1 (rec : Fn) : MS := sIf (tB (eChain oLe oLe (eC (.int 0)) (eOp oSub (eOp oIx (eV 1) (eV 4)) (eOp oIx (eV 0) (eC (.int 0)))) (eV 2))) (sExpr (eAppend (eV 3) (eOp oAdd (eC (.int 1)) (eCall rec (aCons (eSl (eV 0) (some (eC (.int 1))) none) (aCons (eOp oAdd (eSl (eV 1) none (some (eV 4))) (eSl (eV 1) (some (eOp oAdd (eV 4) (eC (.int 1)))) none)) (aCons (eV 2) (aNil)))))))) (sNil)
def b_law_most (rec : Fn) : MS := sSeq (sIf (tB (eOp oEq (eV 0) (eLst (aNil)))) (sRet (eC (.int 0))) (sNil)) (
  sSeq (sSet 3 (eNew (oLst (aCons (eCall rec (aCons (eSl (eV 0) (some (eC (.int 1))) none) (aCons (eV 1) (aCons (eV 2) (aNil))))) (aNil))))) (
  sSeq (sFor (iRange1 (aCons (eCB bLen (aCons (eV 1) (aNil))) (aNil))) (gN 4) (b_law_most_l1 rec)) (
  sRet (eCB bMaxS (aCons (eV 3) (aNil))))))
def m_law_most : Nat → Fn
  | 0 => mkFn 5 3 (fun _ _ => .bad)
  | k + 1 => mkFn 5 3 (b_law_most (m_law_most k))
/-- _law_cases1:  -/
def b_law_cases1 : MS := sSeq (sIf (tB (eOp oNe (eTold subX toldX (eCall m_fitted (aCons (eTup (aCons (eLst (aNil)) (aCons (eOp oSub (eC (.int 0)) (eC (.int 1))) (aNil)))) (aCons (eLst (aNil)) (aNil))))) (eC (.str [115, 105, 122, 101])))) (sRet (eC (.bl false))) (sNil)) (
  sSeq (sIf (tB (eOp oNe (eTold subX toldX (eCall m_laid (aCons (eOp oSub (eC (.int 0)) (eC (.int 1))) (aCons (eC (.int 0)) (aNil))))) (eC (.str [115, 105, 122, 101])))) (sRet (eC (.bl false))) (sNil)) (
  sRet (eC (.bl true))))
def m_law_cases1 : Fn := mkFn 0 0 b_law_cases1
/-- _law_rest1: 0 dice, 1 table, 2 candles, 3 sockets, 4 let, 5 k, 6 places, 7 many, 8 told, 9 ends, 10 place, 11 feet, 12 row -/
def b_law_rest1_p1 : MS := sSeq (sSet 9 (eLC [10] (iSeq (eV 8)) (gN 10) (tYes) (eCB bMinS (aCons (eV 10) (aCons (eOp oSub (eOp oSub (eV 6) (eC (.int 1))) (eV 10)) (aNil)))))) (
  sSeq (sIf (tOr (tB (eOp oNe (eCB bLen (aCons (eV 8) (aNil))) (eV 7))) (tOr (tB (eOp oNe (eCB bSorted (aCons (eV 8) (aNil))) (eLC [10] (iRange1 (aCons (eV 6) (aNil))) (gN 10) (tB (eOp oInS (eV 10) (eV 8))) (eV 10)))) (tB (eOp oNe (eV 9) (eLC [5] (iRange1 (aCons (eV 7) (aNil))) (gN 5) (tYes) (eOp oDiv (eV 5) (eC (.int 2)))))))) (sRet (eC (.bl false))) (sNil)) (
  sIf (tB (eOp oNe (eLC [5, 10] (iEnum (aCons (eV 8) (aNil))) (gT [gN 5, gN 10]) (tAnd (tB (eOp oEq (eOp oMod (eV 5) (eC (.int 2))) (eC (.int 0)))) (tB (eOp oNe (eV 10) (eOp oDiv (eV 5) (eC (.int 2)))))) (eV 10)) (eLst (aNil)))) (sRet (eC (.bl false))) (sNil)))
def b_law_rest1_s1 : MS := sPar3 2 3 4 (aCons (eLC [5] (iRange1 (aCons (eCall m_law_roll (aCons (eV 0) (aCons (eC (.int 6)) (aNil)))) (aNil))) (gN 5) (tYes) (eCall m_law_roll (aCons (eV 0) (aCons (eC (.int 9)) (aNil))))) (aCons (eLC [5] (iRange1 (aCons (eCall m_law_roll (aCons (eV 0) (aCons (eC (.int 5)) (aNil)))) (aNil))) (gN 5) (tYes) (eCall m_law_roll (aCons (eV 0) (aCons (eC (.int 9)) (aNil))))) (aCons (eCall m_law_roll (aCons (eV 0) (aCons (eC (.int 4)) (aNil)))) (aNil))))
def b_law_rest1_s2 : MS := sIf (tB (eOp oNe (eCall m_fitted (aCons (eTup (aCons (eV 2) (aCons (eV 4) (aNil)))) (aCons (eV 3) (aNil)))) (eCall (m_law_most 20) (aCons (eV 2) (aCons (eV 3) (aCons (eV 4) (aNil))))))) (sRet (eC (.bl false))) (sNil)
def b_law_rest1_s3 : MS := sAsg (gT [gN 6, gN 7]) (eTup (aCons (eCall m_law_roll (aCons (eV 0) (aCons (eC (.int 9)) (aNil)))) (aCons (eCall m_law_roll (aCons (eV 0) (aCons (eC (.int 10)) (aNil)))) (aNil))))
def b_law_rest1_s4 : MS := sSet 8 (eTold subX toldX (eCB bList (aCons (eCall m_laid (aCons (eV 6) (aCons (eV 7) (aNil)))) (aNil))))
def b_law_rest1_s5 : MS := sIf (tB (eOp oNe (eOp oEq (eV 8) (eC (.str [110, 111, 32, 114, 111, 111, 109]))) (eOp oGt (eV 7) (eV 6)))) (sRet (eC (.bl false))) (sNil)
def b_law_rest1_s6 : MS := sIf (tB (eOp oNe (eV 8) (eC (.str [110, 111, 32, 114, 111, 111, 109])))) (b_law_rest1_p1) (sNil)
def b_law_rest1_s7 : MS := sSet 11 (eLC [5] (iRange1 (aCons (eCall m_law_roll (aCons (eV 0) (aCons (eC (.int 6)) (aNil)))) (aNil))) (gN 5) (tYes) (eCall m_law_roll (aCons (eV 0) (aCons (eC (.int 9)) (aNil)))))
def b_law_rest1_s8 : MS := sSet 12 (eCB bSorted (aCons (eV 11) (aNil)))
def b_law_rest1_s9 : MS := sIf (tB (eOp oNe (eTold subX toldX (eCall m_wobbles (aCons (eV 11) (aNil)))) (eIf (tB (eOp oGt (eCB bLen (aCons (eV 12) (aNil))) (eC (.int 2)))) (eOp oSub (eOp oIx (eV 12) (eOp oSub (eCB bLen (aCons (eV 12) (aNil))) (eC (.int 1)))) (eOp oIx (eV 12) (eOp oSub (eCB bLen (aCons (eV 12) (aNil))) (eC (.int 3))))) (eC (.str [112, 108, 97, 110]))))) (sRet (eC (.bl false))) (sNil)
def b_law_rest1_s10 : MS := sIf (tB (eOp oNe (eTold subX toldX (eMake 0 m_Table_init (aCons (eNew (oDct0)) (aCons (eC (.int 1)) (aNil))))) (eC (.str [112, 108, 97, 110])))) (sRet (eC (.bl false))) (sNil)
def b_law_rest1_s11 : MS := sIf (tB (eOp oNe (eTold subX toldX (eMake 0 m_Table_init (aCons (eNew (oDisp [(eC (.str [97]), eC (.int 1))])) (aCons (eOp oSub (eC (.int 0)) (eC (.int 1))) (aNil))))) (eC (.str [112, 108, 97, 110])))) (sRet (eC (.bl false))) (sNil)
def b_law_rest1_s12 : MS := sIf (tB (eOp oNe (eTold subX toldX (eMeth 0 m_Table_best_for (eV 1) (aCons (eC (.int 0)) (aNil)))) (eC (.str [115, 105, 122, 101])))) (sRet (eC (.bl false))) (sNil)
def b_law_rest1_s13 : MS := sRet (eCall m_law_cases1 (aNil))
def b_law_rest1 : MS := sSeq b_law_rest1_s1 (sSeq b_law_rest1_s2 (sSeq b_law_rest1_s3 (sSeq b_law_rest1_s4 (sSeq b_law_rest1_s5 (sSeq b_law_rest1_s6 (sSeq b_law_rest1_s7 (sSeq b_law_rest1_s8 (sSeq b_law_rest1_s9 (sSeq b_law_rest1_s10 (sSeq b_law_rest1_s11 (sSeq b_law_rest1_s12 (b_law_rest1_s13))))))))))))
def m_law_rest1 : Fn := mkFn 13 2 b_law_rest1
/-- law: 0 script, 1 dice, 2 table, 3 step, 4 thick, 5 good, 6 wide, 7 paper, 8 held, 9 sort, 10 name, 11 candle, 12 bad, 13 sheets, 14 due, 15 told, 16 one, 17 k, 18 row -/
def b_law_p1 : MS := sAsg (gT [gN 6, gN 7, gN 8]) (eTup (aCons (eNew (oCB nDictP (aCons (eLC [17] (iRange1 (aCons (eOp oAdd (eC (.int 1)) (eCall m_law_roll (aCons (eV 1) (aCons (eC (.int 3)) (aNil))))) (aNil))) (gN 17) (tYes) (eTup (aCons (eOp oIx (eC (.str [112, 113, 114])) (eV 17)) (aCons (eOp oAdd (eC (.int 1)) (eCall m_law_roll (aCons (eV 1) (aCons (eC (.int 9)) (aNil))))) (aNil))))) (aNil)))) (aCons (eCall m_law_roll (aCons (eV 1) (aCons (eC (.int 7)) (aNil)))) (aCons (eNew (oDct0)) (aNil)))))
def b_law_p2 : MS := sAsg (gT [gN 9, gN 10, gN 11, gN 4]) (eTup (aCons (eCall m_law_roll (aCons (eV 1) (aCons (eC (.int 5)) (aNil)))) (aCons (eOp oIx (eC (.str [112, 113, 114, 115])) (eCall m_law_roll (aCons (eV 1) (aCons (eC (.int 4)) (aNil))))) (aCons (eOp oIx (eLst (aCons (eC (.str [97])) (aCons (eC (.str [98])) (aCons (eC (.str [99])) (aCons (eC (.str [])) (aNil)))))) (eCB bMinS (aCons (eC (.int 3)) (aCons (eOp oDiv (eCall m_law_roll (aCons (eV 1) (aCons (eC (.int 10)) (aNil)))) (eC (.int 3))) (aNil))))) (aCons (eCall m_law_roll (aCons (eV 1) (aCons (eC (.int 10)) (aNil)))) (aNil))))))
def b_law_p3 : MS := sSeq (sSet 12 (eOr (eOp oEq (eV 11) (eC (.str []))) (eOr (eOp oLt (eV 4) (eC (.int 1))) (eOp oInS (eV 11) (eLk (pV 8) (eLC [18] (iVals (eV 8)) (gN 18) (tYes) (eOp oIx (eV 18) (eC (.int 0))))))))) (
  sSeq (sSet 13 (eCB bLen (aCons (eLRng3 (aCons (eV 4) (aCons (eDGet2 (eV 6) (eV 10) (eC (.int 0))) (aCons (eC (.int 2)) (aNil))))) (aNil)))) (
  sSeq (sSet 14 (eIf (tB (eV 12)) (eC (.str [99, 97, 110, 100, 108, 101])) (eIf (tOr (tB (eOp oInS (eV 10) (eV 8))) (tB (eOp oGt (eV 4) (eDGet2 (eV 6) (eV 10) (eC (.int 0)))))) (eC (.str [110, 111, 32, 114, 111, 111, 109])) (eIf (tB (eOp oGt (eV 13) (eV 7))) (eC (.str [110, 111, 32, 119, 97, 121])) (eV 13))))) (
  sSeq (sPar 14 15 (aCons (eIf (tB (eOp oNotInS (eV 10) (eV 6))) (eC (.str [110, 111, 32, 115, 117, 99, 104])) (eV 14)) (aCons (eTold subX toldX (eMeth 0 m_Table_stand (eV 2) (aCons (eV 10) (aCons (eV 11) (aCons (eV 4) (aNil)))))) (aNil)))) (
  sIf (tB (eOp oNotInS (eV 14) (eLst (aCons (eC (.str [110, 111, 32, 115, 117, 99, 104])) (aCons (eC (.str [99, 97, 110, 100, 108, 101])) (aCons (eC (.str [110, 111, 32, 114, 111, 111, 109])) (aCons (eC (.str [110, 111, 32, 119, 97, 121])) (aNil)))))))) (sAsg (gT [gSubD (eV 8) (eV 10), gN 7]) (eTup (aCons (eTup (aCons (eV 11) (aCons (eV 4) (aCons (eV 13) (aNil))))) (aCons (eOp oSub (eV 7) (eV 13)) (aNil))))) (sNil)))))
def b_law_p4 : MS := sSeq (sPar 14 7 (aCons (eOp oIx (eOp oIx (eV 8) (eV 10)) (eC (.int 0))) (aCons (eOp oAdd (eV 7) (eOp oIx (eOp oIx (eV 8) (eV 10)) (eC (.int 2)))) (aNil)))) (
  sSet 8 (eNew (oCB nDictP (aCons (eLk (pV 8) (eLC [16] (iSeq (eV 8)) (gN 16) (tB (eOp oNe (eV 16) (eV 10))) (eTup (aCons (eV 16) (aCons (eOp oIx (eV 8) (eV 16)) (aNil)))))) (aNil)))))
def b_law_p5 : MS := sIf (tB (eOp oLt (eV 9) (eC (.int 3)))) (b_law_p3) (sSeq (sPar 14 15 (aCons (eIf (tB (eOp oNotInS (eV 10) (eV 6))) (eC (.str [110, 111, 32, 115, 117, 99, 104])) (eC (.str [100, 101, 101, 100]))) (aCons (eTold subX toldX (eMeth 0 m_Table_take (eV 2) (aCons (eV 10) (aNil)))) (aNil)))) (
  sIf (tB (eOp oInS (eV 10) (eV 8))) (b_law_p4) (sNil)))
def b_law_l2 : MS := sSeq (b_law_p2) (
  sSeq (b_law_p5) (
  sIf (tOr (tB (eOp oNe (eV 15) (eV 14))) (tB (eOp oNe (eMeth 0 m_Table_shown (eV 2) (aNil)) (eTup (aCons (eCB bTuple (aCons (eItSort (eV 8)) (aNil))) (aCons (eV 7) (aNil))))))) (sRet (eC (.bl false))) (sNil)))
def b_law_p6 : MS := sSet 5 (eCB bSorted (aCons (eLk (pV 6) (eLC [16] (iSeq (eV 6)) (gN 16) (tAnd (tB (eOp oNotInS (eV 16) (eV 8))) (tB (eOp oGe (eOp oIx (eV 6) (eV 16)) (eV 4)))) (eTup (aCons (eCB bLen (aCons (eLRng3 (aCons (eV 4) (aCons (eOp oIx (eV 6) (eV 16)) (aCons (eC (.int 2)) (aNil))))) (aNil))) (aCons (eV 16) (aNil)))))) (aNil)))
def b_law_l1 : MS := sSeq (b_law_p1) (
  sSeq (sSet 2 (eMake 0 m_Table_init (aCons (eV 6) (aCons (eV 7) (aNil))))) (
  sSeq (sFor (iRange1 (aCons (eCall m_law_roll (aCons (eV 1) (aCons (eC (.int 11)) (aNil)))) (aNil))) (gN 3) b_law_l2) (
  sSeq (sIf (tB (eOp oNe (eCB bList (aCons (eMeth 0 m_Table_bare (eV 2) (aNil)) (aNil))) (eLC [16] (iSeq (eCB bSorted (aCons (eV 6) (aNil)))) (gN 16) (tB (eOp oNotInS (eV 16) (eV 8))) (eV 16)))) (sRet (eC (.bl false))) (sNil)) (
  sSeq (sSet 4 (eOp oAdd (eC (.int 1)) (eCall m_law_roll (aCons (eV 1) (aCons (eC (.int 9)) (aNil)))))) (
  sSeq (b_law_p6) (
  sSeq (sIf (tB (eOp oNe (eTold subX toldX (eMeth 0 m_Table_best_for (eV 2) (aCons (eV 4) (aNil)))) (eIf (tB (eOp oNe (eV 5) (eLst (aNil)))) (eOp oIx (eOp oIx (eV 5) (eC (.int 0))) (eC (.int 1))) (eC (.str [110, 111, 32, 119, 97, 121]))))) (sRet (eC (.bl false))) (sNil)) (
  sIf (tNot (tB (eCall m_law_rest1 (aCons (eV 1) (aCons (eV 2) (aNil)))))) (sRet (eC (.bl false))) (sNil))))))))
def b_law : MS := sSeq (sFor (iSeq (eCall m_law_rounds (aCons (eV 0) (aCons (eC (.int 1)) (aNil))))) (gN 1) b_law_l1) (
  sRet (eC (.bl true)))
def m_law : Fn := mkFn 19 1 b_law
def fa : List He.Fa := [
  .free "min",
  .exc "BadPlan",
  .glo "BadPlan",
  .free "dict",
  .free "sorted",
  .exc "NoSuch",
  .glo "NoSuch",
  .free "any",
  .exc "BadCandle",
  .glo "BadCandle",
  .exc "NoRoom",
  .glo "NoRoom",
  .exc "NoWay",
  .glo "NoWay",
  .exc "BadDeed",
  .glo "BadDeed",
  .exc "BadSize",
  .glo "BadSize",
  .free "tuple",
  .free "range",
  .free "len",
  .free "abs",
  .free "int",
  .free "max",
  .free "list",
  .free "enumerate",
  .glo "fitted",
  .glo "laid",
  .glo "wobbles",
  .glo "_law_dice",
  .glo "_law_roll",
  .glo "_law_rounds",
  .glo "_law_most",
  .glo "_law_cases1",
  .glo "_law_rest1",
  .glo "law",
  .glo "_law_told",
  .cls "Table",
  .glo "Table",
  .mkr "Table",
  .meth "Table" "stand",
  .meth "Table" "take",
  .meth "Table" "best_for",
  .meth "Table" "bare",
  .meth "Table" "shown",
  .noat "Table" "holders",
  .noat "Table" "paper",
  .noat "Table" "held",
  .exm "CandleFault" "BadSize" false,
  .exm "CandleFault" "BadCandle" false,
  .exm "CandleFault" "BadPlan" false,
  .exm "CandleFault" "NoSuch" false,
  .exm "CandleFault" "NoRoom" false,
  .exm "CandleFault" "NoWay" false,
  .exm "CandleFault" "BadDeed" false,
  .exm "BadCandle" "BadSize" false,
  .exm "BadCandle" "BadCandle" true,
  .exm "BadCandle" "BadPlan" false,
  .exm "BadCandle" "NoSuch" false,
  .exm "BadCandle" "NoRoom" false,
  .exm "BadCandle" "NoWay" false,
  .exm "BadCandle" "BadDeed" false,
  .exm "BadPlan" "BadSize" false,
  .exm "BadPlan" "BadCandle" false,
  .exm "BadPlan" "BadPlan" true,
  .exm "BadPlan" "NoSuch" false,
  .exm "BadPlan" "NoRoom" false,
  .exm "BadPlan" "NoWay" false,
  .exm "BadPlan" "BadDeed" false,
  .exm "BadSize" "BadSize" true,
  .exm "BadSize" "BadCandle" false,
  .exm "BadSize" "BadPlan" false,
  .exm "BadSize" "NoSuch" false,
  .exm "BadSize" "NoRoom" false,
  .exm "BadSize" "NoWay" false,
  .exm "BadSize" "BadDeed" false,
  .exm "NoSuch" "BadSize" false,
  .exm "NoSuch" "BadCandle" false,
  .exm "NoSuch" "BadPlan" false,
  .exm "NoSuch" "NoSuch" true,
  .exm "NoSuch" "NoRoom" false,
  .exm "NoSuch" "NoWay" false,
  .exm "NoSuch" "BadDeed" false,
  .exm "NoRoom" "BadSize" false,
  .exm "NoRoom" "BadCandle" false,
  .exm "NoRoom" "BadPlan" false,
  .exm "NoRoom" "NoSuch" false,
  .exm "NoRoom" "NoRoom" true,
  .exm "NoRoom" "NoWay" false,
  .exm "NoRoom" "BadDeed" false,
  .exm "NoWay" "BadSize" false,
  .exm "NoWay" "BadCandle" false,
  .exm "NoWay" "BadPlan" false,
  .exm "NoWay" "NoSuch" false,
  .exm "NoWay" "NoRoom" false,
  .exm "NoWay" "NoWay" true,
  .exm "NoWay" "BadDeed" false,
  .exm "BadDeed" "BadSize" false,
  .exm "BadDeed" "BadCandle" false,
  .exm "BadDeed" "BadPlan" false,
  .exm "BadDeed" "NoSuch" false,
  .exm "BadDeed" "NoRoom" false,
  .exm "BadDeed" "NoWay" false,
  .exm "BadDeed" "BadDeed" true]
def qualOf : He.Defn → Str := fun p => match p.2 with
  | none => p.1
  | some m => p.1 ++ "." ++ m
def fn : List He.DefD := [
  ⟨("Table", some "__init__"), "__init__", "Table.__init__", defArgs s_Table_init, defBody s_Table_init, defScope s_Table_init, [], []⟩,
  ⟨("Table", some "stand"), "stand", "Table.stand", defArgs s_Table_stand, defBody s_Table_stand, defScope s_Table_stand, [], []⟩,
  ⟨("Table", some "take"), "take", "Table.take", defArgs s_Table_take, defBody s_Table_take, defScope s_Table_take, [], []⟩,
  ⟨("Table", some "best_for"), "best_for", "Table.best_for", defArgs s_Table_best_for, defBody s_Table_best_for, defScope s_Table_best_for, [], []⟩,
  ⟨("Table", some "bare"), "bare", "Table.bare", defArgs s_Table_bare, defBody s_Table_bare, defScope s_Table_bare, [], []⟩,
  ⟨("Table", some "shown"), "shown", "Table.shown", defArgs s_Table_shown, defBody s_Table_shown, defScope s_Table_shown, [], []⟩,
  ⟨("fitted", none), "fitted", "fitted", defArgs s_fitted, defBody s_fitted, defScope s_fitted, [], []⟩,
  ⟨("laid", none), "laid", "laid", defArgs s_laid, defBody s_laid, defScope s_laid, [], []⟩,
  ⟨("wobbles", none), "wobbles", "wobbles", defArgs s_wobbles, defBody s_wobbles, defScope s_wobbles, [], []⟩,
  ⟨("_law_dice", none), "_law_dice", "_law_dice", defArgs s_law_dice, defBody s_law_dice, defScope s_law_dice, [], []⟩,
  ⟨("_law_roll", none), "_law_roll", "_law_roll", defArgs s_law_roll, defBody s_law_roll, defScope s_law_roll, [], []⟩,
  ⟨("_law_rounds", none), "_law_rounds", "_law_rounds", defArgs s_law_rounds, defBody s_law_rounds, defScope s_law_rounds, [], []⟩,
  ⟨("_law_most", none), "_law_most", "_law_most", defArgs s_law_most, defBody s_law_most, defScope s_law_most, [], []⟩,
  ⟨("_law_cases1", none), "_law_cases1", "_law_cases1", defArgs s_law_cases1, defBody s_law_cases1, defScope s_law_cases1, [], []⟩,
  ⟨("_law_rest1", none), "_law_rest1", "_law_rest1", defArgs s_law_rest1, defBody s_law_rest1, defScope s_law_rest1, [], []⟩,
  ⟨("law", none), "law", "law", defArgs s_law, defBody s_law, defScope s_law, [], []⟩,
  ⟨("_law_told", none), "_law_told", "_law_told", defArgs s_law_told, defBody s_law_told, defScope s_law_told, [], []⟩]
def tf : List He.Defn := [("Table", some "stand"), ("Table", some "best_for"), ("_law_cases1", none), ("_law_rest1", none), ("law", none)]
def gx (K : PySem.W.Frag) : Gx := { K := K, fn := fnL ["holders", "paper", "held"], cl := fun k => match k with | _ => He.ga K "Table", ex := fun k => match k with | 0 => He.ga K "CandleFault" | 1 => He.ga K "BadCandle" | 2 => He.ga K "BadPlan" | 3 => He.ga K "BadSize" | 4 => He.ga K "NoSuch" | 5 => He.ga K "NoRoom" | 6 => He.ga K "NoWay" | _ => He.ga K "BadDeed", tabs := [((He.cT K ("Table", some "stand")).2, (("Table.stand" : Str) ++ ".<locals>." ++ "<genexpr>")), ((He.cT K ("Table", some "best_for")).2, (("Table.best_for" : Str) ++ ".<locals>." ++ "<lambda>")), ((He.cT K ("_law_cases1", none)).2, (("_law_cases1" : Str) ++ ".<locals>." ++ "<lambda>")), ((He.cT K ("_law_rest1", none)).2, (("_law_rest1" : Str) ++ ".<locals>." ++ "<lambda>")), ((He.cT K ("law", none)).2, (("law" : Str) ++ ".<locals>." ++ "<lambda>"))], fni := fnL_inj (by decide +kernel) (by decide +kernel) }
section
variable {P : Program} {w : World} {K : PySem.W.Frag} {mg : Str → Option Value} {base : Heap}
theorem fld_holders (T : Tt fa fn tf K mg base) : ∀ k, Cls K ((gx K).cl k) ∧ NoAttr K ((gx K).cl k) "holders" := fun k => match k with | _ => ⟨T.cls 37, T.noat 45⟩
theorem fld_paper (T : Tt fa fn tf K mg base) : ∀ k, Cls K ((gx K).cl k) ∧ NoAttr K ((gx K).cl k) "paper" := fun k => match k with | _ => ⟨T.cls 37, T.noat 46⟩
theorem fld_held (T : Tt fa fn tf K mg base) : ∀ k, Cls K ((gx K).cl k) ∧ NoAttr K ((gx K).cl k) "held" := fun k => match k with | _ => ⟨T.cls 37, T.noat 47⟩
theorem sc_told : FnScope ["what"] ["what"] (defScope s_law_told) := ⟨rfl, rfl, rfl, by decide +kernel, rfl, by decide +kernel, by decide +kernel⟩
theorem sub_told (T : Tt fa fn tf K mg base) : ∀ j i, subX j i = true → ∀ y ∈ toldX, PySem.W.exmOne K (.ref ((gx K).ex j)) (.ref ((gx K).ex y.1)) = some (subX j y.1) := by
  intro j i h y hy
  have hj : j < 8 := by
    unfold subX at h
    simp at h
    omega
  simp only [toldX, List.mem_cons, List.mem_nil_iff, or_false] at hy
  match j, hj with
  | 0, _ =>
    rcases hy with rfl | rfl | rfl | rfl | rfl | rfl | rfl
    · exact T.exm 48
    · exact T.exm 49
    · exact T.exm 50
    · exact T.exm 51
    · exact T.exm 52
    · exact T.exm 53
    · exact T.exm 54
  | 1, _ =>
    rcases hy with rfl | rfl | rfl | rfl | rfl | rfl | rfl
    · exact T.exm 55
    · exact T.exm 56
    · exact T.exm 57
    · exact T.exm 58
    · exact T.exm 59
    · exact T.exm 60
    · exact T.exm 61
  | 2, _ =>
    rcases hy with rfl | rfl | rfl | rfl | rfl | rfl | rfl
    · exact T.exm 62
    · exact T.exm 63
    · exact T.exm 64
    · exact T.exm 65
    · exact T.exm 66
    · exact T.exm 67
    · exact T.exm 68
  | 3, _ =>
    rcases hy with rfl | rfl | rfl | rfl | rfl | rfl | rfl
    · exact T.exm 69
    · exact T.exm 70
    · exact T.exm 71
    · exact T.exm 72
    · exact T.exm 73
    · exact T.exm 74
    · exact T.exm 75
  | 4, _ =>
    rcases hy with rfl | rfl | rfl | rfl | rfl | rfl | rfl
    · exact T.exm 76
    · exact T.exm 77
    · exact T.exm 78
    · exact T.exm 79
    · exact T.exm 80
    · exact T.exm 81
    · exact T.exm 82
  | 5, _ =>
    rcases hy with rfl | rfl | rfl | rfl | rfl | rfl | rfl
    · exact T.exm 83
    · exact T.exm 84
    · exact T.exm 85
    · exact T.exm 86
    · exact T.exm 87
    · exact T.exm 88
    · exact T.exm 89
  | 6, _ =>
    rcases hy with rfl | rfl | rfl | rfl | rfl | rfl | rfl
    · exact T.exm 90
    · exact T.exm 91
    · exact T.exm 92
    · exact T.exm 93
    · exact T.exm 94
    · exact T.exm 95
    · exact T.exm 96
  | 7, _ =>
    rcases hy with rfl | rfl | rfl | rfl | rfl | rfl | rfl
    · exact T.exm 97
    · exact T.exm 98
    · exact T.exm 99
    · exact T.exm 100
    · exact T.exm 101
    · exact T.exm 102
    · exact T.exm 103
theorem x_told {X : Cx} {E : XK} {params : Arguments} {body : Expr} {scope : Scope} {m : ME} {k : Nat} {at_ : He.Defn} {p lpos pos : Pos} (T : Tt fa fn tf X.K X.mg X.base) (hcode : X.env.code = .ref (He.codeOf X.K at_)) (j : Nat) (hr : Room (k + 2) X.A) (hLS : LamX.LamS X.env.scope scope)
    (hbody : ∀ (A : Around) (outer : List PySem.Env) (s : Shared) (H : Hp) (E' : XK) (f c' : Addr), Room k (A.deeper (LamX.lamEnv X scope s.heap.objs.size f c')) → ES (gx X.K) (LamX.lamCx X A outer s H E' scope f c') E' body m)
    (hj : tf[j]? = some at_ := by rfl) (hq : (gx X.K).tabs[j]? = some ((He.cT X.K at_).2, X.env.qual ++ "<lambda>") := by rfl)
    (hg : Gl X "_law_told" := by rfl) (hdef : defaultsOf params X.env = ([], []) := by rfl)
    (hbind : ∀ (q : Str) (cl : List (Str × Addr)) (pm cv ctv : Value), bindArgs (PySem.W.kla_fn "<lambda>" q params body scope cl pm cv ctv) ⟨[], []⟩ = pure [] := by intros; rfl) :
    ES (gx X.K) X E (.Call (.Name "_law_told" p) [.Lambda params body scope lpos] [] pos) (eTold subX toldX m) := by
  obtain ⟨fd, F⟩ := T.d.def_ 16 (d := ⟨("_law_told", none), "_law_told", "_law_told", defArgs s_law_told, defBody s_law_told, defScope s_law_told, [], []⟩) rfl
  have F' : FunD X.K "_law_told" "_law_told" (defArgs s_law_told) (defBody s_law_told) (defScope s_law_told) [] [] (He.fAd X.K ("_law_told", none)) fd := F
  exact es_toldD (L := toldL X.K (defBody s_law_told)) (T.glo 36) F' (fun _ _ _ _ _ _ us hl => match us, hl with | [_], _ => rfl) sc_told rfl (Or.inl rfl) rfl
    (fun y hy => by
      have hy' : y ∈ [(toldL X.K (defBody s_law_told)).getD 0 ("", .none, "", (⟨0, 0, 0, 0⟩, ⟨0, 0, 0, 0⟩, ⟨0, 0, 0, 0⟩, ⟨0, 0, 0, 0⟩, 0)), (toldL X.K (defBody s_law_told)).getD 1 ("", .none, "", (⟨0, 0, 0, 0⟩, ⟨0, 0, 0, 0⟩, ⟨0, 0, 0, 0⟩, ⟨0, 0, 0, 0⟩, 0)), (toldL X.K (defBody s_law_told)).getD 2 ("", .none, "", (⟨0, 0, 0, 0⟩, ⟨0, 0, 0, 0⟩, ⟨0, 0, 0, 0⟩, ⟨0, 0, 0, 0⟩, 0)), (toldL X.K (defBody s_law_told)).getD 3 ("", .none, "", (⟨0, 0, 0, 0⟩, ⟨0, 0, 0, 0⟩, ⟨0, 0, 0, 0⟩, ⟨0, 0, 0, 0⟩, 0)), (toldL X.K (defBody s_law_told)).getD 4 ("", .none, "", (⟨0, 0, 0, 0⟩, ⟨0, 0, 0, 0⟩, ⟨0, 0, 0, 0⟩, ⟨0, 0, 0, 0⟩, 0)), (toldL X.K (defBody s_law_told)).getD 5 ("", .none, "", (⟨0, 0, 0, 0⟩, ⟨0, 0, 0, 0⟩, ⟨0, 0, 0, 0⟩, ⟨0, 0, 0, 0⟩, 0)), (toldL X.K (defBody s_law_told)).getD 6 ("", .none, "", (⟨0, 0, 0, 0⟩, ⟨0, 0, 0, 0⟩, ⟨0, 0, 0, 0⟩, ⟨0, 0, 0, 0⟩, 0))] := hy
      simp only [List.mem_cons, List.mem_nil_iff, or_false] at hy'
      rcases hy' with rfl | rfl | rfl | rfl | rfl | rfl | rfl
      · exact ⟨rfl, T.glo 17, (show (("BadSize" : Str) == ("__debug__" : Str)) = false by decide)⟩
      · exact ⟨rfl, T.glo 9, (show (("BadCandle" : Str) == ("__debug__" : Str)) = false by decide)⟩
      · exact ⟨rfl, T.glo 2, (show (("BadPlan" : Str) == ("__debug__" : Str)) = false by decide)⟩
      · exact ⟨rfl, T.glo 6, (show (("NoSuch" : Str) == ("__debug__" : Str)) = false by decide)⟩
      · exact ⟨rfl, T.glo 11, (show (("NoRoom" : Str) == ("__debug__" : Str)) = false by decide)⟩
      · exact ⟨rfl, T.glo 13, (show (("NoWay" : Str) == ("__debug__" : Str)) = false by decide)⟩
      · exact ⟨rfl, T.glo 15, (show (("BadDeed" : Str) == ("__debug__" : Str)) = false by decide)⟩)
    rfl (fun _ => rfl) (sub_told T) (T.code j hj) hcode (List.mem_of_getElem? hq) (tabs_uniq T.nd (List.mem_of_getElem? hq)) hr hLS hbody hg hdef hbind (by decide) (by decide) (by decide)
theorem sc_Table_init : FnScope ["self", "holders", "paper", "name"] ["self", "holders", "paper"] (defScope s_Table_init) := ⟨rfl, rfl, rfl, by decide +kernel, rfl, by decide +kernel, by decide +kernel⟩
theorem d_Table_init (T : Tt fa fn tf K mg base) {cdv : Value} {A : Around} {outer : List PySem.Env} {s : Shared} {H : Hp} {E : XK} (hcd : cdv = .ref (He.codeOf K ("Table", some "__init__"))) (hr : Room 0 (A.deeper (PyProof.Rows.envOfC "Table.__init__" (defScope s_Table_init) s.heap.objs.size (He.fAd K ("Table", some "__init__")) cdv))) :
    SL (gx K) (cxOf (L2.CX P w) P w K mg base ["self", "holders", "paper", "name"] "Table.__init__" (defScope s_Table_init) (He.fAd K ("Table", some "__init__")) cdv A outer s H E) E (defBody s_Table_init) b_Table_init := by
  have xo : XO (gx K) (cxOf (L2.CX P w) P w K mg base ["self", "holders", "paper", "name"] "Table.__init__" (defScope s_Table_init) (He.fAd K ("Table", some "__init__")) cdv A outer s H E) E := XO.ofDef rfl sc_Table_init.nd hr
  exact (sl_cons (st_if (bs_w (bw_or ((bs_emp xo) (es_v 1)) (bw_or (bs_cmp (op_inA (xu1 xo)) sr_inS rfl (es_str []) (es_v 1)) (bw_or (bs_cmp op_lt sr_cmp rfl ((es_minVals xo (T.free 0)) (es_v 1)) es_int) (bw_or1 (bs_cmp op_lt sr_cmp rfl (es_v 2) es_int))))))
  (sl_one (st_raise (k := 2) xo (T.raise 1 2)))
  sl_nil)
  (sl_cons ((st_fld 0 rfl (fld_holders T)) (es_v 0) ((es_ctyN (call_dictP rfl) sn_dictP (T.free 3) bt_dict) (as_cons rfl (es_lc xo (own := [("name", 3)]) (is_seq ((es_cb (callR_or (cr_sortK rfl (xu10 xo)) (cr_sortD (xu10 xo))) sc_sorted (T.free 4) bt_sorted) (as_cons rfl (es_v 1) as_nil))) (blkOk_by (by kernel_rfl)) (fun _ => (gs_n 3 xo.blk.nd)) (by decide) (fun _ => ts_nil) (fun _ => (es_tup (as_cons rfl (es_v 3) (as_cons rfl (es_ix xo.blk (by intro _ _; rfl) (es_v 1) (es_v 3)) as_nil))))) as_nil)))
  (sl_cons ((st_fld 1 rfl (fld_paper T)) (es_v 0) (es_v 2))
  (sl_one ((st_fld 2 rfl (fld_held T)) (es_v 0) es_dct0)))))
theorem f_Table_init (T : Tt fa fn tf K mg base) : MkF (gx K) P w K mg base 1 (He.ga K "Table") "Table" ["self", "holders", "paper"] m_Table_init := mkI T 0 39 38 sc_Table_init (fun _ _ _ _ _ _ us hl => match us, hl with | [_, _, _], _ => rfl) (fun _ _ _ _ _ _ hcd hr => d_Table_init T  hcd hr)
theorem sc_Table_stand : FnScope ["self", "name", "candle", "thick", "row", "sheets"] ["self", "name", "candle", "thick"] (defScope s_Table_stand) := ⟨rfl, rfl, rfl, by decide +kernel, rfl, by decide +kernel, by decide +kernel⟩
theorem d_Table_stand (T : Tt fa fn tf K mg base) {cdv : Value} {A : Around} {outer : List PySem.Env} {s : Shared} {H : Hp} {E : XK} (hcd : cdv = .ref (He.codeOf K ("Table", some "stand"))) (hr : Room 0 (A.deeper (PyProof.Rows.envOfC "Table.stand" (defScope s_Table_stand) s.heap.objs.size (He.fAd K ("Table", some "stand")) cdv))) :
    SL (gx K) (cxOf (L2.CX P w) P w K mg base ["self", "name", "candle", "thick", "row", "sheets"] "Table.stand" (defScope s_Table_stand) (He.fAd K ("Table", some "stand")) cdv A outer s H E) E (defBody s_Table_stand) b_Table_stand := by
  have xo : XO (gx K) (cxOf (L2.CX P w) P w K mg base ["self", "name", "candle", "thick", "row", "sheets"] "Table.stand" (defScope s_Table_stand) (He.fAd K ("Table", some "stand")) cdv A outer s H E) E := XO.ofDef rfl sc_Table_stand.nd hr
  exact (sl_cons (st_if (bs_cmp (op_notInA (xu1 xo)) sr_notInS rfl (es_v 1) (es_fld 0 rfl (fld_holders T) rfl (es_v 0)))
  (sl_one ((st_raiseT (k := 4) xo T 5 6) (es_v 1)))
  sl_nil)
  (sl_cons (st_if (bs_w (bw_or (bs_cmp (op_eqD (xu xo)) sr_eq rfl (es_v 2) (es_str [])) (bw_or (bs_cmp op_lt sr_cmp rfl (es_v 3) es_int) (bw_or1 (bs_val (by intro _; rfl) ((es_any (T.free 7)) (gj_vals (j := 4) hr (T.code 0) hcd (List.mem_of_getElem? (i := 0) rfl) (tabs_uniq T.nd (List.mem_of_getElem? (i := 0) rfl)) (genOk_by (by kernel_rfl)) (es_fld 2 rfl (fld_held T) rfl (es_v 0)) (q_cmp qo_eq rfl (q_free 2 rfl rfl) (q_ixK (by intro _ _; rfl) (q_own 4 (List.mem_of_getElem? (i := 0) rfl) rfl) q_int)) (.inl ⟨rfl, rfl⟩))))))))
  (sl_one (st_raise (k := 1) xo (T.raise 8 9)))
  sl_nil)
  (sl_cons (st_if (bs_w (bw_or (bs_cmp (op_inA (xu1 xo)) sr_inS rfl (es_v 1) (es_fld 2 rfl (fld_held T) rfl (es_v 0))) (bw_or1 (bs_cmp op_gt sr_cmp rfl (es_v 3) (es_ix xo (by intro _ _; rfl) (es_fld 0 rfl (fld_holders T) rfl (es_v 0)) (es_v 1))))))
  (sl_one (st_raise (k := 5) xo (T.raise 10 11)))
  sl_nil)
  (sl_cons ((st_set 5 xo) (es_op op_sub sr_sub es_int (es_op op_fdivN sr_div (es_op op_sub sr_sub (es_v 3) (es_ix xo (by intro _ _; rfl) (es_fld 0 rfl (fld_holders T) rfl (es_v 0)) (es_v 1))) es_int)))
  (sl_cons (st_if (bs_cmp op_gt sr_cmp rfl (es_v 5) (es_fld 1 rfl (fld_paper T) rfl (es_v 0)))
  (sl_one (st_raise (k := 6) xo (T.raise 12 13)))
  sl_nil)
  (sl_cons (st_fldaug 1 in_sub sr_rsub rfl (fld_paper T) (es_v 0) (es_v 5))
  (sl_cons ((st_putD xo) (es_fld 2 rfl (fld_held T) rfl (es_v 0)) (es_v 1) (es_tup (as_cons rfl (es_v 2) (as_cons rfl (es_v 3) (as_cons rfl (es_v 5) as_nil)))))
  (sl_one (st_ret (es_v 5))))))))))
theorem f_Table_stand (T : Tt fa fn tf K mg base) : MeF (gx K) P w K mg base 1 (He.ga K "Table") "stand" ["self", "name", "candle", "thick"] m_Table_stand := mkM T 1 40 37 sc_Table_stand (fun _ _ _ _ _ _ us hl => match us, hl with | [_, _, _, _], _ => rfl) (fun _ _ _ _ _ _ hcd hr => d_Table_stand T  hcd hr) (fnL_out (by decide) (by decide))
theorem sc_Table_take : FnScope ["self", "name", "candle", "thick", "sheets"] ["self", "name"] (defScope s_Table_take) := ⟨rfl, rfl, rfl, by decide +kernel, rfl, by decide +kernel, by decide +kernel⟩
theorem d_Table_take (T : Tt fa fn tf K mg base) {cdv : Value} {A : Around} {outer : List PySem.Env} {s : Shared} {H : Hp} {E : XK} (hcd : cdv = .ref (He.codeOf K ("Table", some "take"))) (hr : Room 0 (A.deeper (PyProof.Rows.envOfC "Table.take" (defScope s_Table_take) s.heap.objs.size (He.fAd K ("Table", some "take")) cdv))) :
    SL (gx K) (cxOf (L2.CX P w) P w K mg base ["self", "name", "candle", "thick", "sheets"] "Table.take" (defScope s_Table_take) (He.fAd K ("Table", some "take")) cdv A outer s H E) E (defBody s_Table_take) b_Table_take := by
  have xo : XO (gx K) (cxOf (L2.CX P w) P w K mg base ["self", "name", "candle", "thick", "sheets"] "Table.take" (defScope s_Table_take) (He.fAd K ("Table", some "take")) cdv A outer s H E) E := XO.ofDef rfl sc_Table_take.nd hr
  exact (sl_cons (st_if (bs_cmp (op_notInA (xu1 xo)) sr_notInS rfl (es_v 1) (es_fld 0 rfl (fld_holders T) rfl (es_v 0)))
  (sl_one ((st_raiseT (k := 4) xo T 5 6) (es_v 1)))
  sl_nil)
  (sl_cons (st_if (bs_cmp (op_notInA (xu1 xo)) sr_notInS rfl (es_v 1) (es_fld 2 rfl (fld_held T) rfl (es_v 0)))
  (sl_one (st_raise (k := 7) xo (T.raise 14 15)))
  sl_nil)
  (sl_cons ((st_asg) ((gs_t rfl) (gss_cons rfl (gs_n 2 xo.nd) (gss_cons rfl (gs_n 3 xo.nd) (gss_cons rfl (gs_n 4 xo.nd) gss_nil)))) ((es_dpop) (es_fld 2 rfl (fld_held T) rfl (es_v 0)) (es_v 1)))
  (sl_cons (st_fldaug 1 in_add sr_radd rfl (fld_paper T) (es_v 0) (es_v 4))
  (sl_one (st_ret (es_v 2)))))))
theorem f_Table_take (T : Tt fa fn tf K mg base) : MeF (gx K) P w K mg base 1 (He.ga K "Table") "take" ["self", "name"] m_Table_take := mkM T 2 41 37 sc_Table_take (fun _ _ _ _ _ _ us hl => match us, hl with | [_, _], _ => rfl) (fun _ _ _ _ _ _ hcd hr => d_Table_take T  hcd hr) (fnL_out (by decide) (by decide))
theorem sc_Table_best_for : FnScope ["self", "thick", "good", "name"] ["self", "thick"] (defScope s_Table_best_for) := ⟨rfl, rfl, rfl, by decide +kernel, rfl, by decide +kernel, by decide +kernel⟩
theorem d_Table_best_for (T : Tt fa fn tf K mg base) {cdv : Value} {A : Around} {outer : List PySem.Env} {s : Shared} {H : Hp} {E : XK} (hcd : cdv = .ref (He.codeOf K ("Table", some "best_for"))) (hr : Room 0 (A.deeper (PyProof.Rows.envOfC "Table.best_for" (defScope s_Table_best_for) s.heap.objs.size (He.fAd K ("Table", some "best_for")) cdv))) :
    SL (gx K) (cxOf (L2.CX P w) P w K mg base ["self", "thick", "good", "name"] "Table.best_for" (defScope s_Table_best_for) (He.fAd K ("Table", some "best_for")) cdv A outer s H E) E (defBody s_Table_best_for) b_Table_best_for := by
  have xo : XO (gx K) (cxOf (L2.CX P w) P w K mg base ["self", "thick", "good", "name"] "Table.best_for" (defScope s_Table_best_for) (He.fAd K ("Table", some "best_for")) cdv A outer s H E) E := XO.ofDef rfl sc_Table_best_for.nd hr
  exact (sl_cons (st_if (bs_cmp op_lt sr_cmp rfl (es_v 1) es_int)
  (sl_one (st_raise (k := 3) xo (T.raise 16 17)))
  sl_nil)
  (sl_cons (st_lk (pF 0 0) (st_setLc 2 xo (own := [("name", 3)]) (is_seq (es_fld 0 rfl (fld_holders T) rfl (es_v 0))) (blkOk_by (by kernel_rfl)) (fun _ => (gs_n 3 xo.blk.nd)) (by decide) (fun _ => (ts_one (bs_w (bw_and (bs_cmp (op_notInA (xu1 xo.blk)) sr_notInS rfl (es_v 3) (es_fld 2 rfl (fld_held T) rfl (es_v 0))) (bw_and1 (bs_cmp op_ge sr_cmp rfl (es_ix xo.blk (by intro _ _; rfl) (es_fld 0 rfl (fld_holders T) rfl (es_v 0)) (es_v 3)) (es_v 1))))))) (fun _ => (es_v 3)) (sw_true rfl rfl rfl (by kernel_rfl))))
  (sl_cons (st_if (bs_cmp (op_eqD (xu xo)) sr_eq rfl (es_v 2) (es_lst as_nil))
  (sl_one (st_raise (k := 6) xo (T.raise 12 13)))
  sl_nil)
  (sl_one (st_ret (es_minKey (x := "name") (i := 3) hr (T.code 1) hcd (List.mem_of_getElem? (i := 1) rfl) (tabs_uniq T.nd (List.mem_of_getElem? (i := 1) rfl)) (lam1S_by (by kernel_rfl)) (T.free 0) (es_v 2) (qk_tup (qas_cons (by intro _; rfl) (q_op qo_sub q_int (q_op qo_div (q_op qo_sub (q_free 1 rfl rfl) (q_ixK (by intro _ _; rfl) (q_fld 0 rfl (fld_holders T) (q_free 0 rfl rfl)) (q_own 3 (List.mem_of_getElem? (i := 0) rfl) rfl))) q_int)) (qas_cons (by intro _; rfl) (q_own 3 (List.mem_of_getElem? (i := 0) rfl) rfl) qas_nil)))))))))
theorem f_Table_best_for (T : Tt fa fn tf K mg base) : MeF (gx K) P w K mg base 1 (He.ga K "Table") "best_for" ["self", "thick"] m_Table_best_for := mkM T 3 42 37 sc_Table_best_for (fun _ _ _ _ _ _ us hl => match us, hl with | [_, _], _ => rfl) (fun _ _ _ _ _ _ hcd hr => d_Table_best_for T  hcd hr) (fnL_out (by decide) (by decide))
theorem sc_Table_bare : FnScope ["self", "name"] ["self"] (defScope s_Table_bare) := ⟨rfl, rfl, rfl, by decide +kernel, rfl, by decide +kernel, by decide +kernel⟩
theorem d_Table_bare (T : Tt fa fn tf K mg base) {cdv : Value} {A : Around} {outer : List PySem.Env} {s : Shared} {H : Hp} {E : XK} (hcd : cdv = .ref (He.codeOf K ("Table", some "bare"))) (hr : Room 0 (A.deeper (PyProof.Rows.envOfC "Table.bare" (defScope s_Table_bare) s.heap.objs.size (He.fAd K ("Table", some "bare")) cdv))) :
    SL (gx K) (cxOf (L2.CX P w) P w K mg base ["self", "name"] "Table.bare" (defScope s_Table_bare) (He.fAd K ("Table", some "bare")) cdv A outer s H E) E (defBody s_Table_bare) b_Table_bare := by
  have xo : XO (gx K) (cxOf (L2.CX P w) P w K mg base ["self", "name"] "Table.bare" (defScope s_Table_bare) (He.fAd K ("Table", some "bare")) cdv A outer s H E) E := XO.ofDef rfl sc_Table_bare.nd hr
  exact (sl_one (st_ret ((es_cty call_tuple_of sc_tuple (T.free 18) bt_tuple) (as_cons rfl (es_lk (pF 0 0) (es_lc xo (own := [("name", 1)]) (is_seq (es_fld 0 rfl (fld_holders T) rfl (es_v 0))) (blkOk_by (by kernel_rfl)) (fun _ => (gs_n 1 xo.blk.nd)) (by decide) (fun _ => (ts_one (bs_cmp (op_notInA (xu1 xo.blk)) sr_notInS rfl (es_v 1) (es_fld 2 rfl (fld_held T) rfl (es_v 0))))) (fun _ => (es_v 1)))) as_nil))))
theorem f_Table_bare (T : Tt fa fn tf K mg base) : MeF (gx K) P w K mg base 1 (He.ga K "Table") "bare" ["self"] m_Table_bare := mkM T 4 43 37 sc_Table_bare (fun _ _ _ _ _ _ us hl => match us, hl with | [_], _ => rfl) (fun _ _ _ _ _ _ hcd hr => d_Table_bare T  hcd hr) (fnL_out (by decide) (by decide))
theorem sc_Table_shown : FnScope ["self"] ["self"] (defScope s_Table_shown) := ⟨rfl, rfl, rfl, by decide +kernel, rfl, by decide +kernel, by decide +kernel⟩
theorem d_Table_shown (T : Tt fa fn tf K mg base) {cdv : Value} {A : Around} {outer : List PySem.Env} {s : Shared} {H : Hp} {E : XK} (hcd : cdv = .ref (He.codeOf K ("Table", some "shown"))) (hr : Room 0 (A.deeper (PyProof.Rows.envOfC "Table.shown" (defScope s_Table_shown) s.heap.objs.size (He.fAd K ("Table", some "shown")) cdv))) :
    SL (gx K) (cxOf (L2.CX P w) P w K mg base ["self"] "Table.shown" (defScope s_Table_shown) (He.fAd K ("Table", some "shown")) cdv A outer s H E) E (defBody s_Table_shown) b_Table_shown := by
  have xo : XO (gx K) (cxOf (L2.CX P w) P w K mg base ["self"] "Table.shown" (defScope s_Table_shown) (He.fAd K ("Table", some "shown")) cdv A outer s H E) E := XO.ofDef rfl sc_Table_shown.nd hr
  exact (sl_one (st_ret (es_tup (as_cons rfl ((es_cty call_tuple_of sc_tuple (T.free 18) bt_tuple) (as_cons rfl ((es_itSort xo (T.free 4)) (es_fld 2 rfl (fld_held T) rfl (es_v 0))) as_nil)) (as_cons rfl (es_fld 1 rfl (fld_paper T) rfl (es_v 0)) as_nil)))))
theorem f_Table_shown (T : Tt fa fn tf K mg base) : MeF (gx K) P w K mg base 1 (He.ga K "Table") "shown" ["self"] m_Table_shown := mkM T 5 44 37 sc_Table_shown (fun _ _ _ _ _ _ us hl => match us, hl with | [_], _ => rfl) (fun _ _ _ _ _ _ hcd hr => d_Table_shown T  hcd hr) (fnL_out (by decide) (by decide))
theorem sc_fitted : FnScope ["candles", "sockets", "row", "let", "left", "many", "thick", "good", "wide"] ["candles", "sockets"] (defScope s_fitted) := ⟨rfl, rfl, rfl, by decide +kernel, rfl, by decide +kernel, by decide +kernel⟩
theorem d_fitted (T : Tt fa fn tf K mg base) {cdv : Value} {A : Around} {outer : List PySem.Env} {s : Shared} {H : Hp} {E : XK} (hcd : cdv = .ref (He.codeOf K ("fitted", none))) (hr : Room 0 (A.deeper (PyProof.Rows.envOfC "fitted" (defScope s_fitted) s.heap.objs.size (He.fAd K ("fitted", none)) cdv))) :
    SL (gx K) (cxOf (L2.CX P w) P w K mg base ["candles", "sockets", "row", "let", "left", "many", "thick", "good", "wide"] "fitted" (defScope s_fitted) (He.fAd K ("fitted", none)) cdv A outer s H E) E (defBody s_fitted) b_fitted := by
  have xo : XO (gx K) (cxOf (L2.CX P w) P w K mg base ["candles", "sockets", "row", "let", "left", "many", "thick", "good", "wide"] "fitted" (defScope s_fitted) (He.fAd K ("fitted", none)) cdv A outer s H E) E := XO.ofDef rfl sc_fitted.nd hr
  exact (sl_cons ((st_asg) ((gs_t rfl) (gss_cons rfl (gs_n 2 xo.nd) (gss_cons rfl (gs_n 3 xo.nd) gss_nil))) (es_v 0))
  (sl_cons (st_if (bs_cmp op_lt sr_cmp rfl (es_v 3) es_int)
  (sl_one (st_raise (k := 3) xo (T.raise 16 17)))
  sl_nil)
  (sl_cons ((st_par 4 5 xo) (as_cons rfl ((es_cbN (cr_sortD (xu10 xo)) sn_sorted (T.free 4) bt_sorted) (as_cons rfl (es_v 1) as_nil)) (as_cons rfl es_int as_nil)))
  (sl_cons ((st_for xo own_def) (is_seq ((es_cb (callR_or (cr_sortK rfl (xu10 xo)) (cr_sortD (xu10 xo))) sc_sorted (T.free 4) bt_sorted) (as_cons rfl (es_v 2) as_nil))) (gs_n 6 xo.nd) 
  (sl_cons (st_setLc 7 xo (own := [("wide", 8)]) (is_seq (es_v 4)) (blkOk_by (by kernel_rfl)) (fun _ => (gs_n 8 xo.blk.nd)) (by decide) (fun _ => (ts_one (bs_chain op_le sr_cmp op_le sr_cmp (by with_unfolding_all rfl) (es_v 6) (es_v 8) (es_op op_addAll sr_add (es_v 6) (es_v 3))))) (fun _ => (es_v 8)) (sw_true rfl rfl rfl (by kernel_rfl)))
  (sl_one (st_if (bs_cmp (op_neD (xu xo)) sr_ne rfl (es_v 7) (es_lst as_nil))
  (sl_cons ((st_expr) ((es_lrem) (es_v 4) (es_ix xo (by intro _ _; rfl) (es_v 7) es_int)))
  (sl_one ((st_aug 5 xo ip_add sr_iadd) es_int)))
  sl_nil))))
  (sl_one (st_ret (es_v 5)))))))
theorem f_fitted (T : Tt fa fn tf K mg base) : FnF (gx K) P w K mg base 1 "fitted" ["candles", "sockets"] m_fitted := mkF T 6 26 sc_fitted (fun _ _ _ _ _ _ us hl => match us, hl with | [_, _], _ => rfl) (fun _ _ _ _ _ _ hcd hr => d_fitted T  hcd hr)
theorem sc_laid : FnScope ["places", "holders", "found", "number"] ["places", "holders"] (defScope s_laid) := ⟨rfl, rfl, rfl, by decide +kernel, rfl, by decide +kernel, by decide +kernel⟩
theorem d_laid (T : Tt fa fn tf K mg base) {cdv : Value} {A : Around} {outer : List PySem.Env} {s : Shared} {H : Hp} {E : XK} (hcd : cdv = .ref (He.codeOf K ("laid", none))) (hr : Room 0 (A.deeper (PyProof.Rows.envOfC "laid" (defScope s_laid) s.heap.objs.size (He.fAd K ("laid", none)) cdv))) :
    SL (gx K) (cxOf (L2.CX P w) P w K mg base ["places", "holders", "found", "number"] "laid" (defScope s_laid) (He.fAd K ("laid", none)) cdv A outer s H E) E (defBody s_laid) b_laid := by
  have xo : XO (gx K) (cxOf (L2.CX P w) P w K mg base ["places", "holders", "found", "number"] "laid" (defScope s_laid) (He.fAd K ("laid", none)) cdv A outer s H E) E := XO.ofDef rfl sc_laid.nd hr
  exact (sl_cons (st_if (bs_w (bw_or (bs_cmp op_lt sr_cmp rfl (es_v 0) es_int) (bw_or1 (bs_cmp op_lt sr_cmp rfl (es_v 1) es_int))))
  (sl_one (st_raise (k := 3) xo (T.raise 16 17)))
  sl_nil)
  (sl_cons (st_if (bs_cmp op_gt sr_cmp rfl (es_v 1) (es_v 0))
  (sl_one (st_raise (k := 5) xo (T.raise 10 11)))
  sl_nil)
  (sl_cons ((st_set 2 xo) (es_newL as_nil))
  (sl_cons ((st_for xo own_def) ((is_range1 (T.free 19)) (as_cons rfl (es_v 1) as_nil)) (gs_n 3 xo.nd) 
  (sl_one ((st_expr) ((es_append) (es_v 2) (es_if (bs_cmp (op_eqD (xu xo)) sr_eq rfl (es_op op_modN sr_mod (es_v 3) es_int) es_int) (es_op op_fdivN sr_div (es_v 3) es_int) (es_op op_sub sr_sub (es_op op_sub sr_sub (es_v 0) es_int) (es_op op_fdivN sr_div (es_v 3) es_int)))))))
  (sl_one (st_ret ((es_cty call_tuple_of sc_tuple (T.free 18) bt_tuple) (as_cons rfl (es_v 2) as_nil))))))))
theorem f_laid (T : Tt fa fn tf K mg base) : FnF (gx K) P w K mg base 1 "laid" ["places", "holders"] m_laid := mkF T 7 27 sc_laid (fun _ _ _ _ _ _ us hl => match us, hl with | [_, _], _ => rfl) (fun _ _ _ _ _ _ hcd hr => d_laid T  hcd hr)
theorem sc_wobbles : FnScope ["feet", "order"] ["feet"] (defScope s_wobbles) := ⟨rfl, rfl, rfl, by decide +kernel, rfl, by decide +kernel, by decide +kernel⟩
theorem d_wobbles (T : Tt fa fn tf K mg base) {cdv : Value} {A : Around} {outer : List PySem.Env} {s : Shared} {H : Hp} {E : XK} (hcd : cdv = .ref (He.codeOf K ("wobbles", none))) (hr : Room 0 (A.deeper (PyProof.Rows.envOfC "wobbles" (defScope s_wobbles) s.heap.objs.size (He.fAd K ("wobbles", none)) cdv))) :
    SL (gx K) (cxOf (L2.CX P w) P w K mg base ["feet", "order"] "wobbles" (defScope s_wobbles) (He.fAd K ("wobbles", none)) cdv A outer s H E) E (defBody s_wobbles) b_wobbles := by
  have xo : XO (gx K) (cxOf (L2.CX P w) P w K mg base ["feet", "order"] "wobbles" (defScope s_wobbles) (He.fAd K ("wobbles", none)) cdv A outer s H E) E := XO.ofDef rfl sc_wobbles.nd hr
  exact (sl_cons (st_if (bs_cmp op_lt sr_cmp rfl ((es_cb (callR_or call_len call_lenD) sc_len (T.free 20) PySem.boot_len) (as_cons rfl (es_v 0) as_nil)) es_int)
  (sl_one (st_raise (k := 2) xo (T.raise 1 2)))
  sl_nil)
  (sl_cons ((st_set 1 xo) ((es_sortKw xo (T.free 4)) (es_v 0)))
  (sl_one (st_ret (es_op op_sub sr_sub (es_ix xo (by intro _ _; rfl) (es_v 1) es_int) (es_ix xo (by intro _ _; rfl) (es_v 1) es_int))))))
theorem f_wobbles (T : Tt fa fn tf K mg base) : FnF (gx K) P w K mg base 1 "wobbles" ["feet"] m_wobbles := mkF T 8 28 sc_wobbles (fun _ _ _ _ _ _ us hl => match us, hl with | [_], _ => rfl) (fun _ _ _ _ _ _ hcd hr => d_wobbles T  hcd hr)
theorem sc_law_dice : FnScope ["cell"] ["cell"] (defScope s_law_dice) := ⟨rfl, rfl, rfl, by decide +kernel, rfl, by decide +kernel, by decide +kernel⟩
theorem d_law_dice (T : Tt fa fn tf K mg base) {cdv : Value} {A : Around} {outer : List PySem.Env} {s : Shared} {H : Hp} {E : XK} (hcd : cdv = .ref (He.codeOf K ("_law_dice", none))) (hr : Room 0 (A.deeper (PyProof.Rows.envOfC "_law_dice" (defScope s_law_dice) s.heap.objs.size (He.fAd K ("_law_dice", none)) cdv))) :
    SL (gx K) (cxOf (L2.CX P w) P w K mg base ["cell"] "_law_dice" (defScope s_law_dice) (He.fAd K ("_law_dice", none)) cdv A outer s H E) E (defBody s_law_dice) b_law_dice := by
  have xo : XO (gx K) (cxOf (L2.CX P w) P w K mg base ["cell"] "_law_dice" (defScope s_law_dice) (He.fAd K ("_law_dice", none)) cdv A outer s H E) E := XO.ofDef rfl sc_law_dice.nd hr
  exact (sl_cons (st_if (bs_chain op_lt sr_cmp op_lt sr_cmp (by with_unfolding_all rfl) (es_op op_sub sr_sub es_int es_int) (es_v 0) es_int)
  (sl_one (st_ret (es_newL (as_cons rfl ((es_cb call_abs sc_abs (T.free 21) bt_abs) (as_cons rfl (es_v 0) as_nil)) (as_cons rfl es_int (as_cons rfl es_int as_nil))))))
  sl_nil)
  (sl_one (st_ret (es_newL (as_cons rfl (es_v 0) (as_cons rfl (es_op op_addAll sr_add es_int (es_op op_modN sr_mod ((es_cty call_int1 sc_int (T.free 22) bt_int) (as_cons rfl (es_v 0) as_nil)) es_int)) (as_cons rfl ((es_cty call_int1 sc_int (T.free 22) bt_int) (as_cons rfl (es_cmp op_ge sr_cmp rfl (es_v 0) (es_op op_pow sr_pow es_int es_int)) as_nil)) as_nil)))))))
theorem f_law_dice (T : Tt fa fn tf K mg base) : FnF (gx K) P w K mg base 1 "_law_dice" ["cell"] m_law_dice := mkF T 9 29 sc_law_dice (fun _ _ _ _ _ _ us hl => match us, hl with | [_], _ => rfl) (fun _ _ _ _ _ _ hcd hr => d_law_dice T  hcd hr)
theorem sc_law_roll : FnScope ["dice", "many", "found"] ["dice", "many"] (defScope s_law_roll) := ⟨rfl, rfl, rfl, by decide +kernel, rfl, by decide +kernel, by decide +kernel⟩
theorem d_law_roll (T : Tt fa fn tf K mg base) {cdv : Value} {A : Around} {outer : List PySem.Env} {s : Shared} {H : Hp} {E : XK} (hcd : cdv = .ref (He.codeOf K ("_law_roll", none))) (hr : Room 0 (A.deeper (PyProof.Rows.envOfC "_law_roll" (defScope s_law_roll) s.heap.objs.size (He.fAd K ("_law_roll", none)) cdv))) :
    SL (gx K) (cxOf (L2.CX P w) P w K mg base ["dice", "many", "found"] "_law_roll" (defScope s_law_roll) (He.fAd K ("_law_roll", none)) cdv A outer s H E) E (defBody s_law_roll) b_law_roll := by
  have xo : XO (gx K) (cxOf (L2.CX P w) P w K mg base ["dice", "many", "found"] "_law_roll" (defScope s_law_roll) (He.fAd K ("_law_roll", none)) cdv A outer s H E) E := XO.ofDef rfl sc_law_roll.nd hr
  exact (sl_cons (st_if (bs_w (bw_or (bs_cmp (op_eqD (xu xo)) sr_eq rfl (es_ix xo (by intro _ _; rfl) (es_v 0) es_int) es_int) (bw_or1 (bs_w (bw_and (bs_cmp (op_eqD (xu xo)) sr_eq rfl (es_ix xo (by intro _ _; rfl) (es_v 0) es_int) es_int) (bw_and1 (bs_cmp op_gt sr_cmp rfl (es_ix xo (by intro _ _; rfl) (es_v 0) es_int) es_int)))))))
  (sl_cons ((st_set 2 xo) (es_op op_modN sr_mod ((es_cty call_int1 sc_int (T.free 22) bt_int) (as_cons rfl (es_ix xo (by intro _ _; rfl) (es_v 0) es_int) as_nil)) (es_v 1)))
  (sl_cons ((st_sub) (es_v 0) es_int (es_op op_fdivN sr_div (es_ix xo (by intro _ _; rfl) (es_v 0) es_int) (es_v 1)))
  (sl_one (st_ret (es_v 2)))))
  sl_nil)
  (sl_cons ((st_sub) (es_v 0) es_int es_int)
  (sl_cons ((st_sub) (es_v 0) es_int (es_op op_modN sr_mod ((es_cty call_int1 sc_int (T.free 22) bt_int) (as_cons rfl (es_op op_addAll sr_add (es_op op_addAll sr_add (es_op op_mulAll sr_mul (es_ix xo (by intro _ _; rfl) (es_v 0) es_int) es_int) (es_op op_mulAll sr_mul (es_ix xo (by intro _ _; rfl) (es_v 0) es_int) es_int)) es_int) as_nil)) es_int))
  (sl_cons ((st_sub) (es_v 0) es_int (es_op op_addAll sr_add (es_ix xo (by intro _ _; rfl) (es_v 0) es_int) es_int))
  (sl_one (st_ret (es_op op_modN sr_mod ((es_cty call_int1 sc_int (T.free 22) bt_int) (as_cons rfl (es_op op_addAll sr_add (es_op op_fdivN sr_div (es_ix xo (by intro _ _; rfl) (es_v 0) es_int) es_int) (es_ix xo (by intro _ _; rfl) (es_v 0) es_int)) as_nil)) (es_v 1))))))))
theorem f_law_roll (T : Tt fa fn tf K mg base) : FnF (gx K) P w K mg base 1 "_law_roll" ["dice", "many"] m_law_roll := mkF T 10 30 sc_law_roll (fun _ _ _ _ _ _ us hl => match us, hl with | [_, _], _ => rfl) (fun _ _ _ _ _ _ hcd hr => d_law_roll T  hcd hr)
theorem sc_law_rounds : FnScope ["script", "most", "cells", "cell"] ["script", "most"] (defScope s_law_rounds) := ⟨rfl, rfl, rfl, by decide +kernel, rfl, by decide +kernel, by decide +kernel⟩
theorem d_law_rounds (T : Tt fa fn tf K mg base) (c_law_dice : FnF (gx K) P w K mg base 1 "_law_dice" ["cell"] m_law_dice) {cdv : Value} {A : Around} {outer : List PySem.Env} {s : Shared} {H : Hp} {E : XK} (hcd : cdv = .ref (He.codeOf K ("_law_rounds", none))) (hr : Room 1 (A.deeper (PyProof.Rows.envOfC "_law_rounds" (defScope s_law_rounds) s.heap.objs.size (He.fAd K ("_law_rounds", none)) cdv))) :
    SL (gx K) (cxOf (L2.CX P w) P w K mg base ["script", "most", "cells", "cell"] "_law_rounds" (defScope s_law_rounds) (He.fAd K ("_law_rounds", none)) cdv A outer s H E) E (defBody s_law_rounds) b_law_rounds := by
  have xo : XO (gx K) (cxOf (L2.CX P w) P w K mg base ["script", "most", "cells", "cell"] "_law_rounds" (defScope s_law_rounds) (He.fAd K ("_law_rounds", none)) cdv A outer s H E) E := XO.ofDef rfl sc_law_rounds.nd hr
  exact (sl_cons ((st_set 2 xo) (es_sl (es_v 0) os_none (os_some (es_v 1))))
  (sl_cons (st_if (bs_cmp (op_eqD (xu xo)) sr_eq rfl (es_v 2) (es_lst as_nil))
  (sl_one ((st_set 2 xo) (es_lst (as_cons rfl es_int as_nil))))
  sl_nil)
  (sl_one (st_ret (es_lc xo (own := [("cell", 3)]) (is_seq (es_v 2)) (blkOk_by (by kernel_rfl)) (fun _ => (gs_n 3 xo.blk.nd)) (by decide) (fun _ => ts_nil) (fun _ => ((es_call xo.blk c_law_dice (hr.mono (by decide))) (as_cons rfl (es_v 3) as_nil))))))))
theorem f_law_rounds (T : Tt fa fn tf K mg base) (c_law_dice : FnF (gx K) P w K mg base 1 "_law_dice" ["cell"] m_law_dice) : FnF (gx K) P w K mg base 2 "_law_rounds" ["script", "most"] m_law_rounds := mkF T 11 31 sc_law_rounds (fun _ _ _ _ _ _ us hl => match us, hl with | [_, _], _ => rfl) (fun _ _ _ _ _ _ hcd hr => d_law_rounds T c_law_dice hcd hr)
theorem sc_law_most : FnScope ["candles", "sockets", "let", "found", "k"] ["candles", "sockets", "let"] (defScope s_law_most) := ⟨rfl, rfl, rfl, by decide +kernel, rfl, by decide +kernel, by decide +kernel⟩
theorem d_law_most (n : Nat) {rec : Fn} (T : Tt fa fn tf K mg base) (c_law_most : FnF (gx K) P w K mg base (1 + n) "_law_most" ["candles", "sockets", "let"] rec) {cdv : Value} {A : Around} {outer : List PySem.Env} {s : Shared} {H : Hp} {E : XK} (hcd : cdv = .ref (He.codeOf K ("_law_most", none))) (hr : Room (1 + n) (A.deeper (PyProof.Rows.envOfC "_law_most" (defScope s_law_most) s.heap.objs.size (He.fAd K ("_law_most", none)) cdv))) :
    SL (gx K) (cxOf (L2.CX P w) P w K mg base ["candles", "sockets", "let", "found", "k"] "_law_most" (defScope s_law_most) (He.fAd K ("_law_most", none)) cdv A outer s H E) E (defBody s_law_most) (b_law_most rec) := by
  have xo : XO (gx K) (cxOf (L2.CX P w) P w K mg base ["candles", "sockets", "let", "found", "k"] "_law_most" (defScope s_law_most) (He.fAd K ("_law_most", none)) cdv A outer s H E) E := XO.ofDef rfl sc_law_most.nd hr
  exact (sl_cons (st_if (bs_cmp (op_eqD (xu xo)) sr_eq rfl (es_v 0) (es_lst as_nil))
  (sl_one (st_ret es_int))
  sl_nil)
  (sl_cons ((st_set 3 xo) (es_newL (as_cons rfl ((es_call xo c_law_most (hr.mono (by omega))) (as_cons rfl (es_sl (es_v 0) (os_some es_int) os_none) (as_cons rfl (es_v 1) (as_cons rfl (es_v 2) as_nil)))) as_nil)))
  (sl_cons ((st_for xo own_def) ((is_range1 (T.free 19)) (as_cons rfl ((es_cb (callR_or call_len call_lenD) sc_len (T.free 20) PySem.boot_len) (as_cons rfl (es_v 1) as_nil)) as_nil)) (gs_n 4 xo.nd) 
  (sl_one (st_if (bs_chain op_le sr_cmp op_le sr_cmp (by with_unfolding_all rfl) es_int (es_op op_sub sr_sub (es_ix xo (by intro _ _; rfl) (es_v 1) (es_v 4)) (es_ix xo (by intro _ _; rfl) (es_v 0) es_int)) (es_v 2))
  (sl_one ((st_expr) ((es_append) (es_v 3) (es_op op_addAll sr_add es_int ((es_call xo c_law_most (hr.mono (by omega))) (as_cons rfl (es_sl (es_v 0) (os_some es_int) os_none) (as_cons rfl (es_op op_addAll sr_add (es_sl (es_v 1) os_none (os_some (es_v 4))) (es_sl (es_v 1) (os_some (es_op op_addAll sr_add (es_v 4) es_int)) os_none)) (as_cons rfl (es_v 2) as_nil))))))))
  sl_nil)))
  (sl_one (st_ret ((es_cb (callR_or (callR_or (call_max2 rfl) (cr_max rfl)) (cr_maxT rfl)) scS_max (T.free 23) bt_max) (as_cons rfl (es_v 3) as_nil)))))))
theorem f_law_most (T : Tt fa fn tf K mg base) : ∀ n : Nat, FnF (gx K) P w K mg base (1 + n) "_law_most" ["candles", "sockets", "let"] (m_law_most n)
  | 0 => mkF T 12 32 sc_law_most (fun _ _ _ _ _ _ us hl => match us, hl with | [_, _, _], _ => rfl) (fun _ _ _ _ _ _ _ _ => sl_bad)
  | n + 1 => mkF (k := 1 + n) T 12 32 sc_law_most (fun _ _ _ _ _ _ us hl => match us, hl with | [_, _, _], _ => rfl) (fun _ _ _ _ _ _ hcd hr => d_law_most n T (f_law_most T n) hcd hr)
theorem sc_law_cases1 : FnScope [] [] (defScope s_law_cases1) := ⟨rfl, rfl, rfl, by decide +kernel, rfl, by decide +kernel, by decide +kernel⟩
theorem d_law_cases1 (T : Tt fa fn tf K mg base) (c_fitted : FnF (gx K) P w K mg base 1 "fitted" ["candles", "sockets"] m_fitted) (c_laid : FnF (gx K) P w K mg base 1 "laid" ["places", "holders"] m_laid) {cdv : Value} {A : Around} {outer : List PySem.Env} {s : Shared} {H : Hp} {E : XK} (hcd : cdv = .ref (He.codeOf K ("_law_cases1", none))) (hr : Room 3 (A.deeper (PyProof.Rows.envOfC "_law_cases1" (defScope s_law_cases1) s.heap.objs.size (He.fAd K ("_law_cases1", none)) cdv))) :
    SL (gx K) (cxOf (L2.CX P w) P w K mg base [] "_law_cases1" (defScope s_law_cases1) (He.fAd K ("_law_cases1", none)) cdv A outer s H E) E (defBody s_law_cases1) b_law_cases1 := by
  have xo : XO (gx K) (cxOf (L2.CX P w) P w K mg base [] "_law_cases1" (defScope s_law_cases1) (He.fAd K ("_law_cases1", none)) cdv A outer s H E) E := XO.ofDef rfl sc_law_cases1.nd hr
  exact (sl_cons (st_if (bs_cmp (op_neD (xu xo)) sr_ne rfl (x_told (k := 1) T hcd 2 (hr.mono (by decide)) (LamX.lamS_by (by kernel_rfl)) (fun A outer s H E f c h1 => ((es_call (xo.lam h1) c_fitted (h1.mono (by decide))) (as_cons rfl (es_tup (as_cons rfl (es_lst as_nil) (as_cons rfl (es_op op_sub sr_sub es_int es_int) as_nil))) (as_cons rfl (es_lst as_nil) as_nil))))) (es_str [115, 105, 122, 101]))
  (sl_one (st_ret es_bl))
  sl_nil)
  (sl_cons (st_if (bs_cmp (op_neD (xu xo)) sr_ne rfl (x_told (k := 1) T hcd 2 (hr.mono (by decide)) (LamX.lamS_by (by kernel_rfl)) (fun A outer s H E f c h2 => ((es_call (xo.lam h2) c_laid (h2.mono (by decide))) (as_cons rfl (es_op op_sub sr_sub es_int es_int) (as_cons rfl es_int as_nil))))) (es_str [115, 105, 122, 101]))
  (sl_one (st_ret es_bl))
  sl_nil)
  (sl_one (st_ret es_bl))))
theorem f_law_cases1 (T : Tt fa fn tf K mg base) (c_fitted : FnF (gx K) P w K mg base 1 "fitted" ["candles", "sockets"] m_fitted) (c_laid : FnF (gx K) P w K mg base 1 "laid" ["places", "holders"] m_laid) : FnF (gx K) P w K mg base 4 "_law_cases1" [] m_law_cases1 := mkF T 13 33 sc_law_cases1 (fun _ _ _ _ _ _ us hl => match us, hl with | [], _ => rfl) (fun _ _ _ _ _ _ hcd hr => d_law_cases1 T c_fitted c_laid hcd hr)
theorem sc_law_rest1 : FnScope ["dice", "table", "candles", "sockets", "let", "k", "places", "many", "told", "ends", "place", "feet", "row"] ["dice", "table"] (defScope s_law_rest1) := ⟨rfl, rfl, rfl, by decide +kernel, rfl, by decide +kernel, by decide +kernel⟩
theorem d_law_rest1 (T : Tt fa fn tf K mg base) (c_law_cases1 : FnF (gx K) P w K mg base 4 "_law_cases1" [] m_law_cases1) (c_law_roll : FnF (gx K) P w K mg base 1 "_law_roll" ["dice", "many"] m_law_roll) (c_fitted : FnF (gx K) P w K mg base 1 "fitted" ["candles", "sockets"] m_fitted) (c_law_most : FnF (gx K) P w K mg base 21 "_law_most" ["candles", "sockets", "let"] (m_law_most 20)) (c_laid : FnF (gx K) P w K mg base 1 "laid" ["places", "holders"] m_laid) (c_wobbles : FnF (gx K) P w K mg base 1 "wobbles" ["feet"] m_wobbles) (c_Table_init : MkF (gx K) P w K mg base 1 (He.ga K "Table") "Table" ["self", "holders", "paper"] m_Table_init) (c_Table_best_for : MeF (gx K) P w K mg base 1 (He.ga K "Table") "best_for" ["self", "thick"] m_Table_best_for) {cdv : Value} {A : Around} {outer : List PySem.Env} {s : Shared} {H : Hp} {E : XK} (hcd : cdv = .ref (He.codeOf K ("_law_rest1", none))) (hr : Room 21 (A.deeper (PyProof.Rows.envOfC "_law_rest1" (defScope s_law_rest1) s.heap.objs.size (He.fAd K ("_law_rest1", none)) cdv))) :
    SL (gx K) (cxOf (L2.CX P w) P w K mg base ["dice", "table", "candles", "sockets", "let", "k", "places", "many", "told", "ends", "place", "feet", "row"] "_law_rest1" (defScope s_law_rest1) (He.fAd K ("_law_rest1", none)) cdv A outer s H E) E (defBody s_law_rest1) b_law_rest1 := by
  have xo : XO (gx K) (cxOf (L2.CX P w) P w K mg base ["dice", "table", "candles", "sockets", "let", "k", "places", "many", "told", "ends", "place", "feet", "row"] "_law_rest1" (defScope s_law_rest1) (He.fAd K ("_law_rest1", none)) cdv A outer s H E) E := XO.ofDef rfl sc_law_rest1.nd hr
  exact (sl_cons ((st_par3 2 3 4 xo) (as_cons rfl (es_lc xo (own := [("k", 5)]) ((is_range1 (T.free 19)) (as_cons rfl ((es_call xo c_law_roll (hr.mono (by decide))) (as_cons rfl (es_v 0) (as_cons rfl es_int as_nil))) as_nil)) (blkOk_by (by kernel_rfl)) (fun _ => (gs_n 5 xo.blk.nd)) (by decide) (fun _ => ts_nil) (fun _ => ((es_call xo.blk c_law_roll (hr.mono (by decide))) (as_cons rfl (es_v 0) (as_cons rfl es_int as_nil))))) (as_cons rfl (es_lc xo (own := [("k", 5)]) ((is_range1 (T.free 19)) (as_cons rfl ((es_call xo c_law_roll (hr.mono (by decide))) (as_cons rfl (es_v 0) (as_cons rfl es_int as_nil))) as_nil)) (blkOk_by (by kernel_rfl)) (fun _ => (gs_n 5 xo.blk.nd)) (by decide) (fun _ => ts_nil) (fun _ => ((es_call xo.blk c_law_roll (hr.mono (by decide))) (as_cons rfl (es_v 0) (as_cons rfl es_int as_nil))))) (as_cons rfl ((es_call xo c_law_roll (hr.mono (by decide))) (as_cons rfl (es_v 0) (as_cons rfl es_int as_nil))) as_nil))))
  (sl_cons (st_if (bs_cmp (op_neD (xu xo)) sr_ne rfl ((es_call xo c_fitted (hr.mono (by decide))) (as_cons rfl (es_tup (as_cons rfl (es_v 2) (as_cons rfl (es_v 4) as_nil))) (as_cons rfl (es_v 3) as_nil))) ((es_call xo c_law_most (hr.mono (by decide))) (as_cons rfl (es_v 2) (as_cons rfl (es_v 3) (as_cons rfl (es_v 4) as_nil)))))
  (sl_one (st_ret es_bl))
  sl_nil)
  (sl_cons ((st_asg) ((gs_t rfl) (gss_cons rfl (gs_n 6 xo.nd) (gss_cons rfl (gs_n 7 xo.nd) gss_nil))) (es_tup (as_cons rfl ((es_call xo c_law_roll (hr.mono (by decide))) (as_cons rfl (es_v 0) (as_cons rfl es_int as_nil))) (as_cons rfl ((es_call xo c_law_roll (hr.mono (by decide))) (as_cons rfl (es_v 0) (as_cons rfl es_int as_nil))) as_nil))))
  (sl_cons ((st_set 8 xo) (x_told (k := 1) T hcd 3 (hr.mono (by decide)) (LamX.lamS_by (by kernel_rfl)) (fun A outer s H E f c h1 => ((es_cty call_list_of sc_list (T.free 24) bt_list) (as_cons rfl ((es_call (xo.lam h1) c_laid (h1.mono (by decide))) (as_cons rfl (es_v 6) (as_cons rfl (es_v 7) as_nil))) as_nil)))))
  (sl_cons (st_if (bs_cmp (op_neD (xu xo)) sr_ne rfl (es_cmp (op_eqD (xu xo)) sr_eq rfl (es_v 8) (es_str [110, 111, 32, 114, 111, 111, 109])) (es_cmp op_gt sr_cmp rfl (es_v 7) (es_v 6)))
  (sl_one (st_ret es_bl))
  sl_nil)
  (sl_cons (st_if (bs_cmp (op_neD (xu xo)) sr_ne rfl (es_v 8) (es_str [110, 111, 32, 114, 111, 111, 109]))
  (sl_cons (st_setLc 9 xo (own := [("place", 10)]) (is_seq (es_v 8)) (blkOk_by (by kernel_rfl)) (fun _ => (gs_n 10 xo.blk.nd)) (by decide) (fun _ => ts_nil) (fun _ => ((es_cb (callR_or (callR_or (call_min2 rfl) (cr_min rfl)) (cr_minT rfl)) scS_min (T.free 0) bt_min) (as_cons rfl (es_v 10) (as_cons rfl (es_op op_sub sr_sub (es_op op_sub sr_sub (es_v 6) es_int) (es_v 10)) as_nil)))) (sw_true rfl rfl rfl (by kernel_rfl)))
  (sl_cons (st_if (bs_w (bw_or (bs_cmp (op_neD (xu xo)) sr_ne rfl ((es_cb (callR_or call_len call_lenD) sc_len (T.free 20) PySem.boot_len) (as_cons rfl (es_v 8) as_nil)) (es_v 7)) (bw_or (bs_cmp (op_neD (xu xo)) sr_ne rfl ((es_cb (callR_or (cr_sortK rfl (xu10 xo)) (cr_sortD (xu10 xo))) sc_sorted (T.free 4) bt_sorted) (as_cons rfl (es_v 8) as_nil)) (es_lc xo (own := [("place", 10)]) ((is_range1 (T.free 19)) (as_cons rfl (es_v 6) as_nil)) (blkOk_by (by kernel_rfl)) (fun _ => (gs_n 10 xo.blk.nd)) (by decide) (fun _ => (ts_one (bs_cmp (op_inA (xu1 xo.blk)) sr_inS rfl (es_v 10) (es_v 8)))) (fun _ => (es_v 10)))) (bw_or1 (bs_cmp (op_neD (xu xo)) sr_ne rfl (es_v 9) (es_lc xo (own := [("k", 5)]) ((is_range1 (T.free 19)) (as_cons rfl (es_v 7) as_nil)) (blkOk_by (by kernel_rfl)) (fun _ => (gs_n 5 xo.blk.nd)) (by decide) (fun _ => ts_nil) (fun _ => (es_op op_fdivN sr_div (es_v 5) es_int))))))))
  (sl_one (st_ret es_bl))
  sl_nil)
  (sl_one (st_if (bs_cmp (op_neD (xu xo)) sr_ne rfl (es_lc xo (own := [("k", 5), ("place", 10)]) ((is_enum (T.free 25)) (as_cons rfl (es_v 8) as_nil)) (blkOk_by (by kernel_rfl)) (fun _ => ((gs_t rfl) (gss_cons rfl (gs_n 5 xo.blk.nd) (gss_cons rfl (gs_n 10 xo.blk.nd) gss_nil)))) (by decide) (fun _ => (ts_one (bs_w (bw_and (bs_cmp (op_eqD (xu xo.blk)) sr_eq rfl (es_op op_modN sr_mod (es_v 5) es_int) es_int) (bw_and1 (bs_cmp (op_neD (xu xo.blk)) sr_ne rfl (es_v 10) (es_op op_fdivN sr_div (es_v 5) es_int))))))) (fun _ => (es_v 10))) (es_lst as_nil))
  (sl_one (st_ret es_bl))
  sl_nil))))
  sl_nil)
  (sl_cons ((st_set 11 xo) (es_lc xo (own := [("k", 5)]) ((is_range1 (T.free 19)) (as_cons rfl ((es_call xo c_law_roll (hr.mono (by decide))) (as_cons rfl (es_v 0) (as_cons rfl es_int as_nil))) as_nil)) (blkOk_by (by kernel_rfl)) (fun _ => (gs_n 5 xo.blk.nd)) (by decide) (fun _ => ts_nil) (fun _ => ((es_call xo.blk c_law_roll (hr.mono (by decide))) (as_cons rfl (es_v 0) (as_cons rfl es_int as_nil))))))
  (sl_cons ((st_set 12 xo) ((es_cb (callR_or (cr_sortK rfl (xu10 xo)) (cr_sortD (xu10 xo))) sc_sorted (T.free 4) bt_sorted) (as_cons rfl (es_v 11) as_nil)))
  (sl_cons (st_if (bs_cmp (op_neD (xu xo)) sr_ne rfl (x_told (k := 1) T hcd 3 (hr.mono (by decide)) (LamX.lamS_by (by kernel_rfl)) (fun A outer s H E f c h2 => ((es_call (xo.lam h2) c_wobbles (h2.mono (by decide))) (as_cons rfl (es_v 11) as_nil)))) (es_if (bs_cmp op_gt sr_cmp rfl ((es_cb (callR_or call_len call_lenD) sc_len (T.free 20) PySem.boot_len) (as_cons rfl (es_v 12) as_nil)) es_int) (es_op op_sub sr_sub (es_ix xo (by intro _ _; rfl) (es_v 12) (es_op op_sub sr_sub ((es_cb (callR_or call_len call_lenD) sc_len (T.free 20) PySem.boot_len) (as_cons rfl (es_v 12) as_nil)) es_int)) (es_ix xo (by intro _ _; rfl) (es_v 12) (es_op op_sub sr_sub ((es_cb (callR_or call_len call_lenD) sc_len (T.free 20) PySem.boot_len) (as_cons rfl (es_v 12) as_nil)) es_int))) (es_str [112, 108, 97, 110])))
  (sl_one (st_ret es_bl))
  sl_nil)
  (sl_cons (st_if (bs_cmp (op_neD (xu xo)) sr_ne rfl (x_told (k := 2) T hcd 3 (hr.mono (by decide)) (LamX.lamS_by (by kernel_rfl)) (fun A outer s H E f c h3 => ((es_make (kc := 0) (xo.lam h3) c_Table_init (h3.mono (by decide))) (as_cons rfl es_dct0 (as_cons rfl es_int as_nil))))) (es_str [112, 108, 97, 110]))
  (sl_one (st_ret es_bl))
  sl_nil)
  (sl_cons (st_if (bs_cmp (op_neD (xu xo)) sr_ne rfl (x_told (k := 2) T hcd 3 (hr.mono (by decide)) (LamX.lamS_by (by kernel_rfl)) (fun A outer s H E f c h4 => ((es_make (kc := 0) (xo.lam h4) c_Table_init (h4.mono (by decide))) (as_cons rfl (es_disp rfl rfl (by simp) (by decide) (fun _ _ _ _ h => by rw [pairs_len h]; decide) (dp_cons (es_str [97]) es_int dp_nil)) (as_cons rfl (es_op op_sub sr_sub es_int es_int) as_nil))))) (es_str [112, 108, 97, 110]))
  (sl_one (st_ret es_bl))
  sl_nil)
  (sl_cons (st_if (bs_cmp (op_neD (xu xo)) sr_ne rfl (x_told (k := 1) T hcd 3 (hr.mono (by decide)) (LamX.lamS_by (by kernel_rfl)) (fun A outer s H E f c h5 => ((es_meth (kc := 0) (xo.lam h5) c_Table_best_for (h5.mono (by decide))) (es_v 1) (as_cons rfl es_int as_nil)))) (es_str [115, 105, 122, 101]))
  (sl_one (st_ret es_bl))
  sl_nil)
  (sl_one (st_ret (es_call0 xo c_law_cases1 (hr.mono (by decide)))))))))))))))))
theorem f_law_rest1 (T : Tt fa fn tf K mg base) (c_law_cases1 : FnF (gx K) P w K mg base 4 "_law_cases1" [] m_law_cases1) (c_law_roll : FnF (gx K) P w K mg base 1 "_law_roll" ["dice", "many"] m_law_roll) (c_fitted : FnF (gx K) P w K mg base 1 "fitted" ["candles", "sockets"] m_fitted) (c_law_most : FnF (gx K) P w K mg base 21 "_law_most" ["candles", "sockets", "let"] (m_law_most 20)) (c_laid : FnF (gx K) P w K mg base 1 "laid" ["places", "holders"] m_laid) (c_wobbles : FnF (gx K) P w K mg base 1 "wobbles" ["feet"] m_wobbles) (c_Table_init : MkF (gx K) P w K mg base 1 (He.ga K "Table") "Table" ["self", "holders", "paper"] m_Table_init) (c_Table_best_for : MeF (gx K) P w K mg base 1 (He.ga K "Table") "best_for" ["self", "thick"] m_Table_best_for) : FnF (gx K) P w K mg base 22 "_law_rest1" ["dice", "table"] m_law_rest1 := mkF T 14 34 sc_law_rest1 (fun _ _ _ _ _ _ us hl => match us, hl with | [_, _], _ => rfl) (fun _ _ _ _ _ _ hcd hr => d_law_rest1 T c_law_cases1 c_law_roll c_fitted c_law_most c_laid c_wobbles c_Table_init c_Table_best_for hcd hr)
theorem sc_law : FnScope ["script", "dice", "table", "step", "thick", "good", "wide", "paper", "held", "sort", "name", "candle", "bad", "sheets", "due", "told", "one", "k", "row"] ["script"] (defScope s_law) := ⟨rfl, rfl, rfl, by decide +kernel, rfl, by decide +kernel, by decide +kernel⟩
theorem d_law (T : Tt fa fn tf K mg base) (c_law_rounds : FnF (gx K) P w K mg base 2 "_law_rounds" ["script", "most"] m_law_rounds) (c_Table_init : MkF (gx K) P w K mg base 1 (He.ga K "Table") "Table" ["self", "holders", "paper"] m_Table_init) (c_law_roll : FnF (gx K) P w K mg base 1 "_law_roll" ["dice", "many"] m_law_roll) (c_law_rest1 : FnF (gx K) P w K mg base 22 "_law_rest1" ["dice", "table"] m_law_rest1) (c_Table_bare : MeF (gx K) P w K mg base 1 (He.ga K "Table") "bare" ["self"] m_Table_bare) (c_Table_shown : MeF (gx K) P w K mg base 1 (He.ga K "Table") "shown" ["self"] m_Table_shown) (c_Table_best_for : MeF (gx K) P w K mg base 1 (He.ga K "Table") "best_for" ["self", "thick"] m_Table_best_for) (c_Table_stand : MeF (gx K) P w K mg base 1 (He.ga K "Table") "stand" ["self", "name", "candle", "thick"] m_Table_stand) (c_Table_take : MeF (gx K) P w K mg base 1 (He.ga K "Table") "take" ["self", "name"] m_Table_take) {cdv : Value} {A : Around} {outer : List PySem.Env} {s : Shared} {H : Hp} {E : XK} (hcd : cdv = .ref (He.codeOf K ("law", none))) (hr : Room 22 (A.deeper (PyProof.Rows.envOfC "law" (defScope s_law) s.heap.objs.size (He.fAd K ("law", none)) cdv))) :
    SL (gx K) (cxOf (L2.CX P w) P w K mg base ["script", "dice", "table", "step", "thick", "good", "wide", "paper", "held", "sort", "name", "candle", "bad", "sheets", "due", "told", "one", "k", "row"] "law" (defScope s_law) (He.fAd K ("law", none)) cdv A outer s H E) E (defBody s_law) b_law := by
  have xo : XO (gx K) (cxOf (L2.CX P w) P w K mg base ["script", "dice", "table", "step", "thick", "good", "wide", "paper", "held", "sort", "name", "candle", "bad", "sheets", "due", "told", "one", "k", "row"] "law" (defScope s_law) (He.fAd K ("law", none)) cdv A outer s H E) E := XO.ofDef rfl sc_law.nd hr
  exact (sl_cons ((st_for xo own_def) (is_seq ((es_call xo c_law_rounds (hr.mono (by decide))) (as_cons rfl (es_v 0) (as_cons rfl es_int as_nil)))) (gs_n 1 xo.nd) 
  (sl_cons ((st_asg) ((gs_t rfl) (gss_cons rfl (gs_n 6 xo.nd) (gss_cons rfl (gs_n 7 xo.nd) (gss_cons rfl (gs_n 8 xo.nd) gss_nil)))) (es_tup (as_cons rfl ((es_ctyN (call_dictP rfl) sn_dictP (T.free 3) bt_dict) (as_cons rfl (es_lc xo (own := [("k", 17)]) ((is_range1 (T.free 19)) (as_cons rfl (es_op op_addAll sr_add es_int ((es_call xo c_law_roll (hr.mono (by decide))) (as_cons rfl (es_v 1) (as_cons rfl es_int as_nil)))) as_nil)) (blkOk_by (by kernel_rfl)) (fun _ => (gs_n 17 xo.blk.nd)) (by decide) (fun _ => ts_nil) (fun _ => (es_tup (as_cons rfl (es_ix xo.blk (by intro _ _; rfl) (es_str [112, 113, 114]) (es_v 17)) (as_cons rfl (es_op op_addAll sr_add es_int ((es_call xo.blk c_law_roll (hr.mono (by decide))) (as_cons rfl (es_v 1) (as_cons rfl es_int as_nil)))) as_nil))))) as_nil)) (as_cons rfl ((es_call xo c_law_roll (hr.mono (by decide))) (as_cons rfl (es_v 1) (as_cons rfl es_int as_nil))) (as_cons rfl es_dct0 as_nil)))))
  (sl_cons ((st_set 2 xo) ((es_make (kc := 0) xo c_Table_init (hr.mono (by decide))) (as_cons rfl (es_v 6) (as_cons rfl (es_v 7) as_nil))))
  (sl_cons ((st_for xo own_def) ((is_range1 (T.free 19)) (as_cons rfl ((es_call xo c_law_roll (hr.mono (by decide))) (as_cons rfl (es_v 1) (as_cons rfl es_int as_nil))) as_nil)) (gs_n 3 xo.nd) 
  (sl_cons ((st_asg) ((gs_t rfl) (gss_cons rfl (gs_n 9 xo.nd) (gss_cons rfl (gs_n 10 xo.nd) (gss_cons rfl (gs_n 11 xo.nd) (gss_cons rfl (gs_n 4 xo.nd) gss_nil))))) (es_tup (as_cons rfl ((es_call xo c_law_roll (hr.mono (by decide))) (as_cons rfl (es_v 1) (as_cons rfl es_int as_nil))) (as_cons rfl (es_ix xo (by intro _ _; rfl) (es_str [112, 113, 114, 115]) ((es_call xo c_law_roll (hr.mono (by decide))) (as_cons rfl (es_v 1) (as_cons rfl es_int as_nil)))) (as_cons rfl (es_ix xo (by intro _ _; rfl) (es_lst (as_cons rfl (es_str [97]) (as_cons rfl (es_str [98]) (as_cons rfl (es_str [99]) (as_cons rfl (es_str []) as_nil))))) ((es_cb (callR_or (callR_or (call_min2 rfl) (cr_min rfl)) (cr_minT rfl)) scS_min (T.free 0) bt_min) (as_cons rfl es_int (as_cons rfl (es_op op_fdivN sr_div ((es_call xo c_law_roll (hr.mono (by decide))) (as_cons rfl (es_v 1) (as_cons rfl es_int as_nil))) es_int) as_nil)))) (as_cons rfl ((es_call xo c_law_roll (hr.mono (by decide))) (as_cons rfl (es_v 1) (as_cons rfl es_int as_nil))) as_nil))))))
  (sl_cons (st_if (bs_cmp op_lt sr_cmp rfl (es_v 9) es_int)
  (sl_cons ((st_set 12 xo) (es_or (es_cmp (op_eqD (xu xo)) sr_eq rfl (es_v 11) (es_str [])) (es_or (es_cmp op_lt sr_cmp rfl (es_v 4) es_int) (es_one (es_cmp (op_inA (xu1 xo)) sr_inS rfl (es_v 11) (es_lk (pV 8) (es_lc xo (own := [("row", 18)]) ((is_vals) (es_v 8)) (blkOk_by (by kernel_rfl)) (fun _ => (gs_n 18 xo.blk.nd)) (by decide) (fun _ => ts_nil) (fun _ => (es_ix xo.blk (by intro _ _; rfl) (es_v 18) es_int)))))))))
  (sl_cons ((st_set 13 xo) ((es_cb (callR_or call_len call_lenD) sc_len (T.free 20) PySem.boot_len) (as_cons rfl ((es_lrng3 xo (T.free 24) (T.free 19)) (as_cons rfl (es_v 4) (as_cons rfl ((es_dget2 xo) (es_v 6) (es_v 10) es_int) (as_cons rfl es_int as_nil)))) as_nil)))
  (sl_cons ((st_set 14 xo) (es_if (bs_val (by intro _; rfl) (es_v 12)) (es_str [99, 97, 110, 100, 108, 101]) (es_if (bs_w (bw_or (bs_cmp (op_inA (xu1 xo)) sr_inS rfl (es_v 10) (es_v 8)) (bw_or1 (bs_cmp op_gt sr_cmp rfl (es_v 4) ((es_dget2 xo) (es_v 6) (es_v 10) es_int))))) (es_str [110, 111, 32, 114, 111, 111, 109]) (es_if (bs_cmp op_gt sr_cmp rfl (es_v 13) (es_v 7)) (es_str [110, 111, 32, 119, 97, 121]) (es_v 13)))))
  (sl_cons ((st_par 14 15 xo) (as_cons rfl (es_if (bs_cmp (op_notInA (xu1 xo)) sr_notInS rfl (es_v 10) (es_v 6)) (es_str [110, 111, 32, 115, 117, 99, 104]) (es_v 14)) (as_cons rfl (x_told (k := 1) T hcd 4 (hr.mono (by decide)) (LamX.lamS_by (by kernel_rfl)) (fun A outer s H E f c h1 => ((es_meth (kc := 0) (xo.lam h1) c_Table_stand (h1.mono (by decide))) (es_v 2) (as_cons rfl (es_v 10) (as_cons rfl (es_v 11) (as_cons rfl (es_v 4) as_nil)))))) as_nil)))
  (sl_one (st_if (bs_cmp (op_notInA (xu1 xo)) sr_notInS rfl (es_v 14) (es_lst (as_cons rfl (es_str [110, 111, 32, 115, 117, 99, 104]) (as_cons rfl (es_str [99, 97, 110, 100, 108, 101]) (as_cons rfl (es_str [110, 111, 32, 114, 111, 111, 109]) (as_cons rfl (es_str [110, 111, 32, 119, 97, 121]) as_nil))))))
  (sl_one ((st_asg) ((gs_t rfl) (gss_cons rfl ((gs_subD xo) (es_v 8) (es_v 10)) (gss_cons rfl (gs_n 7 xo.nd) gss_nil))) (es_tup (as_cons rfl (es_tup (as_cons rfl (es_v 11) (as_cons rfl (es_v 4) (as_cons rfl (es_v 13) as_nil)))) (as_cons rfl (es_op op_sub sr_sub (es_v 7) (es_v 13)) as_nil)))))
  sl_nil))))))
  (sl_cons ((st_par 14 15 xo) (as_cons rfl (es_if (bs_cmp (op_notInA (xu1 xo)) sr_notInS rfl (es_v 10) (es_v 6)) (es_str [110, 111, 32, 115, 117, 99, 104]) (es_str [100, 101, 101, 100])) (as_cons rfl (x_told (k := 1) T hcd 4 (hr.mono (by decide)) (LamX.lamS_by (by kernel_rfl)) (fun A outer s H E f c h2 => ((es_meth (kc := 0) (xo.lam h2) c_Table_take (h2.mono (by decide))) (es_v 2) (as_cons rfl (es_v 10) as_nil)))) as_nil)))
  (sl_one (st_if (bs_cmp (op_inA (xu1 xo)) sr_inS rfl (es_v 10) (es_v 8))
  (sl_cons ((st_par 14 7 xo) (as_cons rfl (es_ix xo (by intro _ _; rfl) (es_ix xo (by intro _ _; rfl) (es_v 8) (es_v 10)) es_int) (as_cons rfl (es_op op_addAll sr_add (es_v 7) (es_ix xo (by intro _ _; rfl) (es_ix xo (by intro _ _; rfl) (es_v 8) (es_v 10)) es_int)) as_nil)))
  (sl_one ((st_set 8 xo) ((es_ctyN (call_dictP rfl) sn_dictP (T.free 3) bt_dict) (as_cons rfl (es_lk (pV 8) (es_lc xo (own := [("one", 16)]) (is_seq (es_v 8)) (blkOk_by (by kernel_rfl)) (fun _ => (gs_n 16 xo.blk.nd)) (by decide) (fun _ => (ts_one (bs_cmp (op_neD (xu xo.blk)) sr_ne rfl (es_v 16) (es_v 10)))) (fun _ => (es_tup (as_cons rfl (es_v 16) (as_cons rfl (es_ix xo.blk (by intro _ _; rfl) (es_v 8) (es_v 16)) as_nil)))))) as_nil)))))
  sl_nil))))
  (sl_one (st_if (bs_w (bw_or (bs_cmp (op_neD (xu xo)) sr_ne rfl (es_v 15) (es_v 14)) (bw_or1 (bs_cmp (op_neD (xu xo)) sr_ne rfl ((es_meth0 (kc := 0) xo c_Table_shown (hr.mono (by decide))) (es_v 2)) (es_tup (as_cons rfl ((es_cty call_tuple_of sc_tuple (T.free 18) bt_tuple) (as_cons rfl ((es_itSort xo (T.free 4)) (es_v 8)) as_nil)) (as_cons rfl (es_v 7) as_nil)))))))
  (sl_one (st_ret es_bl))
  sl_nil)))))
  (sl_cons (st_if (bs_cmp (op_neD (xu xo)) sr_ne rfl ((es_cty call_list_of sc_list (T.free 24) bt_list) (as_cons rfl ((es_meth0 (kc := 0) xo c_Table_bare (hr.mono (by decide))) (es_v 2)) as_nil)) (es_lc xo (own := [("one", 16)]) (is_seq ((es_cb (callR_or (cr_sortK rfl (xu10 xo)) (cr_sortD (xu10 xo))) sc_sorted (T.free 4) bt_sorted) (as_cons rfl (es_v 6) as_nil))) (blkOk_by (by kernel_rfl)) (fun _ => (gs_n 16 xo.blk.nd)) (by decide) (fun _ => (ts_one (bs_cmp (op_notInA (xu1 xo.blk)) sr_notInS rfl (es_v 16) (es_v 8)))) (fun _ => (es_v 16))))
  (sl_one (st_ret es_bl))
  sl_nil)
  (sl_cons ((st_set 4 xo) (es_op op_addAll sr_add es_int ((es_call xo c_law_roll (hr.mono (by decide))) (as_cons rfl (es_v 1) (as_cons rfl es_int as_nil)))))
  (sl_cons ((st_set 5 xo) ((es_cb (callR_or (cr_sortK rfl (xu10 xo)) (cr_sortD (xu10 xo))) sc_sorted (T.free 4) bt_sorted) (as_cons rfl (es_lk (pV 6) (es_lc xo (own := [("one", 16)]) (is_seq (es_v 6)) (blkOk_by (by kernel_rfl)) (fun _ => (gs_n 16 xo.blk.nd)) (by decide) (fun _ => (ts_one (bs_w (bw_and (bs_cmp (op_notInA (xu1 xo.blk)) sr_notInS rfl (es_v 16) (es_v 8)) (bw_and1 (bs_cmp op_ge sr_cmp rfl (es_ix xo.blk (by intro _ _; rfl) (es_v 6) (es_v 16)) (es_v 4))))))) (fun _ => (es_tup (as_cons rfl ((es_cb (callR_or call_len call_lenD) sc_len (T.free 20) PySem.boot_len) (as_cons rfl ((es_lrng3 xo.blk (T.free 24) (T.free 19)) (as_cons rfl (es_v 4) (as_cons rfl (es_ix xo.blk (by intro _ _; rfl) (es_v 6) (es_v 16)) (as_cons rfl es_int as_nil)))) as_nil)) (as_cons rfl (es_v 16) as_nil)))))) as_nil)))
  (sl_cons (st_if (bs_cmp (op_neD (xu xo)) sr_ne rfl (x_told (k := 1) T hcd 4 (hr.mono (by decide)) (LamX.lamS_by (by kernel_rfl)) (fun A outer s H E f c h3 => ((es_meth (kc := 0) (xo.lam h3) c_Table_best_for (h3.mono (by decide))) (es_v 2) (as_cons rfl (es_v 4) as_nil)))) (es_if (bs_cmp (op_neD (xu xo)) sr_ne rfl (es_v 5) (es_lst as_nil)) (es_ix xo (by intro _ _; rfl) (es_ix xo (by intro _ _; rfl) (es_v 5) es_int) es_int) (es_str [110, 111, 32, 119, 97, 121])))
  (sl_one (st_ret es_bl))
  sl_nil)
  (sl_one (st_if (bs_not (bs_val (by intro _; rfl) ((es_call xo c_law_rest1 (hr.mono (by decide))) (as_cons rfl (es_v 1) (as_cons rfl (es_v 2) as_nil)))))
  (sl_one (st_ret es_bl))
  sl_nil))))))))))
  (sl_one (st_ret es_bl)))
theorem f_law (T : Tt fa fn tf K mg base) (c_law_rounds : FnF (gx K) P w K mg base 2 "_law_rounds" ["script", "most"] m_law_rounds) (c_Table_init : MkF (gx K) P w K mg base 1 (He.ga K "Table") "Table" ["self", "holders", "paper"] m_Table_init) (c_law_roll : FnF (gx K) P w K mg base 1 "_law_roll" ["dice", "many"] m_law_roll) (c_law_rest1 : FnF (gx K) P w K mg base 22 "_law_rest1" ["dice", "table"] m_law_rest1) (c_Table_bare : MeF (gx K) P w K mg base 1 (He.ga K "Table") "bare" ["self"] m_Table_bare) (c_Table_shown : MeF (gx K) P w K mg base 1 (He.ga K "Table") "shown" ["self"] m_Table_shown) (c_Table_best_for : MeF (gx K) P w K mg base 1 (He.ga K "Table") "best_for" ["self", "thick"] m_Table_best_for) (c_Table_stand : MeF (gx K) P w K mg base 1 (He.ga K "Table") "stand" ["self", "name", "candle", "thick"] m_Table_stand) (c_Table_take : MeF (gx K) P w K mg base 1 (He.ga K "Table") "take" ["self", "name"] m_Table_take) : FnF (gx K) P w K mg base 23 "law" ["script"] m_law := mkF T 15 35 sc_law (fun _ _ _ _ _ _ us hl => match us, hl with | [_], _ => rfl) (fun _ _ _ _ _ _ hcd hr => d_law T c_law_rounds c_Table_init c_law_roll c_law_rest1 c_Table_bare c_Table_shown c_Table_best_for c_Table_stand c_Table_take hcd hr)
end
end Sm.K21
end

section
set_option Elab.async false
set_option linter.all false
set_option autoImplicit false
set_option maxRecDepth 100000
set_option maxHeartbeats 4000000
namespace Sm.K21
open PySem L2 Sm
theorem law_walk {P : Program} {w : World} {K : PySem.W.Frag} {mg : Str → Option Value} {base : Heap} (T : Tt fa fn tf K mg base) (cdv : Value) (A : Around) (outer : List PySem.Env) (s : Shared) (H : Hp) (E : XK) (hcd : cdv = .ref (He.codeOf K ("law", none))) (hr : Room 22 (A.deeper (PyProof.Rows.envOfC "law" (defScope s_law) s.heap.objs.size (He.fAd K ("law", none)) cdv))) :
    SL (gx K) (cxOf (L2.CX P w) P w K mg base ["script", "dice", "table", "step", "thick", "good", "wide", "paper", "held", "sort", "name", "candle", "bad", "sheets", "due", "told", "one", "k", "row"] "law" (defScope s_law) (He.fAd K ("law", none)) cdv A outer s H E) E (defBody s_law) b_law := by
  have c_law_dice := f_law_dice (P := P) (w := w) T
  have c_law_rounds := f_law_rounds (P := P) (w := w) T c_law_dice
  have c_Table_init := f_Table_init (P := P) (w := w) T
  have c_law_roll := f_law_roll (P := P) (w := w) T
  have c_fitted := f_fitted (P := P) (w := w) T
  have c_laid := f_laid (P := P) (w := w) T
  have c_law_cases1 := f_law_cases1 (P := P) (w := w) T c_fitted c_laid
  have c_law_most := f_law_most (P := P) (w := w) T 20
  have c_wobbles := f_wobbles (P := P) (w := w) T
  have c_Table_best_for := f_Table_best_for (P := P) (w := w) T
  have c_law_rest1 := f_law_rest1 (P := P) (w := w) T c_law_cases1 c_law_roll c_fitted c_law_most c_laid c_wobbles c_Table_init c_Table_best_for
  have c_Table_bare := f_Table_bare (P := P) (w := w) T
  have c_Table_shown := f_Table_shown (P := P) (w := w) T
  have c_Table_stand := f_Table_stand (P := P) (w := w) T
  have c_Table_take := f_Table_take (P := P) (w := w) T
  exact d_law T c_law_rounds c_Table_init c_law_roll c_law_rest1 c_Table_bare c_Table_shown c_Table_best_for c_Table_stand c_Table_take hcd hr
abbrev R : PySem.W.OpenRow := PySem.W.OpenLaw.row PySem.Challenge.rw_candlehall_k21_holders
abbrev hk : PySem.W.Hook := He.hookX 6 fa fn [] tf (exB tf)
def ob (s : PySem.W.SharedT) : He.AlX := He.obsX 6 fa fn [] tf (exB tf) (HandSHeadRun.getT s)
theorem ob_eq (s : PySem.W.SharedT) : ob s = hk.obs s.abs := He.obsX_eq (HandSHeadRun.getT_eq s)
def names : List Str := (["CandleFault", "BadCandle", "BadPlan", "BadSize", "NoSuch", "NoRoom", "NoWay", "BadDeed", "Table", "fitted", "laid", "wobbles", "_law_dice", "_law_roll", "_law_rounds", "_law_told", "_law_most", "_law_cases1", "_law_rest1"] : List Str)
theorem run (w : World) : HandSHeadRun.RunEq R (PySem.W.view R.prog [22]) hk ob 20000 names w := by
  intro os
  kernel_rfl
end Sm.K21
open PySem PySem.W PySem.Calls PyProof.Rows
theorem Sm.K21.holds (plain : ∀ ns : List Int, ns.length ≤ 63 → (∀ z ∈ ns, Builtin.Int.intBits z ≤ 1048576) → ∃ S, Sm.K21.m_law [.obj 0] [.lck (.lck (.lst (ns.map .int)))] = .ok (.bl true) S) : PySem.Challenge.rw_candlehall_k21_holders.Holds := by
  w_on; o_law
  refine HandSHeadRun.head_any (r := OpenLaw.row PySem.Challenge.rw_candlehall_k21_holders) (q := PySem.W.view (OpenLaw.row PySem.Challenge.rw_candlehall_k21_holders).prog [22]) (H := Sm.K21.hk) (ob := Sm.K21.ob) (M := 20000) (loose := Sm.K21.names) (d := HandSHeadRun.topDef (OpenLaw.row PySem.Challenge.rw_candlehall_k21_holders).prog 22) (kwd := []) Sm.K21.ob_eq
    (by kernel_rfl) (fun s => by kernel_rfl) Sm.K21.run (by kernel_rfl) (by kernel_rfl) (by kernel_rfl) (by rfl) (by first | assumption | decide +kernel) (by decide +kernel) ⟨rfl, rfl, rfl, rfl, rfl, by decide +kernel⟩ ?hw ?hc
  case hw => w_witness2
  case hc =>
    refine LamX.walk_ofTsE (l := PySem.Challenge.rw_candlehall_k21_holders) (n := 63) (k := 23) (x := "script") (CX := fun w => L2.CX (PySem.Challenge.rw_candlehall_k21_holders).prog w) rfl (by decide) (by kernel_rfl) ⟨rfl, by decide, by decide⟩ ?F (fun _ _ _ _ _ z => by obtain ⟨_, _, _, _, _, _, _, _, _, _, _, _, q⟩ := z; exact q)
    intro w mg fa h Y G hmg0
    obtain ⟨K, KX, c⟩ := Y
    have hmg : mg ("law" : PySem.Str) = some (.ref fa) := by
      have e : (HandSHeadRun.topDef (OpenLaw.row PySem.Challenge.rw_candlehall_k21_holders).prog 22).name = ("law" : PySem.Str) := by kernel_rfl
      rw [← e]
      exact hmg0
    exact ⟨K, KX, Sm.lawAt (g := Sm.K21.gx K) (i := 15) (j := 35) KX G hmg c rfl rfl (fun _ _ _ _ _ _ us hl => match us, hl with | [_], _ => rfl) Sm.K21.sc_law rfl rfl (fun base T cdv A outer s H E hcd hr => Sm.K21.law_walk T cdv A outer s H E hcd hr) plain⟩
end

section
set_option linter.all false
set_option autoImplicit false
set_option maxRecDepth 100000
set_option maxHeartbeats 4000000
namespace Sm.K21
open Sm
theorem roll_eq : m_law_roll = Sm.m_law_roll := rfl
theorem rounds_eq : m_law_rounds = Sm.m_law_rounds := rfl
/-- what is held: candle, thickness, sheets -/
abbrev H3 := List Ch × Int × Int
def h3 (q : H3) : D := .tup [tx q.1, .int q.2.1, .int q.2.2]
abbrev KW := kvG stC D.int
abbrev KH := kvG stC h3
/-- a table: holders, paper, held ones -/
structure Tb where
  l : List (Ch × Int)
  p : Int
  h : List (Ch × H3)
def kL (t : Tb) : List Ch := t.l.map (·.1)
def kH (t : Tb) : List Ch := t.h.map (·.1)
def vW (t : Tb) (n : Ch) : Int := (getG n t.l).getD 0
def vH (t : Tb) (n : Ch) : H3 := (getG n t.h).getD ([], 0, 0)
def obT (a b : Nat) (p : Int) : Ob := .ins 0 [(0, .obj a), (1, .int p), (2, .obj b)]
/-- where the table stands -/
structure At (r a b : Nat) (t : Tb) (S : Store) : Prop where
  ob : S[r]? = some (obT a b t.p)
  ha : S[a]? = some (.dct (t.l.map KW))
  hb : S[b]? = some (.dct (t.h.map KH))
  ab : a ≠ b
variable {S : Store} {r a b : Nat} {t : Tb}
theorem At.ra (A : At r a b t S) : r ≠ a := fun e => by have h := A.ob; rw [e, A.ha] at h; simp [obT] at h
theorem At.rb (A : At r a b t S) : r ≠ b := fun e => by have h := A.ob; rw [e, A.hb] at h; simp [obT] at h
theorem At.ins (A : At r a b t S) : insAt S (.obj r) = some (r, 0, [(0, .obj a), (1, .int t.p), (2, .obj b)]) := insAt_obj A.ob
theorem inL_ok (A : At r a b t S) (n : Ch) : oInS S (stC n) (.obj a) = some (.bl (decide (n ∈ kL t))) := in_G (vdct A.ha) n
theorem niL_ok (A : At r a b t S) (n : Ch) : oNotInS S (stC n) (.obj a) = some (.bl (!decide (n ∈ kL t))) := notin_G (vdct A.ha) n
theorem inH_ok (A : At r a b t S) (n : Ch) : oInS S (stC n) (.obj b) = some (.bl (decide (n ∈ kH t))) := in_G (vdct A.hb) n
theorem niH_ok (A : At r a b t S) (n : Ch) : oNotInS S (stC n) (.obj b) = some (.bl (!decide (n ∈ kH t))) := notin_G (vdct A.hb) n
theorem getW {n : Ch} (h : n ∈ kL t) : getG n t.l = some (vW t n) := by
  obtain ⟨v, e⟩ := getG_has h
  rw [vW, e]; rfl
theorem getH {n : Ch} (h : n ∈ kH t) : getG n t.h = some (vH t n) := by
  obtain ⟨v, e⟩ := getG_has h
  rw [vH, e]; rfl
theorem ixW (A : At r a b t S) {n : Ch} (h : n ∈ kL t) : oIx S (.obj a) (stC n) = some (.int (vW t n)) := by
  rw [ix_G (f := D.int) (vdct A.ha), getW h]; rfl
theorem ixWK (A : At r a b t S) {n : Ch} (h : n ∈ kL t) : oIxK S (.obj a) (stC n) = some (.int (vW t n)) := by
  rw [ixK_G (f := D.int) (vdct A.ha), getW h]; rfl
/-- sheets for a candle in a socket -/
def shN (w th : Int) : Int := 0 - (th - w) / 2
theorem div2 {S : Store} (x : Int) : oDiv S (.int x) (.int 2) = some (.int (x / 2)) := div_int (by decide) (by decide)
theorem kEq_tx {S : Store} (x y : List Ch) : kEq S (tx x) (tx y) = some (.bl (decide (x = y))) := by
  show some (D.bl (decide (x.map (·.val) = y.map (·.val)))) = _
  by_cases h : x = y
  · simp [h]
  · have : x.map (fun c : Ch => c.val) ≠ y.map (fun c : Ch => c.val) := fun e => h (map_val_inj e)
    simp [h, this]
theorem eq_txN {S : Store} (x : List Ch) : oEq S (tx x) (.str []) = some (.bl (decide (x = []))) := by
  rw [oEq_data (by have : dataN 4 (tx x) = true := Dat.dat x; exact dat_mono (by decide) this) rfl]
  cases x with
  | nil => rfl
  | cons _ _ => simp [tx, eqD]
theorem stand_ok (A : At r a b t S) (hl : t.h.length ≤ 1000) {n : Ch} {cd : List Ch} {th : Int} : m_Table_stand [.obj r, stC n, tx cd, .int th] S =
    if n ∈ kL t then (if cd = [] ∨ th < 1 ∨ cd ∈ t.h.map (fun p => p.2.1) then .exc 1 S else if n ∈ kH t ∨ vW t n < th then .exc 5 S else if t.p < shN (vW t n) th then .exc 6 S
      else .ok (.int (shN (vW t n) th)) ((S.set r (obT a b (t.p - shN (vW t n) th))).set b (.dct ((t.h ++ [(n, cd, th, shN (vW t n) th)]).map KH)))) else .exc 4 S := by
  have i0 := A.ins
  have n1 := niL_ok A n
  by_cases hn : n ∈ kL t
  · rw [if_pos hn]
    have eqn := eq_txN (S := S) cd
    have vw := valsW_G A.hb
    have ge : genL (turnG (gN 4) tYes (eOp kEq (eV 2) (eOp oIxK (eV 4) (eC (.int 0)))) [some (.obj r), some (stC n), some (tx cd), some (.int th), none, none] S) ((t.h.map (·.2)).map h3) = some (((t.h.map (·.2)).filter fun _ => true).map fun q => .bl (decide (cd = q.1))) :=
      gen_of h3 (fun _ => true) (fun q => .bl (decide (cd = q.1))) fun q _ => ⟨_, rfl, rfl, fun _ => by
        have i0 : ∀ S : Store, oIxK S (h3 q) (.int 0) = some (tx q.1) := fun _ => rfl
        simp [i0, kEq_tx]⟩
    rw [List.filter_eq_self.mpr (fun _ _ => rfl)] at ge
    have an : ((t.h.map (·.2)).map fun q : H3 => decide (cd = q.1)).any id = decide (cd ∈ t.h.map (fun p => p.2.1)) := by
      rw [Bool.eq_iff_iff]
      simp only [List.any_map, List.any_eq_true, decide_eq_true_eq, List.mem_map]
      constructor
      · rintro ⟨x, hx, e⟩
        simp at e
        exact ⟨x, hx, e.symm⟩
      · rintro ⟨x, hx, e⟩
        exact ⟨x, hx, by simp [e]⟩
    have bo := boolsD_mapP (fun q : H3 => decide (cd = q.1)) (t.h.map (·.2))
    generalize ((t.h.map (·.2)).map fun q : H3 => decide (cd = q.1)) = bs at an bo
    generalize (t.h.map (·.2)).map h3 = hs at vw ge
    generalize ((t.h.map (·.2)).map fun q : H3 => D.bl (decide (cd = q.1))) = bd at ge bo
    by_cases c1 : cd = []
    · rw [if_pos (.inl c1)]
      rw [decide_eq_true c1] at eqn
      simp [b_Table_stand_s1, b_Table_stand_s2, m_Table_stand, b_Table_stand, i0, getF, n1, hn, eqn]
    · by_cases c2 : th < 1
      · simp [b_Table_stand_s1, b_Table_stand_s2, m_Table_stand, b_Table_stand, i0, getF, n1, hn, eqn, c1, c2]
      · by_cases c3 : cd ∈ t.h.map (fun p => p.2.1)
        · rw [decide_eq_true c3] at an
          rw [if_pos (.inr (.inr c3))]
          simp [b_Table_stand_s1, b_Table_stand_s2, m_Table_stand, b_Table_stand, i0, getF, n1, hn, eqn, c1, c2, vw, ge, bo, an]
        · rw [decide_eq_false c3] at an
          rw [if_neg (fun z => z.elim c1 fun z => z.elim c2 c3)]
          have ih := inH_ok A n
          have iw := ixW A hn
          by_cases c4 : n ∈ kH t
          · rw [if_pos (.inl c4)]
            simp [b_Table_stand_s1, b_Table_stand_s2, b_Table_stand_s3, m_Table_stand, b_Table_stand, i0, getF, n1, hn, eqn, c1, c2, vw, ge, bo, an, ih, c4]
          · by_cases c5 : vW t n < th
            · rw [if_pos (.inr c5)]
              simp [b_Table_stand_s1, b_Table_stand_s2, b_Table_stand_s3, m_Table_stand, b_Table_stand, i0, getF, n1, hn, eqn, c1, c2, vw, ge, bo, an, ih, c4, iw, c5]
            · rw [if_neg (fun z => z.elim c4 c5)]
              by_cases c6 : t.p < shN (vW t n) th
              · rw [if_pos c6]
                unfold shN at c6
                rw [Int.zero_sub] at c6
                simp [b_Table_stand_s1, b_Table_stand_s2, b_Table_stand_s3, b_Table_stand_s4, b_Table_stand_s5, m_Table_stand, b_Table_stand, i0, getF, n1, hn, eqn, c1, c2, vw, ge, bo, an, ih, c4, iw, c5, div2, c6]
              · rw [if_neg c6]
                have c6' := c6
                unfold shN at c6'
                rw [Int.zero_sub] at c6'
                have is := fun p => insAt_set (S := S) (r := r) (c := 0) (fs := [(0, .obj a), (1, .int p), (2, .obj b)]) (lt_some A.ob)
                have hb' : ∀ o, (S.set r o)[b]? = some (.dct (t.h.map KH)) := fun o => by rw [set_ne A.rb]; exact A.hb
                have pu := fun o v => dput_G (df := stC) (f := h3) (hb' o) (by omega) n v
                have pn : ∀ v : H3, putG n v t.h = t.h ++ [(n, v)] := fun v => putG_new c4
                have h3e : D.tup [tx cd, .int th, .int (-((th - vW t n) / 2))] = h3 (cd, th, shN (vW t n) th) := by simp [h3, shN]
                have se : shN (vW t n) th = -((th - vW t n) / 2) := by simp [shN]
                simp [-List.map_append, b_Table_stand_s1, b_Table_stand_s2, b_Table_stand_s3, b_Table_stand_s4, b_Table_stand_s5, b_Table_stand_s6, b_Table_stand_s7, b_Table_stand_s8, m_Table_stand, b_Table_stand, i0, getF, n1, hn, eqn, c1, c2, vw, ge, bo, an, ih, c4, iw, c5, div2, c6', iSub, putF, is, h3e, pu, pn, obT, se]
  · simp [b_Table_stand_s1, m_Table_stand, b_Table_stand, i0, getF, n1, hn]
end Sm.K21
end

section
set_option linter.all false
set_option autoImplicit false
set_option maxRecDepth 100000
set_option maxHeartbeats 4000000
namespace Sm.K21
open Sm
variable {S : Store} {r a b : Nat} {t : Tb}
theorem h3_at {S : Store} (q : H3) : oIx S (h3 q) (.int 0) = some (tx q.1) ∧ oIx S (h3 q) (.int 1) = some (.int q.2.1) ∧ oIx S (h3 q) (.int 2) = some (.int q.2.2) := ⟨rfl, rfl, rfl⟩
theorem take_ok (A : At r a b t S) {n : Ch} : m_Table_take [.obj r, stC n] S =
    if n ∈ kL t then (if n ∈ kH t then .ok (tx (vH t n).1) ((S.set b (.dct ((delG n t.h).map KH))).set r (obT a b (t.p + (vH t n).2.2))) else .exc 7 S) else .exc 4 S := by
  have i0 := A.ins
  have n1 := niL_ok A n
  have n2 := niH_ok A n
  by_cases hn : n ∈ kL t
  · by_cases hm : n ∈ kH t
    · have dc := dcut_G A.hb (getH hm)
      have isd : isDict S (.obj b) = true := isDict_G (vdct A.hb)
      have i1 : ∀ o, insAt (S.set b o) (.obj r) = some (r, 0, [(0, .obj a), (1, .int t.p), (2, .obj b)]) := fun o => insAt_obj (by rw [set_ne A.rb.symm]; exact A.ob)
      have he : h3 (vH t n) = .tup [tx (vH t n).1, .int (vH t n).2.1, .int (vH t n).2.2] := rfl
      rw [he] at dc
      simp [m_Table_take, b_Table_take, i0, getF, n1, hn, n2, hm, isd, dc, i1, iAdd, putF, obT]
    · simp [m_Table_take, b_Table_take, i0, getF, n1, hn, n2, hm]
  · simp [m_Table_take, b_Table_take, i0, getF, n1, hn]
/-! the bare ones; the best -/
def bareL (t : Tb) : List Ch := (kL t).filter fun n => !decide (n ∈ kH t)
def goodL (t : Tb) (th : Int) : List Ch := (kL t).filter fun n => !decide (n ∈ kH t) && decide (th ≤ vW t n)
/-- the store while the holders are walked -/
theorem At.lk (A : At r a b t S) : insAt (S.set a (.lck (.dct (t.l.map KW)))) (.obj r) = some (r, 0, [(0, .obj a), (1, .int t.p), (2, .obj b)]) ∧ view (S.set a (.lck (.dct (t.l.map KW)))) (.obj b) = .dct (t.h.map KH) ∧ (S.set a (.lck (.dct (t.l.map KW))))[a]? = some (.lck (.dct (t.l.map KW))) := by
  refine ⟨insAt_obj (by rw [set_ne A.ra.symm]; exact A.ob), vdct (by rw [set_ne A.ab]; exact A.hb), set_at (by rw [A.ha]; rfl)⟩
theorem bare_ok (A : At r a b t S) (hl : t.l.length ≤ 1000) : m_Table_bare [.obj r] S = .ok (To stC (bareL t)) S := by
  have i0 := A.ins
  obtain ⟨i1, vb, la⟩ := A.lk
  have sq := seqIt_G (df := stC) (f := D.int) la
  have c1 : lcL (gN 1) (tB (eOp oNotInS (eV 1) (eFld 2 (eV 0)))) (eV 1) [some (.obj r), none] ((kL t).map stC) (S.set a (.lck (.dct (t.l.map KW)))) [] = .ok ([] ++ (bareL t).map stC) (S.set a (.lck (.dct (t.l.map KW)))) :=
    lc_of stC (fun n => !decide (n ∈ kH t)) stC fun n _ => ⟨_, rfl, by
      have ni := notin_G vb n
      change _ = some (D.bl (!decide (n ∈ kH t))) at ni
      simp [i1, getF, ni], fun _ => by simp⟩
  rw [List.nil_append] at c1
  have kl : (kL t).length ≤ 1000 := by unfold kL; rw [List.length_map]; exact hl
  have kl2 : ¬ 100000 < (kL t).length := by omega
  have lk : eLk (pF 0 0) (eLC [1] (iSeq (eFld 0 (eV 0))) (gN 1) (tB (eOp oNotInS (eV 1) (eFld 2 (eV 0)))) (eV 1)) [some (.obj r), none] S = .ok (Lo stC (bareL t)) S := by
    refine eLk_pure (r := a) (by simp [pF, i0, getF]) A.ha ?_
    change seqIt (.obj a) _ = .ok ((kL t).map stC, none) _ at sq
    generalize bareL t = R0 at c1 ⊢
    generalize kL t = ks at *
    generalize S.set a (.lck (.dct (t.l.map KW))) = S1 at *
    simp [-seqIt_obj, i1, getF, sq, kl2, c1]
  simp [m_Table_bare, b_Table_bare, lk]
/-- sheets, then names -/
def kB (t : Tb) (th : Int) (n : Ch) : D := .tup [.int (shN (vW t n) th), stC n]
theorem kB_key {t : Tb} {th : Int} : TKey (kB t th) := ⟨fun x y => rfl, fun x => rfl, fun x => by simp [kB, dataN, stC, x.isLt], fun x => rfl⟩
def ordB (t : Tb) (th : Int) : List Ch := srt (fun a b => leR false (kB t th a) (kB t th b)) (goodL t th)
theorem best_ok (A : At r a b t S) (hl : t.l.length ≤ 1000) {th : Int} : m_Table_best_for [.obj r, .int th] S = if th < 1 then .exc 3 S else if goodL t th = [] then .exc 6 S else .ok (stC ((ordB t th).headD 0)) S := by
  have i0 := A.ins
  obtain ⟨i1, vb, la⟩ := A.lk
  by_cases h0 : th < 1
  · simp [m_Table_best_for, b_Table_best_for, h0]
  · rw [if_neg h0]
    have sq := seqIt_G (df := stC) (f := D.int) la
    change seqIt (.obj a) _ = .ok ((kL t).map stC, none) _ at sq
    have va := vdctL la
    have c1 : lcL (gN 3) (tAnd (tB (eOp oNotInS (eV 3) (eFld 2 (eV 0)))) (tB (eOp oGe (eOp oIx (eFld 0 (eV 0)) (eV 3)) (eV 1)))) (eV 3) [some (.obj r), some (.int th), none, none] ((kL t).map stC) (S.set a (.lck (.dct (t.l.map KW)))) [] = .ok ([] ++ (goodL t th).map stC) (S.set a (.lck (.dct (t.l.map KW)))) :=
      lc_of stC (fun n => !decide (n ∈ kH t) && decide (th ≤ vW t n)) stC fun n hn => ⟨_, rfl, by
        have ni := notin_G vb n
        change _ = some (D.bl (!decide (n ∈ kH t))) at ni
        have iw := ix_G (f := D.int) va n
        rw [getW hn] at iw
        by_cases hm : n ∈ kH t <;> simp [i1, getF, ni, hm, iw], fun _ => by simp⟩
    rw [List.nil_append] at c1
    have kl : (kL t).length ≤ 1000 := by unfold kL; rw [List.length_map]; exact hl
    have kl2 : ¬ 100000 < (kL t).length := by omega
    have gl : (goodL t th).length ≤ 1000 := Nat.le_trans (List.length_filter_le _ _) kl
    have lk : sLk (pF 0 0) (sSet 2 (eLC [3] (iSeq (eFld 0 (eV 0))) (gN 3) (tAnd (tB (eOp oNotInS (eV 3) (eFld 2 (eV 0)))) (tB (eOp oGe (eOp oIx (eFld 0 (eV 0)) (eV 3)) (eV 1)))) (eV 3))) [some (.obj r), some (.int th), none, none] S = .ok (.nx [some (.obj r), some (.int th), some (Lo stC (goodL t th)), none]) S := by
      refine sLk_pure (r := a) (by simp [pF, i0, getF]) A.ha ?_
      generalize goodL t th = R0 at c1 ⊢
      generalize kL t = ks at *
      generalize S.set a (.lck (.dct (t.l.map KW))) = S1 at *
      simp [-seqIt_obj, i1, getF, sq, kl2, c1]
    have hmem : ∀ n ∈ goodL t th, n ∈ kL t := fun n h => (List.mem_filter.mp h).1
    by_cases hg : goodL t th = []
    · rw [if_pos hg]
      rw [hg] at lk
      simp [m_Table_best_for, b_Table_best_for, h0, lk]
    · rw [if_neg hg]
      have ke := TKey.keyed (f := stC) (S := S) (e := [some (.obj r), some (.int th), some (Lo stC (goodL t th)), none]) (i := 3) (m := eTup (aCons (eOp oSub (eC (.int 0)) (eOp oDiv (eOp oSub (eV 1) (eOp oIxK (eFld 0 (eV 0)) (eV 3))) (eC (.int 2)))) (aCons (eV 3) (aNil)))) (d := Lo stC (goodL t th)) (kB_key (t := t) (th := th)) (walkD_Lo _) (by omega) fun n hn => ⟨S, by
        have iw := ixWK A (hmem n hn)
        simp [i0, getF, iw, div2, kB, shN]⟩
      unfold ordB
      generalize goodL t th = G at *
      cases G with
      | nil => exact absurd rfl hg
      | cons x xs =>
        rw [List.map_cons] at ke
        have mk := minKey_T (kf := kB t th) (f := stC) 0 x xs
        generalize (xs.map fun y => (kB t th y, stC y)) = ps at ke mk
        generalize (srt (fun a b => leR false (kB t th a) (kB t th b)) (x :: xs)).headD 0 = w at mk ⊢
        simp [m_Table_best_for, b_Table_best_for, h0, lk, ke, mk]
/-! shown -/
def shD (t : Tb) : D := .tup [.tup (sortB (leR false) (t.h.map (itG stC h3))), .int t.p]
theorem it_dat (p : Ch × H3) : dataN 4 (itG stC h3 p) = true := by
  have h1 : dataN 3 (stC p.1) = true := by simp [stC, dataN, p.1.isLt]
  have h2 : dataN 2 (tx p.2.1) = true := by simp [tx, dataN]
  simp [itG, h3, dataN, h1, h2]
theorem ok_it {l : List (Ch × H3)} (hl : l.length ≤ 1000) : okSort (l.map (itG stC h3)) = true := by
  unfold okSort
  simp only [Bool.and_eq_true, Bool.or_eq_true, List.all_map, List.all_eq_true, decide_eq_true_eq, List.length_map]
  refine ⟨fun x _ => ?_, .inl fun x _ => rfl, fun x _ => dat_mono (by decide) (it_dat x), by omega⟩
  exact List.all_eq_true.mpr fun y _ => rfl
theorem sh_dat (t : Tb) : dataN 6 (shD t) = true := by
  have h : ∀ x ∈ sortB (leR false) (t.h.map (itG stC h3)), dataN 4 x = true := fun x hx => by
    have := (sortB_perm (t.h.map (itG stC h3))).mem_iff.mp hx
    obtain ⟨p, _, rfl⟩ := List.mem_map.mp this
    exact it_dat p
  simp only [shD, dataN, List.all_cons, List.all_nil, Bool.and_true, List.all_eq_true]
  exact fun x hx => h x hx
theorem its_ok {S : Store} {v : Nat} {l : List (Ch × H3)} (h : S[v]? = some (.dct (l.map KH))) (hl : l.length ≤ 1000) {m : ME} {e : Env} (hm : m e S = .ok (.obj v) S) : eItSort m e S = .ok (.lst (sortB (leR false) (l.map (itG stC h3)))) S := by
  have dm := dctM_G h
  rw [ev_eItSort, hm, ev_bindok, dm]
  show (if okSort (itemsD (l.map KH)) = true then _ else _) = _
  rw [items_G, if_pos (ok_it hl)]
theorem shown_ok (A : At r a b t S) (hl : t.h.length ≤ 1000) : m_Table_shown [.obj r] S = .ok (shD t) S := by
  have i0 := A.ins
  have it := its_ok A.hb hl (m := eFld 2 (eV 0)) (e := [some (.obj r)]) (by simp [i0, getF])
  have bt : ∀ xs : List D, bTuple S [.lst xs] = some (.tup xs) := fun xs => rfl
  simp [-ev_eItSort, m_Table_shown, b_Table_shown, it, bt, i0, getF, shD]
end Sm.K21
end

section
set_option linter.all false
set_option autoImplicit false
set_option maxRecDepth 100000
set_option maxHeartbeats 4000000
namespace Sm.K21
open Sm
/-! ### most candles fitted: all ways, and the greedy way -/
def fitB (lt c s : Int) : Bool := decide (c ≤ s) && decide (s ≤ c + lt)
theorem fitB_iff {lt c s : Int} : fitB lt c s = true ↔ c ≤ s ∧ s ≤ c + lt := by simp [fitB]
inductive Mt (lt : Int) : List Int → List Int → Nat → Prop
  | nil (ss : List Int) : Mt lt [] ss 0
  | skip {c : Int} {cs ss : List Int} {m : Nat} : Mt lt cs ss m → Mt lt (c :: cs) ss m
  | take {c s : Int} {cs ss : List Int} {m : Nat} : fitB lt c s = true → s ∈ ss → Mt lt cs (ss.erase s) m → Mt lt (c :: cs) ss (m + 1)
variable {lt : Int}
theorem Mt.permS {cs ss ss' : List Int} {m : Nat} (h : Mt lt cs ss m) : ss.Perm ss' → Mt lt cs ss' m := by
  induction h generalizing ss' with
  | nil => exact fun _ => .nil _
  | skip _ ih => exact fun p => .skip (ih p)
  | take hf hs _ ih => exact fun p => .take hf (p.mem_iff.mp hs) (ih (p.erase _))
theorem Mt.zero : ∀ (cs ss : List Int), Mt lt cs ss 0
  | [], ss => .nil ss
  | _ :: cs, ss => .skip (Mt.zero cs ss)
theorem Mt.permC {cs cs' : List Int} (p : cs.Perm cs') : ∀ {ss : List Int} {m : Nat}, Mt lt cs ss m → Mt lt cs' ss m := by
  induction p with
  | nil => exact fun h => h
  | cons x _ ih =>
    intro ss m h
    cases h with
    | skip h => exact .skip (ih h)
    | take hf hs h => exact .take hf hs (ih h)
  | swap x y l =>
    intro ss m h
    cases h with
    | skip h =>
      cases h with
      | skip h => exact .skip (.skip h)
      | take hf hs h => exact .take hf hs (.skip h)
    | take hf hs h =>
      cases h with
      | skip h => exact .skip (.take hf hs h)
      | take hf2 hs2 h =>
        rename_i s s2 _
        refine .take hf2 (List.mem_of_mem_erase hs2) (.take hf ?_ ?_)
        · by_cases e : s = s2
          · rw [← e] at hs2 ⊢; exact hs2
          · exact (List.mem_erase_of_ne e).mpr hs
        · rw [List.erase_comm]; exact h
  | trans _ _ ih1 ih2 => exact fun h => ih2 (ih1 h)
/-- a socket less costs one at most -/
theorem Mt.less {cs : List Int} {s : Int} : ∀ {T : List Int} {m : Nat}, Mt lt cs (s :: T) m → ∃ k, m ≤ k + 1 ∧ Mt lt cs T k := by
  induction cs with
  | nil => intro T m h; cases h; exact ⟨0, by omega, .nil _⟩
  | cons c cs ih =>
    intro T m h
    cases h with
    | skip h =>
      obtain ⟨k, h1, h2⟩ := ih h
      exact ⟨k, h1, .skip h2⟩
    | take hf hs h =>
      rename_i u k
      by_cases e : u = s
      · subst e
        rw [List.erase_cons_head] at h
        exact ⟨k, Nat.le_refl _, .skip h⟩
      · have hu : u ∈ T := (List.mem_cons.mp hs).resolve_left e
        rw [List.erase_cons_tail (by simp; exact fun q => e q.symm)] at h
        obtain ⟨j, h1, h2⟩ := ih h
        exact ⟨j + 1, by omega, .take hf hu h2⟩
/-- a wider socket in its place -/
theorem Mt.wider {cs : List Int} {s s' : Int} : ∀ {T : List Int} {m : Nat}, (∀ d ∈ cs, fitB lt d s = true → fitB lt d s' = true) → Mt lt cs (s :: T) m → Mt lt cs (s' :: T) m := by
  induction cs with
  | nil => intro T m _ h; cases h; exact .nil _
  | cons c cs ih =>
    intro T m hd h
    have hd' : ∀ d ∈ cs, fitB lt d s = true → fitB lt d s' = true := fun d m => hd d (List.mem_cons_of_mem _ m)
    cases h with
    | skip h => exact .skip (ih hd' h)
    | take hf hs h =>
      rename_i u k
      by_cases e : u = s
      · subst e
        rw [List.erase_cons_head] at h
        refine .take (hd c List.mem_cons_self hf) List.mem_cons_self ?_
        rw [List.erase_cons_head]
        exact h
      · have hu : u ∈ T := (List.mem_cons.mp hs).resolve_left e
        rw [List.erase_cons_tail (by simp; exact fun q => e q.symm)] at h
        have h2 := ih hd' h
        refine .take hf (List.mem_cons_of_mem _ hu) (h2.permS ?_)
        by_cases e2 : s' = u
        · subst e2
          rw [List.erase_cons_head]
          exact (List.perm_cons_erase hu).symm
        · rw [List.erase_cons_tail (by simpa using e2)]
/-! the greedy way -/
def stepG (lt : Int) (p : List Int × Int) (c : Int) : List Int × Int := match p.1.filter (fitB lt c) with
  | [] => p
  | s :: _ => (p.1.erase s, p.2 + 1)
theorem stepG_nil {lt c : Int} {p : List Int × Int} (h : p.1.filter (fitB lt c) = []) : stepG lt p c = p := by unfold stepG; simp only [h]
theorem stepG_cons {lt c s : Int} {p : List Int × Int} {r : List Int} (h : p.1.filter (fitB lt c) = s :: r) : stepG lt p c = (p.1.erase s, p.2 + 1) := by unfold stepG; simp only [h]
def greedy (lt : Int) (cs ss : List Int) : Int := (cs.foldl (stepG lt) (ss, 0)).2
theorem fold_add (lt : Int) : ∀ (cs ss : List Int) (n : Int), (cs.foldl (stepG lt) (ss, n)).2 = n + (cs.foldl (stepG lt) (ss, 0)).2
  | [], _, n => by simp
  | c :: cs, ss, n => by
    rw [List.foldl_cons, List.foldl_cons]
    cases hf : ss.filter (fitB lt c) with
    | nil =>
      rw [stepG_nil (p := (ss, n)) hf, stepG_nil (p := (ss, 0)) hf]
      exact fold_add lt cs ss n
    | cons s r =>
      rw [stepG_cons (p := (ss, n)) hf, stepG_cons (p := (ss, 0)) hf]
      show (cs.foldl (stepG lt) (ss.erase s, n + 1)).2 = n + (cs.foldl (stepG lt) (ss.erase s, 0 + 1)).2
      rw [fold_add lt cs (ss.erase s) (n + 1), fold_add lt cs (ss.erase s) (0 + 1)]
      omega
theorem greedy_nil {c : Int} {cs ss : List Int} (h : ss.filter (fitB lt c) = []) : greedy lt (c :: cs) ss = greedy lt cs ss := by
  unfold greedy
  rw [List.foldl_cons, stepG_nil (p := (ss, 0)) h]
theorem greedy_cons {c s : Int} {cs ss r : List Int} (h : ss.filter (fitB lt c) = s :: r) : greedy lt (c :: cs) ss = 1 + greedy lt cs (ss.erase s) := by
  unfold greedy
  rw [List.foldl_cons, stepG_cons (p := (ss, 0)) h]
  show (cs.foldl (stepG lt) (ss.erase s, 0 + 1)).2 = _
  rw [fold_add]
  omega
abbrev OrdI (l : List Int) : Prop := OrdW (fun a b => decide (a ≤ b)) l
/-- it fits so many, and none fits more -/
theorem greedy_best : ∀ (cs ss : List Int), OrdI cs → OrdI ss → (∃ m : Nat, greedy lt cs ss = m ∧ Mt lt cs ss m) ∧ ∀ m : Nat, Mt lt cs ss m → (m : Int) ≤ greedy lt cs ss
  | [], ss, _, _ => ⟨⟨0, rfl, .nil _⟩, fun m h => by cases h; exact Int.le_refl _⟩
  | c :: cs, ss, hc, hs => by
    obtain ⟨hc1, hc2⟩ := List.pairwise_cons.mp hc
    have hlow : ∀ d ∈ cs, c ≤ d := fun d hd => of_decide_eq_true (hc1 d hd)
    cases hf : ss.filter (fitB lt c) with
    | nil =>
      rw [greedy_nil hf]
      obtain ⟨⟨m, h1, h2⟩, h3⟩ := greedy_best cs ss hc2 hs
      refine ⟨⟨m, h1, .skip h2⟩, fun k hk => ?_⟩
      cases hk with
      | skip h => exact h3 k h
      | take hf2 hm _ =>
        exact absurd hf2 (List.filter_eq_nil_iff.mp hf _ hm)
    | cons s0 r =>
      rw [greedy_cons hf]
      have m0 : s0 ∈ ss ∧ fitB lt c s0 = true := by
        have : s0 ∈ ss.filter (fitB lt c) := by rw [hf]; exact List.mem_cons_self
        exact List.mem_filter.mp this
      have low : ∀ s ∈ ss, fitB lt c s = true → s0 ≤ s := fun s h1 h2 => by
        have hm : s ∈ ss.filter (fitB lt c) := List.mem_filter.mpr ⟨h1, h2⟩
        have ho : OrdI (ss.filter (fitB lt c)) := List.Pairwise.sublist List.filter_sublist hs
        rw [hf] at hm ho
        rcases List.mem_cons.mp hm with q | q
        · omega
        · exact of_decide_eq_true ((List.pairwise_cons.mp ho).1 s q)
      have ho2 : OrdI (ss.erase s0) := List.Pairwise.sublist List.erase_sublist hs
      obtain ⟨⟨m, h1, h2⟩, h3⟩ := greedy_best cs (ss.erase s0) hc2 ho2
      refine ⟨⟨m + 1, by rw [h1]; omega, .take m0.2 m0.1 h2⟩, fun k hk => ?_⟩
      have pz := List.perm_cons_erase m0.1
      cases hk with
      | skip h =>
        obtain ⟨j, j1, j2⟩ := (h.permS pz).less
        have := h3 j j2
        omega
      | take hf2 hm h =>
        rename_i s k
        by_cases e : s = s0
        · subst e
          have := h3 k h
          omega
        · have hs0 : s0 ∈ ss.erase s := (List.mem_erase_of_ne (fun q => e q.symm)).mpr m0.1
          have hs1 : s ∈ ss.erase s0 := (List.mem_erase_of_ne e).mpr hm
          have h4 := h.permS (List.perm_cons_erase hs0)
          have l1 := low s hm hf2
          have f1 := fitB_iff.mp hf2
          have h5 := h4.wider (s' := s) fun d hd hfd => by
            have := hlow d hd
            have := fitB_iff.mp hfd
            exact fitB_iff.mpr ⟨by omega, by omega⟩
          rw [List.erase_comm] at h5
          have := h3 k (h5.permS (List.perm_cons_erase hs1).symm)
          omega
/-! all ways, as the law tries them -/
def cutE (ss : List Int) (k : Int) : List Int := ss.take k.toNat ++ ss.drop (k + 1).toNat
theorem cutE_perm {ss : List Int} {k : Int} (h0 : 0 ≤ k) (h1 : k < (ss.length : Int)) : (cutE ss k).Perm (ss.erase (gI ss k)) := by
  have hk : k.toNat < ss.length := by omega
  have e : gI ss k = ss[k.toNat] := by simp [gI, hk]
  have m : gI ss k ∈ ss := by rw [e]; exact List.getElem_mem hk
  have p1 : ss.Perm (gI ss k :: cutE ss k) := by
    unfold cutE
    rw [show (k + 1).toNat = k.toNat + 1 by omega]
    have : ss = ss.take k.toNat ++ (gI ss k :: ss.drop (k.toNat + 1)) := by
      rw [e, ← List.drop_eq_getElem_cons hk, List.take_append_drop]
    conv => lhs; rw [this]
    exact List.perm_middle
  exact (p1.symm.trans (List.perm_cons_erase m)).cons_inv
def most (lt : Int) : List Int → List Int → Int
  | [], _ => 0
  | c :: cs, ss => (maxL (most lt cs ss :: ((rangeI 0 ss.length).filter fun k => fitB lt c (gI ss k)).map fun k => 1 + most lt cs (cutE ss k))).getD 0
theorem maxL_has {xs : List Int} (h : xs ≠ []) : ∃ v, maxL xs = some v ∧ v ∈ xs ∧ ∀ x ∈ xs, x ≤ v := by
  cases xs with
  | nil => exact absurd rfl h
  | cons y r =>
    obtain ⟨h1, h2, h3⟩ := maxI_specP r y
    refine ⟨maxI r y, rfl, ?_, fun x hx => ?_⟩
    · rcases h1 with q | q
      · rw [q]; exact List.mem_cons_self
      · exact List.mem_cons_of_mem _ q
    · rcases List.mem_cons.mp hx with q | q
      · rw [q]; exact h2
      · exact h3 x q
theorem most_turn {c : Int} {cs ss : List Int} : ∃ v, maxL (most lt cs ss :: ((rangeI 0 ss.length).filter fun k => fitB lt c (gI ss k)).map fun k => 1 + most lt cs (cutE ss k)) = some v ∧ most lt (c :: cs) ss = v ∧ v ∈ (most lt cs ss :: ((rangeI 0 ss.length).filter fun k => fitB lt c (gI ss k)).map fun k => 1 + most lt cs (cutE ss k)) ∧ ∀ x ∈ (most lt cs ss :: ((rangeI 0 ss.length).filter fun k => fitB lt c (gI ss k)).map fun k => 1 + most lt cs (cutE ss k)), x ≤ v := by
  obtain ⟨v, a, b, d⟩ := maxL_has (xs := most lt cs ss :: ((rangeI 0 ss.length).filter fun k => fitB lt c (gI ss k)).map fun k => 1 + most lt cs (cutE ss k)) (by simp)
  refine ⟨v, a, ?_, b, d⟩
  show (maxL _).getD 0 = v
  rw [a]; rfl
theorem rangeI_in {n : Nat} {k : Int} (h0 : 0 ≤ k) (h1 : k < (n : Int)) : k ∈ rangeI 0 n := by
  have : ∀ (n : Nat) (lo : Int), lo ≤ k → k < lo + n → k ∈ rangeI lo n := fun n => by
    induction n with
    | zero => intro lo a b; omega
    | succ n ih =>
      intro lo a b
      show k ∈ lo :: rangeI (lo + 1) n
      by_cases e : k = lo
      · rw [e]; exact List.mem_cons_self
      · exact List.mem_cons_of_mem _ (ih _ (by omega) (by omega))
  exact this n 0 h0 (by omega)
theorem most_best : ∀ (cs ss : List Int), (∃ m : Nat, most lt cs ss = m ∧ Mt lt cs ss m) ∧ ∀ m : Nat, Mt lt cs ss m → (m : Int) ≤ most lt cs ss
  | [], ss => ⟨⟨0, rfl, .nil _⟩, fun m h => by cases h; exact Int.le_refl _⟩
  | c :: cs, ss => by
    obtain ⟨v, _, e, hv, hu⟩ := most_turn (lt := lt) (c := c) (cs := cs) (ss := ss)
    rw [e]
    constructor
    · rcases List.mem_cons.mp hv with q | q
      · obtain ⟨⟨m, h1, h2⟩, _⟩ := most_best cs ss
        exact ⟨m, by omega, .skip h2⟩
      · obtain ⟨k, hk, q⟩ := List.mem_map.mp q
        obtain ⟨hk1, hk2⟩ := List.mem_filter.mp hk
        have hr := rangeI_mem hk1
        obtain ⟨⟨m, h1, h2⟩, _⟩ := most_best cs (cutE ss k)
        have hm : gI ss k ∈ ss := by
          have : k.toNat < ss.length := by omega
          rw [show gI ss k = ss[k.toNat] by simp [gI, this]]
          exact List.getElem_mem this
        exact ⟨m + 1, by omega, .take hk2 hm (h2.permS (cutE_perm hr.1 (by omega)))⟩
    · intro m hm
      cases hm with
      | skip h =>
        have h1 := (most_best cs ss).2 m h
        have h2 := hu _ List.mem_cons_self
        omega
      | take hf hs h =>
        rename_i s m
        obtain ⟨i, hi, e⟩ := List.mem_iff_getElem.mp hs
        have eg : gI ss (i : Int) = s := by simp [gI, hi, e]
        have hp := cutE_perm (ss := ss) (k := (i : Int)) (by omega) (by omega)
        rw [eg] at hp
        have h1 := (most_best cs (cutE ss (i : Int))).2 m (h.permS hp.symm)
        have h2 := hu (1 + most lt cs (cutE ss (i : Int))) (List.mem_cons_of_mem _ (List.mem_map.mpr ⟨(i : Int), List.mem_filter.mpr ⟨rangeI_in (by omega) (by omega), by rw [eg]; exact hf⟩, rfl⟩))
        omega
theorem srtI_ord (l : List Int) : OrdI (srtI l) := srt_ord totI l
/-- the greedy way is the best -/
theorem greedy_most (cs ss : List Int) : greedy lt (srtI cs) (srtI ss) = most lt cs ss := by
  obtain ⟨⟨m, g1, g2⟩, g3⟩ := greedy_best (lt := lt) (srtI cs) (srtI ss) (srtI_ord cs) (srtI_ord ss)
  obtain ⟨⟨k, w1, w2⟩, w3⟩ := most_best (lt := lt) cs ss
  have p1 : (srtI cs).Perm cs := srt_perm cs
  have p2 : (srtI ss).Perm ss := srt_perm ss
  have a := w3 m ((g2.permC p1).permS p2)
  have b := g3 k ((w2.permC p1.symm).permS p2.symm)
  omega
end Sm.K21
end

section
set_option linter.all false
set_option autoImplicit false
set_option maxRecDepth 100000
set_option maxHeartbeats 4000000
namespace Sm.K21
open Sm
/-! ### fitted -/
variable {e0 e1 e2 : Option D} {lt : Int}
theorem fit_body {S : Store} {q : Nat} {L : List Int} {n c : Int} {e7 : Option D} (hq : S[q]? = some (.lst (L.map .int))) (hl : L.length ≤ 1000) :
    ∃ f7, b_fitted_l1 [e0, e1, e2, some (.int lt), some (.obj q), some (.int n), some (.int c), e7, none] S = .ok (.nx [e0, e1, e2, some (.int lt), some (.obj q), some (.int (stepG lt (L, n) c).2), some (.int c), f7, none]) (S.set q (.lst ((stepG lt (L, n) c).1.map .int))) := by
  have c1 : lcL (gN 8) (tB (eChain oLe oLe (eV 6) (eV 8) (eOp oAdd (eV 6) (eV 3)))) (eV 8) [e0, e1, e2, some (.int lt), some (.obj q), some (.int n), some (.int c), e7, none] (L.map .int) (S.set q (.lck (.lst (L.map .int)))) [] = .ok ([] ++ (L.filter (fitB lt c)).map .int) (S.set q (.lck (.lst (L.map .int)))) :=
    lc_of D.int (fitB lt c) D.int fun x _ => ⟨_, rfl, by by_cases h : c ≤ x <;> simp [h, fitB], fun _ => by simp⟩
  rw [List.nil_append] at c1
  have lr := lcRoot (i := 8) (j := 4) (e := [e0, e1, e2, some (.int lt), some (.obj q), some (.int n), some (.int c), e7, none]) rfl hq (by omega) c1
  cases hf : L.filter (fitB lt c) with
  | nil =>
    rw [stepG_nil (p := (L, n)) hf]
    rw [hf, fold_lst] at lr
    have em : ∀ S : Store, oNe S (Lo .int ([] : List Int)) (.lst []) = some (.bl false) := fun S => by rw [ne_LoN]; rfl
    refine ⟨some (Lo .int []), ?_⟩
    generalize Lo .int ([] : List Int) = G at lr em
    simp [-ev_eLC, b_fitted_l1, lr, em, set_same hq]
  | cons s r =>
    rw [stepG_cons (p := (L, n)) hf]
    rw [hf] at lr
    have hm : s ∈ L := by
      have : s ∈ L.filter (fitB lt c) := by rw [hf]; exact List.mem_cons_self
      exact (List.mem_filter.mp this).1
    obtain ⟨j, j1, j2⟩ := ixOf_erase hm
    have i0 : ∀ S : Store, oIx S (Lo .int (s :: r)) (.int 0) = some (.int s) := fun S => by rw [ix_Lo, atZ_head]; rfl
    have em : ∀ S : Store, oNe S (Lo .int (s :: r)) (.lst []) = some (.bl true) := fun S => by rw [ne_LoN]; rfl
    refine ⟨some (Lo .int (s :: r)), ?_⟩
    rw [fold_lst] at lr
    generalize Lo .int (s :: r) = G at lr i0 em
    simp [-ev_eLC, b_fitted_l1, lr, i0, em, lstAt_obj hq, intsD_mapP, j1, erase_map, j2, iAdd]
theorem fit_loop {q : Nat} : ∀ (cs L : List Int) (n : Int) (e6 e7 : Option D) (S : Store), S[q]? = some (.lst (L.map .int)) → L.length ≤ 1000 →
    ∃ f6 f7, forL none (gN 6) b_fitted_l1 (cs.map .int) [e0, e1, e2, some (.int lt), some (.obj q), some (.int n), e6, e7, none] S = .ok (.nx [e0, e1, e2, some (.int lt), some (.obj q), some (.int (cs.foldl (stepG lt) (L, n)).2), f6, f7, none]) (S.set q (.lst ((cs.foldl (stepG lt) (L, n)).1.map .int)))
  | [], L, n, e6, e7, S, hq, _ => ⟨e6, e7, by simp [unlockAt, set_same hq]⟩
  | c :: cs, L, n, e6, e7, S, hq, hl => by
    obtain ⟨g7, b⟩ := fit_body (e0 := e0) (e1 := e1) (e2 := e2) (lt := lt) (n := n) (c := c) (e7 := e7) hq hl
    have hq' : (S.set q (.lst ((stepG lt (L, n) c).1.map .int)))[q]? = some (.lst ((stepG lt (L, n) c).1.map .int)) := set_at (by rw [hq]; rfl)
    have hlen : (stepG lt (L, n) c).1.length ≤ 1000 := by
      cases hf : L.filter (fitB lt c) with
      | nil => rw [stepG_nil (p := (L, n)) hf]; exact hl
      | cons s r =>
        rw [stepG_cons (p := (L, n)) hf]
        exact Nat.le_trans List.length_erase_le hl
    obtain ⟨f6, f7, ih⟩ := fit_loop cs (stepG lt (L, n) c).1 (stepG lt (L, n) c).2 (some (.int c)) g7 _ hq' hlen
    refine ⟨f6, f7, ?_⟩
    rw [List.map_cons]
    refine forL_nx (e1 := [e0, e1, e2, some (.int lt), some (.obj q), some (.int n), some (.int c), e7, none]) (S1 := S) (by simp) b ?_
    rw [ih, List.set_set, List.foldl_cons]
theorem fitted_ok {S : Store} {cs ss : List Int} (h0 : 0 ≤ lt) (hl : cs.length ≤ 1000) (hl2 : ss.length ≤ 1000) : ∃ S', m_fitted [.tup [Lo .int cs, .int lt], Lo .int ss] S = .ok (.int (most lt cs ss)) S' ∧ Fr S S' := by
  have sl : (srtI ss).length = ss.length := srt_len _
  have sc : (srtI cs).length = cs.length := srt_len _
  obtain ⟨f6, f7, lo⟩ := fit_loop (e0 := some (.tup [Lo .int cs, .int lt])) (e1 := some (Lo .int ss)) (e2 := some (Lo .int cs)) (lt := lt) (q := S.length) (srtI cs) (srtI ss) 0 none none (S ++ [.lst ((srtI ss).map .int)]) ap_new (by omega)
  have gm : ((srtI cs).foldl (stepG lt) (srtI ss, 0)).2 = most lt cs ss := greedy_most cs ss
  rw [gm] at lo
  have ns := fun S : Store => nSorted_Lo (S := S) (xs := ss) (by omega)
  have so := fun S : Store => sorted_Lo (S := S) (xs := cs) (by omega)
  have h1 : ¬ lt < 0 := by omega
  have l1 : ¬ 100000 < (srtI cs).length := by omega
  refine ⟨_, ?_, (Fr.app S [.lst (((srtI cs).foldl (stepG lt) (srtI ss, 0)).1.map .int)])⟩
  have e : (S ++ [Ob.lst ((srtI ss).map .int)]).set S.length (Ob.lst (((srtI cs).foldl (stepG lt) (srtI ss, 0)).1.map .int)) = S ++ [Ob.lst (((srtI cs).foldl (stepG lt) (srtI ss, 0)).1.map .int)] := by simp
  rw [e] at lo
  generalize S ++ [Ob.lst (((srtI cs).foldl (stepG lt) (srtI ss, 0)).1.map .int)] = S9 at lo ⊢
  generalize srtI cs = C at *
  generalize srtI ss = L at *
  simp [m_fitted, b_fitted, h1, ns, so, lo]
/-! the law's -/
theorem most_loop {rec : Fn} {q : Nat} {c : Int} {cs ss : List Int} (hl : cs.length ≤ 100) (hl2 : ss.length ≤ 100) (hr : ∀ (ss : List Int) (S : Store), ss.length ≤ 100 → ∃ S', rec [Lo .int cs, Lo .int ss, .int lt] S = .ok (.int (most lt cs ss)) S' ∧ Fr S S') : ∀ (ks acc : List Int) (e4 : Option D) (S : Store), (∀ k ∈ ks, 0 ≤ k ∧ k < (ss.length : Int)) → acc.length + ks.length ≤ 1000 → S[q]? = some (.lst (acc.map .int)) →
    ∃ S' f4, forL none (gN 4) (b_law_most_l1 rec) (ks.map .int) [some (Lo .int (c :: cs)), some (Lo .int ss), some (.int lt), some (.obj q), e4] S = .ok (.nx [some (Lo .int (c :: cs)), some (Lo .int ss), some (.int lt), some (.obj q), f4]) S' ∧ S'[q]? = some (.lst ((acc ++ (ks.filter fun k => fitB lt c (gI ss k)).map fun k => 1 + most lt cs (cutE ss k)).map .int)) ∧ Fr1 q S S'
  | [], acc, e4, S, _, _, hq => ⟨S, e4, rfl, by simpa using hq, Fr1.refl q S⟩
  | k :: ks, acc, e4, S, hk, hlen, hq => by
    rw [List.length_cons] at hlen
    obtain ⟨k0, k1⟩ := hk k List.mem_cons_self
    have w : atZ ss k = some (gI ss k) := atZ_gI k0 k1
    have hd : ∀ S : Store, oIx S (Lo .int (c :: cs)) (.int 0) = some (.int c) := fun S => by rw [ix_Lo, atZ_head]; rfl
    have tl : ∀ S : Store, slD S (Lo .int (c :: cs)) (some 1) none = some (Lo .int cs) := fun S => by
      rw [sl_Lo, cut_from _ (by decide)]; rfl
    by_cases hf : fitB lt c (gI ss k) = true
    · obtain ⟨f1, f2⟩ := fitB_iff.mp hf
      have c1 : cutL ss none (some k) = ss.take k.toNat := cut_to _ k0
      have c2 : cutL ss (some (k + 1)) none = ss.drop (k + 1).toNat := cut_from _ (by omega)
      have ad := fun S : Store => add_Lo (S := S) (f := D.int) (xs := ss.take k.toNat) (ys := ss.drop (k + 1).toNat) (by rw [List.length_take, List.length_drop]; omega)
      change ∀ S : Store, _ = some (Lo D.int (cutE ss k)) at ad
      have cl : (cutE ss k).length ≤ 100 := by unfold cutE; rw [List.length_append, List.length_take, List.length_drop]; omega
      obtain ⟨S1, h1, fr⟩ := hr (cutE ss k) S cl
      have hq1 : S1[q]? = some (.lst (acc.map .int)) := by rw [fr.old q (lt_at hq)]; exact hq
      have hq2 : (S1.set q (.lst ((acc ++ [1 + most lt cs (cutE ss k)]).map .int)))[q]? = some (.lst ((acc ++ [1 + most lt cs (cutE ss k)]).map .int)) := set_at (by rw [hq1]; rfl)
      obtain ⟨S', f4, lo, a1, a2⟩ := most_loop (c := c) hl hl2 hr ks (acc ++ [1 + most lt cs (cutE ss k)]) (some (.int k)) _ (fun z hz => hk z (List.mem_cons_of_mem _ hz)) (by simp; omega) hq2
      refine ⟨S', f4, ?_, ?_, ((fr.one q).trans (Fr1.set q S1 _)).trans a2⟩
      · have la : acc.length < 100000 := by omega
        have d1 : 0 ≤ gI ss k - c := by omega
        have d2 : gI ss k - c ≤ lt := by omega
        have hb : b_law_most_l1 rec [some (Lo .int (c :: cs)), some (Lo .int ss), some (.int lt), some (.obj q), some (.int k)] S = .ok (.nx [some (Lo .int (c :: cs)), some (Lo .int ss), some (.int lt), some (.obj q), some (.int k)]) (S1.set q (.lst ((acc ++ [1 + most lt cs (cutE ss k)]).map .int))) := by
          generalize Lo .int (c :: cs) = X at hd tl ⊢
          generalize most lt cs (cutE ss k) = mm at h1 ⊢
          generalize cutE ss k = E at *
          generalize ss.take k.toNat = T1 at *
          generalize ss.drop (k + 1).toNat = T2 at *
          simp [b_law_most_l1, w, hd, tl, c1, c2, ad, h1, lstAt_obj hq, lstAt_obj hq1, la, f1, d2]
        rw [List.map_cons]
        exact forL_nx (e1 := [some (Lo .int (c :: cs)), some (Lo .int ss), some (.int lt), some (.obj q), some (.int k)]) (S1 := S) (by simp) hb lo
      · rw [a1, List.filter_cons, if_pos hf]
        simp
    · obtain ⟨S', f4, lo, a1, a2⟩ := most_loop (c := c) hl hl2 hr ks acc (some (.int k)) S (fun z hz => hk z (List.mem_cons_of_mem _ hz)) (by omega) hq
      refine ⟨S', f4, ?_, ?_, a2⟩
      · have hb : b_law_most_l1 rec [some (Lo .int (c :: cs)), some (Lo .int ss), some (.int lt), some (.obj q), some (.int k)] S = .ok (.nx [some (Lo .int (c :: cs)), some (Lo .int ss), some (.int lt), some (.obj q), some (.int k)]) S := by
          have nf : ¬ (c ≤ gI ss k ∧ gI ss k ≤ c + lt) := fun z => hf (fitB_iff.mpr z)
          generalize Lo .int (c :: cs) = X at hd tl ⊢
          by_cases d1 : c ≤ gI ss k
          · have d2 : ¬ gI ss k - c ≤ lt := by omega
            simp [b_law_most_l1, w, hd, d1, d2]
          · simp [b_law_most_l1, w, hd, d1]
        rw [List.map_cons]
        exact forL_nx (e1 := [some (Lo .int (c :: cs)), some (Lo .int ss), some (.int lt), some (.obj q), some (.int k)]) (S1 := S) (by simp) hb lo
      · rw [a1, List.filter_cons, if_neg hf]
theorem most_ok : ∀ (n : Nat) (cs ss : List Int) (S : Store), cs.length < n → cs.length ≤ 100 → ss.length ≤ 100 → ∃ S', m_law_most n [Lo .int cs, Lo .int ss, .int lt] S = .ok (.int (most lt cs ss)) S' ∧ Fr S S'
  | 0, cs, ss, S, h, _, _ => absurd h (by omega)
  | n + 1, [], ss, S, _, _, _ => by
    refine ⟨S, ?_, Fr.refl S⟩
    have hb : m_law_most (n + 1) [Lo .int [], Lo .int ss, .int lt] S = ((b_law_most (m_law_most n)) [some (Lo .int []), some (Lo .int ss), some (.int lt), none, none] S).fin := rfl
    rw [hb]
    simp [b_law_most, most]
  | n + 1, c :: cs, ss, S, h, hl, hl2 => by
    rw [List.length_cons] at h hl
    have hb : m_law_most (n + 1) [Lo .int (c :: cs), Lo .int ss, .int lt] S = ((b_law_most (m_law_most n)) [some (Lo .int (c :: cs)), some (Lo .int ss), some (.int lt), none, none] S).fin := rfl
    obtain ⟨S1, r1, fr1⟩ := most_ok n cs ss S (by omega) (by omega) hl2
    obtain ⟨S2, f4, lo, q1, fr2⟩ := most_loop (rec := m_law_most n) (q := S1.length) (c := c) (cs := cs) (ss := ss) (lt := lt) (by omega) hl2 (fun ss S h => most_ok n cs ss S (by omega) (by omega) h) (rangeI 0 ss.length) [most lt cs ss] none (S1 ++ [.lst ([most lt cs ss].map .int)]) (fun k hk => by have := rangeI_mem hk; omega) (by rw [rangeI_len]; simp; omega) ap_new
    obtain ⟨v, mv, e, _, _⟩ := most_turn (lt := lt) (c := c) (cs := cs) (ss := ss)
    rw [e, hb]
    have mx := max_view q1
    rw [List.cons_append, List.nil_append, mv] at mx
    have fr : Fr S S2 := by
      refine ⟨Nat.le_trans fr1.len (Nat.le_trans (by simp) fr2.len), fun r hr => ?_⟩
      have hr1 := Nat.lt_of_lt_of_le hr fr1.len
      rw [fr2.old r (by simp; omega) (by omega), List.getElem?_append_left hr1, fr1.old r hr]
    refine ⟨S2, ?_, fr⟩
    have tl : ∀ S : Store, slD S (Lo .int (c :: cs)) (some 1) none = some (Lo .int cs) := fun S => by
      rw [sl_Lo, cut_from _ (by decide)]; rfl
    have em : ∀ S : Store, oEq S (Lo .int (c :: cs)) (.lst []) = some (.bl false) := fun S => by rw [eq_LoN]; rfl
    have b1 : (ss.length : Int) ≤ 1000000 := by omega
    generalize Lo .int (c :: cs) = X at *
    generalize most lt cs ss = mm at *
    simp only [List.map_cons, List.map_nil] at lo
    simp [b_law_most, em, tl, r1, b1, rangeL_mapP, lo, mx]
end Sm.K21
end

section
set_option linter.all false
set_option autoImplicit false
set_option maxRecDepth 100000
set_option maxHeartbeats 4000000
namespace Sm.K21
open Sm
/-! ### places laid -/
def ld (pl k : Int) : Int := if k % 2 = 0 then k / 2 else pl - 1 - k / 2
def ldI (pl mn : Int) : List Int := (rangeI 0 mn.toNat).map (ld pl)
theorem mod2 {S : Store} (x : Int) : oMod S (.int x) (.int 2) = some (.int (x % 2)) := mod_int (by decide)
theorem laid_loop {q : Nat} {pl : Int} {e1 : Option D} : ∀ (ks acc : List Int) (e3 : Option D) (S : Store), S[q]? = some (.lst (acc.map .int)) → acc.length + ks.length ≤ 1000 →
    ∃ f3, forL none (gN 3) b_laid_l1 (ks.map .int) [some (.int pl), e1, some (.obj q), e3] S = .ok (.nx [some (.int pl), e1, some (.obj q), f3]) (S.set q (.lst ((acc ++ ks.map (ld pl)).map .int)))
  | [], acc, e3, S, hq, _ => ⟨e3, by simp [unlockAt, set_same hq]⟩
  | k :: ks, acc, e3, S, hq, hl => by
    rw [List.length_cons] at hl
    have la : acc.length < 100000 := by omega
    have hb : b_laid_l1 [some (.int pl), e1, some (.obj q), some (.int k)] S = .ok (.nx [some (.int pl), e1, some (.obj q), some (.int k)]) (S.set q (.lst ((acc ++ [ld pl k]).map .int))) := by
      by_cases h : k % 2 = 0
      · simp [b_laid_l1, lstAt_obj hq, mod2, div2, h, la, ld]
      · simp [b_laid_l1, lstAt_obj hq, mod2, div2, h, la, ld]
    have hq' : (S.set q (.lst ((acc ++ [ld pl k]).map .int)))[q]? = some (.lst ((acc ++ [ld pl k]).map .int)) := set_at (by rw [hq]; rfl)
    obtain ⟨f3, ih⟩ := laid_loop ks (acc ++ [ld pl k]) (some (.int k)) _ hq' (by simp; omega)
    refine ⟨f3, ?_⟩
    rw [List.map_cons]
    refine forL_nx (e1 := [some (.int pl), e1, some (.obj q), some (.int k)]) (S1 := S) (by simp) hb ?_
    rw [ih, List.set_set, List.append_assoc]
    rfl
theorem laid_ok {S : Store} {pl mn : Int} (h0 : 0 ≤ pl) (h1 : 0 ≤ mn) (h2 : mn ≤ 100) : ∃ S', m_laid [.int pl, .int mn] S = (if pl < mn then .exc 5 S else .ok (To .int (ldI pl mn)) S') ∧ Fr S S' := by
  by_cases h : pl < mn
  · have n0 : ¬ pl < 0 := by omega
    have n1 : ¬ mn < 0 := by omega
    exact ⟨S, by simp [m_laid, b_laid, n0, n1, h], Fr.refl S⟩
  · have n0 : ¬ pl < 0 := by omega
    have n1 : ¬ mn < 0 := by omega
    have b1 : -1000000 ≤ mn ∧ mn ≤ 1000000 := by omega
    obtain ⟨f3, lo⟩ := laid_loop (q := S.length) (pl := pl) (e1 := some (.int mn)) (rangeI 0 mn.toNat) [] none (S ++ [.lst (([] : List Int).map .int)]) ap_new (by rw [rangeI_len]; simp; omega)
    have e : (S ++ [Ob.lst (([] : List Int).map .int)]).set S.length (Ob.lst (([] ++ (rangeI 0 mn.toNat).map (ld pl)).map .int)) = S ++ [Ob.lst ((ldI pl mn).map .int)] := by simp [ldI]
    rw [e] at lo
    refine ⟨S ++ [Ob.lst ((ldI pl mn).map .int)], ?_, Fr.app _ _⟩
    rw [if_neg h]
    have tr := tup_root (S := S ++ [Ob.lst ((ldI pl mn).map .int)]) (r := S.length) (f := D.int) (xs := ldI pl mn) (by simp)
    simp only [List.map_nil] at lo
    generalize S ++ [Ob.lst ((ldI pl mn).map .int)] = S9 at lo tr ⊢
    simp [m_laid, b_laid, n0, n1, h, b1, rangeL_mapP, lo, tr]
def chkL (pl mn : Int) : Bool :=
  decide ((ldI pl mn).length = mn.toNat) && decide (srtI (ldI pl mn) = (rangeI 0 pl.toNat).filter fun x => decide (x ∈ ldI pl mn)) && decide ((ldI pl mn).map (fun x => min x (pl - 1 - x)) = (rangeI 0 mn.toNat).map fun k => k / 2)
  && decide (((enumI 0 (ldI pl mn)).filter fun p => decide (p.1 % 2 = 0) && !decide (p.2 = p.1 / 2)).map (fun p => p.2) = [])
theorem chk_all : ∀ pl : Fin 9, ∀ mn : Fin 10, mn.val ≤ pl.val → chkL pl.val mn.val = true := by decide +kernel
theorem chk_ok {pl mn : Int} (h0 : 0 ≤ pl) (h1 : pl < 9) (h2 : 0 ≤ mn) (h3 : mn < 10) (h4 : mn ≤ pl) : chkL pl mn = true := by
  have := chk_all ⟨pl.toNat, by omega⟩ ⟨mn.toNat, by omega⟩ (by show mn.toNat ≤ pl.toNat; omega)
  simp only at this
  rw [show ((pl.toNat : Nat) : Int) = pl by omega, show ((mn.toNat : Nat) : Int) = mn by omega] at this
  exact this
/-! ### wobbles -/
theorem ord_eq : ∀ {l1 l2 : List Int}, l1.Perm l2 → OrdI l1 → OrdI l2 → l1 = l2
  | [], l2, p, _, _ => (List.perm_nil.mp p.symm).symm
  | x :: r, [], p, _, _ => absurd (List.perm_nil.mp p) (by simp)
  | x :: r, y :: q, p, h1, h2 => by
    have hx : x ∈ y :: q := p.mem_iff.mp List.mem_cons_self
    have hy : y ∈ x :: r := p.mem_iff.mpr List.mem_cons_self
    have e : x = y := by
      obtain ⟨a1, _⟩ := List.pairwise_cons.mp h1
      obtain ⟨a2, _⟩ := List.pairwise_cons.mp h2
      rcases List.mem_cons.mp hx with z | z
      · exact z
      · rcases List.mem_cons.mp hy with w | w
        · exact w.symm
        · have := of_decide_eq_true (a1 y w)
          have := of_decide_eq_true (a2 x z)
          omega
    subst e
    rw [ord_eq p.cons_inv (List.pairwise_cons.mp h1).2 (List.pairwise_cons.mp h2).2]
theorem leR_rev (a b : Int) : leR true (.int a) (.int b) = decide (b ≤ a) := by
  have := leR_int b a
  simp only [leR, Bool.false_eq_true, if_false, if_true] at this ⊢
  exact this
theorem srt_rev (l : List Int) : srt (fun a b => leR true (.int a) (.int b)) l = (srtI l).reverse := by
  have e : srt (fun a b => leR true (.int a) (.int b)) l = srt (fun a b : Int => decide (b ≤ a)) l := srt_congr leR_rev l
  rw [e]
  have T : TotL fun a b : Int => decide (b ≤ a) := ⟨fun a b c h1 h2 => by simp at *; omega, fun a b => by simp; omega⟩
  have o1 : OrdI (srt (fun a b : Int => decide (b ≤ a)) l).reverse := List.pairwise_reverse.mpr (srt_ord T l)
  have p : ((srt (fun a b : Int => decide (b ≤ a)) l).reverse).Perm (srtI l) := (List.reverse_perm _).trans ((srt_perm l).trans (srt_perm l).symm)
  have := ord_eq p o1 (srtI_ord l)
  rw [← this, List.reverse_reverse]
theorem sortR_Lo {S : Store} {xs : List Int} (h : xs.length ≤ 100000) : bSortedR true S [Lo .int xs] = some (Lo .int (srtI xs).reverse) := by
  show (if okSort (xs.map .int) = true then some (D.lst (sortB (leR true) (xs.map .int))) else none) = _
  rw [if_pos (okSort_ints h), sortB_srt, srt_rev]; rfl
theorem rev_gI {l : List Int} {k : Int} (h0 : 0 ≤ k) (h1 : k < (l.length : Int)) : gI l.reverse k = gI l ((l.length : Int) - 1 - k) := by
  unfold gI
  rw [List.getD_eq_getElem?_getD, List.getD_eq_getElem?_getD, List.getElem?_reverse (by omega)]
  congr 2
  omega
def wob (f : List Int) : Int := gI (srtI f) ((f.length : Int) - 1) - gI (srtI f) ((f.length : Int) - 3)
theorem wobbles_ok {S : Store} {f : List Int} (hl : f.length ≤ 1000) : m_wobbles [Lo .int f] S = if 2 < f.length then .ok (.int (wob f)) S else .exc 2 S := by
  by_cases h : 2 < f.length
  · have h' : ¬ (f.length : Int) < 3 := by omega
    have sr := fun S : Store => sortR_Lo (S := S) (xs := f) (by omega)
    have sl : (srtI f).length = f.length := srt_len _
    have r0 : atZ (srtI f).reverse 0 = some (gI (srtI f) ((f.length : Int) - 1)) := by
      rw [atZ_gI (by decide) (by rw [List.length_reverse]; omega), rev_gI (by decide) (by omega), sl]; congr 2; omega
    have r2 : atZ (srtI f).reverse 2 = some (gI (srtI f) ((f.length : Int) - 3)) := by
      rw [atZ_gI (by decide) (by rw [List.length_reverse]; omega), rev_gI (by decide) (by omega), sl]; congr 2; omega
    generalize (srtI f).reverse = R0 at *
    simp [m_wobbles, b_wobbles, h, h', sr, r0, r2, wob]
  · have h' : (f.length : Int) < 3 := by omega
    simp [m_wobbles, b_wobbles, h, h']
end Sm.K21
end

section
set_option linter.all false
set_option autoImplicit false
set_option maxRecDepth 100000
set_option maxHeartbeats 4000000
namespace Sm.K21
open Sm
/-! ### a fresh table -/
def pqr : List Ch := [112, 113, 114]
theorem strKeys_G {β : Type} {f : β → D} : ∀ l : List (Ch × β), strKeys (l.map (kvG stC f)) = some ((l.map (·.1)).map fun c => [c.val])
  | [] => rfl
  | p :: l => by
    show (strKeys (l.map (kvG stC f))).map ([p.1.val] :: ·) = _
    rw [strKeys_G l]; rfl
theorem three {n : Nat} (h1 : 1 ≤ n) (h2 : n ≤ 3) : n = 1 ∨ n = 2 ∨ n = 3 := by omega
theorem sortedK {β : Type} {f : β → D} {S : Store} {x : D} {l : List (Ch × β)} (h : view S x = .dct (l.map (kvG stC f))) (h1 : 1 ≤ l.length) (h2 : l.length ≤ 3) (hk : l.map (·.1) = pqr.take l.length) : bSorted S [x] = some (Lo stC (l.map (·.1))) := by
  unfold bSorted
  simp only [h, strKeys_G]
  rw [hk]
  rcases three h1 h2 with e | e | e <;> rw [e] <;> rfl
theorem pqr_nodup {n : Nat} : (pqr.take n).Nodup := List.Pairwise.sublist (List.take_sublist _ _) (show pqr.Nodup by decide)
theorem noEmpty {β : Type} {f : β → D} : ∀ l : List (Ch × β), getK (.s []) (l.map (kvG stC f)) = none
  | [] => rfl
  | p :: l => by
    show (if K1.s [p.1.val] = .s [] then some (f p.2) else getK (.s []) (l.map (kvG stC f))) = none
    rw [if_neg (by simp), noEmpty l]
theorem itG_keys {β : Type} {f : β → D} {l : List (Ch × β)} (d : β) (h : (l.map (·.1)).Nodup) : l.map (itG stC f) = (l.map (·.1)).map fun c => D.tup [stC c, f ((getG c l).getD d)] := by
  rw [List.map_map]
  apply List.map_congr_left
  intro p hp
  show D.tup [stC p.1, f p.2] = D.tup [stC p.1, f ((getG p.1 l).getD d)]
  rw [getG_nodup h hp]; rfl
theorem vMin_ge {xs : List Int} (h : xs ≠ []) (h1 : ∀ x ∈ xs, 1 ≤ x) : ∃ m, vMin xs = some m ∧ 1 ≤ m := by
  cases xs with
  | nil => exact absurd rfl h
  | cons y r =>
    refine ⟨minI r y, rfl, ?_⟩
    rcases (minI_specP r y).1 with q | q
    · rw [q]; exact h1 y List.mem_cons_self
    · exact h1 _ (List.mem_cons_of_mem _ q)
theorem init_ok {S : Store} {r w : Nat} {l : List (Ch × Int)} {p : Int} (hr : S[r]? = some (.ins 0 [])) (hw : S[w]? = some (.dct (l.map KW))) (h1 : 1 ≤ l.length) (h2 : l.length ≤ 3) (hk : l.map (·.1) = pqr.take l.length) (hv : ∀ x ∈ l, 1 ≤ x.2) (hp : 0 ≤ p) :
    m_Table_init [.obj r, .obj w, .int p] S = .ok .non (S.set r (obT S.length (S.length + 1) p) ++ [.dct (l.map KW), .dct []]) := by
  have vw := vdct hw
  have nd : (l.map (·.1)).Nodup := by rw [hk]; exact pqr_nodup
  have em : (l.map KW).isEmpty = false := by
    cases l with
    | nil => simp at h1
    | cons _ _ => rfl
  have ne : oInS S (.str []) (.obj w) = some (.bl false) := by
    unfold oInS inSV
    rw [vw]
    show some (D.bl (getK (.s []) (l.map KW)).isSome) = _
    rw [noEmpty]; rfl
  have dm := dctM_G hw
  have iv : intsD ((l.map KW).map fun p => p.2) = some (l.map (·.2)) := by rw [vals_G, intsD_mapP]
  obtain ⟨m, vm, m1⟩ := vMin_ge (xs := l.map (·.2)) (by intro e; rw [List.map_eq_nil_iff] at e; rw [e] at h1; simp at h1) (fun x hx => by
    obtain ⟨y, hy, e⟩ := List.mem_map.mp hx
    rw [← e]; exact hv y hy)
  have m2 : ¬ m < 1 := by omega
  have p2 : ¬ p < 0 := by omega
  have so := sortedK vw h1 h2 hk
  have kl : (l.map (·.1)).length = l.length := List.length_map ..
  have kl2 : ¬ 100000 < (l.map (·.1)).length := by omega
  have c1 : lcL (gN 3) tYes (eTup (aCons (eV 3) (aCons (eOp oIx (eV 1) (eV 3)) (aNil)))) [some (.obj r), some (.obj w), some (.int p), none] ((l.map (·.1)).map stC) S [] = .ok (l.map (itG stC D.int)) S := by
    rw [itG_keys (f := D.int) 0 nd]
    exact lc_map stC (fun c => D.tup [stC c, .int ((getG c l).getD 0)]) fun c hc => ⟨_, rfl, by
      have ix := ix_G (f := D.int) vw c
      obtain ⟨v, e⟩ := getG_has hc
      rw [e] at ix
      simp [ix, e]⟩
  have np : nDictP S [.lst (l.map (itG stC D.int))] = some (.dct (l.map KW)) := nDictP_G (f := D.int) rfl nd
  have lr := lt_at hr
  have i0 : insAt S (.obj r) = some (r, 0, []) := insAt_obj hr
  have i1 : ∀ o, insAt (S ++ [o]) (.obj r) = some (r, 0, []) := fun o => insAt_obj (by rw [ap_old (by rw [hr]; rfl)]; exact hr)
  have s1 : ∀ o o2, (S ++ [o]).set r o2 = S.set r o2 ++ [o] := fun o o2 => List.set_append_left _ _ lr
  have i2 : ∀ fs l, insAt (S.set r (.ins 0 fs) ++ l) (.obj r) = some (r, 0, fs) := fun fs l => insAt_obj (by rw [List.getElem?_append_left (by simpa using lr)]; exact List.getElem?_set_self lr)
  have s2 : ∀ o o2 l, (S.set r o ++ l).set r o2 = S.set r o2 ++ l := fun o o2 l => by rw [List.set_append_left _ _ (by simpa using lr), List.set_set]
  generalize l.map (itG stC D.int) = its at c1 np
  generalize l.map (·.1) = ks at *
  generalize l.map KW = kw at *
  simp [m_Table_init, b_Table_init, vw, em, ne, dm, iv, vm, m2, p2, so, kl2, c1, np, i0, i1, i2, s1, s2, putF, obT]
/-! ### the law's walk -/
def ev (c0 : Option D) (r w v : Nat) (t : Tb) (e3 e4 e5 e9 e10 e11 e12 e13 e14 e15 e16 e17 e18 : Option D) : Env := [c0, some (.obj 1), some (.obj r), e3, e4, e5, some (.obj w), some (.int t.p), some (.obj v), e9, e10, e11, e12, e13, e14, e15, e16, e17, e18]
structure Good (r a b w v n : Nat) (t : Tb) (S : Store) : Prop where
  at_ : At r a b t S
  hw : S[w]? = some (.dct (t.l.map KW))
  hv : S[v]? = some (.dct (t.h.map KH))
  dice : Dice S
  vw : v ≠ w
  va : v ≠ a
  vb : v ≠ b
  bw : b ≠ w
  l1 : 1 ≤ t.l.length
  l3 : t.l.length ≤ 3
  hk : t.l.map (·.1) = pqr.take t.l.length
  vs : ∀ p ∈ t.l, 1 ≤ p.2 ∧ p.2 ≤ 9
  hn : (kH t).Nodup
  sub : ∀ n ∈ kH t, n ∈ kL t
  hl : t.h.length ≤ n
variable {S S' : Store} {r a b w v n : Nat} {t t' : Tb}
theorem ne1_dct {S : Store} {q : Nat} {k : List (K1 × D)} (h : Dice S) (hq : S[q]? = some (.dct k)) : q ≠ 1 := fun e => by
  obtain ⟨x, y, z, h⟩ := h
  rw [e, h] at hq
  simp [tri] at hq
theorem ne1_ins {S : Store} {q : Nat} {k : List (Nat × D)} (h : Dice S) (hq : S[q]? = some (.ins 0 k)) : q ≠ 1 := fun e => by
  obtain ⟨x, y, z, h⟩ := h
  rw [e, h] at hq
  simp [tri] at hq
theorem Good.roll (g : Good r a b w v n t S) (dc : Dc S S') : Good r a b w v n t S' :=
  { g with
    at_ := ⟨dc.at_ g.at_.ob (ne1_ins g.dice g.at_.ob), dc.at_ g.at_.ha (ne1_dct g.dice g.at_.ha), dc.at_ g.at_.hb (ne1_dct g.dice g.at_.hb), g.at_.ab⟩
    hw := dc.at_ g.hw (ne1_dct g.dice g.hw)
    hv := dc.at_ g.hv (ne1_dct g.dice g.hv)
    dice := dc.dice }
theorem Good.up (g : Good r a b w v n t S) : Good r a b w v (n + 1) t S := { g with hl := by have := g.hl; omega }
theorem Good.vW_bd (g : Good r a b w v n t S) (c : Ch) : 0 ≤ vW t c ∧ vW t c ≤ 9 := by
  unfold vW
  by_cases h : c ∈ t.l.map (·.1)
  · obtain ⟨x, e⟩ := getG_has h
    have := g.vs _ (getG_mem e)
    rw [e]
    show 0 ≤ x ∧ x ≤ 9
    have h1 : 1 ≤ x := this.1
    have h2 : x ≤ 9 := this.2
    omega
  · rw [getG_non h]; decide
end Sm.K21
end

section
set_option linter.all false
set_option autoImplicit false
set_option maxRecDepth 100000
set_option maxHeartbeats 4000000
namespace Sm.K21
open Sm
variable {S S' : Store} {r a b w v n : Nat} {t t' : Tb} {c0 e3 e4 e5 e9 e10 e11 e12 e13 e14 e15 e16 e17 e18 : Option D}
/-- after a deed: told is due -/
def Done (c0 : Option D) (r a b w n : Nat) (fl : Fl) (S' : Store) : Prop := ∃ (v : Nat) (t : Tb) (d : D) (e3 e4 e5 e9 e10 e11 e12 e13 e16 e17 e18 : Option D), fl = .nx (ev c0 r w v t e3 e4 e5 e9 e10 e11 e12 e13 (some d) (some d) e16 e17 e18) ∧ dataN 6 d = true ∧ Good r a b w v (n + 1) t S'
theorem cnt_sh {th w : Int} (h : th ≤ w) : ((cntC th w 2 : Nat) : Int) = shN w th := by
  unfold cntC shN
  split <;> omega
def badB (t : Tb) (cd : List Ch) (th : Int) : Bool := decide (cd = []) || (decide (th < 1) || decide (cd ∈ t.h.map (fun p => p.2.1)))
theorem cands_lk {v : Nat} (hv : S[v]? = some (.dct (t.h.map KH))) (hl : t.h.length ≤ 1000) {e : Env} (h8 : e[8]? = some (some (.obj v))) (he : 18 < e.length) : eLk (pV 8) (eLC [18] (iVals (eV 8)) (gN 18) (tYes) (eOp oIx (eV 18) (eC (.int 0)))) e S = .ok (Lo tx (t.h.map fun p => p.2.1)) S := by
  refine eLk_pure (r := v) (by simp [pV, h8]) hv ?_
  have la : (S.set v (.lck (.dct (t.h.map KH))))[v]? = some (.lck (.dct (t.h.map KH))) := set_at (by rw [hv]; rfl)
  have vi := valsIt_G (df := stC) (f := h3) la
  generalize S.set v (.lck (.dct (t.h.map KH))) = S1 at *
  have c1 : lcL (gN 18) tYes (eOp oIx (eV 18) (eC (.int 0))) (e.set 18 none) ((t.h.map (·.2)).map h3) S1 [] = .ok ((t.h.map fun p => p.2.1).map tx) S1 := by
    rw [lc_map h3 (fun q => tx q.1) fun q _ => ⟨_, rfl, by
      have i0 : ∀ S : Store, oIx S (h3 q) (.int 0) = some (tx q.1) := fun _ => rfl
      simp [he, i0]⟩, List.map_map, List.map_map]
    rfl
  have l1 : ¬ 100000 < ((t.h.map (·.2)).map h3).length := by rw [List.length_map, List.length_map]; omega
  generalize (t.h.map (·.2)).map h3 = hs at *
  generalize (t.h.map fun p => p.2.1) = R0 at c1 ⊢
  simp [h8, vi, l1, c1]
theorem tx_dat (x : List Ch) : dataN 6 (tx x) = true := by have : dataN 4 (tx x) = true := Dat.dat x; exact dat_mono (by decide) this
theorem notstr_int {S : Store} (x : Int) : oNotInS S (.int x) (.lst [.str [110, 111, 32, 115, 117, 99, 104], .str [99, 97, 110, 100, 108, 101], .str [110, 111, 32, 114, 111, 111, 109], .str [110, 111, 32, 119, 97, 121]]) = some (.bl true) := by
  simp [oNotInS, inSV, view, flatD, inL, eqD]
/-- what the law says of a stand -/
def dueS (t : Tb) (nm : Ch) (cd : List Ch) (th : Int) : D := if badB t cd th = true then .str [99, 97, 110, 100, 108, 101] else if nm ∈ kH t ∨ vW t nm < th then .str [110, 111, 32, 114, 111, 111, 109] else if t.p < (cntC th (vW t nm) 2 : Nat) then .str [110, 111, 32, 119, 97, 121] else .int (cntC th (vW t nm) 2 : Nat)
theorem stand_pre {nm : Ch} {cd : List Ch} {th : Int} (g : Good r a b w v n t S) (hn : n ≤ 20) (t0 : 0 ≤ th) (t1 : th < 10) {b0 : MS} {Q : Fl → Store → Prop}
    (k : ∀ e12 : Option D, okW Q (b0 (ev c0 r w v t e3 (some (.int th)) e5 e9 (some (stC nm)) (some (tx cd)) e12 (some (.int (cntC th (vW t nm) 2 : Nat))) (some (dueS t nm cd th)) e15 e16 e17 e18) S)) :
    okW Q (sSeq (sSet 12 (eOr (eOp oEq (eV 11) (eC (.str []))) (eOr (eOp oLt (eV 4) (eC (.int 1))) (eOp oInS (eV 11) (eLk (pV 8) (eLC [18] (iVals (eV 8)) (gN 18) (tYes) (eOp oIx (eV 18) (eC (.int 0))))))))) (
  sSeq (sSet 13 (eCB bLen (aCons (eLRng3 (aCons (eV 4) (aCons (eDGet2 (eV 6) (eV 10) (eC (.int 0))) (aCons (eC (.int 2)) (aNil))))) (aNil)))) (
  sSeq (sSet 14 (eIf (tB (eV 12)) (eC (.str [99, 97, 110, 100, 108, 101])) (eIf (tOr (tB (eOp oInS (eV 10) (eV 8))) (tB (eOp oGt (eV 4) (eDGet2 (eV 6) (eV 10) (eC (.int 0)))))) (eC (.str [110, 111, 32, 114, 111, 111, 109])) (eIf (tB (eOp oGt (eV 13) (eV 7))) (eC (.str [110, 111, 32, 119, 97, 121])) (eV 13))))) b0)) (ev c0 r w v t e3 (some (.int th)) e5 e9 (some (stC nm)) (some (tx cd)) e12 e13 e14 e15 e16 e17 e18) S) := by
  have hl : t.h.length ≤ 1000 := by have := g.hl; omega
  have vb := g.vW_bd nm
  have lk := cands_lk (S := S) (t := t) g.hv hl (e := ev c0 r w v t e3 (some (.int th)) e5 e9 (some (stC nm)) (some (tx cd)) e12 e13 e14 e15 e16 e17 e18) rfl (by simp [ev])
  have eqn := eq_txN (S := S) cd
  have inn : oInS S (tx cd) (Lo tx (t.h.map fun p => p.2.1)) = some (.bl (decide (cd ∈ t.h.map fun p => p.2.1))) := (in_Lo (f := tx) (x := cd) rfl _).trans (by congr)
  have isw : isDict S (.obj w) = true := isDict_G (vdct g.hw)
  have lw := dlook_G (df := stC) (f := D.int) (vdct g.hw) nm
  have gd : ((getG nm t.l).map D.int).getD (.int 0) = .int (vW t nm) := by unfold vW; cases getG nm t.l <;> rfl
  have rn := rngP_ints th (vW t nm) 2
  rw [if_pos ⟨by omega, by omega, by omega, by omega, by omega, by omega⟩] at rn
  have inh : oInS S (stC nm) (.obj v) = some (.bl (decide (nm ∈ kH t))) := in_G (vdct g.hv) nm
  have rl := rangeC_lenP (c := 2) (cntC th (vW t nm) 2) th
  refine okW_nx (e' := ev c0 r w v t e3 (some (.int th)) e5 e9 (some (stC nm)) (some (tx cd)) (some (.bl (badB t cd th))) e13 e14 e15 e16 e17 e18) (S' := S) ?_ ?_
  · generalize Lo tx (t.h.map fun p => p.2.1) = R0 at lk inn
    by_cases c1 : cd = []
    · rw [decide_eq_true c1] at eqn
      have bt : badB t cd th = true := by simp [badB, c1]
      simp [-ev_eLC, ev, eqn, bt]
    · by_cases c2 : th < 1
      · simp [-ev_eLC, ev, eqn, c1, c2, badB]
      · simp only [ev] at lk
        simp [-ev_eLC, ev, eqn, c1, c2, lk, inn, badB]
  refine okW_nx (e' := ev c0 r w v t e3 (some (.int th)) e5 e9 (some (stC nm)) (some (tx cd)) (some (.bl (badB t cd th))) (some (.int (cntC th (vW t nm) 2 : Nat))) e14 e15 e16 e17 e18) (S' := S) ?_ ?_
  · generalize rangeC th 2 (cntC th (vW t nm) 2) = RC at rn rl
    simp [-Option.getD_map, ev, isw, lw, gd, rn, rl]
  refine okW_nx (e' := ev c0 r w v t e3 (some (.int th)) e5 e9 (some (stC nm)) (some (tx cd)) (some (.bl (badB t cd th))) (some (.int (cntC th (vW t nm) 2 : Nat))) (some (dueS t nm cd th)) e15 e16 e17 e18) (S' := S) ?_ (k _)
  unfold dueS
  generalize cntC th (vW t nm) 2 = cc
  by_cases c1 : badB t cd th = true
  · simp [ev, c1]
  · by_cases c2 : nm ∈ kH t
    · simp [ev, c1, inh, c2]
    · by_cases c3 : vW t nm < th
      · simp [-Option.getD_map, ev, c1, inh, c2, isw, lw, gd, c3]
      · by_cases c4 : t.p < (cc : Int)
        · simp [-Option.getD_map, ev, c1, inh, c2, isw, lw, gd, c3, c4]
        · simp [-Option.getD_map, ev, c1, inh, c2, isw, lw, gd, c3, c4]
theorem badB_iff {cd : List Ch} {th : Int} : (cd = [] ∨ th < 1 ∨ cd ∈ t.h.map (fun p => p.2.1)) ↔ badB t cd th = true := by
  unfold badB
  simp only [Bool.or_eq_true, decide_eq_true_eq]
theorem p3_ok {nm : Ch} {cd : List Ch} {th : Int} (g : Good r a b w v n t S) (hn : n ≤ 20) (t0 : 0 ≤ th) (t1 : th < 10) : okW (Done c0 r a b w n) (b_law_p3 (ev c0 r w v t e3 (some (.int th)) e5 e9 (some (stC nm)) (some (tx cd)) e12 e13 e14 e15 e16 e17 e18) S) := by
  unfold b_law_p3
  refine stand_pre g hn t0 t1 fun e12 => ?_
  have hl : t.h.length ≤ 1000 := by have := g.hl; omega
  have st := stand_ok g.at_ hl (n := nm) (cd := cd) (th := th)
  have i0 := g.at_.ins
  have nw : oNotInS S (stC nm) (.obj w) = some (.bl (!decide (nm ∈ kL t))) := notin_G (vdct g.hw) nm
  have n1 : ∀ S : Store, oNotInS S (.str [110, 111, 32, 115, 117, 99, 104]) (.lst [.str [110, 111, 32, 115, 117, 99, 104], .str [99, 97, 110, 100, 108, 101], .str [110, 111, 32, 114, 111, 111, 109], .str [110, 111, 32, 119, 97, 121]]) = some (.bl false) := fun S => rfl
  have n2 : ∀ S : Store, oNotInS S (.str [99, 97, 110, 100, 108, 101]) (.lst [.str [110, 111, 32, 115, 117, 99, 104], .str [99, 97, 110, 100, 108, 101], .str [110, 111, 32, 114, 111, 111, 109], .str [110, 111, 32, 119, 97, 121]]) = some (.bl false) := fun S => rfl
  have n3 : ∀ S : Store, oNotInS S (.str [110, 111, 32, 114, 111, 111, 109]) (.lst [.str [110, 111, 32, 115, 117, 99, 104], .str [99, 97, 110, 100, 108, 101], .str [110, 111, 32, 114, 111, 111, 109], .str [110, 111, 32, 119, 97, 121]]) = some (.bl false) := fun S => rfl
  have n4 : ∀ S : Store, oNotInS S (.str [110, 111, 32, 119, 97, 121]) (.lst [.str [110, 111, 32, 115, 117, 99, 104], .str [99, 97, 110, 100, 108, 101], .str [110, 111, 32, 114, 111, 111, 109], .str [110, 111, 32, 119, 97, 121]]) = some (.bl false) := fun S => rfl
  by_cases c0' : nm ∈ kL t
  · rw [if_pos c0'] at st
    unfold dueS
    by_cases c1 : badB t cd th = true
    · rw [if_pos (badB_iff.mpr c1)] at st
      refine okW_mk (S := S) (a := .nx (ev c0 r w v t e3 (some (.int th)) e5 e9 (some (stC nm)) (some (tx cd)) e12 (some (.int (cntC th (vW t nm) 2 : Nat))) (some (.str [99, 97, 110, 100, 108, 101])) (some (.str [99, 97, 110, 100, 108, 101])) e16 e17 e18)) ?_ ⟨v, t, _, _, _, _, _, _, _, _, _, _, _, _, rfl, rfl, g.up⟩
      simp [ev, nw, c0', c1, i0, st, subX, toldX, n2]
    · rw [if_neg (fun z => c1 (badB_iff.mp z))] at st
      rw [if_neg c1]
      by_cases c2 : nm ∈ kH t ∨ vW t nm < th
      · rw [if_pos c2] at st
        rw [if_pos c2]
        refine okW_mk (S := S) (a := .nx (ev c0 r w v t e3 (some (.int th)) e5 e9 (some (stC nm)) (some (tx cd)) e12 (some (.int (cntC th (vW t nm) 2 : Nat))) (some (.str [110, 111, 32, 114, 111, 111, 109])) (some (.str [110, 111, 32, 114, 111, 111, 109])) e16 e17 e18)) ?_ ⟨v, t, _, _, _, _, _, _, _, _, _, _, _, _, rfl, rfl, g.up⟩
        simp [ev, nw, c0', i0, st, subX, toldX, n3]
      · rw [if_neg c2] at st
        rw [if_neg c2]
        have c3 : nm ∉ kH t := fun z => c2 (.inl z)
        have c4 : th ≤ vW t nm := by have : ¬ vW t nm < th := fun z => c2 (.inr z); omega
        have cs := cnt_sh c4
        generalize cntC th (vW t nm) 2 = cc at cs ⊢
        rw [← cs] at st
        by_cases c5 : t.p < (cc : Int)
        · rw [if_pos c5] at st
          rw [if_pos c5]
          refine okW_mk (S := S) (a := .nx (ev c0 r w v t e3 (some (.int th)) e5 e9 (some (stC nm)) (some (tx cd)) e12 (some (.int cc)) (some (.str [110, 111, 32, 119, 97, 121])) (some (.str [110, 111, 32, 119, 97, 121])) e16 e17 e18)) ?_ ⟨v, t, _, _, _, _, _, _, _, _, _, _, _, _, rfl, rfl, g.up⟩
          simp [ev, nw, c0', i0, st, subX, toldX, n4]
        · rw [if_neg c5] at st
          rw [if_neg c5]
          have hv1 : ((S.set r (obT a b (t.p - cc))).set b (.dct ((t.h ++ [(nm, cd, th, (cc : Int))]).map KH)))[v]? = some (.dct (t.h.map KH)) := by
            rw [set_ne g.vb.symm, set_ne (fun e => by have h := g.at_.ob; rw [e, g.hv] at h; simp [obT] at h)]
            exact g.hv
          have pu := dput_G (df := stC) (f := h3) hv1 (by omega) nm (cd, th, (cc : Int))
          have pn : putG nm (cd, th, (cc : Int)) t.h = t.h ++ [(nm, cd, th, (cc : Int))] := putG_new c3
          rw [pn] at pu
          have h3e : h3 (cd, th, (cc : Int)) = .tup [tx cd, .int th, .int cc] := rfl
          rw [h3e] at pu
          have nh := g.at_
          refine okW_mk (S := ((S.set r (obT a b (t.p - cc))).set b (.dct ((t.h ++ [(nm, cd, th, (cc : Int))]).map KH))).set v (.dct ((t.h ++ [(nm, cd, th, (cc : Int))]).map KH))) (a := .nx (ev c0 r w v { t with p := t.p - cc, h := t.h ++ [(nm, cd, th, (cc : Int))] } e3 (some (.int th)) e5 e9 (some (stC nm)) (some (tx cd)) e12 (some (.int cc)) (some (.int cc)) (some (.int cc)) e16 e17 e18)) ?_ ⟨v, { t with p := t.p - cc, h := t.h ++ [(nm, cd, th, (cc : Int))] }, _, _, _, _, _, _, _, _, _, _, _, _, rfl, rfl, ?_⟩
          · generalize (t.h ++ [(nm, cd, th, (cc : Int))]).map KH = HH at *
            generalize (S.set r (obT a b (t.p - cc))).set b (.dct HH) = S1 at *
            simp [ev, nw, c0', i0, st, notstr_int, pu]
          · have ra := g.at_.ra
            have rb := g.at_.rb
            have vr : v ≠ r := fun e => by have h := g.hv; rw [e, g.at_.ob] at h; simp [obT] at h
            have wr : w ≠ r := fun e => by have h := g.hw; rw [e, g.at_.ob] at h; simp [obT] at h
            have o1 := ne1_ins g.dice g.at_.ob
            have o2 := ne1_dct g.dice g.at_.hb
            have o3 := ne1_dct g.dice g.hv
            refine { at_ := ⟨?_, ?_, ?_, g.at_.ab⟩, hw := ?_, hv := set_at (by rw [hv1]; rfl), dice := ?_, vw := g.vw, va := g.va, vb := g.vb, bw := g.bw, l1 := g.l1, l3 := g.l3, hk := g.hk, vs := g.vs, hn := ?_, sub := ?_, hl := ?_ }
            · rw [set_ne vr, set_ne rb.symm, set_at (by rw [g.at_.ob]; rfl)]
            · rw [set_ne g.va, set_ne g.at_.ab.symm, set_ne ra]; exact g.at_.ha
            · rw [set_ne g.vb, set_at (by rw [set_ne rb, g.at_.hb]; rfl)]
            · rw [set_ne g.vw, set_ne g.bw, set_ne wr.symm]; exact g.hw
            · obtain ⟨x, y, z, h⟩ := g.dice
              exact ⟨x, y, z, by rw [set_ne o3, set_ne o2, set_ne o1]; exact h⟩
            · show ((t.h ++ [(nm, cd, th, (cc : Int))]).map (·.1)).Nodup
              rw [List.map_append]
              refine List.nodup_append.mpr ⟨g.hn, by simp, fun x hx y hy => ?_⟩
              simp at hy
              rw [hy]
              exact fun e => c3 (e ▸ hx)
            · intro x hx
              have hx' : x ∈ (t.h ++ [(nm, cd, th, (cc : Int))]).map (·.1) := hx
              rw [List.map_append] at hx'
              rcases List.mem_append.mp hx' with q | q
              · exact g.sub x q
              · simp at q; rw [q]; exact c0'
            · show (t.h ++ [(nm, cd, th, (cc : Int))]).length ≤ n + 1
              rw [List.length_append]
              have := g.hl
              simp; omega
  · rw [if_neg c0'] at st
    refine okW_mk (S := S) (a := .nx (ev c0 r w v t e3 (some (.int th)) e5 e9 (some (stC nm)) (some (tx cd)) e12 (some (.int (cntC th (vW t nm) 2 : Nat))) (some (.str [110, 111, 32, 115, 117, 99, 104])) (some (.str [110, 111, 32, 115, 117, 99, 104])) e16 e17 e18)) ?_ ⟨v, t, _, _, _, _, _, _, _, _, _, _, _, _, rfl, rfl, g.up⟩
    generalize dueS t nm cd th = DD
    simp [ev, nw, c0', i0, st, subX, toldX, n1]
end Sm.K21
end

section
set_option linter.all false
set_option autoImplicit false
set_option maxRecDepth 100000
set_option maxHeartbeats 4000000
namespace Sm.K21
open Sm
variable {S S' : Store} {r a b w v n : Nat} {t t' : Tb} {c0 e3 e4 e5 e9 e10 e11 e12 e13 e14 e15 e16 e17 e18 : Option D}
theorem ne_st {S : Store} (x y : Ch) : oNe S (stC x) (stC y) = some (.bl (!decide (x = y))) := by
  have dx : ∀ x : Ch, dataN 6 (stC x) = true := fun x => by have : dataN 4 (stC x) = true := Dat.dat x; exact dat_mono (by decide) this
  rw [oNe_data (dx x) (dx y), EqF.eq]
theorem delG_items {nm : Ch} (hn : (kH t).Nodup) : ((kH t).filter fun c => !decide (c = nm)).map (fun c => D.tup [stC c, h3 (vH t c)]) = (delG nm t.h).map (itG stC h3) := by
  unfold kH at *
  rw [List.filter_map, List.map_map]
  show (t.h.filter fun p => !decide (p.1 = nm)).map _ = (t.h.filter fun p => !decide (p.1 = nm)).map _
  apply List.map_congr_left
  intro p hp
  have hp := (List.mem_filter.mp hp).1
  show D.tup [stC p.1, h3 (vH t p.1)] = D.tup [stC p.1, h3 p.2]
  unfold vH
  rw [getG_nodup hn hp]; rfl
theorem delG_nodup {nm : Ch} (hn : (kH t).Nodup) : ((delG nm t.h).map (·.1)).Nodup := List.Pairwise.sublist (List.Sublist.map _ List.filter_sublist) hn
theorem drop_lk {S : Store} {v : Nat} (hv : S[v]? = some (.dct (t.h.map KH))) (hn : (kH t).Nodup) (hl : t.h.length ≤ 1000) {nm : Ch} {e : Env} (h8 : e[8]? = some (some (.obj v))) (h10 : e[10]? = some (some (stC nm))) (he : 16 < e.length) : eLk (pV 8) (eLC [16] (iSeq (eV 8)) (gN 16) (tB (eOp oNe (eV 16) (eV 10))) (eTup (aCons (eV 16) (aCons (eOp oIx (eV 8) (eV 16)) (aNil))))) e S = .ok (Lo (itG stC h3) (delG nm t.h)) S := by
  refine eLk_pure (r := v) (by simp [pV, h8]) hv ?_
  have la : (S.set v (.lck (.dct (t.h.map KH))))[v]? = some (.lck (.dct (t.h.map KH))) := set_at (by rw [hv]; rfl)
  have sq := seqIt_G (df := stC) (f := h3) la
  have va := vdctL la
  change seqIt (.obj v) _ = .ok ((kH t).map stC, none) _ at sq
  have c1 : lcL (gN 16) (tB (eOp oNe (eV 16) (eV 10))) (eTup (aCons (eV 16) (aCons (eOp oIx (eV 8) (eV 16)) (aNil)))) (e.set 16 none) ((kH t).map stC) (S.set v (.lck (.dct (t.h.map KH)))) [] = .ok ([] ++ ((kH t).filter fun c => !decide (c = nm)).map fun c => D.tup [stC c, h3 (vH t c)]) (S.set v (.lck (.dct (t.h.map KH)))) :=
    lc_of stC (fun c => !decide (c = nm)) (fun c => D.tup [stC c, h3 (vH t c)]) fun c hc => ⟨_, rfl, by simp [he, h10, ne_st], fun _ => by
      have ix := ix_G (f := h3) va c
      rw [getH hc] at ix
      simp [he, h8, ix]⟩
  rw [List.nil_append, delG_items hn] at c1
  have l1 : ¬ 100000 < ((kH t).map stC).length := by unfold kH; rw [List.length_map, List.length_map]; omega
  generalize S.set v (.lck (.dct (t.h.map KH))) = S1 at *
  generalize (kH t).map stC = ks at *
  generalize delG nm t.h = R0 at c1 ⊢
  simp [-seqIt_obj, h8, sq, l1, c1]
theorem take_br {nm : Ch} (g : Good r a b w v n t S) (hn : n ≤ 20) : okW (Done c0 r a b w n) ((sSeq (sPar 14 15 (aCons (eIf (tB (eOp oNotInS (eV 10) (eV 6))) (eC (.str [110, 111, 32, 115, 117, 99, 104])) (eC (.str [100, 101, 101, 100]))) (aCons (eTold subX toldX (eMeth 0 m_Table_take (eV 2) (aCons (eV 10) (aNil)))) (aNil)))) (
  sIf (tB (eOp oInS (eV 10) (eV 8))) (b_law_p4) (sNil))) (ev c0 r w v t e3 e4 e5 e9 (some (stC nm)) e11 e12 e13 e14 e15 e16 e17 e18) S) := by
  have hl : t.h.length ≤ 1000 := by have := g.hl; omega
  have tk := take_ok g.at_ (n := nm)
  have i0 := g.at_.ins
  have nw : oNotInS S (stC nm) (.obj w) = some (.bl (!decide (nm ∈ kL t))) := notin_G (vdct g.hw) nm
  have inh : oInS S (stC nm) (.obj v) = some (.bl (decide (nm ∈ kH t))) := in_G (vdct g.hv) nm
  by_cases c1 : nm ∈ kL t
  · rw [if_pos c1] at tk
    by_cases c2 : nm ∈ kH t
    · rw [if_pos c2] at tk
      have rb := g.at_.rb
      have ra := g.at_.ra
      have vr : v ≠ r := fun e => by have h := g.hv; rw [e, g.at_.ob] at h; simp [obT] at h
      have wr : w ≠ r := fun e => by have h := g.hw; rw [e, g.at_.ob] at h; simp [obT] at h
      have o1 := ne1_ins g.dice g.at_.ob
      have o2 := ne1_dct g.dice g.at_.hb
      have hv1 : ((S.set b (.dct ((delG nm t.h).map KH))).set r (obT a b (t.p + (vH t nm).2.2)))[v]? = some (.dct (t.h.map KH)) := by
        rw [set_ne vr.symm, set_ne g.vb.symm]; exact g.hv
      have ra1 : ((S.set b (.dct ((delG nm t.h).map KH))).set r (obT a b (t.p + (vH t nm).2.2)))[r]? = some (obT a b (t.p + (vH t nm).2.2)) := set_at (by rw [set_ne rb.symm, g.at_.ob]; rfl)
      have aa1 : ((S.set b (.dct ((delG nm t.h).map KH))).set r (obT a b (t.p + (vH t nm).2.2)))[a]? = some (.dct (t.l.map KW)) := by rw [set_ne ra, set_ne g.at_.ab.symm]; exact g.at_.ha
      have ab1 : ((S.set b (.dct ((delG nm t.h).map KH))).set r (obT a b (t.p + (vH t nm).2.2)))[b]? = some (.dct ((delG nm t.h).map KH)) := by rw [set_ne rb, set_at (by rw [g.at_.hb]; rfl)]
      have aw1 : ((S.set b (.dct ((delG nm t.h).map KH))).set r (obT a b (t.p + (vH t nm).2.2)))[w]? = some (.dct (t.l.map KW)) := by rw [set_ne wr.symm, set_ne g.bw]; exact g.hw
      have ad1 : Dice ((S.set b (.dct ((delG nm t.h).map KH))).set r (obT a b (t.p + (vH t nm).2.2))) := by
        obtain ⟨x, y, z, h⟩ := g.dice
        exact ⟨x, y, z, by rw [set_ne o1, set_ne o2]; exact h⟩
      generalize (S.set b (.dct ((delG nm t.h).map KH))).set r (obT a b (t.p + (vH t nm).2.2)) = S1 at *
      have lv := lt_at hv1
      have lr := lt_at ra1
      have la := lt_at aa1
      have lb := lt_at ab1
      have lw := lt_at aw1
      have inh1 : oInS S1 (stC nm) (.obj v) = some (.bl (decide (nm ∈ kH t))) := in_G (vdct hv1) nm
      have ixv := ix_G (df := stC) (f := h3) (vdct hv1) nm
      rw [getH c2] at ixv
      have ixv' : oIx S1 (.obj v) (stC nm) = some (h3 (vH t nm)) := ixv
      have h0 : ∀ S : Store, oIx S (h3 (vH t nm)) (.int 0) = some (tx (vH t nm).1) := fun _ => rfl
      have h2 : ∀ S : Store, oIx S (h3 (vH t nm)) (.int 2) = some (.int (vH t nm).2.2) := fun _ => rfl
      have lk := drop_lk (t := t) hv1 g.hn hl (nm := nm) (e := [c0, some (.obj 1), some (.obj r), e3, e4, e5, some (.obj w), some (.int (t.p + (vH t nm).2.2)), some (.obj v), e9, some (stC nm), e11, e12, e13, some (tx (vH t nm).1), some (tx (vH t nm).1), e16, e17, e18]) rfl rfl (by simp)
      have np : nDictP S1 [Lo (itG stC h3) (delG nm t.h)] = some (.dct ((delG nm t.h).map KH)) := nDictP_G (f := h3) rfl (delG_nodup g.hn)
      refine okW_mk (S := S1 ++ [.dct ((delG nm t.h).map KH)]) (a := .nx (ev c0 r w S1.length { t with p := t.p + (vH t nm).2.2, h := delG nm t.h } e3 e4 e5 e9 (some (stC nm)) e11 e12 e13 (some (tx (vH t nm).1)) (some (tx (vH t nm).1)) e16 e17 e18)) ?_ ⟨S1.length, { t with p := t.p + (vH t nm).2.2, h := delG nm t.h }, _, _, _, _, _, _, _, _, _, _, _, _, rfl, tx_dat _, ?_⟩
      · generalize Lo (itG stC h3) (delG nm t.h) = LL at lk np
        simp [-Option.getD_map, ev, nw, c1, i0, tk, inh1, c2, b_law_p4, ixv', h0, h2, lk, np]
      · refine { at_ := ⟨?_, ?_, ?_, g.at_.ab⟩, hw := ?_, hv := ap_new, dice := (Dc.app ad1).dice, vw := by omega, va := by omega, vb := by omega, bw := g.bw, l1 := g.l1, l3 := g.l3, hk := g.hk, vs := g.vs, hn := delG_nodup g.hn, sub := ?_, hl := ?_ }
        · rw [ap_old (by rw [ra1]; rfl)]; exact ra1
        · rw [ap_old (by rw [aa1]; rfl)]; exact aa1
        · rw [ap_old (by rw [ab1]; rfl)]; exact ab1
        · rw [ap_old (by rw [aw1]; rfl)]; exact aw1
        · intro x hx
          obtain ⟨p, hp, e⟩ := List.mem_map.mp (show x ∈ (delG nm t.h).map (·.1) from hx)
          have hp := (List.mem_filter.mp hp).1
          exact g.sub x (e ▸ List.mem_map_of_mem hp)
        · have h1 := delG_len (l := t.h) nm
          have := g.hl
          show (delG nm t.h).length ≤ n + 1
          omega
    · rw [if_neg c2] at tk
      refine okW_mk (S := S) (a := .nx (ev c0 r w v t e3 e4 e5 e9 (some (stC nm)) e11 e12 e13 (some (.str [100, 101, 101, 100])) (some (.str [100, 101, 101, 100])) e16 e17 e18)) ?_ ⟨v, t, _, _, _, _, _, _, _, _, _, _, _, _, rfl, rfl, g.up⟩
      simp [ev, nw, c1, i0, tk, subX, toldX, inh, c2]
  · rw [if_neg c1] at tk
    have c2 : nm ∉ kH t := fun z => c1 (g.sub nm z)
    refine okW_mk (S := S) (a := .nx (ev c0 r w v t e3 e4 e5 e9 (some (stC nm)) e11 e12 e13 (some (.str [110, 111, 32, 115, 117, 99, 104])) (some (.str [110, 111, 32, 115, 117, 99, 104])) e16 e17 e18)) ?_ ⟨v, t, _, _, _, _, _, _, _, _, _, _, _, _, rfl, rfl, g.up⟩
    simp [ev, nw, c1, i0, tk, subX, toldX, inh, c2]
theorem C_ok (g : Good r a b w v n t S) (hn : n ≤ 20) {d : D} (hd : dataN 6 d = true) : sIf (tOr (tB (eOp oNe (eV 15) (eV 14))) (tB (eOp oNe (eMeth 0 m_Table_shown (eV 2) (aNil)) (eTup (aCons (eCB bTuple (aCons (eItSort (eV 8)) (aNil))) (aCons (eV 7) (aNil))))))) (sRet (eC (.bl false))) (sNil) (ev c0 r w v t e3 e4 e5 e9 e10 e11 e12 e13 (some d) (some d) e16 e17 e18) S = .ok (.nx (ev c0 r w v t e3 e4 e5 e9 e10 e11 e12 e13 (some d) (some d) e16 e17 e18)) S := by
  have hl : t.h.length ≤ 1000 := by have := g.hl; omega
  have sh := shown_ok g.at_ hl
  have ns := fun S : Store => ne_same (S := S) hd
  have ns2 := fun S : Store => ne_same (S := S) (sh_dat t)
  have it := its_ok g.hv hl (m := eV 8) (e := ev c0 r w v t e3 e4 e5 e9 e10 e11 e12 e13 (some d) (some d) e16 e17 e18) rfl
  have bt : ∀ xs : List D, bTuple S [.lst xs] = some (.tup xs) := fun xs => rfl
  unfold shD at sh ns2
  generalize sortB (leR false) (t.h.map (itG stC h3)) = RR at *
  simp only [ev] at it
  simp [-ev_eItSort, ev, ns, g.at_.ins, sh, it, bt, ns2]
/-! a step's rolls -/
def cn (x : Int) : Ch := if x = 0 then 112 else if x = 1 then 113 else if x = 2 then 114 else 115
def cd4 (x : Int) : List Ch := if x = 0 then [97] else if x = 1 then [98] else if x = 2 then [99] else []
theorem cn_at {S : Store} {x : Int} (h0 : 0 ≤ x) (h1 : x < 4) : oIx S (.str [112, 113, 114, 115]) (.int x) = some (stC (cn x)) := by
  have : x = 0 ∨ x = 1 ∨ x = 2 ∨ x = 3 := by omega
  rcases this with rfl | rfl | rfl | rfl <;> rfl
theorem cn3_at {S : Store} {x : Int} (h0 : 0 ≤ x) (h1 : x < 3) : oIx S (.str [112, 113, 114]) (.int x) = some (stC (cn x)) := by
  have : x = 0 ∨ x = 1 ∨ x = 2 := by omega
  rcases this with rfl | rfl | rfl <;> rfl
theorem cd_at {S : Store} {x : Int} (h0 : 0 ≤ x) (h1 : x < 4) : oIx S (.lst [.str [97], .str [98], .str [99], .str []]) (.int x) = some (tx (cd4 x)) := by
  have : x = 0 ∨ x = 1 ∨ x = 2 ∨ x = 3 := by omega
  rcases this with rfl | rfl | rfl | rfl <;> rfl
theorem div3 {S : Store} (x : Int) : oDiv S (.int x) (.int 3) = some (.int (x / 3)) := div_int (by decide) (by decide)
theorem A_ok {e : Env} (h0 : Dice S) (h1 : e[1]? = some (some (.obj 1))) : okW (fun fl S' => ∃ e', fl = .nx e' ∧ ∃ (x : Int) (nm : Ch) (cd : List Ch) (th : Int), 0 ≤ th ∧ th < 10 ∧ e' = ((((e.set 9 (some (.int x))).set 10 (some (stC nm))).set 11 (some (tx cd))).set 4 (some (.int th))) ∧ Dc S S') (b_law_p2 e S) := by
  simp [b_law_p2, h1, roll_eq]
  refine roll_wpD h0 (by decide) (by decide) fun x S1 _ _ d1 => ?_
  simp [h1]
  refine roll_wpD d1.dice (by decide) (by decide) fun k S2 k0 k1 d2 => ?_
  simp [h1, cn_at k0 k1]
  refine roll_wpD d2.dice (by decide) (by decide) fun c S3 q0 q1 d3 => ?_
  have cc : ∀ S : Store, oIx S (.lst [.str [97], .str [98], .str [99], .str []]) (.int (min 3 (c / 3))) = some (tx (cd4 (min 3 (c / 3)))) := fun S => cd_at (by omega) (by omega)
  simp [h1, div3, cc]
  refine roll_wpD d3.dice (by decide) (by decide) fun th S4 t0 t1 d4 => ?_
  simp
  exact ⟨x, cn k, cd4 (min 3 (c / 3)), th, t0, t1, rfl, ((d1.trans d2).trans d3).trans d4⟩
def Mid (c0 : Option D) (r a b w n : Nat) (e : Env) (S : Store) : Prop := ∃ (v : Nat) (t : Tb) (e3 e4 e5 e9 e10 e11 e12 e13 e14 e15 e16 e17 e18 : Option D), e = ev c0 r w v t e3 e4 e5 e9 e10 e11 e12 e13 e14 e15 e16 e17 e18 ∧ Good r a b w v n t S
theorem step_ok (hn : n ≤ 11) {e : Env} (h : Mid c0 r a b w n e S) : okW (fun fl S' => ∃ e', fl = .nx e' ∧ Mid c0 r a b w (n + 1) e' S') (b_law_l2 e S) := by
  obtain ⟨v, t, e3, e4, e5, e9, e10, e11, e12, e13, e14, e15, e16, e17, e18, rfl, g⟩ := h
  refine okW_seq _ (A_ok g.dice rfl) ?_
  rintro e' S' ⟨x, nm, cd, th, t0, t1, rfl, dc⟩
  have g' := g.roll dc
  have he : ((((ev c0 r w v t e3 e4 e5 e9 e10 e11 e12 e13 e14 e15 e16 e17 e18).set 9 (some (.int x))).set 10 (some (stC nm))).set 11 (some (tx cd))).set 4 (some (.int th)) = ev c0 r w v t e3 (some (.int th)) e5 (some (.int x)) (some (stC nm)) (some (tx cd)) e12 e13 e14 e15 e16 e17 e18 := rfl
  rw [he]
  have hD : okW (Done c0 r a b w n) (b_law_p5 (ev c0 r w v t e3 (some (.int th)) e5 (some (.int x)) (some (stC nm)) (some (tx cd)) e12 e13 e14 e15 e16 e17 e18) S') := by
    have h1 := p3_ok (c0 := c0) (e3 := e3) (e5 := e5) (e9 := some (.int x)) (nm := nm) (cd := cd) (th := th) (e12 := e12) (e13 := e13) (e14 := e14) (e15 := e15) (e16 := e16) (e17 := e17) (e18 := e18) g' (by omega) t0 t1
    have h2 := take_br (c0 := c0) (e3 := e3) (e4 := some (.int th)) (e5 := e5) (e9 := some (.int x)) (nm := nm) (e11 := some (tx cd)) (e12 := e12) (e13 := e13) (e14 := e14) (e15 := e15) (e16 := e16) (e17 := e17) (e18 := e18) g' (by omega)
    generalize hE : ev c0 r w v t e3 (some (.int th)) e5 (some (.int x)) (some (stC nm)) (some (tx cd)) e12 e13 e14 e15 e16 e17 e18 = E at *
    have hb : E[9]? = some (some (.int x)) := by rw [← hE]; rfl
    have c1 : tB (eOp oLt (eV 9) (eC (.int 3))) E S' = .ok (decide (x < 3)) S' := by simp [hb]
    unfold b_law_p5
    simp only [ev_sIf, c1, ev_bindok]
    by_cases d1 : x < 3
    · rw [decide_eq_true d1, if_pos rfl]; exact h1
    · rw [decide_eq_false d1, if_neg (by decide)]; exact h2
  refine okW_seq (fun e S => ∃ (v : Nat) (t : Tb) (d : D) (e3 e4 e5 e9 e10 e11 e12 e13 e16 e17 e18 : Option D), e = (ev c0 r w v t e3 e4 e5 e9 e10 e11 e12 e13 (some d) (some d) e16 e17 e18) ∧ dataN 6 d = true ∧ Good r a b w v (n + 1) t S) (okW_mono hD ?_) ?_
  · rintro fl S2 ⟨v, t, d, e3, e4, e5, e9, e10, e11, e12, e13, e16, e17, e18, rfl, hd, g⟩
    exact ⟨_, rfl, v, t, d, e3, e4, e5, e9, e10, e11, e12, e13, e16, e17, e18, rfl, hd, g⟩
  · rintro e S2 ⟨v, t, d, e3, e4, e5, e9, e10, e11, e12, e13, e16, e17, e18, rfl, hd, g⟩
    exact okW_mk (C_ok g (by omega) hd) ⟨_, rfl, v, t, _, _, _, _, _, _, _, _, _, _, _, _, _, rfl, g⟩
theorem loop_ok {e : Env} (h : Mid c0 r a b w 0 e S) : okW (fun fl S' => ∃ e', fl = .nx e' ∧ ∃ n, n ≤ 11 ∧ Mid c0 r a b w n e' S') (sFor (iRange1 (aCons (eCall m_law_roll (aCons (eV 1) (aCons (eC (.int 11)) (aNil)))) (aNil))) (gN 3) b_law_l2 e S) := by
  obtain ⟨v, t, e3, e4, e5, e9, e10, e11, e12, e13, e14, e15, e16, e17, e18, rfl, g⟩ := h
  simp [ev, roll_eq]
  refine roll_wpD g.dice (by decide) (by decide) fun x S' v0 v1 dc => ?_
  have b1 : -1000000 ≤ x ∧ x ≤ 1000000 := by omega
  simp [b1]
  refine forL_wp (fun j e S => Mid c0 r a b w j e S) none (rangeL 0 x.toNat) 0 _ _ ⟨v, t, _, _, _, _, _, _, _, _, _, _, _, _, _, rfl, g.roll dc⟩ ?_ ?_
  · intro x hx j e S _ hj h
    obtain ⟨v, t, e3, e4, e5, e9, e10, e11, e12, e13, e14, e15, e16, e17, e18, rfl, g⟩ := h
    rw [rangeL_lenP] at hj
    have s1 : gN 3 x (ev c0 r w v t e3 e4 e5 e9 e10 e11 e12 e13 e14 e15 e16 e17 e18) S = .ok (ev c0 r w v t (some x) e4 e5 e9 e10 e11 e12 e13 e14 e15 e16 e17 e18) S := rfl
    rw [s1]
    refine okW_mono (step_ok (n := j) (by omega) ⟨v, t, _, _, _, _, _, _, _, _, _, _, _, _, _, rfl, g⟩) ?_
    rintro fl S' ⟨e', rfl, h⟩
    exact h
  · intro e' S' h
    exact ⟨_, rfl, _, by rw [rangeL_lenP]; omega, h⟩
end Sm.K21
end

section
set_option linter.all false
set_option autoImplicit false
set_option maxRecDepth 100000
set_option maxHeartbeats 4000000
namespace Sm.K21
open Sm
variable {S S' : Store} {r a b w v n : Nat} {t t' : Tb} {c0 e3 e4 e5 e9 e10 e11 e12 e13 e14 e15 e16 e17 e18 : Option D}
instance {t : Tb} {th : Int} : Dat (kB t th) := ⟨fun x => by simp [kB, dataN, stC, x.isLt]⟩
theorem bare_law (g : Good r a b w v n t S) : sIf (tB (eOp oNe (eCB bList (aCons (eMeth 0 m_Table_bare (eV 2) (aNil)) (aNil))) (eLC [16] (iSeq (eCB bSorted (aCons (eV 6) (aNil)))) (gN 16) (tB (eOp oNotInS (eV 16) (eV 8))) (eV 16)))) (sRet (eC (.bl false))) (sNil) (ev c0 r w v t e3 e4 e5 e9 e10 e11 e12 e13 e14 e15 e16 e17 e18) S = .ok (.nx (ev c0 r w v t e3 e4 e5 e9 e10 e11 e12 e13 e14 e15 e16 e17 e18)) S := by
  have l3 := g.l3
  have ba := bare_ok g.at_ (by omega)
  have so := sortedK (vdct g.hw) g.l1 g.l3 g.hk
  change _ = some (Lo stC (kL t)) at so
  have kl : (kL t).length = t.l.length := List.length_map ..
  have l1 : ¬ 100000 < (kL t).length := by omega
  have c1 : ∀ e : Env, 16 < e.length → e[8]? = some (some (.obj v)) → lcL (gN 16) (tB (eOp oNotInS (eV 16) (eV 8))) (eV 16) e ((kL t).map stC) S [] = .ok ((bareL t).map stC) S := fun e he h8 => by
    rw [lc_of stC (fun n => !decide (n ∈ kH t)) stC fun n _ => ⟨_, rfl, by
      have ni : oNotInS S (stC n) (.obj v) = some (.bl (!decide (n ∈ kH t))) := notin_G (vdct g.hv) n
      simp [he, h8, ni], fun _ => by simp [he]⟩]
    rfl
  have ns := fun S : Store => ne_Lo (S := S) (f := stC) (bareL t) (bareL t)
  have ns2 : ∀ S : Store, oNe S (Lo stC (bareL t)) (Lo stC (bareL t)) = some (.bl false) := fun S => by rw [ns]; simp
  generalize bareL t = R0 at *
  generalize kL t = ks at *
  simp [ev, g.at_.ins, ba, so, l1, c1]
theorem good_law (g : Good r a b w v n t S) {th : Int} (t0 : 1 ≤ th) (t1 : th < 10) : b_law_p6 (ev c0 r w v t e3 (some (.int th)) e5 e9 e10 e11 e12 e13 e14 e15 e16 e17 e18) S = .ok (.nx (ev c0 r w v t e3 (some (.int th)) (some (Lo (kB t th) (ordB t th))) e9 e10 e11 e12 e13 e14 e15 e16 e17 e18)) S := by
  have l3 := g.l3
  have kl : (kL t).length = t.l.length := List.length_map ..
  have gl : (goodL t th).length ≤ (kL t).length := List.length_filter_le _ _
  have lk : eLk (pV 6) (eLC [16] (iSeq (eV 6)) (gN 16) (tAnd (tB (eOp oNotInS (eV 16) (eV 8))) (tB (eOp oGe (eOp oIx (eV 6) (eV 16)) (eV 4)))) (eTup (aCons (eCB bLen (aCons (eLRng3 (aCons (eV 4) (aCons (eOp oIx (eV 6) (eV 16)) (aCons (eC (.int 2)) (aNil))))) (aNil))) (aCons (eV 16) (aNil))))) (ev c0 r w v t e3 (some (.int th)) e5 e9 e10 e11 e12 e13 e14 e15 e16 e17 e18) S = .ok (Lo (kB t th) (goodL t th)) S := by
    refine eLk_pure (r := w) rfl g.hw ?_
    have la : (S.set w (.lck (.dct (t.l.map KW))))[w]? = some (.lck (.dct (t.l.map KW))) := set_at (by rw [g.hw]; rfl)
    have hv1 : (S.set w (.lck (.dct (t.l.map KW))))[v]? = some (.dct (t.h.map KH)) := by rw [set_ne g.vw.symm]; exact g.hv
    have sq := seqIt_G (df := stC) (f := D.int) la
    have va := vdctL la
    change seqIt (.obj w) _ = .ok ((kL t).map stC, none) _ at sq
    generalize S.set w (.lck (.dct (t.l.map KW))) = S1 at *
    have c1 : ∀ e : Env, 16 < e.length → e[8]? = some (some (.obj v)) → e[6]? = some (some (.obj w)) → e[4]? = some (some (.int th)) → lcL (gN 16) (tAnd (tB (eOp oNotInS (eV 16) (eV 8))) (tB (eOp oGe (eOp oIx (eV 6) (eV 16)) (eV 4)))) (eTup (aCons (eCB bLen (aCons (eLRng3 (aCons (eV 4) (aCons (eOp oIx (eV 6) (eV 16)) (aCons (eC (.int 2)) (aNil))))) (aNil))) (aCons (eV 16) (aNil)))) e ((kL t).map stC) S1 [] = .ok ((goodL t th).map (kB t th)) S1 := fun e he h8 h6 h4 => by
      rw [lc_of stC (fun n => !decide (n ∈ kH t) && decide (th ≤ vW t n)) (kB t th) fun n hn => ⟨_, rfl, by
        have ni : oNotInS S1 (stC n) (.obj v) = some (.bl (!decide (n ∈ kH t))) := notin_G (vdct hv1) n
        have iw := ix_G (f := D.int) va n
        rw [getW hn] at iw
        by_cases hm : n ∈ kH t <;> simp [he, h8, h6, h4, ni, hm, iw], fun hp => by
        have iw := ix_G (f := D.int) va n
        rw [getW hn] at iw
        have vb := g.vW_bd n
        have rn := rngP_ints th (vW t n) 2
        rw [if_pos ⟨by omega, by omega, by omega, by omega, by omega, by omega⟩] at rn
        have rl := rangeC_lenP (c := 2) (cntC th (vW t n) 2) th
        have tw : th ≤ vW t n := by simp at hp; exact hp.2
        have cs := cnt_sh tw
        generalize rangeC th 2 (cntC th (vW t n) 2) = RC at rn rl
        generalize cntC th (vW t n) 2 = cc at *
        simp [he, h6, h4, iw, rn, rl, kB, cs]⟩]
      rfl
    have l1 : ¬ 100000 < ((kL t).map stC).length := by rw [List.length_map]; omega
    have cc := c1 ((ev c0 r w v t e3 (some (.int th)) e5 e9 e10 e11 e12 e13 e14 e15 e16 e17 e18).set 16 none) (by simp [ev]) rfl rfl rfl
    generalize (kL t).map stC = ks at *
    generalize goodL t th = G at *
    simp only [ev, List.set_cons_succ, List.set_cons_zero] at cc
    simp [-seqIt_obj, ev, sq, l1, cc]
  have so := (kB_key (t := t) (th := th)).sorted (S := S) (xs := goodL t th) (by omega)
  change _ = some (Lo (kB t th) (ordB t th)) at so
  generalize Lo (kB t th) (goodL t th) = G at *
  generalize Lo (kB t th) (ordB t th) = O at *
  simp only [ev] at lk
  simp [b_law_p6, ev, lk, so]
theorem best_law (g : Good r a b w v n t S) {th : Int} (t0 : 1 ≤ th) : sIf (tB (eOp oNe (eTold subX toldX (eMeth 0 m_Table_best_for (eV 2) (aCons (eV 4) (aNil)))) (eIf (tB (eOp oNe (eV 5) (eLst (aNil)))) (eOp oIx (eOp oIx (eV 5) (eC (.int 0))) (eC (.int 1))) (eC (.str [110, 111, 32, 119, 97, 121]))))) (sRet (eC (.bl false))) (sNil) (ev c0 r w v t e3 (some (.int th)) (some (Lo (kB t th) (ordB t th))) e9 e10 e11 e12 e13 e14 e15 e16 e17 e18) S = .ok (.nx (ev c0 r w v t e3 (some (.int th)) (some (Lo (kB t th) (ordB t th))) e9 e10 e11 e12 e13 e14 e15 e16 e17 e18)) S := by
  have l3 := g.l3
  have be := best_ok g.at_ (by omega) (th := th)
  rw [if_neg (by omega)] at be
  have nss : ∀ S : Store, oNe S (.str [110, 111, 32, 119, 97, 121]) (.str [110, 111, 32, 119, 97, 121]) = some (.bl false) := fun S => rfl
  have ol : (ordB t th).length = (goodL t th).length := srt_len _
  by_cases hg : goodL t th = []
  · rw [if_pos hg] at be
    have o0 : ordB t th = [] := List.eq_nil_of_length_eq_zero (by rw [ol, hg]; rfl)
    have em : oNe S (Lo (kB t th) (ordB t th)) (.lst []) = some (.bl false) := by rw [ne_LoN, o0]; rfl
    generalize Lo (kB t th) (ordB t th) = O at *
    simp [ev, g.at_.ins, be, subX, toldX, em, nss]
  · rw [if_neg hg] at be
    obtain ⟨x, xs, ox⟩ : ∃ x xs, ordB t th = x :: xs := by
      cases h : ordB t th with
      | nil => rw [h] at ol; exact absurd (List.eq_nil_of_length_eq_zero ol.symm) hg
      | cons x xs => exact ⟨x, xs, rfl⟩
    rw [ox] at be ⊢
    have em : oNe S (Lo (kB t th) (x :: xs)) (.lst []) = some (.bl true) := by rw [ne_LoN]; rfl
    have i0 : oIx S (Lo (kB t th) (x :: xs)) (.int 0) = some (kB t th x) := by rw [ix_Lo, atZ_head]; rfl
    have i1 : oIx S (kB t th x) (.int 1) = some (stC x) := rfl
    have be' : m_Table_best_for [.obj r, .int th] S = .ok (stC x) S := be
    have nx : oNe S (stC x) (stC x) = some (.bl false) := by rw [ne_st]; simp
    generalize Lo (kB t th) (x :: xs) = O at *
    simp [ev, g.at_.ins, be', em, i0, i1, nx]
/-! ### the start -/
inductive F2 {α β : Type} (R : α → β → Prop) : List α → List β → Prop
  | nil : F2 R [] []
  | cons {a : α} {b : β} {as : List α} {bs : List β} : R a b → F2 R as bs → F2 R (a :: as) (b :: bs)
theorem lcRel_wp {α : Type} {h : α → D} {R : Int → α → Prop} {slot : Nat} {m : ME} {e : Env} : ∀ (xs : List Int) (acc : List D) (S : Store), Dice S → (∀ x ∈ xs, ∀ S, Dice S → okW (fun y S' => Dc S S' ∧ ∃ a, y = h a ∧ R x a) (m (e.set slot (some (.int x))) S)) → okW (fun ys S' => Dc S S' ∧ ∃ l : List α, ys = acc ++ l.map h ∧ F2 R xs l) (lcL (gN slot) tYes m e (xs.map .int) S acc)
  | [], acc, S, h0, _ => ⟨Dc.refl h0, [], by simp, .nil⟩
  | x :: xs, acc, S, h0, hI => by
    obtain ⟨y, S', h1, h2, a, rfl, h3⟩ := okW_ex (hI x List.mem_cons_self S h0)
    have ih := lcRel_wp (h := h) (R := R) (slot := slot) (m := m) (e := e) xs (acc ++ [h a]) S' h2.dice fun z hz => hI z (List.mem_cons_of_mem _ hz)
    show okW _ (match m (e.set slot (some (.int x))) S with | .ok y S2 => lcL (gN slot) tYes m e (xs.map .int) S2 (acc ++ [y]) | _ => .bad)
    rw [h1]
    exact okW_mono ih fun ys S2 ⟨h4, l, h5, h6⟩ => ⟨h2.trans h4, a :: l, by rw [h5]; simp, .cons h3 h6⟩
theorem F2_map {xs : List Int} {l : List (Ch × Int)} (h : F2 (fun x (a : Ch × Int) => a.1 = cn x ∧ 1 ≤ a.2 ∧ a.2 ≤ 9) xs l) : l.map (·.1) = xs.map cn ∧ ∀ p ∈ l, 1 ≤ p.2 ∧ p.2 ≤ 9 := by
  induction h with
  | nil => exact ⟨rfl, fun p h => nomatch h⟩
  | cons h1 _ ih =>
    refine ⟨by rw [List.map_cons, List.map_cons, ih.1, h1.1], fun p hp => ?_⟩
    rcases List.mem_cons.mp hp with q | q
    · rw [q]; exact h1.2
    · exact ih.2 p q
theorem holds_ok (h : Dice S) {e : Env} (he : e.length = 19) (h1 : e[1]? = some (some (.obj 1))) : okW (fun fl S' => ∃ e', fl = .nx e' ∧ Dc S S' ∧ ∃ (l : List (Ch × Int)) (w v : Nat) (p : Int), S'[w]? = some (.dct (l.map KW)) ∧ S'[v]? = some (.dct []) ∧ v ≠ w ∧ S.length ≤ w ∧ S.length ≤ v ∧ 0 ≤ p ∧ 1 ≤ l.length ∧ l.length ≤ 3 ∧ l.map (·.1) = pqr.take l.length ∧ (∀ x ∈ l, 1 ≤ x.2 ∧ x.2 ≤ 9) ∧ e' = ((e.set 6 (some (.obj w))).set 7 (some (.int p))).set 8 (some (.obj v))) (b_law_p1 e S) := by
  simp [b_law_p1, roll_eq, h1]
  refine roll_wpD h (by decide) (by decide) fun n S1 n0 n1 d1 => ?_
  have b1 : -1000000 ≤ 1 + n ∧ 1 + n ≤ 1000000 := by omega
  have b2 : ¬ 100000 < (1 + n).toNat := by omega
  simp [b1, rangeL_mapP, rangeI_len, b2]
  refine okW_bind (okW_mono (lcRel_wp (h := itG stC D.int) (R := fun x (a : Ch × Int) => a.1 = cn x ∧ 1 ≤ a.2 ∧ a.2 ≤ 9) (rangeI 0 (1 + n).toNat) [] S1 d1.dice fun x hx S h => ?_) ?_)
  · have hx := rangeI_mem hx
    have e3 : ((e.set 17 none).set 17 (some (.int x)))[17]? = some (some (.int x)) := List.getElem?_set_self (by simp; omega)
    have e0 : ((e.set 17 none).set 17 (some (.int x)))[1]? = some (some (.obj 1)) := by rw [List.getElem?_set_ne (by decide), List.getElem?_set_ne (by decide)]; exact h1
    have ca := fun S : Store => cn3_at (S := S) hx.1 (by omega)
    simp only [ev_eTup, ev_aCons, ev_Op, ev_C, ev_bindok, ev_V, e3, ca, ev_ofO, ev_eCall, e0, ev_aNil, ev_assoc]
    refine roll_wpD h (by decide) (by decide) fun v S' v0 v1 dc => ?_
    simp
    exact ⟨dc, cn x, 1 + v, rfl, rfl, by omega, by omega⟩
  · rintro ys S2 ⟨d2, l, rfl, hl⟩
    obtain ⟨hm, hv⟩ := F2_map hl
    have hlen : l.length = (1 + n).toNat := by
      have := congrArg List.length hm
      rw [List.length_map, List.length_map, rangeI_len] at this
      exact this
    have hk : l.map (·.1) = pqr.take l.length := by
      rw [hm, hlen]
      rcases three (n := (1 + n).toNat) (by omega) (by omega) with q | q | q <;> rw [q] <;> rfl
    have nd : (l.map (·.1)).Nodup := by rw [hk]; exact pqr_nodup
    have np : nDictP S2 [Lo (itG stC D.int) l] = some (.dct (l.map KW)) := nDictP_G (f := D.int) rfl nd
    simp [np]
    have d3 := Dc.app (l := [Ob.dct (l.map KW)]) d2.dice
    simp [h1]
    refine roll_wpD d3.dice (by decide) (by decide) fun p S3 p0 p1 d4 => ?_
    simp
    have l2 : S2.length ≠ 1 := by
      obtain ⟨x, y, z, h⟩ := d2.dice
      have := lt_at h
      omega
    have dd := ((d1.trans d2).trans d3).trans d4
    have d5 := Dc.app (l := [Ob.dct []]) d4.dice
    have hw : S3[S2.length]? = some (.dct (l.map KW)) := d4.at_ (by simp) l2
    have lw := lt_at hw
    have dl := (d1.trans d2).len
    refine ⟨dd.trans d5, l, S2.length, ?_, S3.length, ?_, ?_, dl, dd.len, p, p0, by omega, by omega, hk, fun x y h => hv (x, y) h, rfl⟩
    all_goals first | omega | (rw [ap_old (by rw [hw]; rfl)]; exact hw) | simp
theorem start_ok (h : Dice S) (hs : 2 ≤ S.length) : okW (fun fl S' => ∃ e', fl = .nx e' ∧ ∃ r a b w, Mid (some (.obj 0)) r a b w 0 e' S') (sSeq b_law_p1 (sSet 2 (eMake 0 m_Table_init (aCons (eV 6) (aCons (eV 7) (aNil))))) [some (.obj 0), some (.obj 1), none, none, none, none, none, none, none, none, none, none, none, none, none, none, none, none, none] S) := by
  refine okW_seq _ (holds_ok h rfl rfl) ?_
  rintro _ S1 ⟨d1, l, w, v, p, hw, hv, vw, w0, v0, p0, l1, l3, hk, vs, rfl⟩
  have hr : (S1 ++ [Ob.ins 0 []])[S1.length]? = some (.ins 0 []) := ap_new
  have hw1 : (S1 ++ [Ob.ins 0 []])[w]? = some (.dct (l.map KW)) := by rw [ap_old (by rw [hw]; rfl)]; exact hw
  have ini := init_ok hr hw1 l1 l3 hk (fun x hx => (vs x hx).1) p0
  have sl : (S1 ++ [Ob.ins 0 []]).length = S1.length + 1 := by simp
  rw [sl] at ini
  have se : (S1 ++ [Ob.ins 0 []]).set S1.length (obT (S1.length + 1) (S1.length + 1 + 1) p) = S1 ++ [obT (S1.length + 1) (S1.length + 1 + 1) p] := by simp
  rw [se] at ini
  have lw := lt_at hw
  have lv := lt_at hv
  have ld := d1.len
  refine okW_mk (S := S1 ++ [obT (S1.length + 1) (S1.length + 1 + 1) p] ++ [.dct (l.map KW), .dct []]) (a := .nx (ev (some (.obj 0)) S1.length w v { l := l, p := p, h := [] } none none none none none none none none none none none none none)) ?_ ⟨_, rfl, S1.length, S1.length + 1, S1.length + 1 + 1, w, v, { l := l, p := p, h := [] }, _, _, _, _, _, _, _, _, _, _, _, _, _, rfl, ?_⟩
  · generalize S1 ++ [obT (S1.length + 1) (S1.length + 1 + 1) p] ++ [Ob.dct (l.map KW), Ob.dct []] = S9 at *
    simp [ini, ev]
  · have q : ∀ i : Nat, i < S1.length → (S1 ++ [obT (S1.length + 1) (S1.length + 1 + 1) p] ++ [Ob.dct (l.map KW), Ob.dct []])[i]? = S1[i]? := fun i hi => by
      rw [List.append_assoc, List.getElem?_append_left hi]
    refine { at_ := ⟨?_, ?_, ?_, by omega⟩, hw := ?_, hv := ?_, dice := ?_, vw := vw, va := by omega, vb := by omega, bw := by omega, l1 := l1, l3 := l3, hk := hk, vs := vs, hn := List.Pairwise.nil, sub := fun x hx => (nomatch hx), hl := Nat.zero_le _ }
    · simp
    · simp
    · rw [List.getElem?_append_right (by simp)]
      simp
    · rw [q w lw]; exact hw
    · rw [q v lv]; exact hv
    · obtain ⟨x, y, z, h⟩ := d1.dice
      exact ⟨x, y, z, by rw [q 1 (lt_at h)]; exact h⟩
end Sm.K21
end

section
set_option linter.all false
set_option autoImplicit false
set_option maxRecDepth 100000
set_option maxHeartbeats 4000000
namespace Sm.K21
open Sm
theorem okW_eq {Q : Fl → Store → Prop} {a b : MS} {e : Env} {S : Store} (h : okW (fun fl S' => fl = .nx e ∧ Dc S S') (a e S)) (k : ∀ S', Dc S S' → okW Q (b e S')) : okW Q (sSeq a b e S) :=
  okW_seq (fun e' S' => e' = e ∧ Dc S S') (okW_mono h fun fl S' ⟨h1, h2⟩ => ⟨e, h1, rfl, h2⟩) fun e' S' ⟨h1, h2⟩ => by subst h1; exact k S' h2
theorem nestr (S : Store) (x : Tx) (h : dataN 6 (.str x) = true) : oNe S (.str x) (.str x) = some (.bl false) := ne_same h
section
variable {S : Store} {e : Env}
theorem s1_ok (h : Dice S) (h0 : e[0]? = some (some (.obj 1))) : okW (fun fl S' => ∃ e', fl = .nx e' ∧ Dc S S' ∧ ∃ (cs ss : List Int) (lt : Int), cs.length < 6 ∧ ss.length < 5 ∧ 0 ≤ lt ∧ e' = ((e.set 2 (some (Lo .int cs))).set 3 (some (Lo .int ss))).set 4 (some (.int lt))) (b_law_rest1_s1 e S) := by
  simp [-ev_eLC, b_law_rest1_s1, roll_eq]
  refine lc_rollsN h h0 (by decide) (by decide) (by decide) (by decide) (by decide) fun cs S1 hl hr d1 => ?_
  simp [-ev_eLC]
  refine lc_rollsN d1.dice h0 (by decide) (by decide) (by decide) (by decide) (by decide) fun ss S2 hl2 hr2 d2 => ?_
  simp [h0]
  refine roll_wpD d2.dice (by decide) (by decide) fun lt S3 t0 t1 d3 => ?_
  simp
  exact ⟨(d1.trans d2).trans d3, cs, by omega, ss, by omega, lt, t0, rfl⟩
theorem s2_ok (h : Dice S) {cs ss : List Int} {lt : Int} (hl : cs.length < 6) (hl2 : ss.length < 5) (h0 : 0 ≤ lt) (e2 : e[2]? = some (some (Lo .int cs))) (e3 : e[3]? = some (some (Lo .int ss))) (e4 : e[4]? = some (some (.int lt))) : okW (fun fl S' => fl = .nx e ∧ Dc S S') (b_law_rest1_s2 e S) := by
  obtain ⟨S1, f1, fr1⟩ := fitted_ok (S := S) (lt := lt) (cs := cs) (ss := ss) h0 (by omega) (by omega)
  obtain ⟨S2, f2, fr2⟩ := most_ok (lt := lt) 20 cs ss S1 (by omega) (by omega) (by omega)
  refine okW_mk (S := S2) (a := .nx e) ?_ ⟨rfl, (fr1.trans fr2).dc h⟩
  generalize most lt cs ss = mm at *
  simp [b_law_rest1_s2, e2, e3, e4, f1, f2]
theorem s3_ok (h : Dice S) (h0 : e[0]? = some (some (.obj 1))) : okW (fun fl S' => ∃ e', fl = .nx e' ∧ Dc S S' ∧ ∃ pl mn : Int, 0 ≤ pl ∧ pl < 9 ∧ 0 ≤ mn ∧ mn < 10 ∧ e' = (e.set 6 (some (.int pl))).set 7 (some (.int mn))) (b_law_rest1_s3 e S) := by
  simp [b_law_rest1_s3, roll_eq, h0]
  refine roll_wpD h (by decide) (by decide) fun v S1 v0 v1 d1 => ?_
  simp [h0]
  refine roll_wpD d1.dice (by decide) (by decide) fun w S2 w0 w1 d2 => ?_
  simp
  exact ⟨d1.trans d2, v, v0, v1, w, w0, w1, rfl⟩
def tdD (pl mn : Int) : D := if pl < mn then .str [110, 111, 32, 114, 111, 111, 109] else Lo .int (ldI pl mn)
theorem s4_ok (h : Dice S) {pl mn : Int} (h0 : 0 ≤ pl) (h1 : 0 ≤ mn) (h2 : mn < 10) (e6 : e[6]? = some (some (.int pl))) (e7 : e[7]? = some (some (.int mn))) : okW (fun fl S' => fl = .nx (e.set 8 (some (tdD pl mn))) ∧ Dc S S') (b_law_rest1_s4 e S) := by
  obtain ⟨S', la, fr⟩ := laid_ok (S := S) h0 h1 (by omega : mn ≤ 100)
  by_cases hq : pl < mn
  · rw [if_pos hq] at la
    refine okW_mk (S := S) (a := .nx (e.set 8 (some (tdD pl mn)))) ?_ ⟨rfl, Dc.refl h⟩
    simp [b_law_rest1_s4, e6, e7, la, subX, toldX, tdD, hq]
  · rw [if_neg hq] at la
    refine okW_mk (S := S') (a := .nx (e.set 8 (some (tdD pl mn)))) ?_ ⟨rfl, fr.dc h⟩
    unfold tdD
    generalize ldI pl mn = R0 at *
    simp [b_law_rest1_s4, e6, e7, la, hq]
theorem eqRoom {pl mn : Int} : oEq S (tdD pl mn) (.str [110, 111, 32, 114, 111, 111, 109]) = some (.bl (decide (pl < mn))) := by
  unfold tdD
  by_cases hq : pl < mn
  · rw [if_pos hq, decide_eq_true hq]; rfl
  · rw [if_neg hq, decide_eq_false hq, oEq_data (d56 (dat_Lo _)) rfl]; rfl
theorem neRoom {pl mn : Int} : oNe S (tdD pl mn) (.str [110, 111, 32, 114, 111, 111, 109]) = some (.bl (!decide (pl < mn))) := by
  unfold tdD
  by_cases hq : pl < mn
  · rw [if_pos hq, decide_eq_true hq]; rfl
  · rw [if_neg hq, decide_eq_false hq, oNe_data (d56 (dat_Lo _)) rfl]; rfl
theorem s5_ok {pl mn : Int} (e6 : e[6]? = some (some (.int pl))) (e7 : e[7]? = some (some (.int mn))) (e8 : e[8]? = some (some (tdD pl mn))) : b_law_rest1_s5 e S = .ok (.nx e) S := by
  have eq := eqRoom (S := S) (pl := pl) (mn := mn)
  have nb := fun b : Bool => ne_same (S := S) (x := .bl b) rfl
  generalize tdD pl mn = T at *
  simp [b_law_rest1_s5, e6, e7, e8, eq, nb]
theorem s6_ok {pl mn : Int} (h0 : 0 ≤ pl) (h1 : pl < 9) (h2 : 0 ≤ mn) (h3 : mn < 10) (he : e.length = 13) (e6 : e[6]? = some (some (.int pl))) (e7 : e[7]? = some (some (.int mn))) (e8 : e[8]? = some (some (tdD pl mn))) : ∃ f9, b_law_rest1_s6 e S = .ok (.nx (e.set 9 f9)) S := by
  have ne := neRoom (S := S) (pl := pl) (mn := mn)
  by_cases hq : pl < mn
  · have keep : e.set 9 (e[9]'(by omega)) = e := by simp
    refine ⟨e[9]'(by omega), ?_⟩
    rw [keep]
    rw [decide_eq_true hq] at ne
    generalize tdD pl mn = T at *
    simp [b_law_rest1_s6, e8, ne]
  · rw [decide_eq_false hq] at ne
    have ck := chk_ok h0 h1 h2 h3 (by omega)
    unfold chkL at ck
    simp only [Bool.and_eq_true, decide_eq_true_eq] at ck
    obtain ⟨⟨⟨k1, k2⟩, k3⟩, k4⟩ := ck
    have e8' : e[8]? = some (some (Lo .int (ldI pl mn))) := by
      rw [e8]; unfold tdD; rw [if_neg hq]
    have td : tdD pl mn = Lo .int (ldI pl mn) := by unfold tdD; rw [if_neg hq]
    rw [td] at ne
    generalize hL : ldI pl mn = L at *
    have ll : L.length ≤ 10 := by omega
    have c1 : ∀ e : Env, 10 < e.length → e[6]? = some (some (.int pl)) → lcL (gN 10) tYes (eCB bMinS (aCons (eV 10) (aCons (eOp oSub (eOp oSub (eV 6) (eC (.int 1))) (eV 10)) (aNil)))) e (L.map .int) S [] = .ok ((L.map fun x => min x (pl - 1 - x)).map .int) S := fun e he h6 => by
      rw [lc_map D.int (fun x => D.int (min x (pl - 1 - x))) fun x _ => ⟨_, rfl, by simp [he, h6]⟩, List.map_map]
      rfl
    have c2 : ∀ e : Env, 10 < e.length → e[8]? = some (some (Lo .int L)) → lcL (gN 10) (tB (eOp oInS (eV 10) (eV 8))) (eV 10) e ((rangeI 0 pl.toNat).map .int) S [] = .ok (((rangeI 0 pl.toNat).filter fun x => decide (x ∈ L)).map .int) S := fun e he h8 => by
      rw [lc_of D.int (fun x => decide (x ∈ L)) D.int fun x _ => ⟨_, rfl, by simp [he, h8], fun _ => by simp [he]⟩]
      rfl
    have c3 : ∀ e : Env, 5 < e.length → lcL (gN 5) tYes (eOp oDiv (eV 5) (eC (.int 2))) e ((rangeI 0 mn.toNat).map .int) S [] = .ok (((rangeI 0 mn.toNat).map fun k => k / 2).map .int) S := fun e he => by
      rw [lc_map D.int (fun k => D.int (k / 2)) fun x _ => ⟨_, rfl, by simp [he, div2]⟩, List.map_map]
      rfl
    have c4 : ∀ e : Env, e.length = 13 → lcL (gT [gN 5, gN 10]) (tAnd (tB (eOp oEq (eOp oMod (eV 5) (eC (.int 2))) (eC (.int 0)))) (tB (eOp oNe (eV 10) (eOp oDiv (eV 5) (eC (.int 2)))))) (eV 10) e ((enumI 0 L).map (zpD .int .int)) S [] = .ok ((((enumI 0 L).filter fun p => decide (p.1 % 2 = 0) && !decide (p.2 = p.1 / 2)).map (fun p => p.2)).map .int) S := fun e he => by
      rw [lc_of (zpD .int .int) (fun p => decide (p.1 % 2 = 0) && !decide (p.2 = p.1 / 2)) (fun p => D.int p.2) fun p _ => ⟨(e.set 5 (some (.int p.1))).set 10 (some (.int p.2)), rfl, by
        have q5 : ((e.set 5 (some (.int p.1))).set 10 (some (.int p.2)))[5]? = some (some (.int p.1)) := by rw [List.getElem?_set_ne (by decide), List.getElem?_set_self (by omega)]
        have q10 : ((e.set 5 (some (.int p.1))).set 10 (some (.int p.2)))[10]? = some (some (.int p.2)) := List.getElem?_set_self (by simp; omega)
        generalize (e.set 5 (some (.int p.1))).set 10 (some (.int p.2)) = E at *
        by_cases h : p.1 % 2 = 0 <;> simp [q5, q10, mod2, div2, h], fun _ => by
        have q10 : ((e.set 5 (some (.int p.1))).set 10 (some (.int p.2)))[10]? = some (some (.int p.2)) := List.getElem?_set_self (by simp; omega)
        simp only [ev_V, q10]⟩, List.map_map]
      rfl
    rw [k4] at c4
    have so := fun S : Store => sorted_Lo (S := S) (xs := L) (by omega)
    rw [k2] at so
    rw [k3] at c1
    have kn : (L.length : Int) = mn := by omega
    refine ⟨some (Lo .int ((rangeI 0 mn.toNat).map fun k => k / 2)), ?_⟩
    have ns : ∀ (S : Store) (xs : List Int), oNe S (Lo .int xs) (Lo .int xs) = some (.bl false) := fun S xs => by rw [ne_Lo]; simp
    have en : ((enumI 0 L).map (zpD D.int D.int)).length = L.length := by rw [List.length_map, enumI_len]
    have l0 : ¬ 100000 < L.length := by omega
    have l1 : ¬ 100000 < (enumI 0 L).length := by rw [enumI_len]; omega
    have b1 : -1000000 ≤ pl ∧ pl ≤ 1000000 := by omega
    have b2 : -1000000 ≤ mn ∧ mn ≤ 1000000 := by omega
    have b3 : ¬ 100000 < pl.toNat := by omega
    have b4 : ¬ 100000 < mn.toNat := by omega
    have a1 : sSet 9 (eLC [10] (iSeq (eV 8)) (gN 10) (tYes) (eCB bMinS (aCons (eV 10) (aCons (eOp oSub (eOp oSub (eV 6) (eC (.int 1))) (eV 10)) (aNil))))) e S = .ok (.nx (e.set 9 (some (Lo .int ((rangeI 0 mn.toNat).map fun k => k / 2))))) S := by
      have cc := c1 (e.set 10 none) (by simp; omega) (by rw [List.getElem?_set_ne (by decide)]; exact e6)
      generalize (rangeI 0 mn.toNat).map (fun k => k / 2) = R1 at *
      simp [e8', l0, cc]
    have f8 : (e.set 9 (some (Lo .int ((rangeI 0 mn.toNat).map fun k => k / 2))))[8]? = some (some (Lo .int L)) := by rw [List.getElem?_set_ne (by decide)]; exact e8'
    have f7 : (e.set 9 (some (Lo .int ((rangeI 0 mn.toNat).map fun k => k / 2))))[7]? = some (some (.int mn)) := by rw [List.getElem?_set_ne (by decide)]; exact e7
    have f6 : (e.set 9 (some (Lo .int ((rangeI 0 mn.toNat).map fun k => k / 2))))[6]? = some (some (.int pl)) := by rw [List.getElem?_set_ne (by decide)]; exact e6
    have f9 : (e.set 9 (some (Lo .int ((rangeI 0 mn.toNat).map fun k => k / 2))))[9]? = some (some (Lo .int ((rangeI 0 mn.toNat).map fun k => k / 2))) := List.getElem?_set_self (by omega)
    have fl : (e.set 9 (some (Lo .int ((rangeI 0 mn.toNat).map fun k => k / 2)))).length = 13 := by simpa using he
    have d2 := c2 ((e.set 9 (some (Lo .int ((rangeI 0 mn.toNat).map fun k => k / 2)))).set 10 none) (by simp; omega) (by rw [List.getElem?_set_ne (by decide)]; exact f8)
    have d3 := c3 ((e.set 9 (some (Lo .int ((rangeI 0 mn.toNat).map fun k => k / 2)))).set 5 none) (by simp; omega)
    have d4 := c4 (((e.set 9 (some (Lo .int ((rangeI 0 mn.toNat).map fun k => k / 2)))).set 10 none).set 5 none) (by simp; omega)
    have t1 : tB (eOp oNe (eV 8) (eC (.str [110, 111, 32, 114, 111, 111, 109]))) e S = .ok true S := by simp [e8', ne]
    unfold b_law_rest1_s6
    rw [ev_sIf, t1]
    show b_law_rest1_p1 e S = _
    unfold b_law_rest1_p1
    rw [seq_nx a1 rfl]
    generalize e.set 9 (some (Lo .int ((rangeI 0 mn.toNat).map fun k => k / 2))) = E at *
    generalize (rangeI 0 mn.toNat).map (fun k => k / 2) = R1 at *
    generalize (rangeI 0 pl.toNat).filter (fun x => decide (x ∈ L)) = R2 at *
    have a2 : sIf (tOr (tB (eOp oNe (eCB bLen (aCons (eV 8) (aNil))) (eV 7))) (tOr (tB (eOp oNe (eCB bSorted (aCons (eV 8) (aNil))) (eLC [10] (iRange1 (aCons (eV 6) (aNil))) (gN 10) (tB (eOp oInS (eV 10) (eV 8))) (eV 10)))) (tB (eOp oNe (eV 9) (eLC [5] (iRange1 (aCons (eV 7) (aNil))) (gN 5) (tYes) (eOp oDiv (eV 5) (eC (.int 2)))))))) (sRet (eC (.bl false))) (sNil) E S = .ok (.nx E) S := by
      simp [f8, f7, f6, f9, kn, so, b1, b2, b3, b4, rangeL_mapP, rangeI_len, d2, d3, ns]
    rw [seq_nx a2 rfl]
    have em : ∀ S : Store, oNe S (Lo .int ([] : List Int)) (.lst []) = some (.bl false) := fun S => by rw [ne_LoN]; rfl
    generalize hN : ([] : List Int) = N0 at d4 em
    simp [f8, enumIt_Lo, l1, d4, em]
theorem s7_ok (h : Dice S) (h0 : e[0]? = some (some (.obj 1))) : okW (fun fl S' => ∃ e', fl = .nx e' ∧ Dc S S' ∧ ∃ a : List Int, a.length < 6 ∧ e' = e.set 11 (some (Lo .int a))) (b_law_rest1_s7 e S) := by
  simp [-ev_eLC, b_law_rest1_s7, roll_eq]
  refine lc_rollsN h h0 (by decide) (by decide) (by decide) (by decide) (by decide) fun a S1 hl hr d1 => ?_
  simp
  exact ⟨d1, a, by omega, rfl⟩
theorem s89_ok {a : List Int} (hl : a.length < 6) (he : e.length = 13) (e11 : e[11]? = some (some (Lo .int a))) {b : MS} {Q : Fl → Store → Prop} (k : okW Q (b (e.set 12 (some (Lo .int (srtI a)))) S)) : okW Q (sSeq b_law_rest1_s8 (sSeq b_law_rest1_s9 b) e S) := by
  have so := fun S : Store => sorted_Lo (S := S) (xs := a) (by omega)
  refine okW_nx (e' := e.set 12 (some (Lo .int (srtI a)))) (S' := S) (by simp [b_law_rest1_s8, e11, so]) ?_
  refine okW_nx (e' := e.set 12 (some (Lo .int (srtI a)))) (S' := S) ?_ k
  have wo := wobbles_ok (S := S) (f := a) (by omega)
  have sl : (srtI a).length = a.length := srt_len _
  have f12 : (e.set 12 (some (Lo .int (srtI a))))[12]? = some (some (Lo .int (srtI a))) := List.getElem?_set_self (by omega)
  have f11 : (e.set 12 (some (Lo .int (srtI a))))[11]? = some (some (Lo .int a)) := by rw [List.getElem?_set_ne (by decide)]; exact e11
  generalize e.set 12 (some (Lo .int (srtI a))) = E at *
  have nss : ∀ S : Store, oNe S (.str [112, 108, 97, 110]) (.str [112, 108, 97, 110]) = some (.bl false) := fun S => rfl
  by_cases hq : 2 < a.length
  · rw [if_pos hq] at wo
    have h2 : (2 : Int) < a.length := by omega
    have r0 : atZ (srtI a) ((a.length : Int) - 1) = some (gI (srtI a) ((a.length : Int) - 1)) := atZ_gI (by omega) (by omega)
    have r2 : atZ (srtI a) ((a.length : Int) - 3) = some (gI (srtI a) ((a.length : Int) - 3)) := atZ_gI (by omega) (by omega)
    unfold wob at wo
    generalize srtI a = R0 at *
    simp [b_law_rest1_s9, f11, f12, wo, sl, h2, r0, r2]
  · rw [if_neg hq] at wo
    have h2 : ¬ (2 : Int) < a.length := by omega
    simp [b_law_rest1_s9, f11, f12, wo, sl, h2, subX, toldX, nss]
theorem s10_ok (h : Dice S) : okW (fun fl S' => fl = .nx e ∧ Dc S S') (b_law_rest1_s10 e S) := by
  have nss : ∀ S : Store, oNe S (.str [112, 108, 97, 110]) (.str [112, 108, 97, 110]) = some (.bl false) := fun S => rfl
  refine okW_mk (S := S ++ [.dct [], .ins 0 []]) (a := .nx e) ?_ ⟨rfl, Dc.app h⟩
  have v0 : view (S ++ [Ob.dct [], Ob.ins 0 []]) (.obj S.length) = .dct [] := vdct (by simp)
  simp [b_law_rest1_s10, m_Table_init, b_Table_init, v0, subX, toldX, nss]
theorem s11_ok (h : Dice S) : okW (fun fl S' => fl = .nx e ∧ Dc S S') (b_law_rest1_s11 e S) := by
  have nss : ∀ S : Store, oNe S (.str [112, 108, 97, 110]) (.str [112, 108, 97, 110]) = some (.bl false) := fun S => rfl
  have at0 : (S ++ [Ob.dct ([((97 : Ch), (1 : Int))].map KW), Ob.ins 0 []])[S.length]? = some (Ob.dct ([((97 : Ch), (1 : Int))].map KW)) := by simp
  refine okW_mk (S := S ++ [.dct ([((97 : Ch), (1 : Int))].map KW), .ins 0 []]) (a := .nx e) ?_ ⟨rfl, Dc.app h⟩
  have v0 := vdct at0
  have dm := dctM_G at0
  have od : oDisp [(eC (.str [97]), eC (.int 1))] e S = .ok (.dct ([((97 : Ch), (1 : Int))].map KW)) S := rfl
  have ne : oInS (S ++ [Ob.dct ([((97 : Ch), (1 : Int))].map KW), Ob.ins 0 []]) (.str []) (.obj S.length) = some (.bl false) := by
    unfold oInS inSV
    rw [v0]
    rfl
  have iv : intsD (([((97 : Ch), (1 : Int))].map KW).map fun p => p.2) = some [1] := rfl
  have em : ([((97 : Ch), (1 : Int))].map KW).isEmpty = false := rfl
  have vm : vMin [1] = some 1 := rfl
  generalize [((97 : Ch), (1 : Int))].map KW = kw at *
  have e1 : S ++ [Ob.dct kw] ++ [Ob.ins 0 []] = S ++ [Ob.dct kw, Ob.ins 0 []] := by simp
  simp [b_law_rest1_s11, m_Table_init, b_Table_init, od, v0, em, ne, dm, iv, vm, subX, toldX, nss]
theorem s12_ok {r : Nat} {fs : List (Nat × D)} (hr : S[r]? = some (.ins 0 fs)) (e1 : e[1]? = some (some (.obj r))) : b_law_rest1_s12 e S = .ok (.nx e) S := by
  have nss : ∀ S : Store, oNe S (.str [115, 105, 122, 101]) (.str [115, 105, 122, 101]) = some (.bl false) := fun S => rfl
  have i0 := insAt_obj hr
  simp [b_law_rest1_s12, e1, i0, m_Table_best_for, b_Table_best_for, subX, toldX, nss]
theorem cases_ok : okW (fun d _ => d = .bl true) (m_law_cases1 [] S) := by
  have nss : ∀ S : Store, oNe S (.str [115, 105, 122, 101]) (.str [115, 105, 122, 101]) = some (.bl false) := fun S => rfl
  simp [m_law_cases1, b_law_cases1, m_fitted, b_fitted, m_laid, b_laid, subX, toldX, nss]
theorem rest_ok {r : Nat} {fs : List (Nat × D)} (h : Dice S) (hr : S[r]? = some (.ins 0 fs)) : okW (fun d _ => d = .bl true) (m_law_rest1 [.obj 1, .obj r] S) := by
  have r1 := ne1_ins h hr
  suffices hb : okW (fun fl _ => fl = .rt (.bl true)) (b_law_rest1 [some (.obj 1), some (.obj r), none, none, none, none, none, none, none, none, none, none, none] S) by
    obtain ⟨fl, S', e, rfl⟩ := okW_ex hb
    simp [m_law_rest1, e]
  unfold b_law_rest1
  refine okW_seq _ (s1_ok h rfl) ?_
  rintro _ S1 ⟨d1, cs, ss, lt, h1, h2, h3, rfl⟩
  simp only [List.set_cons_succ, List.set_cons_zero]
  refine okW_eq (s2_ok d1.dice h1 h2 h3 rfl rfl rfl) fun S2 d2 => ?_
  refine okW_seq _ (s3_ok d2.dice rfl) ?_
  rintro _ S3 ⟨d3, pl, mn, p0, p1, m0, m1, rfl⟩
  simp only [List.set_cons_succ, List.set_cons_zero]
  refine okW_seq (fun e' S' => e' = [some (.obj 1), some (.obj r), some (Lo .int cs), some (Lo .int ss), some (.int lt), none, some (.int pl), some (.int mn), some (tdD pl mn), none, none, none, none] ∧ Dc S3 S') (okW_mono (s4_ok d3.dice p0 m0 m1 rfl rfl) fun fl S' ⟨a, b⟩ => ⟨_, a, rfl, b⟩) ?_
  rintro _ S4 ⟨rfl, d4⟩
  refine okW_nx (s5_ok (pl := pl) (mn := mn) rfl rfl rfl) ?_
  obtain ⟨f9, s6⟩ := s6_ok (S := S4) (e := [some (.obj 1), some (.obj r), some (Lo .int cs), some (Lo .int ss), some (.int lt), none, some (.int pl), some (.int mn), some (tdD pl mn), none, none, none, none]) p0 p1 m0 m1 rfl rfl rfl rfl
  refine okW_nx s6 ?_
  simp only [List.set_cons_succ, List.set_cons_zero]
  refine okW_seq _ (s7_ok d4.dice rfl) ?_
  rintro _ S5 ⟨d5, a, al, rfl⟩
  simp only [List.set_cons_succ, List.set_cons_zero]
  refine s89_ok al rfl rfl ?_
  simp only [List.set_cons_succ, List.set_cons_zero]
  refine okW_eq (s10_ok d5.dice) fun S6 d6 => ?_
  refine okW_eq (s11_ok d6.dice) fun S7 d7 => ?_
  have dd := (((((d1.trans d2).trans d3).trans d4).trans d5).trans d6).trans d7
  refine okW_nx (s12_ok (dd.at_ hr r1) rfl) ?_
  obtain ⟨y, S8, hy, rfl⟩ := okW_ex (cases_ok (S := S7))
  simp [b_law_rest1_s13, hy]
end
theorem plain (xs : List Int) : ∃ S, m_law [.obj 0] [.lck (.lck (.lst (xs.map .int)))] = .ok (.bl true) S := by
  have main : okW (fun d _ => d = .bl true) (m_law [.obj 0] [.lck (.lck (.lst (xs.map .int)))]) := by
    simp [m_law, b_law, rounds_eq]
    refine law_wp fun a b c => ?_
    have hd : Dice [.lck (.lck (.lst (xs.map .int))), tri a b c] := ⟨a, b, c, rfl⟩
    have body : okW (fun fl _ => ∃ e', fl = .nx e') (b_law_l1 [some (.obj 0), some (.obj 1), none, none, none, none, none, none, none, none, none, none, none, none, none, none, none, none, none] [.lck (.lck (.lst (xs.map .int))), tri a b c]) := by
      unfold b_law_l1
      rw [← seq_assoc]
      refine okW_seq _ (start_ok hd (by simp)) ?_
      rintro e S1 ⟨r, a, b, w, h⟩
      refine okW_seq _ (loop_ok h) ?_
      rintro e S2 ⟨n, hn, v, t, e3, e4, e5, e9, e10, e11, e12, e13, e14, e15, e16, e17, e18, rfl, g⟩
      refine okW_nx (bare_law g) ?_
      refine okW_seq (fun e' S' => ∃ th : Int, 1 ≤ th ∧ th < 10 ∧ e' = ev (some (.obj 0)) r w v t e3 (some (.int th)) e5 e9 e10 e11 e12 e13 e14 e15 e16 e17 e18 ∧ Dc S2 S') ?_ ?_
      · simp [ev, roll_eq]
        refine roll_wpD g.dice (by decide) (by decide) fun x S' v0 v1 dc => ?_
        simp
        exact ⟨1 + x, by omega, by omega, rfl, dc⟩
      rintro e S3 ⟨th, t0, t1, rfl, d3⟩
      have g3 := g.roll d3
      refine okW_nx (good_law g3 t0 t1) ?_
      refine okW_nx (best_law g3 t0) ?_
      simp [ev]
      refine okW_bind (okW_mono (rest_ok g3.dice g3.at_.ob) fun d S h => ?_)
      subst h
      simp
    simp
    refine okW_bind (okW_mono body ?_)
    rintro fl S ⟨e', rfl⟩
    simp
  obtain ⟨d, S, e, rfl⟩ := okW_ex main
  exact ⟨S, e⟩
end Sm.K21
end
theorem PySem.Challenge.cw_candlehall_k21_holders_holds : PySem.Challenge.rw_candlehall_k21_holders.Holds := by
  exact Sm.K21.holds fun ns _ _ => Sm.K21.plain ns
