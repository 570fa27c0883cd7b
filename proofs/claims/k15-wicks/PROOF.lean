import PyProof.Rows.All
import Wide.All
import OpenK.AllK
import Wide.FinOn
import HandS.ForMost
import HandS.ForExc
import HandS.Lambda
import HandS.TryMany
import HandS.RaiseMore
import HandS.TupAny
import HandS.SortInts
import HandS.Style
import HandS.WordsExc
import HandS.EndTab
import HandS.HeadHook4
import HandS.HeadWalk
import HandS.AnyAll
import PyProof.GenCompT
import HandS.Head0
import HandS.Head1
import HandS.Head2
import PySem.Challenge.RW_candlehall_k15_wicks
set_option Elab.async false
section
set_option linter.all false
/-! The mirror machine: data as trees, mutable objects in a store. -/
namespace Sm
abbrev Tx := List Nat
inductive K1 where
  | i (n : Int) | s (t : Tx)
  deriving DecidableEq
inductive D where
  | non | bl (b : Bool) | int (i : Int) | str (t : Tx) | lst (xs : List D) | tup (xs : List D)
  | dct (kvs : List (K1 × D)) | dctT (kvs : List (List K1 × D)) | obj (r : Nat)
inductive Ob where
  | dead | lst (xs : List D) | dct (kvs : List (K1 × D)) | dctT (kvs : List (List K1 × D)) | ins (c : Nat) (fs : List (Nat × D)) | lck (o : Ob)
abbrev Store := List Ob
inductive Out (α : Type) where
  | ok (a : α) (S : Store) | exc (k : Nat) (S : Store) | bad
abbrev Env := List (Option D)
inductive Fl where
  | nx (e : Env) | rt (d : D) | bk (e : Env) | ct (e : Env)
abbrev ME := Env → Store → Out D
abbrev MB := Env → Store → Out Bool
abbrev MA := Env → Store → Out (List D)
abbrev MO := Env → Store → Out Ob
abbrev MS := Env → Store → Out Fl
abbrev Fn := List D → Store → Out D
def Out.bind {α β : Type} : Out α → (α → Store → Out β) → Out β
  | .ok a S, f => f a S
  | .exc k S, _ => .exc k S
  | .bad, _ => .bad
def ofO {α : Type} (o : Option α) (S : Store) : Out α := match o with
  | some a => .ok a S
  | none => .bad
/-- what an object's place holds, as a value -/
def Ob.val : Ob → Option D
  | .lst xs => some (.lst xs)
  | .dct k => some (.dct k)
  | .dctT k => some (.dctT k)
  | .lck o => o.val
  | _ => none
def view (S : Store) : D → D
  | .obj r => match S[r]? with
    | some o => match o.val with
      | some d => d
      | none => .obj r
    | none => .obj r
  | d => d

/-- .. as a list that stands by itself -/
def viewM (S : Store) : D → D
  | .obj r => match S[r]? with
    | some (.lst xs) => .lst xs
    | _ => .obj r
  | d => d
/-! ### operations on values -/
mutual
def eqD : D → D → Bool
  | .non, .non => true
  | .bl a, .bl b => a == b
  | .bl a, .int i => (if a then 1 else 0) == i
  | .int i, .bl a => i == (if a then 1 else 0)
  | .int i, .int j => i == j
  | .str s, .str t => s == t
  | .lst xs, .lst ys => eqL xs ys
  | .tup xs, .tup ys => eqL xs ys
  | _, _ => false
def eqL : List D → List D → Bool
  | [], [] => true
  | x :: xs, y :: ys => eqD x y && eqL xs ys
  | _, _ => false
end
/-- data without dicts and objects, so deep -/
def dataN : Nat → D → Bool
  | _, .non => true
  | _, .bl _ => true
  | _, .int _ => true
  | _, .str t => t.all fun c => decide (c < 128)
  | n + 1, .lst xs => xs.all (dataN n)
  | n + 1, .tup xs => xs.all (dataN n)
  | _, _ => false
def dataD (d : D) : Bool := dataN 6 d
/-- == of data -/
def eqV (S : Store) (x y : D) : Option Bool :=
  if dataD (view S x) && dataD (view S y) then some (eqD (view S x) (view S y)) else none
def oEq (S : Store) (x y : D) : Option D := (eqV S x y).map .bl
def oNe (S : Store) (x y : D) : Option D := (eqV S x y).map fun b => .bl (!b)
def big : Int := 18446744073709551616
def oAdd (S : Store) (x y : D) : Option D := match viewM S x, viewM S y with
  | .int a, .int b => some (.int (a + b))
  | .str a, .str b => if a.length + b.length ≤ 100000 then some (.str (a ++ b)) else none
  | .lst a, .lst b => if a.length + b.length ≤ 100000 then some (.lst (a ++ b)) else none
  | .tup a, .tup b => if a.length + b.length ≤ 100000 then some (.tup (a ++ b)) else none
  | _, _ => none
def oSub (_ : Store) (x y : D) : Option D := match x, y with
  | .int a, .int b => some (.int (a - b))
  | _, _ => none
def oMul (S : Store) (x y : D) : Option D := match viewM S x, y with
  | .int a, .int b => if (-big < a ∧ a < big) ∨ (-big < b ∧ b < big) then some (.int (a * b)) else none
  | .lst a, .int b => if -1000 < b ∧ b < 1000 ∧ a.length ≤ 1000 then some (.lst ((List.replicate b.toNat a).flatten)) else none
  | _, _ => none
def oDiv (_ : Store) (x y : D) : Option D := match x, y with
  | .int a, .int b => if b ≠ 0 ∧ b.natAbs < 1073741824 then some (.int (a.fdiv b)) else none
  | _, _ => none
def oMod (_ : Store) (x y : D) : Option D := match x, y with
  | .int a, .int b => if b ≠ 0 then some (.int (a.fmod b)) else none
  | _, _ => none
def oPow (_ : Store) (x y : D) : Option D := match x, y with
  | .int a, .int b => if 0 ≤ b ∧ b ≤ 1000 ∧ -big < a ∧ a < big then some (.int (a ^ b.toNat)) else none
  | _, _ => none
def cmpI (f : Int → Int → Bool) (_ : Store) (x y : D) : Option D := match x, y with
  | .int a, .int b => some (.bl (f a b))
  | _, _ => none
def oLt := cmpI fun a b => decide (a < b)
def oLe := cmpI fun a b => decide (a ≤ b)
def oGt := cmpI fun a b => decide (b < a)
def oGe := cmpI fun a b => decide (b ≤ a)
def flatD : D → Bool
  | .non | .bl _ | .int _ | .str _ => true
  | _ => false
def inL (x : D) : List D → Bool
  | [] => false
  | y :: ys => eqD y x || inL x ys
def keyD : D → Option K1
  | .int i => some (.i i)
  | .str t => some (.s t)
  | _ => none
def hasK (k : K1) : List (K1 × D) → Bool
  | [] => false
  | p :: r => decide (p.1 = k) || hasK k r
def getK (k : K1) : List (K1 × D) → Option D
  | [] => none
  | p :: r => if p.1 = k then some p.2 else getK k r
def putK (k : K1) (v : D) : List (K1 × D) → List (K1 × D)
  | [] => [(k, v)]
  | p :: r => if p.1 = k then (k, v) :: r else p :: putK k v r
def delK (k : K1) : List (K1 × D) → List (K1 × D)
  | [] => []
  | p :: r => if p.1 = k then r else p :: delK k r
/-- x in a list or tuple of flat things -/
def inSV (S : Store) (x y : D) : Option Bool := match view S y with
  | .lst xs => if flatD x && xs.all flatD then some (inL x xs) else none
  | .tup xs => if flatD x && xs.all flatD then some (inL x xs) else none
  | _ => none
def oInS (S : Store) (x y : D) : Option D := (inSV S x y).map .bl
def oNotInS (S : Store) (x y : D) : Option D := (inSV S x y).map fun b => .bl (!b)
/-- is it None -/
def nonD (S : Store) : D → Option Bool
  | .non => some true
  | .obj r => match S[r]? with
    | some .dead => none
    | some _ => some false
    | none => none
  | _ => some false
def oIsN (S : Store) (x y : D) : Option D := match y with
  | .non => (nonD S x).map .bl
  | _ => none
def oNotN (S : Store) (x y : D) : Option D := match y with
  | .non => (nonD S x).map fun b => .bl (!b)
  | _ => none
def uNeg (_ : Store) (x : D) : Option D := match x with
  | .int a => some (.int (-a))
  | _ => none
def uNot (_ : Store) (x : D) : Option D := match x with
  | .bl a => some (.bl (!a))
  | _ => none
/-- the item at i, from behind below nought -/
def ixZ (n : Nat) (i : Int) : Option Nat := if 0 ≤ i then (if i < n then some i.toNat else none) else if -(n : Int) ≤ i then some (i + n).toNat else none
def atZ {α : Type} (xs : List α) (i : Int) : Option α := (ixZ xs.length i).bind fun j => xs[j]?
/-- of lists and tuples alone -/
def oIxQ (S : Store) (x y : D) : Option D := match view S x, y with
  | .lst xs, .int i => atZ xs i
  | .tup xs, .int i => atZ xs i
  | _, _ => none
def oIx (S : Store) (x y : D) : Option D := match view S x, y with
  | .lst xs, .int i => atZ xs i
  | .tup xs, .int i => atZ xs i
  | .str t, .int i => if t.length ≤ 100000 then (atZ t i).map fun c => .str [c] else none
  | _, _ => none
/-- d[k] -/
def oDGet (S : Store) (x y : D) : Option D := match view S x with
  | .dct kvs => (keyD y).bind fun k => getK k kvs
  | _ => none
/-- a slice's ends -/
def cutN (n : Nat) (i : Int) : Nat := if i < 0 then (i + (n : Int)).toNat else min i.toNat n
def cutA (n d : Nat) : Option Int → Nat
  | none => d
  | some i => cutN n i
def cutL {α : Type} (xs : List α) (lo hi : Option Int) : List α := (xs.drop (cutA xs.length 0 lo)).take (cutA xs.length xs.length hi - cutA xs.length 0 lo)
def slD (S : Store) (x : D) (a b : Option Int) : Option D := match view S x with
  | .lst xs => some (.lst (cutL xs a b))
  | .tup xs => some (.tup (cutL xs a b))
  | _ => none
/-! ### built-in functions -/
def bLen (S : Store) : List D → Option D
  | [x] => match view S x with
    | .lst xs => some (.int xs.length)
    | .tup xs => some (.int xs.length)
    | .str t => if t.length ≤ 100000 then some (.int t.length) else none
    | _ => none
  | _ => none
def bLenD (S : Store) : List D → Option D
  | [x] => match view S x with
    | .dct k => some (.int k.length)
    | _ => none
  | _ => none
def bAbs (_ : Store) : List D → Option D
  | [.int i] => some (.int (if i < 0 then -i else i))
  | _ => none
def intsD : List D → Option (List Int)
  | [] => some []
  | .int i :: r => (intsD r).map (i :: ·)
  | _ => none
def maxI : List Int → Int → Int
  | [], m => m
  | x :: r, m => maxI r (if x > m then x else m)
def minI : List Int → Int → Int
  | [], m => m
  | x :: r, m => minI r (if x < m then x else m)
def seqD (S : Store) (x : D) : Option (List D) := match view S x with
  | .lst xs => some xs
  | .tup xs => some xs
  | _ => none
def bMax (S : Store) : List D → Option D
  | [.int i, .int j] => some (.int (if j > i then j else i))
  | [x] => match (match view S x with | .lst xs => intsD xs | _ => none) with
    | some (y :: r) => some (.int (maxI r y))
    | _ => none
  | _ => none
def bMin (S : Store) : List D → Option D
  | [.int i, .int j] => some (.int (if j < i then j else i))
  | [x] => match (match view S x with | .lst xs => intsD xs | _ => none) with
    | some (y :: r) => some (.int (minI r y))
    | _ => none
  | _ => none
def sumI : List Int → Int
  | [] => 0
  | x :: r => x + sumI r
def bSum (S : Store) : List D → Option D
  | [x] => match view S x with
    | .lst xs => (intsD xs).map fun l => .int (sumI l)
    | _ => none
  | _ => none
def bInt (_ : Store) : List D → Option D
  | [.int i] => some (.int i)
  | [.bl b] => some (.int (if b then 1 else 0))
  | _ => none
def bList (S : Store) : List D → Option D
  | [x] => (seqD S x).map .lst
  | _ => none
def bTuple (S : Store) : List D → Option D
  | [x] => (seqD S x).map .tup
  | _ => none
def leI (a b : Int) : Bool := decide (a ≤ b)
def insI (x : Int) : List Int → List Int
  | [] => [x]
  | y :: r => if x ≤ y then x :: y :: r else y :: insI x r
def sortI : List Int → List Int
  | [] => []
  | x :: r => insI x (sortI r)
def bSorted (S : Store) : List D → Option D
  | [x] => match view S x with
    | .lst xs => (intsD xs).map fun l => .lst ((sortI l).map .int)
    | _ => none
  | _ => none

/-! ### expressions -/
def eV (i : Nat) : ME := fun e S => match e[i]? with
  | some (some d) => .ok d S
  | _ => .bad
def eC (d : D) : ME := fun _ S => .ok d S
def eOp (f : Store → D → D → Option D) (a b : ME) : ME := fun e S => (a e S).bind fun x S1 => (b e S1).bind fun y S2 => ofO (f S2 x y) S2
def eUn (f : Store → D → Option D) (a : ME) : ME := fun e S => (a e S).bind fun x S1 => ofO (f S1 x) S1
def eChain (f g : Store → D → D → Option D) (a b c : ME) : ME := fun e S => (a e S).bind fun x S1 => (b e S1).bind fun y S2 => match f S2 x y with
  | some (.bl true) => (c e S2).bind fun z S3 => ofO (g S3 y z) S3
  | some (.bl false) => .ok (.bl false) S2
  | _ => .bad
def tB (a : ME) : MB := fun e S => (a e S).bind fun x S1 => match x with
  | .bl b => .ok b S1
  | _ => .bad
def tAnd (a b : MB) : MB := fun e S => (a e S).bind fun c S1 => if c = true then b e S1 else .ok false S1
def tOr (a b : MB) : MB := fun e S => (a e S).bind fun c S1 => if c = true then .ok true S1 else b e S1
def tNot (a : MB) : MB := fun e S => (a e S).bind fun c S1 => .ok (!c) S1
def eAnd (a b : ME) : ME := fun e S => (a e S).bind fun x S1 => match x with
  | .bl true => b e S1
  | .bl false => .ok (.bl false) S1
  | _ => .bad
def eOr (a b : ME) : ME := fun e S => (a e S).bind fun x S1 => match x with
  | .bl true => .ok (.bl true) S1
  | .bl false => b e S1
  | _ => .bad
def eIf (t : MB) (a b : ME) : ME := fun e S => (t e S).bind fun c S1 => if c = true then a e S1 else b e S1
def aNil : MA := fun _ S => .ok [] S
def aCons (a : ME) (r : MA) : MA := fun e S => (a e S).bind fun x S1 => (r e S1).bind fun xs S2 => .ok (x :: xs) S2
def eTup (r : MA) : ME := fun e S => (r e S).bind fun xs S1 => if xs.length ≤ 1000 then .ok (.tup xs) S1 else .bad
def eLst (r : MA) : ME := fun e S => (r e S).bind fun xs S1 => if xs.length ≤ 1000 then .ok (.lst xs) S1 else .bad
def oLst (r : MA) : MO := fun e S => (r e S).bind fun xs S1 => if xs.length ≤ 1000 then .ok (.lst xs) S1 else .bad
/-- a fresh thing, laid into the store -/
def eNew (m : MO) : ME := fun e S => (m e S).bind fun o S1 => .ok (.obj S1.length) (S1 ++ [o])
def eCall (f : Fn) (r : MA) : ME := fun e S => (r e S).bind fun ds S1 => f ds S1
def eCB (f : Store → List D → Option D) (r : MA) : ME := fun e S => (r e S).bind fun ds S1 => ofO (f S1 ds) S1
def insAt (S : Store) : D → Option (Nat × Nat × List (Nat × D))
  | .obj r => match S[r]? with
    | some (.ins c fs) => some (r, c, fs)
    | _ => none
  | _ => none
def getF (i : Nat) : List (Nat × D) → Option D
  | [] => none
  | p :: r => if p.1 = i then some p.2 else getF i r
def putF (i : Nat) (v : D) : List (Nat × D) → List (Nat × D)
  | [] => [(i, v)]
  | p :: r => if p.1 = i then (i, v) :: r else p :: putF i v r
def eFld (i : Nat) (a : ME) : ME := fun e S => (a e S).bind fun x S1 => match insAt S1 x with
  | some (_, _, fs) => ofO (getF i fs) S1
  | none => .bad
def eMeth (c : Nat) (f : Fn) (o : ME) (r : MA) : ME := fun e S => (o e S).bind fun x S1 => match insAt S1 x with
  | some (_, c', _) => if c' = c then (r e S1).bind fun ds S2 => f (x :: ds) S2 else .bad
  | none => .bad
def eMake (c : Nat) (f : Fn) (r : MA) : ME := fun e S => (r e S).bind fun ds S1 => (f (.obj S1.length :: ds) (S1 ++ [.ins c []])).bind fun v S2 => match v with
  | .non => .ok (.obj S1.length) S2
  | _ => .bad
def pO : Option ME → Env → Store → Out (Option Int)
  | none => fun _ S => .ok none S
  | some m => fun e S => (m e S).bind fun d S1 => match d with
    | .int i => .ok (some i) S1
    | _ => .bad
def eSl (a : ME) (lo hi : Option ME) : ME := fun e S => (a e S).bind fun x S1 => (pO lo e S1).bind fun l S2 => (pO hi e S2).bind fun h S3 => ofO (slD S3 x l h) S3
/-! ### what is walked: its items, and the place that is locked meanwhile -/
abbrev MI := Env → Store → Out (List D × Option Nat)
def iSeq (a : ME) : MI := fun e S => (a e S).bind fun x S1 => match x with
  | .lst xs => .ok (xs, none) S1
  | .tup xs => .ok (xs, none) S1
  | .obj r => match S1[r]? with
    | some (.lst xs) => .ok (xs, some r) (S1.set r (.lck (.lst xs)))
    | some (.lck (.lst xs)) => .ok (xs, none) S1
    | _ => .bad
  | _ => .bad
def rangeL (lo : Int) : Nat → List D
  | 0 => []
  | n + 1 => .int lo :: rangeL (lo + 1) n
def iRange1 (r : MA) : MI := fun e S => (r e S).bind fun ds S1 => match ds with
  | [.int n] => if -1000000 ≤ n ∧ n ≤ 1000000 then .ok (rangeL 0 n.toNat, none) S1 else .bad
  | _ => .bad
def iRange2 (r : MA) : MI := fun e S => (r e S).bind fun ds S1 => match ds with
  | [.int a, .int b] => if -1000000 ≤ a ∧ a ≤ 1000000 ∧ -1000000 ≤ b ∧ b ≤ 1000000 then .ok (rangeL a (b - a).toNat, none) S1 else .bad
  | _ => .bad
def zipD : List D → List D → List D
  | x :: xs, y :: ys => .tup [x, y] :: zipD xs ys
  | _, _ => []
def treeL : D → Option (List D)
  | .lst xs => some xs
  | _ => none
def iZip (r : MA) : MI := fun e S => (r e S).bind fun ds S1 => match ds with
  | [a, b] => match treeL a, treeL b with
    | some xs, some ys => .ok (zipD xs ys, none) S1
    | _, _ => .bad
  | _ => .bad
/-! ### targets -/
abbrev MG := D → Env → Store → Out Env
def gN (i : Nat) : MG := fun x e S => .ok (e.set i (some x)) S
def gAll : List MG → List D → Env → Store → Out Env
  | [], [], e, S => .ok e S
  | g :: gs, x :: xs, e, S => (g x e S).bind fun e1 S1 => gAll gs xs e1 S1
  | _, _, _, _ => .bad
def gT (gs : List MG) : MG := fun x e S => match x with
  | .tup xs => if xs.length = gs.length then gAll gs xs e S else .bad
  | _ => .bad
def wipe (e : Env) : List Nat → Env
  | [] => e
  | v :: vs => (wipe e vs).set v none
def unlockAt (S : Store) : Option Nat → Store
  | none => S
  | some r => match S[r]? with
    | some (.lck o) => S.set r o
    | _ => S
def lcL (g : MG) (t : MB) (m : ME) (e : Env) : List D → Store → List D → Out (List D)
  | [], S, acc => .ok acc S
  | x :: xs, S, acc => match g x e S with
    | .ok e1 S0 => match t e1 S0 with
      | .ok true S1 => match m e1 S1 with
        | .ok y S2 => lcL g t m e xs S2 (acc ++ [y])
        | _ => .bad
      | .ok false S1 => lcL g t m e xs S1 acc
      | _ => .bad
    | _ => .bad
def tYes : MB := fun _ S => .ok true S
def eLC (vs : List Nat) (it : MI) (g : MG) (t : MB) (m : ME) : ME := fun e S => (it e S).bind fun p S1 => if 100000 < p.1.length then .bad else (lcL g t m (wipe e vs) p.1 S1 []).bind fun ys S2 => .ok (.lst ys) (unlockAt S2 p.2)
/-- any, all, sum of a generator expression whose turns change nothing -/
def turnG (g : MG) (t : MB) (m : ME) (e : Env) (S : Store) (x : D) : Option (Option D) := match g x e S with
  | .ok e1 _ => match t e1 S with
    | .ok true _ => match m e1 S with
      | .ok y _ => some (some y)
      | _ => none
    | .ok false _ => some none
    | _ => none
  | _ => none
/-- what a generator expression gives, all of it -/
def genL (f : D → Option (Option D)) : List D → Option (List D)
  | [] => some []
  | x :: xs => match f x with
    | some (some y) => (genL f xs).map (y :: ·)
    | some none => genL f xs
    | none => none
def boolsD : List D → Option (List Bool)
  | [] => some []
  | .bl b :: r => (boolsD r).map (b :: ·)
  | _ => none
/-- numbers and sums from the left that fit a machine word -/
def fitsL : Int → List Int → Bool
  | _, [] => true
  | a, n :: r => decide (-1000000000000000000 < n ∧ n < 1000000000000000000 ∧ -1000000000000000000 < a + n ∧ a + n < 1000000000000000000) && fitsL (a + n) r
/-- what a generator expression walks -/
abbrev MW := Env → Store → Out (List D)
def gSeq (a : ME) : MW := fun e S => (a e S).bind fun x S1 => match view S1 x with
  | .lst xs => .ok xs S1
  | .tup xs => .ok xs S1
  | _ => .bad
def gZip (r : MA) : MW := fun e S => (r e S).bind fun ds S1 => match ds with
  | [a, b] => match view S1 a, view S1 b with
    | .lst xs, .lst ys => .ok (zipD xs ys) S1
    | _, _ => .bad
  | _ => .bad
/-- the generator expression's own values -/
def mGen (it : MW) (g : MG) (t : MB) (m : ME) : MW := fun e S => (it e S).bind fun p S1 => match genL (turnG g t m e S1) p with
  | some ys => .ok ys S1
  | none => .bad
def eAny (mw : MW) : ME := fun e S => (mw e S).bind fun ys S1 => ofO ((boolsD ys).map fun bs => .bl (bs.any id)) S1
def eAll (mw : MW) : ME := fun e S => (mw e S).bind fun ys S1 => ofO ((boolsD ys).map fun bs => .bl (bs.all id)) S1
def eSum (mw : MW) : ME := fun e S => (mw e S).bind fun ys S1 => ofO ((intsD ys).bind fun ns => if fitsL 0 ns = true then some (.int (sumI ns)) else none) S1
/-- told(lambda: ..): an error's class by the clauses -/
def eTold (sub : Nat → Nat → Bool) (hs : List (Nat × Tx)) (m : ME) : ME := fun e S => match m e S with
  | .ok d S1 => .ok d S1
  | .exc k S1 => match hs.find? fun h => sub k h.1 with
    | some h => .ok (.str h.2) S1
    | none => .bad
  | .bad => .bad

/-! ### statements -/
def sNil : MS := fun e S => .ok (.nx e) S
def sSeq (a b : MS) : MS := fun e S => (a e S).bind fun f S1 => match f with
  | .nx e1 => b e1 S1
  | f => .ok f S1
def sSet (i : Nat) (m : ME) : MS := fun e S => (m e S).bind fun d S1 => .ok (.nx (e.set i (some d))) S1
def sAsg (g : MG) (m : ME) : MS := fun e S => (m e S).bind fun d S1 => (g d e S1).bind fun e1 S2 => .ok (.nx e1) S2
def sPar (i j : Nat) (r : MA) : MS := fun e S => (r e S).bind fun ds S1 => match ds with
  | [v, w] => .ok (.nx ((e.set i (some v)).set j (some w))) S1
  | _ => .bad
def sPar3 (i j k : Nat) (r : MA) : MS := fun e S => (r e S).bind fun ds S1 => match ds with
  | [v, w, u] => .ok (.nx (((e.set i (some v)).set j (some w)).set k (some u))) S1
  | _ => .bad
def iAdd (_ : Store) : D → D → Option D
  | .int a, .int b => some (.int (a + b))
  | _, _ => none
def iSub (_ : Store) : D → D → Option D
  | .int a, .int b => some (.int (a - b))
  | _, _ => none
def sAug (f : Store → D → D → Option D) (i : Nat) (m : ME) : MS := fun e S => match e[i]? with
  | some (some x) => (m e S).bind fun y S1 => match f S1 x y with
    | some z => .ok (.nx (e.set i (some z))) S1
    | none => .bad
  | _ => .bad
def sExpr (m : ME) : MS := fun e S => (m e S).bind fun _ S1 => .ok (.nx e) S1
def sRet (m : ME) : MS := fun e S => (m e S).bind fun d S1 => .ok (.rt d) S1
def sRetN : MS := fun _ S => .ok (.rt .non) S
def sIf (t : MB) (a b : MS) : MS := fun e S => (t e S).bind fun c S1 => if c = true then a e S1 else b e S1
def sRaise (k : Nat) : MS := fun _ S => .exc k S
/-- raise K(arg): the argument is worked out -/
def sRaise1 (k : Nat) (m : ME) : MS := fun e S => (m e S).bind fun _ S1 => .exc k S1
def sBrk : MS := fun e S => .ok (.bk e) S
def sCt : MS := fun e S => .ok (.ct e) S
def sFld (i : Nat) (o v : ME) : MS := fun e S => (v e S).bind fun y S1 => (o e S1).bind fun x S2 => match insAt S2 x with
  | some (r, c, fs) => if fs.length < 1000 then .ok (.nx e) (S2.set r (.ins c (putF i y fs))) else .bad
  | none => .bad
def sFldAug (f : Store → D → D → Option D) (i : Nat) (o v : ME) : MS := fun e S => (o e S).bind fun x S1 => match insAt S1 x with
  | some (_, c0, fs) => match getF i fs with
    | some y => (v e S1).bind fun z S2 => match f S2 y z with
      | some u => match insAt S2 x with
        | some (r, c, fs2) => if c = c0 ∧ fs2.length < 1000 then .ok (.nx e) (S2.set r (.ins c (putF i u fs2))) else .bad
        | none => .bad
      | none => .bad
    | none => .bad
  | none => .bad
def lstAt (S : Store) : D → Option (Nat × List D)
  | .obj r => match S[r]? with
    | some (.lst xs) => some (r, xs)
    | _ => none
  | _ => none
def eAppend (o v : ME) : ME := fun e S => (o e S).bind fun x S1 => match lstAt S1 x with
  | some _ => (v e S1).bind fun y S2 => match lstAt S2 x with
    | some (r, xs) => if xs.length < 100000 then .ok .non (S2.set r (.lst (xs ++ [y]))) else .bad
    | none => .bad
  | none => .bad
/-- o[i] = v, o a list of the store -/
def sSub (o i v : ME) : MS := fun e S => (v e S).bind fun y S1 => (o e S1).bind fun x S2 => (i e S2).bind fun k S3 => match lstAt S3 x with
  | some (r, xs) => match k with
    | .int z => match ixZ xs.length z with
      | some j => .ok (.nx e) (S3.set r (.lst (xs.set j y)))
      | none => .bad
    | _ => .bad
  | none => .bad
def forL (lk : Option Nat) (g : MG) (b : MS) : List D → Env → Store → Out Fl
  | [], e, S => .ok (.nx e) (unlockAt S lk)
  | x :: xs, e, S => (g x e S).bind fun e1 S1 => match b e1 S1 with
      | .ok (.nx e2) S2 => forL lk g b xs e2 S2
      | .ok (.ct e2) S2 => forL lk g b xs e2 S2
      | .ok (.bk e2) S2 => .ok (.nx e2) (unlockAt S2 lk)
      | .ok (.rt d) S2 => .ok (.rt d) (unlockAt S2 lk)
      | r => r
def sFor (it : MI) (g : MG) (b : MS) : MS := fun e S => (it e S).bind fun p S1 => forL p.2 g b p.1 e S1
def sWhile (t : MB) (b : MS) : Nat → MS
  | 0 => fun _ _ => .bad
  | n + 1 => fun e S => (t e S).bind fun c S1 => if c = true then
      match b e S1 with
      | .ok (.nx e2) S2 => sWhile t b n e2 S2
      | .ok (.ct e2) S2 => sWhile t b n e2 S2
      | .ok (.bk e2) S2 => .ok (.nx e2) S2
      | r => r
    else .ok (.nx e) S1
/-- a def: so many names, so many parameters -/
def mkFn (n ar : Nat) (b : MS) : Fn := fun ds S => if ds.length = ar then
    match b (ds.map some ++ List.replicate (n - ds.length) none) S with
    | .ok (.nx _) S1 => .ok .non S1
    | .ok (.rt d) S1 => .ok d S1
    | .exc k S1 => .exc k S1
    | _ => .bad
  else .bad
end Sm
end

section
set_option Elab.async false
set_option linter.all false
set_option autoImplicit false
set_option maxRecDepth 100000
set_option maxHeartbeats 4000000
namespace Sm
open PySem L2
/-! ### what stands for what -/
def sS (t : Tx) : Str := ⟨t.toArray⟩
def kK : K1 → Key
  | .i n => .inl n
  | .s t => .inr (sS t)
theorem sS_inj {a b : Tx} (h : sS a = sS b) : a = b := by
  have := congrArg (fun s : Str => s.cps.toList) h
  simpa [sS] using this
structure Gx where
  K : PySem.W.Frag
  fn : Nat → Str
  cl : Nat → Addr
  ex : Nat → Addr
  tabs : List (Addr × Str)
  fni : ∀ i j, fn i = fn j → i = j
structure Ct where
  ι : Nat → Addr
  S : Store
  H : Hp
  rs : List Addr
def Ct.live (c : Ct) (r : Nat) : Prop := ∃ o, c.S[r]? = some o ∧ o ≠ Ob.dead
def Ct.free (c : Ct) (a : Addr) : Prop := a ∉ c.rs ∧ ∀ r, c.live r → c.ι r ≠ a
mutual
def Rep (c : Ct) : D → V → Prop
  | .non, v => v = .non
  | .bl b, v => v = .bl b
  | .int i, v => v = .int i
  | .str t, v => v = .str (sS t)
  | .lst ds, v => ∃ a vs, v = .ref a ∧ c.free a ∧ c.H a = some (.lst vs) ∧ RepL c ds vs
  | .tup ds, v => ∃ a vs, v = .ref a ∧ c.free a ∧ c.H a = some (.tup vs) ∧ RepL c ds vs
  | .dct kvs, v => ∃ a us, v = .ref a ∧ c.free a ∧ Rd c.H a (.dK us) ∧ RepK c kvs us
  | .dctT kvs, v => ∃ a us, v = .ref a ∧ c.free a ∧ Rd c.H a (.dT us) ∧ RepKT c kvs us
  | .obj r, v => r < c.S.length ∧ (c.live r → v = .ref (c.ι r))
def RepL (c : Ct) : List D → List V → Prop
  | [], vs => vs = []
  | d :: ds, vs => ∃ v r, vs = v :: r ∧ Rep c d v ∧ RepL c ds r
def RepK (c : Ct) : List (K1 × D) → List (Key × V) → Prop
  | [], us => us = []
  | (k, d) :: ds, us => ∃ v r, us = (kK k, v) :: r ∧ Rep c d v ∧ RepK c ds r
def RepKT (c : Ct) : List (List K1 × D) → List (List Key × V) → Prop
  | [], us => us = []
  | (k, d) :: ds, us => ∃ v r, us = (k.map kK, v) :: r ∧ Rep c d v ∧ RepKT c ds r
end
def RepF (g : Gx) (c : Ct) : List (Nat × D) → List (Str × V) → Prop
  | [], us => us = []
  | (k, d) :: ds, us => ∃ v r, us = (g.fn k, v) :: r ∧ Rep c d v ∧ RepF g c ds r
def isT : HO → Prop
  | .lst _ => True
  | .tup _ => True
  | _ => False
def isD : HO → Prop
  | .dK _ => True
  | .dT _ => True
  | _ => False
/-- no table -/
def nT (o : HO) : Prop := ∀ ps, o ≠ .tbl ps
/-- c' is later than c -/
structure Lw (c c' : Ct) : Prop where
  len : c.S.length ≤ c'.S.length
  liv : ∀ r, r < c.S.length → c'.live r → c.live r ∧ c'.ι r = c.ι r
  sur : ∀ a o, c.H a = some o → nT o → ∃ o', c'.H a = some o' ∧ nT o'
  fre : ∀ a o, c.free a → c.H a = some o → nT o → c'.free a
  tre : ∀ a u, isT u → c.free a → c.H a = some u → c'.H a = some u
  trd : ∀ a u, isD u → c.free a → Rd c.H a u → Rd c'.H a u
/-- .. and what is locked is locked still -/
structure Le (c c' : Ct) : Prop extends Lw c c' where
  lkd : ∀ (r : Nat) (o : Ob), c.S[r]? = some (Ob.lck o) → c'.S[r]? = some (Ob.lck o)
theorem rd_some {H : Hp} {a : Addr} {u : HO} (h : Rd H a u) : ∃ o, H a = some o := by
  rcases h with h | ⟨o, h⟩
  · exact ⟨_, h⟩
  · exact ⟨_, h⟩
theorem isT_nT {u : HO} (t : isT u) : nT u := fun ps z => by subst z; exact t
theorem rd_nT {H : Hp} {a : Addr} {u : HO} (t : isD u) (h : Rd H a u) : ∃ o, H a = some o ∧ nT o := by
  rcases h with h | ⟨o, h⟩
  · exact ⟨_, h, fun ps z => by subst z; exact t⟩
  · exact ⟨_, h, fun ps z => by cases z⟩
theorem Le.refl (c : Ct) : Le c c := ⟨⟨Nat.le_refl _, fun _ _ h => ⟨h, rfl⟩, fun _ o h t => ⟨o, h, t⟩, fun _ _ h _ _ => h, fun _ _ _ _ h' => h', fun _ _ _ _ h' => h'⟩, fun _ _ h => h⟩
theorem Le.trans {a b c : Ct} (x : Le a b) (y : Le b c) : Le a c where
  len := Nat.le_trans x.len y.len
  liv := fun r hr hl => by
    obtain ⟨h1, e1⟩ := y.liv r (Nat.lt_of_lt_of_le hr x.len) hl
    obtain ⟨h2, e2⟩ := x.liv r hr h1
    exact ⟨h2, e1.trans e2⟩
  sur := fun p o h t => by
    obtain ⟨o1, h1, t1⟩ := x.sur p o h t
    exact y.sur p o1 h1 t1
  fre := fun p o hf hr t => by
    obtain ⟨o1, h1, t1⟩ := x.sur p o hr t
    exact y.fre p o1 (x.fre p o hf hr t) h1 t1
  tre := fun p u t hf hr => y.tre p u t (x.fre p _ hf hr (isT_nT t)) (x.tre p u t hf hr)
  trd := fun p u t hf hr => by
    obtain ⟨o, e, n⟩ := rd_nT t hr
    exact y.trd p u t (x.fre p o hf e n) (x.trd p u t hf hr)
  lkd := fun r o h => y.lkd r o (x.lkd r o h)
mutual
theorem Rep.monoW {c c' : Ct} (l : Lw c c') : ∀ (d : D) (v : V), Rep c d v → Rep c' d v
  | .non, v, h => by unfold Rep at h ⊢; exact h
  | .bl b, v, h => by unfold Rep at h ⊢; exact h
  | .int i, v, h => by unfold Rep at h ⊢; exact h
  | .str t, v, h => by unfold Rep at h ⊢; exact h
  | .lst ds, v, h => by
    unfold Rep at h ⊢
    obtain ⟨a, vs, e, f, r, q⟩ := h
    exact ⟨a, vs, e, l.fre a _ f r (fun _ z => by cases z), l.tre a (.lst vs) trivial f r, RepL.monoW l ds vs q⟩
  | .tup ds, v, h => by
    unfold Rep at h ⊢
    obtain ⟨a, vs, e, f, r, q⟩ := h
    exact ⟨a, vs, e, l.fre a _ f r (fun _ z => by cases z), l.tre a (.tup vs) trivial f r, RepL.monoW l ds vs q⟩
  | .dct ds, v, h => by
    unfold Rep at h ⊢
    obtain ⟨a, vs, e, f, r, q⟩ := h
    obtain ⟨o, eo, no⟩ := rd_nT (u := .dK vs) trivial r
    exact ⟨a, vs, e, l.fre a o f eo no, l.trd a (.dK vs) trivial f r, RepK.monoW l ds vs q⟩
  | .dctT ds, v, h => by
    unfold Rep at h ⊢
    obtain ⟨a, vs, e, f, r, q⟩ := h
    obtain ⟨o, eo, no⟩ := rd_nT (u := .dT vs) trivial r
    exact ⟨a, vs, e, l.fre a o f eo no, l.trd a (.dT vs) trivial f r, RepKT.monoW l ds vs q⟩
  | .obj r, v, h => by
    unfold Rep at h ⊢
    refine ⟨Nat.lt_of_lt_of_le h.1 l.len, fun hl => ?_⟩
    obtain ⟨h1, e⟩ := l.liv r h.1 hl
    rw [e]
    exact h.2 h1
theorem RepL.monoW {c c' : Ct} (l : Lw c c') : ∀ (ds : List D) (vs : List V), RepL c ds vs → RepL c' ds vs
  | [], vs, h => by unfold RepL at h ⊢; exact h
  | d :: ds, vs, h => by
    unfold RepL at h ⊢
    obtain ⟨v, r, e, h1, h2⟩ := h
    exact ⟨v, r, e, Rep.monoW l d v h1, RepL.monoW l ds r h2⟩
theorem RepK.monoW {c c' : Ct} (l : Lw c c') : ∀ (ds : List (K1 × D)) (vs : List (Key × V)), RepK c ds vs → RepK c' ds vs
  | [], vs, h => by unfold RepK at h ⊢; exact h
  | (k, d) :: ds, vs, h => by
    unfold RepK at h ⊢
    obtain ⟨v, r, e, h1, h2⟩ := h
    exact ⟨v, r, e, Rep.monoW l d v h1, RepK.monoW l ds r h2⟩
theorem RepKT.monoW {c c' : Ct} (l : Lw c c') : ∀ (ds : List (List K1 × D)) (vs : List (List Key × V)), RepKT c ds vs → RepKT c' ds vs
  | [], vs, h => by unfold RepKT at h ⊢; exact h
  | (k, d) :: ds, vs, h => by
    unfold RepKT at h ⊢
    obtain ⟨v, r, e, h1, h2⟩ := h
    exact ⟨v, r, e, Rep.monoW l d v h1, RepKT.monoW l ds r h2⟩
end
theorem RepF.monoW {g : Gx} {c c' : Ct} (l : Lw c c') : ∀ (ds : List (Nat × D)) (vs : List (Str × V)), RepF g c ds vs → RepF g c' ds vs
  | [], vs, h => h
  | (k, d) :: ds, vs, h => by
    obtain ⟨v, r, e, h1, h2⟩ := h
    exact ⟨v, r, e, Rep.monoW l d v h1, RepF.monoW l ds r h2⟩
theorem Rep.mono {c c' : Ct} (l : Le c c') (d : D) (v : V) (h : Rep c d v) : Rep c' d v := Rep.monoW l.toLw d v h
theorem RepL.mono {c c' : Ct} (l : Le c c') (d : List D) (v : List V) (h : RepL c d v) : RepL c' d v := RepL.monoW l.toLw d v h
theorem RepK.mono {c c' : Ct} (l : Le c c') (d : List (K1 × D)) (v : List (Key × V)) (h : RepK c d v) : RepK c' d v := RepK.monoW l.toLw d v h
theorem RepKT.mono {c c' : Ct} (l : Le c c') (d : List (List K1 × D)) (v : List (List Key × V)) (h : RepKT c d v) : RepKT c' d v := RepKT.monoW l.toLw d v h
theorem RepF.mono {g : Gx} {c c' : Ct} (l : Le c c') (d : List (Nat × D)) (v : List (Str × V)) (h : RepF g c d v) : RepF g c' d v := RepF.monoW l.toLw d v h
/-- what stands at an object's place -/
def RepO (g : Gx) (c : Ct) : Ob → Addr → Prop
  | .dead, _ => True
  | .lst ds, a => ∃ vs, c.H a = some (.lst vs) ∧ RepL c ds vs
  | .dct kvs, a => ∃ us, c.H a = some (.dK us) ∧ RepK c kvs us
  | .dctT kvs, a => ∃ us, c.H a = some (.dT us) ∧ RepKT c kvs us
  | .ins k fs, a => ∃ dx us, c.H a = some (.ins (g.cl k) dx us) ∧ RepF g c fs us
  | .lck (.lst ds), a => ∃ vs, c.H a = some (.lst vs) ∧ RepL c ds vs
  | .lck (.lck (.lst ds)), a => ∃ vs, Rd c.H a (.lst vs) ∧ RepL c ds vs
  | .lck (.dct kvs), a => ∃ ob us, c.H a = some (.frz ob (.dK us)) ∧ RepK c kvs us
  | .lck (.dctT kvs), a => ∃ ob us, c.H a = some (.frz ob (.dT us)) ∧ RepKT c kvs us
  | .lck _, _ => False
structure Ok (g : Gx) (c : Ct) : Prop where
  inj : ∀ r s, c.live r → c.live s → c.ι r = c.ι s → r = s
  at_ : ∀ r o, c.S[r]? = some o → RepO g c o (c.ι r)
  rsv : ∀ r, c.live r → c.ι r ∉ c.rs
  tabs : LamX.Tabs g.tabs c.H
  rsh : ∀ p, p ∈ c.rs → ∃ o, c.H p = some o ∧ ∀ ps, o ≠ .tbl ps
theorem RepO.monoW {g : Gx} {c c' : Ct} (l : Lw c c') {a : Addr} (e : c'.H a = c.H a) : ∀ {o : Ob}, RepO g c o a → RepO g c' o a
  | .dead, _ => trivial
  | .lst ds, ⟨vs, h1, h2⟩ => ⟨vs, e.trans h1, RepL.monoW l _ _ h2⟩
  | .dct ds, ⟨vs, h1, h2⟩ => ⟨vs, e.trans h1, RepK.monoW l _ _ h2⟩
  | .dctT ds, ⟨vs, h1, h2⟩ => ⟨vs, e.trans h1, RepKT.monoW l _ _ h2⟩
  | .ins k fs, ⟨dx, us, h1, h2⟩ => ⟨dx, us, e.trans h1, RepF.monoW l _ _ h2⟩
  | .lck (.lst ds), ⟨vs, h1, h2⟩ => ⟨vs, e.trans h1, RepL.monoW l _ _ h2⟩
  | .lck (.dct ds), ⟨ob, vs, h1, h2⟩ => ⟨ob, vs, e.trans h1, RepK.monoW l _ _ h2⟩
  | .lck (.dctT ds), ⟨ob, vs, h1, h2⟩ => ⟨ob, vs, e.trans h1, RepKT.monoW l _ _ h2⟩
  | .lck (.lck (.lst ds)), ⟨vs, h1, h2⟩ => ⟨vs, by
      rcases h1 with h1 | ⟨x, h1⟩
      · exact .inl (e.trans h1)
      · exact .inr ⟨x, e.trans h1⟩, RepL.monoW l _ _ h2⟩
  | .lck .dead, h => h.elim
  | .lck (.ins _ _), h => h.elim
  | .lck (.lck .dead), h => h.elim
  | .lck (.lck (.ins _ _)), h => h.elim
  | .lck (.lck (.dct _)), h => h.elim
  | .lck (.lck (.dctT _)), h => h.elim
  | .lck (.lck (.lck _)), h => h.elim
theorem RepO.mono {g : Gx} {c c' : Ct} (l : Le c c') {a : Addr} (e : c'.H a = c.H a) {o : Ob} (h : RepO g c o a) : RepO g c' o a := RepO.monoW l.toLw e h
theorem RepO.some {g : Gx} {c : Ct} {a : Addr} : ∀ {o : Ob}, o ≠ .dead → RepO g c o a → ∃ u, c.H a = Option.some u
  | .dead, n, _ => absurd rfl n
  | .lst ds, _, ⟨vs, h1, h2⟩ => ⟨_, h1⟩
  | .dct ds, _, ⟨vs, h1, h2⟩ => ⟨_, h1⟩
  | .dctT ds, _, ⟨vs, h1, h2⟩ => ⟨_, h1⟩
  | .ins k fs, _, ⟨dx, us, h1, h2⟩ => ⟨_, h1⟩
  | .lck (.lst ds), _, ⟨vs, h1, h2⟩ => ⟨_, h1⟩
  | .lck (.dct ds), _, ⟨ob, vs, h1, h2⟩ => ⟨_, h1⟩
  | .lck (.dctT ds), _, ⟨ob, vs, h1, h2⟩ => ⟨_, h1⟩
  | .lck (.lck (.lst ds)), _, ⟨vs, h1, h2⟩ => rd_some h1
  | .lck .dead, _, h => h.elim
  | .lck (.ins _ _), _, h => h.elim
  | .lck (.lck .dead), _, h => h.elim
  | .lck (.lck (.ins _ _)), _, h => h.elim
  | .lck (.lck (.dct _)), _, h => h.elim
  | .lck (.lck (.dctT _)), _, h => h.elim
  | .lck (.lck (.lck _)), _, h => h.elim
/-- the place of a living thing is known -/
theorem Ok.held {g : Gx} {c : Ct} (ok : Ok g c) {r : Nat} (h : c.live r) : ∃ o, c.H (c.ι r) = some o := by
  obtain ⟨o, e, n⟩ := h
  exact RepO.some n (ok.at_ r o e)
theorem rd_ext {H : Hp} {p a : Addr} {u o : HO} (hn : H p = none) (h : Rd H a u) : Rd (upd H p o) a u ∧ p ≠ a := by
  have hne : a ≠ p := by
    obtain ⟨x, e⟩ := rd_some h
    exact ne_of_none e hn
  refine ⟨?_, hne.symm⟩
  rcases h with h | ⟨x, h⟩
  · exact .inl (by rw [upd_ne hne]; exact h)
  · exact .inr ⟨x, by rw [upd_ne hne]; exact h⟩
theorem tabs_new {T : List (Addr × Str)} {H : Hp} {p : Addr} {o : HO} (hn : H p = none) (t : LamX.Tabs T H) : LamX.Tabs T (upd H p o) :=
  t.ext fun b u e => by rw [upd_ne (ne_of_none e hn)]; exact e
theorem sur_upd {H : Hp} {p : Addr} {u : HO} (hu : nT u) (a : Addr) (o : HO) (h : H a = some o) (t : nT o) : ∃ o', upd H p u a = some o' ∧ nT o' := by
  by_cases z : a = p
  · subst z; exact ⟨u, upd_same, hu⟩
  · exact ⟨o, by rw [upd_ne z]; exact h, t⟩
theorem rd_upd {H : Hp} {p a : Addr} {u o : HO} (hne : a ≠ p) (h : Rd H a u) : Rd (upd H p o) a u := by
  rcases h with h | ⟨x, h⟩
  · exact .inl (by rw [upd_ne hne]; exact h)
  · exact .inr ⟨x, by rw [upd_ne hne]; exact h⟩
/-- a new thing that nobody owns -/
theorem Le.new {c : Ct} {p : Addr} {o : HO} (hn : c.H p = none) (hnt : nT o := by intro _ z; cases z) : Le c { c with H := upd c.H p o } :=
  ⟨⟨Nat.le_refl _, fun _ _ h => ⟨h, rfl⟩, sur_upd hnt, fun _ _ h _ _ => h, fun a u _ f r => by show upd c.H p o a = _; rw [upd_ne (ne_of_none r hn)]; exact r, fun a u _ f r => (rd_ext hn r).1⟩, fun _ _ h => h⟩
theorem Ok.new {g : Gx} {c : Ct} (ok : Ok g c) {p : Addr} {o : HO} (hn : c.H p = none) (hnt : nT o := by intro _ z; cases z) : Ok g { c with H := upd c.H p o } where
  inj := ok.inj
  at_ := fun r x e => by
    by_cases hd : x = Ob.dead
    · subst hd; trivial
    · refine RepO.mono (Le.new hn hnt) ?_ (ok.at_ r x e)
      obtain ⟨y, hy⟩ := ok.held ⟨x, e, hd⟩
      exact upd_ne (ne_of_none hy hn)
  rsv := ok.rsv
  tabs := tabs_new hn ok.tabs
  rsh := fun q hq => by
    obtain ⟨x, e, nt⟩ := ok.rsh q hq
    exact ⟨x, by show upd c.H p o q = _; rw [upd_ne (ne_of_none e hn)]; exact e, nt⟩
theorem rd_no {H : Hp} {p : Addr} (h : H p = none) (u : HO) : ¬ Rd H p u := fun r => by
  obtain ⟨o, e⟩ := rd_some r
  rw [h] at e; cases e
/-- a new thing laid under reserve -/
theorem Le.newR {c : Ct} {p : Addr} {o : HO} (hn : c.H p = none) (hnt : nT o := by intro _ z; cases z) : Le c { c with H := upd c.H p o, rs := p :: c.rs } :=
  ⟨⟨Nat.le_refl _, fun _ _ h => ⟨h, rfl⟩, sur_upd hnt, fun a x f r _ => ⟨by
    intro hm
    rcases List.mem_cons.mp hm with e | e
    · rw [e, hn] at r; cases r
    · exact f.1 e, f.2⟩, fun a u _ f r => by show upd c.H p o a = _; rw [upd_ne (ne_of_none r hn)]; exact r, fun a u _ f r => (rd_ext hn r).1⟩, fun _ _ h => h⟩
theorem Ok.newR {g : Gx} {c : Ct} (ok : Ok g c) {p : Addr} {o : HO} (hn : c.H p = none) (hnt : ∀ ps, o ≠ .tbl ps := by intro _ z; cases z) : Ok g { c with H := upd c.H p o, rs := p :: c.rs } where
  inj := ok.inj
  at_ := fun r x e => by
    by_cases hd : x = Ob.dead
    · subst hd; trivial
    · refine RepO.mono (Le.newR hn hnt) ?_ (ok.at_ r x e)
      obtain ⟨y, hy⟩ := ok.held ⟨x, e, hd⟩
      exact upd_ne (ne_of_none hy hn)
  rsv := fun r h hm => by
    rcases List.mem_cons.mp hm with e | e
    · obtain ⟨y, hy⟩ := ok.held h
      rw [e] at hy
      rw [hn] at hy; cases hy
    · exact ok.rsv r h e
  tabs := tabs_new hn ok.tabs
  rsh := fun q hq => by
    by_cases z : q = p
    · subst z; exact ⟨o, upd_same, hnt⟩
    · rcases List.mem_cons.mp hq with e | e
      · exact absurd e z
      · obtain ⟨x, e, nt⟩ := ok.rsh q e
        exact ⟨x, by show upd c.H p o q = _; rw [upd_ne z]; exact e, nt⟩
/-- what is under reserve changes -/
theorem Le.mutR {c : Ct} {p : Addr} {o : HO} (hm : p ∈ c.rs) (hnt : nT o := by intro _ z; cases z) : Le c { c with H := upd c.H p o } :=
  ⟨⟨Nat.le_refl _, fun _ _ h => ⟨h, rfl⟩, sur_upd hnt, fun _ _ h _ _ => h, fun a u t f r => by
    have hne : a ≠ p := fun e => f.1 (e ▸ hm)
    show upd c.H p o a = _
    rw [upd_ne hne]; exact r, fun a u t f r => rd_upd (fun e => f.1 (e ▸ hm)) r⟩, fun _ _ h => h⟩
theorem Ok.mutR {g : Gx} {c : Ct} (ok : Ok g c) {p : Addr} {o : HO} (hm : p ∈ c.rs) (ht : ∀ ps, c.H p ≠ some (.tbl ps)) (hc : ∀ q, c.H p ≠ some (LamX.CodeO p q)) (hnt : ∀ ps, o ≠ .tbl ps := by intro _ z; cases z) : Ok g { c with H := upd c.H p o } where
  inj := ok.inj
  at_ := fun r x e => by
    by_cases hd : x = Ob.dead
    · subst hd; trivial
    · refine RepO.mono (Le.mutR hm hnt) ?_ (ok.at_ r x e)
      have hne : c.ι r ≠ p := fun z => ok.rsv r ⟨x, e, hd⟩ (z ▸ hm)
      exact upd_ne hne
  rsv := ok.rsv
  tabs := fun q hq => by
    obtain ⟨ps, h1, h2, h3⟩ := ok.tabs q hq
    have n1 : q.1 ≠ p := fun z => ht ps (z ▸ h1)
    refine ⟨ps, by show upd c.H p o q.1 = _; rw [upd_ne n1]; exact h1, h2, fun pos cv hcv => ?_⟩
    obtain ⟨b, e1, e2⟩ := h3 pos cv hcv
    refine ⟨b, e1, ?_⟩
    have n2 : b ≠ p := fun z => hc q.2 (by rw [← z]; exact e2)
    show upd c.H p o b = _
    rw [upd_ne n2]; exact e2
  rsh := fun q hq => by
    by_cases z : q = p
    · subst z; exact ⟨o, upd_same, hnt⟩
    · obtain ⟨x, e, nt⟩ := ok.rsh q hq
      exact ⟨x, by show upd c.H p o q = _; rw [upd_ne z]; exact e, nt⟩
/-- the reserve on p is given up -/
theorem Le.unR {c : Ct} {p : Addr} {l : List Addr} (hr : c.rs = p :: l) : Le c { c with rs := l } :=
  ⟨⟨Nat.le_refl _, fun _ _ h => ⟨h, rfl⟩, fun _ o h t => ⟨o, h, t⟩, fun a x f r _ => ⟨fun h => f.1 (by rw [hr]; exact List.mem_cons_of_mem _ h), f.2⟩, fun _ _ _ _ h => h, fun _ _ _ _ h => h⟩, fun _ _ h => h⟩
theorem Ok.unR {g : Gx} {c : Ct} (ok : Ok g c) {p : Addr} {l : List Addr} (hr : c.rs = p :: l) : Ok g { c with rs := l } where
  inj := ok.inj
  at_ := fun r x e => RepO.mono (Le.unR hr) rfl (ok.at_ r x e)
  rsv := fun r h hm => ok.rsv r h (by rw [hr]; exact List.mem_cons_of_mem _ hm)
  tabs := ok.tabs
  rsh := fun q hq => ok.rsh q (by rw [hr]; exact List.mem_cons_of_mem _ hq)
theorem live_lt {c : Ct} {r : Nat} (h : c.live r) : r < c.S.length := by
  obtain ⟨o, e, _⟩ := h
  exact (List.getElem?_eq_some_iff.mp e).1
def addI (c : Ct) (p : Addr) : Nat → Addr := fun r => if r = c.S.length then p else c.ι r
theorem addI_lt {c : Ct} {p : Addr} {r : Nat} (h : r < c.S.length) : addI c p r = c.ι r := if_neg (Nat.ne_of_lt h)
theorem addI_eq {c : Ct} {p : Addr} : addI c p c.S.length = p := if_pos rfl
/-- the state with one more object, at p, that was under reserve -/
def Ct.own (c : Ct) (p : Addr) (o : Ob) (l : List Addr) : Ct := { ι := addI c p, S := c.S ++ [o], H := c.H, rs := l }
theorem own_live {c : Ct} {p : Addr} {o : Ob} {l : List Addr} {r : Nat} (h : (c.own p o l).live r) : (c.live r ∧ r < c.S.length) ∨ r = c.S.length := by
  obtain ⟨x, e, n⟩ := h
  have hl := (List.getElem?_eq_some_iff.mp e).1
  have hl' : r < c.S.length + 1 := by simpa [Ct.own] using hl
  by_cases hr : r < c.S.length
  · refine .inl ⟨⟨x, ?_, n⟩, hr⟩
    have e' : (c.S ++ [o])[r]? = some x := e
    rw [List.getElem?_append_left hr] at e'
    exact e'
  · exact .inr (by omega)
theorem Le.own {c : Ct} {p : Addr} {l : List Addr} {o : Ob} (hr : c.rs = p :: l) : Le c (c.own p o l) where
  len := by simp [Ct.own]
  liv := fun r h hl => by
    rcases own_live hl with ⟨h1, _⟩ | h1
    · exact ⟨h1, addI_lt h⟩
    · omega
  sur := fun _ o h t => ⟨o, h, t⟩
  tre := fun _ _ _ _ h => h
  trd := fun _ _ _ _ h => h
  lkd := fun r x h => by
    show (c.S ++ [o])[r]? = _
    rw [List.getElem?_append_left (List.getElem?_eq_some_iff.mp h).1]; exact h
  fre := fun a x f r _ => by
    refine ⟨fun h => f.1 (by rw [hr]; exact List.mem_cons_of_mem _ h), fun k hk => ?_⟩
    show addI c p k ≠ a
    rcases own_live hk with ⟨h1, h2⟩ | h1
    · rw [addI_lt h2]; exact f.2 k h1
    · rw [h1, addI_eq]
      intro e
      exact f.1 (by rw [hr, ← e]; exact List.mem_cons_self)
theorem Ok.own {g : Gx} {c : Ct} (ok : Ok g c) {p : Addr} {l : List Addr} {o : Ob} (hr : c.rs = p :: l) (hp : p ∉ l) (ho : RepO g c o p) : Ok g (c.own p o l) where
  inj := fun r s h1 h2 e => by
    have e' : addI c p r = addI c p s := e
    rcases own_live h1 with ⟨a1, b1⟩ | a1
    · rcases own_live h2 with ⟨a2, b2⟩ | a2
      · rw [addI_lt b1, addI_lt b2] at e'; exact ok.inj r s a1 a2 e'
      · rw [addI_lt b1, a2, addI_eq] at e'
        exact absurd (by rw [hr, e']; exact List.mem_cons_self) (ok.rsv r a1)
    · rcases own_live h2 with ⟨a2, b2⟩ | a2
      · rw [addI_lt b2, a1, addI_eq] at e'
        exact absurd (by rw [hr, ← e']; exact List.mem_cons_self) (ok.rsv s a2)
      · omega
  at_ := fun r x e => by
    have e' : (c.S ++ [o])[r]? = some x := e
    show RepO g (c.own p o l) x (addI c p r)
    by_cases hl : r < c.S.length
    · rw [List.getElem?_append_left hl] at e'
      rw [addI_lt hl]
      exact RepO.mono (Le.own hr) rfl (ok.at_ r x e')
    · have hr2 : r < c.S.length + 1 := by
        have := (List.getElem?_eq_some_iff.mp e').1
        simpa using this
      have e2 : r = c.S.length := by omega
      subst e2
      rw [List.getElem?_append_right (Nat.le_refl _), Nat.sub_self] at e'
      have e3 : o = x := by simpa using e'
      subst e3
      rw [addI_eq]
      exact RepO.mono (Le.own hr) rfl ho
  rsv := fun r h hm => by
    have hm' : addI c p r ∈ l := hm
    rcases own_live h with ⟨a1, b1⟩ | a1
    · rw [addI_lt b1] at hm'
      exact ok.rsv r a1 (by rw [hr]; exact List.mem_cons_of_mem _ hm')
    · rw [a1, addI_eq] at hm'; exact hp hm'
  tabs := ok.tabs
  rsh := fun q hq => ok.rsh q (by rw [hr]; exact List.mem_cons_of_mem _ hq)
/-- an object's content changes -/
def Ct.put (c : Ct) (r : Nat) (o : Ob) (u : HO) : Ct := { ι := c.ι, S := c.S.set r o, H := upd c.H (c.ι r) u, rs := c.rs }
theorem put_live {c : Ct} {r : Nat} {o : Ob} {u : HO} {k : Nat} (hl : c.live r) (h : (c.put r o u).live k) : c.live k := by
  obtain ⟨x, e, n⟩ := h
  have e' : (c.S.set r o)[k]? = some x := e
  by_cases hk : r = k
  · exact hk ▸ hl
  · rw [List.getElem?_set_ne hk] at e'
    exact ⟨x, e', n⟩
theorem Le.put {c : Ct} {r : Nat} {o : Ob} {u : HO} (hl : c.live r) (hk : ∀ x, c.S[r]? ≠ some (.lck x)) (hnt : nT u := by intro _ z; cases z) : Le c (c.put r o u) where
  len := by simp [Ct.put]
  liv := fun k _ h => ⟨put_live hl h, rfl⟩
  sur := sur_upd hnt
  fre := fun a x f _ _ => ⟨f.1, fun k hk => f.2 k (put_live hl hk)⟩
  tre := fun a w t f rd => by
    have hne : a ≠ c.ι r := fun e => f.2 r hl e.symm
    show upd c.H (c.ι r) u a = _
    rw [upd_ne hne]; exact rd
  trd := fun a w t f rd => rd_upd (fun e => f.2 r hl e.symm) rd
  lkd := fun k x h => by
    show (c.S.set r o)[k]? = _
    by_cases z : r = k
    · subst z; exact absurd h (hk x)
    · rw [List.getElem?_set_ne z]; exact h
theorem Ok.put {g : Gx} {c : Ct} (ok : Ok g c) {r : Nat} {o : Ob} {u x : HO} (hl : c.live r) (hk : ∀ y, c.S[r]? ≠ some (.lck y)) (hx : c.H (c.ι r) = some x) (ht : ∀ ps, x ≠ .tbl ps) (hc : ∀ q, x ≠ LamX.CodeO (c.ι r) q) (ho : RepO g (c.put r o u) o (c.ι r)) (hnt : ∀ ps, u ≠ .tbl ps := by intro _ z; cases z) : Ok g (c.put r o u) where
  inj := fun a b h1 h2 e => ok.inj a b (put_live hl h1) (put_live hl h2) e
  at_ := fun k y e => by
    have e' : (c.S.set r o)[k]? = some y := e
    show RepO g (c.put r o u) y (c.ι k)
    by_cases hkk : r = k
    · subst hkk
      have hlt := live_lt hl
      rw [List.getElem?_set_self hlt] at e'
      cases e'
      exact ho
    · rw [List.getElem?_set_ne hkk] at e'
      by_cases hd : y = Ob.dead
      · subst hd; trivial
      · refine RepO.mono (Le.put hl hk hnt) ?_ (ok.at_ k y e')
        have hne : c.ι k ≠ c.ι r := fun z => hkk (ok.inj r k hl ⟨y, e', hd⟩ z.symm)
        exact upd_ne hne
  rsv := fun k h => ok.rsv k (put_live hl h)
  tabs := fun q hq => by
    obtain ⟨ps, h1, h2, h3⟩ := ok.tabs q hq
    have n1 : q.1 ≠ c.ι r := fun z => ht ps (Option.some.inj (hx.symm.trans (z ▸ h1)))
    refine ⟨ps, by show upd c.H (c.ι r) u q.1 = _; rw [upd_ne n1]; exact h1, h2, fun pos cv hcv => ?_⟩
    obtain ⟨b, e1, e2⟩ := h3 pos cv hcv
    refine ⟨b, e1, ?_⟩
    have n2 : b ≠ c.ι r := fun z => hc q.2 (Option.some.inj (hx.symm.trans (by rw [← z]; exact e2)))
    show upd c.H (c.ι r) u b = _
    rw [upd_ne n2]; exact e2
  rsh := fun q hq => by
    by_cases z : q = c.ι r
    · exact absurd hq (z ▸ ok.rsv r hl)
    · obtain ⟨x, e, nt⟩ := ok.rsh q hq
      exact ⟨x, by show upd c.H (c.ι r) u q = _; rw [upd_ne z]; exact e, nt⟩
theorem Ok.notR {g : Gx} {c : Ct} (ok : Ok g c) {p : Addr} (hn : c.H p = none) : p ∉ c.rs := fun h => by
  obtain ⟨x, e, nt⟩ := ok.rsh p h
  rw [hn] at e; cases e
/-- the reserve is the same, and what stands there -/
structure RsE (c' c : Ct) : Prop where
  eq : c'.rs = c.rs
  kp : ∀ a, a ∈ c.rs → c'.H a = c.H a
theorem RsE.refl (c : Ct) : RsE c c := ⟨rfl, fun _ _ => rfl⟩
theorem RsE.trans {a b c : Ct} (x : RsE a b) (y : RsE b c) : RsE a c := ⟨x.eq.trans y.eq, fun p h => (x.kp p (by rw [y.eq]; exact h)).trans (y.kp p h)⟩
theorem RsE.new {g : Gx} {c : Ct} (ok : Ok g c) {p : Addr} {o : HO} (hn : c.H p = none) : RsE { c with H := upd c.H p o } c := ⟨rfl, fun a h => by
  obtain ⟨x, e, nt⟩ := ok.rsh a h
  show upd c.H p o a = _
  rw [upd_ne (ne_of_none e hn)]⟩
theorem RsE.put {g : Gx} {c : Ct} (ok : Ok g c) {r : Nat} {o : Ob} {u : HO} (hl : c.live r) : RsE (c.put r o u) c := ⟨rfl, fun a h => by
  have hne : a ≠ c.ι r := fun e => ok.rsv r hl (e ▸ h)
  show upd c.H (c.ι r) u a = _
  rw [upd_ne hne]⟩
/-- later than c, and then the new thing at p, unknown to c, changes -/
theorem Le.mutAfter {c c1 : Ct} {p : Addr} {o : HO} (l : Le c c1) (hn : c.H p = none) (hnt : nT o := by intro _ z; cases z) : Le c { c1 with H := upd c1.H p o } where
  len := l.len
  liv := l.liv
  sur := fun a x h t => by
    obtain ⟨y, e, ty⟩ := l.sur a x h t
    exact sur_upd hnt a y e ty
  fre := l.fre
  tre := fun a u t f h => by
    show upd c1.H p o a = _
    rw [upd_ne (ne_of_none h hn)]; exact l.tre a u t f h
  trd := fun a u t f h => by
    obtain ⟨x, e⟩ := rd_some h
    exact rd_upd (ne_of_none e hn) (l.trd a u t f h)
  lkd := l.lkd
end Sm
end

section
set_option Elab.async false
set_option linter.all false
set_option autoImplicit false
set_option maxRecDepth 100000
set_option maxHeartbeats 4000000
namespace Sm
open PySem L2
/-! ### judgements -/
def EnvR (c : Ct) (e : Env) (σ : L2.St) : Prop := e.length = σ.length ∧ ∀ (i : Nat) (d : D), e[i]? = some (some d) → ∃ v, σ[i]? = some (some v) ∧ Rep c d v
theorem EnvR.mono {c c' : Ct} (l : Le c c') {e : Env} {σ : L2.St} (h : EnvR c e σ) : EnvR c' e σ := ⟨h.1, fun i d q => by
  obtain ⟨v, a, b⟩ := h.2 i d q
  exact ⟨v, a, Rep.mono l _ _ b⟩⟩
/-- what is wanted behind an outcome: R of a value and the store, E of an error -/
def PostG {α : Type} (g : Gx) (c : Ct) (E : XK) (R : α → Store → Prop) : Out α → Prop
  | .ok a S => R a S
  | .exc k S => ∀ c', Ok g c' → Le c c' → RsE c' c → c'.S = S → E (.ref (g.ex k)) none c'.H
  | .bad => False
theorem PostG.later {α : Type} {g : Gx} {c c1 : Ct} {E : XK} {R : α → Store → Prop} (l : Le c c1) (hr : RsE c1 c) : ∀ {o : Out α}, PostG g c E R o → PostG g c1 E R o
  | .ok a S, h => h
  | .exc k S, h => fun c' ok' l' r' s' => h c' ok' (l.trans l') (r'.trans hr) s'
  | .bad, h => h
/-- the wish of a value -/
def WE (g : Gx) (c : Ct) (Q : VK) (d : D) (S : Store) : Prop := ∀ c' v, Ok g c' → Le c c' → RsE c' c → c'.S = S → Rep c' d v → Q v c'.H
def WB (g : Gx) (c : Ct) (Q : Bool → Hp → Prop) (b : Bool) (S : Store) : Prop := ∀ c', Ok g c' → Le c c' → RsE c' c → c'.S = S → Q b c'.H
def WA (g : Gx) (c : Ct) (Q : List V → Hp → Prop) (ds : List D) (S : Store) : Prop := ∀ c' vs, Ok g c' → Le c c' → RsE c' c → c'.S = S → RepL c' ds vs → Q vs c'.H
def SE (g : Gx) (E : XK) (t : TE) (m : ME) : Prop := ∀ c σ e Q, Ok g c → EnvR c e σ → PostG g c E (WE g c Q) (m e c.S) → t σ c.H Q
def SB (g : Gx) (E : XK) (t : TT) (m : MB) : Prop := ∀ c σ e Q, Ok g c → EnvR c e σ → PostG g c E (WB g c Q) (m e c.S) → t σ c.H Q
def SA (g : Gx) (E : XK) (t : TA) (m : MA) : Prop := ∀ c σ e Q, Ok g c → EnvR c e σ → PostG g c E (WA g c Q) (m e c.S) → t σ c.H Q
section
variable {g : Gx} {E : XK} {c : Ct} {σ : L2.St} {e : Env} {β : Type} {R : β → Store → Prop}
theorem bindE {t : TE} {m : ME} {Q : VK} {f : D → Store → Out β} (h : SE g E t m) (ok : Ok g c) (er : EnvR c e σ) (hp : PostG g c E R ((m e c.S).bind f))
    (k : ∀ c1 d v, Ok g c1 → Le c c1 → RsE c1 c → Rep c1 d v → PostG g c1 E R (f d c1.S) → Q v c1.H) : t σ c.H Q := by
  refine h c σ e Q ok er ?_
  cases q : m e c.S with
  | bad => rw [q] at hp; exact hp
  | exc j S => rw [q] at hp; exact hp
  | ok d S =>
    rw [q] at hp
    intro c1 v ok1 l1 r1 s1 rp
    exact k c1 d v ok1 l1 r1 rp (by rw [s1]; exact PostG.later l1 r1 hp)
theorem bindB {t : TT} {m : MB} {Q : Bool → Hp → Prop} {f : Bool → Store → Out β} (h : SB g E t m) (ok : Ok g c) (er : EnvR c e σ) (hp : PostG g c E R ((m e c.S).bind f))
    (k : ∀ c1 d, Ok g c1 → Le c c1 → RsE c1 c → PostG g c1 E R (f d c1.S) → Q d c1.H) : t σ c.H Q := by
  refine h c σ e Q ok er ?_
  cases q : m e c.S with
  | bad => rw [q] at hp; exact hp
  | exc j S => rw [q] at hp; exact hp
  | ok d S =>
    rw [q] at hp
    intro c1 ok1 l1 r1 s1
    exact k c1 d ok1 l1 r1 (by rw [s1]; exact PostG.later l1 r1 hp)
theorem bindA {t : TA} {m : MA} {Q : List V → Hp → Prop} {f : List D → Store → Out β} (h : SA g E t m) (ok : Ok g c) (er : EnvR c e σ) (hp : PostG g c E R ((m e c.S).bind f))
    (k : ∀ c1 ds vs, Ok g c1 → Le c c1 → RsE c1 c → RepL c1 ds vs → PostG g c1 E R (f ds c1.S) → Q vs c1.H) : t σ c.H Q := by
  refine h c σ e Q ok er ?_
  cases q : m e c.S with
  | bad => rw [q] at hp; exact hp
  | exc j S => rw [q] at hp; exact hp
  | ok d S =>
    rw [q] at hp
    intro c1 v ok1 l1 r1 s1 rp
    exact k c1 d v ok1 l1 r1 rp (by rw [s1]; exact PostG.later l1 r1 hp)
end
/-- the wish of a value, from a later state -/
theorem WE.later {g : Gx} {c c1 : Ct} {Q : VK} {d : D} {S : Store} (l : Le c c1) (r : RsE c1 c) (h : WE g c Q d S) : WE g c1 Q d S :=
  fun c' v ok' l' r' s' => h c' v ok' (l.trans l') (r'.trans r) s'
theorem WE.here {g : Gx} {c : Ct} {Q : VK} {d : D} {v : V} (ok : Ok g c) (r : Rep c d v) (h : WE g c Q d c.S) : Q v c.H := h c v ok (Le.refl c) (RsE.refl c) rfl r

/-! ### forms of values -/
theorem rep_int {c : Ct} {i : Int} {v : V} : Rep c (.int i) v ↔ v = .int i := by unfold Rep; exact Iff.rfl
theorem rep_bl {c : Ct} {i : Bool} {v : V} : Rep c (.bl i) v ↔ v = .bl i := by unfold Rep; exact Iff.rfl
theorem rep_non {c : Ct} {v : V} : Rep c .non v ↔ v = .non := by unfold Rep; exact Iff.rfl
theorem rep_str {c : Ct} {t : Tx} {v : V} : Rep c (.str t) v ↔ v = .str (sS t) := by unfold Rep; exact Iff.rfl
theorem rep_lst {c : Ct} {ds : List D} {v : V} : Rep c (.lst ds) v ↔ ∃ a vs, v = .ref a ∧ c.free a ∧ c.H a = some (.lst vs) ∧ RepL c ds vs := by conv => lhs; unfold Rep
theorem rep_tup {c : Ct} {ds : List D} {v : V} : Rep c (.tup ds) v ↔ ∃ a vs, v = .ref a ∧ c.free a ∧ c.H a = some (.tup vs) ∧ RepL c ds vs := by conv => lhs; unfold Rep
theorem rep_dct {c : Ct} {ds : List (K1 × D)} {v : V} : Rep c (.dct ds) v ↔ ∃ a us, v = .ref a ∧ c.free a ∧ Rd c.H a (.dK us) ∧ RepK c ds us := by conv => lhs; unfold Rep
theorem rep_obj {c : Ct} {r : Nat} {v : V} : Rep c (.obj r) v ↔ r < c.S.length ∧ (c.live r → v = .ref (c.ι r)) := by conv => lhs; unfold Rep
theorem repL_nil {c : Ct} {vs : List V} : RepL c [] vs ↔ vs = [] := by unfold RepL; exact Iff.rfl
theorem repL_cons {c : Ct} {d : D} {ds : List D} {vs : List V} : RepL c (d :: ds) vs ↔ ∃ v r, vs = v :: r ∧ Rep c d v ∧ RepL c ds r := by conv => lhs; unfold RepL
theorem repL_len {c : Ct} : ∀ {ds : List D} {vs : List V}, RepL c ds vs → vs.length = ds.length
  | [], vs, h => by rw [repL_nil] at h; subst h; rfl
  | d :: ds, vs, h => by
    obtain ⟨v, r, rfl, _, h2⟩ := repL_cons.mp h
    rw [List.length_cons, List.length_cons, repL_len h2]
theorem repL_get {c : Ct} : ∀ {ds : List D} {vs : List V} {i : Nat} {d : D}, RepL c ds vs → ds[i]? = some d → ∃ v, vs[i]? = some v ∧ Rep c d v
  | [], _, _, _, _, e => by simp at e
  | d :: ds, vs, 0, d', h, e => by
    obtain ⟨v, r, rfl, h1, _⟩ := repL_cons.mp h
    have e' : d = d' := by simpa using e
    subst e'
    exact ⟨v, by simp, h1⟩
  | d :: ds, vs, i + 1, d', h, e => by
    obtain ⟨v, r, rfl, _, h2⟩ := repL_cons.mp h
    obtain ⟨w, a, b⟩ := repL_get (i := i) h2 (by simpa using e)
    exact ⟨w, by simpa using a, b⟩
theorem repL_app {c : Ct} : ∀ {ds es : List D} {vs ws : List V}, RepL c ds vs → RepL c es ws → RepL c (ds ++ es) (vs ++ ws)
  | [], es, vs, ws, h, h' => by rw [repL_nil] at h; subst h; exact h'
  | d :: ds, es, vs, ws, h, h' => by
    obtain ⟨v, r, rfl, h1, h2⟩ := repL_cons.mp h
    exact repL_cons.mpr ⟨v, r ++ ws, rfl, h1, repL_app h2 h'⟩
theorem repL_one {c : Ct} {d : D} {v : V} (h : Rep c d v) : RepL c [d] [v] := repL_cons.mpr ⟨v, [], rfl, h, repL_nil.mpr rfl⟩
theorem repL_take {c : Ct} : ∀ {ds : List D} {vs : List V} (n : Nat), RepL c ds vs → RepL c (ds.take n) (vs.take n)
  | ds, vs, 0, _ => by simp only [List.take_zero]; exact repL_nil.mpr rfl
  | [], vs, n + 1, h => by rw [repL_nil] at h; subst h; exact repL_nil.mpr rfl
  | d :: ds, vs, n + 1, h => by
    obtain ⟨v, r, rfl, h1, h2⟩ := repL_cons.mp h
    exact repL_cons.mpr ⟨v, r.take n, rfl, h1, repL_take n h2⟩
theorem repL_drop {c : Ct} : ∀ {ds : List D} {vs : List V} (n : Nat), RepL c ds vs → RepL c (ds.drop n) (vs.drop n)
  | ds, vs, 0, h => h
  | [], vs, n + 1, h => by rw [repL_nil] at h; subst h; exact repL_nil.mpr rfl
  | d :: ds, vs, n + 1, h => by
    obtain ⟨v, r, rfl, h1, h2⟩ := repL_cons.mp h
    exact repL_drop n h2
theorem repL_set {c : Ct} {d : D} {v : V} (hd : Rep c d v) : ∀ {ds : List D} {vs : List V} (n : Nat), RepL c ds vs → RepL c (ds.set n d) (vs.set n v)
  | [], vs, n, h => by rw [repL_nil] at h; subst h; exact repL_nil.mpr rfl
  | x :: ds, vs, 0, h => by
    obtain ⟨w, r, rfl, h1, h2⟩ := repL_cons.mp h
    exact repL_cons.mpr ⟨v, r, rfl, hd, h2⟩
  | x :: ds, vs, n + 1, h => by
    obtain ⟨w, r, rfl, h1, h2⟩ := repL_cons.mp h
    exact repL_cons.mpr ⟨w, r.set n v, rfl, h1, repL_set hd n h2⟩
/-- a value seen as a list that may be read -/
theorem view_tree {S : Store} {d : D} (h : ∀ r, d ≠ .obj r) : view S d = d := by
  cases d <;> first | rfl | exact absurd rfl (h _)
theorem live_of {c : Ct} {r : Nat} {o : Ob} (e : c.S[r]? = some o) (n : o ≠ .dead) : c.live r := ⟨o, e, n⟩
theorem val_lst {o : Ob} {ds : List D} (h : o.val = some (.lst ds)) : o ≠ .dead := by intro e; subst e; cases h
theorem repO_lst {g : Gx} {c : Ct} {a : Addr} : ∀ {o : Ob} {ds : List D}, o.val = some (.lst ds) → RepO g c o a → ∃ vs, Rd c.H a (.lst vs) ∧ RepL c ds vs
  | .lst xs, ds, h, q => by cases h; obtain ⟨vs, a, b⟩ := q; exact ⟨vs, .inl a, b⟩
  | .lck (.lst xs), ds, h, q => by cases h; obtain ⟨vs, a, b⟩ := q; exact ⟨vs, .inl a, b⟩
  | .lck (.lck (.lst xs)), ds, h, q => by cases h; exact q
  | .dead, _, h, _ => by cases h
  | .dct _, _, h, _ => by cases h
  | .dctT _, _, h, _ => by cases h
  | .ins _ _, _, h, _ => by cases h
  | .lck .dead, _, h, _ => by cases h
  | .lck (.dct _), _, h, _ => by cases h
  | .lck (.dctT _), _, h, _ => by cases h
  | .lck (.ins _ _), _, h, _ => by cases h
  | .lck (.lck .dead), _, _, q => q.elim
  | .lck (.lck (.ins _ _)), _, _, q => q.elim
  | .lck (.lck (.dct _)), _, _, q => q.elim
  | .lck (.lck (.dctT _)), _, _, q => q.elim
  | .lck (.lck (.lck _)), _, _, q => q.elim
theorem repO_dct {g : Gx} {c : Ct} {a : Addr} : ∀ {o : Ob} {ds : List (K1 × D)}, o.val = some (.dct ds) → RepO g c o a → ∃ us, Rd c.H a (.dK us) ∧ RepK c ds us
  | .dct xs, ds, h, q => by cases h; obtain ⟨us, a, b⟩ := q; exact ⟨us, .inl a, b⟩
  | .lck (.dct xs), ds, h, q => by cases h; obtain ⟨ob, us, a, b⟩ := q; exact ⟨us, .inr ⟨ob, a⟩, b⟩
  | .dead, _, h, _ => by cases h
  | .lst _, _, h, _ => by cases h
  | .dctT _, _, h, _ => by cases h
  | .ins _ _, _, h, _ => by cases h
  | .lck .dead, _, h, _ => by cases h
  | .lck (.lst _), _, h, _ => by cases h
  | .lck (.dctT _), _, h, _ => by cases h
  | .lck (.ins _ _), _, h, _ => by cases h
  | .lck (.lck .dead), _, _, q => q.elim
  | .lck (.lck (.ins _ _)), _, _, q => q.elim
  | .lck (.lck (.dct _)), _, _, q => q.elim
  | .lck (.lck (.dctT _)), _, _, q => q.elim
  | .lck (.lck (.lst _)), _, h, _ => by cases h
  | .lck (.lck (.lck _)), _, _, q => q.elim
/-- view of an object -/
theorem view_obj {S : Store} {r : Nat} {d : D} (h : view S (.obj r) = d) (n : d ≠ .obj r) : ∃ o, S[r]? = some o ∧ o.val = some d := by
  unfold view at h
  dsimp only at h
  cases e : S[r]? with
  | none => simp only [e] at h; exact absurd h.symm n
  | some o =>
    cases q : o.val with
    | none => simp only [e, q] at h; exact absurd h.symm n
    | some d' => simp only [e, q] at h; exact ⟨o, rfl, by rw [← h]; exact q⟩
theorem val_dead {o : Ob} {d : D} (h : o.val = some d) : o ≠ .dead := by intro e; subst e; cases h
theorem val_obj {r : Nat} : ∀ {o : Ob}, o.val ≠ some (.obj r)
  | .lst _, h => by cases h
  | .dct _, h => by cases h
  | .dctT _, h => by cases h
  | .ins _ _, h => by cases h
  | .dead, h => by cases h
  | .lck o, h => val_obj (o := o) h
theorem see_lst {g : Gx} {c : Ct} (ok : Ok g c) {x : D} {v : V} {ds : List D} (h : Rep c x v) (e : view c.S x = .lst ds) : ∃ a vs, v = .ref a ∧ Rd c.H a (.lst vs) ∧ RepL c ds vs := by
  cases x with
  | lst xs =>
    have e' : D.lst xs = D.lst ds := e
    cases e'
    obtain ⟨a, vs, h1, _, h2, h3⟩ := rep_lst.mp h
    exact ⟨a, vs, h1, .inl h2, h3⟩
  | obj r =>
    obtain ⟨o, e1, e2⟩ := view_obj e (by intro z; cases z)
    obtain ⟨_, h2⟩ := rep_obj.mp h
    obtain ⟨vs, h3, h4⟩ := repO_lst e2 (ok.at_ r o e1)
    exact ⟨c.ι r, vs, h2 (live_of e1 (val_dead e2)), h3, h4⟩
  | non => cases e
  | bl b => cases e
  | int i => cases e
  | str t => cases e
  | tup t => cases e
  | dct t => cases e
  | dctT t => cases e
theorem see_tup {g : Gx} {c : Ct} (ok : Ok g c) {x : D} {v : V} {ds : List D} (h : Rep c x v) (e : view c.S x = .tup ds) : ∃ a vs, v = .ref a ∧ c.H a = some (.tup vs) ∧ RepL c ds vs := by
  cases x with
  | tup xs =>
    have e' : D.tup xs = D.tup ds := e
    cases e'
    obtain ⟨a, vs, h1, _, h2, h3⟩ := rep_tup.mp h
    exact ⟨a, vs, h1, h2, h3⟩
  | obj r =>
    obtain ⟨o, e1, e2⟩ := view_obj e (by intro z; cases z)
    cases o with
    | lck o => 
      have : ∀ o : Ob, o.val ≠ some (.tup ds) := by
        intro o
        induction o with
        | lck o ih => exact ih
        | _ => intro z; cases z
      exact absurd e2 (this (.lck o))
    | _ => cases e2
  | non => cases e
  | bl b => cases e
  | int i => cases e
  | str t => cases e
  | lst t => cases e
  | dct t => cases e
  | dctT t => cases e
theorem see_dct {g : Gx} {c : Ct} (ok : Ok g c) {x : D} {v : V} {ds : List (K1 × D)} (h : Rep c x v) (e : view c.S x = .dct ds) : ∃ a us, v = .ref a ∧ Rd c.H a (.dK us) ∧ RepK c ds us := by
  cases x with
  | dct xs =>
    have e' : D.dct xs = D.dct ds := e
    cases e'
    obtain ⟨a, vs, h1, _, h2, h3⟩ := rep_dct.mp h
    exact ⟨a, vs, h1, h2, h3⟩
  | obj r =>
    obtain ⟨o, e1, e2⟩ := view_obj e (by intro z; cases z)
    obtain ⟨_, h2⟩ := rep_obj.mp h
    obtain ⟨vs, h3, h4⟩ := repO_dct e2 (ok.at_ r o e1)
    exact ⟨c.ι r, vs, h2 (live_of e1 (val_dead e2)), h3, h4⟩
  | non => cases e
  | bl b => cases e
  | int i => cases e
  | str t => cases e
  | lst t => cases e
  | tup t => cases e
  | dctT t => cases e
theorem view_int {S : Store} {x : D} {i : Int} (e : view S x = .int i) : x = .int i := by
  cases x with
  | obj r =>
    obtain ⟨o, e1, e2⟩ := view_obj e (by intro z; cases z)
    have : ∀ o : Ob, o.val ≠ some (.int i) := by
      intro o
      induction o with
      | lck o ih => exact ih
      | _ => intro z; cases z
    exact absurd e2 (this o)
  | _ => exact e
theorem view_str {S : Store} {x : D} {i : Tx} (e : view S x = .str i) : x = .str i := by
  cases x with
  | obj r =>
    obtain ⟨o, e1, e2⟩ := view_obj e (by intro z; cases z)
    have : ∀ o : Ob, o.val ≠ some (.str i) := by
      intro o
      induction o with
      | lck o ih => exact ih
      | _ => intro z; cases z
    exact absurd e2 (this o)
  | _ => exact e
theorem view_non {S : Store} {x : D} (e : view S x = .non) : x = .non := by
  cases x with
  | obj r =>
    obtain ⟨o, e1, e2⟩ := view_obj e (by intro z; cases z)
    have : ∀ o : Ob, o.val ≠ some .non := by
      intro o
      induction o with
      | lck o ih => exact ih
      | _ => intro z; cases z
    exact absurd e2 (this o)
  | _ => exact e
theorem view_bl {S : Store} {x : D} {b : Bool} (e : view S x = .bl b) : x = .bl b := by
  cases x with
  | obj r =>
    obtain ⟨o, e1, e2⟩ := view_obj e (by intro z; cases z)
    have : ∀ o : Ob, o.val ≠ some (.bl b) := by
      intro o
      induction o with
      | lck o ih => exact ih
      | _ => intro z; cases z
    exact absurd e2 (this o)
  | _ => exact e
theorem viewM_obj {S : Store} {r : Nat} {d : D} (h : viewM S (.obj r) = d) (n : d ≠ .obj r) : ∃ ds, S[r]? = some (.lst ds) ∧ d = .lst ds := by
  unfold viewM at h
  dsimp only at h
  cases e : S[r]? with
  | none => simp only [e] at h; exact absurd h.symm n
  | some o =>
    cases o with
    | lst xs => simp only [e] at h; exact ⟨xs, rfl, h.symm⟩
    | _ => simp only [e] at h; exact absurd h.symm n
theorem viewM_int {S : Store} {x : D} {i : Int} (e : viewM S x = .int i) : x = .int i := by
  cases x with
  | obj r =>
    obtain ⟨o, e1, e2⟩ := viewM_obj e (by intro z; cases z)
    cases e2
  | _ => exact e
theorem viewM_str {S : Store} {x : D} {i : Tx} (e : viewM S x = .str i) : x = .str i := by
  cases x with
  | obj r =>
    obtain ⟨o, e1, e2⟩ := viewM_obj e (by intro z; cases z)
    cases e2
  | _ => exact e
theorem viewM_tup {S : Store} {x : D} {i : List D} (e : viewM S x = .tup i) : x = .tup i := by
  cases x with
  | obj r =>
    obtain ⟨o, e1, e2⟩ := viewM_obj e (by intro z; cases z)
    cases e2
  | _ => exact e
theorem see_mut {g : Gx} {c : Ct} (ok : Ok g c) {x : D} {v : V} {ds : List D} (h : Rep c x v) (e : viewM c.S x = .lst ds) : ∃ a vs, v = .ref a ∧ c.H a = some (.lst vs) ∧ RepL c ds vs := by
  cases x with
  | lst xs =>
    have e' : D.lst xs = D.lst ds := e
    cases e'
    obtain ⟨a, vs, h1, _, h2, h3⟩ := rep_lst.mp h
    exact ⟨a, vs, h1, h2, h3⟩
  | obj r =>
    obtain ⟨o, e1, e2⟩ := viewM_obj e (by intro z; cases z)
    cases e2
    obtain ⟨_, h2⟩ := rep_obj.mp h
    obtain ⟨vs, h3, h4⟩ := ok.at_ r _ e1
    exact ⟨c.ι r, vs, h2 (live_of e1 (by intro z; cases z)), h3, h4⟩
  | _ => cases e
/-- a new list, tuple -/
theorem rep_newL {g : Gx} {c : Ct} (ok : Ok g c) {p : Addr} {ds : List D} {vs : List V} (hn : c.H p = none) (r : RepL c ds vs) : Rep { c with H := upd c.H p (.lst vs) } (.lst ds) (.ref p) :=
  rep_lst.mpr ⟨p, vs, rfl, ⟨ok.notR hn, fun k hk e => by
    have hk' : c.live k := hk
    obtain ⟨o, ho⟩ := ok.held hk'
    have e' : c.ι k = p := e
    rw [e', hn] at ho; cases ho⟩, upd_same, RepL.mono (Le.new hn) _ _ r⟩
theorem rep_newT {g : Gx} {c : Ct} (ok : Ok g c) {p : Addr} {ds : List D} {vs : List V} (hn : c.H p = none) (r : RepL c ds vs) : Rep { c with H := upd c.H p (.tup vs) } (.tup ds) (.ref p) :=
  rep_tup.mpr ⟨p, vs, rfl, ⟨ok.notR hn, fun k hk e => by
    have hk' : c.live k := hk
    obtain ⟨o, ho⟩ := ok.held hk'
    have e' : c.ι k = p := e
    rw [e', hn] at ho; cases ho⟩, upd_same, RepL.mono (Le.new hn) _ _ r⟩
end Sm
end

section
set_option Elab.async false
set_option linter.all false
set_option autoImplicit false
set_option maxRecDepth 100000
set_option maxHeartbeats 4000000
namespace Sm
open PySem L2
/-! ### where one stands -/
structure XO (g : Gx) (X : Cx) (E : XK) : Prop where
  K : X.K = g.K
  calm : X.calm = true
  nd : X.N.Nodup
  take : Takes X fun cls d _ H' => E cls d H'
  units : X.A.units + 100 < cLine
theorem XO.pass {g : Gx} {X : Cx} {E : XK} (x : XO g X E) : Passes (L2.CX X.prog X.w) X E := passes_call x.take fun _ _ _ _ h => h
def ES (g : Gx) (X : Cx) (E : XK) (e : Expr) (m : ME) : Prop := ∃ t, PE X e t ∧ SE g E t m
def BS (g : Gx) (X : Cx) (E : XK) (e : Expr) (m : MB) : Prop := ∃ t, PT X e t ∧ SB g E t m
def BW (g : Gx) (X : Cx) (E : XK) (e : Expr) (m : MB) : Prop := ∃ t, PW X e t ∧ SB g E t m
/-- so many values -/
def ALen (n : Nat) (m : MA) : Prop := ∀ e S ds S', m e S = .ok ds S' → ds.length = n
def AS (g : Gx) (X : Cx) (E : XK) (es : List Expr) (m : MA) : Prop := ∃ t, PA X es t ∧ SA g E t m ∧ ALen es.length m
/-! ### what operators do -/
def SR (g : Gx) (r : R2) (f : Store → D → D → Option D) : Prop := ∀ c x y v u Q z, Ok g c → Rep c x v → Rep c y u → f c.S x y = some z → WE g c Q z c.S → r v u c.H Q
def SU (g : Gx) (r : V → Hp → VK → Prop) (f : Store → D → Option D) : Prop := ∀ c x v Q z, Ok g c → Rep c x v → f c.S x = some z → WE g c Q z c.S → r v c.H Q
def SC (g : Gx) (r : List V → Hp → VK → Prop) (f : Store → List D → Option D) : Prop := ∀ c xs vs Q z, Ok g c → RepL c xs vs → f c.S xs = some z → WE g c Q z c.S → r vs c.H Q
section
variable {g : Gx} {c : Ct} {Q : VK}
theorem we_int (ok : Ok g c) {i : Int} (h : WE g c Q (.int i) c.S) : Q (.int i) c.H := WE.here ok (rep_int.mpr rfl) h
theorem we_bl (ok : Ok g c) {i : Bool} (h : WE g c Q (.bl i) c.S) : Q (.bl i) c.H := WE.here ok (rep_bl.mpr rfl) h
theorem we_str (ok : Ok g c) {t : Tx} (h : WE g c Q (.str t) c.S) : Q (.str (sS t)) c.H := WE.here ok (rep_str.mpr rfl) h
theorem we_newL (ok : Ok g c) {ds : List D} {vs : List V} (r : RepL c ds vs) (h : WE g c Q (.lst ds) c.S) : ∀ p, c.H p = none → Q (.ref p) (upd c.H p (.lst vs)) := fun p hp =>
  h { c with H := upd c.H p (.lst vs) } (.ref p) (ok.new hp) (Le.new hp) (RsE.new ok hp) rfl (rep_newL ok hp r)
theorem we_newT (ok : Ok g c) {ds : List D} {vs : List V} (r : RepL c ds vs) (h : WE g c Q (.tup ds) c.S) : ∀ p, c.H p = none → Q (.ref p) (upd c.H p (.tup vs)) := fun p hp =>
  h { c with H := upd c.H p (.tup vs) } (.ref p) (ok.new hp) (Le.new hp) (RsE.new ok hp) rfl (rep_newT ok hp r)
end
theorem big_eq : big = 2 ^ 64 := by decide
theorem sz5 {n : Nat} (h : n ≤ 100000) : n ≤ sizeLine := Nat.le_trans h (by rw [sizeLine_eq]; decide)
theorem sz5' {n : Nat} (h : n < 100000) : n < sizeLine := Nat.lt_of_lt_of_le h (by rw [sizeLine_eq]; decide)
theorem sS_len (t : Tx) : (sS t).length = t.length := by simp [sS, Str.length]
theorem sS_app (a b : Tx) : sS a ++ sS b = sS (a ++ b) := by
  show Str.append (sS a) (sS b) = _
  simp [Str.append, sS]
theorem sr_int {g : Gx} {f : Int → Int → Int} {o : Store → D → D → Option D} (h : ∀ S x y z, o S x y = some z → ∃ a b, x = .int a ∧ y = .int b ∧ z = .int (f a b)) : SR g (rI0 fun i j => .int (f i j)) o := by
  intro c x y v u Q z ok rx ry e q
  obtain ⟨a, b, rfl, rfl, rfl⟩ := h _ _ _ _ e
  exact ⟨a, b, rep_int.mp rx, rep_int.mp ry, we_int ok q⟩
theorem sr_sub {g : Gx} : SR g (rI0 fun i j => .int (i - j)) oSub := sr_int fun S x y z e => by
  unfold oSub at e
  split at e
  · cases e; exact ⟨_, _, rfl, rfl, rfl⟩
  · cases e
theorem sr_cmp {g : Gx} {f : Int → Int → Bool} : SR g (rI0 fun i j => .bl (f i j)) (cmpI f) := by
  intro c x y v u Q z ok rx ry e q
  unfold cmpI at e
  split at e
  · rename_i a b
    cases e
    exact ⟨a, b, rep_int.mp rx, rep_int.mp ry, we_bl ok q⟩
  · cases e
theorem sr_div {g : Gx} : SR g (rI CDivN fun i j => .int (i.fdiv j)) oDiv := by
  intro c x y v u Q z ok rx ry e q
  unfold oDiv at e
  split at e
  · rename_i a b
    split at e
    · rename_i hb
      cases e
      exact ⟨a, b, rep_int.mp rx, rep_int.mp ry, hb, we_int ok q⟩
    · cases e
  · cases e
theorem sr_mod {g : Gx} : SR g (rI (fun _ j => j ≠ 0) fun i j => .int (i.fmod j)) oMod := by
  intro c x y v u Q z ok rx ry e q
  unfold oMod at e
  split at e
  · rename_i a b
    split at e
    · rename_i hb
      cases e
      exact ⟨a, b, rep_int.mp rx, rep_int.mp ry, hb, we_int ok q⟩
    · cases e
  · cases e
theorem sr_pow {g : Gx} : SR g (rI CPow fun i j => .int (i ^ j.toNat)) oPow := by
  intro c x y v u Q z ok rx ry e q
  unfold oPow at e
  split at e
  · rename_i a b
    split at e
    · rename_i hb
      cases e
      rw [big_eq] at hb
      refine ⟨a, b, rep_int.mp rx, rep_int.mp ry, ⟨hb.1, by omega, by omega⟩, we_int ok q⟩
    · cases e
  · cases e
abbrev rAddAll (K : PySem.W.Frag) : R2 := fun x y H Q => rI0 (fun i j => .int (i + j)) x y H Q ∨ (∃ i j, x = .str i ∧ y = .str j ∧ i.length + j.length ≤ sizeLine ∧ Q (.str (i ++ j)) H) ∨ rCat x y H Q ∨ rCatA K x y H Q
theorem op_addAll {X : Cx} : OpR X (binaryOp .Add) (rAddAll X.K) := op_add.or (op_add_str.or (op_cat.or op_catA))
theorem sr_add {g : Gx} {K : PySem.W.Frag} : SR g (rAddAll K) oAdd := by
  intro c x y v u Q z ok rx ry e q
  unfold oAdd at e
  split at e
  · rename_i a b ea eb
    cases e
    have ea := viewM_int ea
    have eb := viewM_int eb
    subst ea eb
    exact .inl ⟨a, b, rep_int.mp rx, rep_int.mp ry, we_int ok q⟩
  · rename_i a b ea eb
    split at e
    · rename_i hb
      cases e
      have ea := viewM_str ea
      have eb := viewM_str eb
      subst ea eb
      refine .inr (.inl ⟨_, _, rep_str.mp rx, rep_str.mp ry, ?_, ?_⟩)
      · rw [sS_len, sS_len]; exact sz5 hb
      · rw [sS_app]; exact we_str ok q
    · cases e
  · rename_i a b ea eb
    split at e
    · rename_i hb
      cases e
      obtain ⟨p, vs, rfl, h1, h2⟩ := see_mut ok rx ea
      obtain ⟨p', ws, rfl, h3, h4⟩ := see_mut ok ry eb
      refine .inr (.inr (.inl ⟨p, p', vs, ws, rfl, rfl, h1, h3, ?_, we_newL ok (repL_app h2 h4) q⟩))
      rw [repL_len h2, repL_len h4]; exact sz5 hb
    · cases e
  · rename_i a b ea eb
    split at e
    · rename_i hb
      cases e
      have ea := viewM_tup ea
      have eb := viewM_tup eb
      subst ea eb
      obtain ⟨p, vs, rfl, _, h1, h2⟩ := rep_tup.mp rx
      obtain ⟨p', ws, rfl, _, h3, h4⟩ := rep_tup.mp ry
      refine .inr (.inr (.inr ⟨p, p', vs, ws, rfl, rfl, SqT.of h1, SqT.of h3, ?_, fun e1 => ?_, fun e1 e2 => ?_, fun _ _ => we_newT ok (repL_app h2 h4) q⟩))
      · rw [repL_len h2, repL_len h4]; exact sz5 hb
      · have z1 : a = [] := by
          have := repL_len h2
          rw [e1] at this
          exact List.length_eq_zero_iff.mp this.symm
        subst z1
        exact WE.here ok ry q
      · have z1 : b = [] := by
          have := repL_len h4
          rw [e2] at this
          exact List.length_eq_zero_iff.mp this.symm
        subst z1
        rw [List.append_nil] at q
        exact WE.here ok rx q
    · cases e
  · cases e

/-! ### == -/
mutual
def toP : D → PyData
  | .non => .none
  | .bl b => .bool b
  | .int i => .int i
  | .str t => .str (sS t)
  | .lst xs => .list (toPL xs)
  | .tup xs => .tuple (toPL xs)
  | .dct _ => .none
  | .dctT _ => .none
  | .obj _ => .none
def toPL : List D → List PyData
  | [] => []
  | x :: xs => toP x :: toPL xs
end
theorem sS_beq (a b : Tx) : (sS a == sS b) = (a == b) := by
  rw [Bool.eq_iff_iff]
  constructor
  · intro h
    have h := eq_of_beq h
    rw [sS_inj h]; exact beq_self_eq_true _
  · intro h
    have h := eq_of_beq h
    rw [h]; exact beq_self_eq_true _
mutual
theorem eqv_toP : ∀ (n m : Nat) (x y : D), dataN n x = true → dataN m y = true → PyData.eqv (toP x) (toP y) = eqD x y
  | n, m, .non, y, h1, h2 => by cases y <;> first | (simp [dataN] at h2; done) | (cases m <;> simp [dataN] at h2; done) | (simp [toP, PyData.eqv, eqD])
  | n, m, .bl b, y, h1, h2 => by cases y <;> first | (simp [dataN] at h2; done) | (cases m <;> simp [dataN] at h2; done) | (simp [toP, PyData.eqv, eqD])
  | n, m, .int b, y, h1, h2 => by cases y <;> first | (simp [dataN] at h2; done) | (cases m <;> simp [dataN] at h2; done) | (simp [toP, PyData.eqv, eqD])
  | n, m, .str b, y, h1, h2 => by cases y <;> first | (simp [dataN] at h2; done) | (cases m <;> simp [dataN] at h2; done) | (simp only [toP, PyData.eqv, eqD]; exact sS_beq _ _) | (simp [toP, PyData.eqv, eqD])
  | n, m, .lst xs, y, h1, h2 => by
    cases n with
    | zero => simp [dataN] at h1
    | succ n =>
      cases y <;> first | (cases m <;> simp [dataN] at h2; done) | skip
      case lst ys =>
        cases m with
        | zero => simp [dataN] at h2
        | succ m =>
          simp only [dataN] at h1 h2
          simp only [toP, PyData.eqv, eqD]
          exact eqvL_toP n m xs ys h1 h2
      all_goals simp [toP, PyData.eqv, eqD]
  | n, m, .tup xs, y, h1, h2 => by
    cases n with
    | zero => simp [dataN] at h1
    | succ n =>
      cases y <;> first | (cases m <;> simp [dataN] at h2; done) | skip
      case tup ys =>
        cases m with
        | zero => simp [dataN] at h2
        | succ m =>
          simp only [dataN] at h1 h2
          simp only [toP, PyData.eqv, eqD]
          exact eqvL_toP n m xs ys h1 h2
      all_goals simp [toP, PyData.eqv, eqD]
  | n, m, .dct _, y, h1, h2 => by cases n <;> simp [dataN] at h1
  | n, m, .dctT _, y, h1, h2 => by cases n <;> simp [dataN] at h1
  | n, m, .obj _, y, h1, h2 => by cases n <;> simp [dataN] at h1
theorem eqvL_toP : ∀ (n m : Nat) (xs ys : List D), xs.all (dataN n) = true → ys.all (dataN m) = true → PyData.eqvAll (toPL xs) (toPL ys) = eqL xs ys
  | n, m, [], [], _, _ => by simp [toPL, PyData.eqvAll, eqL]
  | n, m, [], y :: ys, _, _ => by simp [toPL, PyData.eqvAll, eqL]
  | n, m, x :: xs, [], _, _ => by simp [toPL, PyData.eqvAll, eqL]
  | n, m, x :: xs, y :: ys, h1, h2 => by
    simp only [List.all_cons, Bool.and_eq_true] at h1 h2
    simp only [toPL, PyData.eqvAll, eqL]
    rw [eqv_toP n m x y h1.1 h2.1, eqvL_toP n m xs ys h1.2 h2.2]
end
mutual
theorem dp_of {K : PySem.W.Frag} {c : Ct} : ∀ (n : Nat) (x : D) (v : V), dataN n x = true → Rep c x v → Dp K c.H v (toP x)
  | n, .non, v, _, r => by rw [rep_non.mp r]; exact .non
  | n, .bl b, v, _, r => by rw [rep_bl.mp r]; exact .bl b
  | n, .int i, v, _, r => by rw [rep_int.mp r]; exact .int i
  | n, .str t, v, _, r => by rw [rep_str.mp r]; exact .str _
  | n, .lst xs, v, h, r => by
    cases n with
    | zero => simp [dataN] at h
    | succ n =>
      simp only [dataN] at h
      obtain ⟨a, vs, rfl, _, h1, h2⟩ := rep_lst.mp r
      exact .lst (SqL.of h1) (dpL_of n xs vs h h2)
  | n, .tup xs, v, h, r => by
    cases n with
    | zero => simp [dataN] at h
    | succ n =>
      simp only [dataN] at h
      obtain ⟨a, vs, rfl, _, h1, h2⟩ := rep_tup.mp r
      exact .tup (SqT.of h1) (dpL_of n xs vs h h2)
  | n, .dct _, v, h, r => by cases n <;> simp [dataN] at h
  | n, .dctT _, v, h, r => by cases n <;> simp [dataN] at h
  | n, .obj _, v, h, r => by cases n <;> simp [dataN] at h
theorem dpL_of {K : PySem.W.Frag} {c : Ct} : ∀ (n : Nat) (xs : List D) (vs : List V), xs.all (dataN n) = true → RepL c xs vs → DpAll K c.H vs (toPL xs)
  | n, [], vs, _, r => by rw [repL_nil.mp r]; exact .nil
  | n, x :: xs, vs, h, r => by
    obtain ⟨v, q, rfl, h1, h2⟩ := repL_cons.mp r
    simp only [List.all_cons, Bool.and_eq_true] at h
    exact .cons (dp_of n x v h.1 h1) (dpL_of n xs q h.2 h2)
end
/-- .. of what an object holds too -/
theorem dp_view {K : PySem.W.Frag} {g : Gx} {c : Ct} (ok : Ok g c) {n : Nat} {x : D} {v : V} (h : dataN n (view c.S x) = true) (r : Rep c x v) : Dp K c.H v (toP (view c.S x)) := by
  cases e : view c.S x with
  | lst ds =>
    rw [e] at h
    cases n with
    | zero => simp [dataN] at h
    | succ n =>
      simp only [dataN] at h
      obtain ⟨a, vs, rfl, h1, h2⟩ := see_lst ok r e
      exact .lst (.inl h1) (dpL_of n ds vs h h2)
  | tup ds =>
    rw [e] at h
    cases n with
    | zero => simp [dataN] at h
    | succ n =>
      simp only [dataN] at h
      obtain ⟨a, vs, rfl, h1, h2⟩ := see_tup ok r e
      exact .tup (SqT.of h1) (dpL_of n ds vs h h2)
  | dct _ => rw [e] at h; cases n <;> simp [dataN] at h
  | dctT _ => rw [e] at h; cases n <;> simp [dataN] at h
  | obj _ => rw [e] at h; cases n <;> simp [dataN] at h
  | int i =>
    rw [view_int e] at r
    rw [rep_int.mp r]; exact .int i
  | str i =>
    rw [view_str e] at r
    rw [rep_str.mp r]; exact .str _
  | non =>
    rw [view_non e] at r
    rw [rep_non.mp r]; exact .non
  | bl b =>
    rw [view_bl e] at r
    rw [rep_bl.mp r]; exact .bl b
theorem strOk_of {t : Tx} (h : (t.all fun c => decide (c < 128)) = true) : PyData.strOk (sS t) = true := by
  unfold PyData.strOk
  rw [List.all_eq_true] at h
  rw [Array.all_eq_true_iff_forall_mem]
  intro x hx
  have hx' : x ∈ t := by simpa [sS] using hx
  have := of_decide_eq_true (h x hx')
  exact decide_eq_true (by omega)
mutual
theorem shp_of : ∀ (n : Nat) (x : D), dataN n x = true → PyData.canLay0 (toP x) = true ∧ PyData.depth (toP x) ≤ n
  | n, .non, h => by simp [toP, PyData.canLay0, PyData.depth]
  | n, .bl b, h => by simp [toP, PyData.canLay0, PyData.depth]
  | n, .int i, h => by simp [toP, PyData.canLay0, PyData.depth]
  | n, .str t, h => by
    have h' : (t.all fun c => decide (c < 128)) = true := by cases n <;> simpa [dataN] using h
    simp only [toP, PyData.canLay0, PyData.depth]
    exact ⟨strOk_of h', Nat.zero_le _⟩
  | n, .lst xs, h => by
    cases n with
    | zero => simp [dataN] at h
    | succ n =>
      simp only [dataN] at h
      obtain ⟨h1, h2⟩ := shpL_of n xs h
      simp only [toP, PyData.canLay0, PyData.depth]
      exact ⟨h1, by omega⟩
  | n, .tup xs, h => by
    cases n with
    | zero => simp [dataN] at h
    | succ n =>
      simp only [dataN] at h
      obtain ⟨h1, h2⟩ := shpL_of n xs h
      simp only [toP, PyData.canLay0, PyData.depth]
      exact ⟨h1, by omega⟩
  | n, .dct _, h => by cases n <;> simp [dataN] at h
  | n, .dctT _, h => by cases n <;> simp [dataN] at h
  | n, .obj _, h => by cases n <;> simp [dataN] at h
theorem shpL_of : ∀ (n : Nat) (xs : List D), xs.all (dataN n) = true → PyData.canLayAll0 (toPL xs) = true ∧ PyData.depthAll (toPL xs) ≤ n
  | n, [], _ => by simp [toPL, PyData.canLayAll0, PyData.depthAll]
  | n, x :: xs, h => by
    simp only [List.all_cons, Bool.and_eq_true] at h
    obtain ⟨a1, a2⟩ := shp_of n x h.1
    obtain ⟨b1, b2⟩ := shpL_of n xs h.2
    simp only [toPL, PyData.canLayAll0, PyData.depthAll, Bool.and_eq_true]
    exact ⟨⟨a1, b1⟩, by omega⟩
end
theorem shaped_of {x : D} (h : dataD x = true) : SeqAt.shaped (toP x) = true := by
  obtain ⟨h1, h2⟩ := shp_of 6 x h
  unfold SeqAt.shaped
  rw [h1, Bool.true_and]
  exact decide_eq_true (by omega)
theorem eqV_some {g : Gx} {K : PySem.W.Frag} {c : Ct} (ok : Ok g c) {x y : D} {v u : V} {b : Bool} (rx : Rep c x v) (ry : Rep c y u) (e : eqV c.S x y = some b) :
    ∃ d d', Dp K c.H v d ∧ Dp K c.H u d' ∧ SeqAt.shaped d = true ∧ SeqAt.shaped d' = true ∧ PyData.eqv d d' = b := by
  unfold eqV at e
  split at e
  · rename_i h
    rw [Bool.and_eq_true] at h
    cases e
    exact ⟨_, _, dp_view ok h.1 rx, dp_view ok h.2 ry, shaped_of h.1, shaped_of h.2, eqv_toP 6 6 _ _ h.1 h.2⟩
  · cases e
theorem sr_eq {g : Gx} {K : PySem.W.Frag} : SR g (rEqD K) oEq := by
  intro c x y v u Q z ok rx ry e q
  unfold oEq at e
  cases h : eqV c.S x y with
  | none => rw [h] at e; cases e
  | some b =>
    rw [h] at e; cases e
    obtain ⟨d, d', h1, h2, h3, h4, h5⟩ := eqV_some ok rx ry h
    refine ⟨d, d', h1, h2, h3, h4, ?_⟩
    rw [h5]
    exact we_bl ok q
theorem sr_ne {g : Gx} {K : PySem.W.Frag} : SR g (rNeD K) oNe := by
  intro c x y v u Q z ok rx ry e q
  unfold oNe at e
  cases h : eqV c.S x y with
  | none => rw [h] at e; cases e
  | some b =>
    rw [h] at e; cases e
    obtain ⟨d, d', h1, h2, h3, h4, h5⟩ := eqV_some ok rx ry h
    refine ⟨d, d', h1, h2, h3, h4, ?_⟩
    rw [h5]
    exact we_bl ok q

/-! ### in, items, slices, built-in functions -/
theorem flat_of {c : Ct} {x : D} {v : V} (h : flatD x = true) (r : Rep c x v) : flatV v = true := by
  cases x <;> first | (simp [flatD] at h; done) | skip
  · rw [rep_non.mp r]; rfl
  · rw [rep_bl.mp r]; rfl
  · rw [rep_int.mp r]; rfl
  · rw [rep_str.mp r]; rfl
theorem flatL_of {c : Ct} : ∀ {xs : List D} {vs : List V}, xs.all flatD = true → RepL c xs vs → vs.all flatV = true
  | [], vs, _, r => by rw [repL_nil.mp r]; rfl
  | x :: xs, vs, h, r => by
    obtain ⟨v, q, rfl, h1, h2⟩ := repL_cons.mp r
    simp only [List.all_cons, Bool.and_eq_true] at h ⊢
    exact ⟨flat_of h.1 h1, flatL_of h.2 h2⟩
theorem sS_deq (a b : Tx) : decide (sS a = sS b) = (a == b) := by
  by_cases h : a = b
  · subst h; simp
  · rw [decide_eq_false (fun e => h (sS_inj e))]
    exact (beq_eq_false_iff_ne.mpr h).symm
theorem eqV_flat {c : Ct} {x y : D} {v u : V} (hx : flatD x = true) (hy : flatD y = true) (rx : Rep c x v) (ry : Rep c y u) : L2.eqV v u = eqD x y := by
  cases x <;> first | (simp [flatD] at hx; done) | skip
  · rw [rep_non.mp rx]
    cases y <;> first | (simp [flatD] at hy; done) | skip
    · rw [rep_non.mp ry]; simp [L2.eqV, eqD]
    · rw [rep_bl.mp ry]; simp [L2.eqV, eqD]
    · rw [rep_int.mp ry]; simp [L2.eqV, eqD]
    · rw [rep_str.mp ry]; simp [L2.eqV, eqD]
  · rw [rep_bl.mp rx]
    cases y <;> first | (simp [flatD] at hy; done) | skip
    · rw [rep_non.mp ry]; simp [L2.eqV, eqD]
    · rw [rep_bl.mp ry]; simp [L2.eqV, eqD]
    · rw [rep_int.mp ry]; simp [L2.eqV, eqD]
    · rw [rep_str.mp ry]; simp [L2.eqV, eqD]
  · rw [rep_int.mp rx]
    cases y <;> first | (simp [flatD] at hy; done) | skip
    · rw [rep_non.mp ry]; simp [L2.eqV, eqD]
    · rw [rep_bl.mp ry]; simp [L2.eqV, eqD]
    · rw [rep_int.mp ry]; simp [L2.eqV, eqD]
    · rw [rep_str.mp ry]; simp [L2.eqV, eqD]
  · rw [rep_str.mp rx]
    cases y <;> first | (simp [flatD] at hy; done) | skip
    · rw [rep_non.mp ry]; simp [L2.eqV, eqD]
    · rw [rep_bl.mp ry]; simp [L2.eqV, eqD]
    · rw [rep_int.mp ry]; simp [L2.eqV, eqD]
    · rw [rep_str.mp ry]
      simp only [L2.eqV, eqD]
      first | exact sS_beq _ _ | exact sS_deq _ _
theorem inV_of {c : Ct} {x : D} {v : V} (hx : flatD x = true) (rx : Rep c x v) : ∀ {xs : List D} {vs : List V}, xs.all flatD = true → RepL c xs vs → L2.inV v vs = inL x xs
  | [], vs, _, r => by rw [repL_nil.mp r]; rfl
  | y :: ys, vs, h, r => by
    obtain ⟨w, q, rfl, h1, h2⟩ := repL_cons.mp r
    simp only [List.all_cons, Bool.and_eq_true] at h
    unfold L2.inV inL
    rw [List.any_cons, eqV_flat h.1 hx h1 rx]
    have := inV_of hx rx h.2 h2
    unfold L2.inV at this
    rw [this]
theorem cutA_eq (n d : Nat) (o : Option Int) : HT.sIx n d o = cutA n d o := by cases o <;> rfl
theorem cutV_eq (vs : List V) (lo hi : Option Int) : L2.cutV vs lo hi = cutL vs lo hi := by
  unfold L2.cutV cutL
  rw [cutA_eq, cutA_eq]
theorem repL_cut {c : Ct} {ds : List D} {vs : List V} (r : RepL c ds vs) (lo hi : Option Int) : RepL c (cutL ds lo hi) (L2.cutV vs lo hi) := by
  rw [cutV_eq]
  unfold cutL
  rw [repL_len r]
  exact repL_take _ (repL_drop _ r)
theorem ixZ_eq (n : Nat) (i : Int) : L2.ixN n i = ixZ n i := rfl
theorem at_of' {c : Ct} {ds : List D} {vs : List V} {i : Int} {d : D} (r : RepL c ds vs) (e : atZ ds i = some d) : ∃ v, L2.atI vs i = some v ∧ Rep c d v := by
  unfold atZ at e
  cases h : ixZ ds.length i with
  | none => rw [h] at e; cases e
  | some j =>
    rw [h] at e
    obtain ⟨v, h1, h2⟩ := repL_get (i := j) r e
    refine ⟨v, ?_, h2⟩
    unfold L2.atI
    rw [ixZ_eq, repL_len r, h]
    exact h1
theorem inSV_of {g : Gx} {K : PySem.W.Frag} {c : Ct} (ok : Ok g c) {x y : D} {v u : V} {b : Bool} (rx : Rep c x v) (ry : Rep c y u) (e : inSV c.S x y = some b) :
    ∃ p vs, u = .ref p ∧ (SqL K c.H p vs ∨ SqT K c.H p vs) ∧ flatV v = true ∧ vs.all flatV = true ∧ L2.inV v vs = b := by
  unfold inSV at e
  split at e
  · rename_i xs ey
    split at e
    · rename_i h
      rw [Bool.and_eq_true] at h
      cases e
      obtain ⟨a, vs, rfl, h1, h2⟩ := see_lst ok ry ey
      exact ⟨a, vs, rfl, .inl (.inl h1), flat_of h.1 rx, flatL_of h.2 h2, inV_of h.1 rx h.2 h2⟩
    · cases e
  · rename_i xs ey
    split at e
    · rename_i h
      rw [Bool.and_eq_true] at h
      cases e
      obtain ⟨a, vs, rfl, h1, h2⟩ := see_tup ok ry ey
      exact ⟨a, vs, rfl, .inr (SqT.of h1), flat_of h.1 rx, flatL_of h.2 h2, inV_of h.1 rx h.2 h2⟩
    · cases e
  · cases e
theorem sr_inS {g : Gx} {K : PySem.W.Frag} : SR g (rIn K false) oInS := by
  intro c x y v u Q z ok rx ry e q
  unfold oInS at e
  cases h : inSV c.S x y with
  | none => rw [h] at e; cases e
  | some b =>
    rw [h] at e; cases e
    obtain ⟨p, vs, h1, h2, h3, h4, h5⟩ := inSV_of (K := K) ok rx ry h
    refine ⟨p, vs, h1, h2, h3, h4, ?_⟩
    rw [if_neg (by decide), h5]
    exact we_bl ok q
theorem sr_notInS {g : Gx} {K : PySem.W.Frag} : SR g (rIn K true) oNotInS := by
  intro c x y v u Q z ok rx ry e q
  unfold oNotInS at e
  cases h : inSV c.S x y with
  | none => rw [h] at e; cases e
  | some b =>
    rw [h] at e; cases e
    obtain ⟨p, vs, h1, h2, h3, h4, h5⟩ := inSV_of (K := K) ok rx ry h
    refine ⟨p, vs, h1, h2, h3, h4, ?_⟩
    rw [if_pos (by decide), h5]
    exact we_bl ok q
theorem sr_ix {g : Gx} {K : PySem.W.Frag} : SR g (rIx K) oIx := by
  intro c x y v u Q z ok rx ry e q
  unfold oIx at e
  split at e
  · rename_i xs i ex
    obtain ⟨a, vs, rfl, h1, h2⟩ := see_lst ok rx ex
    obtain ⟨w, h3, h4⟩ := at_of' h2 e
    exact .inl ⟨a, vs, i, w, rfl, rep_int.mp ry, .inl h1, h3, WE.here ok h4 q⟩
  · rename_i xs i ex
    obtain ⟨a, vs, rfl, h1, h2⟩ := see_tup ok rx ex
    obtain ⟨w, h3, h4⟩ := at_of' h2 e
    exact .inr (.inl ⟨a, vs, i, w, rfl, rep_int.mp ry, SqT.of h1, h3, WE.here ok h4 q⟩)
  · rename_i t i ex
    split at e
    · rename_i hb
      have ex := view_str ex
      subst ex
      cases h : atZ t i with
      | none => rw [h] at e; cases e
      | some k =>
        rw [h] at e; cases e
        refine .inr (.inr ⟨sS t, i, k, rep_str.mp rx, rep_int.mp ry, by rw [sS_len]; exact sz5 hb, ?_, we_str ok q⟩)
        unfold L2.atI
        unfold atZ at h
        exact h
    · cases e
  · cases e
theorem nonD_of {g : Gx} {c : Ct} (ok : Ok g c) {x : D} {v : V} {b : Bool} (rx : Rep c x v) (e : nonD c.S x = some b) : decide (v = V.non) = b := by
  cases x with
  | non => cases e; rw [rep_non.mp rx]; rfl
  | bl b => cases e; rw [rep_bl.mp rx]; rfl
  | int b => cases e; rw [rep_int.mp rx]; rfl
  | str b => cases e; rw [rep_str.mp rx]; rfl
  | lst ds => cases e; obtain ⟨a, vs, rfl, _⟩ := rep_lst.mp rx; rfl
  | tup ds => cases e; obtain ⟨a, vs, rfl, _⟩ := rep_tup.mp rx; rfl
  | dct ds => cases e; obtain ⟨a, vs, rfl, _⟩ := rep_dct.mp rx; rfl
  | dctT ds => cases e; unfold Rep at rx; obtain ⟨a, vs, rfl, _⟩ := rx; rfl
  | obj r =>
    obtain ⟨_, h2⟩ := rep_obj.mp rx
    unfold nonD at e
    cases h : c.S[r]? with
    | none => simp only [h] at e; cases e
    | some o =>
      simp only [h] at e
      cases o <;> first | (cases e; done) | skip
      all_goals
        cases e
        rw [h2 (live_of h (by intro z; cases z))]
        rfl
theorem sr_isN {g : Gx} : SR g (fun x y H Q => y = .non ∧ Q (.bl (decide (x = .non))) H) oIsN := by
  intro c x y v u Q z ok rx ry e q
  unfold oIsN at e
  split at e
  · refine ⟨rep_non.mp ry, ?_⟩
    cases h : nonD c.S x with
    | none => rw [h] at e; cases e
    | some b =>
      rw [h] at e; cases e
      rw [nonD_of ok rx h]
      exact we_bl ok q
  · cases e
theorem sr_notN {g : Gx} : SR g (fun x y H Q => y = .non ∧ Q (.bl (!decide (x = .non))) H) oNotN := by
  intro c x y v u Q z ok rx ry e q
  unfold oNotN at e
  split at e
  · refine ⟨rep_non.mp ry, ?_⟩
    cases h : nonD c.S x with
    | none => rw [h] at e; cases e
    | some b =>
      rw [h] at e; cases e
      rw [nonD_of ok rx h]
      exact we_bl ok q
  · cases e
abbrev rMulAll : R2 := fun x y H Q => rI CMul (fun i j => .int (i * j)) x y H Q ∨ rRep x y H Q
theorem op_mulAll {X : Cx} : OpR X (binaryOp .Mult) rMulAll := op_mul.or op_rep
theorem repL_rep {c : Ct} {ds : List D} {vs : List V} (r : RepL c ds vs) : ∀ n, RepL c (List.replicate n ds).flatten (List.replicate n vs).flatten
  | 0 => repL_nil.mpr rfl
  | n + 1 => by
    rw [List.replicate_succ, List.replicate_succ, List.flatten_cons, List.flatten_cons]
    exact repL_app r (repL_rep r n)
theorem sr_mul {g : Gx} : SR g rMulAll oMul := by
  intro c x y v u Q z ok rx ry e q
  unfold oMul at e
  split at e
  · rename_i a b ea
    split at e
    · rename_i hb
      cases e
      have ea := viewM_int ea
      subst ea
      rw [big_eq] at hb
      refine .inl ⟨a, b, rep_int.mp rx, rep_int.mp ry, ?_, we_int ok q⟩
      rcases hb with h | h
      · exact .inl ⟨by have := h.1; omega, h.2⟩
      · exact .inr ⟨by have := h.1; omega, h.2⟩
    · cases e
  · rename_i a b ea
    split at e
    · rename_i hb
      cases e
      obtain ⟨p, vs, rfl, h1, h2⟩ := see_mut ok rx ea
      refine .inr ⟨p, b, vs, rfl, rep_int.mp ry, h1, by omega, by omega, ?_, we_newL ok (repL_rep h2 _) q⟩
      rw [repL_len h2]
      have h3 : b.toNat ≤ 1000 := by omega
      have h4 : a.length * b.toNat ≤ 1000 * 1000 := Nat.mul_le_mul hb.2.2 h3
      exact Nat.le_trans h4 (by rw [sizeLine_eq]; decide)
    · cases e
  · cases e
theorem su_neg {g : Gx} : SU g (rU fun i => .int (-i)) uNeg := by
  intro c x v Q z ok rx e q
  unfold uNeg at e
  split at e
  · cases e
    exact ⟨_, rep_int.mp rx, we_int ok q⟩
  · cases e
/-! ### built-in functions -/
theorem intsD_of {c : Ct} : ∀ {xs : List D} {vs : List V} {ns : List Int}, intsD xs = some ns → RepL c xs vs → vs = ns.map V.int
  | [], vs, ns, e, r => by cases e; rw [repL_nil.mp r]; rfl
  | x :: xs, vs, ns, e, r => by
    obtain ⟨v, q, rfl, h1, h2⟩ := repL_cons.mp r
    cases x <;> first | (simp [intsD] at e; done) | skip
    case int i =>
      unfold intsD at e
      cases h : intsD xs with
      | none => rw [h] at e; cases e
      | some l =>
        rw [h] at e; cases e
        rw [rep_int.mp h1, intsD_of h h2]; rfl
theorem repL_ints {c : Ct} : ∀ ns : List Int, RepL c (ns.map .int) (ns.map V.int)
  | [] => repL_nil.mpr rfl
  | n :: ns => repL_cons.mpr ⟨_, _, rfl, rep_int.mpr rfl, repL_ints ns⟩
theorem rep1 {c : Ct} {x : D} {vs : List V} (r : RepL c [x] vs) : ∃ v, vs = [v] ∧ Rep c x v := by
  obtain ⟨v, q, rfl, h1, h2⟩ := repL_cons.mp r
  rw [repL_nil.mp h2]
  exact ⟨v, rfl, h1⟩
theorem rep2 {c : Ct} {x y : D} {vs : List V} (r : RepL c [x, y] vs) : ∃ v u, vs = [v, u] ∧ Rep c x v ∧ Rep c y u := by
  obtain ⟨v, q, rfl, h1, h2⟩ := repL_cons.mp r
  obtain ⟨u, rfl, h3⟩ := rep1 h2
  exact ⟨v, u, rfl, h1, h3⟩
theorem repK_len {c : Ct} : ∀ {ds : List (K1 × D)} {vs : List (Key × V)}, RepK c ds vs → vs.length = ds.length
  | [], vs, h => by unfold RepK at h; subst h; rfl
  | (k, d) :: ds, vs, h => by
    unfold RepK at h
    obtain ⟨v, r, rfl, _, h2⟩ := h
    rw [List.length_cons, List.length_cons, repK_len h2]
theorem sc_abs {g : Gx} : SC g (fun xs H Q => ∃ i, xs = [.int i] ∧ Q (.int (if i < 0 then -i else i)) H) bAbs := by
  intro c xs vs Q z ok r e q
  unfold bAbs at e
  split at e
  · cases e
    obtain ⟨v, rfl, h⟩ := rep1 r
    exact ⟨_, by rw [rep_int.mp h], we_int ok q⟩
  · cases e
theorem sc_int {g : Gx} : SC g (fun xs H Q => (∃ i, xs = [.int i] ∧ Q (.int i) H) ∨ ∃ k, xs = [.bl k] ∧ Q (.int (if k then 1 else 0)) H) bInt := by
  intro c xs vs Q z ok r e q
  unfold bInt at e
  split at e
  · cases e
    obtain ⟨v, rfl, h⟩ := rep1 r
    exact .inl ⟨_, by rw [rep_int.mp h], we_int ok q⟩
  · cases e
    obtain ⟨v, rfl, h⟩ := rep1 r
    exact .inr ⟨_, by rw [rep_bl.mp h], we_int ok q⟩
  · cases e
theorem maxI_spec : ∀ (l : List Int) (m : Int), (maxI l m = m ∨ maxI l m ∈ l) ∧ m ≤ maxI l m ∧ ∀ y, y ∈ l → y ≤ maxI l m
  | [], m => by simp [maxI]
  | x :: r, m => by
    unfold maxI
    have hM : x ≤ (if x > m then x else m) ∧ m ≤ (if x > m then x else m) ∧ ((if x > m then x else m) = x ∨ (if x > m then x else m) = m) := by split <;> omega
    generalize (if x > m then x else m) = M at hM
    obtain ⟨h1, h2, h3⟩ := maxI_spec r M
    refine ⟨?_, by omega, ?_⟩
    · rcases h1 with h | h
      · rw [h]
        rcases hM.2.2 with z | z
        · rw [z]; exact .inr List.mem_cons_self
        · exact .inl z
      · exact .inr (List.mem_cons_of_mem _ h)
    · intro y hy
      rcases List.mem_cons.mp hy with e | e
      · subst e; omega
      · exact h3 y e
theorem minI_spec : ∀ (l : List Int) (m : Int), (minI l m = m ∨ minI l m ∈ l) ∧ minI l m ≤ m ∧ ∀ y, y ∈ l → minI l m ≤ y
  | [], m => by simp [minI]
  | x :: r, m => by
    unfold minI
    have hM : (if x < m then x else m) ≤ x ∧ (if x < m then x else m) ≤ m ∧ ((if x < m then x else m) = x ∨ (if x < m then x else m) = m) := by split <;> omega
    generalize (if x < m then x else m) = M at hM
    obtain ⟨h1, h2, h3⟩ := minI_spec r M
    refine ⟨?_, by omega, ?_⟩
    · rcases h1 with h | h
      · rw [h]
        rcases hM.2.2 with z | z
        · rw [z]; exact .inr List.mem_cons_self
        · exact .inl z
      · exact .inr (List.mem_cons_of_mem _ h)
    · intro y hy
      rcases List.mem_cons.mp hy with e | e
      · subst e; omega
      · exact h3 y e
theorem sumI_eq : ∀ l : List Int, l.sum = sumI l
  | [] => rfl
  | x :: r => by rw [List.sum_cons, sumI_eq r]; rfl
abbrev rMaxAll (K : PySem.W.Frag) : List V → Hp → VK → Prop := fun xs H Q => (∃ i j, xs = [.int i, .int j] ∧ Q (.int (if j > i then j else i)) H) ∨ rMax K xs H Q
abbrev rMinAll (K : PySem.W.Frag) : List V → Hp → VK → Prop := fun xs H Q => (∃ i j, xs = [.int i, .int j] ∧ Q (.int (if j < i then j else i)) H) ∨ rMin K xs H Q
theorem callR_or {X : Cx} {f : Value} {r r' : List V → Hp → VK → Prop} (h : CallR X f r) (h' : CallR X f r') : CallR X f (fun xs H Q => r xs H Q ∨ r' xs H Q) := by
  intro pins s σ H xs us Q I rr q
  rcases q with q | q
  · exact h pins s σ H xs us Q I rr q
  · exact h' pins s σ H xs us Q I rr q
theorem sc_max {g : Gx} {K : PySem.W.Frag} : SC g (rMaxAll K) bMax := by
  intro c xs vs Q z ok r e q
  unfold bMax at e
  split at e
  · cases e
    obtain ⟨v, u, rfl, h1, h2⟩ := rep2 r
    exact .inl ⟨_, _, by rw [rep_int.mp h1, rep_int.mp h2], we_int ok q⟩
  · rename_i x _
    split at e
    · rename_i y l hl
      cases e
      split at hl
      · rename_i ds ex
        obtain ⟨v, rfl, h⟩ := rep1 r
        obtain ⟨a, ws, rfl, h1, h2⟩ := see_lst ok h ex
        have h3 := intsD_of hl h2
        subst h3
        refine .inr ⟨a, y :: l, rfl, .inl h1, by simp, fun m hm hle => ?_⟩
        obtain ⟨s1, s2, s3⟩ := maxI_spec l y
        have e1 : m = maxI l y := by
          have a1 : m ≤ maxI l y := by
            rcases List.mem_cons.mp hm with z | z
            · subst z; exact s2
            · exact s3 m z
          have a2 : maxI l y ≤ m := hle _ (by
            rcases s1 with z | z
            · rw [z]; exact List.mem_cons_self
            · exact List.mem_cons_of_mem _ z)
          omega
        rw [e1]
        exact we_int ok q
      · cases hl
    · cases e
  · cases e
theorem sc_min {g : Gx} {K : PySem.W.Frag} : SC g (rMinAll K) bMin := by
  intro c xs vs Q z ok r e q
  unfold bMin at e
  split at e
  · cases e
    obtain ⟨v, u, rfl, h1, h2⟩ := rep2 r
    exact .inl ⟨_, _, by rw [rep_int.mp h1, rep_int.mp h2], we_int ok q⟩
  · rename_i x _
    split at e
    · rename_i y l hl
      cases e
      split at hl
      · rename_i ds ex
        obtain ⟨v, rfl, h⟩ := rep1 r
        obtain ⟨a, ws, rfl, h1, h2⟩ := see_lst ok h ex
        have h3 := intsD_of hl h2
        subst h3
        refine .inr ⟨a, y :: l, rfl, .inl h1, by simp, fun m hm hle => ?_⟩
        obtain ⟨s1, s2, s3⟩ := minI_spec l y
        have e1 : m = minI l y := by
          have a1 : minI l y ≤ m := by
            rcases List.mem_cons.mp hm with z | z
            · subst z; exact s2
            · exact s3 m z
          have a2 : m ≤ minI l y := hle _ (by
            rcases s1 with z | z
            · rw [z]; exact List.mem_cons_self
            · exact List.mem_cons_of_mem _ z)
          omega
        rw [e1]
        exact we_int ok q
      · cases hl
    · cases e
  · cases e
theorem sc_sum {g : Gx} {K : PySem.W.Frag} : SC g (rSum K) bSum := by
  intro c xs vs Q z ok r e q
  unfold bSum at e
  split at e
  · rename_i x
    split at e
    · rename_i ds ex
      cases hl : intsD ds with
      | none => rw [hl] at e; cases e
      | some l =>
        rw [hl] at e; cases e
        obtain ⟨v, rfl, h⟩ := rep1 r
        obtain ⟨a, ws, rfl, h1, h2⟩ := see_lst ok h ex
        have h3 := intsD_of hl h2
        subst h3
        refine ⟨a, l, rfl, .inl h1, ?_⟩
        rw [sumI_eq]
        exact we_int ok q
    · cases e
  · cases e
theorem sc_len {g : Gx} {K : PySem.W.Frag} : SC g (fun xs H Q => ∃ x n, xs = [x] ∧ LenV K x H n ∧ Q (.int n) H) bLen := by
  intro c xs vs Q z ok r e q
  unfold bLen at e
  split at e
  · rename_i x
    obtain ⟨v, rfl, h⟩ := rep1 r
    split at e
    · rename_i ds ex
      cases e
      obtain ⟨a, ws, rfl, h1, h2⟩ := see_lst ok h ex
      refine ⟨_, ds.length, rfl, .inl ⟨ws, .inl h1, (repL_len h2).symm⟩, we_int ok q⟩
    · rename_i ds ex
      cases e
      obtain ⟨a, ws, rfl, h1, h2⟩ := see_tup ok h ex
      refine ⟨_, ds.length, rfl, .inr ⟨ws, SqT.of h1, (repL_len h2).symm⟩, we_int ok q⟩
    · rename_i t ex
      split at e
      · rename_i hb
        cases e
        rw [view_str ex] at h
        rw [rep_str.mp h]
        exact ⟨_, t.length, rfl, ⟨by rw [sS_len]; exact sz5 hb, (sS_len t).symm⟩, we_int ok q⟩
      · cases e
    · cases e
  · cases e

theorem sortI_ins (x : Int) : ∀ l : List Int, (insI x l).Perm (x :: l)
  | [] => List.Perm.refl _
  | y :: r => by
    unfold insI
    split
    · exact List.Perm.refl _
    · exact ((sortI_ins x r).cons y).trans (List.Perm.swap x y r)
theorem sortI_perm : ∀ l : List Int, (sortI l).Perm l
  | [] => List.Perm.refl _
  | x :: r => (sortI_ins x (sortI r)).trans ((sortI_perm r).cons x)
theorem insI_pw (x : Int) : ∀ l : List Int, l.Pairwise (· ≤ ·) → (insI x l).Pairwise (· ≤ ·)
  | [], _ => List.pairwise_singleton _ _
  | y :: r, h => by
    unfold insI
    rw [List.pairwise_cons] at h
    split
    · rename_i hxy
      refine List.pairwise_cons.mpr ⟨fun z hz => ?_, List.pairwise_cons.mpr h⟩
      rcases List.mem_cons.mp hz with e | e
      · subst e; exact hxy
      · exact Int.le_trans hxy (h.1 z e)
    · rename_i hxy
      refine List.pairwise_cons.mpr ⟨fun z hz => ?_, insI_pw x r h.2⟩
      rcases List.mem_cons.mp ((sortI_ins x r).mem_iff.mp hz) with e | e
      · subst e; omega
      · exact h.1 z e
theorem sortI_pw : ∀ l : List Int, (sortI l).Pairwise (· ≤ ·)
  | [] => List.Pairwise.nil
  | x :: r => insI_pw x _ (sortI_pw r)
theorem sorted_one : ∀ {a b : List Int}, a.Perm b → a.Pairwise (· ≤ ·) → b.Pairwise (· ≤ ·) → a = b := fun {a b} p h1 h2 =>
  p.eq_of_pairwise (fun x y _ _ h h' => Int.le_antisymm h h') h1 h2
theorem sc_sorted {g : Gx} {K : PySem.W.Frag} : SC g (rSortedI K) bSorted := by
  intro c xs vs Q z ok r e q
  unfold bSorted at e
  split at e
  · rename_i x
    split at e
    · rename_i ds ex
      cases hl : intsD ds with
      | none => rw [hl] at e; cases e
      | some l =>
        rw [hl] at e; cases e
        obtain ⟨v, rfl, h⟩ := rep1 r
        obtain ⟨a, ws, rfl, h1, h2⟩ := see_lst ok h ex
        have h3 := intsD_of hl h2
        subst h3
        refine ⟨a, l, rfl, .inl h1, fun ns p hp hs hn => ?_⟩
        have e1 : ns = sortI l := sorted_one (hp.trans (sortI_perm l).symm) hs (sortI_pw l)
        subst e1
        exact we_newL ok (repL_ints _) q p hn
    · cases e
  · cases e
theorem seqD_of {g : Gx} {c : Ct} (ok : Ok g c) {x : D} {v : V} {ds : List D} (r : Rep c x v) (e : seqD c.S x = some ds) : ∃ p vs, v = .ref p ∧ ((view c.S x = .lst ds ∧ Rd c.H p (.lst vs)) ∨ (x = .tup ds ∧ c.H p = some (.tup vs))) ∧ RepL c ds vs := by
  unfold seqD at e
  split at e
  · rename_i xs ex
    cases e
    obtain ⟨a, ws, rfl, h1, h2⟩ := see_lst ok r ex
    exact ⟨a, ws, rfl, .inl ⟨ex, h1⟩, h2⟩
  · rename_i xs ex
    cases e
    obtain ⟨a, ws, rfl, h1, h2⟩ := see_tup ok r ex
    have ex : x = .tup ds := by
      cases x with
      | obj k =>
        obtain ⟨o, e1, e2⟩ := view_obj ex (by intro z; cases z)
        have : ∀ o : Ob, o.val ≠ some (.tup ds) := by
          intro o
          induction o with
          | lck o ih => exact ih
          | _ => intro z; cases z
        exact absurd e2 (this o)
      | _ => exact ex
    exact ⟨a, ws, rfl, .inr ⟨ex, h1⟩, h2⟩
  · cases e
theorem sc_list {g : Gx} {K : PySem.W.Frag} : SC g (fun xs H Q => ∃ p ys, xs = [.ref p] ∧ (SqL K H p ys ∨ SqT K H p ys) ∧ ∀ l, H l = none → Q (.ref l) (upd H l (.lst ys))) bList := by
  intro c xs vs Q z ok r e q
  unfold bList at e
  split at e
  · rename_i x
    cases h : seqD c.S x with
    | none => rw [h] at e; cases e
    | some ds =>
      rw [h] at e; cases e
      obtain ⟨v, rfl, rx⟩ := rep1 r
      obtain ⟨p, ws, rfl, h1, h2⟩ := seqD_of ok rx h
      refine ⟨p, ws, rfl, ?_, we_newL ok h2 q⟩
      rcases h1 with ⟨_, h1⟩ | ⟨_, h1⟩
      · exact .inl (.inl h1)
      · exact .inr (SqT.of h1)
  · cases e
theorem sc_tuple {g : Gx} {K : PySem.W.Frag} : SC g (fun xs H Q => ∃ p ys, xs = [.ref p] ∧ ((SqL K H p ys ∧ ∀ l, H l = none → Q (.ref l) (upd H l (.tup ys))) ∨ (SqT K H p ys ∧ Q (.ref p) H))) bTuple := by
  intro c xs vs Q z ok r e q
  unfold bTuple at e
  split at e
  · rename_i x
    cases h : seqD c.S x with
    | none => rw [h] at e; cases e
    | some ds =>
      rw [h] at e; cases e
      obtain ⟨v, rfl, rx⟩ := rep1 r
      obtain ⟨p, ws, rfl, h1, h2⟩ := seqD_of ok rx h
      refine ⟨p, ws, rfl, ?_⟩
      rcases h1 with ⟨_, h1⟩ | ⟨ex, h1⟩
      · exact .inl ⟨.inl h1, we_newT ok h2 q⟩
      · subst ex
        exact .inr ⟨SqT.of h1, WE.here ok rx q⟩
  · cases e
end Sm
end

section
set_option Elab.async false
set_option linter.all false
set_option autoImplicit false
set_option maxRecDepth 100000
set_option maxHeartbeats 4000000
namespace Sm
open PySem L2
/-! ### expressions: the rule and what it does, in one -/
section
variable {g : Gx} {X : Cx} {E : XK}
theorem es_v (i : Nat) {x : Str} {pos : Pos} (hN : X.N[i]? = some x := by rfl) (hv : Vis X.env.scope x := by first | exact Or.inl rfl | exact Or.inr (Or.inl rfl) | exact Or.inr (Or.inr rfl)) (hd : (x == ("__debug__" : Str)) = false := by decide)
    (hcd : (x == ("__classdict__" : Str)) = false := by decide) : ES g X E (.Name x pos) (eV i) :=
  ⟨_, pe_var hN hv hd hcd, fun c σ e Q ok er hp => by
    unfold eV at hp
    cases h : e[i]? with
    | none => simp only [h] at hp; exact hp.elim
    | some o =>
      cases o with
      | none => simp only [h] at hp; exact hp.elim
      | some d =>
        simp only [h] at hp
        obtain ⟨v, h1, h2⟩ := er.2 i d h
        exact ⟨v, h1, WE.here ok h2 hp⟩⟩
theorem es_int {i j pos} : ES g X E (.Constant (.int i) j pos) (eC (.int i)) := ⟨_, pe_int, fun c σ e Q ok er hp => we_int ok hp⟩
theorem es_bl {b j pos} : ES g X E (.Constant (.bool b) j pos) (eC (.bl b)) := ⟨_, pe_bl, fun c σ e Q ok er hp => we_bl ok hp⟩
theorem es_non {j pos} : ES g X E (.Constant .none j pos) (eC .non) := ⟨_, pe_non, fun c σ e Q ok er hp => WE.here ok (rep_non.mpr rfl) hp⟩
theorem es_str (t : Tx) {x : Str} {j pos} (h : x = sS t := by rfl) : ES g X E (.Constant (.str x) j pos) (eC (.str t)) := ⟨_, pe_str, fun c σ e Q ok er hp => by
  show Q (.str x) c.H
  rw [h]
  exact we_str ok hp⟩
theorem PostG.ofO {α β : Type} {c : Ct} {R : β → Store → Prop} {o : Option β} {S : Store} (h : PostG g c E R (ofO o S)) : ∃ b, o = some b ∧ R b S := by
  cases o with
  | none => exact h.elim
  | some b => exact ⟨b, rfl, h⟩
theorem se_op {r : R2} {f : Store → D → D → Option D} {ta tb : TE} {ma mb : ME} (hs : SR g r f) (ha : SE g E ta ma) (hb : SE g E tb mb) : SE g E (tOp r ta tb) (eOp f ma mb) := by
  intro c σ e Q ok er hp
  show ta σ c.H _
  refine bindE ha ok er hp fun c1 x v ok1 l1 r1 rx hp1 => ?_
  show tb σ c1.H _
  refine bindE hb ok1 (er.mono l1) hp1 fun c2 y u ok2 l2 r2 ry hp2 => ?_
  obtain ⟨z, hz, q⟩ := PostG.ofO (α := D) hp2
  exact hs c2 x y v u Q z ok2 (Rep.mono l2 _ _ rx) ry hz (WE.later (l1.trans l2) (r2.trans r1) q)
theorem es_op {op : Operator} {r : R2} {f : Store → D → D → Option D} {a b : Expr} {ma mb : ME} {pos : Pos} (ho : OpR X (binaryOp op) r) (hs : SR g r f) : ES g X E a ma → ES g X E b mb → ES g X E (.BinOp a op b pos) (eOp f ma mb) :=
  fun ⟨ta, pa, sa⟩ ⟨tb, pb, sb⟩ => ⟨_, pe_op ho pa pb, se_op hs sa sb⟩
theorem es_cmp {op : CmpOp} {r : R2} {f : Store → D → D → Option D} {a b : Expr} {ma mb : ME} {pos : Pos} (ho : OpR X (compareOp op) r) (hs : SR g r f) (hm : behindInMarks op b = false := by rfl) : ES g X E a ma → ES g X E b mb → ES g X E (.Compare a [op] [b] pos) (eOp f ma mb) :=
  fun ⟨ta, pa, sa⟩ ⟨tb, pb, sb⟩ => ⟨_, pe_cmpR ho pa pb hm, se_op hs sa sb⟩
/-- f gives a bool -/
def GivesB (f : Store → D → D → Option D) : Prop := ∀ S x y z, f S x y = some z → ∃ b, z = .bl b
theorem bs_cmp {op : CmpOp} {r : R2} {f : Store → D → D → Option D} {a b : Expr} {ma mb : ME} {pos : Pos} (ho : OpR X (compareOp op) r) (hs : SR g r f) (hm : behindInMarks op b = false := by rfl) : ES g X E a ma → ES g X E b mb → BS g X E (.Compare a [op] [b] pos) (tB (eOp f ma mb)) :=
  fun ⟨ta, pa, sa⟩ ⟨tb, pb, sb⟩ => ⟨_, pt_cmpR ho pa pb hm, fun c σ e Q ok er hp => by
    show tOp r ta tb σ c.H _
    refine bindE (R := WB g c Q) (se_op hs sa sb) ok er hp fun c1 x v ok1 l1 r1 rx hp1 => ?_
    cases x <;> first | exact hp1.elim | skip
    rename_i k
    exact ⟨k, rep_bl.mp rx, hp1 c1 ok1 l1 r1 rfl⟩⟩
theorem bs_val {a : Expr} {ma : ME} (he : ∀ whole, isTrue a X.env whole = (do let v ← whole; standAt a.pos; holding [v] (truthy v)) := by intro _; rfl) : ES g X E a ma → BS g X E a (tB ma) :=
  fun ⟨ta, pa, sa⟩ => ⟨_, pt_val pa he, fun c σ e Q ok er hp => by
    show ta σ c.H _
    refine bindE (R := WB g c Q) sa ok er hp fun c1 x v ok1 l1 r1 rx hp1 => ?_
    cases x <;> first | exact hp1.elim | skip
    rename_i k
    exact ⟨k, rep_bl.mp rx, hp1 c1 ok1 l1 r1 rfl⟩⟩
theorem sb_and {ta tb : TT} {ma mb : MB} (ha : SB g E ta ma) (hb : SB g E tb mb) : SB g E (L2.tAnd ta tb) (tAnd ma mb) := by
  intro c σ e Q ok er hp
  show ta σ c.H _
  refine bindB ha ok er hp fun c1 x ok1 l1 r1 hp1 => ?_
  cases x with
  | true =>
    rw [if_pos rfl] at hp1
    rw [if_pos rfl]
    refine hb c1 σ e Q ok1 (er.mono l1) ?_
    revert hp1
    cases mb e c1.S with
    | bad => exact id
    | exc k S => exact id
    | ok b S => exact fun hp1 c' ok' l' r' s' => hp1 c' ok' (l1.trans l') (r'.trans r1) s'
  | false =>
    rw [if_neg (by decide)] at hp1
    rw [if_neg (by decide)]
    exact hp1 c1 ok1 l1 r1 rfl
theorem sb_or {ta tb : TT} {ma mb : MB} (ha : SB g E ta ma) (hb : SB g E tb mb) : SB g E (L2.tOr ta tb) (tOr ma mb) := by
  intro c σ e Q ok er hp
  show ta σ c.H _
  refine bindB ha ok er hp fun c1 x ok1 l1 r1 hp1 => ?_
  cases x with
  | true =>
    rw [if_pos rfl] at hp1
    rw [if_pos rfl]
    exact hp1 c1 ok1 l1 r1 rfl
  | false =>
    rw [if_neg (by decide)] at hp1
    rw [if_neg (by decide)]
    refine hb c1 σ e Q ok1 (er.mono l1) ?_
    revert hp1
    cases mb e c1.S with
    | bad => exact id
    | exc k S => exact id
    | ok b S => exact fun hp1 c' ok' l' r' s' => hp1 c' ok' (l1.trans l') (r'.trans r1) s'
theorem bw_and1 {a : Expr} {ma : MB} {pos : Pos} : BS g X E a ma → BW g X E (.BoolOp .And [a] pos) ma := fun ⟨ta, pa, sa⟩ => ⟨_, pw_and1 pa, sa⟩
theorem bw_or1 {a : Expr} {ma : MB} {pos : Pos} : BS g X E a ma → BW g X E (.BoolOp .Or [a] pos) ma := fun ⟨ta, pa, sa⟩ => ⟨_, pw_or1 pa, sa⟩
theorem bw_and {a b : Expr} {r : List Expr} {ma mb : MB} {pos : Pos} : BS g X E a ma → BW g X E (.BoolOp .And (b :: r) pos) mb → BW g X E (.BoolOp .And (a :: b :: r) pos) (tAnd ma mb) :=
  fun ⟨ta, pa, sa⟩ ⟨tb, pb, sb⟩ => ⟨_, pw_and pa pb, sb_and sa sb⟩
theorem bw_or {a b : Expr} {r : List Expr} {ma mb : MB} {pos : Pos} : BS g X E a ma → BW g X E (.BoolOp .Or (b :: r) pos) mb → BW g X E (.BoolOp .Or (a :: b :: r) pos) (tOr ma mb) :=
  fun ⟨ta, pa, sa⟩ ⟨tb, pb, sb⟩ => ⟨_, pw_or pa pb, sb_or sa sb⟩
theorem bs_w {a : Expr} {ma : MB} : BW g X E a ma → BS g X E a ma := fun ⟨ta, pa, sa⟩ => ⟨_, pa.pt, sa⟩
theorem bs_not {a : Expr} {ma : MB} {pos : Pos} : BS g X E a ma → BS g X E (.UnaryOp .Not a pos) (tNot ma) := fun ⟨ta, pa, sa⟩ => ⟨_, pt_not pa, fun c σ e Q ok er hp => by
  show ta σ c.H _
  refine bindB (R := WB g c Q) sa ok er hp fun c1 x ok1 l1 r1 hp1 => ?_
  exact hp1 c1 ok1 l1 r1 rfl⟩
theorem es_un {op : UnaryOp} {r : V → Hp → VK → Prop} {f : Store → D → Option D} {a : Expr} {ma : ME} {pos : Pos} (ho : UnR X (unaryOp op) r) (hs : SU g r f) : ES g X E a ma → ES g X E (.UnaryOp op a pos) (eUn f ma) :=
  fun ⟨ta, pa, sa⟩ => ⟨_, pe_un ho pa, fun c σ e Q ok er hp => by
    show ta σ c.H _
    refine bindE (R := WE g c Q) sa ok er hp fun c1 x v ok1 l1 r1 rx hp1 => ?_
    obtain ⟨z, hz, q⟩ := PostG.ofO (α := D) hp1
    exact hs c1 x v Q z ok1 rx hz (WE.later l1 r1 q)⟩
theorem es_not {a : Expr} {ma : ME} {pos : Pos} : ES g X E a ma → ES g X E (.UnaryOp .Not a pos) (eUn uNot ma) := fun ⟨ta, pa, sa⟩ => ⟨_, pe_not pa, fun c σ e Q ok er hp => by
  show ta σ c.H _
  refine bindE (R := WE g c Q) sa ok er hp fun c1 x v ok1 l1 r1 rx hp1 => ?_
  obtain ⟨z, hz, q⟩ := PostG.ofO (α := D) hp1
  unfold uNot at hz
  split at hz
  · cases hz
    exact ⟨_, rep_bl.mp rx, we_bl ok1 (WE.later l1 r1 q)⟩
  · cases hz⟩
/-- the wish of the rest, from a later state -/
theorem postE_later {c c1 : Ct} {Q : VK} (l : Le c c1) (r : RsE c1 c) : ∀ {o : Out D}, PostG g c1 E (WE g c Q) o → PostG g c1 E (WE g c1 Q) o
  | .ok d S, h => WE.later l r h
  | .exc k S, h => h
  | .bad, h => h
theorem postB_later {c c1 : Ct} {Q : Bool → Hp → Prop} (l : Le c c1) (r : RsE c1 c) : ∀ {o : Out Bool}, PostG g c1 E (WB g c Q) o → PostG g c1 E (WB g c1 Q) o
  | .ok d S, h => fun c' ok' l' r' s' => h c' ok' (l.trans l') (r'.trans r) s'
  | .exc k S, h => h
  | .bad, h => h
theorem es_and {a b : Expr} {r : List Expr} {ma mb : ME} {pos : Pos} : ES g X E a ma → ES g X E (.BoolOp .And (b :: r) pos) mb → ES g X E (.BoolOp .And (a :: b :: r) pos) (eAnd ma mb) :=
  fun ⟨ta, pa, sa⟩ ⟨tb, pb, sb⟩ => ⟨_, pe_and pa pb, fun c σ e Q ok er hp => by
    show ta σ c.H _
    refine bindE (R := WE g c Q) sa ok er hp fun c1 x v ok1 l1 r1 rx hp1 => ?_
    cases x <;> first | exact hp1.elim | skip
    rename_i k
    refine ⟨k, rep_bl.mp rx, ?_⟩
    cases k with
    | true =>
      rw [if_pos rfl]
      exact sb c1 σ e Q ok1 (er.mono l1) (postE_later l1 r1 hp1)
    | false =>
      rw [if_neg (by decide)]
      exact we_bl ok1 (WE.later l1 r1 hp1)⟩
theorem es_or {a b : Expr} {r : List Expr} {ma mb : ME} {pos : Pos} : ES g X E a ma → ES g X E (.BoolOp .Or (b :: r) pos) mb → ES g X E (.BoolOp .Or (a :: b :: r) pos) (eOr ma mb) :=
  fun ⟨ta, pa, sa⟩ ⟨tb, pb, sb⟩ => ⟨_, pe_or pa pb, fun c σ e Q ok er hp => by
    show ta σ c.H _
    refine bindE (R := WE g c Q) sa ok er hp fun c1 x v ok1 l1 r1 rx hp1 => ?_
    cases x <;> first | exact hp1.elim | skip
    rename_i k
    refine ⟨k, rep_bl.mp rx, ?_⟩
    cases k with
    | true =>
      rw [if_pos rfl]
      exact we_bl ok1 (WE.later l1 r1 hp1)
    | false =>
      rw [if_neg (by decide)]
      exact sb c1 σ e Q ok1 (er.mono l1) (postE_later l1 r1 hp1)⟩
theorem es_one {op : PySem.BoolOp} {a : Expr} {ma : ME} {pos : Pos} : ES g X E a ma → ES g X E (.BoolOp op [a] pos) ma := fun ⟨ta, pa, sa⟩ => ⟨_, pe_one pa, sa⟩
theorem es_if {t a b : Expr} {mt : MB} {ma mb : ME} {pos : Pos} : BS g X E t mt → ES g X E a ma → ES g X E b mb → ES g X E (.IfExp t a b pos) (eIf mt ma mb) :=
  fun ⟨tt, pt, st⟩ ⟨ta, pa, sa⟩ ⟨tb, pb, sb⟩ => ⟨_, pe_ifExp pt pa pb, fun c σ e Q ok er hp => by
    show tt σ c.H _
    refine bindB (R := WE g c Q) st ok er hp fun c1 x ok1 l1 r1 hp1 => ?_
    cases x with
    | true =>
      rw [if_pos rfl] at hp1 ⊢
      exact sa c1 σ e Q ok1 (er.mono l1) (postE_later l1 r1 hp1)
    | false =>
      rw [if_neg (by decide)] at hp1 ⊢
      exact sb c1 σ e Q ok1 (er.mono l1) (postE_later l1 r1 hp1)⟩
theorem as_nil : AS g X E [] aNil := ⟨_, pa_nil, fun c σ e Q ok er hp => hp c [] ok (Le.refl c) (RsE.refl c) rfl (repL_nil.mpr rfl), fun e S ds S' h => by cases h; rfl⟩
theorem alen_cons {n : Nat} {m : ME} {mr : MA} (h : ALen n mr) : ALen (n + 1) (aCons m mr) := fun e S ds S' q => by
  unfold aCons at q
  cases h1 : m e S with
  | bad => rw [h1] at q; cases q
  | exc k S1 => rw [h1] at q; cases q
  | ok x S1 =>
    rw [h1] at q
    have q : (mr e S1).bind (fun xs S2 => Out.ok (x :: xs) S2) = .ok ds S' := q
    cases h2 : mr e S1 with
    | bad => rw [h2] at q; cases q
    | exc k S2 => rw [h2] at q; cases q
    | ok xs S2 =>
      rw [h2] at q
      cases q
      rw [List.length_cons, h e S1 xs _ h2]
theorem as_cons {e : Expr} {es : List Expr} {m : ME} {mr : MA} (hs : starEach (e :: es) X.env = (false, eval e X.env) :: starEach es X.env := by rfl) : ES g X E e m → AS g X E es mr → AS g X E (e :: es) (aCons m mr) :=
  fun ⟨ta, pa, sa⟩ ⟨tb, pb, sb, al⟩ => ⟨_, pa_cons pa pb hs, fun c σ e Q ok er hp => by
    show ta σ c.H _
    refine bindE (R := WA g c Q) sa ok er hp fun c1 x v ok1 l1 r1 rx hp1 => ?_
    show tb σ c1.H _
    refine bindA (R := WA g c Q) sb ok1 (er.mono l1) hp1 fun c2 xs vs ok2 l2 r2 rxs hp2 => ?_
    exact hp2 c2 (v :: vs) ok2 (l1.trans l2) (r2.trans r1) rfl (repL_cons.mpr ⟨v, vs, rfl, Rep.mono l2 _ _ rx, rxs⟩), alen_cons al⟩
theorem sz3 {n : Nat} (h : n ≤ 1000) : n ≤ sizeLine := Nat.le_trans h (by rw [sizeLine_eq]; decide)
theorem es_tup {es : List Expr} {m : MA} {x1} {pos : Pos} : AS g X E es m → ES g X E (.Tuple es x1 pos) (eTup m) := fun ⟨ta, pa, sa, _⟩ => ⟨_, pe_tup pa, fun c σ e Q ok er hp => by
  show ta σ c.H _
  refine bindA (R := WE g c Q) sa ok er hp fun c1 xs vs ok1 l1 r1 rx hp1 => ?_
  split at hp1
  · rename_i hb
    exact ⟨by rw [repL_len rx]; exact sz3 hb, we_newT ok1 rx (WE.later l1 r1 hp1)⟩
  · exact hp1.elim⟩
theorem es_lst {es : List Expr} {m : MA} {pos : Pos} : AS g X E es m → ES g X E (.List es pos) (eLst m) := fun ⟨ta, pa, sa, _⟩ => ⟨_, pe_lst pa, fun c σ e Q ok er hp => by
  show ta σ c.H _
  refine bindA (R := WE g c Q) sa ok er hp fun c1 xs vs ok1 l1 r1 rx hp1 => ?_
  split at hp1
  · rename_i hb
    exact ⟨by rw [repL_len rx]; exact sz3 hb, we_newL ok1 rx (WE.later l1 r1 hp1)⟩
  · exact hp1.elim⟩
theorem es_ix {a b : Expr} {ma mb : ME} {pos : Pos} (hs : PlainIx b := by intro _ _; rfl) : ES g X E a ma → ES g X E b mb → ES g X E (.Subscript a b pos) (eOp oIx ma mb) :=
  fun ⟨ta, pa, sa⟩ ⟨tb, pb, sb⟩ => ⟨_, pe_ix ix_seq pa pb hs, se_op sr_ix sa sb⟩
theorem es_cb {x : Str} {id : String} {r : List V → Hp → VK → Prop} {f : Store → List D → Option D} {e : Expr} {es : List Expr} {m : MA} {p pos : Pos} (hc : CallR X (.builtin id) r) (hs : SC g r f) (hm : X.mg x = none) (hv : bootBuiltins x = some (.builtin id)) (hg : Gl X x := by rfl)
    (hn : x ≠ "__name__" := by decide) (hdb : (x == ("__debug__" : Str)) = false := by decide) (he : starEach (e :: es) X.env = (false, eval e X.env) :: starEach es X.env := by rfl) (hpl : (backTo pos (starEach es X.env)).any (·.1) = false := by rfl) :
    AS g X E (e :: es) m → ES g X E (.Call (.Name x p) (e :: es) [] pos) (eCB f m) := fun ⟨ta, pa, sa, _⟩ => ⟨_, pe_callB hc hg hm hv pa hn hdb he hpl, fun c σ e Q ok er hp => by
  show ta σ c.H _
  refine bindA (R := WE g c Q) sa ok er hp fun c1 xs vs ok1 l1 r1 rx hp1 => ?_
  obtain ⟨z, hz, q⟩ := PostG.ofO (α := D) hp1
  exact hs c1 xs vs Q z ok1 rx hz (WE.later l1 r1 q)⟩
theorem es_cty {x : Str} {T : String} {r : List V → Hp → VK → Prop} {f : Store → List D → Option D} {e : Expr} {es : List Expr} {m : MA} {p pos : Pos} (hc : CallR X (.type T) r) (hs : SC g r f) (hm : X.mg x = none) (hv : bootBuiltins x = some (.type T)) (hg : Gl X x := by rfl)
    (hn : x ≠ "__name__" := by decide) (hdb : (x == ("__debug__" : Str)) = false := by decide) (he : starEach (e :: es) X.env = (false, eval e X.env) :: starEach es X.env := by rfl) (hpl : (backTo pos (starEach es X.env)).any (·.1) = false := by rfl) :
    AS g X E (e :: es) m → ES g X E (.Call (.Name x p) (e :: es) [] pos) (eCB f m) := fun ⟨ta, pa, sa, _⟩ => ⟨_, pe_callTy hc hg hm hv pa hn hdb he hpl, fun c σ e Q ok er hp => by
  show ta σ c.H _
  refine bindA (R := WE g c Q) sa ok er hp fun c1 xs vs ok1 l1 r1 rx hp1 => ?_
  obtain ⟨z, hz, q⟩ := PostG.ofO (α := D) hp1
  exact hs c1 xs vs Q z ok1 rx hz (WE.later l1 r1 q)⟩
end
end Sm
end

section
set_option Elab.async false
set_option linter.all false
set_option autoImplicit false
set_option maxRecDepth 100000
set_option maxHeartbeats 4000000
namespace Sm
open PySem L2
section
variable {g : Gx} {X : Cx} {E : XK}
theorem chain_hp {f h : Store → D → D → Option D} {mc : ME} {e : Env} {c : Ct} {x y : D} {Q : Out D → Prop}
    (hp : Q (match f c.S x y with
      | some (.bl true) => (mc e c.S).bind fun z S3 => ofO (h S3 y z) S3
      | some (.bl false) => .ok (.bl false) c.S
      | _ => .bad)) (hq : ¬ Q .bad) : ∃ b, f c.S x y = some (.bl b) ∧ Q (if b = true then (mc e c.S).bind fun z S3 => ofO (h S3 y z) S3 else .ok (.bl false) c.S) := by
  cases q : f c.S x y with
  | none => simp only [q] at hp; exact absurd hp hq
  | some d =>
    cases d <;> first | (simp only [q] at hp; exact absurd hp hq) | skip
    rename_i b
    refine ⟨b, rfl, ?_⟩
    cases b with
    | true => simp only [q] at hp; simpa using hp
    | false => simp only [q] at hp; simpa using hp
theorem se_chain {r r' : R2} {f h : Store → D → D → Option D} {ta tb tc : TE} {ma mb mc : ME} (hs : SR g r f) (hs' : SR g r' h) (sa : SE g E ta ma) (sb : SE g E tb mb) (sc : SE g E tc mc) : SE g E (tChain r r' ta tb tc) (eChain f h ma mb mc) := by
  intro c σ e Q ok er hp
  show ta σ c.H _
  refine bindE (R := WE g c Q) sa ok er hp fun c1 x v ok1 l1 r1 rx hp1 => ?_
  show tb σ c1.H _
  refine bindE (R := WE g c Q) sb ok1 (er.mono l1) hp1 fun c2 y u ok2 l2 r2 ry hp2 => ?_
  obtain ⟨b, e1, hp3⟩ := chain_hp (Q := PostG g c2 E (WE g c Q)) hp2 (fun z => z)
  refine hs c2 x y v u _ (.bl b) ok2 (Rep.mono l2 _ _ rx) ry e1 fun c3 w ok3 l3 r3 s3 rw3 => ?_
  refine ⟨b, rep_bl.mp rw3, ?_⟩
  cases b with
  | true =>
    rw [if_pos rfl] at hp3 ⊢
    rw [← s3] at hp3
    show tc σ c3.H _
    have l13 := l2.trans l3
    refine bindE (R := WE g c Q) sc ok3 (er.mono (l1.trans l13)) (PostG.later l3 r3 hp3) fun c4 z w4 ok4 l4 r4 rz hp4 => ?_
    obtain ⟨z', hz, q⟩ := PostG.ofO (α := D) hp4
    exact hs' c4 y z u w4 Q z' ok4 (Rep.mono (l3.trans l4) _ _ ry) rz hz (WE.later (l1.trans (l13.trans l4)) (r4.trans (r3.trans (r2.trans r1))) q)
  | false =>
    rw [if_neg (by decide)] at hp3 ⊢
    rw [← s3] at hp3
    exact we_bl ok3 (WE.later (l1.trans (l2.trans l3)) (r3.trans (r2.trans r1)) hp3)
theorem es_chain {op op' : CmpOp} {r r' : R2} {f h : Store → D → D → Option D} {a b d : Expr} {ma mb mc : ME} {pos : Pos} (ho : OpR X (compareOp op) r) (hs : SR g r f) (ho' : OpR X (compareOp op') r') (hs' : SR g r' h) (hm : lastMarks [op, op'] [b, d] = false := by with_unfolding_all rfl) :
    ES g X E a ma → ES g X E b mb → ES g X E d mc → ES g X E (.Compare a [op, op'] [b, d] pos) (eChain f h ma mb mc) :=
  fun ⟨ta, pa, sa⟩ ⟨tb, pb, sb⟩ ⟨tc, pc, sc⟩ => ⟨_, pe_chain ho ho' pa pb pc hm, se_chain hs hs' sa sb sc⟩
/-- the chain as a test -/
theorem bs_chain {op op' : CmpOp} {r r' : R2} {f h : Store → D → D → Option D} {a b d : Expr} {ma mb mc : ME} {pos : Pos} (ho : OpR X (compareOp op) r) (hs : SR g r f) (ho' : OpR X (compareOp op') r') (hs' : SR g r' h) (hm : lastMarks [op, op'] [b, d] = false := by with_unfolding_all rfl) :
    ES g X E a ma → ES g X E b mb → ES g X E d mc → BS g X E (.Compare a [op, op'] [b, d] pos) (tB (eChain f h ma mb mc)) :=
  fun ⟨ta, pa, sa⟩ ⟨tb, pb, sb⟩ ⟨tc, pc, sc⟩ => ⟨_, pt_chain ho ho' pa pb pc hm, fun c σ e Q ok er hp => by
    show tChain r r' ta tb tc σ c.H _
    refine bindE (R := WB g c Q) (se_chain hs hs' sa sb sc) ok er hp fun c1 x v ok1 l1 r1 rx hp1 => ?_
    cases x <;> first | exact hp1.elim | skip
    rename_i k
    exact ⟨k, rep_bl.mp rx, hp1 c1 ok1 l1 r1 rfl⟩⟩
/-! ### instances -/
theorem repF_look {c : Ct} {i : Nat} {d : D} : ∀ {fs : List (Nat × D)} {us : List (Str × V)}, RepF g c fs us → getF i fs = some d → ∃ v, us.lookup (g.fn i) = some v ∧ Rep c d v
  | [], _, _, e => by cases e
  | (k, x) :: r, us, h, e => by
    obtain ⟨v, q, rfl, h1, h2⟩ := h
    unfold getF at e
    by_cases hk : k = i
    · subst hk
      rw [if_pos rfl] at e
      cases e
      exact ⟨v, by simp [List.lookup], h1⟩
    · rw [if_neg hk] at e
      obtain ⟨w, a, b⟩ := repF_look h2 e
      refine ⟨w, ?_, b⟩
      have : (g.fn i == g.fn k) = false := beq_eq_false_iff_ne.mpr fun z => hk (g.fni _ _ z).symm
      simp only [List.lookup, this]
      exact a
theorem repF_no {c : Ct} {m : Str} (hm : ∀ i, g.fn i ≠ m) : ∀ {fs : List (Nat × D)} {us : List (Str × V)}, RepF g c fs us → us.lookup m = none
  | [], us, h => by
    have h : us = [] := h
    subst h; rfl
  | (k, x) :: r, us, h => by
    obtain ⟨v, q, rfl, h1, h2⟩ := h
    have : (m == g.fn k) = false := beq_eq_false_iff_ne.mpr fun z => hm k z.symm
    simp only [List.lookup, this]
    exact repF_no hm h2
theorem repF_len {c : Ct} : ∀ {fs : List (Nat × D)} {us : List (Str × V)}, RepF g c fs us → us.length = fs.length
  | [], us, h => by
    have h : us = [] := h
    subst h; rfl
  | (k, x) :: r, us, h => by
    obtain ⟨v, q, rfl, h1, h2⟩ := h
    rw [List.length_cons, List.length_cons, repF_len h2]
theorem repF_put {c : Ct} {i : Nat} {d : D} {v : V} (hd : Rep c d v) : ∀ {fs : List (Nat × D)} {us : List (Str × V)}, RepF g c fs us → RepF g c (putF i d fs) (L2.putF (g.fn i) v us)
  | [], us, h => by
    have h : us = [] := h
    subst h
    exact ⟨v, [], rfl, hd, rfl⟩
  | (k, x) :: r, us, h => by
    obtain ⟨w, q, rfl, h1, h2⟩ := h
    unfold putF
    by_cases hk : k = i
    · subst hk
      rw [if_pos rfl]
      show RepF g c ((k, d) :: r) (if g.fn k = g.fn k then _ else _)
      rw [if_pos rfl]
      exact ⟨v, q, rfl, hd, h2⟩
    · rw [if_neg hk]
      show RepF g c ((k, x) :: putF i d r) (if g.fn k = g.fn i then _ else _)
      rw [if_neg (fun z => hk (g.fni _ _ z))]
      exact ⟨w, _, rfl, h1, repF_put hd h2⟩
theorem insAt_of {c : Ct} (ok : Ok g c) {x : D} {v : V} {r k : Nat} {fs : List (Nat × D)} (rx : Rep c x v) (e : insAt c.S x = some (r, k, fs)) :
    x = .obj r ∧ c.live r ∧ c.S[r]? = some (.ins k fs) ∧ v = .ref (c.ι r) ∧ ∃ dx us, c.H (c.ι r) = some (.ins (g.cl k) dx us) ∧ RepF g c fs us := by
  cases x <;> first | (simp [insAt] at e; done) | skip
  rename_i j
  unfold insAt at e
  dsimp only at e
  cases h : c.S[j]? with
  | none => simp only [h] at e; cases e
  | some o =>
    cases o <;> first | (simp only [h] at e; cases e; done) | skip
    simp only [h] at e
    cases e
    have hl := live_of h (by intro z; cases z)
    exact ⟨rfl, hl, h, (rep_obj.mp rx).2 hl, ok.at_ _ _ h⟩
/-- what is known of the classes -/
structure CK (g : Gx) (X : Cx) : Prop where
  K : X.K = g.K
  cls : ∀ k, Cls X.K (g.cl k)
theorem es_fld (i : Nat) {a : Expr} {n : Str} {ma : ME} {pos : Pos} (hn : n = g.fn i) (hc : ∀ k, Cls X.K (g.cl k) ∧ NoAttr X.K (g.cl k) n) (hb : attributeBase a n X.env (eval a X.env) = eval a X.env := by rfl) : ES g X E a ma → ES g X E (.Attribute a n pos) (eFld i ma) :=
  fun ⟨ta, pa, sa⟩ => ⟨_, pe_fld pa hb, fun c σ e Q ok er hp => by
    show ta σ c.H _
    refine bindE (R := WE g c Q) sa ok er hp fun c1 x v ok1 l1 r1 rx hp1 => ?_
    cases h : insAt c1.S x with
    | none => simp only [h] at hp1; exact hp1.elim
    | some p =>
      obtain ⟨r, k, fs⟩ := p
      simp only [h] at hp1
      obtain ⟨d, hd, q⟩ := PostG.ofO (α := D) hp1
      obtain ⟨_, hl, _, rfl, dx, us, h1, h2⟩ := insAt_of ok1 rx h
      obtain ⟨w, h3, h4⟩ := repF_look h2 hd
      exact ⟨c1.ι r, g.cl k, dx, us, w, rfl, h1, (hc k).1, (hc k).2, by rw [hn]; exact h3, WE.here ok1 h4 (WE.later l1 r1 q)⟩⟩
/-! ### defs: their promise by the mirror -/
def spOf (g : Gx) (n : Nat) (m : Fn) : Sp := fun vs H Q E => vs.length = n ∧ ∃ c ds, c.H = H ∧ Ok g c ∧ RepL c ds vs ∧ PostG g c E (WE g c Q) (m ds c.S)
/-- a def of the module; a method; a class that is made -/
def FnF (g : Gx) (P : Program) (w : World) (K : PySem.W.Frag) (mg : Str → Option Value) (base : Heap) (k : Nat) (x : Str) (ps : List Str) (m : Fn) : Prop :=
  ∃ f fd, FnOk P w K mg base (L2.CX P w) k f fd ps (spOf g ps.length m) ∧ mg x = some (.ref f) ∧ PySem.W.keepIn K (.ref f) = true ∧ Binds K fd ps []
def MeF (g : Gx) (P : Program) (w : World) (K : PySem.W.Frag) (mg : Str → Option Value) (base : Heap) (k : Nat) (C : Addr) (x : Str) (ps : List Str) (m : Fn) : Prop :=
  ∃ f fd, FnOk P w K mg base (L2.CX P w) k f fd ps (spOf g ps.length m) ∧ Meth K C x f ∧ Binds K fd ps [] ∧ Cls K C ∧ ∀ i, g.fn i ≠ x
def MkF (g : Gx) (P : Program) (w : World) (K : PySem.W.Frag) (mg : Str → Option Value) (base : Heap) (k : Nat) (C : Addr) (x : Str) (ps : List Str) (m : Fn) : Prop :=
  ∃ f fd, FnOk P w K mg base (L2.CX P w) k f fd ps (spOf g ps.length m) ∧ mg x = some (.ref C) ∧ Mk K C f ∧ Binds K fd ps []
theorem run_sp {c c1 : Ct} {ds : List D} {vs : List V} {n : Nat} {m : Fn} {Q : VK} (ok1 : Ok g c1) (l1 : Le c c1) (r1 : RsE c1 c) (rx : RepL c1 ds vs) (hl : ds.length = n) (hp : PostG g c1 E (WE g c Q) (m ds c1.S)) : spOf g n m vs c1.H Q E :=
  ⟨by rw [repL_len rx]; exact hl, c1, ds, rfl, ok1, rx, postE_later l1 r1 hp⟩
theorem bindAL {t : TA} {m : MA} {n : Nat} {c : Ct} {σ : L2.St} {e : Env} {β : Type} {R : β → Store → Prop} {Q : List V → Hp → Prop} {f : List D → Store → Out β} (h : SA g E t m) (al : ALen n m) (ok : Ok g c) (er : EnvR c e σ) (hp : PostG g c E R ((m e c.S).bind f))
    (k : ∀ c1 ds vs, Ok g c1 → Le c c1 → RsE c1 c → RepL c1 ds vs → ds.length = n → PostG g c1 E R (f ds c1.S) → Q vs c1.H) : t σ c.H Q := by
  refine h c σ e Q ok er ?_
  cases q : m e c.S with
  | bad => rw [q] at hp; exact hp
  | exc j S => rw [q] at hp; exact hp
  | ok d S =>
    rw [q] at hp
    intro c1 v ok1 l1 r1 s1 rp
    exact k c1 d v ok1 l1 r1 rp (al _ _ _ _ q) (by rw [s1]; exact PostG.later l1 r1 hp)
theorem es_call {k : Nat} {ps : List Str} {x : Str} {m : Fn} {mr : MA} {p pos : Pos} {e : Expr} {es : List Expr} (xo : XO g X E) (F : FnF g X.prog X.w X.K X.mg X.base k x ps m) (hr : Room k X.A) (hl : (e :: es).length = ps.length := by rfl)
    (hg : Gl X x := by rfl) (hdb : (x == ("__debug__" : Str)) = false := by decide) (he : starEach (e :: es) X.env = (false, eval e X.env) :: starEach es X.env := by rfl) (hpl : (backTo pos (starEach es X.env)).any (·.1) = false := by rfl) :
    AS g X E (e :: es) mr → ES g X E (.Call (.Name x p) (e :: es) [] pos) (eCall m mr) := fun ⟨ta, pa, sa, al⟩ => by
  obtain ⟨f, fd, F, hm, hk, hb⟩ := F
  refine ⟨_, pe_call (dvs := []) F hr hg hm hk hb .nil xo.pass pa hdb he hpl, fun c σ e0 Q ok er hp => ?_⟩
  show ta σ c.H _
  refine bindAL (R := WE g c Q) sa al ok er hp fun c1 ds vs ok1 l1 r1 rx hlen hp1 => ?_
  rw [List.append_nil]
  exact run_sp ok1 l1 r1 rx (hlen.trans hl) hp1
theorem es_call0 {k : Nat} {x : Str} {m : Fn} {p pos : Pos} (xo : XO g X E) (F : FnF g X.prog X.w X.K X.mg X.base k x [] m) (hr : Room k X.A) (hg : Gl X x := by rfl) (hdb : (x == ("__debug__" : Str)) = false := by decide) : ES g X E (.Call (.Name x p) [] [] pos) (eCall m aNil) := by
  obtain ⟨f, fd, F, hm, hk, hb⟩ := F
  refine ⟨_, pe_call0 (dvs := []) F hr hg hm hk hb .nil xo.pass hdb, fun c σ e0 Q ok er hp => ?_⟩
  exact run_sp (ds := []) ok (Le.refl c) (RsE.refl c) (repL_nil.mpr rfl) rfl hp
theorem es_meth {pl : Sem Bool} {k kc : Nat} {ps : List Str} {x : Str} {m : Fn} {mo : ME} {mr : MA} {apos pos : Pos} {o e : Expr} {es : List Expr} (xo : XO g X E) (F : MeF g X.prog X.w X.K X.mg X.base k (g.cl kc) x ps m) (hr : Room k X.A) (hl : (e :: es).length + 1 = ps.length := by rfl)
    (hst : starEach (e :: es) X.env = (false, eval e X.env) :: starEach es X.env := by rfl) (hpl : (backTo pos (starEach es X.env)).any (·.1) = false := by rfl)
    (ht : eval (.Call (.Attribute o x apos) (e :: es) [] pos) X.env = (do
      let ov ← eval o X.env
      standAt apos.atName
      let (f, first) ← holding [ov] (getMethod ov x pl)
      callWith pos f first (backTo pos (starEach (e :: es) X.env)) (backToKw pos (keywordEach [] X.env))) := by rfl) :
    ES g X E o mo → AS g X E (e :: es) mr → ES g X E (.Call (.Attribute o x apos) (e :: es) [] pos) (eMeth kc m mo mr) := fun ⟨to, po, so⟩ ⟨ta, pa, sa, al⟩ => by
  obtain ⟨f, fd, F, hm, hb, hc, hn⟩ := F
  refine ⟨_, pe_meth (dvs := []) (pl := pl) po hc hm F hr hb .nil xo.pass pa hst hpl ht, fun c σ e0 Q ok er hp => ?_⟩
  show to σ c.H _
  refine bindE (R := WE g c Q) so ok er hp fun c1 xd v ok1 l1 r1 rx hp1 => ?_
  cases h : insAt c1.S xd with
  | none => simp only [h] at hp1; exact hp1.elim
  | some p =>
    obtain ⟨r, k', fs⟩ := p
    simp only [h] at hp1
    by_cases hk : k' = kc
    · subst hk
      rw [if_pos rfl] at hp1
      obtain ⟨rfl, hl1, _, rfl, dx, us, h1, h2⟩ := insAt_of ok1 rx h
      refine ⟨c1.ι r, dx, us, rfl, h1, repF_no hn h2, ?_⟩
      show ta σ c1.H _
      refine bindAL (R := WE g c Q) sa al ok1 (er.mono l1) hp1 fun c2 ds vs ok2 l2 r2 rxs hlen hp2 => ?_
      rw [List.append_nil]
      exact run_sp ok2 (l1.trans l2) (r2.trans r1) (repL_cons.mpr ⟨_, _, rfl, Rep.mono l2 _ _ rx, rxs⟩) (by rw [List.length_cons, hlen]; exact hl) hp2
    · rw [if_neg hk] at hp1; exact hp1.elim
theorem es_meth0 {pl : Sem Bool} {k kc : Nat} {ps : List Str} {x : Str} {m : Fn} {mo : ME} {apos pos : Pos} {o : Expr} (xo : XO g X E) (F : MeF g X.prog X.w X.K X.mg X.base k (g.cl kc) x ps m) (hr : Room k X.A) (hl : 1 = ps.length := by rfl)
    (ht : eval (.Call (.Attribute o x apos) [] [] pos) X.env = (do
      let ov ← eval o X.env
      standAt apos.atName
      let (f, first) ← holding [ov] (getMethod ov x pl)
      callWith pos f first (backTo pos (starEach [] X.env)) (backToKw pos (keywordEach [] X.env))) := by rfl) :
    ES g X E o mo → ES g X E (.Call (.Attribute o x apos) [] [] pos) (eMeth kc m mo aNil) := fun ⟨to, po, so⟩ => by
  obtain ⟨f, fd, F, hm, hb, hc, hn⟩ := F
  refine ⟨_, pe_meth0 (dvs := []) (pl := pl) po hc hm F hr hb .nil xo.pass ht, fun c σ e0 Q ok er hp => ?_⟩
  show to σ c.H _
  refine bindE (R := WE g c Q) so ok er hp fun c1 xd v ok1 l1 r1 rx hp1 => ?_
  cases h : insAt c1.S xd with
  | none => simp only [h] at hp1; exact hp1.elim
  | some p =>
    obtain ⟨r, k', fs⟩ := p
    simp only [h] at hp1
    by_cases hk : k' = kc
    · subst hk
      rw [if_pos rfl] at hp1
      obtain ⟨rfl, hl1, _, rfl, dx, us, h1, h2⟩ := insAt_of ok1 rx h
      refine ⟨c1.ι r, dx, us, rfl, h1, repF_no hn h2, ?_⟩
      have hp2 : PostG g c1 E (WE g c Q) (m [.obj r] c1.S) := hp1
      exact run_sp (ds := [.obj r]) ok1 l1 r1 (repL_one rx) hl hp2
    · rw [if_neg hk] at hp1; exact hp1.elim
/-- a new instance is laid, with nothing in it -/
theorem made_ok {c : Ct} (ok : Ok g c) {x dx : Addr} {k : Nat} (hx : c.H x = none) (hd : c.H dx = none) (hne : dx ≠ x) :
    ∃ c', Ok g c' ∧ Le c c' ∧ RsE c' c ∧ c'.S = c.S ++ [.ins k []] ∧ c'.H = upd (upd c.H dx (.own x)) x (.ins (g.cl k) dx []) ∧ Rep c' (.obj c.S.length) (.ref x) := by
  have ok1 := ok.new (o := .own x) hd
  have l1 := Le.new (o := .own x) hd
  have hx1 : ({ c with H := upd c.H dx (.own x) } : Ct).H x = none := by
    show upd c.H dx (.own x) x = none
    rw [upd_ne (Ne.symm hne)]; exact hx
  have ok2 := ok1.newR (o := .ins (g.cl k) dx []) hx1
  have l2 := Le.newR (c := { c with H := upd c.H dx (.own x) }) (o := .ins (g.cl k) dx []) hx1
  refine ⟨_, ok2.own (p := x) (l := c.rs) (o := .ins k []) rfl (ok.notR hx) ⟨dx, [], upd_same, rfl⟩, (l1.trans l2).trans (Le.own rfl), ⟨rfl, fun a h => ?_⟩, rfl, rfl, rep_obj.mpr ⟨by simp [Ct.own], fun _ => ?_⟩⟩
  · obtain ⟨y, e⟩ : ∃ y, c.H a = some y := (ok.rsh a h).elim fun y z => ⟨y, z.1⟩
    show upd (upd c.H dx (.own x)) x (.ins (g.cl k) dx []) a = _
    rw [upd_ne (ne_of_none e hx), upd_ne (ne_of_none e hd)]
  show V.ref x = V.ref (addI _ x c.S.length)
  rw [show addI ({ ι := c.ι, S := c.S, H := upd (upd c.H dx (.own x)) x (.ins (g.cl k) dx []), rs := x :: c.rs } : Ct) x c.S.length = x from addI_eq]
theorem es_make {k kc : Nat} {ps : List Str} {x : Str} {m : Fn} {mr : MA} {p pos : Pos} {e : Expr} {es : List Expr} (xo : XO g X E) (F : MkF g X.prog X.w X.K X.mg X.base k (g.cl kc) x ps m) (hr : Room (k + 1) X.A) (hl : (e :: es).length + 1 = ps.length := by rfl)
    (hg : Gl X x := by rfl) (hdb : (x == ("__debug__" : Str)) = false := by decide) (he : starEach (e :: es) X.env = (false, eval e X.env) :: starEach es X.env := by rfl) (hpl : (backTo pos (starEach es X.env)).any (·.1) = false := by rfl) :
    AS g X E (e :: es) mr → ES g X E (.Call (.Name x p) (e :: es) [] pos) (eMake kc m mr) := fun ⟨ta, pa, sa, al⟩ => by
  obtain ⟨f, fd, F, hm, hk, hb⟩ := F
  refine ⟨_, pe_make (dvs := []) hk F hr hg hm hb .nil xo.pass pa hdb he hpl, fun c σ e0 Q ok er hp => ?_⟩
  show ta σ c.H _
  refine bindAL (R := WE g c Q) sa al ok er hp fun c1 ds vs ok1 l1 r1 rx hlen hp1 => ?_
  intro x dx hx hd hne
  obtain ⟨c2, ok2, l2, r2, s2, h2, rp⟩ := made_ok (k := kc) ok1 hx hd hne
  rw [← h2, List.append_nil]
  have hp2 := PostG.later l2 r2 hp1
  rw [← s2] at hp2
  refine ⟨?_, c2, .obj c1.S.length :: ds, rfl, ok2, repL_cons.mpr ⟨_, _, rfl, rp, RepL.mono l2 _ _ rx⟩, ?_⟩
  · rw [List.length_cons, repL_len rx, hlen]; exact hl
  · revert hp2
    cases m (.obj c1.S.length :: ds) c2.S with
    | bad => exact id
    | exc j S => exact id
    | ok d S =>
      intro hp2
      cases d <;> first | exact hp2.elim | skip
      intro c3 v ok3 l3 r3 s3 rv
      refine ⟨rep_non.mp rv, ?_⟩
      have q : WE g c Q (.obj c1.S.length) S := hp2
      exact q c3 (.ref x) ok3 (l1.trans (l2.trans l3)) (r3.trans (r2.trans r1)) s3 (Rep.mono l3 _ _ rp)
/-! ### slices -/
theorem rSl_all {x : V} {lo hi : Option Int} {H : Hp} {Q : VK} {K : PySem.W.Frag} : True := trivial
abbrev rSlAll (K : PySem.W.Frag) : V → Option Int → Option Int → Hp → VK → Prop := fun x lo hi H Q => rSlL K x lo hi H Q ∨ rSlA K x lo hi H Q
theorem sl_all : SlR X (rSlAll X.K) := sl_list.or sl_tupA
theorem slD_of {K : PySem.W.Frag} {c : Ct} (ok : Ok g c) {x : D} {v : V} {a b : Option Int} {z : D} {Q : VK} (rx : Rep c x v) (e : slD c.S x a b = some z) (q : WE g c Q z c.S) : rSlAll K v a b c.H Q := by
  unfold slD at e
  split at e
  · rename_i xs ex
    cases e
    obtain ⟨p, vs, rfl, h1, h2⟩ := see_lst ok rx ex
    exact .inl ⟨p, vs, rfl, .inl h1, we_newL ok (repL_cut h2 a b) q⟩
  · rename_i xs ex
    cases e
    have ex : x = .tup xs := by
      cases x with
      | obj k =>
        obtain ⟨o, e1, e2⟩ := view_obj ex (by intro z; cases z)
        have : ∀ o : Ob, o.val ≠ some (.tup xs) := by
          intro o
          induction o with
          | lck o ih => exact ih
          | _ => intro z; cases z
        exact absurd e2 (this o)
      | _ => exact ex
    subst ex
    obtain ⟨p, vs, rfl, _, h1, h2⟩ := rep_tup.mp rx
    refine .inr ⟨p, vs, rfl, SqT.of h1, fun hw => ?_, fun _ => we_newT ok (repL_cut h2 a b) q⟩
    have e2 : cutL xs a b = xs := by
      unfold cutL
      rw [cutA_eq, cutA_eq, repL_len h2] at hw
      rw [hw.1, hw.2, List.drop_zero, Nat.sub_zero, List.take_length]
    rw [e2] at q
    exact WE.here ok rx q
  · cases e
def SO (g : Gx) (E : XK) (t : TO) (m : Option ME) : Prop := ∀ c σ e (Q : Option Int → Hp → Prop), Ok g c → EnvR c e σ →
  PostG g c E (fun o S => ∀ c', Ok g c' → Le c c' → RsE c' c → c'.S = S → Q o c'.H) (pO m e c.S) → t σ c.H Q
def OS (g : Gx) (X : Cx) (E : XK) (o : Option Expr) (m : Option ME) : Prop := ∃ t, PO X o t ∧ SO g E t m
theorem os_none : OS g X E none none := ⟨_, po_none, fun c σ e Q ok er hp => hp c ok (Le.refl c) (RsE.refl c) rfl⟩
theorem os_some {e : Expr} {m : ME} : ES g X E e m → OS g X E (some e) (some m) := fun ⟨ta, pa, sa⟩ => ⟨_, po_some pa, fun c σ e Q ok er hp => by
  show ta σ c.H _
  refine bindE (R := fun o S => ∀ c', Ok g c' → Le c c' → RsE c' c → c'.S = S → Q o c'.H) sa ok er hp fun c1 x v ok1 l1 r1 rx hp1 => ?_
  cases x <;> first | exact hp1.elim | skip
  exact ⟨_, rep_int.mp rx, hp1 c1 ok1 l1 r1 rfl⟩⟩
theorem bindO {t : TO} {m : Option ME} {c : Ct} {σ : L2.St} {e : Env} {β : Type} {R : β → Store → Prop} {Q : Option Int → Hp → Prop} {f : Option Int → Store → Out β} (h : SO g E t m) (ok : Ok g c) (er : EnvR c e σ) (hp : PostG g c E R ((pO m e c.S).bind f))
    (k : ∀ c1 d, Ok g c1 → Le c c1 → RsE c1 c → PostG g c1 E R (f d c1.S) → Q d c1.H) : t σ c.H Q := by
  refine h c σ e Q ok er ?_
  cases q : pO m e c.S with
  | bad => rw [q] at hp; exact hp
  | exc j S => rw [q] at hp; exact hp
  | ok d S =>
    rw [q] at hp
    intro c1 ok1 l1 r1 s1
    exact k c1 d ok1 l1 r1 (by rw [s1]; exact PostG.later l1 r1 hp)
theorem es_sl {a : Expr} {lo hi : Option Expr} {ma : ME} {ml mh : Option ME} {p2 pos : Pos} : ES g X E a ma → OS g X E lo ml → OS g X E hi mh → ES g X E (.Subscript a (.Slice lo hi none p2) pos) (eSl ma ml mh) :=
  fun ⟨ta, pa, sa⟩ ⟨tl, pl, sl⟩ ⟨th, ph, sh⟩ => ⟨_, pe_slice sl_all pa pl ph, fun c σ e Q ok er hp => by
    show ta σ c.H _
    refine bindE (R := WE g c Q) sa ok er hp fun c1 x v ok1 l1 r1 rx hp1 => ?_
    show tl σ c1.H _
    refine bindO (R := WE g c Q) sl ok1 (er.mono l1) hp1 fun c2 i ok2 l2 r2 hp2 => ?_
    show th σ c2.H _
    refine bindO (R := WE g c Q) sh ok2 (er.mono (l1.trans l2)) hp2 fun c3 j ok3 l3 r3 hp3 => ?_
    obtain ⟨z, hz, q⟩ := PostG.ofO (α := D) hp3
    exact slD_of ok3 (Rep.mono (l2.trans l3) _ _ rx) hz (WE.later (l1.trans (l2.trans l3)) (r3.trans (r2.trans r1)) q)⟩
/-! ### targets -/
def WG (g : Gx) (c : Ct) (σ : L2.St) (tv : List Nat) (Q : L2.St → Hp → Prop) (e1 : Env) (S : Store) : Prop := ∀ c' σ1, Ok g c' → Le c c' → RsE c' c → c'.S = S → EnvR c' e1 σ1 → σ1.length = σ.length → (∀ k, k ∉ tv → σ1[k]? = σ[k]?) → Q σ1 c'.H
def SG (g : Gx) (E : XK) (t : TG) (m : MG) (tv : List Nat) : Prop := ∀ c d v e σ (Q : L2.St → Hp → Prop), Ok g c → Rep c d v → EnvR c e σ → PostG g c E (WG g c σ tv Q) (m d e c.S) → t v σ c.H Q
def GS (g : Gx) (X : Cx) (E : XK) (tg : Expr) (m : MG) (tv : List Nat) : Prop := ∃ t, PG X tg t ∧ SG g E t m tv
theorem envR_set {c : Ct} {e : Env} {σ : L2.St} {i : Nat} {d : D} {v : V} (er : EnvR c e σ) (r : Rep c d v) : EnvR c (e.set i (some d)) (σ.set i (some v)) := by
  refine ⟨by rw [List.length_set, List.length_set]; exact er.1, fun k x h => ?_⟩
  by_cases hk : i = k
  · subst hk
    have hlt : i < e.length := by
      rcases Nat.lt_or_ge i e.length with z | z
      · exact z
      · rw [List.getElem?_eq_none (by rw [List.length_set]; exact z)] at h; cases h
    rw [List.getElem?_set_self hlt] at h
    cases h
    exact ⟨v, List.getElem?_set_self (by rw [← er.1]; exact hlt), r⟩
  · rw [List.getElem?_set_ne hk] at h
    obtain ⟨w, a, b⟩ := er.2 k x h
    exact ⟨w, by rw [List.getElem?_set_ne hk]; exact a, b⟩
theorem gs_n (i : Nat) {x : Str} {pos : Pos} (xo : X.N.Nodup) (hN : X.N[i]? = some x := by rfl) (hl : Loc X.env.scope x := by first | exact Or.inl rfl | exact Or.inr rfl) (hf : X.fn x = true ∨ X.env.scope.names.lookup x = some .local := by first | exact .inl rfl | exact .inr rfl | assumption) : GS g X E (.Name x pos) (gN i) [i] :=
  ⟨_, pg_name xo hN hl hf, fun c d v e σ Q ok r er h => h c _ ok (Le.refl c) (RsE.refl c) rfl (envR_set er r) (by rw [List.length_set]) fun k hk => List.getElem?_set_ne fun z => hk (by rw [z]; exact List.mem_cons_self)⟩
def SGs (g : Gx) (E : XK) (t : TGs) (ms : List MG) (tv : List Nat) : Prop := ∀ c ds vs e σ (Q : L2.St → Hp → Prop), Ok g c → RepL c ds vs → EnvR c e σ → PostG g c E (WG g c σ tv Q) (gAll ms ds e c.S) → t vs σ c.H Q
def GsS (g : Gx) (X : Cx) (E : XK) (ts : List Expr) (ms : List MG) (tv : List Nat) : Prop := ∃ t, PGs X ts t ∧ SGs g E t ms tv ∧ ts.length = ms.length
theorem gss_nil : GsS g X E [] [] [] := ⟨_, pgs_nil, fun c ds vs e σ Q ok r er h => by
  cases ds with
  | nil => exact ⟨repL_nil.mp r, h c σ ok (Le.refl c) (RsE.refl c) rfl er rfl fun _ _ => rfl⟩
  | cons d ds => exact h.elim, rfl⟩
theorem gss_cons {t : Expr} {ts : List Expr} {m : MG} {ms : List MG} {tv tw : List Nat} (hs : (assignEach (t :: ts) X.env).map (·.2) = assign t X.env :: (assignEach ts X.env).map (·.2) := by rfl) : GS g X E t m tv → GsS g X E ts ms tw → GsS g X E (t :: ts) (m :: ms) (tv ++ tw) :=
  fun ⟨ta, pa, sa⟩ ⟨tb, pb, sb, hl⟩ => ⟨_, pgs_cons pa pb hs, fun c ds vs e σ Q ok r er h => by
    cases ds with
    | nil => exact h.elim
    | cons d ds =>
      obtain ⟨v, q, rfl, h1, h2⟩ := repL_cons.mp r
      refine ⟨v, q, rfl, ?_⟩
      show ta v σ c.H _
      refine sa c d v e σ _ ok h1 er ?_
      have h' : PostG g c E (WG g c σ (tv ++ tw) Q) ((m d e c.S).bind fun e1 S1 => gAll ms ds e1 S1) := h
      revert h'
      cases m d e c.S with
      | bad => exact id
      | exc k S => exact id
      | ok e1 S1 =>
        intro h' c1 σ1 ok1 l1 r1 s1 er1 n1 k1
        have h2' : PostG g c1 E (WG g c σ (tv ++ tw) Q) (gAll ms ds e1 c1.S) := by rw [s1]; exact PostG.later l1 r1 h'
        refine sb c1 ds q e1 σ1 Q ok1 (RepL.mono l1 _ _ h2) er1 ?_
        revert h2'
        cases gAll ms ds e1 c1.S with
        | bad => exact id
        | exc k S => exact id
        | ok e2 S2 => exact fun h2' c' σ' ok' l' r' s' er' n' k' => h2' c' σ' ok' (l1.trans l') (r'.trans r1) s' er' (n'.trans n1) fun k hk => (k' k fun z => hk (List.mem_append_right _ z)).trans (k1 k fun z => hk (List.mem_append_left _ z)), by rw [List.length_cons, List.length_cons, hl]⟩
theorem gs_t {es : List Expr} {k : Nat} {pos : Pos} {ms : List MG} {tv : List Nat} {n : Nat} (hc : X.calm = true) (hn : (assignEach es X.env).length = n := by rfl) (hn2 : n = ms.length := by rfl) (hst : (assignEach es X.env).findIdx? (·.1) = none := by rfl) : GsS g X E es ms tv → GS g X E (.Tuple es k pos) (gT ms) tv :=
  fun ⟨tb, pb, sb, hl⟩ => ⟨_, pg_tup hc pb hn hst, fun c d v e σ Q ok r er h => by
    cases d <;> first | exact h.elim | skip
    rename_i ds
    have h' : PostG g c E (WG g c σ tv Q) (if ds.length = ms.length then gAll ms ds e c.S else .bad) := h
    by_cases hd : ds.length = ms.length
    · rw [if_pos hd] at h'
      obtain ⟨a, vs, rfl, _, h1, h2⟩ := rep_tup.mp r
      exact ⟨a, vs, rfl, SqT.of h1, by rw [repL_len h2, hd, hn2], sb c ds vs e σ Q ok h2 er h'⟩
    · rw [if_neg hd] at h'; exact h'.elim⟩
end
end Sm
end

section
set_option Elab.async false
set_option linter.all false
set_option autoImplicit false
set_option maxRecDepth 100000
set_option maxHeartbeats 4000000
namespace Sm
open PySem L2
/-! ### what is walked -/
structure JW (g : Gx) (J : It) (xs : List D) (good : Ct → Prop) : Prop where
  mono : ∀ c c', good c → Le c c' → good c'
  stop : ∀ c, Ok g c → good c → J.stop xs.length c.H
  go : ∀ c (i : Nat) d, xs[i]? = some d → Ok g c → good c → J.go i c.H
  yld : ∀ c (i : Nat) d v H', xs[i]? = some d → Ok g c → good c → J.yld i c.H v H' → ∃ c', Ok g c' ∧ Le c c' ∧ RsE c' c ∧ c'.S = c.S ∧ c'.H = H' ∧ Rep c' d v
def WI (g : Gx) (c : Ct) (R : It → Hp → Prop) (p : List D × Option Nat) (S : Store) : Prop :=
  ∀ c' J good, Ok g c' → Le c c' → RsE c' c → c'.S = S → JW g J p.1 good → good c' → (∀ r, p.2 = some r → ∃ o, c'.S[r]? = some (.lck (.lst o)) ∧ ∀ x, c.S[r]? ≠ some (.lck x)) → R J c'.H
def SI (g : Gx) (E : XK) (wi : TI) (m : MI) : Prop := ∀ c σ e (R : It → Hp → Prop), Ok g c → EnvR c e σ → PostG g c E (WI g c R) (m e c.S) → wi σ c.H R
def IS (g : Gx) (X : Cx) (E : XK) (tg it : Expr) (m : MI) : Prop := ∃ wi, PI X tg it wi ∧ SI g E wi m
theorem pi_or {X : Cx} {tg it : Expr} {w1 w2 : TI} (h1 : PI X tg it w1) (h2 : PI X tg it w2) : PI X tg it (fun σ H R => w1 σ H R ∨ w2 σ H R) := ⟨fun pins s σ H R I h => by
  rcases h with h | h
  · exact h1.run pins s σ H R I h
  · exact h2.run pins s σ H R I h⟩
theorem sql_uniq {g : Gx} {c : Ct} {K : PySem.W.Frag} {a : Addr} {xs ys : List V} (h : Rd c.H a (.lst xs)) (h2 : Rd c.H a (.lst ys)) : xs = ys := by
  rcases h with h | ⟨o, h⟩
  · rcases h2 with h2 | ⟨o', h2⟩
    · rw [h] at h2; cases h2; rfl
    · rw [h] at h2; cases h2
  · rcases h2 with h2 | ⟨o', h2⟩
    · rw [h] at h2; cases h2
    · rw [h] at h2; cases h2; rfl
section
variable {g : Gx} {X : Cx} {E : XK}
/-- a tree list that is walked -/
theorem jw_lst {K : PySem.W.Frag} {a : Addr} {ds : List D} {vs : List V} : JW g (Itl K a) ds (fun c => c.free a ∧ c.H a = some (.lst vs) ∧ RepL c ds vs) where
  mono := fun c c' ⟨f, h, r⟩ l => ⟨l.fre a _ f h (fun _ z => by cases z), l.tre a _ trivial f h, RepL.mono l _ _ r⟩
  stop := fun c ok ⟨f, h, r⟩ => ⟨vs, SqL.of h, by rw [repL_len r]; exact Nat.le_refl _⟩
  go := fun c i d e ok ⟨f, h, r⟩ => by
    obtain ⟨v, h1, _⟩ := repL_get r e
    exact ⟨vs, v, SqL.of h, h1⟩
  yld := fun c i d v H' e ok ⟨f, h, r⟩ y => by
    obtain ⟨w, h1, h2⟩ := repL_get r e
    obtain ⟨e1, y⟩ := y
    have h3 := y vs (SqL.of h)
    rw [h1] at h3
    cases h3
    exact ⟨c, ok, Le.refl c, RsE.refl c, rfl, e1.symm, h2⟩
theorem jw_tup {K : PySem.W.Frag} {a : Addr} {ds : List D} {vs : List V} : JW g (Itt K a) ds (fun c => c.free a ∧ c.H a = some (.tup vs) ∧ RepL c ds vs) where
  mono := fun c c' ⟨f, h, r⟩ l => ⟨l.fre a _ f h (fun _ z => by cases z), l.tre a _ trivial f h, RepL.mono l _ _ r⟩
  stop := fun c ok ⟨f, h, r⟩ => ⟨vs, SqT.of h, by rw [repL_len r]; exact Nat.le_refl _⟩
  go := fun c i d e ok ⟨f, h, r⟩ => by
    obtain ⟨v, h1, _⟩ := repL_get r e
    exact ⟨vs, v, SqT.of h, h1⟩
  yld := fun c i d v H' e ok ⟨f, h, r⟩ y => by
    obtain ⟨w, h1, h2⟩ := repL_get r e
    obtain ⟨e1, y⟩ := y
    have h3 := y vs (SqT.of h)
    rw [h1] at h3
    cases h3
    exact ⟨c, ok, Le.refl c, RsE.refl c, rfl, e1.symm, h2⟩
/-- an object's list, locked -/
theorem jw_lck {K : PySem.W.Frag} {r : Nat} {a : Addr} {ds : List D} : JW g (Itl K a) ds (fun c => r < c.S.length ∧ c.S[r]? = some (.lck (.lst ds)) ∧ c.ι r = a) where
  mono := fun c c' ⟨hl, h, e⟩ l => by
    have h' := l.lkd r _ h
    have hlive : c'.live r := live_of h' (by intro z; cases z)
    exact ⟨Nat.lt_of_lt_of_le hl l.len, h', (l.liv r hl hlive).2.trans e⟩
  stop := fun c ok ⟨hl, h, e⟩ => by
    obtain ⟨vs, h1, h2⟩ := ok.at_ r _ h
    subst e
    exact ⟨vs, SqL.of h1, by rw [repL_len h2]; exact Nat.le_refl _⟩
  go := fun c i d e ok ⟨hl, h, e1⟩ => by
    obtain ⟨vs, h1, h2⟩ := ok.at_ r _ h
    subst e1
    obtain ⟨v, h3, _⟩ := repL_get h2 e
    exact ⟨vs, v, SqL.of h1, h3⟩
  yld := fun c i d v H' e ok ⟨hl, h, e1⟩ y => by
    obtain ⟨vs, h1, h2⟩ := ok.at_ r _ h
    subst e1
    obtain ⟨w, h3, h4⟩ := repL_get h2 e
    obtain ⟨e2, y⟩ := y
    have h5 := y vs (SqL.of h1)
    rw [h3] at h5
    cases h5
    exact ⟨c, ok, Le.refl c, RsE.refl c, rfl, e2.symm, h4⟩
/-- the ghost lock of a list -/
theorem lock_ok {c : Ct} (ok : Ok g c) {r : Nat} {ds : List D} (h : c.S[r]? = some (.lst ds)) : Ok g { c with S := c.S.set r (.lck (.lst ds)) } ∧ Le c { c with S := c.S.set r (.lck (.lst ds)) } := by
  have hlt := (List.getElem?_eq_some_iff.mp h).1
  have live1 : ∀ k, ({ c with S := c.S.set r (.lck (.lst ds)) } : Ct).live k → c.live k := fun k ⟨x, e, n⟩ => by
    have e' : (c.S.set r (.lck (.lst ds)))[k]? = some x := e
    by_cases hk : r = k
    · subst hk; exact live_of h (by intro z; cases z)
    · rw [List.getElem?_set_ne hk] at e'; exact ⟨x, e', n⟩
  have l : Le c { c with S := c.S.set r (.lck (.lst ds)) } := {
    len := by simp
    liv := fun k _ hk => ⟨live1 k hk, rfl⟩
    sur := fun _ o h t => ⟨o, h, t⟩
    fre := fun a o f _ _ => ⟨f.1, fun k hk => f.2 k (live1 k hk)⟩
    tre := fun _ _ _ _ h => h
    trd := fun _ _ _ _ h => h
    lkd := fun k o hk => by
      show (c.S.set r (.lck (.lst ds)))[k]? = _
      by_cases z : r = k
      · subst z; rw [h] at hk; cases hk
      · rw [List.getElem?_set_ne z]; exact hk }
  refine ⟨⟨fun a b h1 h2 e => ok.inj a b (live1 a h1) (live1 b h2) e, fun k x e => ?_, fun k hk => ok.rsv k (live1 k hk), ok.tabs, ok.rsh⟩, l⟩
  have e' : (c.S.set r (.lck (.lst ds)))[k]? = some x := e
  by_cases hk : r = k
  · subst hk
    rw [List.getElem?_set_self hlt] at e'
    cases e'
    obtain ⟨vs, h1, h2⟩ := ok.at_ r _ h
    exact ⟨vs, h1, RepL.mono l _ _ h2⟩
  · rw [List.getElem?_set_ne hk] at e'
    exact RepO.mono l rfl (ok.at_ k x e')
/-- the lock is undone -/
def Ct.unlk (c : Ct) (lk : Option Nat) : Ct := { c with S := unlockAt c.S lk }
theorem unlk_live {c : Ct} {lk : Option Nat} {k : Nat} (hl : ∀ r, lk = some r → ∃ o, c.S[r]? = some (.lck (.lst o))) (h : (c.unlk lk).live k) : c.live k := by
  cases lk with
  | none => exact h
  | some r =>
    obtain ⟨o, ho⟩ := hl r rfl
    obtain ⟨x, e, n⟩ := h
    have e' : (unlockAt c.S (some r))[k]? = some x := e
    unfold unlockAt at e'
    simp only [ho] at e'
    by_cases hk : r = k
    · subst hk; exact live_of ho (by intro z; cases z)
    · rw [List.getElem?_set_ne hk] at e'; exact ⟨x, e', n⟩
theorem unlk_le {c0 c : Ct} {lk : Option Nat} (l : Le c0 c) (hl : ∀ r, lk = some r → ∃ o, c.S[r]? = some (.lck (.lst o))) (hn : ∀ r, lk = some r → ∀ x, c0.S[r]? ≠ some (.lck x)) : Le c0 (c.unlk lk) where
  len := by
    refine Nat.le_trans l.len ?_
    cases lk with
    | none => exact Nat.le_refl _
    | some r =>
      obtain ⟨o, ho⟩ := hl r rfl
      show c.S.length ≤ (unlockAt c.S (some r)).length
      unfold unlockAt
      simp only [ho]
      simp
  liv := fun k hk h => l.liv k hk (unlk_live hl h)
  sur := l.sur
  fre := fun a o f h t => by
    have := l.fre a o f h t
    exact ⟨this.1, fun k hk => this.2 k (unlk_live hl hk)⟩
  tre := l.tre
  trd := l.trd
  lkd := fun k o h => by
    cases lk with
    | none => exact l.lkd k o h
    | some r =>
      obtain ⟨q, hq⟩ := hl r rfl
      show (unlockAt c.S (some r))[k]? = _
      unfold unlockAt
      simp only [hq]
      by_cases z : r = k
      · subst z; exact absurd h (hn r rfl o)
      · rw [List.getElem?_set_ne z]; exact l.lkd k o h
theorem unlk_w {c : Ct} {lk : Option Nat} (hl : ∀ r, lk = some r → ∃ o, c.S[r]? = some (.lck (.lst o))) : Lw c (c.unlk lk) where
  len := by
    cases lk with
    | none => exact Nat.le_refl _
    | some r =>
      obtain ⟨o, ho⟩ := hl r rfl
      show c.S.length ≤ (unlockAt c.S (some r)).length
      unfold unlockAt
      simp only [ho]
      simp
  liv := fun k hk h => ⟨unlk_live hl h, rfl⟩
  sur := fun _ o h t => ⟨o, h, t⟩
  fre := fun a o f h _ => ⟨f.1, fun k hk => f.2 k (unlk_live hl hk)⟩
  tre := fun _ _ _ _ h => h
  trd := fun _ _ _ _ h => h
theorem unlk_ok {c : Ct} (ok : Ok g c) {lk : Option Nat} (hl : ∀ r, lk = some r → ∃ o, c.S[r]? = some (.lck (.lst o))) : Ok g (c.unlk lk) where
  inj := fun a b h1 h2 e => ok.inj a b (unlk_live hl h1) (unlk_live hl h2) e
  at_ := fun k x e => by
    have w := unlk_w hl
    cases lk with
    | none => exact ok.at_ k x e
    | some r =>
      obtain ⟨o, ho⟩ := hl r rfl
      have hlt := (List.getElem?_eq_some_iff.mp ho).1
      have e' : (unlockAt c.S (some r))[k]? = some x := e
      unfold unlockAt at e'
      simp only [ho] at e'
      by_cases hk : r = k
      · subst hk
        rw [List.getElem?_set_self hlt] at e'
        cases e'
        obtain ⟨vs, h1, h2⟩ := ok.at_ r _ ho
        exact ⟨vs, h1, RepL.monoW w _ _ h2⟩
      · rw [List.getElem?_set_ne hk] at e'
        exact RepO.monoW w rfl (ok.at_ k x e')
  rsv := fun k h => ok.rsv k (unlk_live hl h)
  tabs := ok.tabs
  rsh := ok.rsh
theorem is_seq {tg it : Expr} {m : ME} : ES g X E it m → IS g X E tg it (iSeq m) := fun ⟨ta, pa, sa⟩ => ⟨_, pi_or (pi_list pa) (pi_tup pa), fun c σ e R ok er hp => by
  have hp' : PostG g c E (WI g c R) ((m e c.S).bind fun x S1 => match x with
    | .lst xs => .ok (xs, none) S1
    | .tup xs => .ok (xs, none) S1
    | .obj r => match S1[r]? with
      | some (.lst xs) => .ok (xs, some r) (S1.set r (.lck (.lst xs)))
      | some (.lck (.lst xs)) => .ok (xs, none) S1
      | _ => .bad
    | _ => .bad) := hp
  cases q : m e c.S with
  | bad => rw [q] at hp'; exact hp'.elim
  | exc j S =>
    rw [q] at hp'
    refine .inl (sa c σ e _ ok er ?_)
    rw [q]; exact hp'
  | ok x S =>
    rw [q] at hp'
    cases x <;> first | exact hp'.elim | skip
    case lst xs =>
      refine .inl (sa c σ e _ ok er ?_)
      rw [q]
      intro c1 v ok1 l1 r1 s1 rx
      obtain ⟨a, vs, rfl, f, h1, h2⟩ := rep_lst.mp rx
      refine ⟨a, rfl, ⟨vs, SqL.of h1⟩, hp' c1 _ _ ok1 l1 r1 s1 jw_lst ⟨f, h1, h2⟩ (fun r h => by cases h)⟩
    case tup xs =>
      refine .inr (sa c σ e _ ok er ?_)
      rw [q]
      intro c1 v ok1 l1 r1 s1 rx
      obtain ⟨a, vs, rfl, f, h1, h2⟩ := rep_tup.mp rx
      refine ⟨a, rfl, ⟨vs, SqT.of h1⟩, hp' c1 _ _ ok1 l1 r1 s1 jw_tup ⟨f, h1, h2⟩ (fun r h => by cases h)⟩
    case obj r =>
      refine .inl (sa c σ e _ ok er ?_)
      rw [q]
      intro c1 v ok1 l1 r1 s1 rx
      obtain ⟨hr, hv⟩ := rep_obj.mp rx
      cases z : S[r]? with
      | none => simp only [Out.bind, z] at hp'; exact hp'.elim
      | some o =>
        rw [← s1] at z
        cases o <;> first | (simp only [Out.bind, ← s1, z] at hp'; exact hp'.elim) | skip
        case lst xs =>
          have hlive := live_of z (by intro z; cases z)
          simp only [Out.bind, ← s1, z] at hp'
          obtain ⟨vs, h1, h2⟩ := ok1.at_ r _ z
          obtain ⟨ok2, l2⟩ := lock_ok ok1 z
          rw [hv hlive]
          refine ⟨c1.ι r, rfl, ⟨vs, SqL.of h1⟩, hp' { c1 with S := c1.S.set r (.lck (.lst xs)) } _ _ ok2 (l1.trans l2) ⟨r1.eq, r1.kp⟩ rfl (jw_lck (r := r) (a := c1.ι r)) ⟨by simpa using hr, List.getElem?_set_self hr, rfl⟩ (fun r' h => ?_)⟩
          cases h
          refine ⟨xs, List.getElem?_set_self hr, fun x hx => ?_⟩
          have := l1.lkd r x hx
          rw [z] at this; cases this
        case lck o =>
          cases o <;> first | (simp only [Out.bind, ← s1, z] at hp'; exact hp'.elim) | skip
          case lst xs =>
            have hlive := live_of z (by intro z; cases z)
            simp only [Out.bind, ← s1, z] at hp'
            obtain ⟨vs, h1, h2⟩ := ok1.at_ r _ z
            rw [hv hlive]
            refine ⟨c1.ι r, rfl, ⟨vs, SqL.of h1⟩, hp' _ _ _ ok1 l1 r1 rfl (jw_lck (r := r) (a := c1.ι r)) ⟨hr, z, rfl⟩ (fun r' h => by cases h)⟩⟩
theorem rangeL_get {n : Nat} : ∀ {lo : Int} {i : Nat} {d : D}, (rangeL lo n)[i]? = some d → d = .int (lo + i) ∧ i < n := by
  induction n with
  | zero => intro lo i d h; simp [rangeL] at h
  | succ n ih =>
    intro lo i d h
    cases i with
    | zero =>
      have h' : D.int lo = d := by simpa [rangeL] using h
      subst h'
      exact ⟨by simp, Nat.succ_pos n⟩
    | succ i =>
      have h' : (rangeL (lo + 1) n)[i]? = some d := by simpa [rangeL] using h
      obtain ⟨e, hl⟩ := ih h'
      refine ⟨?_, Nat.succ_lt_succ hl⟩
      rw [e]
      congr 1
      omega
theorem rangeL_len : ∀ (n : Nat) (lo : Int), (rangeL lo n).length = n
  | 0, _ => rfl
  | n + 1, lo => by show (rangeL (lo + 1) n).length + 1 = n + 1; rw [rangeL_len n]
theorem jw_rng {lo : Int} {n : Nat} : JW g (Itr lo n) (rangeL lo n) (fun _ => True) where
  mono := fun _ _ _ _ => trivial
  stop := fun c ok _ => by show n ≤ (rangeL lo n).length; rw [rangeL_len]; exact Nat.le_refl _
  go := fun c i d e ok _ => (rangeL_get e).2
  yld := fun c i d v H' e ok _ y => by
    obtain ⟨e1, e2⟩ := y
    obtain ⟨e3, _⟩ := rangeL_get e
    subst e3
    exact ⟨c, ok, Le.refl c, RsE.refl c, rfl, e1.symm, rep_int.mpr e2⟩
theorem is_range1 {tg a : Expr} {m : MA} {p pos : Pos} (hm : X.mg "range" = none) (hg : Gl X "range" := by rfl) (hs : starEach [a] X.env = [(false, eval a X.env)] := by rfl) : AS g X E [a] m → IS g X E tg (.Call (.Name "range" p) [a] [] pos) (iRange1 m) :=
  fun ⟨ta, pa, sa, _⟩ => ⟨_, pi_range1 hg hm pa hs, fun c σ e R ok er hp => by
    show ta σ c.H _
    refine bindA (R := WI g c R) sa ok er hp fun c1 ds vs ok1 l1 r1 rx hp1 => ?_
    split at hp1
    · rename_i n
      split at hp1
      · rename_i hb
        obtain ⟨v, rfl, h⟩ := rep1 rx
        rw [rep_int.mp h]
        exact ⟨n, rfl, by omega, by omega, hp1 c1 _ _ ok1 l1 r1 rfl jw_rng trivial (fun r h => by cases h)⟩
      · exact hp1.elim
    · exact hp1.elim⟩
theorem is_range2 {tg a b : Expr} {m : MA} {p pos : Pos} (hm : X.mg "range" = none) (hg : Gl X "range" := by rfl) (hs : starEach [a, b] X.env = [(false, eval a X.env), (false, eval b X.env)] := by rfl) (hs2 : starEach [b] X.env = [(false, eval b X.env)] := by rfl) : AS g X E [a, b] m → IS g X E tg (.Call (.Name "range" p) [a, b] [] pos) (iRange2 m) :=
  fun ⟨ta, pa, sa, _⟩ => ⟨_, pi_range2 hg hm pa hs hs2, fun c σ e R ok er hp => by
    show ta σ c.H _
    refine bindA (R := WI g c R) sa ok er hp fun c1 ds vs ok1 l1 r1 rx hp1 => ?_
    split at hp1
    · rename_i n k
      split at hp1
      · rename_i hb
        obtain ⟨v, u, rfl, h, h'⟩ := rep2 rx
        rw [rep_int.mp h, rep_int.mp h']
        exact ⟨n, k, rfl, by omega, hp1 c1 _ _ ok1 l1 r1 rfl jw_rng trivial (fun r h => by cases h)⟩
      · exact hp1.elim
    · exact hp1.elim⟩
theorem zipD_get : ∀ {xs ys : List D} {i : Nat} {d : D}, (zipD xs ys)[i]? = some d → ∃ x y, xs[i]? = some x ∧ ys[i]? = some y ∧ d = .tup [x, y]
  | [], _, _, _, h => by simp [zipD] at h
  | _ :: _, [], _, _, h => by simp [zipD] at h
  | x :: xs, y :: ys, 0, d, h => by
    have h' : D.tup [x, y] = d := by simpa [zipD] using h
    exact ⟨x, y, by simp, by simp, h'.symm⟩
  | x :: xs, y :: ys, i + 1, d, h => by
    obtain ⟨a, b, h1, h2, h3⟩ := zipD_get (xs := xs) (ys := ys) (i := i) (by simpa [zipD] using h)
    exact ⟨a, b, by simpa using h1, by simpa using h2, h3⟩
theorem zipD_len : ∀ xs ys : List D, (zipD xs ys).length = min xs.length ys.length
  | [], _ => by simp [zipD]
  | _ :: _, [] => by simp [zipD]
  | x :: xs, y :: ys => by
    show (zipD xs ys).length + 1 = min (xs.length + 1) (ys.length + 1)
    rw [zipD_len xs ys]; omega
theorem jw_zip {K : PySem.W.Frag} {a b : Addr} {xs ys : List D} {vs ws : List V} : JW g (Itz K a b) (zipD xs ys) (fun c => (c.free a ∧ c.H a = some (.lst vs) ∧ RepL c xs vs) ∧ (c.free b ∧ c.H b = some (.lst ws) ∧ RepL c ys ws)) where
  mono := fun c c' ⟨⟨f, h, r⟩, f2, h2, r2⟩ l => ⟨⟨l.fre a _ f h (fun _ z => by cases z), l.tre a _ trivial f h, RepL.mono l _ _ r⟩, l.fre b _ f2 h2 (fun _ z => by cases z), l.tre b _ trivial f2 h2, RepL.mono l _ _ r2⟩
  stop := fun c ok ⟨⟨f, h, r⟩, f2, h2, r2⟩ => ⟨vs, ws, SqL.of h, SqL.of h2, by
    rw [zipD_len, repL_len r, repL_len r2]
    omega⟩
  go := fun c i d e ok ⟨⟨f, h, r⟩, f2, h2, r2⟩ => by
    obtain ⟨x, y, e1, e2, rfl⟩ := zipD_get e
    obtain ⟨v, h3, _⟩ := repL_get r e1
    obtain ⟨u, h4, _⟩ := repL_get r2 e2
    exact ⟨vs, ws, v, u, SqL.of h, SqL.of h2, h3, h4⟩
  yld := fun c i d v H' e ok ⟨⟨f, h, r⟩, f2, h2, r2⟩ y => by
    obtain ⟨x, y', e1, e2, rfl⟩ := zipD_get e
    obtain ⟨v1, h3, q3⟩ := repL_get r e1
    obtain ⟨u1, h4, q4⟩ := repL_get r2 e2
    obtain ⟨T, p, q, rfl, hT, e3, k1, k2⟩ := y
    have z1 := k1 vs (SqL.of h)
    have z2 := k2 ws (SqL.of h2)
    rw [h3] at z1; cases z1
    rw [h4] at z2; cases z2
    exact ⟨{ c with H := upd c.H T (.tup [v1, u1]) }, ok.new hT, Le.new hT, RsE.new ok hT, rfl, e3.symm, rep_newT ok hT (repL_cons.mpr ⟨_, _, rfl, q3, repL_one q4⟩)⟩
theorem is_zip {e1 e2 : Expr} {m : MA} {p pos tpos : Pos} {elts : List Expr} {kk : Nat} (hm : X.mg "zip" = none) (hg : Gl X "zip" := by rfl)
    (hs : starEach [e1, e2] X.env = (false, eval e1 X.env) :: starEach [e2] X.env := by rfl) (hpl : (backTo pos (starEach [e2] X.env)).any (·.1) = false := by rfl) : AS g X E [e1, e2] m → IS g X E (.Tuple elts kk tpos) (.Call (.Name "zip" p) [e1, e2] [] pos) (iZip m) :=
  fun ⟨ta, pa, sa, _⟩ => ⟨_, pi_zip hg hm pa hs hpl, fun c σ e R ok er hp => by
    show ta σ c.H _
    refine bindA (R := WI g c R) sa ok er hp fun c1 ds vs ok1 l1 r1 rx hp1 => ?_
    split at hp1
    · rename_i a b
      split at hp1
      · rename_i xs ys ea eb
        have ea : a = .lst xs := by
          cases a <;> first | (cases ea; done) | skip
          cases ea; rfl
        have eb : b = .lst ys := by
          cases b <;> first | (cases eb; done) | skip
          cases eb; rfl
        subst ea eb
        obtain ⟨v, u, rfl, h, h'⟩ := rep2 rx
        obtain ⟨p1, vs1, rfl, f1, h1, q1⟩ := rep_lst.mp h
        obtain ⟨p2, vs2, rfl, f2, h2, q2⟩ := rep_lst.mp h'
        exact ⟨p1, p2, vs1, vs2, rfl, SqL.of h1, SqL.of h2, hp1 c1 _ _ ok1 l1 r1 rfl jw_zip ⟨⟨f1, h1, q1⟩, f2, h2, q2⟩ (fun r h => by cases h)⟩
      · exact hp1.elim
    · exact hp1.elim⟩
/-! ### comprehensions -/
theorem wipe_len : ∀ (e : Env) (vs : List Nat), (wipe e vs).length = e.length
  | e, [] => rfl
  | e, v :: vs => by unfold wipe; rw [List.length_set, wipe_len e vs]
theorem wipe_get : ∀ {e : Env} {vs : List Nat} {i : Nat} {d : D}, (wipe e vs)[i]? = some (some d) → e[i]? = some (some d) ∧ i ∉ vs
  | e, [], i, d, h => ⟨h, by simp⟩
  | e, v :: vs, i, d, h => by
    unfold wipe at h
    by_cases hk : v = i
    · subst hk
      by_cases hl : v < (wipe e vs).length
      · rw [List.getElem?_set_self hl] at h; cases h
      · rw [List.getElem?_eq_none (by rw [List.length_set]; omega)] at h; cases h
    · rw [List.getElem?_set_ne hk] at h
      obtain ⟨h1, h2⟩ := wipe_get h
      exact ⟨h1, by simp only [List.mem_cons, not_or]; exact ⟨fun z => hk z.symm, h2⟩⟩
theorem wipeV_out {σ : L2.St} {i : Nat} : ∀ {vs : List Nat}, i ∉ vs → (L2.wipe σ vs)[i]? = σ[i]?
  | [], _ => rfl
  | v :: vs, h => by
    simp only [List.mem_cons, not_or] at h
    show ((L2.wipe σ vs).set v none)[i]? = _
    rw [List.getElem?_set_ne (fun z => h.1 z.symm), wipeV_out h.2]
theorem wipeV_in {σ : L2.St} {i : Nat} : ∀ {vs : List Nat}, i ∈ vs → i < σ.length → (L2.wipe σ vs)[i]? = some none
  | v :: vs, h, hl => by
    show ((L2.wipe σ vs).set v none)[i]? = _
    by_cases hk : v = i
    · subst hk
      rw [List.getElem?_set_self (by rw [wipe_length]; exact hl)]
    · rw [List.getElem?_set_ne hk]
      rcases List.mem_cons.mp h with z | z
      · exact absurd z.symm hk
      · exact wipeV_in z hl
theorem wipe_same {σ σ1 : L2.St} {vs : List Nat} (hl : σ1.length = σ.length) (h : ∀ k, k ∉ vs → σ1[k]? = (L2.wipe σ vs)[k]?) : L2.wipe σ1 vs = L2.wipe σ vs := by
  apply List.ext_getElem?
  intro i
  by_cases hi : i ∈ vs
  · by_cases hb : i < σ.length
    · rw [wipeV_in hi hb, wipeV_in hi (by rw [hl]; exact hb)]
    · rw [List.getElem?_eq_none (by rw [wipe_length]; omega), List.getElem?_eq_none (by rw [wipe_length]; omega)]
  · rw [wipeV_out hi, h i hi]
theorem envR_wipe {c : Ct} {e : Env} {σ : L2.St} (er : EnvR c e σ) (vs : List Nat) : EnvR c (wipe e vs) (L2.wipe σ vs) := by
  refine ⟨by rw [wipe_len, wipe_length]; exact er.1, fun i d h => ?_⟩
  obtain ⟨h1, h2⟩ := wipe_get h
  obtain ⟨v, a, b⟩ := er.2 i d h1
  exact ⟨v, by rw [wipeV_out h2]; exact a, b⟩
abbrev F0 : XK := fun _ _ _ => False
/-- one reading for a family of places -/
theorem unifE {ι : Type} {Xs : ι → Cx} {a : Expr} {m : ME} {E : XK} (h : ∀ i, ES g (Xs i) E a m) : ∃ t, (∀ i, PE (Xs i) a t) ∧ SE g E t m :=
  ⟨fun σ H Q => ∀ i, (h i).choose σ H Q, fun i => ⟨fun pins s σ H Q I hh => (h i).choose_spec.1.run pins s σ H Q I (hh i)⟩, fun c σ e Q ok er hp i => (h i).choose_spec.2 c σ e Q ok er hp⟩
def TS' (g : Gx) (X : Cx) (E : XK) (ifs : List Expr) (m : MB) : Prop := ∃ t, PTs X ifs t ∧ SB g E t m
theorem unifT {ι : Type} {Xs : ι → Cx} {a : List Expr} {m : MB} {E : XK} (h : ∀ i, TS' g (Xs i) E a m) : ∃ t, (∀ i, PTs (Xs i) a t) ∧ SB g E t m :=
  ⟨fun σ H Q => ∀ i, (h i).choose σ H Q, fun i => ⟨fun pins s σ H Q I hh => (h i).choose_spec.1.run pins s σ H Q I (hh i)⟩, fun c σ e Q ok er hp i => (h i).choose_spec.2 c σ e Q ok er hp⟩
theorem unifG {ι : Type} {Xs : ι → Cx} {a : Expr} {m : MG} {tv : List Nat} {E : XK} (h : ∀ i, GS g (Xs i) E a m tv) : ∃ t, (∀ i, PG (Xs i) a t) ∧ SG g E t m tv :=
  ⟨fun v σ H Q => ∀ i, (h i).choose v σ H Q, fun i => ⟨fun pins s σ H v u Q I r hh => (h i).choose_spec.1.run pins s σ H v u Q I r (hh i)⟩, fun c d v e σ Q ok r er hp i => (h i).choose_spec.2 c d v e σ Q ok r er hp⟩
theorem ts_nil : TS' g X E [] tYes := ⟨_, pts_nil, fun c σ e Q ok er hp => hp c ok (Le.refl c) (RsE.refl c) rfl⟩
theorem ts_one {a : Expr} {m : MB} : BS g X E a m → TS' g X E [a] m := fun ⟨t, pt, st⟩ => ⟨_, pts_one pt, st⟩
/-- the block's context -/
abbrev blkX (X : Cx) (scope : Scope) (p : Shared × Hp × Addr × List (Str × Addr) × List Addr) : Cx := X.blk p.1 p.2.1 scope (compEnvC scope p.2.2.2.1 p.2.2.1 X.env) p.2.2.2.2
theorem lcL_ok {mg : MG} {mt : MB} {me : ME} {e : Env} {x : D} {xs : List D} {S : Store} {acc : List D} {c : Ct} {β : Type} {R : β → Store → Prop} {f : List D → Store → Out β} (hp : PostG g c E R ((lcL mg mt me e (x :: xs) S acc).bind f)) :
    ∃ e1 S0 b S1, mg x e S = .ok e1 S0 ∧ mt e1 S0 = .ok b S1 ∧ (b = true → ∃ y S2, me e1 S1 = .ok y S2 ∧ PostG g c E R ((lcL mg mt me e xs S2 (acc ++ [y])).bind f)) ∧ (b = false → PostG g c E R ((lcL mg mt me e xs S1 acc).bind f)) := by
  unfold lcL at hp
  cases h1 : mg x e S with
  | bad => simp only [h1] at hp; exact hp.elim
  | exc k S => simp only [h1] at hp; exact hp.elim
  | ok e1 S0 =>
    simp only [h1] at hp
    cases h2 : mt e1 S0 with
    | bad => simp only [h2] at hp; exact hp.elim
    | exc k S => simp only [h2] at hp; exact hp.elim
    | ok b S1 =>
      refine ⟨e1, S0, b, S1, rfl, h2, fun hb => ?_, fun hb => ?_⟩
      · subst hb
        simp only [h2] at hp
        cases h3 : me e1 S1 with
        | bad => simp only [h3] at hp; exact hp.elim
        | exc k S => simp only [h3] at hp; exact hp.elim
        | ok y S2 => simp only [h3] at hp; exact ⟨y, S2, rfl, hp⟩
      · subst hb
        simp only [h2] at hp
        exact hp
/-- what holds between two turns: c1 the state ahead, D the new list -/
structure LcI (g : Gx) (E : XK) (c1 : Ct) (good : Ct → Prop) (Dl : Addr) (R : List D → Store → Prop) (mg : MG) (mt : MB) (me : ME) (e : Env) (xs : List D) (i m : Nat) (H : Hp) : Prop where
  ex : ∃ c acc vs, m = xs.length - i ∧ i ≤ xs.length ∧ c.H = H ∧ Ok g c ∧ Le c1 c ∧ c.rs = Dl :: c1.rs ∧ (∀ a, a ∈ c1.rs → c.H a = c1.H a) ∧ good c ∧ RepL c acc vs ∧ c.H Dl = some (.lst vs) ∧ vs.length ≤ i ∧ PostG g c1 E R (lcL mg mt me e (xs.drop i) c.S acc)
theorem unb {c : Ct} {E : XK} {α : Type} {R : α → Store → Prop} {o : Out α} (h : PostG g c E R (o.bind fun ys S2 => .ok ys S2)) : PostG g c E R o := by
  cases o with
  | bad => exact h
  | exc k S => exact h
  | ok ys S2 => exact h
theorem bnu {c : Ct} {E : XK} {α : Type} {R : α → Store → Prop} {o : Out α} (h : PostG g c E R o) : PostG g c E R (o.bind fun ys S2 => .ok ys S2) := by
  cases o with
  | bad => exact h
  | exc k S => exact h
  | ok ys S2 => exact h
theorem lc_has {elt tg it : Expr} {ifs : List Expr} {scope : Scope} {own : List (Str × Nat)} {mi : MI} {mg : MG} {mt : MB} {me : ME} {tv : List Nat} (hi : IS g X E tg it mi)
    (hg : ∀ p, GS g (blkX X scope p) F0 tg mg tv) (htv : ∀ k, k ∈ tv → k ∈ own.map (·.2)) (ht : ∀ p, TS' g (blkX X scope p) F0 ifs mt) (he : ∀ p, ES g (blkX X scope p) F0 elt me) :
    ∃ wi g1 tt te, PI X tg it wi ∧ (∀ p, PG (blkX X scope p) tg g1) ∧ (∀ p, PTs (blkX X scope p) ifs tt) ∧ (∀ p, PE (blkX X scope p) elt te) ∧ SE g E (tLc wi g1 tt te (own.map (·.2))) (eLC (own.map (·.2)) mi mg mt me) := by
  obtain ⟨wi, pi, si⟩ := hi
  obtain ⟨tg', pg, sg⟩ := unifG hg
  obtain ⟨tt, pt, st⟩ := unifT ht
  obtain ⟨te, pe, se⟩ := unifE he
  refine ⟨wi, tg', tt, te, pi, pg, pt, pe, fun c σ e Q okc er hp => ?_⟩
  show wi σ c.H _
  refine si c σ e _ okc er ?_
  have hp' : PostG g c E (WE g c Q) ((mi e c.S).bind fun p S1 => if 100000 < p.1.length then .bad else (lcL mg mt me (wipe e (own.map (·.2))) p.1 S1 []).bind fun ys S2 => .ok (.lst ys) (unlockAt S2 p.2)) := hp
  revert hp'
  cases q : mi e c.S with
  | bad => exact id
  | exc k S => exact id
  | ok p S =>
    intro hp' c1 J good ok1 l1 r1 s1 jw gd hlk
    intro Dl hD
    have hp1 : PostG g c E (WE g c Q) (if 100000 < p.1.length then .bad else (lcL mg mt me (wipe e (own.map (·.2))) p.1 S []).bind fun ys S2 => .ok (.lst ys) (unlockAt S2 p.2)) := hp'
    by_cases hbig : 100000 < p.1.length
    · rw [if_pos hbig] at hp1; exact hp1.elim
    rw [if_neg hbig, ← s1] at hp1
    have hlcR : PostG g c1 E (fun ys S2 => WE g c Q (.lst ys) (unlockAt S2 p.2)) (lcL mg mt me (wipe e (own.map (·.2))) p.1 c1.S []) := by
      have h2 := PostG.later l1 r1 hp1
      revert h2
      cases lcL mg mt me (wipe e (own.map (·.2))) p.1 c1.S [] with
      | bad => exact id
      | exc k S => exact id
      | ok ys S2 => exact id
    have okD := ok1.newR (o := .lst []) hD
    have lD := Le.newR (c := c1) (o := .lst []) hD
    have nD : Dl ∉ c1.rs := ok1.notR hD
    refine ⟨LcI g E c1 good Dl (fun ys S2 => WE g c Q (.lst ys) (unlockAt S2 p.2)) mg mt me (wipe e (own.map (·.2))) p.1, ⟨p.1.length, ⟨_, [], [], by simp, Nat.zero_le _, rfl, okD, lD, rfl, fun a h => (RsE.new ok1 hD).kp a h, jw.mono _ _ gd lD, repL_nil.mpr rfl, upd_same, Nat.zero_le _, by simpa using hlcR⟩⟩, ?_⟩
    rintro i m H ⟨c2, acc, vs, rfl, hil, rfl, ok2, l2, r2, k2, gd2, ra, hDl, hvl, hp2⟩
    have mD : Dl ∈ c2.rs := by rw [r2]; exact List.mem_cons_self
    by_cases hlt : i < p.1.length
    · -- a turn
      obtain ⟨x, hx⟩ : ∃ x, p.1[i]? = some x := ⟨p.1[i], List.getElem?_eq_getElem hlt⟩
      have hdrop : p.1.drop i = x :: p.1.drop (i + 1) := by
        rw [List.drop_eq_getElem_cons hlt]
        rw [List.getElem?_eq_getElem hlt] at hx
        rw [Option.some.inj hx]
      rw [hdrop] at hp2
      obtain ⟨e1, S0, b, S1, q1, q2, qt, qf⟩ := lcL_ok (bnu hp2)
      refine .inr ⟨jw.go c2 i x hx ok2 gd2, LcI g E c1 good Dl (fun ys S2 => WE g c Q (.lst ys) (unlockAt S2 p.2)) mg mt me (wipe e (own.map (·.2))) p.1 (i + 1) (p.1.length - (i + 1)), fun H' hH => ⟨p.1.length - (i + 1), by omega, hH⟩, fun v H' hy => ?_⟩
      obtain ⟨c3, ok3, l3, r3, s3, rfl, rv⟩ := jw.yld c2 i x v H' hx ok2 gd2 hy
      have l13 := l2.trans l3
      show tg' v (L2.wipe σ (own.map (·.2))) c3.H _
      refine sg c3 x v (wipe e (own.map (·.2))) _ _ ok3 rv ((envR_wipe (er.mono l1) _).mono l13) ?_
      rw [s3, q1]
      intro c4 σ4 ok4 l4 r4 s4 er4 n4 k4
      refine ⟨wipe_same (by rw [n4, wipe_length]) fun k hk => k4 k fun z => hk (htv k z), ?_⟩
      refine st c4 σ4 e1 _ ok4 er4 ?_
      rw [s4, q2]
      intro c5 ok5 l5 r5 s5
      have l25 := (l3.trans l4).trans l5
      have l15 := l2.trans l25
      have r25 : RsE c5 c2 := r5.trans (r4.trans r3)
      cases b with
      | false =>
        rw [if_neg (by decide)]
        exact ⟨c5, acc, vs, rfl, hlt, rfl, ok5, l15, by rw [r25.eq, r2], fun a h => (r25.kp a (by rw [r2]; exact List.mem_cons_of_mem _ h)).trans (k2 a h), jw.mono _ _ gd2 l25, RepL.mono l25 _ _ ra, (r25.kp Dl mD).trans hDl, by omega, by rw [s5]; exact unb (qf rfl)⟩
      | true =>
        rw [if_pos rfl]
        obtain ⟨y, S2, q3, hp4⟩ := qt rfl
        refine se c5 σ4 e1 _ ok5 (er4.mono l5) ?_
        rw [s5, q3]
        intro c6 w ok6 l6 r6 s6 rw6
        have l26 := l25.trans l6
        have r26 : RsE c6 c2 := r6.trans r25
        have hD6 : c6.H Dl = some (.lst vs) := (r26.kp Dl mD).trans hDl
        have m6 : Dl ∈ c6.rs := by rw [r26.eq]; exact mD
        have l67 : Le c6 { c6 with H := upd c6.H Dl (.lst (vs ++ [w])) } := Le.mutR m6
        refine ⟨vs, hD6, by rw [sizeLine_eq]; omega, ⟨{ c6 with H := upd c6.H Dl (.lst (vs ++ [w])) }, acc ++ [y], vs ++ [w], rfl, hlt, rfl, ok6.mutR m6 (fun ps z => by rw [hD6] at z; cases z) (fun q z => by rw [hD6] at z; cases z), (l2.trans l26).mutAfter hD, by rw [← r2]; exact r26.eq, fun a h => ?_, jw.mono _ _ gd2 (l26.trans l67), RepL.mono l67 _ _ (repL_app (RepL.mono l26 _ _ ra) (repL_one rw6)), upd_same, by rw [List.length_append]; simp; omega, by rw [← s6] at hp4; exact unb hp4⟩⟩
        show upd c6.H Dl (.lst (vs ++ [w])) a = _
        have hne : a ≠ Dl := fun z => nD (z ▸ h)
        rw [upd_ne hne]
        exact (r26.kp a (by rw [r2]; exact List.mem_cons_of_mem _ h)).trans (k2 a h)
    · -- the end
      have hi2 : i = p.1.length := by omega
      subst hi2
      rw [List.drop_length] at hp2
      refine .inl ⟨jw.stop c2 ok2 gd2, ?_⟩
      have hq : WE g c Q (.lst acc) (unlockAt c2.S p.2) := hp2
      have okU := ok2.unR r2
      have lU := Le.unR (c := c2) r2
      have l1U : Le c1 { c2 with rs := c1.rs } := l2.trans lU
      have hlk2 : ∀ r, p.2 = some r → ∃ o, ({ c2 with rs := c1.rs } : Ct).S[r]? = some (.lck (.lst o)) := fun r hr => by
        obtain ⟨o, ho, _⟩ := hlk r hr
        exact ⟨o, l2.lkd r _ ho⟩
      have hn0 : ∀ r, p.2 = some r → ∀ x, c.S[r]? ≠ some (.lck x) := fun r hr x => by
        obtain ⟨o, _, hx⟩ := hlk r hr
        exact hx x
      refine hq (({ c2 with rs := c1.rs } : Ct).unlk p.2) (.ref Dl) (unlk_ok okU hlk2) (unlk_le (l1.trans l1U) hlk2 hn0) ⟨r1.eq, fun a h => (k2 a (by rw [r1.eq]; exact h)).trans (r1.kp a h)⟩ rfl ?_
      refine rep_lst.mpr ⟨Dl, vs, rfl, ⟨nD, fun k hk e => ?_⟩, hDl, RepL.monoW (unlk_w hlk2) _ _ (RepL.mono lU _ _ ra)⟩
      have hk' : c2.live k := unlk_live hlk2 hk
      exact ok2.rsv k hk' (by rw [show c2.ι k = Dl from e]; exact mD)
theorem es_lc {elt tg it : Expr} {ifs : List Expr} {scope : Scope} {own : List (Str × Nat)} {pos : Pos} {mi : MI} {mg : MG} {mt : MB} {me : ME} {tv : List Nat} (xo : XO g X E) (hi : IS g X E tg it mi) (ok : BlkOk X.N X.env.scope scope own)
    (hg : ∀ p, GS g (blkX X scope p) F0 tg mg tv) (htv : ∀ k, k ∈ tv → k ∈ own.map (·.2)) (ht : ∀ p, TS' g (blkX X scope p) F0 ifs mt) (he : ∀ p, ES g (blkX X scope p) F0 elt me) (hs : ∀ x, foldedSetIterable it X.env x = pure x := by intro _; rfl) :
    ES g X E (.ListComp elt [⟨tg, it, ifs, 0⟩] scope pos) (eLC (own.map (·.2)) mi mg mt me) := by
  obtain ⟨wi, g1, tt, te, pi, pg, pt, pe, sl⟩ := lc_has hi hg htv ht he
  exact ⟨_, pe_lc xo.calm xo.nd pi ok (fun s H C cl fp => pg (s, H, C, cl, fp)) (fun s H C cl fp => pt (s, H, C, cl, fp)) (fun s H C cl fp => pe (s, H, C, cl, fp)) hs, sl⟩
end
end Sm
end

section
set_option Elab.async false
set_option linter.all false
set_option autoImplicit false
set_option maxRecDepth 100000
set_option maxHeartbeats 4000000
namespace Sm
open PySem L2
/-! ### statements -/
/-- what is wanted behind a statement, by how it ends -/
def WF (g : Gx) (c : Ct) (D : Ends) : Fl → Store → Prop
  | .nx e, S => ∀ c' σ', Ok g c' → Le c c' → RsE c' c → c'.S = S → EnvR c' e σ' → D.nx σ' c'.H
  | .bk e, S => ∀ c' σ', Ok g c' → Le c c' → RsE c' c → c'.S = S → EnvR c' e σ' → D.bk σ' c'.H
  | .ct e, S => ∀ c' σ', Ok g c' → Le c c' → RsE c' c → c'.S = S → EnvR c' e σ' → D.ct σ' c'.H
  | .rt d, S => ∀ c' v, Ok g c' → Le c c' → RsE c' c → c'.S = S → Rep c' d v → D.rt v c'.H
section
variable {g : Gx} {X : Cx} {E : XK} {En : Ends}
theorem WF.later {c c1 : Ct} (l : Le c c1) (r : RsE c1 c) : ∀ {f : Fl} {S : Store}, WF g c En f S → WF g c1 En f S
  | .nx _, _, h => fun c' σ' ok' l' r' s' er => h c' σ' ok' (l.trans l') (r'.trans r) s' er
  | .bk _, _, h => fun c' σ' ok' l' r' s' er => h c' σ' ok' (l.trans l') (r'.trans r) s' er
  | .ct _, _, h => fun c' σ' ok' l' r' s' er => h c' σ' ok' (l.trans l') (r'.trans r) s' er
  | .rt _, _, h => fun c' σ' ok' l' r' s' er => h c' σ' ok' (l.trans l') (r'.trans r) s' er
theorem postF_later {c c1 : Ct} (l : Le c c1) (r : RsE c1 c) : ∀ {o : Out Fl}, PostG g c1 E (WF g c En) o → PostG g c1 E (WF g c1 En) o
  | .ok _ _, h => WF.later l r h
  | .exc _ _, h => h
  | .bad, h => h
theorem postF_on {c c1 : Ct} (l : Le c c1) (r : RsE c1 c) {o : Out Fl} (h : PostG g c E (WF g c En) o) : PostG g c1 E (WF g c1 En) o := postF_later l r (PostG.later l r h)
def SS (g : Gx) (E : XK) (t : TS) (m : MS) : Prop := ∀ c σ e D, Ok g c → EnvR c e σ → PostG g c E (WF g c D) (m e c.S) → t D σ c.H
def ST (g : Gx) (X : Cx) (E : XK) (st : Stmt) (m : MS) : Prop := ∃ t, PS X st t ∧ SS g E t m
def SL (g : Gx) (X : Cx) (E : XK) (st : List Stmt) (m : MS) : Prop := ∃ t, PSs X st t ∧ SS g E t m
theorem sl_nil : SL g X E [] sNil := ⟨_, pss_nil, fun c σ e D ok er hp => hp c σ ok (Le.refl c) (RsE.refl c) rfl er⟩
theorem sl_one {a : Stmt} {m : MS} : ST g X E a m → SL g X E [a] m := fun ⟨t, pt, st⟩ => ⟨t, pss_one pt, st⟩
theorem sl_cons {a : Stmt} {r : List Stmt} {ma mr : MS} : ST g X E a ma → SL g X E r mr → SL g X E (a :: r) (sSeq ma mr) :=
  fun ⟨ta, pa, sa⟩ ⟨tb, pb, sb⟩ => ⟨_, pss_cons pa pb, fun c σ e D ok er hp => by
    show ta { D with nx := tb D } σ c.H
    refine sa c σ e _ ok er ?_
    have hp' : PostG g c E (WF g c D) ((ma e c.S).bind fun f S1 => match f with
      | .nx e1 => mr e1 S1
      | f => .ok f S1) := hp
    revert hp'
    cases ma e c.S with
    | bad => exact id
    | exc k S => exact id
    | ok f S =>
      cases f with
      | nx e1 => exact fun hp c' σ' ok' l' r' s' er' => sb c' σ' e1 D ok' er' (by rw [s']; exact postF_on l' r' hp)
      | bk e1 => exact id
      | ct e1 => exact id
      | rt e1 => exact id⟩
theorem st_pass {pos : Pos} : ST g X E (.Pass pos) sNil := ⟨_, ps_pass, fun c σ e D ok er hp => hp c σ ok (Le.refl c) (RsE.refl c) rfl er⟩
theorem st_doc {x : Str} {j pos pos' : _} : ST g X E (.Expr (.Constant (.str x) j pos) pos') sNil := ⟨_, ps_doc, fun c σ e D ok er hp => hp c σ ok (Le.refl c) (RsE.refl c) rfl er⟩
theorem st_break {pos : Pos} : ST g X E (.Break pos) sBrk := ⟨_, ps_break, fun c σ e D ok er hp => hp c σ ok (Le.refl c) (RsE.refl c) rfl er⟩
theorem st_cont {pos : Pos} : ST g X E (.Continue pos) sCt := ⟨_, ps_continue, fun c σ e D ok er hp => hp c σ ok (Le.refl c) (RsE.refl c) rfl er⟩
theorem st_expr {a : Expr} {m : ME} {pos : Pos} (hs : swapsWith a none pos.line X.env = pure false := by rfl) : ES g X E a m → ST g X E (.Expr a pos) (sExpr m) := fun ⟨ta, pa, sa⟩ => ⟨_, ps_expr pa hs, fun c σ e D ok er hp => by
  show ta σ c.H _
  exact bindE (R := WF g c D) sa ok er hp fun c1 d v ok1 l1 r1 rx hp1 => hp1 c1 σ ok1 l1 r1 rfl (er.mono l1)⟩
theorem st_ret {a : Expr} {m : ME} {pos : Pos} : ES g X E a m → ST g X E (.Return (some a) pos) (sRet m) := fun ⟨ta, pa, sa⟩ => ⟨_, ps_ret pa, fun c σ e D ok er hp => by
  show ta σ c.H _
  exact bindE (R := WF g c D) sa ok er hp fun c1 d v ok1 l1 r1 rx hp1 => hp1 c1 v ok1 l1 r1 rfl rx⟩
theorem st_retN {pos : Pos} : ST g X E (.Return none pos) sRetN := ⟨_, ps_retN, fun c σ e D ok er hp => hp c .non ok (Le.refl c) (RsE.refl c) rfl (rep_non.mpr rfl)⟩
theorem st_if {a : Expr} {p q : List Stmt} {mt : MB} {ma mb : MS} {pos : Pos} : BS g X E a mt → SL g X E p ma → SL g X E q mb → ST g X E (.If a p q pos) (sIf mt ma mb) :=
  fun ⟨tt, pt, st⟩ ⟨ta, pa, sa⟩ ⟨tb, pb, sb⟩ => ⟨_, ps_if pt pa pb, fun c σ e D ok er hp => by
    show tt σ c.H _
    refine bindB (R := WF g c D) st ok er hp fun c1 b ok1 l1 r1 hp1 => ?_
    cases b with
    | true => exact sa c1 σ e D ok1 (er.mono l1) (postF_later l1 r1 hp1)
    | false => exact sb c1 σ e D ok1 (er.mono l1) (postF_later l1 r1 hp1)⟩
theorem st_set (i : Nat) {x : Str} {a : Expr} {m : ME} {pos pos' : Pos} (xo : XO g X E) (hN : X.N[i]? = some x := by rfl) (hl : Loc X.env.scope x := by first | exact Or.inl rfl | exact Or.inr rfl) (hs : swapsWith a (some (.Name x pos')) pos.line X.env = pure false := by rfl)
    (hf : X.fn x = true ∨ X.env.scope.names.lookup x = some .local := by first | exact .inl rfl | exact .inr rfl | assumption) : ES g X E a m → ST g X E (.Assign [.Name x pos'] a pos) (sSet i m) := fun ⟨ta, pa, sa⟩ => ⟨_, ps_set xo.nd hN hl pa hs hf, fun c σ e D ok er hp => by
  show ta σ c.H _
  exact bindE (R := WF g c D) sa ok er hp fun c1 d v ok1 l1 r1 rx hp1 => hp1 c1 _ ok1 l1 r1 rfl (envR_set (er.mono l1) rx)⟩
theorem st_setLc (i : Nat) {y : Str} {py : Pos} {elt tg it : Expr} {ifs : List Expr} {scope : Scope} {own : List (Str × Nat)} {pos spos : Pos} {mi : MI} {mg : MG} {mt : MB} {me : ME} {tv : List Nat} (xo : XO g X E) (hi : IS g X E tg it mi) (ok : BlkOk X.N X.env.scope scope own)
    (hg : ∀ p, GS g (blkX X scope p) F0 tg mg tv) (htv : ∀ k, k ∈ tv → k ∈ own.map (·.2)) (ht : ∀ p, TS' g (blkX X scope p) F0 ifs mt) (he : ∀ p, ES g (blkX X scope p) F0 elt me)
    (hsw : swapsWith (.ListComp elt [⟨tg, it, ifs, 0⟩] scope pos) (some (.Name y py)) spos.line X.env = pure true) (hN : X.N[i]? = some y := by rfl) (hyl : X.env.scope.names.lookup y = some .local := by rfl) (hs : ∀ x, foldedSetIterable it X.env x = pure x := by intro _; rfl) :
    ST g X E (.Assign [.Name y py] (.ListComp elt [⟨tg, it, ifs, 0⟩] scope pos) spos) (sSet i (eLC (own.map (·.2)) mi mg mt me)) := by
  obtain ⟨wi, g1, tt, te, pi, pg, pt, pe, sl⟩ := lc_has hi hg htv ht he
  refine ⟨_, ps_setLc xo.calm xo.nd hN hyl hsw pi ok (fun s H C cl fp => pg (s, H, C, cl, fp)) (fun s H C cl fp => pt (s, H, C, cl, fp)) (fun s H C cl fp => pe (s, H, C, cl, fp)) hs, fun c σ e D ok er hp => ?_⟩
  show tLc wi g1 tt te (own.map (·.2)) σ c.H _
  exact bindE (R := WF g c D) sl ok er hp fun c1 d v ok1 l1 r1 rx hp1 => hp1 c1 _ ok1 l1 r1 rfl (envR_set (er.mono l1) rx)
theorem st_asg {tg a : Expr} {m : ME} {mg : MG} {tv : List Nat} {pos : Pos} (hs : swapsWithSole [tg] a pos.line X.env = pure false := by rfl) (hw : swappedStores [tg] a X.env = pure none := by rfl)
    (h1 : (assignEach [tg] X.env).map (·.2) = [assign tg X.env] := by rfl) : GS g X E tg mg tv → ES g X E a m → ST g X E (.Assign [tg] a pos) (sAsg mg m) := fun ⟨tg', pg, sg⟩ ⟨ta, pa, sa⟩ => ⟨_, ps_asg pa pg hs hw h1, fun c σ e D ok er hp => by
  show ta σ c.H _
  refine bindE (R := WF g c D) sa ok er hp fun c1 d v ok1 l1 r1 rx hp1 => ?_
  show tg' v σ c1.H D.nx
  refine sg c1 d v e σ _ ok1 rx (er.mono l1) ?_
  revert hp1
  cases mg d e c1.S with
  | bad => exact id
  | exc k S => exact id
  | ok e1 S => exact fun hp1 c2 σ2 ok2 l2 r2 s2 er2 _ _ => hp1 c2 σ2 ok2 (l1.trans l2) (r2.trans r1) s2 er2⟩
theorem rep3 {c : Ct} {a b d : D} {vs : List V} (h : RepL c [a, b, d] vs) : ∃ u v w, vs = [u, v, w] ∧ Rep c a u ∧ Rep c b v ∧ Rep c d w := by
  obtain ⟨u, q, rfl, h1, h2⟩ := repL_cons.mp h
  obtain ⟨v, w, rfl, h3, h4⟩ := rep2 h2
  exact ⟨u, v, w, rfl, h1, h3, h4⟩
theorem st_par (i j : Nat) {x y : Str} {a b : Expr} {m : MA} {px py pt pos : Pos} {kt k2 pt2} (xo : XO g X E) (hij : i ≠ j := by decide) (hi : X.N[i]? = some x := by rfl) (hj : X.N[j]? = some y := by rfl) (hx : X.env.scope.names.lookup x = some .local := by rfl) (hy : X.env.scope.names.lookup y = some .local := by rfl)
    (hw : swappedStores [.Tuple [.Name x px, .Name y py] kt pt] (.Tuple [a, b] k2 pt2) X.env = pure (some [x, y]) := by rfl)
    (hs : swapsWithSole [.Tuple [.Name x px, .Name y py] kt pt] (.Tuple [a, b] k2 pt2) pos.line X.env = pure false := by rfl) : AS g X E [a, b] m →
    ST g X E (.Assign [.Tuple [.Name x px, .Name y py] kt pt] (.Tuple [a, b] k2 pt2) pos) (sPar i j m) := fun ⟨ta, pa, sa, _⟩ => ⟨_, ps_par xo.calm xo.nd hi hj hij hx hy pa hw hs, fun c σ e D ok er hp => by
  show ta σ c.H _
  refine bindA (R := WF g c D) sa ok er hp fun c1 ds vs ok1 l1 r1 rx hp1 => ?_
  split at hp1
  · obtain ⟨v, w, rfl, h1, h2⟩ := rep2 rx
    exact ⟨v, w, rfl, hp1 c1 _ ok1 l1 r1 rfl (envR_set (envR_set (er.mono l1) h1) h2)⟩
  · exact hp1.elim⟩
theorem st_par3 (i j k : Nat) {x y z : Str} {a b d : Expr} {m : MA} {px py pz pt pos : Pos} {kt k2 pt2} (xo : XO g X E) (hij : i ≠ j := by decide) (hik : i ≠ k := by decide) (hjk : j ≠ k := by decide) (hi : X.N[i]? = some x := by rfl) (hj : X.N[j]? = some y := by rfl) (hk : X.N[k]? = some z := by rfl)
    (hx : X.env.scope.names.lookup x = some .local := by rfl) (hy : X.env.scope.names.lookup y = some .local := by rfl) (hz : X.env.scope.names.lookup z = some .local := by rfl)
    (hw : swappedStores [.Tuple [.Name x px, .Name y py, .Name z pz] kt pt] (.Tuple [a, b, d] k2 pt2) X.env = pure (some [x, y, z]) := by rfl)
    (hs : swapsWithSole [.Tuple [.Name x px, .Name y py, .Name z pz] kt pt] (.Tuple [a, b, d] k2 pt2) pos.line X.env = pure false := by rfl) : AS g X E [a, b, d] m →
    ST g X E (.Assign [.Tuple [.Name x px, .Name y py, .Name z pz] kt pt] (.Tuple [a, b, d] k2 pt2) pos) (sPar3 i j k m) := fun ⟨ta, pa, sa, _⟩ => ⟨_, ps_par3 xo.calm xo.nd hi hj hk hij hik hjk hx hy hz pa hw hs, fun c σ e D ok er hp => by
  show ta σ c.H _
  refine bindA (R := WF g c D) sa ok er hp fun c1 ds vs ok1 l1 r1 rx hp1 => ?_
  split at hp1
  · obtain ⟨u, v, w, rfl, h1, h2, h3⟩ := rep3 rx
    exact ⟨u, v, w, rfl, hp1 c1 _ ok1 l1 r1 rfl (envR_set (envR_set (envR_set (er.mono l1) h1) h2) h3)⟩
  · exact hp1.elim⟩
/-- name op= e -/
theorem sr_iadd : SR g (ipI fun i j => i + j) iAdd := fun c x y v u Q z ok rx ry e q => by
  cases x <;> first | (cases e; done) | skip
  cases y <;> first | (cases e; done) | skip
  cases e
  exact ⟨_, _, rep_int.mp rx, rep_int.mp ry, we_int ok q⟩
theorem sr_isub : SR g (ipI fun i j => i - j) iSub := fun c x y v u Q z ok rx ry e q => by
  cases x <;> first | (cases e; done) | skip
  cases y <;> first | (cases e; done) | skip
  cases e
  exact ⟨_, _, rep_int.mp rx, rep_int.mp ry, we_int ok q⟩
theorem st_aug (i : Nat) {x : Str} {a : Expr} {m : ME} {op : Operator} {ti : TIp} {f : Store → D → D → Option D} {pos pos' : Pos} (xo : XO g X E) (ho : PIp X op ti) (hr : SR g ti f) (hN : X.N[i]? = some x := by rfl) (hl : Loc X.env.scope x := by first | exact Or.inl rfl | exact Or.inr rfl)
    (hf : X.fn x = true ∨ X.env.scope.names.lookup x = some .local := by first | exact .inl rfl | exact .inr rfl | assumption) : ES g X E a m → ST g X E (.AugAssign (.Name x pos') op a pos) (sAug f i m) := fun ⟨ta, pa, sa⟩ => ⟨_, ps_aug xo.nd hN hl pa ho hf, fun c σ e D ok er hp => by
  have hp' : PostG g c E (WF g c D) (match e[i]? with
    | some (some x) => (m e c.S).bind fun y S1 => match f S1 x y with
      | some z => .ok (.nx (e.set i (some z))) S1
      | none => .bad
    | _ => .bad) := hp
  split at hp'
  · rename_i d hd
    obtain ⟨v, h1, h2⟩ := er.2 i d hd
    refine ⟨v, h1, ?_⟩
    show ta σ c.H _
    refine bindE (R := WF g c D) sa ok er hp' fun c1 y u ok1 l1 r1 ry hp1 => ?_
    split at hp1
    · rename_i z hz
      exact hr c1 d y v u _ z ok1 (Rep.mono l1 _ _ h2) ry hz fun c2 w ok2 l2 r2 s2 rw2 => hp1 c2 _ ok2 (l1.trans l2) (r2.trans r1) s2 (envR_set (er.mono (l1.trans l2)) rw2)
    · exact hp1.elim
  · exact hp'.elim⟩
/-! ### fields -/
theorem put_ins {c : Ct} (ok : Ok g c) {r k i : Nat} {fs : List (Nat × D)} {dx : Addr} {us : List (Str × V)} {d : D} {v : V} (hl : c.live r) (hS : c.S[r]? = some (.ins k fs)) (hH : c.H (c.ι r) = some (.ins (g.cl k) dx us)) (hF : RepF g c fs us) (hd : Rep c d v) :
    ∃ c', Ok g c' ∧ Le c c' ∧ RsE c' c ∧ c'.S = c.S.set r (.ins k (putF i d fs)) ∧ c'.H = upd c.H (c.ι r) (.ins (g.cl k) dx (L2.putF (g.fn i) v us)) := by
  have nl : ∀ x, c.S[r]? ≠ some (.lck x) := fun x z => by rw [hS] at z; cases z
  have l : Le c (c.put r (.ins k (putF i d fs)) (.ins (g.cl k) dx (L2.putF (g.fn i) v us))) := Le.put hl nl
  exact ⟨c.put r (.ins k (putF i d fs)) (.ins (g.cl k) dx (L2.putF (g.fn i) v us)), ok.put (o := .ins k (putF i d fs)) (u := .ins (g.cl k) dx (L2.putF (g.fn i) v us)) hl nl hH (fun ps z => by cases z) (fun q z => by cases z) ⟨dx, _, upd_same, RepF.monoW l.toLw _ _ (repF_put hd hF)⟩, l, RsE.put ok hl, rfl, rfl⟩
theorem st_fld (i : Nat) {o a : Expr} {n : Str} {mo m : ME} {pos pos' : Pos} (hn : n = g.fn i) (hc : ∀ k, Cls X.K (g.cl k) ∧ NoAttr X.K (g.cl k) n) (hs : swapsWith a (some (.Attribute o n pos')) pos.line X.env = pure false := by rfl) :
    ES g X E o mo → ES g X E a m → ST g X E (.Assign [.Attribute o n pos'] a pos) (sFld i mo m) := fun ⟨to, po, so⟩ ⟨ta, pa, sa⟩ => ⟨_, ps_fld po pa hs, fun c σ e D ok er hp => by
  show ta σ c.H _
  refine bindE (R := WF g c D) sa ok er hp fun c1 y u ok1 l1 r1 ry hp1 => ?_
  show to σ c1.H _
  refine bindE (R := WF g c D) so ok1 (er.mono l1) hp1 fun c2 x v ok2 l2 r2 rx hp2 => ?_
  split at hp2
  · rename_i r k fs h
    by_cases hlen : fs.length < 1000
    · rw [if_pos hlen] at hp2
      obtain ⟨_, hl, hS, rfl, dx, us, h1, h2⟩ := insAt_of ok2 rx h
      obtain ⟨c3, ok3, l3, r3, s3, h3⟩ := put_ins (i := i) ok2 hl hS h1 h2 (Rep.mono l2 _ _ ry)
      refine ⟨c2.ι r, g.cl k, dx, us, rfl, h1, (hc k).1, (hc k).2, by rw [repF_len h2]; exact hlen, ?_⟩
      rw [hn, ← h3]
      exact hp2 c3 σ ok3 (l1.trans (l2.trans l3)) (r3.trans (r2.trans r1)) s3 (er.mono (l1.trans (l2.trans l3)))
    · rw [if_neg hlen] at hp2; exact hp2.elim
  · exact hp2.elim⟩
theorem sr_radd : SR g rAdd iAdd := sr_iadd
theorem sr_rsub : SR g rSub iSub := sr_isub
theorem st_fldaug (i : Nat) {o a : Expr} {n : Str} {mo m : ME} {op : Operator} {rd : V → V → Hp → VK → Prop} {f : Store → D → D → Option D} {pos tpos : Pos} (hop : InOp X op rd) (hr : SR g rd f) (hn : n = g.fn i) (hc : ∀ k, Cls X.K (g.cl k) ∧ NoAttr X.K (g.cl k) n) :
    ES g X E o mo → ES g X E a m → ST g X E (.AugAssign (.Attribute o n tpos) op a pos) (sFldAug f i mo m) := fun ⟨to, po, so⟩ ⟨ta, pa, sa⟩ => ⟨_, ps_fldaug po pa hop, fun c σ e D ok er hp => by
  show to σ c.H _
  refine bindE (R := WF g c D) so ok er hp fun c1 x v ok1 l1 r1 rx hp1 => ?_
  split at hp1
  · rename_i r0 k0 fs0 h
    obtain ⟨_, hl, hS, rfl, dx, us, h1, h2⟩ := insAt_of ok1 rx h
    split at hp1
    · rename_i d hd
      obtain ⟨w, h3, h4⟩ := repF_look h2 hd
      refine ⟨c1.ι r0, g.cl k0, dx, us, w, rfl, h1, (hc k0).1, (hc k0).2, by rw [hn]; exact h3, ?_⟩
      show ta σ c1.H _
      refine bindE (R := WF g c D) sa ok1 (er.mono l1) hp1 fun c2 y u ok2 l2 r2 ry hp2 => ?_
      split at hp2
      · rename_i z hz
        have rx2 := Rep.mono l2 _ _ rx
        cases h' : insAt c2.S x with
        | none => simp only [h'] at hp2; exact hp2.elim
        | some p =>
          obtain ⟨r, k, fs⟩ := p
          simp only [h'] at hp2
          by_cases hlen : k = k0 ∧ fs.length < 1000
          · rw [if_pos hlen] at hp2
            obtain ⟨hk, hlen⟩ := hlen
            subst hk
            refine hr c2 d y w u _ z ok2 (Rep.mono l2 _ _ h4) ry hz fun c3 t ok3 l3 r3 s3 rt => ?_
            have rx3 := Rep.mono l3 _ _ rx2
            have h'3 : insAt c3.S x = some (r, k, fs) := by rw [s3]; exact h'
            obtain ⟨_, hl2, hS2, e2, dx2, us2, h12, h22⟩ := insAt_of ok3 rx3 h'3
            have e3 : c1.ι r0 = c3.ι r := V.ref.inj e2
            obtain ⟨c4, ok4, l4, r4, s4, h44⟩ := put_ins (i := i) ok3 hl2 hS2 h12 h22 rt
            refine ⟨dx2, us2, by rw [e3]; exact h12, by rw [repF_len h22]; exact hlen, ?_⟩
            rw [hn, e3, ← h44]
            exact hp2 c4 σ ok4 (l1.trans (l2.trans (l3.trans l4))) (r4.trans (r3.trans (r2.trans r1))) (by rw [s4, s3]) (er.mono (l1.trans (l2.trans (l3.trans l4))))
          · rw [if_neg hlen] at hp2; exact hp2.elim
      · exact hp2.elim
    · exact hp1.elim
  · exact hp1.elim⟩
/-! ### lists of the store -/
theorem lstAt_of {c : Ct} (ok : Ok g c) {x : D} {v : V} {r : Nat} {xs : List D} (rx : Rep c x v) (e : lstAt c.S x = some (r, xs)) :
    x = .obj r ∧ c.live r ∧ c.S[r]? = some (.lst xs) ∧ v = .ref (c.ι r) ∧ ∃ vs, c.H (c.ι r) = some (.lst vs) ∧ RepL c xs vs := by
  cases x <;> first | (simp [lstAt] at e; done) | skip
  rename_i j
  unfold lstAt at e
  dsimp only at e
  cases h : c.S[j]? with
  | none => simp only [h] at e; cases e
  | some o =>
    cases o <;> first | (simp only [h] at e; cases e; done) | skip
    simp only [h] at e
    cases e
    have hl := live_of h (by intro z; cases z)
    exact ⟨rfl, hl, h, (rep_obj.mp rx).2 hl, ok.at_ _ _ h⟩
theorem put_lst {c : Ct} (ok : Ok g c) {r : Nat} {xs ys : List D} {vs ws : List V} (hl : c.live r) (hS : c.S[r]? = some (.lst xs)) (hH : c.H (c.ι r) = some (.lst vs)) (hF : RepL c ys ws) :
    ∃ c', Ok g c' ∧ Le c c' ∧ RsE c' c ∧ c'.S = c.S.set r (.lst ys) ∧ c'.H = upd c.H (c.ι r) (.lst ws) := by
  have nl : ∀ x, c.S[r]? ≠ some (.lck x) := fun x z => by rw [hS] at z; cases z
  have l : Le c (c.put r (.lst ys) (.lst ws)) := Le.put hl nl
  exact ⟨c.put r (.lst ys) (.lst ws), ok.put (o := .lst ys) (u := .lst ws) hl nl hH (fun ps z => by cases z) (fun q z => by cases z) ⟨_, upd_same, RepL.monoW l.toLw _ _ hF⟩, l, RsE.put ok hl, rfl, rfl⟩
theorem es_append {o a : Expr} {mo m : ME} {apos cpos : Pos} (hbase : attributeBase o "append" X.env (eval o X.env) = eval o X.env := by rfl)
    (hfew : ((backTo cpos (starEach [a] X.env)).all (fun x => !x.1) && (backToKw cpos (keywordEach [] X.env)).all (fun x => x.1.isSome)
      && decide (([a] : List Expr).length + ([] : List Keyword).length + (if ([] : List Keyword).isEmpty then 0 else 1) < 30)) = true := by rfl)
    (hline : (apos.endLine == cpos.line) = true := by rfl) (hs : starEach [a] X.env = (false, eval a X.env) :: starEach [] X.env := by rfl) (hpl : (backTo cpos (starEach [] X.env)).any (·.1) = false := by rfl) :
    ES g X E o mo → ES g X E a m → ES g X E (.Call (.Attribute o "append" apos) [a] [] cpos) (eAppend mo m) := fun ⟨to, po, so⟩ ⟨ta, pa, sa⟩ => by
  refine ⟨_, pe_bm PySem.F.plainAttrs_list PySem.F.slot_list_append PySem.F.type_list_append mt_append po (pa_cons pa pa_nil hs) hbase hfew hline hs hpl, fun c σ e Q ok er hp => ?_⟩
  show to σ c.H _
  refine bindE (R := WE g c Q) so ok er hp fun c1 x v ok1 l1 r1 rx hp1 => ?_
  split at hp1
  · rename_i p0 h0
    obtain ⟨r0, xs0⟩ := p0
    obtain ⟨e0, _, _, rfl, vs0, h1, _⟩ := lstAt_of ok1 rx h0
    refine ⟨.inl ⟨rfl, _, SqL.of h1⟩, ?_⟩
    show ta σ c1.H _
    refine bindE (R := WE g c Q) sa ok1 (er.mono l1) hp1 fun c2 y w ok2 l2 r2 ry hp2 => ?_
    have rx2 := Rep.mono l2 _ _ rx
    split at hp2
    · rename_i r xs h
      by_cases hlen : xs.length < 100000
      · rw [if_pos hlen] at hp2
        obtain ⟨_, hl, hS, e2, vs, h3, h4⟩ := lstAt_of ok2 rx2 h
        obtain ⟨c3, ok3, l3, r3, s3, h5⟩ := put_lst ok2 hl hS h3 (repL_app h4 (repL_one ry))
        refine ⟨c2.ι r, vs, w, e2, rfl, h3, by rw [sizeLine_eq, repL_len h4]; omega, ?_⟩
        rw [← h5]
        exact hp2 c3 .non ok3 (l1.trans (l2.trans l3)) (r3.trans (r2.trans r1)) s3 (rep_non.mpr rfl)
      · rw [if_neg hlen] at hp2; exact hp2.elim
    · exact hp2.elim
  · exact hp1.elim
theorem st_raise {a : Expr} {k : Nat} {pos : Pos} (xo : XO g X E) (hm : PMk X a fun _ H Q => Q (.ref (g.ex k)) none H) : ST g X E (.Raise (some a) none pos) (sRaise k) :=
  ⟨_, ps_raise xo.calm xo.take hm, fun c σ e D ok er hp => hp c ok (Le.refl c) (RsE.refl c) rfl⟩
theorem st_raise1 {a : Expr} {n : Str} {k : Nat} {m : ME} {C : Addr} {bmB : List Value} {B newId initId : String} {p pos rpos : Pos} (xo : XO g X E) (hC : C = g.ex k) (F : ExcBaseFacts B newId initId bmB) (q : PySem.W.excIn X.K C bmB newId = true) (gC : X.mg n = some (.ref C)) (kC : PySem.W.keepIn X.K (.ref C) = true) (r : Raises X (.ref C)) (hg : Gl X n := by rfl)
    (hs : starEach [a] X.env = (false, eval a X.env) :: starEach [] X.env := by rfl) (hdb : (n == ("__debug__" : Str)) = false := by decide) : ES g X E a m → ST g X E (.Raise (some (.Call (.Name n p) [a] [] pos)) none rpos) (sRaise1 k m) :=
  fun ⟨ta, pa, sa⟩ => ⟨_, ps_raise xo.calm xo.take (SkE.pmk_own1 F q gC kC r hg pa hs hdb), fun c σ e D ok er hp => by
    subst hC
    show ta σ c.H _
    exact bindE (R := WF g c D) sa ok er hp fun c1 d v ok1 l1 r1 rx hp1 => hp1 c1 ok1 (Le.refl _) (RsE.refl _) rfl⟩
/-- o[i] = v -/
theorem st_sub {o i a : Expr} {mo mi m : ME} {spos pos : Pos} (ha : ∀ v, assign (.Subscript o i spos) X.env v = (do
      let ov ← holding [v] (eval o X.env)
      let iv ← holding [v, ov] (eval i X.env)
      standAt spos
      holding [v, ov, iv] (setItem ov iv v)
      release [v, ov, iv] []) := by intro _; rfl)
    (hs : swapsWithSole [.Subscript o i spos] a pos.line X.env = pure false := by rfl) (hw : swappedStores [.Subscript o i spos] a X.env = pure none := by rfl)
    (h1 : (assignEach [.Subscript o i spos] X.env).map (·.2) = [assign (.Subscript o i spos) X.env] := by rfl) :
    ES g X E o mo → ES g X E i mi → ES g X E a m → ST g X E (.Assign [.Subscript o i spos] a pos) (sSub mo mi m) := fun ⟨to, po, so⟩ ⟨ti, pi, si⟩ ⟨ta, pa, sa⟩ =>
  ⟨_, ps_asg pa (pg_sub po pi set_list ha) hs hw h1, fun c σ e D ok er hp => by
    show ta σ c.H _
    refine bindE (R := WF g c D) sa ok er hp fun c1 y u ok1 l1 r1 ry hp1 => ?_
    show to σ c1.H _
    refine bindE (R := WF g c D) so ok1 (er.mono l1) hp1 fun c2 x v ok2 l2 r2 rx hp2 => ?_
    show ti σ c2.H _
    refine bindE (R := WF g c D) si ok2 (er.mono (l1.trans l2)) hp2 fun c3 k w ok3 l3 r3 rk hp3 => ?_
    split at hp3
    · rename_i r xs h
      obtain ⟨_, hl, hS, e2, vs, h3, h4⟩ := lstAt_of ok3 (Rep.mono l3 _ _ rx) h
      split at hp3
      · rename_i z
        split at hp3
        · rename_i j hj
          obtain ⟨c4, ok4, l4, r4, s4, h5⟩ := put_lst ok3 hl hS h3 (repL_set (Rep.mono (l2.trans l3) _ _ ry) j h4)
          refine ⟨c3.ι r, vs, z, j, e2, rep_int.mp rk, h3, by rw [ixZ_eq, repL_len h4]; exact hj, ?_⟩
          rw [← h5]
          exact hp3 c4 σ ok4 (l1.trans (l2.trans (l3.trans l4))) (r4.trans (r3.trans (r2.trans r1))) s4 (er.mono (l1.trans (l2.trans (l3.trans l4))))
        · exact hp3.elim
      · exact hp3.elim
    · exact hp3.elim⟩
/-! ### loops -/
theorem EnvR.monoW {c c' : Ct} (l : Lw c c') {e : Env} {σ : L2.St} (h : EnvR c e σ) : EnvR c' e σ := ⟨h.1, fun i d q => by
  obtain ⟨v, a, b⟩ := h.2 i d q
  exact ⟨v, a, Rep.monoW l _ _ b⟩⟩
structure FoI (g : Gx) (E : XK) (c0 c1 : Ct) (D : Ends) (good : Ct → Prop) (lk : Option Nat) (mg : MG) (mb : MS) (xs : List Sm.D) (i m : Nat) (σ : L2.St) (H : Hp) : Prop where
  ex : ∃ c e, m = xs.length - i ∧ i ≤ xs.length ∧ c.H = H ∧ Ok g c ∧ Le c1 c ∧ RsE c c1 ∧ good c ∧ EnvR c e σ ∧ PostG g c1 E (WF g c0 D) (forL lk mg mb (xs.drop i) e c.S)
theorem st_for {tg it : Expr} {body : List Stmt} {mi : MI} {mg : MG} {mb : MS} {tv : List Nat} {pos : Pos} (xo : XO g X E) (hp : PassesOwn (model X.prog X.w) X.A X.env X.xe) (hs : ∀ x, foldedSetIterable it X.env x = pure x := by intro _; rfl) :
    IS g X E tg it mi → GS g X E tg mg tv → SL g X E body mb → ST g X E (.For tg it body [] pos) (sFor mi mg mb) := fun ⟨wi, pi, si⟩ ⟨g1, pg, sg⟩ ⟨tb, pb, sb⟩ => ⟨_, ps_for hp xo.calm pi pg pb hs, fun c σ e D okc er hp => by
  show wi σ c.H _
  refine si c σ e _ okc er ?_
  have hp' : PostG g c E (WF g c D) ((mi e c.S).bind fun p S1 => forL p.2 mg mb p.1 e S1) := hp
  revert hp'
  cases mi e c.S with
  | bad => exact id
  | exc k S => exact id
  | ok p S =>
    intro hp' c1 J good ok1 l1 r1 s1 jw gd hlk
    have hp1 : PostG g c E (WF g c D) (forL p.2 mg mb p.1 e S) := hp'
    rw [← s1] at hp1
    have hn0 : ∀ r, p.2 = some r → ∀ x, c.S[r]? ≠ some (.lck x) := fun r hr x => by
      obtain ⟨o, _, hx⟩ := hlk r hr
      exact hx x
    have hlk1 : ∀ {c2 : Ct}, Le c1 c2 → ∀ r, p.2 = some r → ∃ o, c2.S[r]? = some (.lck (.lst o)) := fun l2 r hr => by
      obtain ⟨o, ho, _⟩ := hlk r hr
      exact ⟨o, l2.lkd r _ ho⟩
    -- the end of a walk: the lock is undone
    have endN : ∀ {c2 : Ct} {e2 : Sm.Env} {σ2 : L2.St} {S2 : Store}, Ok g c2 → Le c1 c2 → RsE c2 c1 → c2.S = S2 → EnvR c2 e2 σ2 → WF g c D (.nx e2) (unlockAt S2 p.2) → D.nx σ2 c2.H := fun {c2 e2 σ2 S2} ok2 l2 r2 s2 er2 h =>
      h (c2.unlk p.2) σ2 (unlk_ok ok2 (hlk1 l2)) (unlk_le (l1.trans l2) (hlk1 l2) hn0) ⟨r2.eq.trans r1.eq, fun a ha => (r2.kp a (by rw [r1.eq]; exact ha)).trans (r1.kp a ha)⟩ (by rw [← s2]; rfl) (er2.monoW (unlk_w (hlk1 l2)))
    have endR : ∀ {c2 : Ct} {d : Sm.D} {v : V} {S2 : Store}, Ok g c2 → Le c1 c2 → RsE c2 c1 → c2.S = S2 → Rep c2 d v → WF g c D (.rt d) (unlockAt S2 p.2) → D.rt v c2.H := fun {c2 d v S2} ok2 l2 r2 s2 rv h =>
      h (c2.unlk p.2) v (unlk_ok ok2 (hlk1 l2)) (unlk_le (l1.trans l2) (hlk1 l2) hn0) ⟨r2.eq.trans r1.eq, fun a ha => (r2.kp a (by rw [r1.eq]; exact ha)).trans (r1.kp a ha)⟩ (by rw [← s2]; rfl) (Rep.monoW (unlk_w (hlk1 l2)) _ _ rv)
    refine ⟨FoI g E c c1 D good p.2 mg mb p.1, ⟨p.1.length, ⟨c1, e, by simp, Nat.zero_le _, rfl, ok1, Le.refl _, RsE.refl _, gd, er.mono l1, by rw [List.drop_zero]; exact PostG.later l1 r1 hp1⟩⟩, ?_⟩
    rintro i m σ2 H ⟨c2, e2, rfl, hil, rfl, ok2, l2, r2, gd2, er2, hp2⟩
    by_cases hlt : i < p.1.length
    · obtain ⟨x, hx⟩ : ∃ x, p.1[i]? = some x := ⟨p.1[i], List.getElem?_eq_getElem hlt⟩
      have hdrop : p.1.drop i = x :: p.1.drop (i + 1) := by
        rw [List.drop_eq_getElem_cons hlt]
        rw [List.getElem?_eq_getElem hlt] at hx
        rw [Option.some.inj hx]
      rw [hdrop] at hp2
      refine .inr ⟨jw.go c2 i x hx ok2 gd2, FoI g E c c1 D good p.2 mg mb p.1 (i + 1) (p.1.length - (i + 1)), fun σ' H' hH => ⟨p.1.length - (i + 1), by omega, hH⟩, fun v H' hy => ?_⟩
      obtain ⟨c3, ok3, l3, r3, s3, rfl, rv⟩ := jw.yld c2 i x v H' hx ok2 gd2 hy
      show g1 v σ2 c3.H _
      refine sg c3 x v e2 σ2 _ ok3 rv (er2.mono l3) ?_
      rw [s3]
      have hp3 : PostG g c1 E (WF g c D) ((mg x e2 c2.S).bind fun e1 S1 => match mb e1 S1 with
        | .ok (.nx e2) S2 => forL p.2 mg mb (p.1.drop (i + 1)) e2 S2
        | .ok (.ct e2) S2 => forL p.2 mg mb (p.1.drop (i + 1)) e2 S2
        | .ok (.bk e2) S2 => .ok (.nx e2) (unlockAt S2 p.2)
        | .ok (.rt d) S2 => .ok (.rt d) (unlockAt S2 p.2)
        | r => r) := hp2
      have l13 := l2.trans l3
      have r13 := r3.trans r2
      revert hp3
      cases mg x e2 c2.S with
      | bad => exact id
      | exc k S => exact fun hp3 => PostG.later (R := WF g c D) (o := .exc k S) l13 r13 hp3
      | ok e3 S3 =>
        intro hp3 c4 σ4 ok4 l4 r4 s4 er4 _ _
        have l14 := l13.trans l4
        have r14 := r4.trans r13
        show tb _ σ4 c4.H
        refine sb c4 σ4 e3 _ ok4 er4 ?_
        rw [s4]
        have hp4 : PostG g c1 E (WF g c D) (match mb e3 S3 with
          | .ok (.nx e2) S2 => forL p.2 mg mb (p.1.drop (i + 1)) e2 S2
          | .ok (.ct e2) S2 => forL p.2 mg mb (p.1.drop (i + 1)) e2 S2
          | .ok (.bk e2) S2 => .ok (.nx e2) (unlockAt S2 p.2)
          | .ok (.rt d) S2 => .ok (.rt d) (unlockAt S2 p.2)
          | r => r) := hp3
        revert hp4
        cases mb e3 S3 with
        | bad => exact id
        | exc k S => exact fun hp3 => PostG.later (R := WF g c D) (o := .exc k S) l14 r14 hp3
        | ok f S =>
          cases f with
          | nx e5 => exact fun hp4 c5 σ5 ok5 l5 r5 s5 er5 => ⟨c5, e5, rfl, hlt, rfl, ok5, l14.trans l5, r5.trans r14, jw.mono _ _ gd2 (l3.trans (l4.trans l5)), er5, by rw [s5]; exact hp4⟩
          | ct e5 => exact fun hp4 c5 σ5 ok5 l5 r5 s5 er5 => ⟨c5, e5, rfl, hlt, rfl, ok5, l14.trans l5, r5.trans r14, jw.mono _ _ gd2 (l3.trans (l4.trans l5)), er5, by rw [s5]; exact hp4⟩
          | bk e5 => exact fun hp4 c5 σ5 ok5 l5 r5 s5 er5 => endN ok5 (l14.trans l5) (r5.trans r14) s5 er5 hp4
          | rt d5 => exact fun hp4 c5 σ5 ok5 l5 r5 s5 er5 => endR ok5 (l14.trans l5) (r5.trans r14) s5 er5 hp4
    · have hi2 : i = p.1.length := by omega
      subst hi2
      rw [List.drop_length] at hp2
      exact .inl ⟨jw.stop c2 ok2 gd2, endN ok2 l2 r2 rfl er2 hp2⟩⟩
structure WhI (g : Gx) (E : XK) (c0 : Ct) (D : Ends) (mt : MB) (mb : MS) (m : Nat) (σ : L2.St) (H : Hp) : Prop where
  ex : ∃ c e, c.H = H ∧ Ok g c ∧ Le c0 c ∧ RsE c c0 ∧ EnvR c e σ ∧ PostG g c E (WF g c0 D) (sWhile mt mb m e c.S)
theorem st_while {a : Expr} {body : List Stmt} {mt : MB} {mb : MS} {n : Nat} {pos : Pos} (hp : PassesOwn (model X.prog X.w) X.A X.env X.xe) : BS g X E a mt → SL g X E body mb → ST g X E (.While a body [] pos) (sWhile mt mb n) := fun ⟨tt, pt, st⟩ ⟨tb, pb, sb⟩ => ⟨_, ps_while hp pt pb, fun c σ e D okc er hp => by
  refine ⟨WhI g E c D mt mb, ⟨n, ⟨c, e, rfl, okc, Le.refl c, RsE.refl c, er, hp⟩⟩, ?_⟩
  rintro m σ1 H ⟨c1, e1, rfl, ok1, l1, r1, er1, hp1⟩
  cases m with
  | zero => exact hp1.elim
  | succ m =>
    show tt σ1 c1.H _
    refine bindB (R := WF g c D) st ok1 er1 hp1 fun c2 b ok2 l2 r2 hp2 => ?_
    have l02 := l1.trans l2
    have r02 := r2.trans r1
    cases b with
    | false =>
      rw [if_neg (by decide)]
      exact hp2 c2 σ1 ok2 l02 r02 rfl (er1.mono l2)
    | true =>
      rw [if_pos rfl]
      refine ⟨WhI g E c D mt mb m, fun σ' H' h => ⟨m, Nat.lt_succ_self m, h⟩, ?_⟩
      refine sb c2 σ1 e1 _ ok2 (er1.mono l2) ?_
      have hp3 : PostG g c2 E (WF g c D) (match mb e1 c2.S with
        | .ok (.nx e2) S2 => sWhile mt mb m e2 S2
        | .ok (.ct e2) S2 => sWhile mt mb m e2 S2
        | .ok (.bk e2) S2 => .ok (.nx e2) S2
        | r => r) := hp2
      revert hp3
      cases mb e1 c2.S with
      | bad => exact id
      | exc k S => exact id
      | ok f S =>
        cases f with
        | nx e5 => exact fun hp4 c5 σ5 ok5 l5 r5 s5 er5 => ⟨c5, e5, rfl, ok5, l02.trans l5, r5.trans r02, er5, by rw [s5]; exact PostG.later l5 r5 hp4⟩
        | ct e5 => exact fun hp4 c5 σ5 ok5 l5 r5 s5 er5 => ⟨c5, e5, rfl, ok5, l02.trans l5, r5.trans r02, er5, by rw [s5]; exact PostG.later l5 r5 hp4⟩
        | bk e5 => exact fun hp4 c5 σ5 ok5 l5 r5 s5 er5 => hp4 c5 σ5 ok5 (l02.trans l5) (r5.trans r02) s5 er5
        | rt d5 => exact fun hp4 c5 σ5 ok5 l5 r5 s5 er5 => hp4 c5 σ5 ok5 (l02.trans l5) (r5.trans r02) s5 er5⟩
/-! ### a fresh list, laid into the store -/
theorem own_new {c : Ct} (ok : Ok g c) {p : Addr} {ds : List Sm.D} {vs : List V} (hp : c.H p = none) (r : RepL c ds vs) :
    ∃ c', Ok g c' ∧ Le c c' ∧ RsE c' c ∧ c'.S = c.S ++ [.lst ds] ∧ c'.H = upd c.H p (.lst vs) ∧ Rep c' (.obj c.S.length) (.ref p) := by
  have ok1 := ok.newR (o := .lst vs) hp
  have l1 := Le.newR (c := c) (o := .lst vs) hp
  refine ⟨_, ok1.own (p := p) (l := c.rs) (o := .lst ds) rfl (ok.notR hp) ⟨vs, upd_same, RepL.mono l1 _ _ r⟩, l1.trans (Le.own rfl), ⟨rfl, fun a h => ?_⟩, rfl, rfl, rep_obj.mpr ⟨by simp [Ct.own], fun _ => ?_⟩⟩
  · obtain ⟨y, e⟩ : ∃ y, c.H a = some y := (ok.rsh a h).elim fun y z => ⟨y, z.1⟩
    show upd c.H p (.lst vs) a = _
    rw [upd_ne (ne_of_none e hp)]
  show V.ref p = V.ref (addI _ p c.S.length)
  rw [show addI ({ ι := c.ι, S := c.S, H := upd c.H p (.lst vs), rs := p :: c.rs } : Ct) p c.S.length = p from addI_eq]
theorem we_own {c : Ct} {Q : VK} (ok : Ok g c) {ds : List Sm.D} {vs : List V} (r : RepL c ds vs) (h : WE g c Q (.obj c.S.length) (c.S ++ [.lst ds])) : ∀ p, c.H p = none → Q (.ref p) (upd c.H p (.lst vs)) := fun p hp => by
  obtain ⟨c2, ok2, l2, r2, s2, h2, rp⟩ := own_new ok hp r
  rw [← h2]
  exact h c2 _ ok2 l2 r2 s2 rp
theorem es_newL {es : List Expr} {m : MA} {pos : Pos} : AS g X E es m → ES g X E (.List es pos) (eNew (oLst m)) := fun ⟨ta, pa, sa, _⟩ => ⟨_, pe_lst pa, fun c σ e Q ok er hp => by
  show ta σ c.H _
  have hp' : PostG g c E (WE g c Q) ((m e c.S).bind fun xs S1 => if xs.length ≤ 1000 then .ok (.obj S1.length) (S1 ++ [.lst xs]) else .bad) := by
    have h0 : PostG g c E (WE g c Q) (((m e c.S).bind fun xs S1 => if xs.length ≤ 1000 then Out.ok (Ob.lst xs) S1 else .bad).bind fun o S1 => .ok (.obj S1.length) (S1 ++ [o])) := hp
    revert h0
    cases m e c.S with
    | bad => exact id
    | exc k S => exact id
    | ok xs S =>
      show PostG g c E (WE g c Q) ((if xs.length ≤ 1000 then Out.ok (Ob.lst xs) S else .bad).bind fun o S1 => .ok (.obj S1.length) (S1 ++ [o])) → PostG g c E (WE g c Q) (if xs.length ≤ 1000 then .ok (.obj S.length) (S ++ [.lst xs]) else .bad)
      by_cases hl : xs.length ≤ 1000
      · rw [if_pos hl, if_pos hl]; exact id
      · rw [if_neg hl, if_neg hl]; exact id
  refine bindA (R := WE g c Q) sa ok er hp' fun c1 xs vs ok1 l1 r1 rx hp1 => ?_
  split at hp1
  · rename_i hb
    exact ⟨by rw [repL_len rx]; exact sz3 hb, we_own ok1 rx (WE.later l1 r1 hp1)⟩
  · exact hp1.elim⟩
end
end Sm
end

section
set_option Elab.async false
set_option linter.all false
set_option autoImplicit false
set_option maxRecDepth 100000
set_option maxHeartbeats 4000000
namespace Sm
open PySem L2
/-! ### contexts -/
theorem units_of {k : Nat} {A : Around} (hr : Room k A) : A.units + 100 < cLine := by have := hr.un; omega
theorem takesN {X : Cx} : Takes X fun cls d _ H' => F0 cls d H' := LamX.takes0
/-- a block of X -/
theorem XO.blk {g : Gx} {X : Cx} {E : XK} (x : XO g X E) {scope : Scope} {p : Shared × Hp × Addr × List (Str × Addr) × List Addr} : XO g (blkX X scope p) F0 := ⟨x.K, x.calm, x.nd, takesN, x.units⟩
section
variable {g : Gx} {P : Program} {w : World} {K : PySem.W.Frag} {mg : Str → Option Value} {base : Heap}
/-- a def's own context -/
theorem XO.ofDef {N : List Str} {qual : Str} {scope : Scope} {f : Addr} {cd : Value} {A : Around} {outer : List PySem.Env} {s : Shared} {H : Hp} {E : XK} {k : Nat} (hK : K = g.K) (nd : N.Nodup) (hr : Room k (A.deeper (PyProof.Rows.envOfC qual scope s.heap.objs.size f cd))) :
    XO g (cxOf (L2.CX P w) P w K mg base N qual scope f cd A outer s H E) E := ⟨hK, rfl, nd, takes_of rfl rfl rfl rfl, units_of hr⟩
theorem own_def {N : List Str} {qual : Str} {scope : Scope} {f : Addr} {cd : Value} {A : Around} {outer : List PySem.Env} {s : Shared} {H : Hp} {E : XK} :
    PassesOwn (model (cxOf (L2.CX P w) P w K mg base N qual scope f cd A outer s H E).prog (cxOf (L2.CX P w) P w K mg base N qual scope f cd A outer s H E).w) (cxOf (L2.CX P w) P w K mg base N qual scope f cd A outer s H E).A (cxOf (L2.CX P w) P w K mg base N qual scope f cd A outer s H E).env (cxOf (L2.CX P w) P w K mg base N qual scope f cd A outer s H E).xe := passes_of rfl
/-- a lambda's context -/
theorem XO.lam {X : Cx} {E E' : XK} (x : XO g X E) {A : Around} {outer : List PySem.Env} {s : Shared} {H : Hp} {scope : Scope} {f c' : Addr} {k : Nat} (hr : Room k (A.deeper (LamX.lamEnv X scope s.heap.objs.size f c'))) : XO g (LamX.lamCx X A outer s H E' scope f c') E' :=
  ⟨x.K, rfl, x.nd, takes_of rfl rfl rfl rfl, units_of hr⟩
/-! ### a def keeps its mirror -/
theorem getElem?_start {vs : List V} {N : List Str} {i : Nat} : (L2.start N vs)[i]? = if i < vs.length then (vs[i]?).map some else if i < vs.length + (N.length - vs.length) then some none else none := by
  unfold L2.start
  by_cases h : i < vs.length
  · rw [if_pos h, List.getElem?_append_left (by rw [List.length_map]; exact h), List.getElem?_map]
  · rw [if_neg h, List.getElem?_append_right (by rw [List.length_map]; omega), List.length_map]
    by_cases h2 : i < vs.length + (N.length - vs.length)
    · rw [if_pos h2, List.getElem?_replicate, if_pos (by omega)]
    · rw [if_neg h2, List.getElem?_replicate, if_neg (by omega)]
theorem envR_start {c : Ct} {ds : List D} {vs : List V} {N : List Str} {n : Nat} (hn : N.length = n) (r : RepL c ds vs) : EnvR c (ds.map some ++ List.replicate (n - ds.length) none) (L2.start N vs) := by
  have hl := repL_len r
  refine ⟨?_, fun i d h => ?_⟩
  · unfold L2.start
    rw [List.length_append, List.length_append, List.length_map, List.length_map, List.length_replicate, List.length_replicate, hl, hn]
  · by_cases hi : i < ds.length
    · rw [List.getElem?_append_left (by rw [List.length_map]; exact hi), List.getElem?_map] at h
      cases e : ds[i]? with
      | none => rw [e] at h; cases h
      | some x =>
        rw [e] at h
        have h' : x = d := by cases h; rfl
        subst h'
        obtain ⟨v, h1, h2⟩ := repL_get r e
        refine ⟨v, ?_, h2⟩
        rw [getElem?_start, if_pos (by rw [hl]; exact hi), h1]
        rfl
    · rw [List.getElem?_append_right (by rw [List.length_map]; omega), List.length_map, List.getElem?_replicate] at h
      split at h <;> cases h
theorem fnok {x qual : Str} {st : Stmt} {f : Addr} {fd : FuncData} {N ps : List Str} {k n : Nat} {m : MS} (F : Fun K x qual st f fd) (S : FnScope N ps (defScope st)) (hn : N.length = n)
    (h : ∀ (cdv : Value) (A : Around) (outer : List PySem.Env) (s : Shared) (H : Hp) (E : XK), PySem.W.codeIn K cdv qual = true → Room k (A.deeper (PyProof.Rows.envOfC qual (defScope st) s.heap.objs.size f cdv)) →
      SL g (cxOf (L2.CX P w) P w K mg base N qual (defScope st) f cdv A outer s H E) E (defBody st) m) : FnOk P w K mg base (L2.CX P w) (k + 1) f fd ps (spOf g ps.length (mkFn n ps.length m)) := by
  obtain ⟨oc, od, kV, doc, pm, an, cdv, ct, osl, rfl, lk, hcd⟩ := F.ex
  refine fn_of lk hcd S (fun vs H Q E h => h.1) fun A outer s H vs Q E hr hsp => ?_
  obtain ⟨t, pt, st'⟩ := h cdv A outer s H E hcd hr
  obtain ⟨hl, c, ds, rfl, ok, rx, hp⟩ := hsp
  refine ⟨t, pt, st' c _ (ds.map some ++ List.replicate (n - ds.length) none) _ ok (envR_start hn rx) ?_⟩
  have hld : ds.length = ps.length := by rw [← repL_len rx]; exact hl
  have hp' : PostG g c E (WE g c Q) (if ds.length = ps.length then
      match m (ds.map some ++ List.replicate (n - ds.length) none) c.S with
      | .ok (.nx _) S1 => .ok .non S1
      | .ok (.rt d) S1 => .ok d S1
      | .exc k S1 => .exc k S1
      | _ => .bad
    else .bad) := hp
  rw [if_pos hld] at hp'
  revert hp'
  cases m (ds.map some ++ List.replicate (n - ds.length) none) c.S with
  | bad => exact id
  | exc k S => exact id
  | ok f S =>
    cases f with
    | nx e1 => exact fun hp c' σ' ok' l' r' s' er' => hp c' .non ok' l' r' s' (rep_non.mpr rfl)
    | rt d => exact fun hp c' v ok' l' r' s' rv => hp c' v ok' l' r' s' rv
    | bk e1 => exact fun h => h.elim
    | ct e1 => exact fun h => h.elim
end
/-! ### told(lambda) -/
/-- the clauses' answer to an error -/
def tellX (K : PySem.W.Frag) : List (Value × Str) → VK → XK
  | [], _ => fun _ _ _ => False
  | (c, s) :: r, Q => fun cls d H => ∃ b, PySem.W.exmOne K cls c = some b ∧ (b = true → Q (.str s) H) ∧ (b = false → tellX K r Q cls d H)
/-- the clauses, by places: class x, its value, the text told -/
def hdls : List (Str × Value × Str × (Pos × Pos × Pos × Pos × Nat)) → List ExceptHandler
  | [] => []
  | (x, _, s, (p1, p2, p3, p4, j)) :: r => .ExceptHandler (some (.Name x p1)) none [.Return (some (.Constant (.str s) j p2)) p3] p4 :: hdls r
theorem told_many {X : Cx} {Ng : List Str} {x a q : Str} {sg : Scope} {g : Addr} {cdg : Value} {p1 p2 p3 p8 : Pos} {L : List (Str × Value × Str × (Pos × Pos × Pos × Pos × Nat))} {h0 : ExceptHandler} {hds : List ExceptHandler} (hL : hdls L = h0 :: hds)
    (hn : ∀ y ∈ L, sg.names.lookup y.1 = some .globalImplicit ∧ X.mg y.1 = some y.2.1 ∧ (y.1 == ("__debug__" : Str)) = false) (h0' : ∀ f : Addr, (L2.start Ng [V.ref f])[0]? = some (some (V.ref f))) :
    LamX.GivesTo X Ng x sg g cdg [.Try [.Return (some (.Call (.Name a p1) [] [] p2)) p3] (h0 :: hds) [] [] p8] a q (fun tl H Q => tl (tellX X.K (L.map fun y => (y.2.1, y.2.2.1)) Q) H Q) := by
  intro f c' s H Q tl act hc h
  have hk : ∀ (L : List (Str × Value × Str × (Pos × Pos × Pos × Pos × Nat))), (∀ y ∈ L, sg.names.lookup y.1 = some .globalImplicit ∧ X.mg y.1 = some y.2.1 ∧ (y.1 == ("__debug__" : Str)) = false) →
      HdsOk (cxOf C8.CX0 X.prog X.w X.K X.mg X.base Ng x sg g cdg X.A X.stack s H C8.E0).nox (hdls L) (L.map fun y => (y.2.1, fun _ _ _ => tRet fun _ H' Q' => Q' (.str y.2.2.1) H')) := by
    intro L
    induction L with
    | nil => exact fun _ => .nil
    | cons y r ih =>
      intro hy
      obtain ⟨y1, y2, y3, p1, p2, p3, p4, j⟩ := y
      obtain ⟨e1, e2, e3⟩ := hy _ List.mem_cons_self
      have hgl : Gl (cxOf C8.CX0 X.prog X.w X.K X.mg X.base Ng x sg g cdg X.A X.stack s H C8.E0).nox y1 := e1
      exact .cons ⟨hgl, e3, .inl e2⟩ (fun a oe cls d pn _ _ => pss_one (ps_ret pe_str)) (ih fun z hz => hy z (List.mem_cons_of_mem _ hz))
  have wm : ∀ (L : List (Str × Value × Str × (Pos × Pos × Pos × Pos × Nat))) (D : Ends) (cls : Value) (d : Option Addr) (σ : L2.St) (H' : Hp), tellX X.K (L.map fun y => (y.2.1, y.2.2.1)) D.rt cls d H' →
      wMany X.K (fun _ _ _ _ => False) D (L.map fun y => (y.2.1, fun _ _ _ => tRet fun _ H' Q' => Q' (.str y.2.2.1) H')) cls d σ H' := by
    intro L
    induction L with
    | nil => exact fun _ _ _ _ _ h => h
    | cons y r ih => exact fun D cls d σ H' ⟨b, e1, e2, e3⟩ => ⟨b, e1, fun hb _ _ => e2 hb, fun hb => ih D cls d σ H' (e3 hb)⟩
  have hh := hk L hn
  rw [hL] at hh
  refine ⟨_, pss_one (ps_try_many (X := (cxOf C8.CX0 X.prog X.w X.K X.mg X.base Ng x sg g cdg X.A X.stack s H C8.E0).nox)
      (tb := fun W D σ H => ∃ Ech : XK, (∀ cls d σ' H', Ech cls d H' → W cls d σ' H') ∧ σ[0]? = some (some (.ref f)) ∧ H c' = some (LamX.CodeO c' q) ∧ tl Ech H D.rt)
      rfl rfl LamX.takes0 (fun W pn xe tk _ => ?_) hh), ?_⟩
  · refine ⟨fun pins s' σ H' D I h' => ?_⟩
    obtain ⟨Ech, hW, h1, h2, h3⟩ := h'
    have hp := act W pn xe Ech p1 p2 tk hW
    have hq := pss_one (ps_ret (pos := p3) hp)
    exact hq.run pins s' σ H' D I ⟨h1, h2, h3⟩
  · exact ⟨tellX X.K (L.map fun y => (y.2.1, y.2.2.1)) Q, fun cls d σ' H' h => wm L _ cls d σ' H' h, h0' f, hc, h⟩
theorem repO_nT {g : Gx} {c : Ct} {a : Addr} {u : HO} : ∀ {o : Ob}, o ≠ .dead → RepO g c o a → c.H a = some u → nT u
  | .dead, n, _, _ => absurd rfl n
  | .lst ds, _, ⟨vs, h1, h2⟩, h => fun ps z => by rw [h] at h1; subst z; cases h1
  | .dct ds, _, ⟨vs, h1, h2⟩, h => fun ps z => by rw [h] at h1; subst z; cases h1
  | .dctT ds, _, ⟨vs, h1, h2⟩, h => fun ps z => by rw [h] at h1; subst z; cases h1
  | .ins k fs, _, ⟨dx, us, h1, h2⟩, h => fun ps z => by rw [h] at h1; subst z; cases h1
  | .lck (.lst ds), _, ⟨vs, h1, h2⟩, h => fun ps z => by rw [h] at h1; subst z; cases h1
  | .lck (.dct ds), _, ⟨ob, vs, h1, h2⟩, h => fun ps z => by rw [h] at h1; subst z; cases h1
  | .lck (.dctT ds), _, ⟨ob, vs, h1, h2⟩, h => fun ps z => by rw [h] at h1; subst z; cases h1
  | .lck (.lck (.lst ds)), _, ⟨vs, h1, h2⟩, h => fun ps z => by
    rcases h1 with h1 | ⟨x, h1⟩
    · rw [h] at h1; subst z; cases h1
    · rw [h] at h1; subst z; cases h1
  | .lck .dead, _, h, _ => h.elim
  | .lck (.ins _ _), _, h, _ => h.elim
  | .lck (.lck .dead), _, h, _ => h.elim
  | .lck (.lck (.ins _ _)), _, h, _ => h.elim
  | .lck (.lck (.dct _)), _, h, _ => h.elim
  | .lck (.lck (.dctT _)), _, h, _ => h.elim
  | .lck (.lck (.lck _)), _, h, _ => h.elim
/-- a table has grown, or not -/
theorem ext_ok {g : Gx} {c : Ct} (ok : Ok g c) {H1 : Hp} (e : LamX.ExtN c.H H1) (T : LamX.Tabs g.tabs H1) : Ok g { c with H := H1 } ∧ Le c { c with H := H1 } ∧ RsE { c with H := H1 } c := by
  have l : Le c { c with H := H1 } := ⟨⟨Nat.le_refl _, fun _ _ h => ⟨h, rfl⟩, fun a o h t => ⟨o, e a o h t, t⟩, fun _ _ h _ _ => h, fun a u t f h => e a u h (isT_nT t), fun a u t f h => by
    rcases h with h | ⟨x, h⟩
    · exact .inl (e _ _ h fun ps z => by subst z; exact t)
    · exact .inr ⟨x, e _ _ h fun ps z => by cases z⟩⟩, fun _ _ h => h⟩
  refine ⟨⟨ok.inj, fun r x h => ?_, ok.rsv, T, fun p hp => ?_⟩, l, ⟨rfl, fun a h => ?_⟩⟩
  · by_cases hd : x = Ob.dead
    · subst hd; trivial
    · have h0 := ok.at_ r x h
      refine RepO.mono l ?_ h0
      show H1 (c.ι r) = c.H (c.ι r)
      obtain ⟨u, hu⟩ := ok.held ⟨x, h, hd⟩
      rw [hu]
      exact e _ _ hu (repO_nT hd h0 hu)
  · obtain ⟨x, h1, h2⟩ := ok.rsh p hp
    exact ⟨x, e _ _ h1 h2, h2⟩
  · obtain ⟨x, h1, h2⟩ := ok.rsh a h
    show H1 a = c.H a
    rw [h1]
    exact e _ _ h1 h2
theorem tell_of {K : PySem.W.Frag} {ex : Nat → Addr} {sub : Nat → Nat → Bool} {k : Nat} {h0 : Nat × Tx} {Q : VK} {H : Hp} {d : Option Addr} : ∀ {hs : List (Nat × Tx)}, hs.find? (fun h => sub k h.1) = some h0 → (∀ y ∈ hs, PySem.W.exmOne K (.ref (ex k)) (.ref (ex y.1)) = some (sub k y.1)) → Q (.str (sS h0.2)) H →
    tellX K (hs.map fun h => (Value.ref (ex h.1), sS h.2)) Q (.ref (ex k)) d H
  | [], h, _, _ => by cases h
  | y :: r, h, hx, q => by
    refine ⟨sub k y.1, hx y List.mem_cons_self, fun hb => ?_, fun hb => ?_⟩
    · rw [List.find?_cons, hb] at h
      cases h
      exact q
    · rw [List.find?_cons, hb] at h
      exact tell_of h (fun z hz => hx z (List.mem_cons_of_mem _ hz)) q
theorem es_told {g : Gx} {X : Cx} {E : XK} {x a : Str} {gA cA PA : Addr} {k : Nat} {pg : Arguments} {sg : Scope} {dV kV doc pm cdv ct oc : Value} {an od : Option Addr} {osl : Array (Option Value)} {Ng : List Str}
    {params : Arguments} {body : Expr} {scope : Scope} {m : ME} {sub : Nat → Nat → Bool} {hs : List (Nat × Tx)} {L : List (Str × Value × Str × (Pos × Pos × Pos × Pos × Nat))} {h0 : ExceptHandler} {hds : List ExceptHandler} {p lpos pos p1 p2 p3 p8 : Pos}
    (hm : X.mg x = some (.ref gA)) (hk : PySem.W.keepIn X.K (.ref gA) = true)
    (lk : X.K.lookup gA = some ⟨oc, od, .func (PySem.W.fnOf x x pg [.Try [.Return (some (.Call (.Name a p1) [] [] p2)) p3] (h0 :: hds) [] [] p8] sg dV kV doc pm an cdv ct), osl⟩) (hcg : PySem.W.codeIn X.K cdv x = true)
    (hb : L2.Binds X.K (PySem.W.fnOf x x pg [.Try [.Return (some (.Call (.Name a p1) [] [] p2)) p3] (h0 :: hds) [] [] p8] sg dV kV doc pm an cdv ct) [a] []) (Sg : FnScope Ng [a] sg) (hNg : Ng[0]? = some a) (hva : Vis sg a)
    (hL : hdls L = h0 :: hds) (hn : ∀ y ∈ L, sg.names.lookup y.1 = some .globalImplicit ∧ X.mg y.1 = some y.2.1 ∧ (y.1 == ("__debug__" : Str)) = false) (hh : (L.map fun y => (y.2.1, y.2.2.1)) = hs.map fun h => (Value.ref (g.ex h.1), sS h.2))
    (h0' : ∀ f : Addr, (L2.start Ng [V.ref f])[0]? = some (some (V.ref f))) (hsub : ∀ j i, sub j i = true → ∀ y ∈ hs, PySem.W.exmOne X.K (.ref (g.ex j)) (.ref (g.ex y.1)) = some (sub j y.1))
    (TB : LamX.TabB X.base X.mg cA PA) (hcode : X.env.code = .ref cA) (hmT : (PA, X.env.qual ++ "<lambda>") ∈ g.tabs) (hu : ∀ p ∈ g.tabs, p.1 = PA → p.2 = X.env.qual ++ "<lambda>") (hr : Room (k + 2) X.A) (hLS : LamX.LamS X.env.scope scope)
    (hbody : ∀ (A : Around) (outer : List PySem.Env) (s : Shared) (H : Hp) (E' : XK) (f c' : Addr), Room k (A.deeper (LamX.lamEnv X scope s.heap.objs.size f c')) → ES g (LamX.lamCx X A outer s H E' scope f c') E' body m)
    (hg : Gl X x := by rfl) (hdef : defaultsOf params X.env = ([], []) := by rfl)
    (hbind : ∀ (q : Str) (cl : List (Str × Addr)) (pm cv ctv : Value), bindArgs (PySem.W.kla_fn "<lambda>" q params body scope cl pm cv ctv) ⟨[], []⟩ = pure [] := by intros; rfl)
    (hdb : (x == ("__debug__" : Str)) = false := by decide) (hd : (a == ("__debug__" : Str)) = false := by decide) (hcd : (a == ("__classdict__" : Str)) = false := by decide) :
    ES g X E (.Call (.Name x p) [.Lambda params body scope lpos] [] pos) (eTold sub hs m) := by
  -- one reading of the body for every place that the lambda may be called from
  let I := { i : Around × List PySem.Env × Shared × Hp × Addr × Addr // Room k (i.1.deeper (LamX.lamEnv X scope i.2.2.1.heap.objs.size i.2.2.2.2.1 i.2.2.2.2.2)) }
  have hu1 : ∀ E', ∃ t, (∀ i : I, PE (LamX.lamCx X i.1.1 i.1.2.1 i.1.2.2.1 i.1.2.2.2.1 E' scope i.1.2.2.2.2.1 i.1.2.2.2.2.2) body t) ∧ SE g E' t m := fun E' =>
    unifE (Xs := fun i : I => LamX.lamCx X i.1.1 i.1.2.1 i.1.2.2.1 i.1.2.2.2.1 E' scope i.1.2.2.2.2.1 i.1.2.2.2.2.2) fun i => hbody _ _ _ _ E' _ _ i.2
  refine ⟨_, LamX.pe_lamcall (t := fun E' => (hu1 E').choose) hg hm hk lk hcg hb Sg hNg hva (told_many hL hn h0') TB hcode hmT hu hr hLS hdef hbind (fun A outer s H E' f c' hr' => (hu1 E').choose_spec.1 ⟨(A, outer, s, H, f, c'), hr'⟩) hdb hd hcd, fun c σ e Q ok er hp => ?_⟩
  refine ⟨ok.tabs, fun H1 eN T1 => ?_⟩
  obtain ⟨ok1, l1, r1⟩ := ext_ok ok eN T1
  show (hu1 (tellX X.K (L.map fun y => (y.2.1, y.2.2.1)) Q)).choose σ ({ c with H := H1 } : Ct).H Q
  refine (hu1 (tellX X.K (L.map fun y => (y.2.1, y.2.2.1)) Q)).choose_spec.2 { c with H := H1 } σ e Q ok1 (er.mono l1) ?_
  have hp' : PostG g c E (WE g c Q) (match m e c.S with
    | .ok d S1 => .ok d S1
    | .exc k S1 => match hs.find? fun h => sub k h.1 with
      | some h => .ok (.str h.2) S1
      | none => .bad
    | .bad => .bad) := hp
  revert hp'
  show _ → PostG g { c with H := H1 } _ (WE g { c with H := H1 } Q) (m e c.S)
  cases m e c.S with
  | bad => exact id
  | ok d S => exact fun hp => WE.later l1 r1 hp
  | exc k S =>
    intro hp c' ok' l' r' s'
    have hp2 : PostG g c E (WE g c Q) (match hs.find? fun h => sub k h.1 with
      | some h => .ok (.str h.2) S
      | none => .bad) := hp
    rw [hh]
    cases q : hs.find? fun h => sub k h.1 with
    | none => simp only [q] at hp2; exact hp2.elim
    | some h0 =>
      simp only [q] at hp2
      have hs1 : sub k h0.1 = true := by simpa using List.find?_some q
      refine tell_of q (hsub k h0.1 hs1) ?_
      have hw : WE g c Q (.str h0.2) S := hp2
      exact hw c' _ ok' (l1.trans l') (r'.trans r1) s' (rep_str.mpr rfl)
end Sm
end

section
set_option Elab.async false
set_option linter.all false
set_option autoImplicit false
set_option maxRecDepth 100000
set_option maxHeartbeats 4000000
namespace Sm
open PySem L2
/-! ### field names -/
def fnL (l : List Str) (i : Nat) : Str := match l[i]? with
  | some x => x
  | none => sS [65, 1000000 + i, 65]
theorem fnL_out {l : List Str} {x : Str} (h : x.cps.size ≠ 3 ∨ x.cps.toList.headD 0 ≠ 65) (hl : x ∉ l) (i : Nat) : fnL l i ≠ x := by
  unfold fnL
  cases e : l[i]? with
  | none =>
    intro z; subst z
    rcases h with h | h
    · exact h rfl
    · exact h rfl
  | some y => intro z; subst z; exact hl (List.mem_of_getElem? e)
theorem sS_inj3 {a b : Nat} (h : sS [65, a, 65] = sS [65, b, 65]) : a = b := by
  have h2 : (sS [65, a, 65]).cps = (sS [65, b, 65]).cps := congrArg _ h
  have h3 : ([65, a, 65] : List Nat).toArray = [65, b, 65].toArray := h2
  have h4 : ([65, a, 65] : List Nat) = [65, b, 65] := congrArg Array.toList h3
  simpa using h4
theorem fnL_inj {l : List Str} (hn : l.Nodup) (hs : ∀ x ∈ l, x.cps.size ≠ 3 ∨ x.cps.toList.headD 0 ≠ 65) (i j : Nat) (h : fnL l i = fnL l j) : i = j := by
  have no : ∀ {x : Str} {k : Nat}, x ∈ l → x ≠ sS [65, k, 65] := fun {x k} hx z => by
    subst z
    rcases hs _ hx with h | h
    · exact h rfl
    · exact h rfl
  unfold fnL at h
  cases e : l[i]? with
  | none =>
    cases e2 : l[j]? with
    | none =>
      simp only [e, e2] at h
      have := sS_inj3 h
      omega
    | some y =>
      simp only [e, e2] at h
      exact absurd h.symm (no (List.mem_of_getElem? e2))
  | some x =>
    cases e2 : l[j]? with
    | none =>
      simp only [e, e2] at h
      exact absurd h (no (List.mem_of_getElem? e))
    | some y =>
      simp only [e, e2] at h
      subst h
      obtain ⟨h1, h2⟩ := List.getElem?_eq_some_iff.mp e
      obtain ⟨h3, h4⟩ := List.getElem?_eq_some_iff.mp e2
      exact (List.getElem_inj hn).mp (h2.trans h4.symm)
/-! ### what the top tells -/
structure Tt (fa : List He.Fa) (fn : List He.DefD) (tf : List He.Defn) (K : PySem.W.Frag) (mg : Str → Option Value) (base : Heap) : Prop where
  X : K.In base
  G : base.Ns mainGlobals mg
  d : He.SaysD fa fn K
  tb : ∀ p ∈ tf, LamX.TabB base mg (He.cT K p).1 (He.cT K p).2
  nd : (tf.map fun p => (He.cT K p).2).Nodup
section
variable {fa : List He.Fa} {fn : List He.DefD} {tf : List He.Defn} {K : PySem.W.Frag} {mg : Str → Option Value} {base : Heap} {P : Program} {w : World} {g : Gx}
theorem Tt.glo (T : Tt fa fn tf K mg base) (i : Nat) {x : Str} (h : fa[i]? = some (.glo x) := by rfl) : mg x = some (.ref (He.ga K x)) := He.glo_ok T.X T.G (T.d.fact i h)
theorem Tt.free (T : Tt fa fn tf K mg base) (i : Nat) {x : Str} (h : fa[i]? = some (.free x) := by rfl) : mg x = none := He.free_ok T.X T.G (T.d.fact i h)
theorem Tt.cls (T : Tt fa fn tf K mg base) (i : Nat) {x : Str} (h : fa[i]? = some (.cls x) := by rfl) : Cls K (He.ga K x) := He.cls_ok (T.d.fact i h)
theorem Tt.noat (T : Tt fa fn tf K mg base) (i : Nat) {x f : Str} (h : fa[i]? = some (.noat x f) := by rfl) : NoAttr K (He.ga K x) f := He.noat_ok (T.d.fact i h)
theorem Tt.exm (T : Tt fa fn tf K mg base) (i : Nat) {x y : Str} {b : Bool} (h : fa[i]? = some (.exm x y b) := by rfl) : PySem.W.exmOne K (.ref (He.ga K x)) (.ref (He.ga K y)) = some b := He.exm_ok (T.d.fact i h)
theorem Tt.code (T : Tt fa fn tf K mg base) (i : Nat) {p : He.Defn} (h : tf[i]? = some p := by rfl) : LamX.TabB base mg (He.codeOf K p) (He.tabOf K (He.codeOf K p)) := T.tb p (List.mem_of_getElem? h)
/-- raise X('..') -/
theorem Tt.raise {X : Cx} (T : Tt fa fn tf X.K X.mg base) (i j : Nat) {x m : Str} {jj : Nat} {p p2 pos : Pos} (hg : Gl X x := by rfl) (h : fa[i]? = some (.exc x) := by rfl) (h2 : fa[j]? = some (.glo x) := by rfl) (hdb : (x == ("__debug__" : Str)) = false := by decide) :
    PMk X (.Call (.Name x p) [.Constant (.str m) jj p2] [] pos) (fun _ H Q => Q (.ref (He.ga X.K x)) none H) := by
  obtain ⟨h1, h2', h3, h4⟩ := He.exc_ok (T.d.fact i h)
  exact pmk_own PySem.F.excBase_ValueError h1 (T.glo j h2) h2' (raises_own h3 h4) hg hdb
/-- a def, from its row -/
theorem fnokD {x qual : Str} {params : Arguments} {body : List Stmt} {scope : Scope} {at_ : He.Defn} {fd : FuncData} {N ps : List Str} {k n : Nat} {m : MS} (F : FunD K x qual params body scope [] [] (He.fAd K at_) fd) (S : FnScope N ps scope) (hn : N.length = n)
    (h : ∀ (cdv : Value) (A : Around) (outer : List PySem.Env) (s : Shared) (H : Hp) (E : XK), cdv = .ref (He.codeOf K at_) → Room k (A.deeper (PyProof.Rows.envOfC qual scope s.heap.objs.size (He.fAd K at_) cdv)) →
      SL g (cxOf (L2.CX P w) P w K mg base N qual scope (He.fAd K at_) cdv A outer s H E) E body m) : FnOk P w K mg base (L2.CX P w) (k + 1) (He.fAd K at_) fd ps (spOf g ps.length (mkFn n ps.length m)) := by
  obtain ⟨oc, od, dV, kV, doc, pm, an, cdv, ct, osl, rfl, lk, hcd, _, _⟩ := F.ex
  obtain ⟨c0, hc0⟩ := He.codeIn_ref hcd
  have hc1 : cdv = .ref (He.codeOf K at_) := by
    rw [He.codeOf_eq lk (show (PySem.W.fnOf x qual params body scope dV kV doc pm an cdv ct).code = .ref c0 from hc0)]
    exact hc0
  refine fn_of lk hcd S (fun vs H Q E h => h.1) fun A outer s H vs Q E hr hsp => ?_
  obtain ⟨t, pt, st'⟩ := h cdv A outer s H E hc1 hr
  obtain ⟨hl, c, ds, rfl, ok, rx, hp⟩ := hsp
  refine ⟨t, pt, st' c _ (ds.map some ++ List.replicate (n - ds.length) none) _ ok (envR_start hn rx) ?_⟩
  have hld : ds.length = ps.length := by rw [← repL_len rx]; exact hl
  have hp' : PostG g c E (WE g c Q) (if ds.length = ps.length then
      match m (ds.map some ++ List.replicate (n - ds.length) none) c.S with
      | .ok (.nx _) S1 => .ok .non S1
      | .ok (.rt d) S1 => .ok d S1
      | .exc k S1 => .exc k S1
      | _ => .bad
    else .bad) := hp
  rw [if_pos hld] at hp'
  revert hp'
  cases m (ds.map some ++ List.replicate (n - ds.length) none) c.S with
  | bad => exact id
  | exc k S => exact id
  | ok f S =>
    cases f with
    | nx e1 => exact fun hp c' σ' ok' l' r' s' er' => hp c' .non ok' l' r' s' (rep_non.mpr rfl)
    | rt d => exact fun hp c' v ok' l' r' s' rv => hp c' v ok' l' r' s' rv
    | bk e1 => exact fun h => h.elim
    | ct e1 => exact fun h => h.elim
/-- the arguments bind: no defaults -/
def BindN (x qual : Str) (params : Arguments) (body : List Stmt) (scope : Scope) (ps : List Str) : Prop :=
  ∀ (kV doc pm : Value) (an : Option Addr) (cdv ct : Value) (us : List Value), us.length = ps.length → bindArgs (PySem.W.fnOf x qual params body scope .none kV doc pm an cdv ct) ⟨us, []⟩ = pure (ps.zip us)
theorem mkF {x : Str} {params : Arguments} {body : List Stmt} {scope : Scope} {N ps : List Str} {k n : Nat} {m : MS} (T : Tt fa fn tf K mg base) (i j : Nat) (S : FnScope N ps scope) (hb : BindN x x params body scope ps)
    (h : ∀ (cdv : Value) (A : Around) (outer : List PySem.Env) (s : Shared) (H : Hp) (E : XK), cdv = .ref (He.codeOf K (x, none)) → Room k (A.deeper (PyProof.Rows.envOfC x scope s.heap.objs.size (He.fAd K (x, none)) cdv)) →
      SL g (cxOf (L2.CX P w) P w K mg base N x scope (He.fAd K (x, none)) cdv A outer s H E) E body m)
    (hd : fn[i]? = some ⟨(x, none), x, x, params, body, scope, [], []⟩ := by rfl) (hg : fa[j]? = some (.glo x) := by rfl) (hn : N.length = n := by rfl) : FnF g P w K mg base (k + 1) x ps (mkFn n ps.length m) := by
  obtain ⟨fd, F⟩ := T.d.def_ i hd
  have F' : FunD K x x params body scope [] [] (He.fAd K (x, none)) fd := F
  exact ⟨He.fAd K (x, none), fd, fnokD F' S hn h, T.glo j hg, F'.kp, F'.bindsN hb⟩
theorem mkM {c x qual : Str} {params : Arguments} {body : List Stmt} {scope : Scope} {N ps : List Str} {k n : Nat} {m : MS} (T : Tt fa fn tf K mg base) (i j l : Nat) (S : FnScope N ps scope) (hb : BindN x qual params body scope ps)
    (h : ∀ (cdv : Value) (A : Around) (outer : List PySem.Env) (s : Shared) (H : Hp) (E : XK), cdv = .ref (He.codeOf K (c, some x)) → Room k (A.deeper (PyProof.Rows.envOfC qual scope s.heap.objs.size (He.fAd K (c, some x)) cdv)) →
      SL g (cxOf (L2.CX P w) P w K mg base N qual scope (He.fAd K (c, some x)) cdv A outer s H E) E body m) (hf : ∀ i, g.fn i ≠ x)
    (hd : fn[i]? = some ⟨(c, some x), x, qual, params, body, scope, [], []⟩ := by rfl) (hm : fa[j]? = some (.meth c x) := by rfl) (hc : fa[l]? = some (.cls c) := by rfl) (hn : N.length = n := by rfl) : MeF g P w K mg base (k + 1) (He.ga K c) x ps (mkFn n ps.length m) := by
  obtain ⟨fd, F⟩ := T.d.def_ i hd
  have F' : FunD K x qual params body scope [] [] (He.fAd K (c, some x)) fd := F
  exact ⟨He.fAd K (c, some x), fd, fnokD F' S hn h, He.meth_ok (T.d.fact j hm), F'.bindsN hb, T.cls l hc, hf⟩
theorem mkI {c qual : Str} {params : Arguments} {body : List Stmt} {scope : Scope} {N ps : List Str} {k n : Nat} {m : MS} (T : Tt fa fn tf K mg base) (i j l : Nat) (S : FnScope N ps scope) (hb : BindN "__init__" qual params body scope ps)
    (h : ∀ (cdv : Value) (A : Around) (outer : List PySem.Env) (s : Shared) (H : Hp) (E : XK), cdv = .ref (He.codeOf K (c, some "__init__")) → Room k (A.deeper (PyProof.Rows.envOfC qual scope s.heap.objs.size (He.fAd K (c, some "__init__")) cdv)) →
      SL g (cxOf (L2.CX P w) P w K mg base N qual scope (He.fAd K (c, some "__init__")) cdv A outer s H E) E body m)
    (hd : fn[i]? = some ⟨(c, some "__init__"), "__init__", qual, params, body, scope, [], []⟩ := by rfl) (hm : fa[j]? = some (.mkr c) := by rfl) (hg : fa[l]? = some (.glo c) := by rfl) (hn : N.length = n := by rfl) : MkF g P w K mg base (k + 1) (He.ga K c) c ps (mkFn n ps.length m) := by
  obtain ⟨fd, F⟩ := T.d.def_ i hd
  have F' : FunD K "__init__" qual params body scope [] [] (He.fAd K (c, some "__init__")) fd := F
  exact ⟨He.fAd K (c, some "__init__"), fd, fnokD F' S hn h, T.glo l hg, He.mkr_ok (T.d.fact j hm), F'.bindsN hb⟩
end
/-! ### told(lambda), from the def's row -/
theorem tabs_uniq {l : List (Addr × Str)} {PA : Addr} {q : Str} : (l.map (·.1)).Nodup → (PA, q) ∈ l → ∀ p ∈ l, p.1 = PA → p.2 = q := by
  induction l with
  | nil => intro _ h; cases h
  | cons y r ih =>
    intro hn hm p hp e
    rw [List.map_cons, List.nodup_cons] at hn
    rcases List.mem_cons.mp hm with h1 | h1
    · rcases List.mem_cons.mp hp with h2 | h2
      · rw [h2, ← h1]
      · exact absurd (List.mem_map.mpr ⟨p, h2, by rw [e, ← h1]⟩) hn.1
    · rcases List.mem_cons.mp hp with h2 | h2
      · exact absurd (List.mem_map.mpr ⟨_, h1, by rw [← h2, e]⟩) hn.1
      · exact ih hn.2 h1 p h2 e
theorem es_toldD {g : Gx} {X : Cx} {E : XK} {x a : Str} {gA cA PA : Addr} {k : Nat} {pg : Arguments} {sg : Scope} {fd : FuncData} {Ng : List Str}
    {params : Arguments} {body : Expr} {scope : Scope} {m : ME} {sub : Nat → Nat → Bool} {hs : List (Nat × Tx)} {L : List (Str × Value × Str × (Pos × Pos × Pos × Pos × Nat))} {h0 : ExceptHandler} {hds : List ExceptHandler} {p lpos pos p1 p2 p3 p8 : Pos}
    (hm : X.mg x = some (.ref gA)) (F : FunD X.K x x pg [.Try [.Return (some (.Call (.Name a p1) [] [] p2)) p3] (h0 :: hds) [] [] p8] sg [] [] gA fd)
    (hb : BindN x x pg [.Try [.Return (some (.Call (.Name a p1) [] [] p2)) p3] (h0 :: hds) [] [] p8] sg [a]) (Sg : FnScope Ng [a] sg) (hNg : Ng[0]? = some a) (hva : Vis sg a)
    (hL : hdls L = h0 :: hds) (hn : ∀ y ∈ L, sg.names.lookup y.1 = some .globalImplicit ∧ X.mg y.1 = some y.2.1 ∧ (y.1 == ("__debug__" : Str)) = false) (hh : (L.map fun y => (y.2.1, y.2.2.1)) = hs.map fun h => (Value.ref (g.ex h.1), sS h.2))
    (h0' : ∀ f : Addr, (L2.start Ng [V.ref f])[0]? = some (some (V.ref f))) (hsub : ∀ j i, sub j i = true → ∀ y ∈ hs, PySem.W.exmOne X.K (.ref (g.ex j)) (.ref (g.ex y.1)) = some (sub j y.1))
    (TB : LamX.TabB X.base X.mg cA PA) (hcode : X.env.code = .ref cA) (hmT : (PA, X.env.qual ++ "<lambda>") ∈ g.tabs) (hu : ∀ p ∈ g.tabs, p.1 = PA → p.2 = X.env.qual ++ "<lambda>") (hr : Room (k + 2) X.A) (hLS : LamX.LamS X.env.scope scope)
    (hbody : ∀ (A : Around) (outer : List PySem.Env) (s : Shared) (H : Hp) (E' : XK) (f c' : Addr), Room k (A.deeper (LamX.lamEnv X scope s.heap.objs.size f c')) → ES g (LamX.lamCx X A outer s H E' scope f c') E' body m)
    (hg : Gl X x) (hdef : defaultsOf params X.env = ([], []))
    (hbind : ∀ (q : Str) (cl : List (Str × Addr)) (pm cv ctv : Value), bindArgs (PySem.W.kla_fn "<lambda>" q params body scope cl pm cv ctv) ⟨[], []⟩ = pure [])
    (hdb : (x == ("__debug__" : Str)) = false) (hd : (a == ("__debug__" : Str)) = false) (hcd : (a == ("__classdict__" : Str)) = false) :
    ES g X E (.Call (.Name x p) [.Lambda params body scope lpos] [] pos) (eTold sub hs m) := by
  have hB := F.bindsN hb
  have hk := F.kp
  obtain ⟨oc, od, dV, kV, doc, pm, an, cdv, ct, osl, rfl, lk, hcg, hD, _⟩ := F.ex
  exact es_told hm hk lk hcg hB Sg hNg hva hL hn hh h0' hsub TB hcode hmT hu hr hLS hbody hg hdef hbind hdb hd hcd
/-! ### the clauses of a told, read from its text -/
def posOf : ExceptHandler → Str × Str × (Pos × Pos × Pos × Pos × Nat)
  | .ExceptHandler (some (.Name x p1)) none [.Return (some (.Constant (.str s) j p2)) p3] p4 => (x, s, (p1, p2, p3, p4, j))
  | _ => ("", "", (⟨0, 0, 0, 0⟩, ⟨0, 0, 0, 0⟩, ⟨0, 0, 0, 0⟩, ⟨0, 0, 0, 0⟩, 0))
def hdsOf : List Stmt → List ExceptHandler
  | [.Try _ hs _ _ _] => hs
  | _ => []
def toldL (K : PySem.W.Frag) (b : List Stmt) : List (Str × Value × Str × (Pos × Pos × Pos × Pos × Nat)) := (hdsOf b).map fun h => ((posOf h).1, .ref (He.ga K (posOf h).1), (posOf h).2.1, (posOf h).2.2)
/-! ### words for what a program of mine prints -/
theorem xu {g : Gx} {X : Cx} {E : XK} (x : XO g X E) : X.A.units + 64 < cLine := by have := x.units; omega
theorem bt_abs : bootBuiltins "abs" = some (.builtin "abs") := by decide +kernel
theorem bt_max : bootBuiltins "max" = some (.builtin "max") := by decide +kernel
theorem bt_min : bootBuiltins "min" = some (.builtin "min") := by decide +kernel
theorem bt_sum : bootBuiltins "sum" = some (.builtin "sum") := by decide +kernel
theorem bt_sorted : bootBuiltins "sorted" = some (.builtin "sorted") := by decide +kernel
theorem bt_int : bootBuiltins "int" = some (.type "int") := by decide +kernel
theorem bt_list : bootBuiltins "list" = some (.type "list") := by decide +kernel
theorem bt_tuple : bootBuiltins "tuple" = some (.type "tuple") := by decide +kernel
end Sm
end

section
set_option Elab.async false
set_option linter.all false
set_option autoImplicit false
set_option maxRecDepth 100000
set_option maxHeartbeats 4000000
namespace Sm
open PySem PySem.Spec PyProof.Rows L2
/-! ### quiet evaluation: in a generator expression, wherever it is resumed -/
def RepU (c : Ct) (d : Sm.D) (u : Value) : Prop := ∃ v, Rep c d v ∧ L2.RelV v u
theorem repU_int {c : Ct} {i : Int} {u : Value} : RepU c (.int i) u ↔ ∃ t, u = .int i t := ⟨fun ⟨v, h1, h2⟩ => by
  rw [rep_int] at h1; subst h1; exact h2, fun h => ⟨_, rep_int.mpr rfl, h⟩⟩
theorem repU_bl {c : Ct} {i : Bool} {u : Value} : RepU c (.bl i) u ↔ u = .bool i := ⟨fun ⟨v, h1, h2⟩ => by
  rw [rep_bl] at h1; subst h1; exact h2, fun h => ⟨_, rep_bl.mpr rfl, h⟩⟩
structure Qp (X : Cx) (c : Ct) (own : List (Str × Nat)) (scope : Scope) (e : Sm.Env) (cenv : PySem.Env) (s₁ s₂ : Shared) (m₂ : Str → Option Value) : Prop where
  sc : cenv.scope = scope
  kind : scope.kind = .function
  ns : s₂.heap.Ns cenv.locals m₂
  own : ∀ p ∈ own, ∃ (d : Sm.D) (u : Value), e[p.2]? = some (some d) ∧ m₂ p.1 = some u ∧ RepU c d u
  cell : ∀ (y : Str) (i : Nat) (d : Sm.D), X.N[i]? = some y → scope.names.lookup y = some .free → e[i]? = some (some d) → ∃ (cl : Addr) (u : Value), cenv.cells.lookup y = some cl ∧ s₂.heap.IsCell cl (some u) ∧ RepU c d u
  old : ∀ a o ho, s₁.heap.get? a = some o → c.H a = some ho → nT ho → s₂.heap.get? a = some o
theorem Qp.keeps {X : Cx} {c : Ct} {own : List (Str × Nat)} {scope : Scope} {e : Sm.Env} {cenv : PySem.Env} {s₁ s₂ s₃ : Shared} {m₂ : Str → Option Value} (q : Qp X c own scope e cenv s₁ s₂ m₂) (k : Keeps s₂ s₃) : Qp X c own scope e cenv s₁ s₃ m₂ := by
  obtain ⟨h', tk, rfl, hk⟩ := k
  exact ⟨q.sc, q.kind, q.ns.keeps hk, q.own, fun y i d h1 h2 h3 => by
    obtain ⟨cl, u, a, ⟨o, b, b2⟩, r⟩ := q.cell y i d h1 h2 h3
    exact ⟨cl, u, a, ⟨o, hk _ _ b, b2⟩, r⟩, fun a o ho h1 h2 h3 => hk _ _ (q.old a o ho h1 h2 h3)⟩
theorem keeps_trans {s₁ s₂ s₃ : Shared} (a : Keeps s₁ s₂) (b : Keeps s₂ s₃) : Keeps s₁ s₃ := by
  obtain ⟨h1, t1, rfl, k1⟩ := a
  obtain ⟨h2, t2, rfl, k2⟩ := b
  exact ⟨h2, t2, rfl, fun b o e => k2 b o (k1 b o e)⟩
def QE (g : Gx) (X : Cx) (scope : Scope) (own : List (Str × Nat)) (elt : Expr) (m : ME) : Prop :=
  ∀ (c : Ct) (pins : List (Addr × Obj)) (σ : L2.St) (s₁ s₂ : Shared) (e : Sm.Env) (cenv : PySem.Env) (A' : Around) (E' : Value → Shared → Prop) (m₂ : Str → Option Value) (d : Sm.D) (S' : Store), Inv X pins σ c.H s₁ → Ok g c → Qp X c own scope e cenv s₁ s₂ m₂ → A'.handled = none →
    m e c.S = .ok d S' → S' = c.S ∧ wpAny (model X.prog X.w) A' (eval elt cenv) (fun y s₃ => RepU c d y ∧ Keeps s₂ s₃) E' s₂
def QB (g : Gx) (X : Cx) (scope : Scope) (own : List (Str × Nat)) (elt : Expr) (m : MB) : Prop :=
  ∀ (c : Ct) (pins : List (Addr × Obj)) (σ : L2.St) (s₁ s₂ : Shared) (e : Sm.Env) (cenv : PySem.Env) (A' : Around) (E' : Value → Shared → Prop) (m₂ : Str → Option Value) (b : Bool) (S' : Store), Inv X pins σ c.H s₁ → Ok g c → Qp X c own scope e cenv s₁ s₂ m₂ → A'.handled = none →
    m e c.S = .ok b S' → S' = c.S ∧ wpAny (model X.prog X.w) A' (isTrue elt cenv (eval elt cenv)) (fun y s₃ => y = b ∧ Keeps s₂ s₃) E' s₂
def QO (g : Gx) (X : Cx) (op : Value → Value → Sem Value) (f : Store → Sm.D → Sm.D → Option Sm.D) : Prop :=
  ∀ (c : Ct) (pins : List (Addr × Obj)) (σ : L2.St) (s₁ s₂ : Shared) (A' : Around) (E' : Value → Shared → Prop) (x y : Sm.D) (u w : Value) (z : Sm.D), Inv X pins σ c.H s₁ → Ok g c → (∀ a o ho, s₁.heap.get? a = some o → c.H a = some ho → nT ho → s₂.heap.get? a = some o) → A'.handled = none →
    RepU c x u → RepU c y w → f c.S x y = some z → wpAny (model X.prog X.w) A' (op u w) (fun r s₃ => RepU c z r ∧ Keeps s₂ s₃) E' s₂
theorem rd_nTl {H : Hp} {a : Addr} {vs : List V} (h : Rd H a (.lst vs)) : ∃ o, H a = some o ∧ nT o := by
  rcases h with h | ⟨o, h⟩
  · exact ⟨_, h, fun ps z => by cases z⟩
  · exact ⟨_, h, fun ps z => by cases z⟩
section
variable {g : Gx} {X : Cx} {scope : Scope} {own : List (Str × Nat)}
theorem keepsR (s : Shared) : Keeps s s := GxR.keeps_refl s
theorem keepsT (s : Shared) (k : Nat) : Keeps s { s with toks := k } := GxR.keeps_tok s k
theorem q_own (i : Nat) {x : Str} {pos : Pos} (hm : (x, i) ∈ own) (hl : scope.names.lookup x = some .local) (hd : (x == ("__debug__" : Str)) = false := by decide) : QE g X scope own (.Name x pos) (eV i) := fun c pins σ s₁ s₂ e cenv A' E' m₂ d S' I ok q hA he => by
  obtain ⟨d0, u, h1, h2, h3⟩ := q.own _ hm
  have he' : eV i e c.S = .ok d0 c.S := by unfold eV; simp only [show e[i]? = some (some d0) from h1]
  rw [he'] at he
  cases he
  exact ⟨rfl, wpAny_Name (wpAny_loadName_local (by rw [q.sc]; exact q.kind) (show cenv.scope.names.lookup x = some .local by rw [q.sc]; exact hl) q.ns h2 ⟨h3, keepsR _⟩) hd⟩
theorem q_free (i : Nat) {x : Str} {pos : Pos} (hN : X.N[i]? = some x) (hl : scope.names.lookup x = some .free) (hd : (x == ("__debug__" : Str)) = false := by decide) (hc : (x == ("__classdict__" : Str)) = false := by decide) : QE g X scope own (.Name x pos) (eV i) := fun c pins σ s₁ s₂ e cenv A' E' m₂ d S' I ok q hA he => by
  cases h : e[i]? with
  | none => unfold eV at he; simp only [h] at he; cases he
  | some o =>
    cases o with
    | none => unfold eV at he; simp only [h] at he; cases he
    | some d0 =>
      unfold eV at he; simp only [h] at he; cases he
      obtain ⟨cl, u, h1, h2, h3⟩ := q.cell x i _ hN hl h
      exact ⟨rfl, wpAny_Name (wpAny_loadName_free (by rw [q.sc]; exact q.kind) (show cenv.scope.names.lookup x = some .free by rw [q.sc]; exact hl) h1 h2 ⟨h3, keepsR _⟩ hc) hd⟩
theorem q_int {i j pos} : QE g X scope own (.Constant (.int i) j pos) (eC (.int i)) := fun c pins σ s₁ s₂ e cenv A' E' m₂ d S' I ok q hA he => by
  cases he
  exact ⟨rfl, wpAny_Constant_int ⟨repU_int.mpr ⟨_, rfl⟩, keepsT _ _⟩⟩
theorem q_str (t : Tx) {x : Str} {j pos} (h : x = sS t := by rfl) : QE g X scope own (.Constant (.str x) j pos) (eC (.str t)) := fun c pins σ s₁ s₂ e cenv A' E' m₂ d S' I ok q hA he => by
  cases he
  exact ⟨rfl, Calls.Constant_str ⟨⟨.str x, by rw [h]; exact rep_str.mpr rfl, _, rfl⟩, keepsT _ _⟩⟩
/-- two operands, one after the other -/
theorem q_two {a b : Expr} {ma mb : ME} {f : Store → Sm.D → Sm.D → Option Sm.D} (qa : QE g X scope own a ma) (qb : QE g X scope own b mb) {c : Ct} {pins : List (Addr × Obj)} {σ : L2.St} {s₁ s₂ : Shared} {e : Sm.Env} {cenv : PySem.Env} {A' : Around} {E' : Value → Shared → Prop} {m₂ : Str → Option Value} {d : Sm.D} {S' : Store}
    (I : Inv X pins σ c.H s₁) (ok : Ok g c) (q : Qp X c own scope e cenv s₁ s₂ m₂) (hA : A'.handled = none) (he : eOp f ma mb e c.S = .ok d S') {op : Value → Value → Sem Value} (qo : QO g X op f) :
    S' = c.S ∧ wpAny (model X.prog X.w) A' (eval a cenv) (fun v s₃ => wpAny (model X.prog X.w) A' (eval b cenv) (fun u s₄ => wpAny (model X.prog X.w) A' (op v u) (fun y s₃ => RepU c d y ∧ Keeps s₂ s₃) E' s₄) E' s₃) E' s₂ := by
  unfold eOp at he
  cases h1 : ma e c.S with
  | bad => rw [h1] at he; cases he
  | exc k S => rw [h1] at he; cases he
  | ok x S1 =>
    rw [h1] at he
    obtain ⟨rfl, w1⟩ := qa c pins σ s₁ s₂ e cenv A' E' m₂ x S1 I ok q hA h1
    have he' : ((mb e c.S).bind fun y S2 => ofO (f S2 x y) S2) = .ok d S' := he
    cases h2 : mb e c.S with
    | bad => rw [h2] at he'; cases he'
    | exc k S => rw [h2] at he'; cases he'
    | ok y S2 =>
      rw [h2] at he'
      have e2 := (qb c pins σ s₁ s₂ e cenv A' E' m₂ y S2 I ok q hA h2).1
      subst e2
      have he2 : ofO (f c.S x y) c.S = .ok d S' := he'
      cases h3 : f c.S x y with
      | none => rw [h3] at he2; cases he2
      | some z =>
        rw [h3] at he2
        cases he2
        refine ⟨rfl, wpAny_mono w1 (fun v s₃ ⟨rv, k3⟩ => ?_) fun _ _ x => x⟩
        have q3 := q.keeps k3
        refine wpAny_mono (qb c pins σ s₁ s₃ e cenv A' E' m₂ y c.S I ok q3 hA h2).2 (fun u s₄ ⟨ru, k4⟩ => ?_) fun _ _ x => x
        have q4 := q3.keeps k4
        exact wpAny_mono (qo c pins σ s₁ s₄ A' E' x y v u d I ok q4.old hA rv ru h3) (fun r s₅ ⟨rr, k5⟩ => ⟨rr, keeps_trans k3 (keeps_trans k4 k5)⟩) fun _ _ x => x
theorem q_op {op : Operator} {f : Store → Sm.D → Sm.D → Option Sm.D} {a b : Expr} {ma mb : ME} {pos : Pos} (qo : QO g X (binaryOp op) f) (qa : QE g X scope own a ma) (qb : QE g X scope own b mb) : QE g X scope own (.BinOp a op b pos) (eOp f ma mb) :=
  fun c pins σ s₁ s₂ e cenv A' E' m₂ d S' I ok q hA he => by
    obtain ⟨h1, h2⟩ := q_two (m₂ := m₂) qa qb I ok q hA he qo
    exact ⟨h1, wpAny_BinOp h2⟩
theorem q_cmp {op : CmpOp} {f : Store → Sm.D → Sm.D → Option Sm.D} {a b : Expr} {ma mb : ME} {pos : Pos} (qo : QO g X (compareOp op) f) (hm : behindInMarks op b = false) (qa : QE g X scope own a ma) (qb : QE g X scope own b mb) : QE g X scope own (.Compare a [op] [b] pos) (eOp f ma mb) :=
  fun c pins σ s₁ s₂ e cenv A' E' m₂ d S' I ok q hA he => by
    obtain ⟨h1, h2⟩ := q_two (m₂ := m₂) qa qb I ok q hA he qo
    exact ⟨h1, wpAny_Compare1 h2 hm⟩
/-! the operators -/
theorem qo_cmpI {op : CmpOp} {f : Int → Int → Bool} (h : ∀ (i j : Int) (t u : Tok) (s : Shared) (A : Around) (Q : Value → Shared → Prop) (E : Value → Shared → Prop), Q (.bool (f i j)) s → wpAny (model X.prog X.w) A (compareOp op (.int i t) (.int j u)) Q E s) : QO g X (compareOp op) (cmpI f) := by
  intro c pins σ s₁ s₂ A' E' x y u w z I ok old hA ru rw' hz
  unfold cmpI at hz
  split at hz
  · cases hz
    rename_i a b
    obtain ⟨t, rfl⟩ := repU_int.mp ru
    obtain ⟨t', rfl⟩ := repU_int.mp rw'
    exact h _ _ _ _ _ _ _ _ ⟨repU_bl.mpr rfl, keepsR _⟩
  · cases hz
theorem qo_lt : QO g X (compareOp .Lt) oLt := qo_cmpI fun i j t u s A Q E q => lt_int q
theorem qo_le : QO g X (compareOp .LtE) oLe := qo_cmpI fun i j t u s A Q E q => le_int q
theorem qo_gt : QO g X (compareOp .Gt) oGt := qo_cmpI fun i j t u s A Q E q => gt_int q
theorem qo_ge : QO g X (compareOp .GtE) oGe := qo_cmpI fun i j t u s A Q E q => ge_int q
/-- ints in, an int out -/
theorem qo_intI {op : Operator} {f : Int → Int → Int} {C : Int → Int → Prop} {o : Store → Sm.D → Sm.D → Option Sm.D} (ho : ∀ S x y z, o S x y = some z → ∃ a b, x = .int a ∧ y = .int b ∧ C a b ∧ z = .int (f a b))
    (h : ∀ (i j : Int) (t u : Tok) (s : Shared) (A : Around) (Q : Value → Shared → Prop) (E : Value → Shared → Prop), C i j → Q (.int (f i j) s.toks) { s with toks := s.toks + 1 } → wpAny (model X.prog X.w) A (binaryOp op (.int i t) (.int j u)) Q E s) : QO g X (binaryOp op) o := by
  intro c pins σ s₁ s₂ A' E' x y u w z I ok old hA ru rw' hz
  obtain ⟨a, b, rfl, rfl, hc, rfl⟩ := ho _ _ _ _ hz
  obtain ⟨t, rfl⟩ := repU_int.mp ru
  obtain ⟨t', rfl⟩ := repU_int.mp rw'
  exact h _ _ _ _ _ _ _ _ hc ⟨repU_int.mpr ⟨_, rfl⟩, keepsT _ _⟩
theorem qo_div : QO g X (binaryOp .FloorDiv) oDiv := qo_intI (f := fun i j => i.fdiv j) (C := CDivN) (fun S x y z e => by
    unfold oDiv at e
    split at e
    · rename_i a b
      split at e
      · rename_i hb
        cases e
        exact ⟨_, _, rfl, rfl, ⟨by omega, by omega⟩, rfl⟩
      · cases e
    · cases e) fun i j t u s A Q E hc q => floordiv_int hc.1 q (.inl (PyProof.noPylong_small hc.2))
theorem qo_sub : QO g X (binaryOp .Sub) oSub := qo_intI (f := fun i j => i - j) (C := fun _ _ => True) (fun S x y z e => by
    unfold oSub at e
    split at e
    · cases e
      exact ⟨_, _, rfl, rfl, trivial, rfl⟩
    · cases e) fun i j t u s A Q E hc q => sub_int q
/-- a list's or tuple's items, at a later heap -/
theorem seeL {c : Ct} {pins : List (Addr × Obj)} {σ : L2.St} {s₁ s₂ : Shared} (I : Inv X pins σ c.H s₁) (ok : Ok g c) (old : ∀ a o ho, s₁.heap.get? a = some o → c.H a = some ho → nT ho → s₂.heap.get? a = some o) {x : Sm.D} {u : Value} {ds : List Sm.D} (r : RepU c x u) (e : view c.S x = .lst ds) :
    ∃ a its vs, u = .ref a ∧ Vals vs its ∧ RepL c ds vs ∧ PlainL s₂.heap a its.toArray ∧ its.length ≤ sizeLine := by
  obtain ⟨v, h1, h2⟩ := r
  obtain ⟨a, vs, rfl, h3, h4⟩ := see_lst ok h1 e
  obtain ⟨its, rv, pl, hz⟩ := I.list (.inl h3)
  obtain rfl : u = Value.ref a := h2
  obtain ⟨ho, h5, h6⟩ := rd_nTl h3
  obtain ⟨o, n, e1, e2⟩ := pl
  exact ⟨a, its, vs, rfl, rv, h4, ⟨o, n, old _ _ _ e1 h5 h6, e2⟩, by rw [← rv.length]; exact hz⟩
theorem seeT {c : Ct} {pins : List (Addr × Obj)} {σ : L2.St} {s₁ s₂ : Shared} (I : Inv X pins σ c.H s₁) (ok : Ok g c) (old : ∀ a o ho, s₁.heap.get? a = some o → c.H a = some ho → nT ho → s₂.heap.get? a = some o) {x : Sm.D} {u : Value} {ds : List Sm.D} (r : RepU c x u) (e : view c.S x = .tup ds) :
    ∃ a its vs, u = .ref a ∧ Vals vs its ∧ RepL c ds vs ∧ IsTup s₂.heap a its.toArray ∧ its.length ≤ sizeLine := by
  obtain ⟨v, h1, h2⟩ := r
  have ex : x = .tup ds := by
    cases x with
    | obj k =>
      obtain ⟨o, e1, e2⟩ := view_obj e (by intro z; cases z)
      have : ∀ o : Ob, o.val ≠ some (.tup ds) := by
        intro o
        induction o with
        | lck o ih => exact ih
        | _ => intro z; cases z
      exact absurd e2 (this o)
    | _ => exact e
  subst ex
  obtain ⟨a, vs, rfl, _, h3, h4⟩ := rep_tup.mp h1
  obtain ⟨its, rv, pl, hz⟩ := I.tuple (SqT.of h3)
  obtain rfl : u = Value.ref a := h2
  obtain ⟨o, e1, hc, n, e2⟩ := pl
  exact ⟨a, its, vs, rfl, rv, h4, ⟨o, old _ _ _ e1 h3 (fun ps z => by cases z), hc, n, e2⟩, by rw [← rv.length]; exact hz⟩
/-- o[i] -/
theorem q_ix {a b : Expr} {ma mb : ME} {pos : Pos} (hs : PlainIx b) (qa : QE g X scope own a ma) (qb : QE g X scope own b mb) : QE g X scope own (.Subscript a b pos) (eOp oIxQ ma mb) :=
  fun c pins σ s₁ s₂ e cenv A' E' m₂ d S' I ok q hA he => by
    have qo : QO g X (fun v u => subscriptTail a b v u) oIxQ := by
      intro c pins σ s₁ s₂ A' E' x y u w z I ok old hA ru rw' hz
      unfold oIxQ at hz
      split at hz
      · rename_i xs i ex
        obtain ⟨p, its, vs, rfl, rv, rl, pl, hsz⟩ := seeL I ok old ru ex
        obtain ⟨t, rfl⟩ := repU_int.mp rw'
        obtain ⟨v, hv, rv2⟩ : ∃ v, atI vs i = some v ∧ Rep c z v := by
          unfold atZ at hz
          unfold atI
          rw [ixZ_eq, repL_len rl]
          cases h : ixZ xs.length i with
          | none => rw [h] at hz; cases hz
          | some j =>
            rw [h] at hz
            obtain ⟨v, a1, a2⟩ := repL_get rl (show xs[j]? = some z from hz)
            exact ⟨v, a1, a2⟩
        obtain ⟨j, h1, h2, h3, h4, h5⟩ := atI_get hv
        obtain ⟨w, ew, rw2⟩ := rv.get h2
        have hl := rv.length
        have hn := line63
        have fin : RepU c z w ∧ Keeps s₂ s₂ := ⟨⟨v, rv2, rw2⟩, keepsR _⟩
        by_cases h0 : 0 ≤ i
        · have hj : i.toNat = j := by
            rw [seqIndex_of h0 h5] at h1
            exact Option.some.inj h1
          exact item_listR pl.isList h0 (by omega) (by rw [hj]; simpa using ew) fin (hs _ _)
        · have hj : (i + (its.toArray.size : Int)).toNat = j := by
            rw [seqIndex_neg (by omega) h4] at h1
            rw [List.size_toArray, ← hl]
            exact Option.some.inj h1
          exact subscriptTail_builtinR (x := w) pl.isList.typeIs slot_list_getitem.lookup
            (wpAny_getItem_list_neg (Q := fun r s' => r = w ∧ (RepU c z r ∧ Keeps s₂ s')) pl.isList (by omega) (by rw [List.size_toArray] <;> omega) (by omega) (by rw [hj]; simpa using ew) ⟨rfl, fin⟩) (hs _ _)
      · rename_i xs i ex
        obtain ⟨p, its, vs, rfl, rv, rl, pl, hsz⟩ := seeT I ok old ru ex
        obtain ⟨t, rfl⟩ := repU_int.mp rw'
        obtain ⟨v, hv, rv2⟩ : ∃ v, atI vs i = some v ∧ Rep c z v := by
          unfold atZ at hz
          unfold atI
          rw [ixZ_eq, repL_len rl]
          cases h : ixZ xs.length i with
          | none => rw [h] at hz; cases hz
          | some j =>
            rw [h] at hz
            obtain ⟨v, a1, a2⟩ := repL_get rl (show xs[j]? = some z from hz)
            exact ⟨v, a1, a2⟩
        obtain ⟨j, h1, h2, h3, h4, h5⟩ := atI_get hv
        obtain ⟨w, ew, rw2⟩ := rv.get h2
        have hl := rv.length
        have hn := line63
        have fin : RepU c z w ∧ Keeps s₂ s₂ := ⟨⟨v, rv2, rw2⟩, keepsR _⟩
        exact subscriptTail_builtinR (x := w) pl.typeIs slot_tuple_getitem.lookup
          (getItem_tuple (j := j) (Q := fun r s' => r = w ∧ (RepU c z r ∧ Keeps s₂ s')) pl (by omega) (by omega) (by rw [List.size_toArray, ← hl]; exact h1) (by simpa using ew) ⟨rfl, fin⟩) (hs _ _)
      · cases hz
    obtain ⟨h1, h2⟩ := q_two (m₂ := m₂) qa qb I ok q hA he qo
    exact ⟨h1, Subscript_ h2⟩
/-- a op b op' d -/
theorem q_chain {op op' : CmpOp} {f h : Store → Sm.D → Sm.D → Option Sm.D} {a b d : Expr} {ma mb mc : ME} {pos : Pos} (qo : QO g X (compareOp op) f) (qo' : QO g X (compareOp op') h) (hm : lastMarks [op, op'] [b, d] = false) (qa : QE g X scope own a ma) (qb : QE g X scope own b mb) (qc : QE g X scope own d mc) :
    QE g X scope own (.Compare a [op, op'] [b, d] pos) (eChain f h ma mb mc) := fun c pins σ s₁ s₂ e cenv A' E' m₂ r S' I ok q hA he => by
  unfold eChain at he
  cases h1 : ma e c.S with
  | bad => rw [h1] at he; cases he
  | exc k S => rw [h1] at he; cases he
  | ok x S1 =>
    rw [h1] at he
    obtain ⟨rfl, w1⟩ := qa c pins σ s₁ s₂ e cenv A' E' m₂ x S1 I ok q hA h1
    have he' : ((mb e c.S).bind fun y S2 => match f S2 x y with
      | some (.bl true) => (mc e S2).bind fun z S3 => ofO (h S3 y z) S3
      | some (.bl false) => .ok (.bl false) S2
      | _ => .bad) = .ok r S' := he
    cases h2 : mb e c.S with
    | bad => rw [h2] at he'; cases he'
    | exc k S => rw [h2] at he'; cases he'
    | ok y S2 =>
      rw [h2] at he'
      have e2 := (qb c pins σ s₁ s₂ e cenv A' E' m₂ y S2 I ok q hA h2).1
      subst e2
      have he2 : (match f c.S x y with
        | some (.bl true) => (mc e c.S).bind fun z S3 => ofO (h S3 y z) S3
        | some (.bl false) => .ok (.bl false) c.S
        | _ => .bad) = .ok r S' := he'
      split at he2
      · rename_i hf
        cases h3 : mc e c.S with
        | bad => rw [h3] at he2; cases he2
        | exc k S => rw [h3] at he2; cases he2
        | ok z S3 =>
          rw [h3] at he2
          have e3 := (qc c pins σ s₁ s₂ e cenv A' E' m₂ z S3 I ok q hA h3).1
          subst e3
          have he3 : ofO (h c.S y z) c.S = .ok r S' := he2
          cases h4 : h c.S y z with
          | none => rw [h4] at he3; cases he3
          | some t =>
            rw [h4] at he3
            cases he3
            refine ⟨rfl, Compare_chain (wpAny_mono w1 (fun v s₃ ⟨rv, k3⟩ => ?_) fun _ _ x => x) hm⟩
            have q3 := q.keeps k3
            refine chain_link (wpAny_mono (qb c pins σ s₁ s₃ e cenv A' E' m₂ y c.S I ok q3 hA h2).2 (fun u s₄ ⟨ru, k4⟩ => ?_) fun _ _ x => x)
            have q4 := q3.keeps k4
            refine wpAny_mono (qo c pins σ s₁ s₄ A' E' x y v u (.bl true) I ok q4.old hA rv ru hf) (fun b1 s₅ ⟨rb, k5⟩ => ?_) fun _ _ x => x
            obtain rfl := repU_bl.mp rb
            refine wpAny_truthy_bool ?_
            have q5 := q4.keeps k5
            refine ite_tt (chain_last (wpAny_mono (qc c pins σ s₁ s₅ e cenv A' E' m₂ z c.S I ok q5 hA h3).2 (fun t1 s₆ ⟨rt, k6⟩ => ?_) fun _ _ x => x))
            have q6 := q5.keeps k6
            exact wpAny_mono (qo' c pins σ s₁ s₆ A' E' y z u t1 r I ok q6.old hA ru rt h4) (fun b2 s₇ ⟨r2, k7⟩ => ⟨r2, keeps_trans k3 (keeps_trans k4 (keeps_trans k5 (keeps_trans k6 k7)))⟩) fun _ _ x => x
      · rename_i hf
        cases he2
        refine ⟨rfl, Compare_chain (wpAny_mono w1 (fun v s₃ ⟨rv, k3⟩ => ?_) fun _ _ x => x) hm⟩
        have q3 := q.keeps k3
        refine chain_link (wpAny_mono (qb c pins σ s₁ s₃ e cenv A' E' m₂ y c.S I ok q3 hA h2).2 (fun u s₄ ⟨ru, k4⟩ => ?_) fun _ _ x => x)
        have q4 := q3.keeps k4
        refine wpAny_mono (qo c pins σ s₁ s₄ A' E' x y v u (.bl false) I ok q4.old hA rv ru hf) (fun b1 s₅ ⟨rb, k5⟩ => ?_) fun _ _ x => x
        obtain rfl := repU_bl.mp rb
        exact wpAny_truthy_bool (ite_ff ⟨repU_bl.mpr rfl, keeps_trans k3 (keeps_trans k4 k5)⟩)
      · cases he2
theorem q_not {a : Expr} {m : ME} {pos : Pos} (qa : QE g X scope own a m) : QE g X scope own (.UnaryOp .Not a pos) (eUn uNot m) := fun c pins σ s₁ s₂ e cenv A' E' m₂ r S' I ok q hA he => by
  unfold eUn at he
  cases h1 : m e c.S with
  | bad => rw [h1] at he; cases he
  | exc k S => rw [h1] at he; cases he
  | ok x S1 =>
    rw [h1] at he
    obtain ⟨rfl, w1⟩ := qa c pins σ s₁ s₂ e cenv A' E' m₂ x S1 I ok q hA h1
    have he' : ofO (uNot c.S x) c.S = .ok r S' := he
    unfold uNot at he'
    cases x <;> first | (cases he'; done) | skip
    cases he'
    refine ⟨rfl, UnaryOp_ (wpAny_mono w1 (fun v s₃ ⟨rv, k3⟩ => ?_) fun _ _ x => x)⟩
    obtain rfl := repU_bl.mp rv
    exact not_of (wpAny_truthy_bool ⟨repU_bl.mpr rfl, k3⟩)
/-- a test -/
theorem qb_val {a : Expr} {m : ME} (hv : ∀ env whole, isTrue a env whole = (do let v ← whole; standAt a.pos; holding [v] (truthy v)) := by intro _ _; rfl) (qa : QE g X scope own a m) : QB g X scope own a (tB m) := fun c pins σ s₁ s₂ e cenv A' E' m₂ b S' I ok q hA he => by
  unfold tB at he
  cases h1 : m e c.S with
  | bad => rw [h1] at he; cases he
  | exc k S => rw [h1] at he; cases he
  | ok x S1 =>
    rw [h1] at he
    obtain ⟨rfl, w1⟩ := qa c pins σ s₁ s₂ e cenv A' E' m₂ x S1 I ok q hA h1
    cases x <;> first | (cases he; done) | skip
    cases he
    refine ⟨rfl, ?_⟩
    rw [hv]
    refine wpAny_bind (wpAny_mono w1 (fun v s₃ ⟨rv, k3⟩ => wpAny_bind (wpAny_standAt (wpAny_holding ?_))) fun _ _ x => x)
    obtain rfl := repU_bl.mp rv
    exact wpAny_truthy_bool ⟨rfl, k3⟩
end
end Sm
end

section
set_option Elab.async false
set_option linter.all false
set_option autoImplicit false
set_option maxRecDepth 100000
set_option maxHeartbeats 4000000
namespace Sm
open PySem PySem.Spec PyProof.Rows L2
/-! ### generator expressions -/
/-- the generator expression's own scope -/
structure GenOk (N : List Str) (sc scope : Scope) (own : List (Str × Nat)) : Prop where
  kind : scope.kind = .function
  co : scope.isCoroutine = false
  nocell : ∀ y ∈ scope.names, y.2 ≠ .cell
  dot : scope.names.lookup (".0" : Str) = some NameKind.local
  loc : ∀ p ∈ own, scope.names.lookup p.1 = some .local ∧ N[p.2]? = some p.1
  free : ∀ y ∈ scope.names, y.2 = .free → sc.names.lookup y.1 = some .cell ∨ sc.names.lookup y.1 = some .free
def genB (N : List Str) (sc scope : Scope) (own : List (Str × Nat)) : Bool :=
  decide (scope.kind = .function) && (!scope.isCoroutine && ((scope.names.all fun y => !decide (y.2 = .cell)) && (decide (scope.names.lookup (".0" : Str) = some NameKind.local) && ((own.all fun p => decide (scope.names.lookup p.1 = some .local) && decide (N[p.2]? = some p.1)) &&
    (scope.names.all fun y => !decide (y.2 = .free) || decide (sc.names.lookup y.1 = some .cell) || decide (sc.names.lookup y.1 = some .free))))))
theorem genOk_by {N : List Str} {sc scope : Scope} {own : List (Str × Nat)} (h : genB N sc scope own = true) : GenOk N sc scope own := by
  unfold genB at h
  simp only [Bool.and_eq_true, Bool.or_eq_true, Bool.not_eq_true', decide_eq_true_eq, decide_eq_false_iff_not, List.all_eq_true] at h
  obtain ⟨h1, h2, h3, h4, h5, h6⟩ := h
  refine ⟨h1, h2, h3, h4, h5, fun y hy e => ?_⟩
  rcases h6 y hy with (z | z) | z
  · exact absurd e z
  · exact .inl z
  · exact .inr z
/-- what passes, and what it gives -/
def pzOf (f : Sm.D → Option (Option Sm.D)) (ds : List Sm.D) (i : Nat) : Bool := match ds[i]? with
  | some x => match f x with
    | some (some _) => true
    | _ => false
  | none => false
theorem pz_succ {f : Sm.D → Option (Option Sm.D)} {x : Sm.D} {xs : List Sm.D} : (pzOf f (x :: xs) ∘ Nat.succ) = pzOf f xs := by
  funext i
  show pzOf f (x :: xs) (i + 1) = pzOf f xs i
  unfold pzOf
  rw [List.getElem?_cons_succ]
theorem genL_pass {f : Sm.D → Option (Option Sm.D)} : ∀ {ds ys : List Sm.D}, genL f ds = some ys → ((List.range ds.length).filter (pzOf f ds)).map (fun i => (ds[i]?.bind f).bind id) = ys.map some
  | [], ys, h => by cases h; rfl
  | x :: xs, ys, h => by
    unfold genL at h
    have step : ((List.range (x :: xs).length).filter (pzOf f (x :: xs))) = (if pzOf f (x :: xs) 0 = true then [0] else []) ++ ((List.range xs.length).filter (pzOf f xs)).map Nat.succ := by
      rw [List.length_cons, List.range_succ_eq_map, List.filter_cons, List.filter_map, pz_succ]
      split <;> simp
    have tail : ∀ l : List Nat, (l.map Nat.succ).map (fun i => ((x :: xs)[i]?.bind f).bind id) = l.map (fun i => (xs[i]?.bind f).bind id) := fun l => by
      rw [List.map_map]
      rfl
    rw [step, List.map_append, tail]
    split at h
    · rename_i y hy
      cases h2 : genL f xs with
      | none => rw [h2] at h; cases h
      | some zs =>
        rw [h2] at h
        cases h
        rw [genL_pass h2]
        have p0 : pzOf f (x :: xs) 0 = true := by unfold pzOf; simp only [List.getElem?_cons_zero, hy]
        rw [if_pos p0]
        simp [hy]
    · rename_i hy
      rw [genL_pass h]
      have p0 : pzOf f (x :: xs) 0 = false := by unfold pzOf; simp only [List.getElem?_cons_zero, hy]
      rw [p0]
      simp
    · cases h
theorem genL_all {f : Sm.D → Option (Option Sm.D)} : ∀ {ds ys : List Sm.D}, genL f ds = some ys → ∀ (i : Nat) (x : Sm.D), ds[i]? = some x → ∃ r, f x = some r
  | [], ys, h, i, x, e => by simp at e
  | d :: ds, ys, h, i, x, e => by
    unfold genL at h
    cases i with
    | zero =>
      have e' : d = x := by simpa using e
      subst e'
      split at h
      · exact ⟨_, by assumption⟩
      · exact ⟨_, by assumption⟩
      · cases h
    | succ i =>
      have e' : ds[i]? = some x := by simpa using e
      split at h
      · cases h2 : genL f ds with
        | none => rw [h2] at h; cases h
        | some zs => exact genL_all h2 i x e'
      · exact genL_all h i x e'
      · cases h
theorem pass_get {f : Sm.D → Option (Option Sm.D)} {ds ys : List Sm.D} (h : genL f ds = some ys) : (passing (pzOf f ds) ds.length 0).length = ys.length ∧ ∀ j i : Nat, (passing (pzOf f ds) ds.length 0)[j]? = some i → ∃ x y, ds[i]? = some x ∧ f x = some (some y) ∧ ys[j]? = some y := by
  have h1 := genL_pass h
  have e : passing (pzOf f ds) ds.length 0 = (List.range ds.length).filter (pzOf f ds) := by unfold passing; rw [List.drop_zero]
  rw [e]
  refine ⟨by have := congrArg List.length h1; simpa using this, fun j i hj => ?_⟩
  have h2 : ys.map some = _ := h1.symm
  have h3 : (ys.map some)[j]? = some ((ds[i]?.bind f).bind id) := by rw [h2, List.getElem?_map, hj]; rfl
  have hm := List.mem_of_getElem? hj
  have hp := (List.mem_filter.mp hm).2
  unfold pzOf at hp
  cases hx : ds[i]? with
  | none => rw [hx] at hp; cases hp
  | some x =>
    simp only [hx] at hp
    cases hf : f x with
    | none => rw [hf] at hp; cases hp
    | some r =>
      cases r with
      | none => rw [hf] at hp; cases hp
      | some y =>
        refine ⟨x, y, rfl, hf, ?_⟩
        rw [hx] at h3
        have h4 : (ys.map some)[j]? = some (some y) := by rw [h3]; show some ((f x).bind id) = _; rw [hf]; rfl
        rw [List.getElem?_map] at h4
        cases hy : ys[j]? with
        | none => rw [hy] at h4; cases h4
        | some z => rw [hy] at h4; cases h4; rfl
/-- the generator, ready to be walked -/
def ReadyG (g : Gx) (X : Cx) (pins : List (Addr × Obj)) (σ : L2.St) (c : Ct) (ys : List Sm.D) (ga : Addr) (s5 : Shared) : Prop :=
  ∃ (fp wr : List Addr) (G : Array GenState → Array GenState → Prop) (F : Nat → Value → Prop) (St : Nat → Shared → Prop),
    WalksS X.prog X.w X.A.in1 ga fp wr G ys.length F St ∧ St 0 s5 ∧ (∀ b ∈ fp, b < s5.heap.objs.size) ∧ (∀ j v, F j v → ∃ d, ys[j]? = some d ∧ RepU c d v) ∧
    ∀ s', Moved wr G s5 s' → ∃ c2, Inv X pins σ c2.H s' ∧ Ok g c2 ∧ Le c c2 ∧ RsE c2 c ∧ c2.S = c.S
/-! ### the table behind it -/
theorem upd_id {H : Hp} {P : Addr} {o : HO} (h : H P = some o) : upd H P o = H := funext fun b => by
  by_cases z : b = P
  · subst z; rw [upd_same, h]
  · rw [upd_ne z]
theorem app_empty (ps : Array Value) : ps ++ #[] = ps := by simp
/-- behind it: the table as it was, or one code more -/
theorem gen_after {g : Gx} {X : Cx} {pins : List (Addr × Obj)} {σ : L2.St} {c : Ct} {s1 s' : Shared} {P : Addr} {q : Str} {ps ps' : Array Value} {gpos : Pos} (I : Inv X pins σ c.H s1) (ok : Ok g c) (hmT : (P, q) ∈ g.tabs) (hu : ∀ p ∈ g.tabs, p.1 = P → p.2 = q) (hP : c.H P = some (.tbl ps)) (ht : TriplesOk ps.toList)
    (ha : ∀ (pos : Pos) (cv : Value), codeAmong pos ps.toList = some cv → ∃ c0, cv = .ref c0 ∧ c.H c0 = some (LamX.CodeO c0 q)) (k : ∀ b o, b ≠ P → s1.heap.get? b = some o → s'.heap.get? b = some o) (hm : s'.heap.get? P = some { cls := .none, data := .fields ps' }) (hg : AllBare s'.gens) (hos : s'.os = s1.os)
    (hnew : ps' = ps ∨ ∃ c', ps' = ps ++ #[rawInt gpos.line, rawInt gpos.col, .ref c'] ∧ s1.heap.objs.size ≤ c' ∧ ∃ (oc : Obj) (vs : Array Value) (t : Tok), s'.heap.get? c' = some oc ∧ oc.data = .fields vs ∧ vs[1]? = some (.str q t)) :
    ∃ c2, Inv X pins σ c2.H s' ∧ Ok g c2 ∧ Le c c2 ∧ RsE c2 c ∧ c2.S = c.S := by
  rcases hnew with rfl | ⟨c', rfl, hge, hrec⟩
  · have J := GxR.inv_tab (more := #[]) (h' := s'.heap) (g' := s'.gens) (d' := s'.drawn) (t' := s'.toks) I hP k (by rw [app_empty]; exact hm) hg
    rw [GxR.sh_eta s1 s' hos, app_empty, upd_id hP] at J
    exact ⟨c, J, ok, Le.refl c, RsE.refl c, rfl⟩
  · have J1 := LamX.inv_table (t' := s'.toks) I hP k hm hge hrec
    have nC : c.H c' = none := I.hok.fresh hge
    have nPc : P ≠ c' := ne_of_none hP nC
    have hP2 : upd (upd c.H P (.tbl (ps ++ #[rawInt gpos.line, rawInt gpos.col, .ref c']))) c' (LamX.CodeO c' q) P = some (.tbl (ps ++ #[rawInt gpos.line, rawInt gpos.col, .ref c'])) := by rw [upd_ne nPc, upd_same]
    have J := GxR.inv_tab (more := #[]) (h' := s'.heap) (g' := s'.gens) (d' := s'.drawn) (t' := s'.toks) J1 hP2 (fun b u _ e => e) (by rw [app_empty]; exact hm) hg
    have J' : Inv X pins σ (upd (upd (upd c.H P (.tbl (ps ++ #[rawInt gpos.line, rawInt gpos.col, .ref c']))) c' (LamX.CodeO c' q)) P (.tbl (ps ++ #[rawInt gpos.line, rawInt gpos.col, .ref c'] ++ #[]))) ({ s1 with heap := s'.heap, gens := s'.gens, drawn := s'.drawn, toks := s'.toks } : Shared) := J
    rw [GxR.sh_eta s1 s' hos, app_empty, upd_id hP2] at J'
    have hE : LamX.ExtN c.H (upd (upd c.H P (.tbl (ps ++ #[rawInt gpos.line, rawInt gpos.col, .ref c']))) c' (LamX.CodeO c' q)) := fun b o e n => by
      rw [upd_ne (ne_of_none e nC), upd_ne (fun z => n ps (Option.some.inj (e.symm.trans (by rw [z]; exact hP))))]
      exact e
    have eL : (ps ++ #[rawInt gpos.line, rawInt gpos.col, .ref c']).toList = ps.toList ++ [rawInt gpos.line, rawInt gpos.col, .ref c'] := by simp
    have T1 : LamX.Tabs g.tabs (upd (upd c.H P (.tbl (ps ++ #[rawInt gpos.line, rawInt gpos.col, .ref c']))) c' (LamX.CodeO c' q)) := fun p hp => by
      by_cases hb : p.1 = P
      · rw [hu p hp hb, hb]
        refine ⟨_, hP2, by rw [eL]; exact PySem.TriplesOk_snoc _ _ _ _ ht, fun p' cv hcv => ?_⟩
        rw [eL] at hcv
        rcases LamX.among_app _ ht hcv with z | z
        · obtain ⟨c0, e1, e2⟩ := ha p' cv z
          exact ⟨c0, e1, hE _ _ e2 LamX.codeO_ne⟩
        · exact ⟨c', z, upd_same⟩
      · obtain ⟨ps', a1, a2, a3⟩ := ok.tabs p hp
        refine ⟨ps', by rw [upd_ne (ne_of_none a1 nC), upd_ne hb]; exact a1, a2, fun p' cv hcv => ?_⟩
        obtain ⟨c0, e1, e2⟩ := a3 p' cv hcv
        exact ⟨c0, e1, hE _ _ e2 LamX.codeO_ne⟩
    obtain ⟨ok2, l2, r2⟩ := ext_ok ok hE T1
    exact ⟨_, J', ok2, l2, r2, rfl⟩
/-- tests of a generator expression: none or one -/
def QI (g : Gx) (X : Cx) (scope : Scope) (own : List (Str × Nat)) (ifs : List Expr) (mt : MB) : Prop := (ifs = [] ∧ mt = tYes) ∨ ∃ t, ifs = [t] ∧ QB g X scope own t mt
theorem qi_run {g : Gx} {X : Cx} {scope : Scope} {own : List (Str × Nat)} {ifs : List Expr} {mt : MB} (h : QI g X scope own ifs mt) {c : Ct} {pins : List (Addr × Obj)} {σ : L2.St} {s₁ s₂ : Shared} {e : Sm.Env} {cenv : PySem.Env} {A' : Around} {E' : Value → Shared → Prop} {m₂ : Str → Option Value} {b : Bool} {S' : Store}
    (I : Inv X pins σ c.H s₁) (ok : Ok g c) (q : Qp X c own scope e cenv s₁ s₂ m₂) (hA : A'.handled = none) (he : mt e c.S = .ok b S') :
    S' = c.S ∧ wpAny (model X.prog X.w) A' (forIn ifs true fun c r => if r = true then do let ok ← isTrue c cenv (eval c cenv); pure (ForInStep.yield ok) else pure (ForInStep.yield r)) (fun ok s₃ => ok = b ∧ Keeps s₂ s₃) E' s₂ := by
  rcases h with ⟨rfl, rfl⟩ | ⟨t, rfl, hb⟩
  · cases he
    refine ⟨rfl, ?_⟩
    simp only [List.forIn_nil]
    exact wpAny_pure ⟨rfl, keepsR _⟩
  · obtain ⟨h1, h2⟩ := hb c pins σ s₁ s₂ e cenv A' E' m₂ b S' I ok q hA he
    refine ⟨h1, ?_⟩
    simp only [List.forIn_cons, List.forIn_nil, if_true]
    exact wpAny_bind (wpAny_bind (wpAny_mono h2 (fun y s₃ ⟨e1, k⟩ => wpAny_pure (wpAny_pure ⟨e1, k⟩)) fun _ _ x => x))
/-- the place of an element -/
theorem qp_make {g : Gx} {X : Cx} {pins : List (Addr × Obj)} {σ : L2.St} {c : Ct} {own : List (Str × Nat)} {scope : Scope} {e e1 : Sm.Env} {cenv : PySem.Env} {s1 s₂ : Shared} {m₂ : Str → Option Value} {P : Addr} {ps : Array Value} (I : Inv X pins σ c.H s1) (er : EnvR c e σ) (S : GenOk X.N X.env.scope scope own)
    (hcs : cenv.scope = scope) (hcc : cenv.cells = cloFrom X.env.cells scope.names []) (ns : s₂.heap.Ns cenv.locals m₂) (hown : ∀ p ∈ own, ∃ (d : Sm.D) (u : Value), e1[p.2]? = some (some d) ∧ m₂ p.1 = some u ∧ RepU c d u) (heq : ∀ i : Nat, i ∉ own.map (·.2) → e1[i]? = e[i]?)
    (hP : c.H P = some (.tbl ps)) (kp : ∀ b o, b ≠ P → s1.heap.get? b = some o → s₂.heap.get? b = some o) : Qp X c own scope e1 cenv s1 s₂ m₂ where
  sc := hcs
  kind := S.kind
  ns := ns
  own := hown
  cell := fun y i d hN hfree he1 => by
    have hy : (y, NameKind.free) ∈ scope.names := PySem.mem_of_lookup hfree
    have hi : i ∉ own.map (·.2) := fun hm => by
      obtain ⟨p, hp, rfl⟩ := List.mem_map.mp hm
      obtain ⟨h1, h2⟩ := S.loc p hp
      rw [h2] at hN
      have e : p.1 = y := Option.some.inj hN
      rw [e, hfree] at h1
      cases h1
    rw [heq i hi] at he1
    obtain ⟨v, hv1, hv2⟩ := er.2 i d he1
    obtain ⟨m, hn, hl⟩ := I.loc
    have vis : Vis X.env.scope y := (S.free _ hy rfl).elim (fun k => .inr (.inl k)) (fun k => .inr (.inr k))
    obtain ⟨u, ru, hlook⟩ := hl i y v hN hv1 vis
    rcases hlook with ⟨k, _⟩ | ⟨_, cl, hcl, hcell⟩
    · have k' : X.env.scope.names.lookup y = some .local := k
      rcases S.free _ hy rfl with z | z
      · rw [show X.env.scope.names.lookup y = _ from z] at k'; cases k'
      · rw [show X.env.scope.names.lookup y = _ from z] at k'; cases k'
    · obtain ⟨c2, h2⟩ : ∃ c2, (cloFrom X.env.cells scope.names []).lookup y = some c2 := mem_lookup (cloFrom_has (cells := X.env.cells) (acc := []) hy)
      have e2 : c2 = cl := by
        rcases cloFrom_mem (PySem.mem_of_lookup h2) with hm | ⟨_, h3⟩
        · cases hm
        · rw [h3, hcl] <;> rfl
      obtain ⟨o, ho, hd⟩ := hcell
      have hne : cl ≠ P := fun z => by
        have hPs : s1.heap.get? P = some { cls := .none, data := .fields ps } := I.hok P _ hP
        rw [z, hPs] at ho
        cases ho
        cases hd
      exact ⟨cl, u, by rw [hcc, ← e2]; exact h2, ⟨o, kp _ _ hne ho, hd⟩, v, hv2, ru⟩
  old := fun a o ho h1 h2 h3 => kp a o (fun z => by subst z; rw [hP] at h2; exact h3 _ (Option.some.inj h2).symm) h1
theorem gen_core1 {g : Gx} {X : Cx} {pins : List (Addr × Obj)} {σ : L2.St} {c : Ct} {e : Sm.Env} {s1 : Shared} {elt : Expr} {ifs : List Expr} {scope : Scope} {x : Str} {j : Nat} {gpos : Pos} {cA P : Addr} {me : ME} {mt : MB} {Q' : Value → Shared → Prop} {ds ys : List Sm.D} {vs : List V} {its : List Value} {a : Addr} {o : Obj} {St : Nat → Heap → Prop}
    (TB : LamX.TabB X.base X.mg cA P) (hcode : X.env.code = .ref cA) (hmT : (P, X.env.qual ++ "<genexpr>") ∈ g.tabs) (hu : ∀ p ∈ g.tabs, p.1 = P → p.2 = X.env.qual ++ "<genexpr>") (S : GenOk X.N X.env.scope scope [(x, j)]) (hel : QE g X scope [(x, j)] elt me) (hif : QI g X scope [(x, j)] ifs mt)
    (I1 : Inv X pins σ c.H s1) (ok : Ok g c) (er : EnvR c e σ) (rv : Vals vs its) (rl : RepL c ds vs) (hat : a < s1.heap.objs.size) (haP : ∀ ps, s1.heap.get? a ≠ some { cls := .none, data := .fields ps })
    (hW : ∀ A' : Around, A'.handled = none → Walks X.prog X.w A' s1.heap.objs.size [s1.heap.objs.size, a] [s1.heap.objs.size] its.toArray.size (fun i v => its.toArray[i]? = some v) St)
    (hSt : ∀ h : Heap, (∀ b u, b ≠ P → (s1.heap.push o).get? b = some u → h.get? b = some u) → St 0 h) (hg : genL (turnG (gN j) mt me e c.S) ds = some ys) (hQ : ∀ ga s5, ReadyG g X pins σ c ys ga s5 → Q' (.ref ga) s5) :
    ({ s1 with heap := s1.heap.push o } : Shared).heap.NoLimit ∧ wpAny (model X.prog X.w) X.A (genexprCode X.env gpos (X.env.qual ++ "<genexpr>") scope) (fun code s₃ => wpAny (model X.prog X.w) X.A (builtinsFor X.env.globals X.env.builtins) (fun bi s₄ =>
        ∃ Ia fp wr n₀ Pf St₀ pz F, Value.ref s1.heap.objs.size = .ref Ia ∧ (∀ A' : Around, A'.handled = none → Walks X.prog X.w A' Ia fp wr n₀ Pf St₀) ∧ St₀ 0 s₄.heap ∧ (∀ b ∈ fp, b < s₄.heap.objs.size) ∧ s₄.heap.NoLimit ∧ cStatics ∉ wr ∧
          (∀ href : Heap, (∀ b o, s₄.heap.get? b = some o → href.get? b = some o) →
            QuietGen X.prog X.w (genEnv scope (cloFrom X.env.cells scope.names []) s₄.heap.objs.size code bi X.env) x ifs elt (List.range s₄.heap.objs.size) wr Pf pz F href) ∧
          (∀ a h₅ tk gs, gs.bare = true → s₄.heap.objs.size < a → h₅.objs.size = a + 1 → (∀ b o, s₄.heap.get? b = some o → h₅.get? b = some o) →
            WalksS X.prog X.w X.A.in4 a (a :: s₄.heap.objs.size :: List.range s₄.heap.objs.size) (s₄.heap.objs.size :: wr) (GenOnlyQ s₄.gens.size) (passing pz n₀ 0).length
              (fun j y => ∃ i, (passing pz n₀ 0)[j]? = some i ∧ F i y) (GenAt X.prog X.w X.A.in4 a s₄.gens.size s₄.heap.objs.size (List.range s₄.heap.objs.size) wr pz n₀ F) →
            GenAt X.prog X.w X.A.in4 a s₄.gens.size s₄.heap.objs.size (List.range s₄.heap.objs.size) wr pz n₀ F 0 { s₄ with gens := s₄.gens.push gs, toks := tk, heap := h₅ } →
            Q' (.ref a) { s₄ with gens := s₄.gens.push gs, toks := tk, heap := h₅ })) X.xe s₃) X.xe { s1 with heap := s1.heap.push o } := by
  obtain ⟨ps, hP, ht, ha⟩ := ok.tabs _ hmT
  have hPs : s1.heap.get? P = some { cls := .none, data := .fields ps } := I1.hok P _ hP
  have hPlt : P < s1.heap.objs.size := Heap.lt_size hPs
  have hP2 : (s1.heap.push o).get? P = some { cls := .none, data := .fields ps } := Heap.get?_push_of_some _ hPs
  have cd : PySem.W.CodeHd (s1.heap.push o) cA P := TB.code.keeps fun b u e => Heap.get?_push_of_some _ (I1.bk b u e)
  have lim2 : (s1.heap.push o).NoLimit := I1.nolimit.push o
  have haNe : a ≠ P := fun z => haP ps (by rw [z]; exact hPs)
  obtain ⟨hxl, hxN⟩ := S.loc (x, j) List.mem_cons_self
  have hjlt : j < e.length := by
    rw [er.1, I1.len]
    exact (List.getElem?_eq_some_iff.mp hxN).1
  have hlen : ds.length = its.toArray.size := by rw [List.size_toArray, ← rv.length, repL_len rl]
  have hitem : ∀ (i : Nat) (v : Value), its.toArray[i]? = some v → ∃ d, ds[i]? = some d ∧ RepU c d v := fun i v hv => by
    have hv2 : its[i]? = some v := by simpa using hv
    have hi2 : i < its.length := (List.getElem?_eq_some_iff.mp hv2).1
    have hi3 : i < ds.length := by rw [hlen, List.size_toArray]; exact hi2
    obtain ⟨w, h1, h2⟩ := repL_get rl (List.getElem?_eq_getElem hi3)
    obtain ⟨u, h3, h4⟩ := rv.get h1
    rw [hv2] at h3
    cases h3
    exact ⟨ds[i], List.getElem?_eq_getElem hi3, w, h2, h4⟩
  have cont : ∀ (code : Value) (h3 : Heap) (tk : Nat) (ps' : Array Value), Heap.ExtBut P (s1.heap.push o) h3 → (s1.heap.push o).objs.size ≤ h3.objs.size → h3.get? P = some { cls := .none, data := .fields ps' } →
      (ps' = ps ∨ ∃ c', ps' = ps ++ #[rawInt gpos.line, rawInt gpos.col, .ref c'] ∧ (s1.heap.push o).objs.size ≤ c' ∧ c' < h3.objs.size ∧ ∃ (oc : Obj) (vs : Array Value) (t : Tok), h3.get? c' = some oc ∧ oc.data = .fields vs ∧ vs[1]? = some (.str (X.env.qual ++ "<genexpr>") t)) →
      wpAny (model X.prog X.w) X.A (builtinsFor X.env.globals X.env.builtins) (fun bi s₄ =>
        ∃ Ia fp wr n₀ Pf St₀ pz F, Value.ref s1.heap.objs.size = .ref Ia ∧ (∀ A' : Around, A'.handled = none → Walks X.prog X.w A' Ia fp wr n₀ Pf St₀) ∧ St₀ 0 s₄.heap ∧ (∀ b ∈ fp, b < s₄.heap.objs.size) ∧ s₄.heap.NoLimit ∧ cStatics ∉ wr ∧
          (∀ href : Heap, (∀ b o, s₄.heap.get? b = some o → href.get? b = some o) →
            QuietGen X.prog X.w (genEnv scope (cloFrom X.env.cells scope.names []) s₄.heap.objs.size code bi X.env) x ifs elt (List.range s₄.heap.objs.size) wr Pf pz F href) ∧
          (∀ a h₅ tk gs, gs.bare = true → s₄.heap.objs.size < a → h₅.objs.size = a + 1 → (∀ b o, s₄.heap.get? b = some o → h₅.get? b = some o) →
            WalksS X.prog X.w X.A.in4 a (a :: s₄.heap.objs.size :: List.range s₄.heap.objs.size) (s₄.heap.objs.size :: wr) (GenOnlyQ s₄.gens.size) (passing pz n₀ 0).length
              (fun j y => ∃ i, (passing pz n₀ 0)[j]? = some i ∧ F i y) (GenAt X.prog X.w X.A.in4 a s₄.gens.size s₄.heap.objs.size (List.range s₄.heap.objs.size) wr pz n₀ F) →
            GenAt X.prog X.w X.A.in4 a s₄.gens.size s₄.heap.objs.size (List.range s₄.heap.objs.size) wr pz n₀ F 0 { s₄ with gens := s₄.gens.push gs, toks := tk, heap := h₅ } →
            Q' (.ref a) { s₄ with gens := s₄.gens.push gs, toks := tk, heap := h₅ })) X.xe { s1 with heap := h3, toks := tk } := by
    intro code h3 tk ps' hx hsz hP3 hmore
    obtain ⟨bm, ob, e1, e2, e3, e4, e5, e6, e7, e8⟩ := TB.bm
    have hcP : cStatics ≠ P := fun e => by
      obtain ⟨_, hns, _⟩ := I1.nolimit
      obtain ⟨o', es, ep, ho, hd, _⟩ := hns
      rw [e, hPs] at ho
      cases ho
      cases hd
    have hcl : cStatics < s1.heap.objs.size := let ⟨_, hns, _⟩ := I1.nolimit; hns.lt
    have sz2 : (s1.heap.push o).objs.size = s1.heap.objs.size + 1 := Heap.size_push ..
    have keep3 : ∀ b u, b ≠ P → s1.heap.get? b = some u → h3.get? b = some u := fun b u hb e => hx b u hb (Heap.get?_push_of_some _ e)
    refine wpAny_builtinsFor (m := X.mg) (by rw [I1.ok.glob]; exact ((I1.mod.glob.keeps I1.bk).push o).extBut hx TB.gP) e1 e2 (keep3 _ _ e4 (I1.bk _ _ e5)) e6 e7 e8 ?_
    refine ⟨s1.heap.objs.size, [s1.heap.objs.size, a], [s1.heap.objs.size], its.toArray.size, (fun i v => its.toArray[i]? = some v), St, pzOf (turnG (gN j) mt me e c.S) ds,
      (fun i y => ∃ d0 d, ds[i]? = some d0 ∧ turnG (gN j) mt me e c.S d0 = some (some d) ∧ RepU c d y), rfl, hW, hSt h3 (fun b u hb e => hx b u hb e), ?_, lim2.extBut hx hcP, ?_, ?_, ?_⟩
    · intro b hb
      show b < h3.objs.size
      have e9 : (s1.heap.objs.size : Nat) < h3.objs.size := by omega
      rcases List.mem_cons.mp hb with z | z
      · rw [z]; exact e9
      · rcases List.mem_cons.mp z with z | z
        · rw [z]; exact Nat.lt_trans hat e9
        · cases z
    · intro z
      rcases List.mem_cons.mp z with z | z
      · exact Nat.ne_of_lt hcl z
      · cases z
    · intro href hhref
      have kp2 : ∀ {s₂ : Shared}, (∀ b ∈ List.range h3.objs.size, b ∉ [s1.heap.objs.size] → ∀ o, href.get? b = some o → s₂.heap.get? b = some o) → ∀ b u, b ≠ P → s1.heap.get? b = some u → s₂.heap.get? b = some u := fun {s₂} hk b u hb e1 => by
        have hlt := Heap.lt_size e1
        refine hk b (List.mem_range.mpr (Nat.lt_of_lt_of_le hlt (show (s1.heap.objs.size : Nat) ≤ h3.objs.size by omega))) (fun z => ?_) u (hhref _ _ (keep3 b u hb e1))
        rcases List.mem_cons.mp z with z | z
        · rw [z] at hlt; exact Nat.lt_irrefl _ hlt
        · cases z
      have place : ∀ {s₂ : Shared} {m₂ : Str → Option Value} {i : Nat} {v : Value} {d0 : Sm.D}, s₂.heap.Ns (genEnv scope (cloFrom X.env.cells scope.names []) h3.objs.size code builtinsNs X.env).locals m₂ → m₂ x = some v → RepU c d0 v →
          (∀ b ∈ List.range h3.objs.size, b ∉ [s1.heap.objs.size] → ∀ o, href.get? b = some o → s₂.heap.get? b = some o) → Qp X c [(x, j)] scope (e.set j (some d0)) (genEnv scope (cloFrom X.env.cells scope.names []) h3.objs.size code builtinsNs X.env) s1 s₂ m₂ := fun {s₂ m₂ i v d0} hn hm hr hk =>
        qp_make (g := g) I1 er S rfl rfl hn (fun p hp => by
          rcases List.mem_cons.mp hp with z | z
          · subst z
            exact ⟨d0, v, List.getElem?_set_self hjlt, hm, hr⟩
          · cases z) (fun i hi => List.getElem?_set_ne fun z => hi (by rw [← z]; exact List.mem_cons_self)) hP (kp2 hk)
      refine ⟨fun A' E' i v s₂ m₂ hA hPv hn hm hk => ?_, fun A' E' i v s₂ m₂ hA hPv hp hn hm hk => ?_⟩
      · obtain ⟨d0, hd0, hr0⟩ := hitem i v hPv
        obtain ⟨r, hr⟩ := genL_all hg i d0 hd0
        have q := place (i := i) hn hm hr0 hk
        unfold turnG gN at hr
        cases h1 : mt (e.set j (some d0)) c.S with
        | bad => simp only [h1] at hr; cases hr
        | exc k S => simp only [h1] at hr; cases hr
        | ok b S' =>
          refine wpAny_mono (qi_run hif (m₂ := m₂) I1 ok q hA h1).2 (fun y s3 ⟨e9, k9⟩ => ⟨?_, k9⟩) fun _ _ e => e
          subst e9
          unfold pzOf turnG gN
          simp only [hd0, h1]
          cases y with
          | false => rfl
          | true =>
            simp only [h1] at hr
            cases h2 : me (e.set j (some d0)) c.S with
            | bad => simp only [h2] at hr; cases hr
            | exc k S => simp only [h2] at hr; cases hr
            | ok d S => simp only [h2]
      · obtain ⟨d0, hd0, hr0⟩ := hitem i v hPv
        have q := place (i := i) hn hm hr0 hk
        unfold pzOf at hp
        simp only [hd0] at hp
        cases hf : turnG (gN j) mt me e c.S d0 with
        | none => rw [hf] at hp; cases hp
        | some r =>
          cases r with
          | none => rw [hf] at hp; cases hp
          | some d =>
            have hf0 := hf
            unfold turnG gN at hf
            cases h1 : mt (e.set j (some d0)) c.S with
            | bad => simp only [h1] at hf; cases hf
            | exc k S => simp only [h1] at hf; cases hf
            | ok b S' =>
              cases b with
              | false => simp only [h1] at hf; cases hf
              | true =>
                simp only [h1] at hf
                cases h2 : me (e.set j (some d0)) c.S with
                | bad => simp only [h2] at hf; cases hf
                | exc k S => simp only [h2] at hf; cases hf
                | ok d1 S =>
                  simp only [h2] at hf
                  cases hf
                  exact wpAny_mono (hel c pins σ s1 s₂ _ _ A' E' m₂ d S I1 ok q hA h2).2 (fun y s3 ⟨r9, k9⟩ => ⟨⟨d0, d, hd0, hf0, r9⟩, k9⟩) fun _ _ e => e
    · intro ga h5 tk5 gs hgb hag hsz5 hk5 W5 hgat
      rw [← hlen] at W5 hgat
      obtain ⟨p1, p2⟩ := pass_get hg
      rw [p1] at W5
      refine hQ ga _ ⟨_, _, _, _, _, W5.in4_1, hgat, ?_, fun j' v hv => ?_, fun s' hm => ?_⟩
      · intro b hb
        show b < h5.objs.size
        have e5 : h5.objs.size = ga + 1 := hsz5
        have h8 : h3.objs.size < ga := hag
        rw [e5]
        rcases List.mem_cons.mp hb with z | z
        · rw [z]
          exact Nat.lt_succ_self ga
        · rcases List.mem_cons.mp z with z | z
          · rw [z]
            exact Nat.lt_succ_of_lt h8
          · have z2 := List.mem_range.mp z
            have h7 : b < h3.objs.size := z2
            exact Nat.lt_succ_of_lt (Nat.lt_trans h7 h8)
      · obtain ⟨i, hij, d0, d, hd0, hf, hr⟩ := hv
        obtain ⟨x', y', hx', hf', hy'⟩ := p2 j' i hij
        rw [hd0] at hx'
        cases hx'
        rw [hf] at hf'
        cases hf'
        exact ⟨d, hy', hr⟩
      · have nwr : ∀ b u, s1.heap.get? b = some u → b ∉ h3.objs.size :: [s1.heap.objs.size] := fun b u e hb => by
          have hl := Heap.lt_size e
          rcases List.mem_cons.mp hb with z | z
          · rw [z] at hl
            have h9 : (h3.objs.size : Nat) < s1.heap.objs.size := hl
            omega
          · rcases List.mem_cons.mp z with z | z
            · rw [z] at hl
              exact Nat.lt_irrefl _ hl
            · cases z
        refine gen_after (gpos := gpos) I1 ok hmT hu hP ht ha (fun b u hb e => hm.heap b u (nwr b u e) (hk5 b u (keep3 b u hb e))) (hm.heap P _ (nwr P _ hPs) (hk5 P _ hP3)) (AllBare.movedS (I1.bare.push hgb) hm) hm.os ?_
        rcases hmore with z | ⟨c', z, hc1, hc2, oc, vs', t, f1, f2, f3⟩
        · exact .inl z
        · refine .inr ⟨c', z, by omega, oc, vs', t, hm.heap c' oc (fun hb => ?_) (hk5 c' oc f1), f2, f3⟩
          rcases List.mem_cons.mp hb with z | z
          · rw [z] at hc2; exact Nat.lt_irrefl _ hc2
          · rcases List.mem_cons.mp z with z | z
            · rw [z] at hc1; omega
            · cases z
  refine ⟨lim2, ?_⟩
  cases hf : codeAmong gpos ps.toList with
  | none =>
    refine wpAny_genexprCodeX hcode (cd.code hP2 ht) (cd.tab hP2) hf fun c' h' tk hx hge hlt hco' hrec htab' _ => ?_
    obtain ⟨c2, oc, vs', t, e2, hoc, hd, hv⟩ := hrec
    cases e2
    exact cont _ h' tk _ hx (Nat.le_trans hge (Nat.le_of_lt hlt)) htab'.2 (.inr ⟨c', rfl, hge, hlt, oc, vs', t, hoc, hd, hv⟩)
  | some cv =>
    refine wpAny_genexprCode_hit hcode (cd.code hP2 ht) hf ?_
    exact cont cv (s1.heap.push o) s1.toks ps (Heap.ExtBut.refl _ _) (Nat.le_refl _) hP2 (.inl rfl)
theorem gSeq_bind {g : Gx} {E : XK} {c : Ct} {e : Sm.Env} {S : Store} {ma : ME} {β : Type} {R : β → Store → Prop} {k : List Sm.D → Store → Out β} (h : PostG g c E R ((gSeq ma e S).bind k)) :
    PostG g c E R ((ma e S).bind fun x S1 => match view S1 x with
      | .lst xs => k xs S1
      | .tup xs => k xs S1
      | _ => .bad) := by
  unfold gSeq at h
  cases q : ma e S with
  | bad => rw [q] at h; exact h
  | exc j S => rw [q] at h; exact h
  | ok x S1 =>
    rw [q] at h
    have h' : PostG g c E R ((match view S1 x with
      | .lst xs => .ok xs S1
      | .tup xs => .ok xs S1
      | _ => .bad : Out (List Sm.D)).bind k) := h
    show PostG g c E R (match view S1 x with
      | .lst xs => k xs S1
      | .tup xs => k xs S1
      | _ => .bad)
    revert h'
    cases view S1 x <;> exact id
theorem gen_seq1 {g : Gx} {X : Cx} {E : XK} {k : Nat} {pins : List (Addr × Obj)} {σ : L2.St} {c : Ct} {e : Sm.Env} {s : Shared} {elt iter : Expr} {ifs : List Expr} {scope : Scope} {x : Str} {j : Nat} {px gpos : Pos} {cA P : Addr} {ma me : ME} {mt : MB} {Q' : Value → Shared → Prop} {β : Type} {R : β → Store → Prop} {h : List Sm.D → Store → Out β}
    (hr : Room k X.A) (TB : LamX.TabB X.base X.mg cA P) (hcode : X.env.code = .ref cA) (hmT : (P, X.env.qual ++ "<genexpr>") ∈ g.tabs) (hu : ∀ p ∈ g.tabs, p.1 = P → p.2 = X.env.qual ++ "<genexpr>") (S : GenOk X.N X.env.scope scope [(x, j)]) (hi : ES g X E iter ma) (hel : QE g X scope [(x, j)] elt me) (hif : QI g X scope [(x, j)] ifs mt)
    (hs : ∀ v, genFold iter X.env v = pure v) (I : Inv X pins σ c.H s) (ok : Ok g c) (er : EnvR c e σ) (hp : PostG g c E R ((gSeq ma e c.S).bind fun p S1 => match genL (turnG (gN j) mt me e S1) p with
      | some ys => h ys S1
      | none => .bad))
    (hQ : ∀ c1 ys ga s5, Ok g c1 → Le c c1 → RsE c1 c → PostG g c1 E R (h ys c1.S) → ReadyG g X pins σ c1 ys ga s5 → Q' (.ref ga) s5) :
    wpAny (model X.prog X.w) X.A (eval (.GeneratorExp elt [⟨.Name x px, iter, ifs, 0⟩] scope gpos) X.env) Q' X.xe s := by
  obtain ⟨hxl, hxN⟩ := S.loc (x, j) List.mem_cons_self
  obtain ⟨ti, pi, si⟩ := hi
  refine wpAny_GeneratorExp_walksQ hr.hd S.co (closure_ok fun y hy e => (S.free y hy e).elim (fun k => I.ok.has _ (.inl k)) fun k => I.ok.has _ (.inr k)) S.nocell S.dot hxl S.kind (by have := hr.dp; omega) ?_ hs
  refine thn (pi.run pins s σ c.H (fun v H1 => ∃ c1 d, c1.H = H1 ∧ Ok g c1 ∧ Le c c1 ∧ RsE c1 c ∧ Rep c1 d v ∧ PostG g c1 E R (match view c1.S d with
      | .lst xs => (match genL (turnG (gN j) mt me e c1.S) xs with
        | some ys => h ys c1.S
        | none => .bad)
      | .tup xs => (match genL (turnG (gN j) mt me e c1.S) xs with
        | some ys => h ys c1.S
        | none => .bad)
      | _ => .bad)) I (bindE (R := R) si ok er (gSeq_bind hp) fun c1 d v ok1 l1 r1 rx hp1 => ⟨c1, d, rfl, ok1, l1, r1, rx, hp1⟩)) fun xv s1 ⟨v, H1, I1, r1, c1, d, e1, ok1, l1, re1, rd, hp1⟩ => ?_
  subst e1
  have hP : ∃ ps, c1.H P = some (.tbl ps) := let ⟨ps, h, _⟩ := ok1.tabs _ hmT; ⟨ps, h⟩
  obtain ⟨ps, hP⟩ := hP
  have hPs : s1.heap.get? P = some { cls := .none, data := .fields ps } := I1.hok P _ hP
  have hPlt : P < s1.heap.objs.size := Heap.lt_size hPs
  split at hp1
  · rename_i xs ex
    obtain ⟨a, its, vs, rfl, rv, rl, pl, hz⟩ := seeL I1 ok1 (fun _ _ _ h _ _ => h) ⟨v, rd, r1⟩ ex
    cases hg : genL (turnG (gN j) mt me e c1.S) xs with
    | none => rw [hg] at hp1; exact hp1.elim
    | some ys =>
      rw [hg] at hp1
      have hIL := pl.isList
      have hat : a < s1.heap.objs.size := let ⟨_, e, _⟩ := hIL; Heap.lt_size e
      have haP : ∀ ps, s1.heap.get? a ≠ some { cls := .none, data := .fields ps } := fun ps z => by
        obtain ⟨o, n, e1, e2, _⟩ := pl
        rw [z] at e1
        cases e1
        cases e2
      have haNe : a ≠ P := fun z => haP ps (by rw [z]; exact hPs)
      refine wpAny_pyIter_list hIL ?_
      refine gen_core1 (a := a) (St := fun i h => h.IsListIter s1.heap.objs.size a i ∧ h.IsList a its.toArray) TB hcode hmT hu S hel hif I1 ok1 (er.mono l1) rv rl hat haP (fun A' hA => Walks.list hA _ _ (Nat.ne_of_lt hat) _) (fun hh hk => ⟨?_, ?_⟩) hg fun ga s5 hrdy => hQ c1 ys ga s5 ok1 l1 re1 hp1 hrdy
      · exact ⟨_, hk _ _ (Nat.ne_of_gt hPlt) (Heap.get?_push_size _ rfl), rfl, rfl⟩
      · obtain ⟨o, e1, e2⟩ := hIL
        exact ⟨o, hk _ _ haNe (Heap.get?_push_of_some _ e1), e2⟩
  · rename_i xs ex
    obtain ⟨a, its, vs, rfl, rv, rl, pl, hz⟩ := seeT I1 ok1 (fun _ _ _ h _ _ => h) ⟨v, rd, r1⟩ ex
    cases hg : genL (turnG (gN j) mt me e c1.S) xs with
    | none => rw [hg] at hp1; exact hp1.elim
    | some ys =>
      rw [hg] at hp1
      have hIL : s1.heap.IsTuple a its.toArray := pl
      have hat : a < s1.heap.objs.size := let ⟨_, e, _⟩ := hIL; Heap.lt_size e
      have haP : ∀ ps, s1.heap.get? a ≠ some { cls := .none, data := .fields ps } := fun ps z => by
        obtain ⟨o, e1, e2, _⟩ := pl
        rw [z] at e1
        cases e1
        cases e2
      have haNe : a ≠ P := fun z => haP ps (by rw [z]; exact hPs)
      refine wpAny_pyIter_tuple hIL ?_
      refine gen_core1 (a := a) (St := fun i h => h.IsTupleIter s1.heap.objs.size a i ∧ h.IsTuple a its.toArray) TB hcode hmT hu S hel hif I1 ok1 (er.mono l1) rv rl hat haP (fun A' hA => Walks.tuple hA _ _ (Nat.ne_of_lt hat) _) (fun hh hk => ⟨?_, ?_⟩) hg fun ga s5 hrdy => hQ c1 ys ga s5 ok1 l1 re1 hp1 hrdy
      · exact ⟨_, hk _ _ (Nat.ne_of_gt hPlt) (Heap.get?_push_size _ rfl), rfl, rfl⟩
      · obtain ⟨o, e1, e2⟩ := hIL
        exact ⟨o, hk _ _ haNe (Heap.get?_push_of_some _ e1), e2⟩
  · exact hp1.elim
theorem turnG_pair {ja jb : Nat} {mt : MB} {me : ME} {e : Sm.Env} {S : Store} {da db : Sm.D} : turnG (gT [gN ja, gN jb]) mt me e S (.tup [da, db]) = match mt ((e.set ja (some da)).set jb (some db)) S with
  | .ok true _ => match me ((e.set ja (some da)).set jb (some db)) S with
    | .ok y _ => some (some y)
    | _ => none
  | .ok false _ => some none
  | _ => none := rfl
theorem gen_core2 {g : Gx} {X : Cx} {pins : List (Addr × Obj)} {σ : L2.St} {c : Ct} {e : Sm.Env} {s1 : Shared} {elt : Expr} {ifs : List Expr} {scope : Scope} {xa xb : Str} {ja jb : Nat} {gpos : Pos} {cA P : Addr} {me : ME} {mt : MB} {Q' : Value → Shared → Prop} {ds ys : List Sm.D} {h₁ : Heap} {It : Addr} {fp wr : List Addr} {n₀ : Nat} {Pt : Nat → Array Value → Prop} {St : Nat → Heap → Prop} {Mid : Nat → Addr → Heap → Prop}
    (TB : LamX.TabB X.base X.mg cA P) (hcode : X.env.code = .ref cA) (hmT : (P, X.env.qual ++ "<genexpr>") ∈ g.tabs) (hu : ∀ p ∈ g.tabs, p.1 = P → p.2 = X.env.qual ++ "<genexpr>") (S : GenOk X.N X.env.scope scope [(xa, ja), (xb, jb)]) (hel : QE g X scope [(xa, ja), (xb, jb)] elt me) (hif : QI g X scope [(xa, ja), (xb, jb)] ifs mt)
    (I1 : Inv X pins σ c.H s1) (ok : Ok g c) (er : EnvR c e σ) (hk1 : ∀ b o, s1.heap.get? b = some o → h₁.get? b = some o) (hsz1 : (s1.heap.objs.size : Nat) ≤ h₁.objs.size) (hfp : ∀ b ∈ fp, b < h₁.objs.size) (hwr : ∀ b ∈ wr, (s1.heap.objs.size : Nat) ≤ b) (hfp' : ∀ b ∈ wr, b < h₁.objs.size) (hab : xa ≠ xb) (hj : ja ≠ jb) (hn : ds.length = n₀) (hsz2 : ∀ i vals, Pt i vals → ∃ va vb, vals = #[va, vb]) (hPt : ∀ i va vb, Pt i #[va, vb] → ∃ da db, ds[i]? = some (.tup [da, db]) ∧ RepU c da va ∧ RepU c db vb)
    (hW : ∀ A' : Around, A'.handled = none → WalksU X.prog X.w A' It fp wr n₀ Pt St Mid)
    (hSt : ∀ h : Heap, (∀ b u, b ≠ P → h₁.get? b = some u → h.get? b = some u) → St 0 h) (hg : genL (turnG (gT [gN ja, gN jb]) mt me e c.S) ds = some ys) (hQ : ∀ ga s5, ReadyG g X pins σ c ys ga s5 → Q' (.ref ga) s5) :
    ({ s1 with heap := h₁ } : Shared).heap.NoLimit ∧ wpAny (model X.prog X.w) X.A (genexprCode X.env gpos (X.env.qual ++ "<genexpr>") scope) (fun code s₃ => wpAny (model X.prog X.w) X.A (builtinsFor X.env.globals X.env.builtins) (fun bi s₄ =>
        ∃ Ia fp wr n₀ Pf St₀ Mid pz F, Value.ref It = .ref Ia ∧ (∀ A' : Around, A'.handled = none → WalksU X.prog X.w A' Ia fp wr n₀ Pf St₀ Mid) ∧ (∀ i vals, Pf i vals → ∃ va vb, vals = #[va, vb]) ∧ St₀ 0 s₄.heap ∧ (∀ b ∈ fp, b < s₄.heap.objs.size) ∧ s₄.heap.NoLimit ∧ cStatics ∉ wr ∧
          (∀ href : Heap, (∀ b o, s₄.heap.get? b = some o → href.get? b = some o) →
            QuietGenT X.prog X.w (genEnv scope (cloFrom X.env.cells scope.names []) s₄.heap.objs.size code bi X.env) xa xb ifs elt (List.range s₄.heap.objs.size) wr Pf pz F href) ∧
          (∀ a h₅ tk gs, gs.bare = true → s₄.heap.objs.size < a → h₅.objs.size = a + 1 → (∀ b o, s₄.heap.get? b = some o → h₅.get? b = some o) →
            WalksS X.prog X.w X.A.in4 a (a :: s₄.heap.objs.size :: List.range s₄.heap.objs.size) (s₄.heap.objs.size :: wr) (GenOnlyQ s₄.gens.size) (passing pz n₀ 0).length
              (fun j y => ∃ i, (passing pz n₀ 0)[j]? = some i ∧ F i y) (GenAt X.prog X.w X.A.in4 a s₄.gens.size s₄.heap.objs.size (List.range s₄.heap.objs.size) wr pz n₀ F) →
            GenAt X.prog X.w X.A.in4 a s₄.gens.size s₄.heap.objs.size (List.range s₄.heap.objs.size) wr pz n₀ F 0 { s₄ with gens := s₄.gens.push gs, toks := tk, heap := h₅ } →
            Q' (.ref a) { s₄ with gens := s₄.gens.push gs, toks := tk, heap := h₅ })) X.xe s₃) X.xe { s1 with heap := h₁ } := by
  obtain ⟨ps, hP, ht, ha⟩ := ok.tabs _ hmT
  have hPs : s1.heap.get? P = some { cls := .none, data := .fields ps } := I1.hok P _ hP
  have hPlt : P < s1.heap.objs.size := Heap.lt_size hPs
  have hP2 : h₁.get? P = some { cls := .none, data := .fields ps } := hk1 _ _ hPs
  have cd : PySem.W.CodeHd h₁ cA P := TB.code.keeps fun b u e => hk1 _ _ (I1.bk b u e)
  have lim2 : h₁.NoLimit := I1.nolimit.keeps hk1
  obtain ⟨hxl, hxN⟩ := S.loc (xa, ja) List.mem_cons_self
  obtain ⟨hxl2, hxN2⟩ := S.loc (xb, jb) (List.mem_cons_of_mem _ List.mem_cons_self)
  have hjlt : ja < e.length := by
    rw [er.1, I1.len]
    exact (List.getElem?_eq_some_iff.mp hxN).1
  have hjlt2 : jb < e.length := by
    rw [er.1, I1.len]
    exact (List.getElem?_eq_some_iff.mp hxN2).1
  have cont : ∀ (code : Value) (h3 : Heap) (tk : Nat) (ps' : Array Value), Heap.ExtBut P h₁ h3 → h₁.objs.size ≤ h3.objs.size → h3.get? P = some { cls := .none, data := .fields ps' } →
      (ps' = ps ∨ ∃ c', ps' = ps ++ #[rawInt gpos.line, rawInt gpos.col, .ref c'] ∧ h₁.objs.size ≤ c' ∧ c' < h3.objs.size ∧ ∃ (oc : Obj) (vs : Array Value) (t : Tok), h3.get? c' = some oc ∧ oc.data = .fields vs ∧ vs[1]? = some (.str (X.env.qual ++ "<genexpr>") t)) →
      wpAny (model X.prog X.w) X.A (builtinsFor X.env.globals X.env.builtins) (fun bi s₄ =>
        ∃ Ia fp wr n₀ Pf St₀ Mid pz F, Value.ref It = .ref Ia ∧ (∀ A' : Around, A'.handled = none → WalksU X.prog X.w A' Ia fp wr n₀ Pf St₀ Mid) ∧ (∀ i vals, Pf i vals → ∃ va vb, vals = #[va, vb]) ∧ St₀ 0 s₄.heap ∧ (∀ b ∈ fp, b < s₄.heap.objs.size) ∧ s₄.heap.NoLimit ∧ cStatics ∉ wr ∧
          (∀ href : Heap, (∀ b o, s₄.heap.get? b = some o → href.get? b = some o) →
            QuietGenT X.prog X.w (genEnv scope (cloFrom X.env.cells scope.names []) s₄.heap.objs.size code bi X.env) xa xb ifs elt (List.range s₄.heap.objs.size) wr Pf pz F href) ∧
          (∀ a h₅ tk gs, gs.bare = true → s₄.heap.objs.size < a → h₅.objs.size = a + 1 → (∀ b o, s₄.heap.get? b = some o → h₅.get? b = some o) →
            WalksS X.prog X.w X.A.in4 a (a :: s₄.heap.objs.size :: List.range s₄.heap.objs.size) (s₄.heap.objs.size :: wr) (GenOnlyQ s₄.gens.size) (passing pz n₀ 0).length
              (fun j y => ∃ i, (passing pz n₀ 0)[j]? = some i ∧ F i y) (GenAt X.prog X.w X.A.in4 a s₄.gens.size s₄.heap.objs.size (List.range s₄.heap.objs.size) wr pz n₀ F) →
            GenAt X.prog X.w X.A.in4 a s₄.gens.size s₄.heap.objs.size (List.range s₄.heap.objs.size) wr pz n₀ F 0 { s₄ with gens := s₄.gens.push gs, toks := tk, heap := h₅ } →
            Q' (.ref a) { s₄ with gens := s₄.gens.push gs, toks := tk, heap := h₅ })) X.xe { s1 with heap := h3, toks := tk } := by
    intro code h3 tk ps' hx hsz hP3 hmore
    obtain ⟨bm, ob, e1, e2, e3, e4, e5, e6, e7, e8⟩ := TB.bm
    have hcP : cStatics ≠ P := fun e => by
      obtain ⟨_, hns, _⟩ := I1.nolimit
      obtain ⟨o', es, ep, ho, hd, _⟩ := hns
      rw [e, hPs] at ho
      cases ho
      cases hd
    have hcl : cStatics < s1.heap.objs.size := let ⟨_, hns, _⟩ := I1.nolimit; hns.lt
    have keep3 : ∀ b u, b ≠ P → s1.heap.get? b = some u → h3.get? b = some u := fun b u hb e => hx b u hb (hk1 _ _ e)
    refine wpAny_builtinsFor (m := X.mg) (by rw [I1.ok.glob]; exact ((I1.mod.glob.keeps I1.bk).keeps hk1).extBut hx TB.gP) e1 e2 (keep3 _ _ e4 (I1.bk _ _ e5)) e6 e7 e8 ?_
    refine ⟨It, fp, wr, n₀, Pt, St, Mid, pzOf (turnG (gT [gN ja, gN jb]) mt me e c.S) ds,
      (fun i y => ∃ d0 d, ds[i]? = some d0 ∧ turnG (gT [gN ja, gN jb]) mt me e c.S d0 = some (some d) ∧ RepU c d y), rfl, hW, hsz2, hSt h3 (fun b u hb e => hx b u hb e), fun b hb => Nat.lt_of_lt_of_le (hfp b hb) hsz, lim2.extBut hx hcP, fun z => Nat.lt_irrefl _ (Nat.lt_of_lt_of_le hcl (hwr _ z)), ?_, ?_⟩
    · intro href hhref
      have kp2 : ∀ {s₂ : Shared}, (∀ b ∈ List.range h3.objs.size, b ∉ wr → ∀ o, href.get? b = some o → s₂.heap.get? b = some o) → ∀ b u, b ≠ P → s1.heap.get? b = some u → s₂.heap.get? b = some u := fun {s₂} hk b u hb e1 => by
        have hlt := Heap.lt_size e1
        exact hk b (List.mem_range.mpr (Nat.lt_of_lt_of_le hlt (Nat.le_trans hsz1 hsz))) (fun z => Nat.lt_irrefl _ (Nat.lt_of_lt_of_le hlt (hwr b z))) u (hhref _ _ (keep3 b u hb e1))
      have place : ∀ {s₂ : Shared} {m₂ : Str → Option Value} {i : Nat} {va vb : Value} {da db : Sm.D}, s₂.heap.Ns (genEnv scope (cloFrom X.env.cells scope.names []) h3.objs.size code builtinsNs X.env).locals m₂ → m₂ xa = some va → m₂ xb = some vb → RepU c da va → RepU c db vb →
          (∀ b ∈ List.range h3.objs.size, b ∉ wr → ∀ o, href.get? b = some o → s₂.heap.get? b = some o) → Qp X c [(xa, ja), (xb, jb)] scope ((e.set ja (some da)).set jb (some db)) (genEnv scope (cloFrom X.env.cells scope.names []) h3.objs.size code builtinsNs X.env) s1 s₂ m₂ := fun {s₂ m₂ i va vb da db} hn hm hm2 hr hr2 hk =>
        qp_make (g := g) I1 er S rfl rfl hn (fun p hp => by
          rcases List.mem_cons.mp hp with z | z
          · subst z
            exact ⟨da, va, by rw [List.getElem?_set_ne (Ne.symm hj), List.getElem?_set_self hjlt], hm, hr⟩
          · rcases List.mem_cons.mp z with z | z
            · subst z
              exact ⟨db, vb, List.getElem?_set_self (by rw [List.length_set]; exact hjlt2), hm2, hr2⟩
            · cases z) (fun i hi => by
          rw [List.getElem?_set_ne (fun z => hi (by rw [← z]; exact List.mem_cons_of_mem _ List.mem_cons_self)), List.getElem?_set_ne (fun z => hi (by rw [← z]; exact List.mem_cons_self))]) hP (kp2 hk)
      refine ⟨fun A' E' i va vb s₂ m₂ hA hPv hn hm hm2 hk => ?_, fun A' E' i va vb s₂ m₂ hA hPv hp hn hm hm2 hk => ?_⟩
      · obtain ⟨da, db, hd0, hr0, hr1⟩ := hPt i va vb hPv
        obtain ⟨r, hr⟩ := genL_all hg i _ hd0
        have q := place (i := i) hn hm hm2 hr0 hr1 hk
        rw [turnG_pair] at hr
        cases h1 : mt ((e.set ja (some da)).set jb (some db)) c.S with
        | bad => simp only [h1] at hr; cases hr
        | exc k S => simp only [h1] at hr; cases hr
        | ok b S' =>
          refine wpAny_mono (qi_run hif (m₂ := m₂) I1 ok q hA h1).2 (fun y s3 ⟨e9, k9⟩ => ⟨?_, k9⟩) fun _ _ e => e
          subst e9
          unfold pzOf
          simp only [hd0, turnG_pair, h1]
          cases y with
          | false => rfl
          | true =>
            simp only [h1] at hr
            cases h2 : me ((e.set ja (some da)).set jb (some db)) c.S with
            | bad => simp only [h2] at hr; cases hr
            | exc k S => simp only [h2] at hr; cases hr
            | ok d S => simp only [h2]
      · obtain ⟨da, db, hd0, hr0, hr1⟩ := hPt i va vb hPv
        have q := place (i := i) hn hm hm2 hr0 hr1 hk
        unfold pzOf at hp
        simp only [hd0] at hp
        cases hf : turnG (gT [gN ja, gN jb]) mt me e c.S (.tup [da, db]) with
        | none => rw [hf] at hp; cases hp
        | some r =>
          cases r with
          | none => rw [hf] at hp; cases hp
          | some d =>
            have hf0 := hf
            rw [turnG_pair] at hf
            cases h1 : mt ((e.set ja (some da)).set jb (some db)) c.S with
            | bad => simp only [h1] at hf; cases hf
            | exc k S => simp only [h1] at hf; cases hf
            | ok b S' =>
              cases b with
              | false => simp only [h1] at hf; cases hf
              | true =>
                simp only [h1] at hf
                cases h2 : me ((e.set ja (some da)).set jb (some db)) c.S with
                | bad => simp only [h2] at hf; cases hf
                | exc k S => simp only [h2] at hf; cases hf
                | ok d1 S =>
                  simp only [h2] at hf
                  cases hf
                  exact wpAny_mono (hel c pins σ s1 s₂ _ _ A' E' m₂ d S I1 ok q hA h2).2 (fun y s3 ⟨r9, k9⟩ => ⟨⟨_, d, hd0, hf0, r9⟩, k9⟩) fun _ _ e => e
    · intro ga h5 tk5 gs hgb hag hsz5 hk5 W5 hgat
      rw [← hn] at W5 hgat
      obtain ⟨p1, p2⟩ := pass_get hg
      rw [p1] at W5
      refine hQ ga _ ⟨_, _, _, _, _, W5.in4_1, hgat, ?_, fun j' v hv => ?_, fun s' hm => ?_⟩
      · intro b hb
        show b < h5.objs.size
        have e5 : h5.objs.size = ga + 1 := hsz5
        have h8 : h3.objs.size < ga := hag
        rw [e5]
        rcases List.mem_cons.mp hb with z | z
        · rw [z]
          exact Nat.lt_succ_self ga
        · rcases List.mem_cons.mp z with z | z
          · rw [z]
            exact Nat.lt_succ_of_lt h8
          · have z2 := List.mem_range.mp z
            have h7 : b < h3.objs.size := z2
            exact Nat.lt_succ_of_lt (Nat.lt_trans h7 h8)
      · obtain ⟨i, hij, d0, d, hd0, hf, hr⟩ := hv
        obtain ⟨x', y', hx', hf', hy'⟩ := p2 j' i hij
        rw [hd0] at hx'
        cases hx'
        rw [hf] at hf'
        cases hf'
        exact ⟨d, hy', hr⟩
      · have nwr : ∀ b u, s1.heap.get? b = some u → b ∉ h3.objs.size :: wr := fun b u e hb => by
          have hl := Heap.lt_size e
          rcases List.mem_cons.mp hb with z | z
          · rw [z] at hl
            have h9 : (h3.objs.size : Nat) < s1.heap.objs.size := hl
            omega
          · exact Nat.lt_irrefl _ (Nat.lt_of_lt_of_le hl (hwr b z))
        refine gen_after (gpos := gpos) I1 ok hmT hu hP ht ha (fun b u hb e => hm.heap b u (nwr b u e) (hk5 b u (keep3 b u hb e))) (hm.heap P _ (nwr P _ hPs) (hk5 P _ hP3)) (AllBare.movedS (I1.bare.push hgb) hm) hm.os ?_
        rcases hmore with z | ⟨c', z, hc1, hc2, oc, vs', t, f1, f2, f3⟩
        · exact .inl z
        · refine .inr ⟨c', z, Nat.le_trans hsz1 hc1, oc, vs', t, hm.heap c' oc (fun hb => ?_) (hk5 c' oc f1), f2, f3⟩
          rcases List.mem_cons.mp hb with z | z
          · rw [z] at hc2; exact Nat.lt_irrefl _ hc2
          · exact Nat.lt_irrefl _ (Nat.lt_of_lt_of_le (hfp' c' z) hc1)
  refine ⟨lim2, ?_⟩
  cases hf : codeAmong gpos ps.toList with
  | none =>
    refine wpAny_genexprCodeX hcode (cd.code hP2 ht) (cd.tab hP2) hf fun c' h' tk hx hge hlt hco' hrec htab' _ => ?_
    obtain ⟨c2, oc, vs', t, e2, hoc, hd, hv⟩ := hrec
    cases e2
    exact cont _ h' tk _ hx (Nat.le_trans hge (Nat.le_of_lt hlt)) htab'.2 (.inr ⟨c', rfl, hge, hlt, oc, vs', t, hoc, hd, hv⟩)
  | some cv =>
    refine wpAny_genexprCode_hit hcode (cd.code hP2 ht) hf ?_
    exact cont cv h₁ s1.toks ps (Heap.ExtBut.refl _ _) (Nat.le_refl _) hP2 (.inl rfl)
theorem zipD_at : ∀ {xs ys : List Sm.D} {i : Nat} {x y : Sm.D}, xs[i]? = some x → ys[i]? = some y → (zipD xs ys)[i]? = some (.tup [x, y])
  | [], _, _, _, _, h, _ => by simp at h
  | _ :: _, [], _, _, _, _, h => by simp at h
  | a :: xs, b :: ys, 0, x, y, h, h2 => by
    have e1 : a = x := by simpa using h
    have e2 : b = y := by simpa using h2
    subst e1 e2
    simp [zipD]
  | a :: xs, b :: ys, i + 1, x, y, h, h2 => by
    have := zipD_at (xs := xs) (ys := ys) (i := i) (by simpa using h) (by simpa using h2)
    simpa [zipD] using this
end Sm
end

section
set_option Elab.async false
set_option linter.all false
set_option autoImplicit false
set_option maxRecDepth 100000
set_option maxHeartbeats 4000000
namespace Sm
open PySem PySem.Spec PyProof.Rows L2
/-- a generator expression: what it gives, and it is ready -/
def GenJ (g : Gx) (X : Cx) (E : XK) (ge : Expr) (mw : MW) : Prop :=
  ∀ (pins : List (Addr × Obj)) (σ : L2.St) (c : Ct) (e : Sm.Env) (s : Shared) (β : Type) (R : β → Store → Prop) (h : List Sm.D → Store → Out β) (Q' : Value → Shared → Prop), Inv X pins σ c.H s → Ok g c → EnvR c e σ → PostG g c E R ((mw e c.S).bind h) →
    (∀ c1 ys ga s5, Ok g c1 → Le c c1 → RsE c1 c → PostG g c1 E R (h ys c1.S) → ReadyG g X pins σ c1 ys ga s5 → Q' (.ref ga) s5) → wpAny (model X.prog X.w) X.A (eval ge X.env) Q' X.xe s
theorem mGen_bind {g : Gx} {E : XK} {c : Ct} {e : Sm.Env} {S : Store} {it : MW} {mg : MG} {mt : MB} {me : ME} {β : Type} {R : β → Store → Prop} {h : List Sm.D → Store → Out β} (hp : PostG g c E R ((mGen it mg mt me e S).bind h)) :
    PostG g c E R ((it e S).bind fun p S1 => match genL (turnG mg mt me e S1) p with
      | some ys => h ys S1
      | none => .bad) := by
  unfold mGen at hp
  cases q : it e S with
  | bad => rw [q] at hp; exact hp
  | exc j S => rw [q] at hp; exact hp
  | ok p S1 =>
    rw [q] at hp
    have h' : PostG g c E R ((match genL (turnG mg mt me e S1) p with
      | some ys => .ok ys S1
      | none => .bad : Out (List Sm.D)).bind h) := hp
    show PostG g c E R (match genL (turnG mg mt me e S1) p with
      | some ys => h ys S1
      | none => .bad)
    revert h'
    cases genL (turnG mg mt me e S1) p <;> exact id
section
variable {g : Gx} {X : Cx} {E : XK}
/-- for x in a list or tuple -/
theorem gj_seq {k : Nat} {elt iter : Expr} {ifs : List Expr} {scope : Scope} {x : Str} {j : Nat} {px gpos : Pos} {cA P : Addr} {ma me : ME} {mt : MB} (hr : Room k X.A) (TB : LamX.TabB X.base X.mg cA P) (hcode : X.env.code = .ref cA) (hmT : (P, X.env.qual ++ "<genexpr>") ∈ g.tabs) (hu : ∀ p ∈ g.tabs, p.1 = P → p.2 = X.env.qual ++ "<genexpr>")
    (S : GenOk X.N X.env.scope scope [(x, j)]) (hi : ES g X E iter ma) (hel : QE g X scope [(x, j)] elt me) (hif : QI g X scope [(x, j)] ifs mt) (hs : ∀ v, genFold iter X.env v = pure v := by intro _; rfl) : GenJ g X E (.GeneratorExp elt [⟨.Name x px, iter, ifs, 0⟩] scope gpos) (mGen (gSeq ma) (gN j) mt me) :=
  fun pins σ c e s β R h Q' I ok er hp hQ => gen_seq1 hr TB hcode hmT hu S hi hel hif hs I ok er (mGen_bind hp) hQ
theorem gZip_bind {c : Ct} {e : Sm.Env} {S : Store} {ma : MA} {β : Type} {R : β → Store → Prop} {k : List Sm.D → Store → Out β} (h : PostG g c E R ((gZip ma e S).bind k)) :
    PostG g c E R ((ma e S).bind fun ds S1 => match ds with
      | [a, b] => (match view S1 a, view S1 b with
        | .lst xs, .lst ys => k (zipD xs ys) S1
        | _, _ => .bad)
      | _ => .bad) := by
  unfold gZip at h
  cases q : ma e S with
  | bad => rw [q] at h; exact h
  | exc j S => rw [q] at h; exact h
  | ok ds S1 =>
    rw [q] at h
    have h' : PostG g c E R ((match (generalizing := false) ds with
      | [a, b] => (match view S1 a, view S1 b with
        | .lst xs, .lst ys => .ok (zipD xs ys) S1
        | _, _ => .bad)
      | _ => .bad : Out (List Sm.D)).bind k) := h
    show PostG g c E R (match (generalizing := false) ds with
      | [a, b] => (match view S1 a, view S1 b with
        | .lst xs, .lst ys => k (zipD xs ys) S1
        | _, _ => .bad)
      | _ => .bad)
    revert h'
    split
    · split <;> exact id
    · exact id
/-- for a, b in zip(xs, ys) -/
theorem gj_zip {k : Nat} {elt e1 e2 : Expr} {ifs : List Expr} {scope : Scope} {xa xb : Str} {ja jb : Nat} {pa pb pt gpos p zpos : Pos} {kt : Nat} {cA P : Addr} {ma : MA} {me : ME} {mt : MB} (hr : Room k X.A) (TB : LamX.TabB X.base X.mg cA P) (hcode : X.env.code = .ref cA) (hmT : (P, X.env.qual ++ "<genexpr>") ∈ g.tabs) (hu : ∀ p ∈ g.tabs, p.1 = P → p.2 = X.env.qual ++ "<genexpr>")
    (S : GenOk X.N X.env.scope scope [(xa, ja), (xb, jb)]) (hab : xa ≠ xb) (hj : ja ≠ jb) (hm : X.mg "zip" = none) (hi : AS g X E [e1, e2] ma) (hel : QE g X scope [(xa, ja), (xb, jb)] elt me) (hif : QI g X scope [(xa, ja), (xb, jb)] ifs mt)
    (hg : Gl X "zip" := by rfl) (hs1 : starEach [e1, e2] X.env = (false, eval e1 X.env) :: starEach [e2] X.env := by rfl) (hpl : (backTo zpos (starEach [e2] X.env)).any (·.1) = false := by rfl) (hs : ∀ v, genFold (.Call (.Name "zip" p) [e1, e2] [] zpos) X.env v = pure v := by intro _; rfl) :
    GenJ g X E (.GeneratorExp elt [⟨.Tuple [.Name xa pa, .Name xb pb] kt pt, .Call (.Name "zip" p) [e1, e2] [] zpos, ifs, 0⟩] scope gpos) (mGen (gZip ma) (gT [gN ja, gN jb]) mt me) :=
  fun pins σ c e s β R h Q' I ok er hp hQ => by
    obtain ⟨hxl, hxN⟩ := S.loc (xa, ja) List.mem_cons_self
    obtain ⟨hxl2, hxN2⟩ := S.loc (xb, jb) (List.mem_cons_of_mem _ List.mem_cons_self)
    obtain ⟨ti, pi, si, _⟩ := hi
    refine wpAny_GeneratorExp_walksQT hr.hd S.co (closure_ok fun y hy e => (S.free y hy e).elim (fun k => I.ok.has _ (.inl k)) fun k => I.ok.has _ (.inr k)) S.nocell S.dot hxl hxl2 hab S.kind (by have := hr.dp; omega) ?_ hs
    refine Call_ (ld_blt I hg hm PyProof.Rows.boot_zip (PyProof.Rows.callWith_type1 (thn (pi.run zpos pins s σ c.H (fun vs H1 => ∃ c1 ds, c1.H = H1 ∧ Ok g c1 ∧ Le c c1 ∧ RsE c1 c ∧ RepL c1 ds vs ∧ PostG g c1 E R (match ds with
      | [a, b] => (match view c1.S a, view c1.S b with
        | .lst xs, .lst ys => (match genL (turnG (gT [gN ja, gN jb]) mt me e c1.S) (zipD xs ys) with
          | some ys => h ys c1.S
          | none => .bad)
        | _, _ => .bad)
      | _ => .bad)) I (bindA (R := R) si ok er (gZip_bind (mGen_bind hp)) fun c1 d v ok1 l1 r1 rx hp1 => ⟨c1, d, rfl, ok1, l1, r1, rx, hp1⟩)) fun us s1 ⟨vs, H1, I1, r1, c1, ds, ec, ok1, l1, re1, rd, hp1⟩ => ?_) hs1 hpl))
    subst ec
    split at hp1
    · rename_i a b
      split at hp1
      · rename_i xs ys ex ey
        obtain ⟨v, u, rfl, rv, ru⟩ := rep2 rd
        cases r1 with
        | cons q1 qq =>
          cases qq with
          | cons q2 qq =>
            cases qq
            rename_i w1 w2
            obtain ⟨aL, its, vs1, rfl, rv1, rl1, pl1, hz1⟩ := seeL I1 ok1 (fun _ _ _ h _ _ => h) ⟨v, rv, q1⟩ ex
            obtain ⟨bL, its2, vs2, rfl, rv2, rl2, pl2, hz2⟩ := seeL I1 ok1 (fun _ _ _ h _ _ => h) ⟨u, ru, q2⟩ ey
            cases hg2 : genL (turnG (gT [gN ja, gN jb]) mt me e c1.S) (zipD xs ys) with
            | none => rw [hg2] at hp1; exact hp1.elim
            | some zs =>
              rw [hg2] at hp1
              obtain ⟨ps, hP, _⟩ := ok1.tabs _ hmT
              have hPs : s1.heap.get? P = some { cls := .none, data := .fields ps } := I1.hok P _ hP
              have hPlt : P < s1.heap.objs.size := Heap.lt_size hPs
              have notP : ∀ {a : Addr} {its : Array Value}, PlainL s1.heap a its → a ≠ P := fun {a its} pl z => by
                obtain ⟨o, n, e1, e2, _⟩ := pl
                rw [z, hPs] at e1
                cases e1
                cases e2
              refine call_zip_2 pl1.isList pl2.isList fun h' hz hTI hTO h1 h2 hsz hk => wpAny_pyIter_zip hz ?_
              have lenZ : (zipD xs ys).length = min its.toArray.size its2.toArray.size := by
                rw [zipD_len, List.size_toArray, List.size_toArray, ← rv1.length, ← rv2.length, repL_len rl1, repL_len rl2]
              have leP : ∀ n : Nat, P ≠ s1.heap.objs.size + n := fun n z => by
                have := hPlt
                rw [z] at this
                exact absurd this (Nat.not_lt_of_le (Nat.le_add_right _ _))
              have leP0 : P ≠ s1.heap.objs.size := leP 0
              refine gen_core2 (h₁ := h') (n₀ := min its.toArray.size its2.toArray.size) TB hcode hmT hu S hel hif I1 ok1 (er.mono l1) hk (by omega) ?_ ?_ ?_ hab hj lenZ (fun i vals hv => ?_) (fun i va vb hv => ?_)
                (fun A' hA => (WalksT.zip2 hA _ _ _ _ _ aL bL (PySem.W.ktu_apart s1.heap.objs.size aL bL pl1.lt pl2.lt) its.toArray its2.toArray).toU) (fun hh hkk => ?_) hg2 fun ga s5 hrdy => hQ c1 zs ga s5 ok1 l1 re1 hp1 hrdy
              · intro b hb
                have e5 : (h'.objs.size : Nat) = s1.heap.objs.size + 5 := hsz
                simp only [List.mem_cons, List.mem_nil_iff, or_false] at hb
                have la := pl1.lt
                have lb := pl2.lt
                rcases hb with z | z | z | z | z | z | z
                all_goals
                  rw [z]
                  first
                    | exact (show (s1.heap.objs.size : Nat) + 4 < h'.objs.size by omega)
                    | exact (show (s1.heap.objs.size : Nat) + 2 < h'.objs.size by omega)
                    | exact (show (s1.heap.objs.size : Nat) + 3 < h'.objs.size by omega)
                    | exact (show (s1.heap.objs.size : Nat) < h'.objs.size by omega)
                    | exact (show (s1.heap.objs.size : Nat) + 1 < h'.objs.size by omega)
                    | exact Nat.lt_of_lt_of_le la (show (s1.heap.objs.size : Nat) ≤ h'.objs.size by omega)
                    | exact Nat.lt_of_lt_of_le lb (show (s1.heap.objs.size : Nat) ≤ h'.objs.size by omega)
              · intro b hb
                simp only [List.mem_cons, List.mem_nil_iff, or_false] at hb
                rcases hb with z | z | z | z
                all_goals
                  rw [z]
                  first
                    | exact Nat.le_add_right _ _
                    | exact Nat.le_refl _
              · intro b hb
                have e5 : (h'.objs.size : Nat) = s1.heap.objs.size + 5 := hsz
                simp only [List.mem_cons, List.mem_nil_iff, or_false] at hb
                rcases hb with z | z | z | z
                all_goals
                  rw [z]
                  first
                    | exact (show (s1.heap.objs.size : Nat) + 4 < h'.objs.size by omega)
                    | exact (show (s1.heap.objs.size : Nat) + 3 < h'.objs.size by omega)
                    | exact (show (s1.heap.objs.size : Nat) < h'.objs.size by omega)
                    | exact (show (s1.heap.objs.size : Nat) + 1 < h'.objs.size by omega)
              · obtain ⟨x, y, _, _, rfl⟩ := hv
                exact ⟨x, y, rfl⟩
              · obtain ⟨x, y, hx, hy, evs⟩ := hv
                have e1 : va = x ∧ vb = y := by simpa using evs
                obtain ⟨rfl, rfl⟩ := e1
                have hx2 : its[i]? = some va := by simpa using hx
                have hy2 : its2[i]? = some vb := by simpa using hy
                have ix : i < xs.length := by rw [← repL_len rl1, rv1.length]; exact (List.getElem?_eq_some_iff.mp hx2).1
                have iy : i < ys.length := by rw [← repL_len rl2, rv2.length]; exact (List.getElem?_eq_some_iff.mp hy2).1
                obtain ⟨w1, h3, h4⟩ := repL_get rl1 (List.getElem?_eq_getElem ix)
                obtain ⟨w2, h5, h6⟩ := repL_get rl2 (List.getElem?_eq_getElem iy)
                obtain ⟨t1, h7, h8⟩ := rv1.get h3
                obtain ⟨t2, h9, h10⟩ := rv2.get h5
                rw [hx2] at h7
                rw [hy2] at h9
                cases h7
                cases h9
                exact ⟨xs[i], ys[i], zipD_at (List.getElem?_eq_getElem ix) (List.getElem?_eq_getElem iy), ⟨w1, h4, h8⟩, w2, h6, h10⟩
              · exact ⟨hkk _ _ (leP 4).symm hz, hkk _ _ (leP 2).symm hTI, ⟨_, _, hkk _ _ (leP 3).symm hTO⟩, h1.at fun o e => hkk _ o leP0.symm e, h2.at fun o e => hkk _ o (leP 1).symm e,
                  let ⟨o, e1, e2⟩ := pl1.isList; ⟨o, hkk _ _ (notP pl1) (hk _ _ e1), e2⟩, let ⟨o, e1, e2⟩ := pl2.isList; ⟨o, hkk _ _ (notP pl2) (hk _ _ e1), e2⟩⟩
      · exact hp1.elim
    · exact hp1.elim
/-! ### any, all, sum -/
theorem boolsD_get : ∀ {ys : List Sm.D} {bs : List Bool}, boolsD ys = some bs → ys.length = bs.length ∧ ∀ (j : Nat) (d : Sm.D), ys[j]? = some d → ∃ b, bs[j]? = some b ∧ d = .bl b
  | [], bs, h => by cases h; exact ⟨rfl, fun j d e => by simp at e⟩
  | x :: xs, bs, h => by
    cases x <;> first | (cases h; done) | skip
    rename_i b
    unfold boolsD at h
    cases h2 : boolsD xs with
    | none => rw [h2] at h; cases h
    | some cs =>
      rw [h2] at h
      cases h
      obtain ⟨h3, h4⟩ := boolsD_get h2
      refine ⟨by rw [List.length_cons, List.length_cons, h3], fun j d e => ?_⟩
      cases j with
      | zero => exact ⟨b, rfl, by simpa using e.symm⟩
      | succ j => exact h4 j d (by simpa using e)
theorem range_any {bs : List Bool} : (List.range bs.length).any (fun j => bs[j]?.getD false) = bs.any id := by
  rw [Bool.eq_iff_iff, List.any_eq_true, List.any_eq_true]
  constructor
  · intro ⟨j, hj, h⟩
    have hj' := List.mem_range.mp hj
    rw [List.getElem?_eq_getElem hj'] at h
    exact ⟨bs[j], List.getElem_mem hj', h⟩
  · intro ⟨b, hb, h⟩
    obtain ⟨j, hj, e⟩ := List.getElem_of_mem hb
    exact ⟨j, List.mem_range.mpr hj, by rw [List.getElem?_eq_getElem hj, e]; exact h⟩
theorem range_all {bs : List Bool} : (List.range bs.length).all (fun j => bs[j]?.getD false) = bs.all id := by
  rw [Bool.eq_iff_iff, List.all_eq_true, List.all_eq_true]
  constructor
  · intro h b hb
    obtain ⟨j, hj, e⟩ := List.getElem_of_mem hb
    have q := h j (List.mem_range.mpr hj)
    rw [List.getElem?_eq_getElem hj, e] at q
    exact q
  · intro h j hj
    have hj' := List.mem_range.mp hj
    rw [List.getElem?_eq_getElem hj']
    exact h _ (List.getElem_mem hj')
theorem es_any {ge : Expr} {mw : MW} {p pos : Pos} (hm : X.mg "any" = none) (hg : Gl X "any" := by rfl) (he : starEach [ge] X.env = (false, eval ge X.env) :: starEach [] X.env := by rfl) : GenJ g X E ge mw → ES g X E (.Call (.Name "any" p) [ge] [] pos) (eAny mw) := fun hj => by
  refine ⟨fun σ H Q => ∃ c e, c.H = H ∧ Ok g c ∧ EnvR c e σ ∧ PostG g c E (WE g c Q) (eAny mw e c.S), ⟨fun pins s σ H Q I hh => ?_⟩, fun c σ e Q ok er hp => ⟨c, e, rfl, ok, er, hp⟩⟩
  obtain ⟨c, e, rfl, ok, er, hp⟩ := hh
  refine wpAny_Call_Name_kw (ld_blt I hg hm boot_any ?_)
  refine PyProof.Rows.callWith_builtin1 ?_ he (by rfl)
  rw [he]
  show wpAny _ _ (spliced ((false, eval ge X.env) :: backTo pos (starEach [] X.env))) _ _ s
  refine Calls.spliced_cons (hj pins σ c e s Sm.D (WE g c Q) _ _ I ok er hp fun c1 ys ga s5 ok1 l1 r1 hp1 hR => ?_)
  obtain ⟨fp, wr, G, F, St, W, hst, hlt, hF, hI⟩ := hR
  obtain ⟨z, hz, q⟩ := PostG.ofO (α := Sm.D) hp1
  cases hb : boolsD ys with
  | none => rw [hb] at hz; cases hz
  | some bs =>
    rw [hb] at hz
    cases hz
    obtain ⟨hl, hget⟩ := boolsD_get hb
    refine Calls.spliced_nil ?_
    refine call_any_walkS (W.self 0 _ _ _ hst ⟨ga, fp, wr, G, _, F, St, fun j => bs[j]?.getD false, rfl, W, hst, fun j y sj Qj Ej hy hQj => ?_, fun s' hmv => ?_⟩)
    · obtain ⟨d, hd, hr⟩ := hF j y hy
      obtain ⟨b, hb1, rfl⟩ := hget j d hd
      obtain rfl := repU_bl.mp hr
      have hQ2 : Qj (bs[j]?.getD false) sj := hQj
      rw [hb1] at hQ2
      exact wpAny_truthy_bool hQ2
    · obtain ⟨c2, J, ok2, l2, r2, s2⟩ := hI s' hmv
      rw [hl, range_any]
      exact ⟨.bl _, c2.H, J, rfl, (q : WE g c Q _ _) c2 _ ok2 (l1.trans l2) (r2.trans r1) s2 (rep_bl.mpr rfl)⟩
theorem es_all {ge : Expr} {mw : MW} {p pos : Pos} (hm : X.mg "all" = none) (hg : Gl X "all" := by rfl) (he : starEach [ge] X.env = (false, eval ge X.env) :: starEach [] X.env := by rfl) : GenJ g X E ge mw → ES g X E (.Call (.Name "all" p) [ge] [] pos) (eAll mw) := fun hj => by
  refine ⟨fun σ H Q => ∃ c e, c.H = H ∧ Ok g c ∧ EnvR c e σ ∧ PostG g c E (WE g c Q) (eAll mw e c.S), ⟨fun pins s σ H Q I hh => ?_⟩, fun c σ e Q ok er hp => ⟨c, e, rfl, ok, er, hp⟩⟩
  obtain ⟨c, e, rfl, ok, er, hp⟩ := hh
  refine wpAny_Call_Name_kw (ld_blt I hg hm (show bootBuiltins "all" = some (.builtin "all") by decide +kernel) ?_)
  refine PyProof.Rows.callWith_builtin1 ?_ he (by rfl)
  rw [he]
  show wpAny _ _ (spliced ((false, eval ge X.env) :: backTo pos (starEach [] X.env))) _ _ s
  refine Calls.spliced_cons (hj pins σ c e s Sm.D (WE g c Q) _ _ I ok er hp fun c1 ys ga s5 ok1 l1 r1 hp1 hR => ?_)
  obtain ⟨fp, wr, G, F, St, W, hst, hlt, hF, hI⟩ := hR
  obtain ⟨z, hz, q⟩ := PostG.ofO (α := Sm.D) hp1
  cases hb : boolsD ys with
  | none => rw [hb] at hz; cases hz
  | some bs =>
    rw [hb] at hz
    cases hz
    obtain ⟨hl, hget⟩ := boolsD_get hb
    refine Calls.spliced_nil ?_
    refine call_all_walkS (W.self 0 _ _ _ hst ⟨ga, fp, wr, G, _, F, St, fun j => bs[j]?.getD false, rfl, W, hst, fun j y sj Qj Ej hy hQj => ?_, fun s' hmv => ?_⟩)
    · obtain ⟨d, hd, hr⟩ := hF j y hy
      obtain ⟨b, hb1, rfl⟩ := hget j d hd
      obtain rfl := repU_bl.mp hr
      have hQ2 : Qj (bs[j]?.getD false) sj := hQj
      rw [hb1] at hQ2
      exact wpAny_truthy_bool hQ2
    · obtain ⟨c2, J, ok2, l2, r2, s2⟩ := hI s' hmv
      rw [hl, range_all]
      exact ⟨.bl _, c2.H, J, rfl, (q : WE g c Q _ _) c2 _ ok2 (l1.trans l2) (r2.trans r1) s2 (rep_bl.mpr rfl)⟩
theorem intsD_get : ∀ {ys : List Sm.D} {ns : List Int}, intsD ys = some ns → ys.length = ns.length ∧ ∀ (j : Nat) (d : Sm.D), ys[j]? = some d → ∃ i, ns[j]? = some i ∧ d = .int i
  | [], bs, h => by cases h; exact ⟨rfl, fun j d e => by simp at e⟩
  | x :: xs, bs, h => by
    cases x <;> first | (simp [intsD] at h; done) | skip
    rename_i b
    unfold intsD at h
    cases h2 : intsD xs with
    | none => rw [h2] at h; cases h
    | some cs =>
      rw [h2] at h
      cases h
      obtain ⟨h3, h4⟩ := intsD_get h2
      refine ⟨by rw [List.length_cons, List.length_cons, h3], fun j d e => ?_⟩
      cases j with
      | zero => exact ⟨b, rfl, by simpa using e.symm⟩
      | succ j => exact h4 j d (by simpa using e)
theorem sumI_app : ∀ (l r : List Int), sumI (l ++ r) = sumI l + sumI r
  | [], r => by simp [sumI]
  | x :: l, r => by
    show x + sumI (l ++ r) = x + sumI l + sumI r
    rw [sumI_app l r]; omega
theorem pre_take {ns : List Int} : ∀ {j : Nat}, j ≤ ns.length → preSum (fun j => ns[j]?.getD 0) j = sumI (ns.take j)
  | 0, _ => rfl
  | j + 1, h => by
    show preSum (fun j => ns[j]?.getD 0) j + ns[j]?.getD 0 = _
    rw [pre_take (Nat.le_of_succ_le h)]
    have e : ns.take (j + 1) = ns.take j ++ [ns[j]'(h)] := List.take_succ_eq_append_getElem h
    rw [e, sumI_app, List.getElem?_eq_getElem h]
    show _ + ns[j] = _ + (ns[j] + 0)
    omega
theorem fits_get : ∀ {ns : List Int} {a : Int}, fitsL a ns = true → ∀ (j : Nat) (h : j < ns.length), InLong ns[j] ∧ InLong (a + sumI (ns.take (j + 1)))
  | [], _, _, j, h => absurd h (Nat.not_lt_zero _)
  | n :: r, a, hf, j, h => by
    unfold fitsL at hf
    simp only [Bool.and_eq_true, decide_eq_true_eq] at hf
    obtain ⟨⟨h1, h2, h3, h4⟩, h5⟩ := hf
    cases j with
    | zero =>
      unfold InLong
      refine ⟨⟨by show _ ≤ n; omega, by show n < _; omega⟩, ?_⟩
      show _ ≤ a + (n + 0) ∧ a + (n + 0) < _
      omega
    | succ j =>
      obtain ⟨q1, q2⟩ := fits_get h5 j (by simpa using h)
      refine ⟨q1, ?_⟩
      have e : a + sumI ((n :: r).take (j + 1 + 1)) = a + n + sumI (r.take (j + 1)) := by
        show a + (n + sumI (r.take (j + 1))) = _
        omega
      rw [e]
      exact q2
theorem es_sum {ge : Expr} {mw : MW} {p pos : Pos} (hm : X.mg "sum" = none) (hg : Gl X "sum" := by rfl) (he : starEach [ge] X.env = (false, eval ge X.env) :: starEach [] X.env := by rfl) : GenJ g X E ge mw → ES g X E (.Call (.Name "sum" p) [ge] [] pos) (eSum mw) := fun hj => by
  refine ⟨fun σ H Q => ∃ c e, c.H = H ∧ Ok g c ∧ EnvR c e σ ∧ PostG g c E (WE g c Q) (eSum mw e c.S), ⟨fun pins s σ H Q I hh => ?_⟩, fun c σ e Q ok er hp => ⟨c, e, rfl, ok, er, hp⟩⟩
  obtain ⟨c, e, rfl, ok, er, hp⟩ := hh
  refine wpAny_Call_Name_kw (ld_blt I hg hm boot_sum ?_)
  refine PyProof.Rows.callWith_builtin1 ?_ he (by rfl)
  rw [he]
  show wpAny _ _ (spliced ((false, eval ge X.env) :: backTo pos (starEach [] X.env))) _ _ s
  refine Calls.spliced_cons (hj pins σ c e s Sm.D (WE g c Q) _ _ I ok er hp fun c1 ys ga s5 ok1 l1 r1 hp1 hR => ?_)
  obtain ⟨fp, wr, G, F, St, W, hst, hlt, hF, hI⟩ := hR
  obtain ⟨z, hz, q⟩ := PostG.ofO (α := Sm.D) hp1
  cases hb : intsD ys with
  | none => rw [hb] at hz; cases hz
  | some ns =>
    rw [hb] at hz
    have hz' : (if fitsL 0 ns = true then some (.int (sumI ns)) else none) = some z := hz
    by_cases hf : fitsL 0 ns = true
    · rw [if_pos hf] at hz'
      cases hz'
      obtain ⟨hl, hget⟩ := intsD_get hb
      refine Calls.spliced_nil ?_
      refine call_sum_walkS (W.self 0 _ _ _ hst ⟨ga, fp, wr, G, _, F, St, fun j => ns[j]?.getD 0, rfl, W, hst, hlt, fun j y hy => ?_, fun j hj' => ?_, fun s' t' hmv => ?_⟩)
      · obtain ⟨d, hd, hr⟩ := hF j y hy
        obtain ⟨b, hb1, rfl⟩ := hget j d hd
        obtain ⟨t, rfl⟩ := repU_int.mp hr
        exact ⟨t, by show Value.int b t = Value.int (ns[j]?.getD 0) t; rw [hb1]; rfl⟩
      · have hj2 : j < ns.length := by rw [← hl]; exact hj'
        obtain ⟨q1, q2⟩ := fits_get hf j hj2
        refine ⟨by show InLong (ns[j]?.getD 0); rw [List.getElem?_eq_getElem hj2]; exact q1, ?_⟩
        rw [pre_take hj2]
        rw [Int.zero_add] at q2
        exact q2
      · obtain ⟨c2, J, ok2, l2, r2, s2⟩ := hI s' hmv
        rw [hl, pre_take (Nat.le_refl _), List.take_length]
        exact ⟨.int _, c2.H, J, ⟨_, rfl⟩, (q : WE g c Q _ _) c2 _ ok2 (l1.trans l2) (r2.trans r1) s2 (rep_int.mpr rfl)⟩
    · rw [if_neg hf] at hz'; cases hz'
end
end Sm
end

section
set_option Elab.async false
set_option linter.all false
set_option autoImplicit false
set_option maxRecDepth 100000
set_option maxHeartbeats 4000000
namespace Sm
open PySem PySem.Spec PyProof.Rows L2
/-! ### the end: from the mirror to the law -/
/-- what the head's run looks at beside the facts: no list among the top's things, the tables are several -/
def exB (tf : List He.Defn) (K : PySem.W.Frag) : Bool := (K.all fun q => !decide (q.2.cls = .type "list")) && decide ((tf.map fun p => (He.cT K p).2).Nodup)
theorem no_list {tf : List He.Defn} {K : PySem.W.Frag} (h : exB tf K = true) {a : Addr} {o : Obj} (e : K.lookup a = some o) : o.cls ≠ .type "list" := by
  unfold exB at h
  simp only [Bool.and_eq_true] at h
  have h1 := List.all_eq_true.mp h.1 (a, o) (He.lookup_mem e)
  simpa using h1
theorem tab_nd {tf : List He.Defn} {K : PySem.W.Frag} (h : exB tf K = true) : (tf.map fun p => (He.cT K p).2).Nodup := by
  unfold exB at h
  simp only [Bool.and_eq_true] at h
  exact of_decide_eq_true h.2
theorem start_sp {g : Gx} {tf : List He.Defn} {K : PySem.W.Frag} {H : Hp} {a : Addr} {ns : List Int} {m : Fn} (hx : exB tf K = true) (hs : SqL K H a (ns.map V.int)) (ht : ∀ p ∈ g.tabs, H p.1 = some (.tbl #[])) (hm : ∃ S, m [.obj 0] [.lck (.lck (.lst (ns.map .int)))] = .ok (.bl true) S) :
    spOf g 1 m [.ref a] H (fun v _ => v = .bl true) fun _ _ _ => False := by
  rcases hs with hs | ⟨o, its, n, hk, hc, _⟩
  · have hl : ∀ r, ({ ι := fun _ => a, S := [.lck (.lck (.lst (ns.map .int)))], H := H, rs := [] } : Ct).live r → r = 0 := fun r ⟨o, e, _⟩ => by
      have := (List.getElem?_eq_some_iff.mp e).1
      simp at this
      exact this
    refine ⟨rfl, { ι := fun _ => a, S := [.lck (.lck (.lst (ns.map .int)))], H := H, rs := [] }, [.obj 0], rfl, ⟨fun r s h1 h2 _ => (hl r h1).trans (hl s h2).symm, fun r o e => ?_, fun r _ h => (by cases h), fun p hp => LamX.TabS.nil (ht p hp), fun p hp => (by cases hp)⟩, repL_one (rep_obj.mpr ⟨by simp, fun _ => rfl⟩), ?_⟩
    · cases r with
      | zero =>
        have e' : Ob.lck (.lck (.lst (ns.map .int))) = o := by simpa using e
        subst e'
        exact ⟨_, hs, repL_ints ns⟩
      | succ r => simp at e
    · obtain ⟨S, hS⟩ := hm
      rw [hS]
      exact fun c' v _ _ _ _ hv => rep_bl.mp hv
  · exact absurd hc (no_list hx hk)
theorem lawAt {l : PySem.W.OpenLaw} {w : World} {K : PySem.W.Frag} {h : Heap} {mg : Str → Option Value} {f : Addr} {fa : List He.Fa} {fn : List He.DefD} {tf : List He.Defn} {g : Gx} {params : Arguments} {body : List Stmt} {scope : Scope} {N : List Str} {k n i j : Nat} {b : MS} (KX : K.In h) (G : h.Ns mainGlobals mg) (hmg : mg "law" = some (.ref f)) (c : He.SaysX fa fn [] tf (exB tf) w h K)
    (hd : fn[i]? = some ⟨("law", none), "law", "law", params, body, scope, [], []⟩) (hj : fa[j]? = some (.glo "law")) (hb : BindN "law" "law" params body scope ["script"]) (S : FnScope N ["script"] scope) (hn : N.length = n) (hg : g.tabs.map (·.1) = tf.map fun p => (He.cT K p).2)
    (hbody : ∀ base : Heap, Tt fa fn tf K mg base → ∀ (cdv : Value) (A : Around) (outer : List PySem.Env) (s : Shared) (H : Hp) (E : XK), cdv = .ref (He.codeOf K ("law", none)) → Room k (A.deeper (PyProof.Rows.envOfC "law" scope s.heap.objs.size (He.fAd K ("law", none)) cdv)) →
      SL g (cxOf (L2.CX l.prog w) l.prog w K mg base N "law" scope (He.fAd K ("law", none)) cdv A outer s H E) E body b)
    (plain : ∀ ns : List Int, ns.length ≤ 63 → (∀ z ∈ ns, Builtin.Int.intBits z ≤ 1048576) → ∃ S, mkFn n 1 b [.obj 0] [.lck (.lck (.lst (ns.map .int)))] = .ok (.bl true) S) : LamX.LawAtS l w K (L2.CX l.prog w) (k + 1) 63 "script" mg f h := by
  have D := c.t.d
  obtain ⟨fd, F⟩ := D.def_ i hd
  have F' : FunD K "law" "law" params body scope [] [] (He.fAd K ("law", none)) fd := F
  have e := hmg.symm.trans (He.glo_ok KX G (D.fact j hj))
  have ef : f = He.fAd K ("law", none) := by cases e; rfl
  subst ef
  refine ⟨fd, tf.map (He.cT K), spOf g 1 (mkFn n 1 b), fun p hp => ?_, fun p hp => ?_, fun p hp => ?_, fun s u => F'.bindsA hb s [u] rfl, fun H a ns hl hbits hT hs => ?_, fun base KB GB TB => ?_⟩
  · obtain ⟨q, hq, rfl⟩ := List.mem_map.mp hp
    exact c.empty q hq
  · obtain ⟨q, hq, rfl⟩ := List.mem_map.mp hp
    exact c.out q hq
  · obtain ⟨q, hq, rfl⟩ := List.mem_map.mp hp
    exact PySem.W.codeHd_of_K KX (c.hd q hq)
  · refine start_sp c.more hs (fun p hp => ?_) (plain ns hl hbits)
    have hm : p.1 ∈ tf.map fun p => (He.cT K p).2 := by rw [← hg]; exact List.mem_map.mpr ⟨p, hp, rfl⟩
    obtain ⟨q, hq, e⟩ := List.mem_map.mp hm
    rw [← e]
    exact hT _ (List.mem_map.mpr ⟨q, hq, rfl⟩)
  · exact fnokD F' S hn (hbody base ⟨KB, GB, D, fun p hp => TB _ (List.mem_map.mpr ⟨p, hp, rfl⟩), tab_nd c.more⟩)
end Sm
end

section
set_option linter.all false
set_option autoImplicit false
set_option maxRecDepth 100000
set_option maxHeartbeats 4000000
namespace Sm
/-! ### the mirror's steps, as equations -/
theorem lstAt_obj {S : Store} {r : Nat} {xs : List D} (h : S[r]? = some (.lst xs)) : lstAt S (.obj r) = some (r, xs) := by
  unfold lstAt; simp only [h]
theorem insAt_obj {S : Store} {r c : Nat} {fs : List (Nat × D)} (h : S[r]? = some (.ins c fs)) : insAt S (.obj r) = some (r, c, fs) := by
  unfold insAt; simp only [h]
theorem eqV_ii {S : Store} {a b : Int} : oEq S (.int a) (.int b) = some (.bl (a == b)) := by
  simp [oEq, eqV, dataN, dataD, view, eqD]
theorem neV_ii {S : Store} {a b : Int} : oNe S (.int a) (.int b) = some (.bl (!(a == b))) := by
  simp [oNe, eqV, dataN, dataD, view, eqD]
theorem bind_ok {α β : Type} {a : α} {S : Store} {f : α → Store → Out β} : (Out.ok a S).bind f = f a S := rfl
theorem bind_exc {α β : Type} {k : Nat} {S : Store} {f : α → Store → Out β} : (Out.exc k S : Out α).bind f = .exc k S := rfl
theorem ofO_some {α : Type} {a : α} {S : Store} : ofO (some a) S = .ok a S := rfl
theorem eV_at {i : Nat} {e : Env} {S : Store} {d : D} (h : e[i]? = some (some d)) : eV i e S = .ok d S := by unfold eV; simp only [h]
theorem eC_eq {d : D} {e : Env} {S : Store} : eC d e S = .ok d S := rfl
theorem eOp_eq {f : Store → D → D → Option D} {a b : ME} {e : Env} {S S1 S2 : Store} {x y z : D} (h1 : a e S = .ok x S1) (h2 : b e S1 = .ok y S2) (h3 : f S2 x y = some z) : eOp f a b e S = .ok z S2 := by
  unfold eOp; simp only [h1, h2, h3, bind_ok, ofO_some]
theorem eUn_eq {f : Store → D → Option D} {a : ME} {e : Env} {S S1 : Store} {x z : D} (h1 : a e S = .ok x S1) (h3 : f S1 x = some z) : eUn f a e S = .ok z S1 := by
  unfold eUn; simp only [h1, h3, bind_ok, ofO_some]
theorem tB_eq {a : ME} {e : Env} {S S1 : Store} {b : Bool} (h : a e S = .ok (.bl b) S1) : tB a e S = .ok b S1 := by unfold tB; simp only [h, bind_ok]
theorem tOr_t {a b : MB} {e : Env} {S S1 : Store} (h : a e S = .ok true S1) : tOr a b e S = .ok true S1 := by unfold tOr; simp only [h, bind_ok, if_true]
theorem tOr_f {a b : MB} {e : Env} {S S1 : Store} {r : Out Bool} (h : a e S = .ok false S1) (h2 : b e S1 = r) : tOr a b e S = r := by unfold tOr; simp only [h, bind_ok, Bool.false_eq_true, if_false]; exact h2
theorem tAnd_f {a b : MB} {e : Env} {S S1 : Store} (h : a e S = .ok false S1) : tAnd a b e S = .ok false S1 := by unfold tAnd; simp only [h, bind_ok, Bool.false_eq_true, if_false]
theorem tAnd_t {a b : MB} {e : Env} {S S1 : Store} {r : Out Bool} (h : a e S = .ok true S1) (h2 : b e S1 = r) : tAnd a b e S = r := by unfold tAnd; simp only [h, bind_ok, if_true]; exact h2
theorem tNot_eq {a : MB} {e : Env} {S S1 : Store} {b : Bool} (h : a e S = .ok b S1) : tNot a e S = .ok (!b) S1 := by unfold tNot; simp only [h, bind_ok]
theorem aNil_eq {e : Env} {S : Store} : aNil e S = .ok [] S := rfl
theorem aCons_eq {a : ME} {r : MA} {e : Env} {S S1 S2 : Store} {x : D} {xs : List D} (h1 : a e S = .ok x S1) (h2 : r e S1 = .ok xs S2) : aCons a r e S = .ok (x :: xs) S2 := by unfold aCons; simp only [h1, h2, bind_ok]
theorem eCB_eq {f : Store → List D → Option D} {r : MA} {e : Env} {S S1 : Store} {xs : List D} {z : D} (h1 : r e S = .ok xs S1) (h2 : f S1 xs = some z) : eCB f r e S = .ok z S1 := by unfold eCB; simp only [h1, h2, bind_ok, ofO_some]
theorem eCall_eq {f : Fn} {r : MA} {e : Env} {S S1 : Store} {xs : List D} {o : Out D} (h1 : r e S = .ok xs S1) (h2 : f xs S1 = o) : eCall f r e S = o := by unfold eCall; simp only [h1, bind_ok]; exact h2
theorem eTup_eq {r : MA} {e : Env} {S S1 : Store} {xs : List D} (h1 : r e S = .ok xs S1) (h2 : xs.length ≤ 1000) : eTup r e S = .ok (.tup xs) S1 := by unfold eTup; simp only [h1, bind_ok, h2, if_true]
theorem eLst_eq {r : MA} {e : Env} {S S1 : Store} {xs : List D} (h1 : r e S = .ok xs S1) (h2 : xs.length ≤ 1000) : eLst r e S = .ok (.lst xs) S1 := by unfold eLst; simp only [h1, bind_ok, h2, if_true]
theorem eIf_t {t : MB} {a b : ME} {e : Env} {S S1 : Store} {o : Out D} (h : t e S = .ok true S1) (h2 : a e S1 = o) : eIf t a b e S = o := by unfold eIf; simp only [h, bind_ok, if_true]; exact h2
theorem eIf_f {t : MB} {a b : ME} {e : Env} {S S1 : Store} {o : Out D} (h : t e S = .ok false S1) (h2 : b e S1 = o) : eIf t a b e S = o := by unfold eIf; simp only [h, bind_ok, Bool.false_eq_true, if_false]; exact h2
theorem seq_nx {a b : MS} {e e1 : Env} {S S1 : Store} {o : Out Fl} (h : a e S = .ok (.nx e1) S1) (h2 : b e1 S1 = o) : sSeq a b e S = o := by unfold sSeq; simp only [h, bind_ok]; exact h2
theorem seq_rt {a b : MS} {e : Env} {S S1 : Store} {d : D} (h : a e S = .ok (.rt d) S1) : sSeq a b e S = .ok (.rt d) S1 := by unfold sSeq; simp only [h, bind_ok]
theorem seq_exc {a b : MS} {e : Env} {S S1 : Store} {k : Nat} (h : a e S = .exc k S1) : sSeq a b e S = .exc k S1 := by unfold sSeq; simp only [h, bind_exc]
theorem if_t {t : MB} {a b : MS} {e : Env} {S S1 : Store} {o : Out Fl} (h : t e S = .ok true S1) (h2 : a e S1 = o) : sIf t a b e S = o := by unfold sIf; simp only [h, bind_ok, if_true]; exact h2
theorem if_f {t : MB} {a b : MS} {e : Env} {S S1 : Store} {o : Out Fl} (h : t e S = .ok false S1) (h2 : b e S1 = o) : sIf t a b e S = o := by unfold sIf; simp only [h, bind_ok, Bool.false_eq_true, if_false]; exact h2
theorem nil_eq {e : Env} {S : Store} : sNil e S = .ok (.nx e) S := rfl
theorem set_eq {i : Nat} {m : ME} {e : Env} {S S1 : Store} {d : D} (h : m e S = .ok d S1) : sSet i m e S = .ok (.nx (e.set i (some d))) S1 := by unfold sSet; simp only [h, bind_ok]
theorem ret_eq {m : ME} {e : Env} {S S1 : Store} {d : D} (h : m e S = .ok d S1) : sRet m e S = .ok (.rt d) S1 := by unfold sRet; simp only [h, bind_ok]
theorem raise_eq {k : Nat} {e : Env} {S : Store} : sRaise k e S = .exc k S := rfl
theorem fn_rt {n ar : Nat} {b : MS} {ds : List D} {S S1 : Store} {d : D} (hl : ds.length = ar) (h : b (ds.map some ++ List.replicate (n - ds.length) none) S = .ok (.rt d) S1) : mkFn n ar b ds S = .ok d S1 := by unfold mkFn; rw [if_pos hl]; simp only [h]
theorem fn_nx {n ar : Nat} {b : MS} {ds : List D} {S S1 : Store} {e : Env} (hl : ds.length = ar) (h : b (ds.map some ++ List.replicate (n - ds.length) none) S = .ok (.nx e) S1) : mkFn n ar b ds S = .ok .non S1 := by unfold mkFn; rw [if_pos hl]; simp only [h]
theorem fn_exc {n ar : Nat} {b : MS} {ds : List D} {S S1 : Store} {k : Nat} (hl : ds.length = ar) (h : b (ds.map some ++ List.replicate (n - ds.length) none) S = .exc k S1) : mkFn n ar b ds S = .exc k S1 := by unfold mkFn; rw [if_pos hl]; simp only [h]
theorem sub_eq {o i v : ME} {e : Env} {S S1 S2 S3 : Store} {x y : D} {r j : Nat} {z : Int} {xs : List D} (h1 : v e S = .ok y S1) (h2 : o e S1 = .ok x S2) (h3 : i e S2 = .ok (.int z) S3) (h4 : lstAt S3 x = some (r, xs)) (h5 : ixZ xs.length z = some j) : sSub o i v e S = .ok (.nx e) (S3.set r (.lst (xs.set j y))) := by
  unfold sSub; simp only [h1, h2, h3, h4, h5, bind_ok]
theorem fld_at {i : Nat} {o : ME} {e : Env} {S S1 : Store} {x d : D} {r c : Nat} {fs : List (Nat × D)} (h1 : o e S = .ok x S1) (h2 : insAt S1 x = some (r, c, fs)) (h3 : getF i fs = some d) : eFld i o e S = .ok d S1 := by unfold eFld; simp only [h1, h2, h3, bind_ok, ofO_some]
theorem ii_lt {S : Store} {a b : Int} : oLt S (.int a) (.int b) = some (.bl (decide (a < b))) := rfl
theorem ii_le {S : Store} {a b : Int} : oLe S (.int a) (.int b) = some (.bl (decide (a ≤ b))) := rfl
theorem ii_gt {S : Store} {a b : Int} : oGt S (.int a) (.int b) = some (.bl (decide (b < a))) := rfl
theorem ii_ge {S : Store} {a b : Int} : oGe S (.int a) (.int b) = some (.bl (decide (b ≤ a))) := rfl
theorem ii_sub {S : Store} {a b : Int} : oSub S (.int a) (.int b) = some (.int (a - b)) := rfl
theorem ii_add {S : Store} {a b : Int} : oAdd S (.int a) (.int b) = some (.int (a + b)) := rfl
theorem ii_div {S : Store} {a b : Int} (h : b ≠ 0 ∧ b.natAbs < 1073741824) : oDiv S (.int a) (.int b) = some (.int (a.fdiv b)) := by unfold oDiv; simp only [h, and_self, if_true]; simp [h.1]
theorem ii_mod {S : Store} {a b : Int} (h : b ≠ 0) : oMod S (.int a) (.int b) = some (.int (a.fmod b)) := by unfold oMod; simp [h]
theorem fld_set {i : Nat} {o v : ME} {e : Env} {S S1 S2 : Store} {x y : D} {r c : Nat} {fs : List (Nat × D)} (h1 : v e S = .ok y S1) (h2 : o e S1 = .ok x S2) (h3 : insAt S2 x = some (r, c, fs)) (h4 : fs.length < 1000) : sFld i o v e S = .ok (.nx e) (S2.set r (.ins c (putF i y fs))) := by
  unfold sFld; simp only [h1, h2, h3, h4, bind_ok, if_true]
theorem fld_aug {f : Store → D → D → Option D} {i : Nat} {o v : ME} {e : Env} {S S1 S2 : Store} {x y z u : D} {r r' c : Nat} {fs fs' : List (Nat × D)} (h1 : o e S = .ok x S1) (h2 : insAt S1 x = some (r, c, fs)) (h3 : getF i fs = some y) (h4 : v e S1 = .ok z S2) (h5 : f S2 y z = some u) (h6 : insAt S2 x = some (r', c, fs')) (h7 : fs'.length < 1000) :
    sFldAug f i o v e S = .ok (.nx e) (S2.set r' (.ins c (putF i u fs'))) := by
  unfold sFldAug; simp only [h1, h2, h3, h4, h5, h6, h7, bind_ok, and_self, if_true]
theorem aug_eq {f : Store → D → D → Option D} {i : Nat} {m : ME} {e : Env} {S S1 : Store} {x y z : D} (h1 : e[i]? = some (some x)) (h2 : m e S = .ok y S1) (h3 : f S1 x y = some z) : sAug f i m e S = .ok (.nx (e.set i (some z))) S1 := by
  unfold sAug; simp only [h1, h2, h3, bind_ok]
theorem meth_eq {c : Nat} {f : Fn} {o : ME} {r : MA} {e : Env} {S S1 S2 : Store} {x : D} {k : Nat} {fs : List (Nat × D)} {ds : List D} {q : Out D} (h1 : o e S = .ok x S1) (h2 : insAt S1 x = some (k, c, fs)) (h3 : r e S1 = .ok ds S2) (h4 : f (x :: ds) S2 = q) : eMeth c f o r e S = q := by
  unfold eMeth; simp only [h1, h2, h3, bind_ok, if_true]; exact h4
theorem make_eq {c : Nat} {f : Fn} {r : MA} {e : Env} {S S1 S2 : Store} {ds : List D} (h1 : r e S = .ok ds S1) (h2 : f (.obj S1.length :: ds) (S1 ++ [.ins c []]) = .ok .non S2) : eMake c f r e S = .ok (.obj S1.length) S2 := by
  unfold eMake; simp only [h1, h2, bind_ok]
theorem make_exc {c k : Nat} {f : Fn} {r : MA} {e : Env} {S S1 S2 : Store} {ds : List D} (h1 : r e S = .ok ds S1) (h2 : f (.obj S1.length :: ds) (S1 ++ [.ins c []]) = .exc k S2) : eMake c f r e S = .exc k S2 := by
  unfold eMake; simp only [h1, h2, bind_ok, bind_exc]
theorem told_ok {sub : Nat → Nat → Bool} {hs : List (Nat × Tx)} {m : ME} {e : Env} {S S1 : Store} {d : D} (h : m e S = .ok d S1) : eTold sub hs m e S = .ok d S1 := by unfold eTold; simp only [h]
theorem told_exc {sub : Nat → Nat → Bool} {hs : List (Nat × Tx)} {m : ME} {e : Env} {S S1 : Store} {k : Nat} {y : Nat × Tx} (h : m e S = .exc k S1) (hf : (hs.find? fun h => sub k h.1) = some y) : eTold sub hs m e S = .ok (.str y.2) S1 := by unfold eTold; simp only [h, hf]
theorem par_eq {i j : Nat} {r : MA} {e : Env} {S S1 : Store} {v w : D} (h : r e S = .ok [v, w] S1) : sPar i j r e S = .ok (.nx ((e.set i (some v)).set j (some w))) S1 := by unfold sPar; simp only [h, bind_ok]
theorem par3_eq {i j k : Nat} {r : MA} {e : Env} {S S1 : Store} {v w u : D} (h : r e S = .ok [v, w, u] S1) : sPar3 i j k r e S = .ok (.nx (((e.set i (some v)).set j (some w)).set k (some u))) S1 := by unfold sPar3; simp only [h, bind_ok]
theorem asg_eq {g : MG} {m : ME} {e e1 : Env} {S S1 S2 : Store} {d : D} (h : m e S = .ok d S1) (h2 : g d e S1 = .ok e1 S2) : sAsg g m e S = .ok (.nx e1) S2 := by unfold sAsg; simp only [h, h2, bind_ok]
theorem for_eq {it : MI} {g : MG} {b : MS} {e : Env} {S S1 : Store} {p : List D × Option Nat} {q : Out Fl} (h : it e S = .ok p S1) (h2 : forL p.2 g b p.1 e S1 = q) : sFor it g b e S = q := by unfold sFor; simp only [h, bind_ok]; exact h2
theorem range1_eq {r : MA} {e : Env} {S S1 : Store} {n : Int} (h : r e S = .ok [.int n] S1) (h2 : -1000000 ≤ n ∧ n ≤ 1000000) : iRange1 r e S = .ok (rangeL 0 n.toNat, none) S1 := by unfold iRange1; simp only [h, bind_ok]; rw [if_pos h2]
theorem forL_nil {lk : Option Nat} {g : MG} {b : MS} {e : Env} {S : Store} : forL lk g b [] e S = .ok (.nx e) (unlockAt S lk) := rfl
theorem forL_nx {lk : Option Nat} {g : MG} {b : MS} {x : D} {xs : List D} {e e1 e2 : Env} {S S1 S2 : Store} {q : Out Fl} (h1 : g x e S = .ok e1 S1) (h2 : b e1 S1 = .ok (.nx e2) S2) (h3 : forL lk g b xs e2 S2 = q) : forL lk g b (x :: xs) e S = q := by
  unfold forL; simp only [h1, h2, bind_ok]; exact h3
theorem forL_bk {lk : Option Nat} {g : MG} {b : MS} {x : D} {xs : List D} {e e1 e2 : Env} {S S1 S2 : Store} (h1 : g x e S = .ok e1 S1) (h2 : b e1 S1 = .ok (.bk e2) S2) : forL lk g b (x :: xs) e S = .ok (.nx e2) (unlockAt S2 lk) := by
  unfold forL; simp only [h1, h2, bind_ok]
theorem seq_bk {a b : MS} {e e1 : Env} {S S1 : Store} (h : a e S = .ok (.bk e1) S1) : sSeq a b e S = .ok (.bk e1) S1 := by unfold sSeq; simp only [h, bind_ok]
theorem brk_eq {e : Env} {S : Store} : sBrk e S = .ok (.bk e) S := rfl
theorem gN_eq {i : Nat} {x : D} {e : Env} {S : Store} : gN i x e S = .ok (e.set i (some x)) S := rfl
theorem isub_ii {S : Store} {a b : Int} : iSub S (.int a) (.int b) = some (.int (a - b)) := rfl
theorem iadd_ii {S : Store} {a b : Int} : iAdd S (.int a) (.int b) = some (.int (a + b)) := rfl
end Sm
end

section
set_option Elab.async false
set_option linter.all false
set_option autoImplicit false
set_option maxRecDepth 100000
set_option maxHeartbeats 4000000
namespace Sm.K15
open PySem L2 Sm
def top (i : Nat) : Stmt := PySem.Challenge.pw_candlehall_k15_wicks.main.body.getD i (.Pass ⟨0, 0, 0, 0⟩)
abbrev s_Wick_init : Stmt := inClass (top 10) 0
abbrev s_Wick_end : Stmt := inClass (top 10) 1
abbrev s_Wick_burn : Stmt := inClass (top 10) 2
abbrev s_Wick_trim : Stmt := inClass (top 10) 3
abbrev s_Wick_wipe : Stmt := inClass (top 10) 4
abbrev s_Wick_shown : Stmt := inClass (top 10) 5
abbrev s_plaited : Stmt := top 11
abbrev s_cord_for : Stmt := top 12
abbrev s_longest_equal : Stmt := top 13
abbrev s_kind_for : Stmt := top 14
abbrev s_cut_in_order : Stmt := top 15
abbrev s_knots : Stmt := top 16
abbrev s_law_flat : Stmt := top 18
abbrev s_law_dice : Stmt := top 19
abbrev s_law_roll : Stmt := top 20
abbrev s_law_rounds : Stmt := top 21
abbrev s_law_cases1 : Stmt := top 23
abbrev s_law_rest1 : Stmt := top 24
abbrev s_law : Stmt := top 25
abbrev s_law_told : Stmt := top 22
/-- classes of errors: 0 CandleFault, 1 BadCandle, 2 BadPlan, 3 BadSize, 4 NoSuch, 5 NoRoom, 6 NoWay, 7 BadDeed -/
def subX (a b : Nat) : Bool := [(0, 0), (1, 1), (1, 0), (2, 2), (2, 0), (3, 3), (3, 0), (4, 4), (4, 0), (5, 5), (5, 0), (6, 6), (6, 0), (7, 7), (7, 0)].contains (a, b)
def toldX : List (Nat × Tx) := [(3, [115, 105, 122, 101]), (1, [99, 97, 110, 100, 108, 101]), (2, [112, 108, 97, 110]), (4, [110, 111, 32, 115, 117, 99, 104]), (5, [110, 111, 32, 114, 111, 111, 109]), (6, [110, 111, 32, 119, 97, 121]), (7, [100, 101, 101, 100])]
/-- Wick.__init__: 0 self, 1 long, 2 high -/
def b_Wick_init : MS := sSeq (sIf (tOr (tB (eOp oLt (eV 2) (eC (.int 1)))) (tB (eOp oLe (eV 1) (eV 2)))) (sRaise 1) (sNil)) (
  sSeq (sFld 0 (eV 0) (eV 1)) (
  sSeq (sFld 1 (eV 0) (eV 2)) (
  sFld 2 (eV 0) (eC (.int 0)))))
def m_Wick_init : Fn := mkFn 3 3 b_Wick_init
/-- Wick.end: 0 self -/
def b_Wick_end : MS := sRet (eOp oSub (eFld 0 (eV 0)) (eFld 1 (eV 0)))
def m_Wick_end : Fn := mkFn 1 1 b_Wick_end
/-- Wick.burn: 0 self, 1 minutes, 2 minute, 3 over, 4 takes -/
def b_Wick_burn_l1 : MS := sSeq (sIf (tB (eOp oEq (eFld 1 (eV 0)) (eC (.int 0)))) (sBrk) (sNil)) (
  sSeq (sSet 3 (eMeth 0 m_Wick_end (eV 0) (aNil))) (
  sSeq (sFldAug iSub 1 (eV 0) (eC (.int 1))) (
  sSeq (sSet 4 (eIf (tB (eOp oGt (eV 3) (eC (.int 5)))) (eC (.int 2)) (eC (.int 1)))) (
  sSeq (sFldAug iAdd 2 (eV 0) (eIf (tB (eOp oGt (eV 3) (eC (.int 5)))) (eC (.int 1)) (eC (.int 0)))) (
  sFldAug iSub 0 (eV 0) (eCB bMin (aCons (eV 4) (aCons (eOp oSub (eOp oSub (eFld 0 (eV 0)) (eFld 1 (eV 0))) (eC (.int 1))) (aNil)))))))))
def b_Wick_burn : MS := sSeq (sIf (tB (eOp oLt (eV 1) (eC (.int 1)))) (sRaise 3) (sNil)) (
  sSeq (sIf (tB (eOp oEq (eFld 1 (eV 0)) (eC (.int 0)))) (sRaise 7) (sNil)) (
  sSeq (sFor (iRange1 (aCons (eV 1) (aNil))) (gN 2) b_Wick_burn_l1) (
  sRet (eFld 1 (eV 0)))))
def m_Wick_burn : Fn := mkFn 5 2 b_Wick_burn
/-- Wick.trim: 0 self, 1 end, 2 cut -/
def b_Wick_trim : MS := sSeq (sIf (tB (eOp oLt (eV 1) (eC (.int 1)))) (sRaise 3) (sNil)) (
  sSeq (sIf (tB (eOp oLe (eMeth 0 m_Wick_end (eV 0) (aNil)) (eV 1))) (sRaise 7) (sNil)) (
  sSeq (sSet 2 (eOp oSub (eMeth 0 m_Wick_end (eV 0) (aNil)) (eV 1))) (
  sSeq (sFldAug iSub 0 (eV 0) (eV 2)) (
  sRet (eV 2)))))
def m_Wick_trim : Fn := mkFn 3 2 b_Wick_trim
/-- Wick.wipe: 0 self, 1 found -/
def b_Wick_wipe : MS := sSeq (sIf (tB (eOp oEq (eFld 2 (eV 0)) (eC (.int 0)))) (sRaise 7) (sNil)) (
  sSeq (sSet 1 (eFld 2 (eV 0))) (
  sSeq (sFld 2 (eV 0) (eC (.int 0))) (
  sRet (eV 1))))
def m_Wick_wipe : Fn := mkFn 2 1 b_Wick_wipe
/-- Wick.shown: 0 self -/
def b_Wick_shown : MS := sRet (eTup (aCons (eFld 1 (eV 0)) (aCons (eMeth 0 m_Wick_end (eV 0) (aNil)) (aCons (eFld 2 (eV 0)) (aNil)))))
def m_Wick_shown : Fn := mkFn 1 1 b_Wick_shown
/-- plaited: 0 cords, 1 rounds, 2 row, 3 turn -/
def b_plaited_l1 : MS := sIf (tB (eOp oEq (eOp oMod (eV 3) (eC (.int 2))) (eC (.int 0)))) (sSet 2 (eLst (aCons (eOp oIx (eV 2) (eC (.int 1))) (aCons (eOp oIx (eV 2) (eC (.int 0))) (aCons (eOp oIx (eV 2) (eC (.int 2))) (aNil)))))) (sSet 2 (eLst (aCons (eOp oIx (eV 2) (eC (.int 0))) (aCons (eOp oIx (eV 2) (eC (.int 2))) (aCons (eOp oIx (eV 2) (eC (.int 1))) (aNil))))))
def b_plaited : MS := sSeq (sIf (tB (eOp oNe (eCB bLen (aCons (eV 0) (aNil))) (eC (.int 3)))) (sRaise 1) (sNil)) (
  sSeq (sIf (tB (eOp oLt (eV 1) (eC (.int 0)))) (sRaise 3) (sNil)) (
  sSeq (sSet 2 (eCB bList (aCons (eV 0) (aNil)))) (
  sSeq (sFor (iRange1 (aCons (eV 1) (aNil))) (gN 3) b_plaited_l1) (
  sRet (eCB bTuple (aCons (eV 2) (aNil)))))))
def m_plaited : Fn := mkFn 4 2 b_plaited
/-- cord_for: 0 candles, 1 over, 2 loss, 3 high, 4 whole -/
def b_cord_for : MS := sSeq (sIf (tOr (tB (eOp oLt (eV 1) (eC (.int 0)))) (tOr (tNot (tB (eChain oLe oLt (eC (.int 0)) (eV 2) (eC (.int 100))))) (tB (eAny (mGen (gSeq (eV 0)) (gN 3) (tYes) (eOp oLt (eV 3) (eC (.int 1)))))))) (sRaise 3) (sNil)) (
  sSeq (sSet 4 (eOp oAdd (eCB bSum (aCons (eV 0) (aNil))) (eOp oMul (eV 1) (eCB bLen (aCons (eV 0) (aNil)))))) (
  sRet (eOp oSub (eC (.int 0)) (eOp oDiv (eOp oSub (eC (.int 0)) (eOp oMul (eV 4) (eC (.int 100)))) (eOp oSub (eC (.int 100)) (eV 2))))))
def m_cord_for : Fn := mkFn 5 3 b_cord_for
/-- longest_equal: 0 cords, 1 need, 2 cord, 3 low, 4 high, 5 middle -/
def b_longest_equal_l1 : MS := sSeq (sSet 5 (eOp oDiv (eOp oAdd (eOp oAdd (eV 3) (eV 4)) (eC (.int 1))) (eC (.int 2)))) (
  sIf (tB (eOp oGe (eSum (mGen (gSeq (eV 0)) (gN 2) (tYes) (eOp oDiv (eV 2) (eV 5)))) (eV 1))) (sSet 3 (eV 5)) (sSet 4 (eOp oSub (eV 5) (eC (.int 1)))))
def b_longest_equal : MS := sSeq (sIf (tOr (tB (eOp oLt (eV 1) (eC (.int 1)))) (tB (eAny (mGen (gSeq (eV 0)) (gN 2) (tYes) (eOp oLt (eV 2) (eC (.int 0))))))) (sRaise 3) (sNil)) (
  sSeq (sPar 3 4 (aCons (eC (.int 0)) (aCons (eCB bMax (aCons (eOp oAdd (eCB bList (aCons (eV 0) (aNil))) (eLst (aCons (eC (.int 0)) (aNil)))) (aNil))) (aNil)))) (
  sSeq (sWhile (tB (eOp oLt (eV 3) (eV 4))) b_longest_equal_l1 100000) (
  sSeq (sIf (tB (eOp oEq (eV 3) (eC (.int 0)))) (sRaise 6) (sNil)) (
  sRet (eV 3)))))
def m_longest_equal : Fn := mkFn 6 2 b_longest_equal
/-- kind_for: 0 thick, 1 table, 2 before, 3 after, 4 most, 5 kind -/
def b_kind_for_l1 : MS := sIf (tB (eOp oLe (eV 0) (eV 4))) (sRet (eV 5)) (sNil)
def b_kind_for : MS := sSeq (sIf (tB (eAny (mGen (gZip (aCons (eV 1) (aCons (eSl (eV 1) (some (eC (.int 1))) none) (aNil)))) (gT [gN 2, gN 3]) (tYes) (eOp oLe (eOp oIxQ (eV 3) (eC (.int 0))) (eOp oIxQ (eV 2) (eC (.int 0))))))) (sRaise 3) (sNil)) (
  sSeq (sFor (iSeq (eV 1)) (gT [gN 4, gN 5]) b_kind_for_l1) (
  sRaise 6))
def m_kind_for : Fn := mkFn 6 2 b_kind_for
/-- cut_in_order: 0 cord, 1 lengths, 2 long, 3 found -/
def b_cut_in_order_l1 : MS := sIf (tB (eOp oLe (eV 2) (eV 0))) (sSeq (sExpr (eAppend (eV 3) (eV 2))) (
  sAug iSub 0 (eV 2))) (sNil)
def b_cut_in_order : MS := sSeq (sIf (tOr (tB (eOp oLt (eV 0) (eC (.int 0)))) (tB (eAny (mGen (gSeq (eV 1)) (gN 2) (tYes) (eOp oLt (eV 2) (eC (.int 1))))))) (sRaise 3) (sNil)) (
  sSeq (sSet 3 (eNew (oLst (aNil)))) (
  sSeq (sFor (iSeq (eV 1)) (gN 2) b_cut_in_order_l1) (
  sRet (eTup (aCons (eCB bTuple (aCons (eV 3) (aNil))) (aCons (eV 0) (aNil)))))))
def m_cut_in_order : Fn := mkFn 4 2 b_cut_in_order
/-- knots: 0 cord, 1 tied, 2 place, 3 spots, 4 before, 5 after -/
def b_knots : MS := sSeq (sIf (tB (eOp oLt (eV 0) (eC (.int 0)))) (sRaise 3) (sNil)) (
  sSeq (sIf (tB (eAny (mGen (gSeq (eV 1)) (gN 2) (tYes) (eUn uNot (eChain oLe oLe (eC (.int 0)) (eV 2) (eV 0)))))) (sRaise 4) (sNil)) (
  sSeq (sSet 3 (eOp oAdd (eOp oAdd (eLst (aCons (eC (.int 0)) (aNil))) (eCB bSorted (aCons (eV 1) (aNil)))) (eLst (aCons (eV 0) (aNil))))) (
  sRet (eCB bMax (aCons (eLC [4, 5] (iZip (aCons (eV 3) (aCons (eSl (eV 3) (some (eC (.int 1))) none) (aNil)))) (gT [gN 4, gN 5]) (tYes) (eOp oSub (eV 5) (eV 4))) (aNil))))))
def m_knots : Fn := mkFn 6 2 b_knots
/-- _law_flat: 0 rows, 1 found, 2 row -/
def b_law_flat_l1 : MS := sSet 1 (eOp oAdd (eV 1) (eV 2))
def b_law_flat : MS := sSeq (sSet 1 (eLst (aNil))) (
  sSeq (sFor (iSeq (eV 0)) (gN 2) b_law_flat_l1) (
  sRet (eV 1)))
def m_law_flat : Fn := mkFn 3 1 b_law_flat
/-- _law_dice: 0 cell -/
def b_law_dice : MS := sSeq (sIf (tB (eChain oLt oLt (eOp oSub (eC (.int 0)) (eC (.int 10))) (eV 0) (eC (.int 10)))) (sRet (eNew (oLst (aCons (eCB bAbs (aCons (eV 0) (aNil))) (aCons (eC (.int 0)) (aCons (eC (.int 2)) (aNil))))))) (sNil)) (
  sRet (eNew (oLst (aCons (eV 0) (aCons (eOp oAdd (eC (.int 1)) (eOp oMod (eCB bInt (aCons (eV 0) (aNil))) (eC (.int 1009)))) (aCons (eCB bInt (aCons (eOp oGe (eV 0) (eOp oPow (eC (.int 10)) (eC (.int 18)))) (aNil))) (aNil)))))))
def m_law_dice : Fn := mkFn 1 1 b_law_dice
/-- _law_roll: 0 dice, 1 many, 2 found -/
def b_law_roll : MS := sSeq (sIf (tOr (tB (eOp oEq (eOp oIx (eV 0) (eC (.int 2))) (eC (.int 2)))) (tAnd (tB (eOp oEq (eOp oIx (eV 0) (eC (.int 2))) (eC (.int 1)))) (tB (eOp oGt (eOp oIx (eV 0) (eC (.int 0))) (eC (.int 0)))))) (sSeq (sSet 2 (eOp oMod (eCB bInt (aCons (eOp oIx (eV 0) (eC (.int 0))) (aNil))) (eV 1))) (
  sSeq (sSub (eV 0) (eC (.int 0)) (eOp oDiv (eOp oIx (eV 0) (eC (.int 0))) (eV 1))) (
  sRet (eV 2)))) (sNil)) (
  sSeq (sSub (eV 0) (eC (.int 2)) (eC (.int 0))) (
  sSeq (sSub (eV 0) (eC (.int 0)) (eOp oMod (eCB bInt (aCons (eOp oAdd (eOp oAdd (eOp oMul (eOp oIx (eV 0) (eC (.int 0))) (eC (.int 48271))) (eOp oMul (eOp oIx (eV 0) (eC (.int 1))) (eC (.int 69621)))) (eC (.int 11))) (aNil))) (eC (.int 2147483647)))) (
  sSeq (sSub (eV 0) (eC (.int 1)) (eOp oAdd (eOp oIx (eV 0) (eC (.int 1))) (eC (.int 1)))) (
  sRet (eOp oMod (eCB bInt (aCons (eOp oAdd (eOp oDiv (eOp oIx (eV 0) (eC (.int 0))) (eC (.int 7))) (eOp oIx (eV 0) (eC (.int 0)))) (aNil))) (eV 1))))))
def m_law_roll : Fn := mkFn 3 2 b_law_roll
/-- _law_rounds: 0 script, 1 most, 2 cells, 3 cell -/
def b_law_rounds : MS := sSeq (sSet 2 (eSl (eV 0) none (some (eV 1)))) (
  sSeq (sIf (tB (eOp oEq (eV 2) (eLst (aNil)))) (sSet 2 (eLst (aCons (eC (.int 0)) (aNil)))) (sNil)) (
  sRet (eLC [3] (iSeq (eV 2)) (gN 3) (tYes) (eCall m_law_dice (aCons (eV 3) (aNil))))))
def m_law_rounds : Fn := mkFn 4 2 b_law_rounds
/-- _law_cases1:  -/
def b_law_cases1_s1 : MS := sIf (tB (eOp oNe (eTold subX toldX (eMake 0 m_Wick_init (aCons (eC (.int 3)) (aCons (eC (.int 3)) (aNil))))) (eC (.str [99, 97, 110, 100, 108, 101])))) (sRet (eC (.bl false))) (sNil)
def b_law_cases1_s2 : MS := sIf (tB (eOp oNe (eTold subX toldX (eMake 0 m_Wick_init (aCons (eC (.int 1)) (aCons (eC (.int 0)) (aNil))))) (eC (.str [99, 97, 110, 100, 108, 101])))) (sRet (eC (.bl false))) (sNil)
def b_law_cases1_s3 : MS := sIf (tB (eOp oNe (eTold subX toldX (eCall m_plaited (aCons (eLst (aCons (eC (.str [97])) (aCons (eC (.str [98])) (aCons (eC (.str [99])) (aNil))))) (aCons (eOp oSub (eC (.int 0)) (eC (.int 1))) (aNil))))) (eC (.str [115, 105, 122, 101])))) (sRet (eC (.bl false))) (sNil)
def b_law_cases1_s4 : MS := sIf (tB (eOp oNe (eTold subX toldX (eCall m_cord_for (aCons (eLst (aCons (eC (.int 0)) (aNil))) (aCons (eC (.int 0)) (aCons (eC (.int 0)) (aNil)))))) (eC (.str [115, 105, 122, 101])))) (sRet (eC (.bl false))) (sNil)
def b_law_cases1_s5 : MS := sIf (tB (eOp oNe (eTold subX toldX (eCall m_longest_equal (aCons (eLst (aNil)) (aCons (eC (.int 0)) (aNil))))) (eC (.str [115, 105, 122, 101])))) (sRet (eC (.bl false))) (sNil)
def b_law_cases1_s6 : MS := sIf (tB (eOp oNe (eTold subX toldX (eCall m_cut_in_order (aCons (eOp oSub (eC (.int 0)) (eC (.int 1))) (aCons (eLst (aNil)) (aNil))))) (eC (.str [115, 105, 122, 101])))) (sRet (eC (.bl false))) (sNil)
def b_law_cases1_s7 : MS := sIf (tB (eOp oNe (eTold subX toldX (eCall m_knots (aCons (eOp oSub (eC (.int 0)) (eC (.int 1))) (aCons (eLst (aNil)) (aNil))))) (eC (.str [115, 105, 122, 101])))) (sRet (eC (.bl false))) (sNil)
def b_law_cases1_s8 : MS := sRet (eC (.bl true))
def b_law_cases1 : MS := sSeq b_law_cases1_s1 (sSeq b_law_cases1_s2 (sSeq b_law_cases1_s3 (sSeq b_law_cases1_s4 (sSeq b_law_cases1_s5 (sSeq b_law_cases1_s6 (sSeq b_law_cases1_s7 (b_law_cases1_s8)))))))
def m_law_cases1 : Fn := mkFn 0 0 b_law_cases1
/-- _law_rest1: 0 dice, 1 candles, 2 over, 3 loss, 4 k, 5 need, 6 high_one, 7 cord, 8 some, 9 want, 10 good, 11 long, 12 one, 13 thick, 14 table, 15 kinds, 16 most, 17 kind, 18 lengths, 19 cut, 20 tied, 21 due, 22 a, 23 b, 24 spot -/
def b_law_rest1_l1 : MS := sSet 19 (eOp oAdd (eV 19) (eIf (tB (eOp oLe (eOp oAdd (eCB bSum (aCons (eV 19) (aNil))) (eV 12)) (eV 11))) (eLst (aCons (eV 12) (aNil))) (eLst (aNil))))
def b_law_rest1_s1 : MS := sAsg (gT [gN 1, gN 2, gN 3]) (eTup (aCons (eLC [4] (iRange1 (aCons (eCall m_law_roll (aCons (eV 0) (aCons (eC (.int 5)) (aNil)))) (aNil))) (gN 4) (tYes) (eOp oAdd (eC (.int 1)) (eCall m_law_roll (aCons (eV 0) (aCons (eC (.int 20)) (aNil)))))) (aCons (eCall m_law_roll (aCons (eV 0) (aCons (eC (.int 5)) (aNil)))) (aCons (eCall m_law_roll (aCons (eV 0) (aCons (eC (.int 100)) (aNil)))) (aNil)))))
def b_law_rest1_s2 : MS := sSet 5 (eCB bSum (aCons (eLC [6] (iSeq (eV 1)) (gN 6) (tYes) (eOp oAdd (eV 6) (eV 2))) (aNil)))
def b_law_rest1_s3 : MS := sSet 7 (eCall m_cord_for (aCons (eV 1) (aCons (eV 2) (aCons (eV 3) (aNil)))))
def b_law_rest1_s4 : MS := sIf (tOr (tB (eOp oLt (eOp oMul (eV 7) (eOp oSub (eC (.int 100)) (eV 3))) (eOp oMul (eC (.int 100)) (eV 5)))) (tAnd (tB (eOp oGt (eV 7) (eC (.int 0)))) (tB (eOp oGe (eOp oMul (eOp oSub (eV 7) (eC (.int 1))) (eOp oSub (eC (.int 100)) (eV 3))) (eOp oMul (eC (.int 100)) (eV 5)))))) (sRet (eC (.bl false))) (sNil)
def b_law_rest1_s5 : MS := sAsg (gT [gN 8, gN 9]) (eTup (aCons (eLC [4] (iRange1 (aCons (eCall m_law_roll (aCons (eV 0) (aCons (eC (.int 5)) (aNil)))) (aNil))) (gN 4) (tYes) (eCall m_law_roll (aCons (eV 0) (aCons (eC (.int 25)) (aNil))))) (aCons (eOp oAdd (eC (.int 1)) (eCall m_law_roll (aCons (eV 0) (aCons (eC (.int 6)) (aNil))))) (aNil))))
def b_law_rest1_s6 : MS := sSet 10 (eLC [11] (iRange2 (aCons (eC (.int 1)) (aCons (eC (.int 26)) (aNil)))) (gN 11) (tB (eOp oGe (eCB bSum (aCons (eLC [12] (iSeq (eV 8)) (gN 12) (tYes) (eOp oDiv (eV 12) (eV 11))) (aNil))) (eV 9))) (eV 11))
def b_law_rest1_s7 : MS := sIf (tB (eOp oNe (eTold subX toldX (eCall m_longest_equal (aCons (eV 8) (aCons (eV 9) (aNil))))) (eIf (tB (eOp oNe (eV 10) (eLst (aNil)))) (eCB bMax (aCons (eV 10) (aNil))) (eC (.str [110, 111, 32, 119, 97, 121]))))) (sRet (eC (.bl false))) (sNil)
def b_law_rest1_s8 : MS := sAsg (gT [gN 13, gN 14]) (eTup (aCons (eCall m_law_roll (aCons (eV 0) (aCons (eC (.int 12)) (aNil)))) (aCons (eOp oIx (eLst (aCons (eLst (aCons (eTup (aCons (eC (.int 3)) (aCons (eC (.str [116, 104, 105, 110])) (aNil)))) (aCons (eTup (aCons (eC (.int 6)) (aCons (eC (.str [109, 105, 100])) (aNil)))) (aCons (eTup (aCons (eC (.int 9)) (aCons (eC (.str [116, 104, 105, 99, 107])) (aNil)))) (aNil))))) (aCons (eLst (aCons (eTup (aCons (eC (.int 5)) (aCons (eC (.str [111, 110, 101])) (aNil)))) (aNil))) (aCons (eLst (aCons (eTup (aCons (eC (.int 4)) (aCons (eC (.str [97])) (aNil)))) (aCons (eTup (aCons (eC (.int 4)) (aCons (eC (.str [98])) (aNil)))) (aNil)))) (aCons (eLst (aNil)) (aNil)))))) (eCall m_law_roll (aCons (eV 0) (aCons (eC (.int 4)) (aNil))))) (aNil))))
def b_law_rest1_s9 : MS := sSet 15 (eLC [16, 17] (iSeq (eV 14)) (gT [gN 16, gN 17]) (tB (eOp oGe (eV 16) (eV 13))) (eV 17))
def b_law_rest1_s10 : MS := sIf (tB (eOp oNe (eTold subX toldX (eCall m_kind_for (aCons (eV 13) (aCons (eV 14) (aNil))))) (eIf (tB (eOp oEq (eCB bLen (aCons (eV 14) (aNil))) (eC (.int 2)))) (eC (.str [115, 105, 122, 101])) (eOp oIx (eOp oAdd (eV 15) (eLst (aCons (eC (.str [110, 111, 32, 119, 97, 121])) (aNil)))) (eC (.int 0)))))) (sRet (eC (.bl false))) (sNil)
def b_law_rest1_s11 : MS := sAsg (gT [gN 11, gN 18, gN 19]) (eTup (aCons (eCall m_law_roll (aCons (eV 0) (aCons (eC (.int 30)) (aNil)))) (aCons (eLC [4] (iRange1 (aCons (eCall m_law_roll (aCons (eV 0) (aCons (eC (.int 7)) (aNil)))) (aNil))) (gN 4) (tYes) (eOp oAdd (eC (.int 1)) (eCall m_law_roll (aCons (eV 0) (aCons (eC (.int 9)) (aNil)))))) (aCons (eLst (aNil)) (aNil)))))
def b_law_rest1_s12 : MS := sFor (iSeq (eV 18)) (gN 12) b_law_rest1_l1
def b_law_rest1_s13 : MS := sIf (tB (eOp oNe (eCall m_cut_in_order (aCons (eV 11) (aCons (eV 18) (aNil)))) (eTup (aCons (eCB bTuple (aCons (eV 19) (aNil))) (aCons (eOp oSub (eV 11) (eCB bSum (aCons (eV 19) (aNil)))) (aNil)))))) (sRet (eC (.bl false))) (sNil)
def b_law_rest1_s14 : MS := sSet 20 (eLC [4] (iRange1 (aCons (eCall m_law_roll (aCons (eV 0) (aCons (eC (.int 5)) (aNil)))) (aNil))) (gN 4) (tYes) (eCall m_law_roll (aCons (eV 0) (aCons (eOp oAdd (eOp oAdd (eV 11) (eC (.int 1))) (eCB bInt (aCons (eOp oEq (eCall m_law_roll (aCons (eV 0) (aCons (eC (.int 12)) (aNil)))) (eC (.int 0))) (aNil)))) (aNil)))))
def b_law_rest1_s15 : MS := sSet 21 (eC (.str [110, 111, 32, 115, 117, 99, 104]))
def b_law_rest1_s16 : MS := sIf (tB (eOp oLe (eCB bMax (aCons (eOp oAdd (eLst (aCons (eC (.int 0)) (aNil))) (eV 20)) (aNil))) (eV 11))) (sSet 21 (eCB bMax (aCons (eCall m_law_flat (aCons (eLC [22] (iSeq (eOp oAdd (eLst (aCons (eC (.int 0)) (aNil))) (eV 20))) (gN 22) (tYes) (eLC [23] (iSeq (eOp oAdd (eV 20) (eLst (aCons (eV 11) (aNil))))) (gN 23) (tAnd (tB (eOp oGe (eV 23) (eV 22))) (tB (eOp oEq (eLC [24] (iSeq (eV 20)) (gN 24) (tB (eChain oLt oLt (eV 22) (eV 24) (eV 23))) (eV 24)) (eLst (aNil))))) (eOp oSub (eV 23) (eV 22)))) (aNil))) (aNil)))) (sNil)
def b_law_rest1_s17 : MS := sIf (tB (eOp oNe (eTold subX toldX (eCall m_knots (aCons (eV 11) (aCons (eV 20) (aNil))))) (eV 21))) (sRet (eC (.bl false))) (sNil)
def b_law_rest1_s18 : MS := sRet (eCall m_law_cases1 (aNil))
def b_law_rest1 : MS := sSeq b_law_rest1_s1 (sSeq b_law_rest1_s2 (sSeq b_law_rest1_s3 (sSeq b_law_rest1_s4 (sSeq b_law_rest1_s5 (sSeq b_law_rest1_s6 (sSeq b_law_rest1_s7 (sSeq b_law_rest1_s8 (sSeq b_law_rest1_s9 (sSeq b_law_rest1_s10 (sSeq b_law_rest1_s11 (sSeq b_law_rest1_s12 (sSeq b_law_rest1_s13 (sSeq b_law_rest1_s14 (sSeq b_law_rest1_s15 (sSeq b_law_rest1_s16 (sSeq b_law_rest1_s17 (b_law_rest1_s18)))))))))))))))))
def m_law_rest1 : Fn := mkFn 25 1 b_law_rest1
/-- law: 0 script, 1 dice, 2 high, 3 wick, 4 step, 5 row, 6 turn, 7 end, 8 soot, 9 cords, 10 rounds, 11 k, 12 sort, 13 much, 14 due, 15 told, 16 minute -/
def b_law_l3 : MS := sSeq (sSet 8 (eOp oAdd (eV 8) (eCB bInt (aCons (eOp oGt (eV 7) (eC (.int 5))) (aNil))))) (
  sPar 7 2 (aCons (eOp oSub (eOp oAdd (eV 7) (eC (.int 1))) (eCB bMin (aCons (eIf (tB (eOp oGt (eV 7) (eC (.int 5)))) (eC (.int 2)) (eC (.int 1))) (aCons (eV 7) (aNil))))) (aCons (eOp oSub (eV 2) (eC (.int 1))) (aNil))))
def b_law_l2 : MS := sSeq (sAsg (gT [gN 12, gN 13]) (eTup (aCons (eCall m_law_roll (aCons (eV 1) (aCons (eC (.int 6)) (aNil)))) (aCons (eCall m_law_roll (aCons (eV 1) (aCons (eC (.int 9)) (aNil)))) (aNil))))) (
  sSeq (sIf (tB (eOp oLt (eV 12) (eC (.int 3)))) (sSeq (sPar 14 15 (aCons (eIf (tB (eOp oLt (eV 13) (eC (.int 1)))) (eC (.str [115, 105, 122, 101])) (eC (.str [100, 101, 101, 100]))) (aCons (eTold subX toldX (eMeth 0 m_Wick_burn (eV 3) (aCons (eV 13) (aNil)))) (aNil)))) (
  sIf (tAnd (tB (eOp oGt (eV 13) (eC (.int 0)))) (tB (eOp oGt (eV 2) (eC (.int 0))))) (sSeq (sFor (iRange1 (aCons (eCB bMin (aCons (eV 13) (aCons (eV 2) (aNil)))) (aNil))) (gN 16) b_law_l3) (
  sSet 14 (eV 2))) (sNil))) (sIf (tB (eOp oLt (eV 12) (eC (.int 5)))) (sSeq (sSet 14 (eIf (tB (eOp oLt (eV 13) (eC (.int 1)))) (eC (.str [115, 105, 122, 101])) (eIf (tB (eOp oLe (eV 7) (eV 13))) (eC (.str [100, 101, 101, 100])) (eOp oSub (eV 7) (eV 13))))) (
  sSeq (sSet 15 (eTold subX toldX (eMeth 0 m_Wick_trim (eV 3) (aCons (eV 13) (aNil))))) (
  sSet 7 (eIf (tB (eOp oNotInS (eV 14) (eLst (aCons (eC (.str [115, 105, 122, 101])) (aCons (eC (.str [100, 101, 101, 100])) (aNil)))))) (eV 13) (eV 7))))) (sPar3 14 15 8 (aCons (eIf (tB (eOp oGt (eV 8) (eC (.int 0)))) (eV 8) (eC (.str [100, 101, 101, 100]))) (aCons (eTold subX toldX (eMeth 0 m_Wick_wipe (eV 3) (aNil))) (aCons (eC (.int 0)) (aNil))))))) (
  sIf (tOr (tB (eOp oNe (eV 15) (eV 14))) (tOr (tB (eOp oNe (eMeth 0 m_Wick_shown (eV 3) (aNil)) (eTup (aCons (eV 2) (aCons (eV 7) (aCons (eV 8) (aNil))))))) (tB (eOp oNe (eMeth 0 m_Wick_end (eV 3) (aNil)) (eV 7))))) (sRet (eC (.bl false))) (sNil)))
def b_law_l4 : MS := sSeq (sSet 11 (eOp oMod (eV 6) (eC (.int 2)))) (
  sSet 5 (eOp oAdd (eOp oAdd (eSl (eV 5) none (some (eV 11))) (eLst (aCons (eOp oIx (eV 5) (eOp oAdd (eV 11) (eC (.int 1)))) (aCons (eOp oIx (eV 5) (eV 11)) (aNil))))) (eSl (eV 5) (some (eOp oAdd (eV 11) (eC (.int 2)))) none)))
def b_law_l1 : MS := sSeq (sSet 2 (eOp oAdd (eC (.int 1)) (eCall m_law_roll (aCons (eV 1) (aCons (eC (.int 20)) (aNil)))))) (
  sSeq (sPar 7 8 (aCons (eOp oAdd (eC (.int 1)) (eCall m_law_roll (aCons (eV 1) (aCons (eC (.int 12)) (aNil))))) (aCons (eC (.int 0)) (aNil)))) (
  sSeq (sSet 3 (eMake 0 m_Wick_init (aCons (eOp oAdd (eV 2) (eV 7)) (aCons (eV 2) (aNil))))) (
  sSeq (sFor (iRange1 (aCons (eCall m_law_roll (aCons (eV 1) (aCons (eC (.int 10)) (aNil)))) (aNil))) (gN 4) b_law_l2) (
  sSeq (sAsg (gT [gN 9, gN 10]) (eTup (aCons (eSl (eLst (aCons (eC (.str [120])) (aCons (eC (.str [121])) (aCons (eC (.str [122])) (aCons (eC (.str [119])) (aNil)))))) none (some (eOp oAdd (eC (.int 3)) (eCB bInt (aCons (eOp oEq (eCall m_law_roll (aCons (eV 1) (aCons (eC (.int 9)) (aNil)))) (eC (.int 0))) (aNil)))))) (aCons (eCall m_law_roll (aCons (eV 1) (aCons (eC (.int 12)) (aNil)))) (aNil))))) (
  sSeq (sSet 5 (eCB bList (aCons (eV 9) (aNil)))) (
  sSeq (sFor (iRange1 (aCons (eV 10) (aNil))) (gN 6) b_law_l4) (
  sSeq (sIf (tB (eOp oNe (eTold subX toldX (eCB bList (aCons (eCall m_plaited (aCons (eV 9) (aCons (eV 10) (aNil)))) (aNil)))) (eIf (tB (eOp oEq (eCB bLen (aCons (eV 9) (aNil))) (eC (.int 3)))) (eV 5) (eC (.str [99, 97, 110, 100, 108, 101]))))) (sRet (eC (.bl false))) (sNil)) (
  sIf (tNot (tB (eCall m_law_rest1 (aCons (eV 1) (aNil))))) (sRet (eC (.bl false))) (sNil)))))))))
def b_law : MS := sSeq (sFor (iSeq (eCall m_law_rounds (aCons (eV 0) (aCons (eC (.int 1)) (aNil))))) (gN 1) b_law_l1) (
  sRet (eC (.bl true)))
def m_law : Fn := mkFn 17 1 b_law
def fa : List He.Fa := [
  .exc "BadCandle",
  .glo "BadCandle",
  .exc "BadSize",
  .glo "BadSize",
  .exc "BadDeed",
  .glo "BadDeed",
  .free "range",
  .free "min",
  .free "len",
  .free "list",
  .free "tuple",
  .free "any",
  .free "sum",
  .free "max",
  .exc "NoWay",
  .glo "NoWay",
  .free "zip",
  .exc "NoSuch",
  .glo "NoSuch",
  .free "sorted",
  .free "abs",
  .free "int",
  .glo "plaited",
  .glo "cord_for",
  .glo "longest_equal",
  .glo "kind_for",
  .glo "cut_in_order",
  .glo "knots",
  .glo "_law_flat",
  .glo "_law_dice",
  .glo "_law_roll",
  .glo "_law_rounds",
  .glo "_law_cases1",
  .glo "_law_rest1",
  .glo "law",
  .glo "_law_told",
  .cls "Wick",
  .glo "Wick",
  .mkr "Wick",
  .meth "Wick" "end",
  .meth "Wick" "burn",
  .meth "Wick" "trim",
  .meth "Wick" "wipe",
  .meth "Wick" "shown",
  .noat "Wick" "long",
  .noat "Wick" "high",
  .noat "Wick" "soot",
  .exm "CandleFault" "BadSize" false,
  .exm "CandleFault" "BadCandle" false,
  .exm "CandleFault" "BadPlan" false,
  .exm "CandleFault" "NoSuch" false,
  .exm "CandleFault" "NoRoom" false,
  .exm "CandleFault" "NoWay" false,
  .exm "CandleFault" "BadDeed" false,
  .exm "BadCandle" "BadSize" false,
  .exm "BadCandle" "BadCandle" true,
  .exm "BadCandle" "BadPlan" false,
  .exm "BadCandle" "NoSuch" false,
  .exm "BadCandle" "NoRoom" false,
  .exm "BadCandle" "NoWay" false,
  .exm "BadCandle" "BadDeed" false,
  .exm "BadPlan" "BadSize" false,
  .exm "BadPlan" "BadCandle" false,
  .exm "BadPlan" "BadPlan" true,
  .exm "BadPlan" "NoSuch" false,
  .exm "BadPlan" "NoRoom" false,
  .exm "BadPlan" "NoWay" false,
  .exm "BadPlan" "BadDeed" false,
  .exm "BadSize" "BadSize" true,
  .exm "BadSize" "BadCandle" false,
  .exm "BadSize" "BadPlan" false,
  .exm "BadSize" "NoSuch" false,
  .exm "BadSize" "NoRoom" false,
  .exm "BadSize" "NoWay" false,
  .exm "BadSize" "BadDeed" false,
  .exm "NoSuch" "BadSize" false,
  .exm "NoSuch" "BadCandle" false,
  .exm "NoSuch" "BadPlan" false,
  .exm "NoSuch" "NoSuch" true,
  .exm "NoSuch" "NoRoom" false,
  .exm "NoSuch" "NoWay" false,
  .exm "NoSuch" "BadDeed" false,
  .exm "NoRoom" "BadSize" false,
  .exm "NoRoom" "BadCandle" false,
  .exm "NoRoom" "BadPlan" false,
  .exm "NoRoom" "NoSuch" false,
  .exm "NoRoom" "NoRoom" true,
  .exm "NoRoom" "NoWay" false,
  .exm "NoRoom" "BadDeed" false,
  .exm "NoWay" "BadSize" false,
  .exm "NoWay" "BadCandle" false,
  .exm "NoWay" "BadPlan" false,
  .exm "NoWay" "NoSuch" false,
  .exm "NoWay" "NoRoom" false,
  .exm "NoWay" "NoWay" true,
  .exm "NoWay" "BadDeed" false,
  .exm "BadDeed" "BadSize" false,
  .exm "BadDeed" "BadCandle" false,
  .exm "BadDeed" "BadPlan" false,
  .exm "BadDeed" "NoSuch" false,
  .exm "BadDeed" "NoRoom" false,
  .exm "BadDeed" "NoWay" false,
  .exm "BadDeed" "BadDeed" true,
  .glo "BadPlan",
  .glo "NoRoom"]
def qualOf : He.Defn → Str := fun p => match p.2 with
  | none => p.1
  | some m => p.1 ++ "." ++ m
def fn : List He.DefD := [
  ⟨("Wick", some "__init__"), "__init__", "Wick.__init__", defArgs s_Wick_init, defBody s_Wick_init, defScope s_Wick_init, [], []⟩,
  ⟨("Wick", some "end"), "end", "Wick.end", defArgs s_Wick_end, defBody s_Wick_end, defScope s_Wick_end, [], []⟩,
  ⟨("Wick", some "burn"), "burn", "Wick.burn", defArgs s_Wick_burn, defBody s_Wick_burn, defScope s_Wick_burn, [], []⟩,
  ⟨("Wick", some "trim"), "trim", "Wick.trim", defArgs s_Wick_trim, defBody s_Wick_trim, defScope s_Wick_trim, [], []⟩,
  ⟨("Wick", some "wipe"), "wipe", "Wick.wipe", defArgs s_Wick_wipe, defBody s_Wick_wipe, defScope s_Wick_wipe, [], []⟩,
  ⟨("Wick", some "shown"), "shown", "Wick.shown", defArgs s_Wick_shown, defBody s_Wick_shown, defScope s_Wick_shown, [], []⟩,
  ⟨("plaited", none), "plaited", "plaited", defArgs s_plaited, defBody s_plaited, defScope s_plaited, [], []⟩,
  ⟨("cord_for", none), "cord_for", "cord_for", defArgs s_cord_for, defBody s_cord_for, defScope s_cord_for, [], []⟩,
  ⟨("longest_equal", none), "longest_equal", "longest_equal", defArgs s_longest_equal, defBody s_longest_equal, defScope s_longest_equal, [], []⟩,
  ⟨("kind_for", none), "kind_for", "kind_for", defArgs s_kind_for, defBody s_kind_for, defScope s_kind_for, [], []⟩,
  ⟨("cut_in_order", none), "cut_in_order", "cut_in_order", defArgs s_cut_in_order, defBody s_cut_in_order, defScope s_cut_in_order, [], []⟩,
  ⟨("knots", none), "knots", "knots", defArgs s_knots, defBody s_knots, defScope s_knots, [], []⟩,
  ⟨("_law_flat", none), "_law_flat", "_law_flat", defArgs s_law_flat, defBody s_law_flat, defScope s_law_flat, [], []⟩,
  ⟨("_law_dice", none), "_law_dice", "_law_dice", defArgs s_law_dice, defBody s_law_dice, defScope s_law_dice, [], []⟩,
  ⟨("_law_roll", none), "_law_roll", "_law_roll", defArgs s_law_roll, defBody s_law_roll, defScope s_law_roll, [], []⟩,
  ⟨("_law_rounds", none), "_law_rounds", "_law_rounds", defArgs s_law_rounds, defBody s_law_rounds, defScope s_law_rounds, [], []⟩,
  ⟨("_law_cases1", none), "_law_cases1", "_law_cases1", defArgs s_law_cases1, defBody s_law_cases1, defScope s_law_cases1, [], []⟩,
  ⟨("_law_rest1", none), "_law_rest1", "_law_rest1", defArgs s_law_rest1, defBody s_law_rest1, defScope s_law_rest1, [], []⟩,
  ⟨("law", none), "law", "law", defArgs s_law, defBody s_law, defScope s_law, [], []⟩,
  ⟨("_law_told", none), "_law_told", "_law_told", defArgs s_law_told, defBody s_law_told, defScope s_law_told, [], []⟩]
def tf : List He.Defn := [("cord_for", none), ("longest_equal", none), ("kind_for", none), ("cut_in_order", none), ("knots", none), ("_law_cases1", none), ("_law_rest1", none), ("law", none)]
def gx (K : PySem.W.Frag) : Gx := { K := K, fn := fnL ["long", "high", "soot"], cl := fun k => match k with | _ => He.ga K "Wick", ex := fun k => match k with | 0 => He.ga K "CandleFault" | 1 => He.ga K "BadCandle" | 2 => He.ga K "BadPlan" | 3 => He.ga K "BadSize" | 4 => He.ga K "NoSuch" | 5 => He.ga K "NoRoom" | 6 => He.ga K "NoWay" | _ => He.ga K "BadDeed", tabs := [((He.cT K ("cord_for", none)).2, (("cord_for" : Str) ++ ".<locals>." ++ "<genexpr>")), ((He.cT K ("longest_equal", none)).2, (("longest_equal" : Str) ++ ".<locals>." ++ "<genexpr>")), ((He.cT K ("kind_for", none)).2, (("kind_for" : Str) ++ ".<locals>." ++ "<genexpr>")), ((He.cT K ("cut_in_order", none)).2, (("cut_in_order" : Str) ++ ".<locals>." ++ "<genexpr>")), ((He.cT K ("knots", none)).2, (("knots" : Str) ++ ".<locals>." ++ "<genexpr>")), ((He.cT K ("_law_cases1", none)).2, (("_law_cases1" : Str) ++ ".<locals>." ++ "<lambda>")), ((He.cT K ("_law_rest1", none)).2, (("_law_rest1" : Str) ++ ".<locals>." ++ "<lambda>")), ((He.cT K ("law", none)).2, (("law" : Str) ++ ".<locals>." ++ "<lambda>"))], fni := fnL_inj (by decide +kernel) (by decide +kernel) }
section
variable {P : Program} {w : World} {K : PySem.W.Frag} {mg : Str → Option Value} {base : Heap}
theorem fld_long (T : Tt fa fn tf K mg base) : ∀ k, Cls K ((gx K).cl k) ∧ NoAttr K ((gx K).cl k) "long" := fun k => match k with | _ => ⟨T.cls 36, T.noat 44⟩
theorem fld_high (T : Tt fa fn tf K mg base) : ∀ k, Cls K ((gx K).cl k) ∧ NoAttr K ((gx K).cl k) "high" := fun k => match k with | _ => ⟨T.cls 36, T.noat 45⟩
theorem fld_soot (T : Tt fa fn tf K mg base) : ∀ k, Cls K ((gx K).cl k) ∧ NoAttr K ((gx K).cl k) "soot" := fun k => match k with | _ => ⟨T.cls 36, T.noat 46⟩
theorem sc_told : FnScope ["what"] ["what"] (defScope s_law_told) := ⟨rfl, rfl, rfl, by decide +kernel, rfl, by decide +kernel, by decide +kernel⟩
theorem sub_told (T : Tt fa fn tf K mg base) : ∀ j i, subX j i = true → ∀ y ∈ toldX, PySem.W.exmOne K (.ref ((gx K).ex j)) (.ref ((gx K).ex y.1)) = some (subX j y.1) := by
  intro j i h y hy
  have hj : j < 8 := by
    unfold subX at h
    simp at h
    omega
  simp only [toldX, List.mem_cons, List.mem_nil_iff, or_false] at hy
  match j, hj with
  | 0, _ =>
    rcases hy with rfl | rfl | rfl | rfl | rfl | rfl | rfl
    · exact T.exm 47
    · exact T.exm 48
    · exact T.exm 49
    · exact T.exm 50
    · exact T.exm 51
    · exact T.exm 52
    · exact T.exm 53
  | 1, _ =>
    rcases hy with rfl | rfl | rfl | rfl | rfl | rfl | rfl
    · exact T.exm 54
    · exact T.exm 55
    · exact T.exm 56
    · exact T.exm 57
    · exact T.exm 58
    · exact T.exm 59
    · exact T.exm 60
  | 2, _ =>
    rcases hy with rfl | rfl | rfl | rfl | rfl | rfl | rfl
    · exact T.exm 61
    · exact T.exm 62
    · exact T.exm 63
    · exact T.exm 64
    · exact T.exm 65
    · exact T.exm 66
    · exact T.exm 67
  | 3, _ =>
    rcases hy with rfl | rfl | rfl | rfl | rfl | rfl | rfl
    · exact T.exm 68
    · exact T.exm 69
    · exact T.exm 70
    · exact T.exm 71
    · exact T.exm 72
    · exact T.exm 73
    · exact T.exm 74
  | 4, _ =>
    rcases hy with rfl | rfl | rfl | rfl | rfl | rfl | rfl
    · exact T.exm 75
    · exact T.exm 76
    · exact T.exm 77
    · exact T.exm 78
    · exact T.exm 79
    · exact T.exm 80
    · exact T.exm 81
  | 5, _ =>
    rcases hy with rfl | rfl | rfl | rfl | rfl | rfl | rfl
    · exact T.exm 82
    · exact T.exm 83
    · exact T.exm 84
    · exact T.exm 85
    · exact T.exm 86
    · exact T.exm 87
    · exact T.exm 88
  | 6, _ =>
    rcases hy with rfl | rfl | rfl | rfl | rfl | rfl | rfl
    · exact T.exm 89
    · exact T.exm 90
    · exact T.exm 91
    · exact T.exm 92
    · exact T.exm 93
    · exact T.exm 94
    · exact T.exm 95
  | 7, _ =>
    rcases hy with rfl | rfl | rfl | rfl | rfl | rfl | rfl
    · exact T.exm 96
    · exact T.exm 97
    · exact T.exm 98
    · exact T.exm 99
    · exact T.exm 100
    · exact T.exm 101
    · exact T.exm 102
theorem x_told {X : Cx} {E : XK} {params : Arguments} {body : Expr} {scope : Scope} {m : ME} {k : Nat} {at_ : He.Defn} {p lpos pos : Pos} (T : Tt fa fn tf X.K X.mg X.base) (hcode : X.env.code = .ref (He.codeOf X.K at_)) (j : Nat) (hr : Room (k + 2) X.A) (hLS : LamX.LamS X.env.scope scope)
    (hbody : ∀ (A : Around) (outer : List PySem.Env) (s : Shared) (H : Hp) (E' : XK) (f c' : Addr), Room k (A.deeper (LamX.lamEnv X scope s.heap.objs.size f c')) → ES (gx X.K) (LamX.lamCx X A outer s H E' scope f c') E' body m)
    (hj : tf[j]? = some at_ := by rfl) (hq : (gx X.K).tabs[j]? = some ((He.cT X.K at_).2, X.env.qual ++ "<lambda>") := by rfl)
    (hg : Gl X "_law_told" := by rfl) (hdef : defaultsOf params X.env = ([], []) := by rfl)
    (hbind : ∀ (q : Str) (cl : List (Str × Addr)) (pm cv ctv : Value), bindArgs (PySem.W.kla_fn "<lambda>" q params body scope cl pm cv ctv) ⟨[], []⟩ = pure [] := by intros; rfl) :
    ES (gx X.K) X E (.Call (.Name "_law_told" p) [.Lambda params body scope lpos] [] pos) (eTold subX toldX m) := by
  obtain ⟨fd, F⟩ := T.d.def_ 19 (d := ⟨("_law_told", none), "_law_told", "_law_told", defArgs s_law_told, defBody s_law_told, defScope s_law_told, [], []⟩) rfl
  have F' : FunD X.K "_law_told" "_law_told" (defArgs s_law_told) (defBody s_law_told) (defScope s_law_told) [] [] (He.fAd X.K ("_law_told", none)) fd := F
  exact es_toldD (L := toldL X.K (defBody s_law_told)) (T.glo 35) F' (fun _ _ _ _ _ _ us hl => match us, hl with | [_], _ => rfl) sc_told rfl (Or.inl rfl) rfl
    (fun y hy => by
      have hy' : y ∈ [(toldL X.K (defBody s_law_told)).getD 0 ("", .none, "", (⟨0, 0, 0, 0⟩, ⟨0, 0, 0, 0⟩, ⟨0, 0, 0, 0⟩, ⟨0, 0, 0, 0⟩, 0)), (toldL X.K (defBody s_law_told)).getD 1 ("", .none, "", (⟨0, 0, 0, 0⟩, ⟨0, 0, 0, 0⟩, ⟨0, 0, 0, 0⟩, ⟨0, 0, 0, 0⟩, 0)), (toldL X.K (defBody s_law_told)).getD 2 ("", .none, "", (⟨0, 0, 0, 0⟩, ⟨0, 0, 0, 0⟩, ⟨0, 0, 0, 0⟩, ⟨0, 0, 0, 0⟩, 0)), (toldL X.K (defBody s_law_told)).getD 3 ("", .none, "", (⟨0, 0, 0, 0⟩, ⟨0, 0, 0, 0⟩, ⟨0, 0, 0, 0⟩, ⟨0, 0, 0, 0⟩, 0)), (toldL X.K (defBody s_law_told)).getD 4 ("", .none, "", (⟨0, 0, 0, 0⟩, ⟨0, 0, 0, 0⟩, ⟨0, 0, 0, 0⟩, ⟨0, 0, 0, 0⟩, 0)), (toldL X.K (defBody s_law_told)).getD 5 ("", .none, "", (⟨0, 0, 0, 0⟩, ⟨0, 0, 0, 0⟩, ⟨0, 0, 0, 0⟩, ⟨0, 0, 0, 0⟩, 0)), (toldL X.K (defBody s_law_told)).getD 6 ("", .none, "", (⟨0, 0, 0, 0⟩, ⟨0, 0, 0, 0⟩, ⟨0, 0, 0, 0⟩, ⟨0, 0, 0, 0⟩, 0))] := hy
      simp only [List.mem_cons, List.mem_nil_iff, or_false] at hy'
      rcases hy' with rfl | rfl | rfl | rfl | rfl | rfl | rfl
      · exact ⟨rfl, T.glo 3, (show (("BadSize" : Str) == ("__debug__" : Str)) = false by decide)⟩
      · exact ⟨rfl, T.glo 1, (show (("BadCandle" : Str) == ("__debug__" : Str)) = false by decide)⟩
      · exact ⟨rfl, T.glo 103, (show (("BadPlan" : Str) == ("__debug__" : Str)) = false by decide)⟩
      · exact ⟨rfl, T.glo 18, (show (("NoSuch" : Str) == ("__debug__" : Str)) = false by decide)⟩
      · exact ⟨rfl, T.glo 104, (show (("NoRoom" : Str) == ("__debug__" : Str)) = false by decide)⟩
      · exact ⟨rfl, T.glo 15, (show (("NoWay" : Str) == ("__debug__" : Str)) = false by decide)⟩
      · exact ⟨rfl, T.glo 5, (show (("BadDeed" : Str) == ("__debug__" : Str)) = false by decide)⟩)
    rfl (fun _ => rfl) (sub_told T) (T.code j hj) hcode (List.mem_of_getElem? hq) (tabs_uniq T.nd (List.mem_of_getElem? hq)) hr hLS hbody hg hdef hbind (by decide) (by decide) (by decide)
theorem sc_Wick_init : FnScope ["self", "long", "high"] ["self", "long", "high"] (defScope s_Wick_init) := ⟨rfl, rfl, rfl, by decide +kernel, rfl, by decide +kernel, by decide +kernel⟩
theorem d_Wick_init (T : Tt fa fn tf K mg base) {cdv : Value} {A : Around} {outer : List PySem.Env} {s : Shared} {H : Hp} {E : XK} (hcd : cdv = .ref (He.codeOf K ("Wick", some "__init__"))) (hr : Room 0 (A.deeper (PyProof.Rows.envOfC "Wick.__init__" (defScope s_Wick_init) s.heap.objs.size (He.fAd K ("Wick", some "__init__")) cdv))) :
    SL (gx K) (cxOf (L2.CX P w) P w K mg base ["self", "long", "high"] "Wick.__init__" (defScope s_Wick_init) (He.fAd K ("Wick", some "__init__")) cdv A outer s H E) E (defBody s_Wick_init) b_Wick_init := by
  have xo : XO (gx K) (cxOf (L2.CX P w) P w K mg base ["self", "long", "high"] "Wick.__init__" (defScope s_Wick_init) (He.fAd K ("Wick", some "__init__")) cdv A outer s H E) E := XO.ofDef rfl sc_Wick_init.nd hr
  exact (sl_cons (st_if (bs_w (bw_or (bs_cmp op_lt sr_cmp rfl (es_v 2) es_int) (bw_or1 (bs_cmp op_le sr_cmp rfl (es_v 1) (es_v 2)))))
  (sl_one (st_raise (k := 1) xo (T.raise 0 1)))
  sl_nil)
  (sl_cons ((st_fld 0 rfl (fld_long T)) (es_v 0) (es_v 1))
  (sl_cons ((st_fld 1 rfl (fld_high T)) (es_v 0) (es_v 2))
  (sl_one ((st_fld 2 rfl (fld_soot T)) (es_v 0) es_int)))))
theorem f_Wick_init (T : Tt fa fn tf K mg base) : MkF (gx K) P w K mg base 1 (He.ga K "Wick") "Wick" ["self", "long", "high"] m_Wick_init := mkI T 0 38 37 sc_Wick_init (fun _ _ _ _ _ _ us hl => match us, hl with | [_, _, _], _ => rfl) (fun _ _ _ _ _ _ hcd hr => d_Wick_init T  hcd hr)
theorem sc_Wick_end : FnScope ["self"] ["self"] (defScope s_Wick_end) := ⟨rfl, rfl, rfl, by decide +kernel, rfl, by decide +kernel, by decide +kernel⟩
theorem d_Wick_end (T : Tt fa fn tf K mg base) {cdv : Value} {A : Around} {outer : List PySem.Env} {s : Shared} {H : Hp} {E : XK} (hcd : cdv = .ref (He.codeOf K ("Wick", some "end"))) (hr : Room 0 (A.deeper (PyProof.Rows.envOfC "Wick.end" (defScope s_Wick_end) s.heap.objs.size (He.fAd K ("Wick", some "end")) cdv))) :
    SL (gx K) (cxOf (L2.CX P w) P w K mg base ["self"] "Wick.end" (defScope s_Wick_end) (He.fAd K ("Wick", some "end")) cdv A outer s H E) E (defBody s_Wick_end) b_Wick_end := by
  have xo : XO (gx K) (cxOf (L2.CX P w) P w K mg base ["self"] "Wick.end" (defScope s_Wick_end) (He.fAd K ("Wick", some "end")) cdv A outer s H E) E := XO.ofDef rfl sc_Wick_end.nd hr
  exact (sl_one (st_ret (es_op op_sub sr_sub (es_fld 0 rfl (fld_long T) rfl (es_v 0)) (es_fld 1 rfl (fld_high T) rfl (es_v 0)))))
theorem f_Wick_end (T : Tt fa fn tf K mg base) : MeF (gx K) P w K mg base 1 (He.ga K "Wick") "end" ["self"] m_Wick_end := mkM T 1 39 36 sc_Wick_end (fun _ _ _ _ _ _ us hl => match us, hl with | [_], _ => rfl) (fun _ _ _ _ _ _ hcd hr => d_Wick_end T  hcd hr) (fnL_out (by decide) (by decide))
theorem sc_Wick_burn : FnScope ["self", "minutes", "minute", "over", "takes"] ["self", "minutes"] (defScope s_Wick_burn) := ⟨rfl, rfl, rfl, by decide +kernel, rfl, by decide +kernel, by decide +kernel⟩
theorem d_Wick_burn (T : Tt fa fn tf K mg base) (c_Wick_end : MeF (gx K) P w K mg base 1 (He.ga K "Wick") "end" ["self"] m_Wick_end) {cdv : Value} {A : Around} {outer : List PySem.Env} {s : Shared} {H : Hp} {E : XK} (hcd : cdv = .ref (He.codeOf K ("Wick", some "burn"))) (hr : Room 1 (A.deeper (PyProof.Rows.envOfC "Wick.burn" (defScope s_Wick_burn) s.heap.objs.size (He.fAd K ("Wick", some "burn")) cdv))) :
    SL (gx K) (cxOf (L2.CX P w) P w K mg base ["self", "minutes", "minute", "over", "takes"] "Wick.burn" (defScope s_Wick_burn) (He.fAd K ("Wick", some "burn")) cdv A outer s H E) E (defBody s_Wick_burn) b_Wick_burn := by
  have xo : XO (gx K) (cxOf (L2.CX P w) P w K mg base ["self", "minutes", "minute", "over", "takes"] "Wick.burn" (defScope s_Wick_burn) (He.fAd K ("Wick", some "burn")) cdv A outer s H E) E := XO.ofDef rfl sc_Wick_burn.nd hr
  exact (sl_cons (st_if (bs_cmp op_lt sr_cmp rfl (es_v 1) es_int)
  (sl_one (st_raise (k := 3) xo (T.raise 2 3)))
  sl_nil)
  (sl_cons (st_if (bs_cmp (op_eqD (xu xo)) sr_eq rfl (es_fld 1 rfl (fld_high T) rfl (es_v 0)) es_int)
  (sl_one (st_raise (k := 7) xo (T.raise 4 5)))
  sl_nil)
  (sl_cons ((st_for xo own_def) ((is_range1 (T.free 6)) (as_cons rfl (es_v 1) as_nil)) (gs_n 2 xo.nd) 
  (sl_cons (st_if (bs_cmp (op_eqD (xu xo)) sr_eq rfl (es_fld 1 rfl (fld_high T) rfl (es_v 0)) es_int)
  (sl_one st_break)
  sl_nil)
  (sl_cons ((st_set 3 xo) ((es_meth0 (kc := 0) xo c_Wick_end (hr.mono (by decide))) (es_v 0)))
  (sl_cons (st_fldaug 1 in_sub sr_rsub rfl (fld_high T) (es_v 0) es_int)
  (sl_cons ((st_set 4 xo) (es_if (bs_cmp op_gt sr_cmp rfl (es_v 3) es_int) es_int es_int))
  (sl_cons (st_fldaug 2 in_add sr_radd rfl (fld_soot T) (es_v 0) (es_if (bs_cmp op_gt sr_cmp rfl (es_v 3) es_int) es_int es_int))
  (sl_one (st_fldaug 0 in_sub sr_rsub rfl (fld_long T) (es_v 0) ((es_cb (callR_or (call_min2 rfl) (cr_min rfl)) sc_min (T.free 7) bt_min) (as_cons rfl (es_v 4) (as_cons rfl (es_op op_sub sr_sub (es_op op_sub sr_sub (es_fld 0 rfl (fld_long T) rfl (es_v 0)) (es_fld 1 rfl (fld_high T) rfl (es_v 0))) es_int) as_nil)))))))))))
  (sl_one (st_ret (es_fld 1 rfl (fld_high T) rfl (es_v 0)))))))
theorem f_Wick_burn (T : Tt fa fn tf K mg base) (c_Wick_end : MeF (gx K) P w K mg base 1 (He.ga K "Wick") "end" ["self"] m_Wick_end) : MeF (gx K) P w K mg base 2 (He.ga K "Wick") "burn" ["self", "minutes"] m_Wick_burn := mkM T 2 40 36 sc_Wick_burn (fun _ _ _ _ _ _ us hl => match us, hl with | [_, _], _ => rfl) (fun _ _ _ _ _ _ hcd hr => d_Wick_burn T c_Wick_end hcd hr) (fnL_out (by decide) (by decide))
theorem sc_Wick_trim : FnScope ["self", "end", "cut"] ["self", "end"] (defScope s_Wick_trim) := ⟨rfl, rfl, rfl, by decide +kernel, rfl, by decide +kernel, by decide +kernel⟩
theorem d_Wick_trim (T : Tt fa fn tf K mg base) (c_Wick_end : MeF (gx K) P w K mg base 1 (He.ga K "Wick") "end" ["self"] m_Wick_end) {cdv : Value} {A : Around} {outer : List PySem.Env} {s : Shared} {H : Hp} {E : XK} (hcd : cdv = .ref (He.codeOf K ("Wick", some "trim"))) (hr : Room 1 (A.deeper (PyProof.Rows.envOfC "Wick.trim" (defScope s_Wick_trim) s.heap.objs.size (He.fAd K ("Wick", some "trim")) cdv))) :
    SL (gx K) (cxOf (L2.CX P w) P w K mg base ["self", "end", "cut"] "Wick.trim" (defScope s_Wick_trim) (He.fAd K ("Wick", some "trim")) cdv A outer s H E) E (defBody s_Wick_trim) b_Wick_trim := by
  have xo : XO (gx K) (cxOf (L2.CX P w) P w K mg base ["self", "end", "cut"] "Wick.trim" (defScope s_Wick_trim) (He.fAd K ("Wick", some "trim")) cdv A outer s H E) E := XO.ofDef rfl sc_Wick_trim.nd hr
  exact (sl_cons (st_if (bs_cmp op_lt sr_cmp rfl (es_v 1) es_int)
  (sl_one (st_raise (k := 3) xo (T.raise 2 3)))
  sl_nil)
  (sl_cons (st_if (bs_cmp op_le sr_cmp rfl ((es_meth0 (kc := 0) xo c_Wick_end (hr.mono (by decide))) (es_v 0)) (es_v 1))
  (sl_one (st_raise (k := 7) xo (T.raise 4 5)))
  sl_nil)
  (sl_cons ((st_set 2 xo) (es_op op_sub sr_sub ((es_meth0 (kc := 0) xo c_Wick_end (hr.mono (by decide))) (es_v 0)) (es_v 1)))
  (sl_cons (st_fldaug 0 in_sub sr_rsub rfl (fld_long T) (es_v 0) (es_v 2))
  (sl_one (st_ret (es_v 2)))))))
theorem f_Wick_trim (T : Tt fa fn tf K mg base) (c_Wick_end : MeF (gx K) P w K mg base 1 (He.ga K "Wick") "end" ["self"] m_Wick_end) : MeF (gx K) P w K mg base 2 (He.ga K "Wick") "trim" ["self", "end"] m_Wick_trim := mkM T 3 41 36 sc_Wick_trim (fun _ _ _ _ _ _ us hl => match us, hl with | [_, _], _ => rfl) (fun _ _ _ _ _ _ hcd hr => d_Wick_trim T c_Wick_end hcd hr) (fnL_out (by decide) (by decide))
theorem sc_Wick_wipe : FnScope ["self", "found"] ["self"] (defScope s_Wick_wipe) := ⟨rfl, rfl, rfl, by decide +kernel, rfl, by decide +kernel, by decide +kernel⟩
theorem d_Wick_wipe (T : Tt fa fn tf K mg base) {cdv : Value} {A : Around} {outer : List PySem.Env} {s : Shared} {H : Hp} {E : XK} (hcd : cdv = .ref (He.codeOf K ("Wick", some "wipe"))) (hr : Room 0 (A.deeper (PyProof.Rows.envOfC "Wick.wipe" (defScope s_Wick_wipe) s.heap.objs.size (He.fAd K ("Wick", some "wipe")) cdv))) :
    SL (gx K) (cxOf (L2.CX P w) P w K mg base ["self", "found"] "Wick.wipe" (defScope s_Wick_wipe) (He.fAd K ("Wick", some "wipe")) cdv A outer s H E) E (defBody s_Wick_wipe) b_Wick_wipe := by
  have xo : XO (gx K) (cxOf (L2.CX P w) P w K mg base ["self", "found"] "Wick.wipe" (defScope s_Wick_wipe) (He.fAd K ("Wick", some "wipe")) cdv A outer s H E) E := XO.ofDef rfl sc_Wick_wipe.nd hr
  exact (sl_cons (st_if (bs_cmp (op_eqD (xu xo)) sr_eq rfl (es_fld 2 rfl (fld_soot T) rfl (es_v 0)) es_int)
  (sl_one (st_raise (k := 7) xo (T.raise 4 5)))
  sl_nil)
  (sl_cons ((st_set 1 xo) (es_fld 2 rfl (fld_soot T) rfl (es_v 0)))
  (sl_cons ((st_fld 2 rfl (fld_soot T)) (es_v 0) es_int)
  (sl_one (st_ret (es_v 1))))))
theorem f_Wick_wipe (T : Tt fa fn tf K mg base) : MeF (gx K) P w K mg base 1 (He.ga K "Wick") "wipe" ["self"] m_Wick_wipe := mkM T 4 42 36 sc_Wick_wipe (fun _ _ _ _ _ _ us hl => match us, hl with | [_], _ => rfl) (fun _ _ _ _ _ _ hcd hr => d_Wick_wipe T  hcd hr) (fnL_out (by decide) (by decide))
theorem sc_Wick_shown : FnScope ["self"] ["self"] (defScope s_Wick_shown) := ⟨rfl, rfl, rfl, by decide +kernel, rfl, by decide +kernel, by decide +kernel⟩
theorem d_Wick_shown (T : Tt fa fn tf K mg base) (c_Wick_end : MeF (gx K) P w K mg base 1 (He.ga K "Wick") "end" ["self"] m_Wick_end) {cdv : Value} {A : Around} {outer : List PySem.Env} {s : Shared} {H : Hp} {E : XK} (hcd : cdv = .ref (He.codeOf K ("Wick", some "shown"))) (hr : Room 1 (A.deeper (PyProof.Rows.envOfC "Wick.shown" (defScope s_Wick_shown) s.heap.objs.size (He.fAd K ("Wick", some "shown")) cdv))) :
    SL (gx K) (cxOf (L2.CX P w) P w K mg base ["self"] "Wick.shown" (defScope s_Wick_shown) (He.fAd K ("Wick", some "shown")) cdv A outer s H E) E (defBody s_Wick_shown) b_Wick_shown := by
  have xo : XO (gx K) (cxOf (L2.CX P w) P w K mg base ["self"] "Wick.shown" (defScope s_Wick_shown) (He.fAd K ("Wick", some "shown")) cdv A outer s H E) E := XO.ofDef rfl sc_Wick_shown.nd hr
  exact (sl_one (st_ret (es_tup (as_cons rfl (es_fld 1 rfl (fld_high T) rfl (es_v 0)) (as_cons rfl ((es_meth0 (kc := 0) xo c_Wick_end (hr.mono (by decide))) (es_v 0)) (as_cons rfl (es_fld 2 rfl (fld_soot T) rfl (es_v 0)) as_nil))))))
theorem f_Wick_shown (T : Tt fa fn tf K mg base) (c_Wick_end : MeF (gx K) P w K mg base 1 (He.ga K "Wick") "end" ["self"] m_Wick_end) : MeF (gx K) P w K mg base 2 (He.ga K "Wick") "shown" ["self"] m_Wick_shown := mkM T 5 43 36 sc_Wick_shown (fun _ _ _ _ _ _ us hl => match us, hl with | [_], _ => rfl) (fun _ _ _ _ _ _ hcd hr => d_Wick_shown T c_Wick_end hcd hr) (fnL_out (by decide) (by decide))
theorem sc_plaited : FnScope ["cords", "rounds", "row", "turn"] ["cords", "rounds"] (defScope s_plaited) := ⟨rfl, rfl, rfl, by decide +kernel, rfl, by decide +kernel, by decide +kernel⟩
theorem d_plaited (T : Tt fa fn tf K mg base) {cdv : Value} {A : Around} {outer : List PySem.Env} {s : Shared} {H : Hp} {E : XK} (hcd : cdv = .ref (He.codeOf K ("plaited", none))) (hr : Room 0 (A.deeper (PyProof.Rows.envOfC "plaited" (defScope s_plaited) s.heap.objs.size (He.fAd K ("plaited", none)) cdv))) :
    SL (gx K) (cxOf (L2.CX P w) P w K mg base ["cords", "rounds", "row", "turn"] "plaited" (defScope s_plaited) (He.fAd K ("plaited", none)) cdv A outer s H E) E (defBody s_plaited) b_plaited := by
  have xo : XO (gx K) (cxOf (L2.CX P w) P w K mg base ["cords", "rounds", "row", "turn"] "plaited" (defScope s_plaited) (He.fAd K ("plaited", none)) cdv A outer s H E) E := XO.ofDef rfl sc_plaited.nd hr
  exact (sl_cons (st_if (bs_cmp (op_neD (xu xo)) sr_ne rfl ((es_cb call_len sc_len (T.free 8) PySem.boot_len) (as_cons rfl (es_v 0) as_nil)) es_int)
  (sl_one (st_raise (k := 1) xo (T.raise 0 1)))
  sl_nil)
  (sl_cons (st_if (bs_cmp op_lt sr_cmp rfl (es_v 1) es_int)
  (sl_one (st_raise (k := 3) xo (T.raise 2 3)))
  sl_nil)
  (sl_cons ((st_set 2 xo) ((es_cty call_list_of sc_list (T.free 9) bt_list) (as_cons rfl (es_v 0) as_nil)))
  (sl_cons ((st_for xo own_def) ((is_range1 (T.free 6)) (as_cons rfl (es_v 1) as_nil)) (gs_n 3 xo.nd) 
  (sl_one (st_if (bs_cmp (op_eqD (xu xo)) sr_eq rfl (es_op op_modN sr_mod (es_v 3) es_int) es_int)
  (sl_one ((st_set 2 xo) (es_lst (as_cons rfl (es_ix (by intro _ _; rfl) (es_v 2) es_int) (as_cons rfl (es_ix (by intro _ _; rfl) (es_v 2) es_int) (as_cons rfl (es_ix (by intro _ _; rfl) (es_v 2) es_int) as_nil))))))
  (sl_one ((st_set 2 xo) (es_lst (as_cons rfl (es_ix (by intro _ _; rfl) (es_v 2) es_int) (as_cons rfl (es_ix (by intro _ _; rfl) (es_v 2) es_int) (as_cons rfl (es_ix (by intro _ _; rfl) (es_v 2) es_int) as_nil)))))))))
  (sl_one (st_ret ((es_cty call_tuple_of sc_tuple (T.free 10) bt_tuple) (as_cons rfl (es_v 2) as_nil))))))))
theorem f_plaited (T : Tt fa fn tf K mg base) : FnF (gx K) P w K mg base 1 "plaited" ["cords", "rounds"] m_plaited := mkF T 6 22 sc_plaited (fun _ _ _ _ _ _ us hl => match us, hl with | [_, _], _ => rfl) (fun _ _ _ _ _ _ hcd hr => d_plaited T  hcd hr)
theorem sc_cord_for : FnScope ["candles", "over", "loss", "high", "whole"] ["candles", "over", "loss"] (defScope s_cord_for) := ⟨rfl, rfl, rfl, by decide +kernel, rfl, by decide +kernel, by decide +kernel⟩
theorem d_cord_for (T : Tt fa fn tf K mg base) {cdv : Value} {A : Around} {outer : List PySem.Env} {s : Shared} {H : Hp} {E : XK} (hcd : cdv = .ref (He.codeOf K ("cord_for", none))) (hr : Room 0 (A.deeper (PyProof.Rows.envOfC "cord_for" (defScope s_cord_for) s.heap.objs.size (He.fAd K ("cord_for", none)) cdv))) :
    SL (gx K) (cxOf (L2.CX P w) P w K mg base ["candles", "over", "loss", "high", "whole"] "cord_for" (defScope s_cord_for) (He.fAd K ("cord_for", none)) cdv A outer s H E) E (defBody s_cord_for) b_cord_for := by
  have xo : XO (gx K) (cxOf (L2.CX P w) P w K mg base ["candles", "over", "loss", "high", "whole"] "cord_for" (defScope s_cord_for) (He.fAd K ("cord_for", none)) cdv A outer s H E) E := XO.ofDef rfl sc_cord_for.nd hr
  exact (sl_cons (st_if (bs_w (bw_or (bs_cmp op_lt sr_cmp rfl (es_v 1) es_int) (bw_or (bs_not (bs_chain op_le sr_cmp op_lt sr_cmp (by with_unfolding_all rfl) es_int (es_v 2) es_int)) (bw_or1 (bs_val (by intro _; rfl) ((es_any (T.free 11)) (gj_seq (j := 3) hr (T.code 0) hcd (List.mem_of_getElem? (i := 0) rfl) (tabs_uniq T.nd (List.mem_of_getElem? (i := 0) rfl)) (genOk_by (by kernel_rfl)) (es_v 0) (q_cmp qo_lt rfl (q_own 3 (List.mem_of_getElem? (i := 0) rfl) rfl) q_int) (.inl ⟨rfl, rfl⟩))))))))
  (sl_one (st_raise (k := 3) xo (T.raise 2 3)))
  sl_nil)
  (sl_cons ((st_set 4 xo) (es_op op_addAll sr_add ((es_cb (cr_sum rfl) sc_sum (T.free 12) bt_sum) (as_cons rfl (es_v 0) as_nil)) (es_op op_mulAll sr_mul (es_v 1) ((es_cb call_len sc_len (T.free 8) PySem.boot_len) (as_cons rfl (es_v 0) as_nil)))))
  (sl_one (st_ret (es_op op_sub sr_sub es_int (es_op op_fdivN sr_div (es_op op_sub sr_sub es_int (es_op op_mulAll sr_mul (es_v 4) es_int)) (es_op op_sub sr_sub es_int (es_v 2))))))))
theorem f_cord_for (T : Tt fa fn tf K mg base) : FnF (gx K) P w K mg base 1 "cord_for" ["candles", "over", "loss"] m_cord_for := mkF T 7 23 sc_cord_for (fun _ _ _ _ _ _ us hl => match us, hl with | [_, _, _], _ => rfl) (fun _ _ _ _ _ _ hcd hr => d_cord_for T  hcd hr)
theorem sc_longest_equal : FnScope ["cords", "need", "cord", "low", "high", "middle"] ["cords", "need"] (defScope s_longest_equal) := ⟨rfl, rfl, rfl, by decide +kernel, rfl, by decide +kernel, by decide +kernel⟩
theorem d_longest_equal (T : Tt fa fn tf K mg base) {cdv : Value} {A : Around} {outer : List PySem.Env} {s : Shared} {H : Hp} {E : XK} (hcd : cdv = .ref (He.codeOf K ("longest_equal", none))) (hr : Room 0 (A.deeper (PyProof.Rows.envOfC "longest_equal" (defScope s_longest_equal) s.heap.objs.size (He.fAd K ("longest_equal", none)) cdv))) :
    SL (gx K) (cxOf (L2.CX P w) P w K mg base ["cords", "need", "cord", "low", "high", "middle"] "longest_equal" (defScope s_longest_equal) (He.fAd K ("longest_equal", none)) cdv A outer s H E) E (defBody s_longest_equal) b_longest_equal := by
  have xo : XO (gx K) (cxOf (L2.CX P w) P w K mg base ["cords", "need", "cord", "low", "high", "middle"] "longest_equal" (defScope s_longest_equal) (He.fAd K ("longest_equal", none)) cdv A outer s H E) E := XO.ofDef rfl sc_longest_equal.nd hr
  exact (sl_cons (st_if (bs_w (bw_or (bs_cmp op_lt sr_cmp rfl (es_v 1) es_int) (bw_or1 (bs_val (by intro _; rfl) ((es_any (T.free 11)) (gj_seq (j := 2) hr (T.code 1) hcd (List.mem_of_getElem? (i := 1) rfl) (tabs_uniq T.nd (List.mem_of_getElem? (i := 1) rfl)) (genOk_by (by kernel_rfl)) (es_v 0) (q_cmp qo_lt rfl (q_own 2 (List.mem_of_getElem? (i := 0) rfl) rfl) q_int) (.inl ⟨rfl, rfl⟩)))))))
  (sl_one (st_raise (k := 3) xo (T.raise 2 3)))
  sl_nil)
  (sl_cons ((st_par 3 4 xo) (as_cons rfl es_int (as_cons rfl ((es_cb (callR_or (call_max2 rfl) (cr_max rfl)) sc_max (T.free 13) bt_max) (as_cons rfl (es_op op_addAll sr_add ((es_cty call_list_of sc_list (T.free 9) bt_list) (as_cons rfl (es_v 0) as_nil)) (es_lst (as_cons rfl es_int as_nil))) as_nil)) as_nil)))
  (sl_cons (st_while own_def (bs_cmp op_lt sr_cmp rfl (es_v 3) (es_v 4))
  (sl_cons ((st_set 5 xo) (es_op op_fdivN sr_div (es_op op_addAll sr_add (es_op op_addAll sr_add (es_v 3) (es_v 4)) es_int) es_int))
  (sl_one (st_if (bs_cmp op_ge sr_cmp rfl ((es_sum (T.free 12)) (gj_seq (j := 2) hr (T.code 1) hcd (List.mem_of_getElem? (i := 1) rfl) (tabs_uniq T.nd (List.mem_of_getElem? (i := 1) rfl)) (genOk_by (by kernel_rfl)) (es_v 0) (q_op qo_div (q_own 2 (List.mem_of_getElem? (i := 0) rfl) rfl) (q_free 5 rfl rfl)) (.inl ⟨rfl, rfl⟩))) (es_v 1))
  (sl_one ((st_set 3 xo) (es_v 5)))
  (sl_one ((st_set 4 xo) (es_op op_sub sr_sub (es_v 5) es_int)))))))
  (sl_cons (st_if (bs_cmp (op_eqD (xu xo)) sr_eq rfl (es_v 3) es_int)
  (sl_one (st_raise (k := 6) xo (T.raise 14 15)))
  sl_nil)
  (sl_one (st_ret (es_v 3)))))))
theorem f_longest_equal (T : Tt fa fn tf K mg base) : FnF (gx K) P w K mg base 1 "longest_equal" ["cords", "need"] m_longest_equal := mkF T 8 24 sc_longest_equal (fun _ _ _ _ _ _ us hl => match us, hl with | [_, _], _ => rfl) (fun _ _ _ _ _ _ hcd hr => d_longest_equal T  hcd hr)
theorem sc_kind_for : FnScope ["thick", "table", "before", "after", "most", "kind"] ["thick", "table"] (defScope s_kind_for) := ⟨rfl, rfl, rfl, by decide +kernel, rfl, by decide +kernel, by decide +kernel⟩
theorem d_kind_for (T : Tt fa fn tf K mg base) {cdv : Value} {A : Around} {outer : List PySem.Env} {s : Shared} {H : Hp} {E : XK} (hcd : cdv = .ref (He.codeOf K ("kind_for", none))) (hr : Room 0 (A.deeper (PyProof.Rows.envOfC "kind_for" (defScope s_kind_for) s.heap.objs.size (He.fAd K ("kind_for", none)) cdv))) :
    SL (gx K) (cxOf (L2.CX P w) P w K mg base ["thick", "table", "before", "after", "most", "kind"] "kind_for" (defScope s_kind_for) (He.fAd K ("kind_for", none)) cdv A outer s H E) E (defBody s_kind_for) b_kind_for := by
  have xo : XO (gx K) (cxOf (L2.CX P w) P w K mg base ["thick", "table", "before", "after", "most", "kind"] "kind_for" (defScope s_kind_for) (He.fAd K ("kind_for", none)) cdv A outer s H E) E := XO.ofDef rfl sc_kind_for.nd hr
  exact (sl_cons (st_if (bs_val (by intro _; rfl) ((es_any (T.free 11)) (gj_zip (ja := 2) (jb := 3) hr (T.code 2) hcd (List.mem_of_getElem? (i := 2) rfl) (tabs_uniq T.nd (List.mem_of_getElem? (i := 2) rfl)) (genOk_by (by kernel_rfl)) (by decide) (by decide) (T.free 16) (as_cons rfl (es_v 1) (as_cons rfl (es_sl (es_v 1) (os_some es_int) os_none) as_nil)) (q_cmp qo_le rfl (q_ix (by intro _ _; rfl) (q_own 3 (List.mem_of_getElem? (i := 1) rfl) rfl) q_int) (q_ix (by intro _ _; rfl) (q_own 2 (List.mem_of_getElem? (i := 0) rfl) rfl) q_int)) (.inl ⟨rfl, rfl⟩))))
  (sl_one (st_raise (k := 3) xo (T.raise 2 3)))
  sl_nil)
  (sl_cons ((st_for xo own_def) (is_seq (es_v 1)) ((gs_t rfl) (gss_cons rfl (gs_n 4 xo.nd) (gss_cons rfl (gs_n 5 xo.nd) gss_nil))) 
  (sl_one (st_if (bs_cmp op_le sr_cmp rfl (es_v 0) (es_v 4))
  (sl_one (st_ret (es_v 5)))
  sl_nil)))
  (sl_one (st_raise (k := 6) xo (T.raise 14 15)))))
theorem f_kind_for (T : Tt fa fn tf K mg base) : FnF (gx K) P w K mg base 1 "kind_for" ["thick", "table"] m_kind_for := mkF T 9 25 sc_kind_for (fun _ _ _ _ _ _ us hl => match us, hl with | [_, _], _ => rfl) (fun _ _ _ _ _ _ hcd hr => d_kind_for T  hcd hr)
theorem sc_cut_in_order : FnScope ["cord", "lengths", "long", "found"] ["cord", "lengths"] (defScope s_cut_in_order) := ⟨rfl, rfl, rfl, by decide +kernel, rfl, by decide +kernel, by decide +kernel⟩
theorem d_cut_in_order (T : Tt fa fn tf K mg base) {cdv : Value} {A : Around} {outer : List PySem.Env} {s : Shared} {H : Hp} {E : XK} (hcd : cdv = .ref (He.codeOf K ("cut_in_order", none))) (hr : Room 0 (A.deeper (PyProof.Rows.envOfC "cut_in_order" (defScope s_cut_in_order) s.heap.objs.size (He.fAd K ("cut_in_order", none)) cdv))) :
    SL (gx K) (cxOf (L2.CX P w) P w K mg base ["cord", "lengths", "long", "found"] "cut_in_order" (defScope s_cut_in_order) (He.fAd K ("cut_in_order", none)) cdv A outer s H E) E (defBody s_cut_in_order) b_cut_in_order := by
  have xo : XO (gx K) (cxOf (L2.CX P w) P w K mg base ["cord", "lengths", "long", "found"] "cut_in_order" (defScope s_cut_in_order) (He.fAd K ("cut_in_order", none)) cdv A outer s H E) E := XO.ofDef rfl sc_cut_in_order.nd hr
  exact (sl_cons (st_if (bs_w (bw_or (bs_cmp op_lt sr_cmp rfl (es_v 0) es_int) (bw_or1 (bs_val (by intro _; rfl) ((es_any (T.free 11)) (gj_seq (j := 2) hr (T.code 3) hcd (List.mem_of_getElem? (i := 3) rfl) (tabs_uniq T.nd (List.mem_of_getElem? (i := 3) rfl)) (genOk_by (by kernel_rfl)) (es_v 1) (q_cmp qo_lt rfl (q_own 2 (List.mem_of_getElem? (i := 0) rfl) rfl) q_int) (.inl ⟨rfl, rfl⟩)))))))
  (sl_one (st_raise (k := 3) xo (T.raise 2 3)))
  sl_nil)
  (sl_cons ((st_set 3 xo) (es_newL as_nil))
  (sl_cons ((st_for xo own_def) (is_seq (es_v 1)) (gs_n 2 xo.nd) 
  (sl_one (st_if (bs_cmp op_le sr_cmp rfl (es_v 2) (es_v 0))
  (sl_cons ((st_expr) ((es_append) (es_v 3) (es_v 2)))
  (sl_one ((st_aug 0 xo ip_sub sr_isub) (es_v 2))))
  sl_nil)))
  (sl_one (st_ret (es_tup (as_cons rfl ((es_cty call_tuple_of sc_tuple (T.free 10) bt_tuple) (as_cons rfl (es_v 3) as_nil)) (as_cons rfl (es_v 0) as_nil))))))))
theorem f_cut_in_order (T : Tt fa fn tf K mg base) : FnF (gx K) P w K mg base 1 "cut_in_order" ["cord", "lengths"] m_cut_in_order := mkF T 10 26 sc_cut_in_order (fun _ _ _ _ _ _ us hl => match us, hl with | [_, _], _ => rfl) (fun _ _ _ _ _ _ hcd hr => d_cut_in_order T  hcd hr)
theorem sc_knots : FnScope ["cord", "tied", "place", "spots", "before", "after"] ["cord", "tied"] (defScope s_knots) := ⟨rfl, rfl, rfl, by decide +kernel, rfl, by decide +kernel, by decide +kernel⟩
theorem d_knots (T : Tt fa fn tf K mg base) {cdv : Value} {A : Around} {outer : List PySem.Env} {s : Shared} {H : Hp} {E : XK} (hcd : cdv = .ref (He.codeOf K ("knots", none))) (hr : Room 0 (A.deeper (PyProof.Rows.envOfC "knots" (defScope s_knots) s.heap.objs.size (He.fAd K ("knots", none)) cdv))) :
    SL (gx K) (cxOf (L2.CX P w) P w K mg base ["cord", "tied", "place", "spots", "before", "after"] "knots" (defScope s_knots) (He.fAd K ("knots", none)) cdv A outer s H E) E (defBody s_knots) b_knots := by
  have xo : XO (gx K) (cxOf (L2.CX P w) P w K mg base ["cord", "tied", "place", "spots", "before", "after"] "knots" (defScope s_knots) (He.fAd K ("knots", none)) cdv A outer s H E) E := XO.ofDef rfl sc_knots.nd hr
  exact (sl_cons (st_if (bs_cmp op_lt sr_cmp rfl (es_v 0) es_int)
  (sl_one (st_raise (k := 3) xo (T.raise 2 3)))
  sl_nil)
  (sl_cons (st_if (bs_val (by intro _; rfl) ((es_any (T.free 11)) (gj_seq (j := 2) hr (T.code 4) hcd (List.mem_of_getElem? (i := 4) rfl) (tabs_uniq T.nd (List.mem_of_getElem? (i := 4) rfl)) (genOk_by (by kernel_rfl)) (es_v 1) (q_not (q_chain qo_le qo_le (by with_unfolding_all rfl) q_int (q_own 2 (List.mem_of_getElem? (i := 0) rfl) rfl) (q_free 0 rfl rfl))) (.inl ⟨rfl, rfl⟩))))
  (sl_one (st_raise (k := 4) xo (T.raise 17 18)))
  sl_nil)
  (sl_cons ((st_set 3 xo) (es_op op_addAll sr_add (es_op op_addAll sr_add (es_lst (as_cons rfl es_int as_nil)) ((es_cb cr_sortedI sc_sorted (T.free 19) bt_sorted) (as_cons rfl (es_v 1) as_nil))) (es_lst (as_cons rfl (es_v 0) as_nil))))
  (sl_one (st_ret ((es_cb (callR_or (call_max2 rfl) (cr_max rfl)) sc_max (T.free 13) bt_max) (as_cons rfl (es_lc xo (own := [("before", 4), ("after", 5)]) ((is_zip (T.free 16)) (as_cons rfl (es_v 3) (as_cons rfl (es_sl (es_v 3) (os_some es_int) os_none) as_nil))) (blkOk_by (by kernel_rfl)) (fun _ => ((gs_t rfl) (gss_cons rfl (gs_n 4 xo.blk.nd) (gss_cons rfl (gs_n 5 xo.blk.nd) gss_nil)))) (by decide) (fun _ => ts_nil) (fun _ => (es_op op_sub sr_sub (es_v 5) (es_v 4)))) as_nil)))))))
theorem f_knots (T : Tt fa fn tf K mg base) : FnF (gx K) P w K mg base 1 "knots" ["cord", "tied"] m_knots := mkF T 11 27 sc_knots (fun _ _ _ _ _ _ us hl => match us, hl with | [_, _], _ => rfl) (fun _ _ _ _ _ _ hcd hr => d_knots T  hcd hr)
theorem sc_law_flat : FnScope ["rows", "found", "row"] ["rows"] (defScope s_law_flat) := ⟨rfl, rfl, rfl, by decide +kernel, rfl, by decide +kernel, by decide +kernel⟩
theorem d_law_flat (T : Tt fa fn tf K mg base) {cdv : Value} {A : Around} {outer : List PySem.Env} {s : Shared} {H : Hp} {E : XK} (hcd : cdv = .ref (He.codeOf K ("_law_flat", none))) (hr : Room 0 (A.deeper (PyProof.Rows.envOfC "_law_flat" (defScope s_law_flat) s.heap.objs.size (He.fAd K ("_law_flat", none)) cdv))) :
    SL (gx K) (cxOf (L2.CX P w) P w K mg base ["rows", "found", "row"] "_law_flat" (defScope s_law_flat) (He.fAd K ("_law_flat", none)) cdv A outer s H E) E (defBody s_law_flat) b_law_flat := by
  have xo : XO (gx K) (cxOf (L2.CX P w) P w K mg base ["rows", "found", "row"] "_law_flat" (defScope s_law_flat) (He.fAd K ("_law_flat", none)) cdv A outer s H E) E := XO.ofDef rfl sc_law_flat.nd hr
  exact (sl_cons ((st_set 1 xo) (es_lst as_nil))
  (sl_cons ((st_for xo own_def) (is_seq (es_v 0)) (gs_n 2 xo.nd) 
  (sl_one ((st_set 1 xo) (es_op op_addAll sr_add (es_v 1) (es_v 2)))))
  (sl_one (st_ret (es_v 1)))))
theorem f_law_flat (T : Tt fa fn tf K mg base) : FnF (gx K) P w K mg base 1 "_law_flat" ["rows"] m_law_flat := mkF T 12 28 sc_law_flat (fun _ _ _ _ _ _ us hl => match us, hl with | [_], _ => rfl) (fun _ _ _ _ _ _ hcd hr => d_law_flat T  hcd hr)
theorem sc_law_dice : FnScope ["cell"] ["cell"] (defScope s_law_dice) := ⟨rfl, rfl, rfl, by decide +kernel, rfl, by decide +kernel, by decide +kernel⟩
theorem d_law_dice (T : Tt fa fn tf K mg base) {cdv : Value} {A : Around} {outer : List PySem.Env} {s : Shared} {H : Hp} {E : XK} (hcd : cdv = .ref (He.codeOf K ("_law_dice", none))) (hr : Room 0 (A.deeper (PyProof.Rows.envOfC "_law_dice" (defScope s_law_dice) s.heap.objs.size (He.fAd K ("_law_dice", none)) cdv))) :
    SL (gx K) (cxOf (L2.CX P w) P w K mg base ["cell"] "_law_dice" (defScope s_law_dice) (He.fAd K ("_law_dice", none)) cdv A outer s H E) E (defBody s_law_dice) b_law_dice := by
  have xo : XO (gx K) (cxOf (L2.CX P w) P w K mg base ["cell"] "_law_dice" (defScope s_law_dice) (He.fAd K ("_law_dice", none)) cdv A outer s H E) E := XO.ofDef rfl sc_law_dice.nd hr
  exact (sl_cons (st_if (bs_chain op_lt sr_cmp op_lt sr_cmp (by with_unfolding_all rfl) (es_op op_sub sr_sub es_int es_int) (es_v 0) es_int)
  (sl_one (st_ret (es_newL (as_cons rfl ((es_cb call_abs sc_abs (T.free 20) bt_abs) (as_cons rfl (es_v 0) as_nil)) (as_cons rfl es_int (as_cons rfl es_int as_nil))))))
  sl_nil)
  (sl_one (st_ret (es_newL (as_cons rfl (es_v 0) (as_cons rfl (es_op op_addAll sr_add es_int (es_op op_modN sr_mod ((es_cty call_int1 sc_int (T.free 21) bt_int) (as_cons rfl (es_v 0) as_nil)) es_int)) (as_cons rfl ((es_cty call_int1 sc_int (T.free 21) bt_int) (as_cons rfl (es_cmp op_ge sr_cmp rfl (es_v 0) (es_op op_pow sr_pow es_int es_int)) as_nil)) as_nil)))))))
theorem f_law_dice (T : Tt fa fn tf K mg base) : FnF (gx K) P w K mg base 1 "_law_dice" ["cell"] m_law_dice := mkF T 13 29 sc_law_dice (fun _ _ _ _ _ _ us hl => match us, hl with | [_], _ => rfl) (fun _ _ _ _ _ _ hcd hr => d_law_dice T  hcd hr)
theorem sc_law_roll : FnScope ["dice", "many", "found"] ["dice", "many"] (defScope s_law_roll) := ⟨rfl, rfl, rfl, by decide +kernel, rfl, by decide +kernel, by decide +kernel⟩
theorem d_law_roll (T : Tt fa fn tf K mg base) {cdv : Value} {A : Around} {outer : List PySem.Env} {s : Shared} {H : Hp} {E : XK} (hcd : cdv = .ref (He.codeOf K ("_law_roll", none))) (hr : Room 0 (A.deeper (PyProof.Rows.envOfC "_law_roll" (defScope s_law_roll) s.heap.objs.size (He.fAd K ("_law_roll", none)) cdv))) :
    SL (gx K) (cxOf (L2.CX P w) P w K mg base ["dice", "many", "found"] "_law_roll" (defScope s_law_roll) (He.fAd K ("_law_roll", none)) cdv A outer s H E) E (defBody s_law_roll) b_law_roll := by
  have xo : XO (gx K) (cxOf (L2.CX P w) P w K mg base ["dice", "many", "found"] "_law_roll" (defScope s_law_roll) (He.fAd K ("_law_roll", none)) cdv A outer s H E) E := XO.ofDef rfl sc_law_roll.nd hr
  exact (sl_cons (st_if (bs_w (bw_or (bs_cmp (op_eqD (xu xo)) sr_eq rfl (es_ix (by intro _ _; rfl) (es_v 0) es_int) es_int) (bw_or1 (bs_w (bw_and (bs_cmp (op_eqD (xu xo)) sr_eq rfl (es_ix (by intro _ _; rfl) (es_v 0) es_int) es_int) (bw_and1 (bs_cmp op_gt sr_cmp rfl (es_ix (by intro _ _; rfl) (es_v 0) es_int) es_int)))))))
  (sl_cons ((st_set 2 xo) (es_op op_modN sr_mod ((es_cty call_int1 sc_int (T.free 21) bt_int) (as_cons rfl (es_ix (by intro _ _; rfl) (es_v 0) es_int) as_nil)) (es_v 1)))
  (sl_cons ((st_sub) (es_v 0) es_int (es_op op_fdivN sr_div (es_ix (by intro _ _; rfl) (es_v 0) es_int) (es_v 1)))
  (sl_one (st_ret (es_v 2)))))
  sl_nil)
  (sl_cons ((st_sub) (es_v 0) es_int es_int)
  (sl_cons ((st_sub) (es_v 0) es_int (es_op op_modN sr_mod ((es_cty call_int1 sc_int (T.free 21) bt_int) (as_cons rfl (es_op op_addAll sr_add (es_op op_addAll sr_add (es_op op_mulAll sr_mul (es_ix (by intro _ _; rfl) (es_v 0) es_int) es_int) (es_op op_mulAll sr_mul (es_ix (by intro _ _; rfl) (es_v 0) es_int) es_int)) es_int) as_nil)) es_int))
  (sl_cons ((st_sub) (es_v 0) es_int (es_op op_addAll sr_add (es_ix (by intro _ _; rfl) (es_v 0) es_int) es_int))
  (sl_one (st_ret (es_op op_modN sr_mod ((es_cty call_int1 sc_int (T.free 21) bt_int) (as_cons rfl (es_op op_addAll sr_add (es_op op_fdivN sr_div (es_ix (by intro _ _; rfl) (es_v 0) es_int) es_int) (es_ix (by intro _ _; rfl) (es_v 0) es_int)) as_nil)) (es_v 1))))))))
theorem f_law_roll (T : Tt fa fn tf K mg base) : FnF (gx K) P w K mg base 1 "_law_roll" ["dice", "many"] m_law_roll := mkF T 14 30 sc_law_roll (fun _ _ _ _ _ _ us hl => match us, hl with | [_, _], _ => rfl) (fun _ _ _ _ _ _ hcd hr => d_law_roll T  hcd hr)
theorem sc_law_rounds : FnScope ["script", "most", "cells", "cell"] ["script", "most"] (defScope s_law_rounds) := ⟨rfl, rfl, rfl, by decide +kernel, rfl, by decide +kernel, by decide +kernel⟩
theorem d_law_rounds (T : Tt fa fn tf K mg base) (c_law_dice : FnF (gx K) P w K mg base 1 "_law_dice" ["cell"] m_law_dice) {cdv : Value} {A : Around} {outer : List PySem.Env} {s : Shared} {H : Hp} {E : XK} (hcd : cdv = .ref (He.codeOf K ("_law_rounds", none))) (hr : Room 1 (A.deeper (PyProof.Rows.envOfC "_law_rounds" (defScope s_law_rounds) s.heap.objs.size (He.fAd K ("_law_rounds", none)) cdv))) :
    SL (gx K) (cxOf (L2.CX P w) P w K mg base ["script", "most", "cells", "cell"] "_law_rounds" (defScope s_law_rounds) (He.fAd K ("_law_rounds", none)) cdv A outer s H E) E (defBody s_law_rounds) b_law_rounds := by
  have xo : XO (gx K) (cxOf (L2.CX P w) P w K mg base ["script", "most", "cells", "cell"] "_law_rounds" (defScope s_law_rounds) (He.fAd K ("_law_rounds", none)) cdv A outer s H E) E := XO.ofDef rfl sc_law_rounds.nd hr
  exact (sl_cons ((st_set 2 xo) (es_sl (es_v 0) os_none (os_some (es_v 1))))
  (sl_cons (st_if (bs_cmp (op_eqD (xu xo)) sr_eq rfl (es_v 2) (es_lst as_nil))
  (sl_one ((st_set 2 xo) (es_lst (as_cons rfl es_int as_nil))))
  sl_nil)
  (sl_one (st_ret (es_lc xo (own := [("cell", 3)]) (is_seq (es_v 2)) (blkOk_by (by kernel_rfl)) (fun _ => (gs_n 3 xo.blk.nd)) (by decide) (fun _ => ts_nil) (fun _ => ((es_call xo.blk c_law_dice (hr.mono (by decide))) (as_cons rfl (es_v 3) as_nil))))))))
theorem f_law_rounds (T : Tt fa fn tf K mg base) (c_law_dice : FnF (gx K) P w K mg base 1 "_law_dice" ["cell"] m_law_dice) : FnF (gx K) P w K mg base 2 "_law_rounds" ["script", "most"] m_law_rounds := mkF T 15 31 sc_law_rounds (fun _ _ _ _ _ _ us hl => match us, hl with | [_, _], _ => rfl) (fun _ _ _ _ _ _ hcd hr => d_law_rounds T c_law_dice hcd hr)
theorem sc_law_cases1 : FnScope [] [] (defScope s_law_cases1) := ⟨rfl, rfl, rfl, by decide +kernel, rfl, by decide +kernel, by decide +kernel⟩
theorem d_law_cases1 (T : Tt fa fn tf K mg base) (c_Wick_init : MkF (gx K) P w K mg base 1 (He.ga K "Wick") "Wick" ["self", "long", "high"] m_Wick_init) (c_plaited : FnF (gx K) P w K mg base 1 "plaited" ["cords", "rounds"] m_plaited) (c_cord_for : FnF (gx K) P w K mg base 1 "cord_for" ["candles", "over", "loss"] m_cord_for) (c_longest_equal : FnF (gx K) P w K mg base 1 "longest_equal" ["cords", "need"] m_longest_equal) (c_cut_in_order : FnF (gx K) P w K mg base 1 "cut_in_order" ["cord", "lengths"] m_cut_in_order) (c_knots : FnF (gx K) P w K mg base 1 "knots" ["cord", "tied"] m_knots) {cdv : Value} {A : Around} {outer : List PySem.Env} {s : Shared} {H : Hp} {E : XK} (hcd : cdv = .ref (He.codeOf K ("_law_cases1", none))) (hr : Room 4 (A.deeper (PyProof.Rows.envOfC "_law_cases1" (defScope s_law_cases1) s.heap.objs.size (He.fAd K ("_law_cases1", none)) cdv))) :
    SL (gx K) (cxOf (L2.CX P w) P w K mg base [] "_law_cases1" (defScope s_law_cases1) (He.fAd K ("_law_cases1", none)) cdv A outer s H E) E (defBody s_law_cases1) b_law_cases1 := by
  have xo : XO (gx K) (cxOf (L2.CX P w) P w K mg base [] "_law_cases1" (defScope s_law_cases1) (He.fAd K ("_law_cases1", none)) cdv A outer s H E) E := XO.ofDef rfl sc_law_cases1.nd hr
  exact (sl_cons (st_if (bs_cmp (op_neD (xu xo)) sr_ne rfl (x_told (k := 2) T hcd 5 (hr.mono (by decide)) (LamX.lamS_by (by kernel_rfl)) (fun A outer s H E f c h1 => ((es_make (kc := 0) (xo.lam h1) c_Wick_init (h1.mono (by decide))) (as_cons rfl es_int (as_cons rfl es_int as_nil))))) (es_str [99, 97, 110, 100, 108, 101]))
  (sl_one (st_ret es_bl))
  sl_nil)
  (sl_cons (st_if (bs_cmp (op_neD (xu xo)) sr_ne rfl (x_told (k := 2) T hcd 5 (hr.mono (by decide)) (LamX.lamS_by (by kernel_rfl)) (fun A outer s H E f c h2 => ((es_make (kc := 0) (xo.lam h2) c_Wick_init (h2.mono (by decide))) (as_cons rfl es_int (as_cons rfl es_int as_nil))))) (es_str [99, 97, 110, 100, 108, 101]))
  (sl_one (st_ret es_bl))
  sl_nil)
  (sl_cons (st_if (bs_cmp (op_neD (xu xo)) sr_ne rfl (x_told (k := 1) T hcd 5 (hr.mono (by decide)) (LamX.lamS_by (by kernel_rfl)) (fun A outer s H E f c h3 => ((es_call (xo.lam h3) c_plaited (h3.mono (by decide))) (as_cons rfl (es_lst (as_cons rfl (es_str [97]) (as_cons rfl (es_str [98]) (as_cons rfl (es_str [99]) as_nil)))) (as_cons rfl (es_op op_sub sr_sub es_int es_int) as_nil))))) (es_str [115, 105, 122, 101]))
  (sl_one (st_ret es_bl))
  sl_nil)
  (sl_cons (st_if (bs_cmp (op_neD (xu xo)) sr_ne rfl (x_told (k := 1) T hcd 5 (hr.mono (by decide)) (LamX.lamS_by (by kernel_rfl)) (fun A outer s H E f c h4 => ((es_call (xo.lam h4) c_cord_for (h4.mono (by decide))) (as_cons rfl (es_lst (as_cons rfl es_int as_nil)) (as_cons rfl es_int (as_cons rfl es_int as_nil)))))) (es_str [115, 105, 122, 101]))
  (sl_one (st_ret es_bl))
  sl_nil)
  (sl_cons (st_if (bs_cmp (op_neD (xu xo)) sr_ne rfl (x_told (k := 1) T hcd 5 (hr.mono (by decide)) (LamX.lamS_by (by kernel_rfl)) (fun A outer s H E f c h5 => ((es_call (xo.lam h5) c_longest_equal (h5.mono (by decide))) (as_cons rfl (es_lst as_nil) (as_cons rfl es_int as_nil))))) (es_str [115, 105, 122, 101]))
  (sl_one (st_ret es_bl))
  sl_nil)
  (sl_cons (st_if (bs_cmp (op_neD (xu xo)) sr_ne rfl (x_told (k := 1) T hcd 5 (hr.mono (by decide)) (LamX.lamS_by (by kernel_rfl)) (fun A outer s H E f c h6 => ((es_call (xo.lam h6) c_cut_in_order (h6.mono (by decide))) (as_cons rfl (es_op op_sub sr_sub es_int es_int) (as_cons rfl (es_lst as_nil) as_nil))))) (es_str [115, 105, 122, 101]))
  (sl_one (st_ret es_bl))
  sl_nil)
  (sl_cons (st_if (bs_cmp (op_neD (xu xo)) sr_ne rfl (x_told (k := 1) T hcd 5 (hr.mono (by decide)) (LamX.lamS_by (by kernel_rfl)) (fun A outer s H E f c h7 => ((es_call (xo.lam h7) c_knots (h7.mono (by decide))) (as_cons rfl (es_op op_sub sr_sub es_int es_int) (as_cons rfl (es_lst as_nil) as_nil))))) (es_str [115, 105, 122, 101]))
  (sl_one (st_ret es_bl))
  sl_nil)
  (sl_one (st_ret es_bl)))))))))
theorem f_law_cases1 (T : Tt fa fn tf K mg base) (c_Wick_init : MkF (gx K) P w K mg base 1 (He.ga K "Wick") "Wick" ["self", "long", "high"] m_Wick_init) (c_plaited : FnF (gx K) P w K mg base 1 "plaited" ["cords", "rounds"] m_plaited) (c_cord_for : FnF (gx K) P w K mg base 1 "cord_for" ["candles", "over", "loss"] m_cord_for) (c_longest_equal : FnF (gx K) P w K mg base 1 "longest_equal" ["cords", "need"] m_longest_equal) (c_cut_in_order : FnF (gx K) P w K mg base 1 "cut_in_order" ["cord", "lengths"] m_cut_in_order) (c_knots : FnF (gx K) P w K mg base 1 "knots" ["cord", "tied"] m_knots) : FnF (gx K) P w K mg base 5 "_law_cases1" [] m_law_cases1 := mkF T 16 32 sc_law_cases1 (fun _ _ _ _ _ _ us hl => match us, hl with | [], _ => rfl) (fun _ _ _ _ _ _ hcd hr => d_law_cases1 T c_Wick_init c_plaited c_cord_for c_longest_equal c_cut_in_order c_knots hcd hr)
theorem sc_law_rest1 : FnScope ["dice", "candles", "over", "loss", "k", "need", "high_one", "cord", "some", "want", "good", "long", "one", "thick", "table", "kinds", "most", "kind", "lengths", "cut", "tied", "due", "a", "b", "spot"] ["dice"] (defScope s_law_rest1) := ⟨rfl, rfl, rfl, by decide +kernel, rfl, by decide +kernel, by decide +kernel⟩
theorem d_law_rest1 (T : Tt fa fn tf K mg base) (c_cord_for : FnF (gx K) P w K mg base 1 "cord_for" ["candles", "over", "loss"] m_cord_for) (c_law_cases1 : FnF (gx K) P w K mg base 5 "_law_cases1" [] m_law_cases1) (c_law_roll : FnF (gx K) P w K mg base 1 "_law_roll" ["dice", "many"] m_law_roll) (c_cut_in_order : FnF (gx K) P w K mg base 1 "cut_in_order" ["cord", "lengths"] m_cut_in_order) (c_law_flat : FnF (gx K) P w K mg base 1 "_law_flat" ["rows"] m_law_flat) (c_longest_equal : FnF (gx K) P w K mg base 1 "longest_equal" ["cords", "need"] m_longest_equal) (c_kind_for : FnF (gx K) P w K mg base 1 "kind_for" ["thick", "table"] m_kind_for) (c_knots : FnF (gx K) P w K mg base 1 "knots" ["cord", "tied"] m_knots) {cdv : Value} {A : Around} {outer : List PySem.Env} {s : Shared} {H : Hp} {E : XK} (hcd : cdv = .ref (He.codeOf K ("_law_rest1", none))) (hr : Room 5 (A.deeper (PyProof.Rows.envOfC "_law_rest1" (defScope s_law_rest1) s.heap.objs.size (He.fAd K ("_law_rest1", none)) cdv))) :
    SL (gx K) (cxOf (L2.CX P w) P w K mg base ["dice", "candles", "over", "loss", "k", "need", "high_one", "cord", "some", "want", "good", "long", "one", "thick", "table", "kinds", "most", "kind", "lengths", "cut", "tied", "due", "a", "b", "spot"] "_law_rest1" (defScope s_law_rest1) (He.fAd K ("_law_rest1", none)) cdv A outer s H E) E (defBody s_law_rest1) b_law_rest1 := by
  have xo : XO (gx K) (cxOf (L2.CX P w) P w K mg base ["dice", "candles", "over", "loss", "k", "need", "high_one", "cord", "some", "want", "good", "long", "one", "thick", "table", "kinds", "most", "kind", "lengths", "cut", "tied", "due", "a", "b", "spot"] "_law_rest1" (defScope s_law_rest1) (He.fAd K ("_law_rest1", none)) cdv A outer s H E) E := XO.ofDef rfl sc_law_rest1.nd hr
  exact (sl_cons ((st_asg) ((gs_t rfl) (gss_cons rfl (gs_n 1 xo.nd) (gss_cons rfl (gs_n 2 xo.nd) (gss_cons rfl (gs_n 3 xo.nd) gss_nil)))) (es_tup (as_cons rfl (es_lc xo (own := [("k", 4)]) ((is_range1 (T.free 6)) (as_cons rfl ((es_call xo c_law_roll (hr.mono (by decide))) (as_cons rfl (es_v 0) (as_cons rfl es_int as_nil))) as_nil)) (blkOk_by (by kernel_rfl)) (fun _ => (gs_n 4 xo.blk.nd)) (by decide) (fun _ => ts_nil) (fun _ => (es_op op_addAll sr_add es_int ((es_call xo.blk c_law_roll (hr.mono (by decide))) (as_cons rfl (es_v 0) (as_cons rfl es_int as_nil)))))) (as_cons rfl ((es_call xo c_law_roll (hr.mono (by decide))) (as_cons rfl (es_v 0) (as_cons rfl es_int as_nil))) (as_cons rfl ((es_call xo c_law_roll (hr.mono (by decide))) (as_cons rfl (es_v 0) (as_cons rfl es_int as_nil))) as_nil)))))
  (sl_cons ((st_set 5 xo) ((es_cb (cr_sum rfl) sc_sum (T.free 12) bt_sum) (as_cons rfl (es_lc xo (own := [("high_one", 6)]) (is_seq (es_v 1)) (blkOk_by (by kernel_rfl)) (fun _ => (gs_n 6 xo.blk.nd)) (by decide) (fun _ => ts_nil) (fun _ => (es_op op_addAll sr_add (es_v 6) (es_v 2)))) as_nil)))
  (sl_cons ((st_set 7 xo) ((es_call xo c_cord_for (hr.mono (by decide))) (as_cons rfl (es_v 1) (as_cons rfl (es_v 2) (as_cons rfl (es_v 3) as_nil)))))
  (sl_cons (st_if (bs_w (bw_or (bs_cmp op_lt sr_cmp rfl (es_op op_mulAll sr_mul (es_v 7) (es_op op_sub sr_sub es_int (es_v 3))) (es_op op_mulAll sr_mul es_int (es_v 5))) (bw_or1 (bs_w (bw_and (bs_cmp op_gt sr_cmp rfl (es_v 7) es_int) (bw_and1 (bs_cmp op_ge sr_cmp rfl (es_op op_mulAll sr_mul (es_op op_sub sr_sub (es_v 7) es_int) (es_op op_sub sr_sub es_int (es_v 3))) (es_op op_mulAll sr_mul es_int (es_v 5)))))))))
  (sl_one (st_ret es_bl))
  sl_nil)
  (sl_cons ((st_asg) ((gs_t rfl) (gss_cons rfl (gs_n 8 xo.nd) (gss_cons rfl (gs_n 9 xo.nd) gss_nil))) (es_tup (as_cons rfl (es_lc xo (own := [("k", 4)]) ((is_range1 (T.free 6)) (as_cons rfl ((es_call xo c_law_roll (hr.mono (by decide))) (as_cons rfl (es_v 0) (as_cons rfl es_int as_nil))) as_nil)) (blkOk_by (by kernel_rfl)) (fun _ => (gs_n 4 xo.blk.nd)) (by decide) (fun _ => ts_nil) (fun _ => ((es_call xo.blk c_law_roll (hr.mono (by decide))) (as_cons rfl (es_v 0) (as_cons rfl es_int as_nil))))) (as_cons rfl (es_op op_addAll sr_add es_int ((es_call xo c_law_roll (hr.mono (by decide))) (as_cons rfl (es_v 0) (as_cons rfl es_int as_nil)))) as_nil))))
  (sl_cons (st_setLc 10 xo (own := [("long", 11)]) ((is_range2 (T.free 6)) (as_cons rfl es_int (as_cons rfl es_int as_nil))) (blkOk_by (by kernel_rfl)) (fun _ => (gs_n 11 xo.blk.nd)) (by decide) (fun _ => (ts_one (bs_cmp op_ge sr_cmp rfl ((es_cb (cr_sum rfl) sc_sum (T.free 12) bt_sum) (as_cons rfl (es_lc xo.blk (own := [("one", 12)]) (is_seq (es_v 8)) (blkOk_by (by kernel_rfl)) (fun _ => (gs_n 12 xo.blk.blk.nd)) (by decide) (fun _ => ts_nil) (fun _ => (es_op op_fdivN sr_div (es_v 12) (es_v 11)))) as_nil)) (es_v 9)))) (fun _ => (es_v 11)) (sw_true rfl rfl rfl (by kernel_rfl)))
  (sl_cons (st_if (bs_cmp (op_neD (xu xo)) sr_ne rfl (x_told (k := 1) T hcd 6 (hr.mono (by decide)) (LamX.lamS_by (by kernel_rfl)) (fun A outer s H E f c h1 => ((es_call (xo.lam h1) c_longest_equal (h1.mono (by decide))) (as_cons rfl (es_v 8) (as_cons rfl (es_v 9) as_nil))))) (es_if (bs_cmp (op_neD (xu xo)) sr_ne rfl (es_v 10) (es_lst as_nil)) ((es_cb (callR_or (call_max2 rfl) (cr_max rfl)) sc_max (T.free 13) bt_max) (as_cons rfl (es_v 10) as_nil)) (es_str [110, 111, 32, 119, 97, 121])))
  (sl_one (st_ret es_bl))
  sl_nil)
  (sl_cons ((st_asg) ((gs_t rfl) (gss_cons rfl (gs_n 13 xo.nd) (gss_cons rfl (gs_n 14 xo.nd) gss_nil))) (es_tup (as_cons rfl ((es_call xo c_law_roll (hr.mono (by decide))) (as_cons rfl (es_v 0) (as_cons rfl es_int as_nil))) (as_cons rfl (es_ix (by intro _ _; rfl) (es_lst (as_cons rfl (es_lst (as_cons rfl (es_tup (as_cons rfl es_int (as_cons rfl (es_str [116, 104, 105, 110]) as_nil))) (as_cons rfl (es_tup (as_cons rfl es_int (as_cons rfl (es_str [109, 105, 100]) as_nil))) (as_cons rfl (es_tup (as_cons rfl es_int (as_cons rfl (es_str [116, 104, 105, 99, 107]) as_nil))) as_nil)))) (as_cons rfl (es_lst (as_cons rfl (es_tup (as_cons rfl es_int (as_cons rfl (es_str [111, 110, 101]) as_nil))) as_nil)) (as_cons rfl (es_lst (as_cons rfl (es_tup (as_cons rfl es_int (as_cons rfl (es_str [97]) as_nil))) (as_cons rfl (es_tup (as_cons rfl es_int (as_cons rfl (es_str [98]) as_nil))) as_nil))) (as_cons rfl (es_lst as_nil) as_nil))))) ((es_call xo c_law_roll (hr.mono (by decide))) (as_cons rfl (es_v 0) (as_cons rfl es_int as_nil)))) as_nil))))
  (sl_cons (st_setLc 15 xo (own := [("most", 16), ("kind", 17)]) (is_seq (es_v 14)) (blkOk_by (by kernel_rfl)) (fun _ => ((gs_t rfl) (gss_cons rfl (gs_n 16 xo.blk.nd) (gss_cons rfl (gs_n 17 xo.blk.nd) gss_nil)))) (by decide) (fun _ => (ts_one (bs_cmp op_ge sr_cmp rfl (es_v 16) (es_v 13)))) (fun _ => (es_v 17)) (sw_true rfl rfl rfl (by kernel_rfl)))
  (sl_cons (st_if (bs_cmp (op_neD (xu xo)) sr_ne rfl (x_told (k := 1) T hcd 6 (hr.mono (by decide)) (LamX.lamS_by (by kernel_rfl)) (fun A outer s H E f c h2 => ((es_call (xo.lam h2) c_kind_for (h2.mono (by decide))) (as_cons rfl (es_v 13) (as_cons rfl (es_v 14) as_nil))))) (es_if (bs_cmp (op_eqD (xu xo)) sr_eq rfl ((es_cb call_len sc_len (T.free 8) PySem.boot_len) (as_cons rfl (es_v 14) as_nil)) es_int) (es_str [115, 105, 122, 101]) (es_ix (by intro _ _; rfl) (es_op op_addAll sr_add (es_v 15) (es_lst (as_cons rfl (es_str [110, 111, 32, 119, 97, 121]) as_nil))) es_int)))
  (sl_one (st_ret es_bl))
  sl_nil)
  (sl_cons ((st_asg) ((gs_t rfl) (gss_cons rfl (gs_n 11 xo.nd) (gss_cons rfl (gs_n 18 xo.nd) (gss_cons rfl (gs_n 19 xo.nd) gss_nil)))) (es_tup (as_cons rfl ((es_call xo c_law_roll (hr.mono (by decide))) (as_cons rfl (es_v 0) (as_cons rfl es_int as_nil))) (as_cons rfl (es_lc xo (own := [("k", 4)]) ((is_range1 (T.free 6)) (as_cons rfl ((es_call xo c_law_roll (hr.mono (by decide))) (as_cons rfl (es_v 0) (as_cons rfl es_int as_nil))) as_nil)) (blkOk_by (by kernel_rfl)) (fun _ => (gs_n 4 xo.blk.nd)) (by decide) (fun _ => ts_nil) (fun _ => (es_op op_addAll sr_add es_int ((es_call xo.blk c_law_roll (hr.mono (by decide))) (as_cons rfl (es_v 0) (as_cons rfl es_int as_nil)))))) (as_cons rfl (es_lst as_nil) as_nil)))))
  (sl_cons ((st_for xo own_def) (is_seq (es_v 18)) (gs_n 12 xo.nd) 
  (sl_one ((st_set 19 xo) (es_op op_addAll sr_add (es_v 19) (es_if (bs_cmp op_le sr_cmp rfl (es_op op_addAll sr_add ((es_cb (cr_sum rfl) sc_sum (T.free 12) bt_sum) (as_cons rfl (es_v 19) as_nil)) (es_v 12)) (es_v 11)) (es_lst (as_cons rfl (es_v 12) as_nil)) (es_lst as_nil))))))
  (sl_cons (st_if (bs_cmp (op_neD (xu xo)) sr_ne rfl ((es_call xo c_cut_in_order (hr.mono (by decide))) (as_cons rfl (es_v 11) (as_cons rfl (es_v 18) as_nil))) (es_tup (as_cons rfl ((es_cty call_tuple_of sc_tuple (T.free 10) bt_tuple) (as_cons rfl (es_v 19) as_nil)) (as_cons rfl (es_op op_sub sr_sub (es_v 11) ((es_cb (cr_sum rfl) sc_sum (T.free 12) bt_sum) (as_cons rfl (es_v 19) as_nil))) as_nil))))
  (sl_one (st_ret es_bl))
  sl_nil)
  (sl_cons ((st_set 20 xo) (es_lc xo (own := [("k", 4)]) ((is_range1 (T.free 6)) (as_cons rfl ((es_call xo c_law_roll (hr.mono (by decide))) (as_cons rfl (es_v 0) (as_cons rfl es_int as_nil))) as_nil)) (blkOk_by (by kernel_rfl)) (fun _ => (gs_n 4 xo.blk.nd)) (by decide) (fun _ => ts_nil) (fun _ => ((es_call xo.blk c_law_roll (hr.mono (by decide))) (as_cons rfl (es_v 0) (as_cons rfl (es_op op_addAll sr_add (es_op op_addAll sr_add (es_v 11) es_int) ((es_cty call_int1 sc_int (T.free 21) bt_int) (as_cons rfl (es_cmp (op_eqD (xu xo.blk)) sr_eq rfl ((es_call xo.blk c_law_roll (hr.mono (by decide))) (as_cons rfl (es_v 0) (as_cons rfl es_int as_nil))) es_int) as_nil))) as_nil))))))
  (sl_cons ((st_set 21 xo) (es_str [110, 111, 32, 115, 117, 99, 104]))
  (sl_cons (st_if (bs_cmp op_le sr_cmp rfl ((es_cb (callR_or (call_max2 rfl) (cr_max rfl)) sc_max (T.free 13) bt_max) (as_cons rfl (es_op op_addAll sr_add (es_lst (as_cons rfl es_int as_nil)) (es_v 20)) as_nil)) (es_v 11))
  (sl_one ((st_set 21 xo) ((es_cb (callR_or (call_max2 rfl) (cr_max rfl)) sc_max (T.free 13) bt_max) (as_cons rfl ((es_call xo c_law_flat (hr.mono (by decide))) (as_cons rfl (es_lc xo (own := [("a", 22)]) (is_seq (es_op op_addAll sr_add (es_lst (as_cons rfl es_int as_nil)) (es_v 20))) (blkOk_by (by kernel_rfl)) (fun _ => (gs_n 22 xo.blk.nd)) (by decide) (fun _ => ts_nil) (fun _ => (es_lc xo.blk (own := [("b", 23)]) (is_seq (es_op op_addAll sr_add (es_v 20) (es_lst (as_cons rfl (es_v 11) as_nil)))) (blkOk_by (by kernel_rfl)) (fun _ => (gs_n 23 xo.blk.blk.nd)) (by decide) (fun _ => (ts_one (bs_w (bw_and (bs_cmp op_ge sr_cmp rfl (es_v 23) (es_v 22)) (bw_and1 (bs_cmp (op_eqD (xu xo.blk.blk)) sr_eq rfl (es_lc xo.blk.blk (own := [("spot", 24)]) (is_seq (es_v 20)) (blkOk_by (by kernel_rfl)) (fun _ => (gs_n 24 xo.blk.blk.blk.nd)) (by decide) (fun _ => (ts_one (bs_chain op_lt sr_cmp op_lt sr_cmp (by with_unfolding_all rfl) (es_v 22) (es_v 24) (es_v 23)))) (fun _ => (es_v 24))) (es_lst as_nil))))))) (fun _ => (es_op op_sub sr_sub (es_v 23) (es_v 22)))))) as_nil)) as_nil))))
  sl_nil)
  (sl_cons (st_if (bs_cmp (op_neD (xu xo)) sr_ne rfl (x_told (k := 1) T hcd 6 (hr.mono (by decide)) (LamX.lamS_by (by kernel_rfl)) (fun A outer s H E f c h3 => ((es_call (xo.lam h3) c_knots (h3.mono (by decide))) (as_cons rfl (es_v 11) (as_cons rfl (es_v 20) as_nil))))) (es_v 21))
  (sl_one (st_ret es_bl))
  sl_nil)
  (sl_one (st_ret (es_call0 xo c_law_cases1 (hr.mono (by decide))))))))))))))))))))))
theorem f_law_rest1 (T : Tt fa fn tf K mg base) (c_cord_for : FnF (gx K) P w K mg base 1 "cord_for" ["candles", "over", "loss"] m_cord_for) (c_law_cases1 : FnF (gx K) P w K mg base 5 "_law_cases1" [] m_law_cases1) (c_law_roll : FnF (gx K) P w K mg base 1 "_law_roll" ["dice", "many"] m_law_roll) (c_cut_in_order : FnF (gx K) P w K mg base 1 "cut_in_order" ["cord", "lengths"] m_cut_in_order) (c_law_flat : FnF (gx K) P w K mg base 1 "_law_flat" ["rows"] m_law_flat) (c_longest_equal : FnF (gx K) P w K mg base 1 "longest_equal" ["cords", "need"] m_longest_equal) (c_kind_for : FnF (gx K) P w K mg base 1 "kind_for" ["thick", "table"] m_kind_for) (c_knots : FnF (gx K) P w K mg base 1 "knots" ["cord", "tied"] m_knots) : FnF (gx K) P w K mg base 6 "_law_rest1" ["dice"] m_law_rest1 := mkF T 17 33 sc_law_rest1 (fun _ _ _ _ _ _ us hl => match us, hl with | [_], _ => rfl) (fun _ _ _ _ _ _ hcd hr => d_law_rest1 T c_cord_for c_law_cases1 c_law_roll c_cut_in_order c_law_flat c_longest_equal c_kind_for c_knots hcd hr)
theorem sc_law : FnScope ["script", "dice", "high", "wick", "step", "row", "turn", "end", "soot", "cords", "rounds", "k", "sort", "much", "due", "told", "minute"] ["script"] (defScope s_law) := ⟨rfl, rfl, rfl, by decide +kernel, rfl, by decide +kernel, by decide +kernel⟩
theorem d_law (T : Tt fa fn tf K mg base) (c_law_rounds : FnF (gx K) P w K mg base 2 "_law_rounds" ["script", "most"] m_law_rounds) (c_Wick_init : MkF (gx K) P w K mg base 1 (He.ga K "Wick") "Wick" ["self", "long", "high"] m_Wick_init) (c_law_roll : FnF (gx K) P w K mg base 1 "_law_roll" ["dice", "many"] m_law_roll) (c_law_rest1 : FnF (gx K) P w K mg base 6 "_law_rest1" ["dice"] m_law_rest1) (c_Wick_shown : MeF (gx K) P w K mg base 2 (He.ga K "Wick") "shown" ["self"] m_Wick_shown) (c_Wick_end : MeF (gx K) P w K mg base 1 (He.ga K "Wick") "end" ["self"] m_Wick_end) (c_plaited : FnF (gx K) P w K mg base 1 "plaited" ["cords", "rounds"] m_plaited) (c_Wick_burn : MeF (gx K) P w K mg base 2 (He.ga K "Wick") "burn" ["self", "minutes"] m_Wick_burn) (c_Wick_trim : MeF (gx K) P w K mg base 2 (He.ga K "Wick") "trim" ["self", "end"] m_Wick_trim) (c_Wick_wipe : MeF (gx K) P w K mg base 1 (He.ga K "Wick") "wipe" ["self"] m_Wick_wipe) {cdv : Value} {A : Around} {outer : List PySem.Env} {s : Shared} {H : Hp} {E : XK} (hcd : cdv = .ref (He.codeOf K ("law", none))) (hr : Room 6 (A.deeper (PyProof.Rows.envOfC "law" (defScope s_law) s.heap.objs.size (He.fAd K ("law", none)) cdv))) :
    SL (gx K) (cxOf (L2.CX P w) P w K mg base ["script", "dice", "high", "wick", "step", "row", "turn", "end", "soot", "cords", "rounds", "k", "sort", "much", "due", "told", "minute"] "law" (defScope s_law) (He.fAd K ("law", none)) cdv A outer s H E) E (defBody s_law) b_law := by
  have xo : XO (gx K) (cxOf (L2.CX P w) P w K mg base ["script", "dice", "high", "wick", "step", "row", "turn", "end", "soot", "cords", "rounds", "k", "sort", "much", "due", "told", "minute"] "law" (defScope s_law) (He.fAd K ("law", none)) cdv A outer s H E) E := XO.ofDef rfl sc_law.nd hr
  exact (sl_cons ((st_for xo own_def) (is_seq ((es_call xo c_law_rounds (hr.mono (by decide))) (as_cons rfl (es_v 0) (as_cons rfl es_int as_nil)))) (gs_n 1 xo.nd) 
  (sl_cons ((st_set 2 xo) (es_op op_addAll sr_add es_int ((es_call xo c_law_roll (hr.mono (by decide))) (as_cons rfl (es_v 1) (as_cons rfl es_int as_nil)))))
  (sl_cons ((st_par 7 8 xo) (as_cons rfl (es_op op_addAll sr_add es_int ((es_call xo c_law_roll (hr.mono (by decide))) (as_cons rfl (es_v 1) (as_cons rfl es_int as_nil)))) (as_cons rfl es_int as_nil)))
  (sl_cons ((st_set 3 xo) ((es_make (kc := 0) xo c_Wick_init (hr.mono (by decide))) (as_cons rfl (es_op op_addAll sr_add (es_v 2) (es_v 7)) (as_cons rfl (es_v 2) as_nil))))
  (sl_cons ((st_for xo own_def) ((is_range1 (T.free 6)) (as_cons rfl ((es_call xo c_law_roll (hr.mono (by decide))) (as_cons rfl (es_v 1) (as_cons rfl es_int as_nil))) as_nil)) (gs_n 4 xo.nd) 
  (sl_cons ((st_asg) ((gs_t rfl) (gss_cons rfl (gs_n 12 xo.nd) (gss_cons rfl (gs_n 13 xo.nd) gss_nil))) (es_tup (as_cons rfl ((es_call xo c_law_roll (hr.mono (by decide))) (as_cons rfl (es_v 1) (as_cons rfl es_int as_nil))) (as_cons rfl ((es_call xo c_law_roll (hr.mono (by decide))) (as_cons rfl (es_v 1) (as_cons rfl es_int as_nil))) as_nil))))
  (sl_cons (st_if (bs_cmp op_lt sr_cmp rfl (es_v 12) es_int)
  (sl_cons ((st_par 14 15 xo) (as_cons rfl (es_if (bs_cmp op_lt sr_cmp rfl (es_v 13) es_int) (es_str [115, 105, 122, 101]) (es_str [100, 101, 101, 100])) (as_cons rfl (x_told (k := 2) T hcd 7 (hr.mono (by decide)) (LamX.lamS_by (by kernel_rfl)) (fun A outer s H E f c h1 => ((es_meth (kc := 0) (xo.lam h1) c_Wick_burn (h1.mono (by decide))) (es_v 3) (as_cons rfl (es_v 13) as_nil)))) as_nil)))
  (sl_one (st_if (bs_w (bw_and (bs_cmp op_gt sr_cmp rfl (es_v 13) es_int) (bw_and1 (bs_cmp op_gt sr_cmp rfl (es_v 2) es_int))))
  (sl_cons ((st_for xo own_def) ((is_range1 (T.free 6)) (as_cons rfl ((es_cb (callR_or (call_min2 rfl) (cr_min rfl)) sc_min (T.free 7) bt_min) (as_cons rfl (es_v 13) (as_cons rfl (es_v 2) as_nil))) as_nil)) (gs_n 16 xo.nd) 
  (sl_cons ((st_set 8 xo) (es_op op_addAll sr_add (es_v 8) ((es_cty call_int1 sc_int (T.free 21) bt_int) (as_cons rfl (es_cmp op_gt sr_cmp rfl (es_v 7) es_int) as_nil))))
  (sl_one ((st_par 7 2 xo) (as_cons rfl (es_op op_sub sr_sub (es_op op_addAll sr_add (es_v 7) es_int) ((es_cb (callR_or (call_min2 rfl) (cr_min rfl)) sc_min (T.free 7) bt_min) (as_cons rfl (es_if (bs_cmp op_gt sr_cmp rfl (es_v 7) es_int) es_int es_int) (as_cons rfl (es_v 7) as_nil)))) (as_cons rfl (es_op op_sub sr_sub (es_v 2) es_int) as_nil))))))
  (sl_one ((st_set 14 xo) (es_v 2))))
  sl_nil)))
  (sl_one (st_if (bs_cmp op_lt sr_cmp rfl (es_v 12) es_int)
  (sl_cons ((st_set 14 xo) (es_if (bs_cmp op_lt sr_cmp rfl (es_v 13) es_int) (es_str [115, 105, 122, 101]) (es_if (bs_cmp op_le sr_cmp rfl (es_v 7) (es_v 13)) (es_str [100, 101, 101, 100]) (es_op op_sub sr_sub (es_v 7) (es_v 13)))))
  (sl_cons ((st_set 15 xo) (x_told (k := 2) T hcd 7 (hr.mono (by decide)) (LamX.lamS_by (by kernel_rfl)) (fun A outer s H E f c h2 => ((es_meth (kc := 0) (xo.lam h2) c_Wick_trim (h2.mono (by decide))) (es_v 3) (as_cons rfl (es_v 13) as_nil)))))
  (sl_one ((st_set 7 xo) (es_if (bs_cmp op_notIn_seq sr_notInS rfl (es_v 14) (es_lst (as_cons rfl (es_str [115, 105, 122, 101]) (as_cons rfl (es_str [100, 101, 101, 100]) as_nil)))) (es_v 13) (es_v 7))))))
  (sl_one ((st_par3 14 15 8 xo) (as_cons rfl (es_if (bs_cmp op_gt sr_cmp rfl (es_v 8) es_int) (es_v 8) (es_str [100, 101, 101, 100])) (as_cons rfl (x_told (k := 1) T hcd 7 (hr.mono (by decide)) (LamX.lamS_by (by kernel_rfl)) (fun A outer s H E f c h3 => ((es_meth0 (kc := 0) (xo.lam h3) c_Wick_wipe (h3.mono (by decide))) (es_v 3)))) (as_cons rfl es_int as_nil))))))))
  (sl_one (st_if (bs_w (bw_or (bs_cmp (op_neD (xu xo)) sr_ne rfl (es_v 15) (es_v 14)) (bw_or (bs_cmp (op_neD (xu xo)) sr_ne rfl ((es_meth0 (kc := 0) xo c_Wick_shown (hr.mono (by decide))) (es_v 3)) (es_tup (as_cons rfl (es_v 2) (as_cons rfl (es_v 7) (as_cons rfl (es_v 8) as_nil))))) (bw_or1 (bs_cmp (op_neD (xu xo)) sr_ne rfl ((es_meth0 (kc := 0) xo c_Wick_end (hr.mono (by decide))) (es_v 3)) (es_v 7))))))
  (sl_one (st_ret es_bl))
  sl_nil)))))
  (sl_cons ((st_asg) ((gs_t rfl) (gss_cons rfl (gs_n 9 xo.nd) (gss_cons rfl (gs_n 10 xo.nd) gss_nil))) (es_tup (as_cons rfl (es_sl (es_lst (as_cons rfl (es_str [120]) (as_cons rfl (es_str [121]) (as_cons rfl (es_str [122]) (as_cons rfl (es_str [119]) as_nil))))) os_none (os_some (es_op op_addAll sr_add es_int ((es_cty call_int1 sc_int (T.free 21) bt_int) (as_cons rfl (es_cmp (op_eqD (xu xo)) sr_eq rfl ((es_call xo c_law_roll (hr.mono (by decide))) (as_cons rfl (es_v 1) (as_cons rfl es_int as_nil))) es_int) as_nil))))) (as_cons rfl ((es_call xo c_law_roll (hr.mono (by decide))) (as_cons rfl (es_v 1) (as_cons rfl es_int as_nil))) as_nil))))
  (sl_cons ((st_set 5 xo) ((es_cty call_list_of sc_list (T.free 9) bt_list) (as_cons rfl (es_v 9) as_nil)))
  (sl_cons ((st_for xo own_def) ((is_range1 (T.free 6)) (as_cons rfl (es_v 10) as_nil)) (gs_n 6 xo.nd) 
  (sl_cons ((st_set 11 xo) (es_op op_modN sr_mod (es_v 6) es_int))
  (sl_one ((st_set 5 xo) (es_op op_addAll sr_add (es_op op_addAll sr_add (es_sl (es_v 5) os_none (os_some (es_v 11))) (es_lst (as_cons rfl (es_ix (by intro _ _; rfl) (es_v 5) (es_op op_addAll sr_add (es_v 11) es_int)) (as_cons rfl (es_ix (by intro _ _; rfl) (es_v 5) (es_v 11)) as_nil)))) (es_sl (es_v 5) (os_some (es_op op_addAll sr_add (es_v 11) es_int)) os_none))))))
  (sl_cons (st_if (bs_cmp (op_neD (xu xo)) sr_ne rfl (x_told (k := 1) T hcd 7 (hr.mono (by decide)) (LamX.lamS_by (by kernel_rfl)) (fun A outer s H E f c h4 => ((es_cty call_list_of sc_list (T.free 9) bt_list) (as_cons rfl ((es_call (xo.lam h4) c_plaited (h4.mono (by decide))) (as_cons rfl (es_v 9) (as_cons rfl (es_v 10) as_nil))) as_nil)))) (es_if (bs_cmp (op_eqD (xu xo)) sr_eq rfl ((es_cb call_len sc_len (T.free 8) PySem.boot_len) (as_cons rfl (es_v 9) as_nil)) es_int) (es_v 5) (es_str [99, 97, 110, 100, 108, 101])))
  (sl_one (st_ret es_bl))
  sl_nil)
  (sl_one (st_if (bs_not (bs_val (by intro _; rfl) ((es_call xo c_law_rest1 (hr.mono (by decide))) (as_cons rfl (es_v 1) as_nil))))
  (sl_one (st_ret es_bl))
  sl_nil)))))))))))
  (sl_one (st_ret es_bl)))
theorem f_law (T : Tt fa fn tf K mg base) (c_law_rounds : FnF (gx K) P w K mg base 2 "_law_rounds" ["script", "most"] m_law_rounds) (c_Wick_init : MkF (gx K) P w K mg base 1 (He.ga K "Wick") "Wick" ["self", "long", "high"] m_Wick_init) (c_law_roll : FnF (gx K) P w K mg base 1 "_law_roll" ["dice", "many"] m_law_roll) (c_law_rest1 : FnF (gx K) P w K mg base 6 "_law_rest1" ["dice"] m_law_rest1) (c_Wick_shown : MeF (gx K) P w K mg base 2 (He.ga K "Wick") "shown" ["self"] m_Wick_shown) (c_Wick_end : MeF (gx K) P w K mg base 1 (He.ga K "Wick") "end" ["self"] m_Wick_end) (c_plaited : FnF (gx K) P w K mg base 1 "plaited" ["cords", "rounds"] m_plaited) (c_Wick_burn : MeF (gx K) P w K mg base 2 (He.ga K "Wick") "burn" ["self", "minutes"] m_Wick_burn) (c_Wick_trim : MeF (gx K) P w K mg base 2 (He.ga K "Wick") "trim" ["self", "end"] m_Wick_trim) (c_Wick_wipe : MeF (gx K) P w K mg base 1 (He.ga K "Wick") "wipe" ["self"] m_Wick_wipe) : FnF (gx K) P w K mg base 7 "law" ["script"] m_law := mkF T 18 34 sc_law (fun _ _ _ _ _ _ us hl => match us, hl with | [_], _ => rfl) (fun _ _ _ _ _ _ hcd hr => d_law T c_law_rounds c_Wick_init c_law_roll c_law_rest1 c_Wick_shown c_Wick_end c_plaited c_Wick_burn c_Wick_trim c_Wick_wipe hcd hr)
end
end Sm.K15
end

section
set_option Elab.async false
set_option linter.all false
set_option autoImplicit false
set_option maxRecDepth 100000
set_option maxHeartbeats 4000000
namespace Sm.K15
open PySem L2 Sm
theorem law_walk {P : Program} {w : World} {K : PySem.W.Frag} {mg : Str → Option Value} {base : Heap} (T : Tt fa fn tf K mg base) (cdv : Value) (A : Around) (outer : List PySem.Env) (s : Shared) (H : Hp) (E : XK) (hcd : cdv = .ref (He.codeOf K ("law", none))) (hr : Room 6 (A.deeper (PyProof.Rows.envOfC "law" (defScope s_law) s.heap.objs.size (He.fAd K ("law", none)) cdv))) :
    SL (gx K) (cxOf (L2.CX P w) P w K mg base ["script", "dice", "high", "wick", "step", "row", "turn", "end", "soot", "cords", "rounds", "k", "sort", "much", "due", "told", "minute"] "law" (defScope s_law) (He.fAd K ("law", none)) cdv A outer s H E) E (defBody s_law) b_law := by
  have c_law_dice := f_law_dice (P := P) (w := w) T
  have c_law_rounds := f_law_rounds (P := P) (w := w) T c_law_dice
  have c_Wick_init := f_Wick_init (P := P) (w := w) T
  have c_law_roll := f_law_roll (P := P) (w := w) T
  have c_cord_for := f_cord_for (P := P) (w := w) T
  have c_plaited := f_plaited (P := P) (w := w) T
  have c_longest_equal := f_longest_equal (P := P) (w := w) T
  have c_cut_in_order := f_cut_in_order (P := P) (w := w) T
  have c_knots := f_knots (P := P) (w := w) T
  have c_law_cases1 := f_law_cases1 (P := P) (w := w) T c_Wick_init c_plaited c_cord_for c_longest_equal c_cut_in_order c_knots
  have c_law_flat := f_law_flat (P := P) (w := w) T
  have c_kind_for := f_kind_for (P := P) (w := w) T
  have c_law_rest1 := f_law_rest1 (P := P) (w := w) T c_cord_for c_law_cases1 c_law_roll c_cut_in_order c_law_flat c_longest_equal c_kind_for c_knots
  have c_Wick_end := f_Wick_end (P := P) (w := w) T
  have c_Wick_shown := f_Wick_shown (P := P) (w := w) T c_Wick_end
  have c_Wick_burn := f_Wick_burn (P := P) (w := w) T c_Wick_end
  have c_Wick_trim := f_Wick_trim (P := P) (w := w) T c_Wick_end
  have c_Wick_wipe := f_Wick_wipe (P := P) (w := w) T
  exact d_law T c_law_rounds c_Wick_init c_law_roll c_law_rest1 c_Wick_shown c_Wick_end c_plaited c_Wick_burn c_Wick_trim c_Wick_wipe hcd hr
abbrev R : PySem.W.OpenRow := PySem.W.OpenLaw.row PySem.Challenge.rw_candlehall_k15_wicks
abbrev hk : PySem.W.Hook := He.hookX 6 fa fn [] tf (exB tf)
def ob (s : PySem.W.SharedT) : He.AlX := He.obsX 6 fa fn [] tf (exB tf) (HandSHeadRun.getT s)
theorem ob_eq (s : PySem.W.SharedT) : ob s = hk.obs s.abs := He.obsX_eq (HandSHeadRun.getT_eq s)
def names : List Str := (["CandleFault", "BadCandle", "BadPlan", "BadSize", "NoSuch", "NoRoom", "NoWay", "BadDeed", "Wick", "plaited", "cord_for", "longest_equal", "kind_for", "cut_in_order", "knots", "_law_flat", "_law_dice", "_law_roll", "_law_rounds", "_law_told", "_law_cases1", "_law_rest1"] : List Str)
theorem run (w : World) : HandSHeadRun.RunEq R (PySem.W.view R.prog [25]) hk ob 20000 names w := by
  intro os
  kernel_rfl
end Sm.K15
open PySem PySem.W PySem.Calls PyProof.Rows
theorem Sm.K15.holds (plain : ∀ ns : List Int, ns.length ≤ 63 → (∀ z ∈ ns, Builtin.Int.intBits z ≤ 1048576) → ∃ S, Sm.K15.m_law [.obj 0] [.lck (.lck (.lst (ns.map .int)))] = .ok (.bl true) S) : PySem.Challenge.rw_candlehall_k15_wicks.Holds := by
  w_on; o_law
  refine HandSHeadRun.head_any (r := OpenLaw.row PySem.Challenge.rw_candlehall_k15_wicks) (q := PySem.W.view (OpenLaw.row PySem.Challenge.rw_candlehall_k15_wicks).prog [25]) (H := Sm.K15.hk) (ob := Sm.K15.ob) (M := 20000) (loose := Sm.K15.names) (d := HandSHeadRun.topDef (OpenLaw.row PySem.Challenge.rw_candlehall_k15_wicks).prog 25) (kwd := []) Sm.K15.ob_eq
    (by kernel_rfl) (fun s => by kernel_rfl) Sm.K15.run (by kernel_rfl) (by kernel_rfl) (by kernel_rfl) (by rfl) (by first | assumption | decide +kernel) (by decide +kernel) ⟨rfl, rfl, rfl, rfl, rfl, by decide +kernel⟩ ?hw ?hc
  case hw => w_witness2
  case hc =>
    refine LamX.walk_ofTsE (l := PySem.Challenge.rw_candlehall_k15_wicks) (n := 63) (k := 7) (x := "script") (CX := fun w => L2.CX (PySem.Challenge.rw_candlehall_k15_wicks).prog w) rfl (by decide) (by kernel_rfl) ⟨rfl, by decide, by decide⟩ ?F (fun _ _ _ _ _ z => by obtain ⟨_, _, _, _, _, _, _, _, _, _, _, _, q⟩ := z; exact q)
    intro w mg fa h Y G hmg0
    obtain ⟨K, KX, c⟩ := Y
    have hmg : mg ("law" : PySem.Str) = some (.ref fa) := by
      have e : (HandSHeadRun.topDef (OpenLaw.row PySem.Challenge.rw_candlehall_k15_wicks).prog 25).name = ("law" : PySem.Str) := by kernel_rfl
      rw [← e]
      exact hmg0
    exact ⟨K, KX, Sm.lawAt (g := Sm.K15.gx K) (i := 18) (j := 34) KX G hmg c rfl rfl (fun _ _ _ _ _ _ us hl => match us, hl with | [_], _ => rfl) Sm.K15.sc_law rfl rfl (fun base T cdv A outer s H E hcd hr => Sm.K15.law_walk T cdv A outer s H E hcd hr) plain⟩
end

section
set_option linter.all false
set_option autoImplicit false
set_option maxRecDepth 100000
set_option maxHeartbeats 4000000
namespace Sm.K15
open Sm
/-- the dice: three numbers -/
def tri (a b c : Int) : Ob := .lst [.int a, .int b, .int c]
theorem tri_view {S : Store} {r : Nat} {a b c : Int} (h : S[r]? = some (tri a b c)) : view S (.obj r) = .lst [.int a, .int b, .int c] := by
  unfold view
  simp only [h, tri, Ob.val]
theorem fmod_nn (a b : Int) (h : 0 < b) : 0 ≤ a.fmod b ∧ a.fmod b < b := ⟨Int.fmod_nonneg_of_pos a h, Int.fmod_lt_of_pos a h⟩
theorem at_tri {S : Store} {r : Nat} {a b c : Int} (h : S[r]? = some (tri a b c)) : oIx S (.obj r) (.int 0) = some (.int a) ∧ oIx S (.obj r) (.int 1) = some (.int b) ∧ oIx S (.obj r) (.int 2) = some (.int c) := by
  unfold oIx; rw [tri_view h]; exact ⟨rfl, rfl, rfl⟩
theorem dice {S : Store} {x : D} {n : Int} {i : Nat} {d : D} {e : Env} (hx : oIx S x (.int n) = some d) (he : e[i]? = some (some x)) : eOp oIx (eV i) (eC (.int n)) e S = .ok d S := eOp_eq (eV_at he) eC_eq hx
/-- dice[0] // many, the first of the two ways -/
theorem roll_ok {S : Store} {r : Nat} {a b c many : Int} (h : S[r]? = some (tri a b c)) (h1 : 1 ≤ many) (h2 : many < 1000000) :
    ∃ v a' b' c', m_law_roll [.obj r, .int many] S = .ok (.int v) (S.set r (tri a' b' c')) ∧ 0 ≤ v ∧ v < many := by
  have hr : r < S.length := (List.getElem?_eq_some_iff.mp h).1
  obtain ⟨x0, x1, x2⟩ := at_tri h
  have hl := lstAt_obj (S := S) (r := r) h
  have hm : many ≠ 0 := by omega
  have hn : many.natAbs < 1073741824 := by omega
  by_cases hc : c = 2 ∨ (c = 1 ∧ a > 0)
  · refine ⟨a.fmod many, a.fdiv many, b, c, ?_, (fmod_nn a many (by omega)).1, (fmod_nn a many (by omega)).2⟩
    refine fn_rt rfl ?_
    refine seq_rt (if_t (S1 := S) ?_ ?_)
    · rcases hc with rfl | ⟨rfl, ha⟩
      · exact tOr_t (tB_eq (eOp_eq (dice x2 rfl) eC_eq (by rw [eqV_ii]; rfl)))
      · exact tOr_f (tB_eq (eOp_eq (dice x2 rfl) eC_eq (by rw [eqV_ii]; rfl))) (tAnd_t (tB_eq (eOp_eq (dice x2 rfl) eC_eq (by rw [eqV_ii]; rfl))) (tB_eq (eOp_eq (dice x0 rfl) eC_eq (by rw [ii_gt]; simp [ha]))))
    · refine seq_nx (set_eq (eOp_eq (eCB_eq (aCons_eq (dice x0 rfl) aNil_eq) rfl) (eV_at rfl) (ii_mod hm))) ?_
      refine seq_nx (sub_eq (eOp_eq (dice x0 rfl) (eV_at rfl) (ii_div ⟨hm, hn⟩)) (eV_at rfl) eC_eq hl rfl) ?_
      exact ret_eq (eV_at rfl)
  · refine ⟨(((a * 48271 + b * 69621 + 11).fmod 2147483647).fdiv 7 + (a * 48271 + b * 69621 + 11).fmod 2147483647).fmod many, (a * 48271 + b * 69621 + 11).fmod 2147483647, b + 1, 0, ?_, (fmod_nn _ many (by omega)).1, (fmod_nn _ many (by omega)).2⟩
    have set1 : (S.set r (tri a b 0))[r]? = some (tri a b 0) := List.getElem?_set_self hr
    refine fn_rt rfl ?_
    refine seq_nx (if_f (S1 := S) (e := [some (.obj r), some (.int many), none]) ?_ nil_eq) ?_
    · refine tOr_f (tB_eq (eOp_eq (dice x2 rfl) eC_eq (by rw [eqV_ii]; rw [show (c == 2) = false by simp; omega]))) ?_
      by_cases h1 : c = 1
      · subst h1
        exact tAnd_t (tB_eq (eOp_eq (dice x2 rfl) eC_eq (by rw [eqV_ii]; rfl))) (tB_eq (eOp_eq (dice x0 rfl) eC_eq (by rw [ii_gt]; simp; omega)))
      · exact tAnd_f (tB_eq (eOp_eq (dice x2 rfl) eC_eq (by rw [eqV_ii]; rw [show (c == 1) = false by simp; exact h1])))
    obtain ⟨y0, y1, y2⟩ := at_tri set1
    refine seq_nx (sub_eq (S1 := S) (S2 := S) (S3 := S) (z := 2) eC_eq (eV_at rfl) eC_eq hl rfl) ?_
    show sSeq _ _ _ (S.set r (tri a b 0)) = _
    have set2 : ((S.set r (tri a b 0)).set r (tri ((a * 48271 + b * 69621 + 11).fmod 2147483647) b 0))[r]? = some (tri ((a * 48271 + b * 69621 + 11).fmod 2147483647) b 0) := List.getElem?_set_self (by rw [List.length_set]; exact hr)
    obtain ⟨z0, z1, z2⟩ := at_tri set2
    have big1 : oMul (S.set r (tri a b 0)) (.int a) (.int 48271) = some (.int (a * 48271)) := by unfold oMul; simp [viewM, big]
    have big2 : oMul (S.set r (tri a b 0)) (.int b) (.int 69621) = some (.int (b * 69621)) := by unfold oMul; simp [viewM, big]
    refine seq_nx (sub_eq (S1 := S.set r (tri a b 0)) (S2 := S.set r (tri a b 0)) (S3 := S.set r (tri a b 0)) (z := 0) (eOp_eq (eCB_eq (aCons_eq (eOp_eq (eOp_eq (eOp_eq (dice y0 rfl) eC_eq big1) (eOp_eq (dice y1 rfl) eC_eq big2) ii_add) eC_eq ii_add) aNil_eq) rfl) eC_eq (ii_mod (by decide))) (eV_at rfl) eC_eq (lstAt_obj set1) rfl) ?_
    show sSeq _ _ _ ((S.set r (tri a b 0)).set r (tri ((a * 48271 + b * 69621 + 11).fmod 2147483647) b 0)) = _
    refine seq_nx (sub_eq (S1 := (S.set r (tri a b 0)).set r (tri ((a * 48271 + b * 69621 + 11).fmod 2147483647) b 0)) (z := 1) (eOp_eq (dice z1 rfl) eC_eq ii_add) (eV_at rfl) eC_eq (lstAt_obj set2) rfl) ?_
    show sRet _ _ (((S.set r (tri a b 0)).set r (tri ((a * 48271 + b * 69621 + 11).fmod 2147483647) b 0)).set r (tri ((a * 48271 + b * 69621 + 11).fmod 2147483647) (b + 1) 0)) = _
    have set3 : (((S.set r (tri a b 0)).set r (tri ((a * 48271 + b * 69621 + 11).fmod 2147483647) b 0)).set r (tri ((a * 48271 + b * 69621 + 11).fmod 2147483647) (b + 1) 0))[r]? = some (tri ((a * 48271 + b * 69621 + 11).fmod 2147483647) (b + 1) 0) := List.getElem?_set_self (by rw [List.length_set, List.length_set]; exact hr)
    obtain ⟨w0, w1, w2⟩ := at_tri set3
    have e2 : ((S.set r (tri a b 0)).set r (tri ((a * 48271 + b * 69621 + 11).fmod 2147483647) b 0)).set r (tri ((a * 48271 + b * 69621 + 11).fmod 2147483647) (b + 1) 0) = S.set r (tri ((a * 48271 + b * 69621 + 11).fmod 2147483647) (b + 1) 0) := by rw [List.set_set, List.set_set]
    rw [← e2]
    exact ret_eq (eOp_eq (eCB_eq (aCons_eq (eOp_eq (eOp_eq (dice w0 rfl) eC_eq (ii_div ⟨by decide, by decide⟩)) (dice w0 rfl) ii_add) aNil_eq) rfl) (eV_at rfl) (ii_mod hm))
end Sm.K15
end

section
set_option linter.all false
set_option autoImplicit false
set_option maxRecDepth 100000
set_option maxHeartbeats 4000000
namespace Sm.K15
open Sm
/-! ### the wick -/
def wk (h en so : Int) : Ob := .ins 0 [(0, .int (h + en)), (1, .int h), (2, .int so)]
theorem wk_at {S : Store} {r : Nat} {h en so : Int} (hS : S[r]? = some (wk h en so)) : insAt S (.obj r) = some (r, 0, [(0, .int (h + en)), (1, .int h), (2, .int so)]) := insAt_obj hS
theorem wk_end {S : Store} {r : Nat} {h en so : Int} (hS : S[r]? = some (wk h en so)) : m_Wick_end [.obj r] S = .ok (.int en) S := by
  have w := wk_at hS
  refine fn_rt rfl ?_
  rw [show en = h + en - h by omega]
  exact ret_eq (eOp_eq (fld_at (eV_at rfl) w rfl) (fld_at (eV_at rfl) w rfl) ii_sub)
theorem wk_shown {S : Store} {r : Nat} {h en so : Int} (hS : S[r]? = some (wk h en so)) : m_Wick_shown [.obj r] S = .ok (.tup [.int h, .int en, .int so]) S := by
  have w := wk_at hS
  refine fn_rt rfl ?_
  exact ret_eq (eTup_eq (aCons_eq (fld_at (eV_at rfl) w rfl) (aCons_eq (meth_eq (eV_at rfl) w aNil_eq (wk_end hS)) (aCons_eq (fld_at (eV_at rfl) w rfl) aNil_eq))) (by simp))
theorem wk_init {S : Store} {r : Nat} {long high : Int} (hS : S[r]? = some (.ins 0 [])) (h1 : 1 ≤ high) (h2 : high < long) : m_Wick_init [.obj r, .int long, .int high] S = .ok .non (S.set r (wk high (long - high) 0)) := by
  have hr : r < S.length := (List.getElem?_eq_some_iff.mp hS).1
  refine fn_nx (e := [some (.obj r), some (.int long), some (.int high)]) rfl ?_
  refine seq_nx (if_f (S1 := S) (tOr_f (S1 := S) (tB_eq (b := false) ?_) (tB_eq (b := false) ?_)) nil_eq) ?_
  · rw [show false = decide (high < 1) by simp; omega]; repeat (first | exact eC_eq | exact aNil_eq | exact nil_eq | exact gN_eq | exact brk_eq | exact raise_eq | exact eV_at rfl | apply eOp_eq | apply tB_eq | apply aCons_eq | apply eCB_eq | apply set_eq | apply ret_eq | exact ii_lt | exact ii_le | exact ii_gt | exact ii_ge | exact ii_sub | exact ii_add | exact eqV_ii | exact neV_ii)
  · rw [show false = decide (long ≤ high) by simp; omega]; repeat (first | exact eC_eq | exact aNil_eq | exact nil_eq | exact gN_eq | exact brk_eq | exact raise_eq | exact eV_at rfl | apply eOp_eq | apply tB_eq | apply aCons_eq | apply eCB_eq | apply set_eq | apply ret_eq | exact ii_lt | exact ii_le | exact ii_gt | exact ii_ge | exact ii_sub | exact ii_add | exact eqV_ii | exact neV_ii)
  refine seq_nx (fld_set (eV_at rfl) (eV_at rfl) (insAt_obj hS) (by simp)) ?_
  refine seq_nx (fld_set (eV_at rfl) (eV_at rfl) (insAt_obj (fs := [(0, .int long)]) (List.getElem?_set_self hr)) (by simp)) ?_
  have e3 : S.set r (wk high (long - high) 0) = ((S.set r (.ins 0 [(0, .int long)])).set r (.ins 0 [(0, .int long), (1, .int high)])).set r (.ins 0 (putF 2 (.int 0) [(0, .int long), (1, .int high)])) := by
    rw [List.set_set, List.set_set]
    show S.set r (.ins 0 [(0, .int (high + (long - high))), (1, .int high), (2, .int 0)]) = _
    rw [show high + (long - high) = long by omega]
    rfl
  rw [e3]
  exact fld_set eC_eq (eV_at rfl) (insAt_obj (fs := [(0, .int long), (1, .int high)]) (List.getElem?_set_self (by rw [List.length_set]; exact hr))) (by simp)
theorem wk_init_bad {S : Store} {r : Nat} {long high : Int} (h : high < 1 ∨ long ≤ high) : m_Wick_init [.obj r, .int long, .int high] S = .exc 1 S := by
  refine fn_exc rfl ?_
  refine seq_exc (if_t (S1 := S) ?_ raise_eq)
  by_cases h1 : high < 1
  · refine tOr_t (tB_eq (b := true) ?_)
    rw [show true = decide (high < 1) by simp [h1]]; repeat (first | exact eC_eq | exact aNil_eq | exact nil_eq | exact gN_eq | exact brk_eq | exact raise_eq | exact eV_at rfl | apply eOp_eq | apply tB_eq | apply aCons_eq | apply eCB_eq | apply set_eq | apply ret_eq | exact ii_lt | exact ii_le | exact ii_gt | exact ii_ge | exact ii_sub | exact ii_add | exact eqV_ii | exact neV_ii)
  · refine tOr_f (S1 := S) (tB_eq (b := false) ?_) (tB_eq (b := true) ?_)
    · rw [show false = decide (high < 1) by simp; omega]; repeat (first | exact eC_eq | exact aNil_eq | exact nil_eq | exact gN_eq | exact brk_eq | exact raise_eq | exact eV_at rfl | apply eOp_eq | apply tB_eq | apply aCons_eq | apply eCB_eq | apply set_eq | apply ret_eq | exact ii_lt | exact ii_le | exact ii_gt | exact ii_ge | exact ii_sub | exact ii_add | exact eqV_ii | exact neV_ii)
    · rw [show true = decide (long ≤ high) by simp; omega]; repeat (first | exact eC_eq | exact aNil_eq | exact nil_eq | exact gN_eq | exact brk_eq | exact raise_eq | exact eV_at rfl | apply eOp_eq | apply tB_eq | apply aCons_eq | apply eCB_eq | apply set_eq | apply ret_eq | exact ii_lt | exact ii_le | exact ii_gt | exact ii_ge | exact ii_sub | exact ii_add | exact eqV_ii | exact neV_ii)
theorem wk_trim {S : Store} {r : Nat} {h en so x : Int} (hS : S[r]? = some (wk h en so)) (h1 : 1 ≤ x) (h2 : x < en) : m_Wick_trim [.obj r, .int x] S = .ok (.int (en - x)) (S.set r (wk h x so)) := by
  have w := wk_at hS
  refine fn_rt rfl ?_
  refine seq_nx (if_f (S1 := S) (tB_eq (b := false) ?_) nil_eq) ?_
  · rw [show false = decide (x < 1) by simp; omega]; repeat (first | exact eC_eq | exact aNil_eq | exact nil_eq | exact gN_eq | exact brk_eq | exact raise_eq | exact eV_at rfl | apply eOp_eq | apply tB_eq | apply aCons_eq | apply eCB_eq | apply set_eq | apply ret_eq | exact ii_lt | exact ii_le | exact ii_gt | exact ii_ge | exact ii_sub | exact ii_add | exact eqV_ii | exact neV_ii)
  refine seq_nx (if_f (S1 := S) (tB_eq (b := false) ?_) nil_eq) ?_
  · rw [show false = decide (en ≤ x) by simp; omega]
    exact eOp_eq (meth_eq (eV_at rfl) w aNil_eq (wk_end hS)) (eV_at rfl) ii_le
  refine seq_nx (set_eq (eOp_eq (meth_eq (eV_at rfl) w aNil_eq (wk_end hS)) (eV_at rfl) ii_sub)) ?_
  have e3 : S.set r (wk h x so) = S.set r (.ins 0 (putF 0 (.int (h + en - (en - x))) [(0, .int (h + en)), (1, .int h), (2, .int so)])) := by
    show S.set r (.ins 0 [(0, .int (h + x)), (1, .int h), (2, .int so)]) = _
    rw [show h + x = h + en - (en - x) by omega]
    rfl
  rw [e3]
  exact seq_nx (fld_aug (eV_at rfl) w rfl (eV_at rfl) isub_ii w (by simp)) (ret_eq (eV_at rfl))
theorem wk_trim_size {S : Store} {r : Nat} {x : Int} (h1 : x < 1) : m_Wick_trim [.obj r, .int x] S = .exc 3 S := by
  refine fn_exc rfl ?_
  refine seq_exc (if_t (S1 := S) (tB_eq (b := true) ?_) raise_eq)
  rw [show true = decide (x < 1) by simp [h1]]; repeat (first | exact eC_eq | exact aNil_eq | exact nil_eq | exact gN_eq | exact brk_eq | exact raise_eq | exact eV_at rfl | apply eOp_eq | apply tB_eq | apply aCons_eq | apply eCB_eq | apply set_eq | apply ret_eq | exact ii_lt | exact ii_le | exact ii_gt | exact ii_ge | exact ii_sub | exact ii_add | exact eqV_ii | exact neV_ii)
theorem wk_trim_deed {S : Store} {r : Nat} {h en so x : Int} (hS : S[r]? = some (wk h en so)) (h1 : 1 ≤ x) (h2 : en ≤ x) : m_Wick_trim [.obj r, .int x] S = .exc 7 S := by
  have w := wk_at hS
  refine fn_exc rfl ?_
  refine seq_nx (if_f (S1 := S) (tB_eq (b := false) ?_) nil_eq) ?_
  · rw [show false = decide (x < 1) by simp; omega]; repeat (first | exact eC_eq | exact aNil_eq | exact nil_eq | exact gN_eq | exact brk_eq | exact raise_eq | exact eV_at rfl | apply eOp_eq | apply tB_eq | apply aCons_eq | apply eCB_eq | apply set_eq | apply ret_eq | exact ii_lt | exact ii_le | exact ii_gt | exact ii_ge | exact ii_sub | exact ii_add | exact eqV_ii | exact neV_ii)
  refine seq_exc (if_t (S1 := S) (tB_eq (b := true) ?_) raise_eq)
  rw [show true = decide (en ≤ x) by simp [h2]]
  exact eOp_eq (meth_eq (eV_at rfl) w aNil_eq (wk_end hS)) (eV_at rfl) ii_le
theorem wk_wipe {S : Store} {r : Nat} {h en so : Int} (hS : S[r]? = some (wk h en so)) (h1 : so ≠ 0) : m_Wick_wipe [.obj r] S = .ok (.int so) (S.set r (wk h en 0)) := by
  have w := wk_at hS
  refine fn_rt rfl ?_
  refine seq_nx (if_f (S1 := S) (tB_eq (b := false) ?_) nil_eq) ?_
  · rw [show false = (so == 0) by simp [h1]]
    exact eOp_eq (fld_at (eV_at rfl) w rfl) eC_eq eqV_ii
  refine seq_nx (set_eq (fld_at (eV_at rfl) w rfl)) ?_
  exact seq_nx (fld_set eC_eq (eV_at rfl) w (by simp)) (ret_eq (eV_at rfl))
theorem wk_wipe_deed {S : Store} {r : Nat} {h en : Int} (hS : S[r]? = some (wk h en 0)) : m_Wick_wipe [.obj r] S = .exc 7 S := by
  have w := wk_at hS
  refine fn_exc rfl ?_
  refine seq_exc (if_t (S1 := S) (tB_eq (b := true) ?_) raise_eq)
  exact eOp_eq (fld_at (eV_at rfl) w rfl) eC_eq (by rw [eqV_ii]; rfl)
end Sm.K15
end

section
set_option linter.all false
set_option autoImplicit false
set_option maxRecDepth 100000
set_option maxHeartbeats 4000000
namespace Sm.K15
open Sm
/-- a minute of a wick: high, end, soot -/
def nEn (en : Int) : Int := en + 1 - (if en > 5 then 2 else 1)
def nSo (en so : Int) : Int := so + (if en > 5 then 1 else 0)
theorem burn_step {S : Store} {r : Nat} {h en so m : Int} {s2 s3 s4 : Option D} (hS : S[r]? = some (wk h en so)) (hh : h ≠ 0) (he : 1 ≤ en) :
    b_Wick_burn_l1 [some (.obj r), some (.int m), s2, s3, s4] S = .ok (.nx [some (.obj r), some (.int m), s2, some (.int en), some (.int (if en > 5 then 2 else 1))]) (S.set r (wk (h - 1) (nEn en) (nSo en so))) := by
  have w := wk_at hS
  have hr : r < S.length := (List.getElem?_eq_some_iff.mp hS).1
  refine seq_nx (if_f (S1 := S) (tB_eq (b := false) ?_) nil_eq) ?_
  · rw [show false = (h == 0) by simp [hh]]
    exact eOp_eq (fld_at (eV_at rfl) w rfl) eC_eq eqV_ii
  refine seq_nx (set_eq (meth_eq (eV_at rfl) w aNil_eq (wk_end hS))) ?_
  refine seq_nx (fld_aug (eV_at rfl) w rfl eC_eq isub_ii w (by simp)) ?_
  show sSeq _ _ [some (.obj r), some (.int m), s2, some (.int en), s4] (S.set r (.ins 0 [(0, .int (h + en)), (1, .int (h - 1)), (2, .int so)])) = _
  have w2 : insAt (S.set r (.ins 0 [(0, .int (h + en)), (1, .int (h - 1)), (2, .int so)])) (.obj r) = some (r, 0, [(0, .int (h + en)), (1, .int (h - 1)), (2, .int so)]) := insAt_obj (List.getElem?_set_self hr)
  have w3 : ∀ s' : Int, insAt ((S.set r (.ins 0 [(0, .int (h + en)), (1, .int (h - 1)), (2, .int so)])).set r (.ins 0 [(0, .int (h + en)), (1, .int (h - 1)), (2, .int s')])) (.obj r) = some (r, 0, [(0, .int (h + en)), (1, .int (h - 1)), (2, .int s')]) := fun s' => insAt_obj (List.getElem?_set_self (by rw [List.length_set]; exact hr))
  have pick : ∀ (a b : Int) {e : Env} {S' : Store}, e[3]? = some (some (.int en)) → eIf (tB (eOp oGt (eV 3) (eC (.int 5)))) (eC (.int a)) (eC (.int b)) e S' = .ok (.int (if en > 5 then a else b)) S' := fun a b e S' he3 => by
    by_cases h5 : en > 5
    · rw [if_pos h5]
      refine eIf_t (S1 := S') (tB_eq (b := true) ?_) eC_eq
      rw [show true = decide (5 < en) by simp; omega]
      exact eOp_eq (eV_at he3) eC_eq ii_gt
    · rw [if_neg h5]
      refine eIf_f (S1 := S') (tB_eq (b := false) ?_) eC_eq
      rw [show false = decide (5 < en) by simp; omega]
      exact eOp_eq (eV_at he3) eC_eq ii_gt
  refine seq_nx (set_eq (pick 2 1 rfl)) ?_
  refine seq_nx (fld_aug (eV_at rfl) w2 rfl (pick 1 0 rfl) iadd_ii w2 (by simp)) ?_
  show sFldAug _ _ _ _ [some (.obj r), some (.int m), s2, some (.int en), some (.int (if en > 5 then 2 else 1))] ((S.set r (.ins 0 [(0, .int (h + en)), (1, .int (h - 1)), (2, .int so)])).set r (.ins 0 [(0, .int (h + en)), (1, .int (h - 1)), (2, .int (so + if en > 5 then 1 else 0))])) = _
  have e9 : S.set r (wk (h - 1) (nEn en) (nSo en so)) = ((S.set r (.ins 0 [(0, .int (h + en)), (1, .int (h - 1)), (2, .int so)])).set r (.ins 0 [(0, .int (h + en)), (1, .int (h - 1)), (2, .int (so + if en > 5 then 1 else 0))])).set r (.ins 0 (putF 0 (.int (h + en - (if en > 5 then 2 else 1))) [(0, .int (h + en)), (1, .int (h - 1)), (2, .int (so + if en > 5 then 1 else 0))])) := by
    rw [List.set_set, List.set_set]
    show S.set r (.ins 0 [(0, .int (h - 1 + nEn en)), (1, .int (h - 1)), (2, .int (nSo en so))]) = S.set r (.ins 0 [(0, .int (h + en - (if en > 5 then 2 else 1))), (1, .int (h - 1)), (2, .int (so + if en > 5 then 1 else 0))])
    rw [show h - 1 + nEn en = h + en - (if en > 5 then 2 else 1) by unfold nEn; omega]
    rfl
  rw [e9]
  refine fld_aug (eV_at rfl) (w3 _) rfl (eCB_eq (aCons_eq (eV_at rfl) (aCons_eq (eOp_eq (eOp_eq (fld_at (eV_at rfl) (w3 _) rfl) (fld_at (eV_at rfl) (w3 _) rfl) ii_sub) eC_eq ii_sub) aNil_eq)) ?_) isub_ii (w3 _) (by simp)
  show some (D.int (if h + en - (h - 1) - 1 < (if en > 5 then 2 else 1) then h + en - (h - 1) - 1 else (if en > 5 then 2 else 1))) = some (D.int (if en > 5 then 2 else 1))
  rw [if_neg (by split <;> omega)]
theorem nEn_pos {en : Int} (h : 1 ≤ en) : 1 ≤ nEn en := by unfold nEn; split <;> omega
/-- so many minutes, until it is burnt down -/
def iterB : Nat → Int → Int → Int → Int × Int × Int
  | 0, h, en, so => (h, en, so)
  | n + 1, h, en, so => if h = 0 then (h, en, so) else iterB n (h - 1) (nEn en) (nSo en so)
theorem burn_loop {r : Nat} {m : Int} : ∀ (n : Nat) (lo : Int) {S : Store} {h en so : Int} {s2 s3 s4 : Option D}, S[r]? = some (wk h en so) → 1 ≤ en →
    ∃ t2 t3 t4, forL none (gN 2) b_Wick_burn_l1 (rangeL lo n) [some (.obj r), some (.int m), s2, s3, s4] S = .ok (.nx [some (.obj r), some (.int m), t2, t3, t4]) (S.set r (wk (iterB n h en so).1 (iterB n h en so).2.1 (iterB n h en so).2.2))
  | 0, lo, S, h, en, so, s2, s3, s4, hS, he => ⟨s2, s3, s4, by
    have hr : r < S.length := (List.getElem?_eq_some_iff.mp hS).1
    show Out.ok _ (unlockAt S none) = _
    have e : S.set r (wk h en so) = S := by
      apply List.ext_getElem?
      intro i
      by_cases z : r = i
      · subst z; rw [List.getElem?_set_self hr, hS]
      · rw [List.getElem?_set_ne z]
    show Out.ok _ S = Out.ok _ (S.set r (wk h en so))
    rw [e]⟩
  | n + 1, lo, S, h, en, so, s2, s3, s4, hS, he => by
    have hr : r < S.length := (List.getElem?_eq_some_iff.mp hS).1
    by_cases hh : h = 0
    · subst hh
      have e : S.set r (wk 0 en so) = S := by
        apply List.ext_getElem?
        intro i
        by_cases z : r = i
        · subst z; rw [List.getElem?_set_self hr, hS]
        · rw [List.getElem?_set_ne z]
      have ei : iterB (n + 1) 0 en so = (0, en, so) := by unfold iterB; rw [if_pos rfl]
      refine ⟨some (.int lo), s3, s4, ?_⟩
      rw [ei, e]
      refine forL_bk (S2 := S) gN_eq ?_
      refine seq_bk (if_t (S1 := S) (tB_eq (b := true) ?_) brk_eq)
      exact eOp_eq (fld_at (eV_at rfl) (wk_at hS) rfl) eC_eq (by rw [eqV_ii]; rfl)
    · have ei : iterB (n + 1) h en so = iterB n (h - 1) (nEn en) (nSo en so) := by
        show (if h = 0 then _ else _) = _
        rw [if_neg hh]
      rw [ei]
      obtain ⟨t2, t3, t4, q⟩ := burn_loop (r := r) (m := m) n (lo + 1) (S := S.set r (wk (h - 1) (nEn en) (nSo en so))) (s2 := some (.int lo)) (s3 := some (.int en)) (s4 := some (.int (if en > 5 then 2 else 1))) (List.getElem?_set_self hr) (nEn_pos he)
      refine ⟨t2, t3, t4, ?_⟩
      rw [List.set_set] at q
      exact forL_nx gN_eq (burn_step hS hh he) q
theorem wk_burn {S : Store} {r : Nat} {h en so m : Int} (hS : S[r]? = some (wk h en so)) (h1 : 1 ≤ m) (h2 : m ≤ 1000) (hh : h ≠ 0) (he : 1 ≤ en) : m_Wick_burn [.obj r, .int m] S = .ok (.int (iterB m.toNat h en so).1) (S.set r (wk (iterB m.toNat h en so).1 (iterB m.toNat h en so).2.1 (iterB m.toNat h en so).2.2)) := by
  have w := wk_at hS
  have hr : r < S.length := (List.getElem?_eq_some_iff.mp hS).1
  refine fn_rt rfl ?_
  refine seq_nx (if_f (S1 := S) (tB_eq (b := false) ?_) nil_eq) ?_
  · rw [show false = decide (m < 1) by simp; omega]; repeat (first | exact eC_eq | exact aNil_eq | exact nil_eq | exact gN_eq | exact brk_eq | exact raise_eq | exact eV_at rfl | apply eOp_eq | apply tB_eq | apply aCons_eq | apply eCB_eq | apply set_eq | apply ret_eq | exact ii_lt | exact ii_le | exact ii_gt | exact ii_ge | exact ii_sub | exact ii_add | exact eqV_ii | exact neV_ii)
  refine seq_nx (if_f (S1 := S) (tB_eq (b := false) ?_) nil_eq) ?_
  · rw [show false = (h == 0) by simp [hh]]
    exact eOp_eq (fld_at (eV_at rfl) w rfl) eC_eq eqV_ii
  obtain ⟨t2, t3, t4, q⟩ := burn_loop (r := r) (m := m) m.toNat 0 (s2 := none) (s3 := none) (s4 := none) hS he
  refine seq_nx (for_eq (range1_eq (aCons_eq (eV_at rfl) aNil_eq) ⟨by omega, by omega⟩) q) ?_
  exact ret_eq (fld_at (eV_at rfl) (wk_at (List.getElem?_set_self hr)) rfl)
theorem wk_burn_size {S : Store} {r : Nat} {m : Int} (h1 : m < 1) : m_Wick_burn [.obj r, .int m] S = .exc 3 S := by
  refine fn_exc rfl ?_
  refine seq_exc (if_t (S1 := S) (tB_eq (b := true) ?_) raise_eq)
  rw [show true = decide (m < 1) by simp [h1]]; repeat (first | exact eC_eq | exact aNil_eq | exact nil_eq | exact gN_eq | exact brk_eq | exact raise_eq | exact eV_at rfl | apply eOp_eq | apply tB_eq | apply aCons_eq | apply eCB_eq | apply set_eq | apply ret_eq | exact ii_lt | exact ii_le | exact ii_gt | exact ii_ge | exact ii_sub | exact ii_add | exact eqV_ii | exact neV_ii)
theorem wk_burn_deed {S : Store} {r : Nat} {en so m : Int} (hS : S[r]? = some (wk 0 en so)) (h1 : 1 ≤ m) : m_Wick_burn [.obj r, .int m] S = .exc 7 S := by
  refine fn_exc rfl ?_
  refine seq_nx (if_f (S1 := S) (tB_eq (b := false) ?_) nil_eq) ?_
  · rw [show false = decide (m < 1) by simp; omega]; repeat (first | exact eC_eq | exact aNil_eq | exact nil_eq | exact gN_eq | exact brk_eq | exact raise_eq | exact eV_at rfl | apply eOp_eq | apply tB_eq | apply aCons_eq | apply eCB_eq | apply set_eq | apply ret_eq | exact ii_lt | exact ii_le | exact ii_gt | exact ii_ge | exact ii_sub | exact ii_add | exact eqV_ii | exact neV_ii)
  refine seq_exc (if_t (S1 := S) (tB_eq (b := true) ?_) raise_eq)
  exact eOp_eq (fld_at (eV_at rfl) (wk_at hS) rfl) eC_eq (by rw [eqV_ii]; rfl)
end Sm.K15
end

section
set_option linter.all false
set_option autoImplicit false
set_option maxRecDepth 100000
set_option maxHeartbeats 4000000
namespace Sm.K15
open Sm
/-! ### the law's own steps -/
def ev17 (h en so : Int) (s4 s5 s6 s9 s10 s11 s12 s13 s14 s15 s16 : Option D) : Env := [some (.obj 0), some (.obj 1), some (.int h), some (.obj 2), s4, s5, s6, some (.int en), some (.int so), s9, s10, s11, s12, s13, s14, s15, s16]
theorem roll_st {sc : Ob} {R : Store} {a b c many : Int} (h1 : 1 ≤ many) (h2 : many < 1000000) : ∃ v a' b' c', m_law_roll [.obj 1, .int many] (sc :: tri a b c :: R) = .ok (.int v) (sc :: tri a' b' c' :: R) ∧ 0 ≤ v ∧ v < many :=
  roll_ok (S := sc :: tri a b c :: R) (r := 1) rfl h1 h2
/-- a roll in an expression, the dice in slot i -/
theorem e_roll {sc : Ob} {R : Store} {a b c many : Int} {i : Nat} (h1 : 1 ≤ many) (h2 : many < 1000000) : ∃ v a' b' c', (∀ e : Env, e[i]? = some (some (.obj 1)) → eCall m_law_roll (aCons (eV i) (aCons (eC (.int many)) aNil)) e (sc :: tri a b c :: R) = .ok (.int v) (sc :: tri a' b' c' :: R)) ∧ 0 ≤ v ∧ v < many := by
  obtain ⟨v, a', b', c', h, h3, h4⟩ := roll_st (sc := sc) (R := R) (a := a) (b := b) (c := c) h1 h2
  exact ⟨v, a', b', c', fun e he => eCall_eq (aCons_eq (eV_at he) (aCons_eq eC_eq aNil_eq)) h, h3, h4⟩
theorem law_minute {h en so : Int} {S : Store} {s4 s5 s6 s9 s10 s11 s12 s13 s14 s15 s16 : Option D} (he : 1 ≤ en) : b_law_l3 (ev17 h en so s4 s5 s6 s9 s10 s11 s12 s13 s14 s15 s16) S = .ok (.nx (ev17 (h - 1) (nEn en) (nSo en so) s4 s5 s6 s9 s10 s11 s12 s13 s14 s15 s16)) S := by
  refine seq_nx (e1 := ev17 h en (nSo en so) s4 s5 s6 s9 s10 s11 s12 s13 s14 s15 s16) (set_eq (d := .int (nSo en so)) (eOp_eq (eV_at rfl) (eCB_eq (z := .int (if en > 5 then 1 else 0)) (aCons_eq (eOp_eq (eV_at rfl) eC_eq ii_gt) aNil_eq) ?_) ii_add)) ?_
  · show some (D.int (if decide (5 < en) = true then 1 else 0)) = _
    by_cases h5 : en > 5
    · rw [if_pos h5, if_pos (by simp; omega)]
    · rw [if_neg h5, if_neg (by simp; omega)]
  · have pick : eIf (tB (eOp oGt (eV 7) (eC (.int 5)))) (eC (.int 2)) (eC (.int 1)) (ev17 h en (nSo en so) s4 s5 s6 s9 s10 s11 s12 s13 s14 s15 s16) S = .ok (.int (if en > 5 then 2 else 1)) S := by
      by_cases h5 : en > 5
      · rw [if_pos h5]
        refine eIf_t (S1 := S) (tB_eq (b := true) ?_) eC_eq
        rw [show true = decide (5 < en) by simp; omega]
        exact eOp_eq (eV_at rfl) eC_eq ii_gt
      · rw [if_neg h5]
        refine eIf_f (S1 := S) (tB_eq (b := false) ?_) eC_eq
        rw [show false = decide (5 < en) by simp; omega]
        exact eOp_eq (eV_at rfl) eC_eq ii_gt
    refine par_eq (v := .int (nEn en)) (w := .int (h - 1)) (aCons_eq (eOp_eq (eOp_eq (eV_at rfl) eC_eq ii_add) (eCB_eq (z := .int (if en > 5 then 2 else 1)) (aCons_eq pick (aCons_eq (eV_at rfl) aNil_eq)) ?_) ii_sub) (aCons_eq (eOp_eq (eV_at rfl) eC_eq ii_sub) aNil_eq))
    show some (D.int (if en < (if en > 5 then 2 else 1) then en else (if en > 5 then 2 else 1))) = _
    rw [if_neg (by split <;> omega)]
theorem law_minutes {S : Store} {s4 s5 s6 s9 s10 s11 s12 s13 s14 s15 : Option D} : ∀ (n : Nat) (lo : Int) {h en so : Int} {s16 : Option D}, (n : Int) ≤ h → 1 ≤ en →
    ∃ t16, forL none (gN 16) b_law_l3 (rangeL lo n) (ev17 h en so s4 s5 s6 s9 s10 s11 s12 s13 s14 s15 s16) S = .ok (.nx (ev17 (iterB n h en so).1 (iterB n h en so).2.1 (iterB n h en so).2.2 s4 s5 s6 s9 s10 s11 s12 s13 s14 s15 t16)) S
  | 0, lo, h, en, so, s16, hn, he => ⟨s16, rfl⟩
  | n + 1, lo, h, en, so, s16, hn, he => by
    have hh : h ≠ 0 := by omega
    have ei : iterB (n + 1) h en so = iterB n (h - 1) (nEn en) (nSo en so) := by
      show (if h = 0 then _ else _) = _
      rw [if_neg hh]
    obtain ⟨t, q⟩ := law_minutes (S := S) (s4 := s4) (s5 := s5) (s6 := s6) (s9 := s9) (s10 := s10) (s11 := s11) (s12 := s12) (s13 := s13) (s14 := s14) (s15 := s15) n (lo + 1) (h := h - 1) (en := nEn en) (so := nSo en so) (s16 := some (.int lo)) (by omega) (nEn_pos he)
    rw [ei]
    exact ⟨t, forL_nx gN_eq (law_minute he) q⟩
/-- the wick burns no more than it is high -/
theorem iter_cap : ∀ (n : Nat) {h en so : Int}, 0 ≤ h → iterB n h en so = iterB (min n h.toNat) h en so
  | 0, h, en, so, hh => by simp
  | n + 1, h, en, so, hh => by
    by_cases h0 : h = 0
    · subst h0
      show (if (0 : Int) = 0 then _ else _) = _
      rw [if_pos rfl]
      simp [iterB]
    · have e : min (n + 1) h.toNat = min n (h - 1).toNat + 1 := by omega
      rw [e]
      show (if h = 0 then _ else _) = (if h = 0 then _ else _)
      rw [if_neg h0, if_neg h0]
      exact iter_cap n (by omega)
theorem iter_nn : ∀ (n : Nat) {h en so : Int}, 0 ≤ h → 1 ≤ en → 0 ≤ so → 0 ≤ (iterB n h en so).1 ∧ 1 ≤ (iterB n h en so).2.1 ∧ 0 ≤ (iterB n h en so).2.2
  | 0, h, en, so, h1, h2, h3 => ⟨h1, h2, h3⟩
  | n + 1, h, en, so, h1, h2, h3 => by
    by_cases h0 : h = 0
    · have e : iterB (n + 1) h en so = (h, en, so) := by
        show (if h = 0 then _ else _) = _
        rw [if_pos h0]
      rw [e]; exact ⟨h1, h2, h3⟩
    · have e : iterB (n + 1) h en so = iterB n (h - 1) (nEn en) (nSo en so) := by
        show (if h = 0 then _ else _) = _
        rw [if_neg h0]
      rw [e]
      exact iter_nn n (by omega) (nEn_pos h2) (by unfold nSo; split <;> omega)
theorem ne_self {S : Store} {d : D} (h : dataD (view S d) = true) (h2 : eqD (view S d) (view S d) = true) : oNe S d d = some (.bl false) := by
  unfold oNe eqV
  simp [h, h2]
theorem ne_int {S : Store} {a : Int} : oNe S (.int a) (.int a) = some (.bl false) := ne_self rfl (by simp [view, eqD])
theorem ne_tup3 {S : Store} {a b c : Int} : oNe S (.tup [.int a, .int b, .int c]) (.tup [.int a, .int b, .int c]) = some (.bl false) := ne_self rfl (by simp [view, eqD, eqL])
def sizeT : Tx := [115, 105, 122, 101]
def deedT : Tx := [100, 101, 101, 100]
theorem ne_size {S : Store} : oNe S (.str sizeT) (.str sizeT) = some (.bl false) := ne_self rfl (by simp [view, eqD])
theorem ne_deed {S : Store} : oNe S (.str deedT) (.str deedT) = some (.bl false) := ne_self rfl (by simp [view, eqD])
/-- the step's last test -/
theorem law_check {h en so : Int} {S : Store} {d : D} {s4 s5 s6 s9 s10 s11 s12 s13 s16 : Option D} (hS : S[2]? = some (wk h en so)) (hd : oNe S d d = some (.bl false)) :
    sIf (tOr (tB (eOp oNe (eV 15) (eV 14))) (tOr (tB (eOp oNe (eMeth 0 m_Wick_shown (eV 3) (aNil)) (eTup (aCons (eV 2) (aCons (eV 7) (aCons (eV 8) (aNil))))))) (tB (eOp oNe (eMeth 0 m_Wick_end (eV 3) (aNil)) (eV 7))))) (sRet (eC (.bl false))) (sNil)
      (ev17 h en so s4 s5 s6 s9 s10 s11 s12 s13 (some d) (some d) s16) S = .ok (.nx (ev17 h en so s4 s5 s6 s9 s10 s11 s12 s13 (some d) (some d) s16)) S := by
  have w := wk_at hS
  refine if_f (S1 := S) (tOr_f (S1 := S) (tB_eq (eOp_eq (eV_at rfl) (eV_at rfl) hd)) (tOr_f (S1 := S) (tB_eq (eOp_eq (meth_eq (eV_at rfl) w aNil_eq (wk_shown hS)) (eTup_eq (aCons_eq (eV_at rfl) (aCons_eq (eV_at rfl) (aCons_eq (eV_at rfl) aNil_eq))) (by simp)) ne_tup3)) (tB_eq (eOp_eq (meth_eq (eV_at rfl) w aNil_eq (wk_end hS)) (eV_at rfl) ne_int)))) nil_eq
end Sm.K15
end

section
set_option linter.all false
set_option autoImplicit false
set_option maxRecDepth 100000
set_option maxHeartbeats 4000000
namespace Sm.K15
open Sm
theorem notin_size {S : Store} : oNotInS S (.str sizeT) (.lst [.str sizeT, .str deedT]) = some (.bl false) := by simp [oNotInS, inSV, view, flatD, inL, eqD, sizeT, deedT]
theorem notin_deed {S : Store} : oNotInS S (.str deedT) (.lst [.str sizeT, .str deedT]) = some (.bl false) := by simp [oNotInS, inSV, view, flatD, inL, eqD, sizeT, deedT]
theorem notin_int {S : Store} {i : Int} : oNotInS S (.int i) (.lst [.str sizeT, .str deedT]) = some (.bl true) := by simp [oNotInS, inSV, view, flatD, inL, eqD]
/-- a size or a deed, by a number -/
theorem pick_sd {e : Env} {S : Store} {x : Int} (h : e[13]? = some (some (.int x))) : eIf (tB (eOp oLt (eV 13) (eC (.int 1)))) (eC (.str sizeT)) (eC (.str deedT)) e S = .ok (.str (if x < 1 then sizeT else deedT)) S := by
  by_cases hx : x < 1
  · rw [if_pos hx]
    refine eIf_t (S1 := S) (tB_eq (b := true) ?_) eC_eq
    rw [show true = decide (x < 1) by simp [hx]]
    exact eOp_eq (eV_at h) eC_eq ii_lt
  · rw [if_neg hx]
    refine eIf_f (S1 := S) (tB_eq (b := false) ?_) eC_eq
    rw [show false = decide (x < 1) by simp; omega]
    exact eOp_eq (eV_at h) eC_eq ii_lt
def okSt (sc : Ob) (E : Env) (S : Store) : Prop := ∃ a b c h en so s4 s5 s6 s9 s10 s11 s12 s13 s14 s15 s16, E = ev17 h en so s4 s5 s6 s9 s10 s11 s12 s13 s14 s15 s16 ∧ S = [sc, tri a b c, wk h en so] ∧ 0 ≤ h ∧ 1 ≤ en ∧ 0 ≤ so
theorem law_step {sc : Ob} {a b c h en so : Int} {s4 s5 s6 s9 s10 s11 s12 s13 s14 s15 s16 : Option D} (hh : 0 ≤ h) (he : 1 ≤ en) (hs : 0 ≤ so) :
    ∃ E' S', b_law_l2 (ev17 h en so s4 s5 s6 s9 s10 s11 s12 s13 s14 s15 s16) [sc, tri a b c, wk h en so] = .ok (.nx E') S' ∧ okSt sc E' S' := by
  obtain ⟨so1, a1, b1, c1, r1, q1, q2⟩ := e_roll (sc := sc) (R := [wk h en so]) (a := a) (b := b) (c := c) (many := 6) (i := 1) (by decide) (by decide)
  obtain ⟨mu, a2, b2, c2, r2, q3, q4⟩ := e_roll (sc := sc) (R := [wk h en so]) (a := a1) (b := b1) (c := c1) (many := 9) (i := 1) (by decide) (by decide)
  have first : sAsg (gT [gN 12, gN 13]) (eTup (aCons (eCall m_law_roll (aCons (eV 1) (aCons (eC (.int 6)) (aNil)))) (aCons (eCall m_law_roll (aCons (eV 1) (aCons (eC (.int 9)) (aNil)))) (aNil)))) (ev17 h en so s4 s5 s6 s9 s10 s11 s12 s13 s14 s15 s16) [sc, tri a b c, wk h en so] =
      .ok (.nx (ev17 h en so s4 s5 s6 s9 s10 s11 (some (.int so1)) (some (.int mu)) s14 s15 s16)) [sc, tri a2 b2 c2, wk h en so] :=
    asg_eq (d := .tup [.int so1, .int mu]) (eTup_eq (aCons_eq (r1 _ rfl) (aCons_eq (r2 _ rfl) aNil_eq)) (by simp)) rfl
  have hW : ([sc, tri a2 b2 c2, wk h en so] : Store)[2]? = some (wk h en so) := rfl
  have wW := wk_at hW
  have cmp : ∀ (n : Int) {E : Env} {S : Store}, E[12]? = some (some (.int so1)) → tB (eOp oLt (eV 12) (eC (.int n))) E S = .ok (decide (so1 < n)) S := fun n E S hE => tB_eq (eOp_eq (eV_at hE) eC_eq ii_lt)
  by_cases k3 : so1 < 3
  · -- the wick burns
    by_cases m1 : mu < 1
    · refine ⟨_, _, seq_nx first (seq_nx (if_t (S1 := [sc, tri a2 b2 c2, wk h en so]) (by rw [cmp 3 rfl]; simp [k3]) (seq_nx (par_eq (v := .str sizeT) (w := .str sizeT) (aCons_eq (by have p := pick_sd (S := [sc, tri a2 b2 c2, wk h en so]) (x := mu) (e := ev17 h en so s4 s5 s6 s9 s10 s11 (some (.int so1)) (some (.int mu)) s14 s15 s16) rfl; rw [if_pos m1] at p; exact p) (aCons_eq (told_exc (y := (3, sizeT)) (meth_eq (eV_at rfl) wW (aCons_eq (eV_at rfl) aNil_eq) (wk_burn_size m1)) rfl) aNil_eq))) (if_f (S1 := [sc, tri a2 b2 c2, wk h en so]) (tAnd_f (tB_eq (b := false) ?_)) nil_eq))) (law_check rfl ne_size)), a2, b2, c2, h, en, so, _, _, _, _, _, _, _, _, _, _, _, rfl, rfl, hh, he, hs⟩
      rw [show false = decide (0 < mu) by simp; omega]
      exact eOp_eq (eV_at rfl) eC_eq ii_gt
    · by_cases h0 : h = 0
      · subst h0
        refine ⟨_, _, seq_nx first (seq_nx (if_t (S1 := [sc, tri a2 b2 c2, wk 0 en so]) (by rw [cmp 3 rfl]; simp [k3]) (seq_nx (par_eq (v := .str deedT) (w := .str deedT) (aCons_eq (by have p := pick_sd (S := [sc, tri a2 b2 c2, wk 0 en so]) (x := mu) (e := ev17 0 en so s4 s5 s6 s9 s10 s11 (some (.int so1)) (some (.int mu)) s14 s15 s16) rfl; rw [if_neg m1] at p; exact p) (aCons_eq (told_exc (y := (7, deedT)) (meth_eq (eV_at rfl) wW (aCons_eq (eV_at rfl) aNil_eq) (wk_burn_deed hW (by omega))) rfl) aNil_eq))) (if_f (S1 := [sc, tri a2 b2 c2, wk 0 en so]) (tAnd_t (S1 := [sc, tri a2 b2 c2, wk 0 en so]) (tB_eq (b := true) ?_) (tB_eq (b := false) ?_)) nil_eq))) (law_check rfl ne_deed)), a2, b2, c2, 0, en, so, _, _, _, _, _, _, _, _, _, _, _, rfl, rfl, hh, he, hs⟩
        · rw [show true = decide (0 < mu) by simp; omega]
          exact eOp_eq (eV_at rfl) eC_eq ii_gt
        · rw [show false = decide ((0 : Int) < 0) by simp]
          exact eOp_eq (eV_at rfl) eC_eq ii_gt
      · have cap : iterB mu.toNat h en so = iterB (min mu.toNat h.toNat) h en so := iter_cap _ hh
        obtain ⟨n1, n2, n3⟩ := iter_nn mu.toNat hh he hs
        have bu := wk_burn hW (m := mu) (by omega) (by omega) h0 he
        have mins : (if h < mu then h else mu).toNat = min mu.toNat h.toNat := by split <;> omega
        obtain ⟨t16, lp⟩ := law_minutes (S := [sc, tri a2 b2 c2, wk (iterB mu.toNat h en so).1 (iterB mu.toNat h en so).2.1 (iterB mu.toNat h en so).2.2]) (s4 := s4) (s5 := s5) (s6 := s6) (s9 := s9) (s10 := s10) (s11 := s11) (s12 := some (.int so1)) (s13 := some (.int mu)) (s14 := some (.str deedT)) (s15 := some (.int (iterB mu.toNat h en so).1)) (min mu.toNat h.toNat) 0 (h := h) (en := en) (so := so) (s16 := s16) (by omega) he
        rw [← cap, ← mins] at lp
        refine ⟨_, _, seq_nx first (seq_nx (if_t (S1 := [sc, tri a2 b2 c2, wk h en so]) (by rw [cmp 3 rfl]; simp [k3]) (seq_nx (par_eq (v := .str deedT) (w := .int (iterB mu.toNat h en so).1) (aCons_eq (by have p := pick_sd (S := [sc, tri a2 b2 c2, wk h en so]) (x := mu) (e := ev17 h en so s4 s5 s6 s9 s10 s11 (some (.int so1)) (some (.int mu)) s14 s15 s16) rfl; rw [if_neg m1] at p; exact p) (aCons_eq (told_ok (meth_eq (eV_at rfl) wW (aCons_eq (eV_at rfl) aNil_eq) bu)) aNil_eq))) (if_t (S1 := [sc, tri a2 b2 c2, wk (iterB mu.toNat h en so).1 (iterB mu.toNat h en so).2.1 (iterB mu.toNat h en so).2.2]) (tAnd_t (S1 := [sc, tri a2 b2 c2, wk (iterB mu.toNat h en so).1 (iterB mu.toNat h en so).2.1 (iterB mu.toNat h en so).2.2]) (tB_eq (b := true) ?_) (tB_eq (b := true) ?_))
          (seq_nx (for_eq (range1_eq (n := if h < mu then h else mu) (aCons_eq (eCB_eq (aCons_eq (eV_at rfl) (aCons_eq (eV_at rfl) aNil_eq)) rfl) aNil_eq) ⟨by split <;> omega, by split <;> omega⟩) lp) (set_eq (eV_at rfl)))))) (law_check rfl ne_int)), a2, b2, c2, _, _, _, _, _, _, _, _, _, _, _, _, _, _, rfl, rfl, n1, n2, n3⟩
        · rw [show true = decide (0 < mu) by simp; omega]
          exact eOp_eq (eV_at rfl) eC_eq ii_gt
        · rw [show true = decide (0 < h) by simp; omega]
          exact eOp_eq (eV_at rfl) eC_eq ii_gt
  · have c3 : ∀ {E : Env} {S : Store}, E[12]? = some (some (.int so1)) → tB (eOp oLt (eV 12) (eC (.int 3))) E S = .ok false S := fun {E S} hE => by rw [cmp 3 hE]; simp; omega
    by_cases k5 : so1 < 5
    · -- the end is trimmed
      have c5 : ∀ {E : Env} {S : Store}, E[12]? = some (some (.int so1)) → tB (eOp oLt (eV 12) (eC (.int 5))) E S = .ok true S := fun {E S} hE => by rw [cmp 5 hE]; simp [k5]
      have lstE : ∀ {E : Env} {S : Store}, eLst (aCons (eC (.str sizeT)) (aCons (eC (.str deedT)) (aNil))) E S = .ok (.lst [.str sizeT, .str deedT]) S := fun {E S} => eLst_eq (aCons_eq eC_eq (aCons_eq eC_eq aNil_eq)) (by simp)
      by_cases m1 : mu < 1
      · refine ⟨_, _, seq_nx first (seq_nx (if_f (S1 := [sc, tri a2 b2 c2, wk h en so]) (c3 rfl) (if_t (S1 := [sc, tri a2 b2 c2, wk h en so]) (c5 rfl) (seq_nx (set_eq (d := .str sizeT) (eIf_t (S1 := [sc, tri a2 b2 c2, wk h en so]) (tB_eq (b := true) ?_) eC_eq)) (seq_nx (set_eq (d := .str sizeT) (told_exc (y := (3, sizeT)) (meth_eq (eV_at rfl) wW (aCons_eq (eV_at rfl) aNil_eq) (wk_trim_size m1)) rfl))
          (set_eq (d := .int en) (eIf_f (S1 := [sc, tri a2 b2 c2, wk h en so]) (tB_eq (eOp_eq (eV_at rfl) lstE notin_size)) (eV_at rfl))))))) (law_check rfl ne_size)), a2, b2, c2, h, en, so, _, _, _, _, _, _, _, _, _, _, _, rfl, rfl, hh, he, hs⟩
        rw [show true = decide (mu < 1) by simp [m1]]
        exact eOp_eq (eV_at rfl) eC_eq ii_lt
      · have f1 : ∀ {E : Env} {S : Store}, E[13]? = some (some (.int mu)) → tB (eOp oLt (eV 13) (eC (.int 1))) E S = .ok false S := fun {E S} hE => tB_eq (by rw [show false = decide (mu < 1) by simp; omega]; exact eOp_eq (eV_at hE) eC_eq ii_lt)
        by_cases m2 : en ≤ mu
        · refine ⟨_, _, seq_nx first (seq_nx (if_f (S1 := [sc, tri a2 b2 c2, wk h en so]) (c3 rfl) (if_t (S1 := [sc, tri a2 b2 c2, wk h en so]) (c5 rfl) (seq_nx (set_eq (d := .str deedT) (eIf_f (S1 := [sc, tri a2 b2 c2, wk h en so]) (f1 rfl) (eIf_t (S1 := [sc, tri a2 b2 c2, wk h en so]) (tB_eq (b := true) ?_) eC_eq))) (seq_nx (set_eq (d := .str deedT) (told_exc (y := (7, deedT)) (meth_eq (eV_at rfl) wW (aCons_eq (eV_at rfl) aNil_eq) (wk_trim_deed hW (by omega) m2)) rfl))
            (set_eq (d := .int en) (eIf_f (S1 := [sc, tri a2 b2 c2, wk h en so]) (tB_eq (eOp_eq (eV_at rfl) lstE notin_deed)) (eV_at rfl))))))) (law_check rfl ne_deed)), a2, b2, c2, h, en, so, _, _, _, _, _, _, _, _, _, _, _, rfl, rfl, hh, he, hs⟩
          rw [show true = decide (en ≤ mu) by simp [m2]]
          exact eOp_eq (eV_at rfl) (eV_at rfl) ii_le
        · refine ⟨_, _, seq_nx first (seq_nx (if_f (S1 := [sc, tri a2 b2 c2, wk h en so]) (c3 rfl) (if_t (S1 := [sc, tri a2 b2 c2, wk h en so]) (c5 rfl) (seq_nx (set_eq (d := .int (en - mu)) (eIf_f (S1 := [sc, tri a2 b2 c2, wk h en so]) (f1 rfl) (eIf_f (S1 := [sc, tri a2 b2 c2, wk h en so]) (tB_eq (b := false) ?_) (eOp_eq (eV_at rfl) (eV_at rfl) ii_sub)))) (seq_nx (set_eq (d := .int (en - mu)) (told_ok (meth_eq (eV_at rfl) wW (aCons_eq (eV_at rfl) aNil_eq) (wk_trim hW (by omega) (by omega)))))
            (set_eq (d := .int mu) (eIf_t (S1 := [sc, tri a2 b2 c2, wk h mu so]) (tB_eq (eOp_eq (eV_at rfl) lstE notin_int)) (eV_at rfl))))))) (law_check rfl ne_int)), a2, b2, c2, h, mu, so, _, _, _, _, _, _, _, _, _, _, _, rfl, rfl, hh, by omega, hs⟩
          rw [show false = decide (en ≤ mu) by simp; omega]
          exact eOp_eq (eV_at rfl) (eV_at rfl) ii_le
    · -- the soot is wiped
      have c5 : ∀ {E : Env} {S : Store}, E[12]? = some (some (.int so1)) → tB (eOp oLt (eV 12) (eC (.int 5))) E S = .ok false S := fun {E S} hE => by rw [cmp 5 hE]; simp; omega
      by_cases z : so = 0
      · subst z
        refine ⟨_, _, seq_nx first (seq_nx (if_f (S1 := [sc, tri a2 b2 c2, wk h en 0]) (c3 rfl) (if_f (S1 := [sc, tri a2 b2 c2, wk h en 0]) (c5 rfl) (par3_eq (v := .str deedT) (w := .str deedT) (u := .int 0) (aCons_eq (eIf_f (S1 := [sc, tri a2 b2 c2, wk h en 0]) (tB_eq (b := false) ?_) eC_eq) (aCons_eq (told_exc (y := (7, deedT)) (meth_eq (eV_at rfl) wW aNil_eq (wk_wipe_deed hW)) rfl) (aCons_eq eC_eq aNil_eq)))))) (law_check rfl ne_deed)), a2, b2, c2, h, en, 0, _, _, _, _, _, _, _, _, _, _, _, rfl, rfl, hh, he, hs⟩
        rw [show false = decide ((0 : Int) < 0) by simp]
        exact eOp_eq (eV_at rfl) eC_eq ii_gt
      · refine ⟨_, _, seq_nx first (seq_nx (if_f (S1 := [sc, tri a2 b2 c2, wk h en so]) (c3 rfl) (if_f (S1 := [sc, tri a2 b2 c2, wk h en so]) (c5 rfl) (par3_eq (v := .int so) (w := .int so) (u := .int 0) (aCons_eq (eIf_t (S1 := [sc, tri a2 b2 c2, wk h en so]) (tB_eq (b := true) ?_) (eV_at rfl)) (aCons_eq (told_ok (meth_eq (eV_at rfl) wW aNil_eq (wk_wipe hW z))) (aCons_eq eC_eq aNil_eq)))))) (law_check rfl ne_int)), a2, b2, c2, h, en, 0, _, _, _, _, _, _, _, _, _, _, _, rfl, rfl, hh, he, Int.le_refl 0⟩
        rw [show true = decide (0 < so) by simp; omega]
        exact eOp_eq (eV_at rfl) eC_eq ii_gt
theorem law_steps {sc : Ob} : ∀ (n : Nat) (lo : Int) {E : Env} {S : Store}, okSt sc E S → ∃ E' S', forL none (gN 4) b_law_l2 (rangeL lo n) E S = .ok (.nx E') S' ∧ okSt sc E' S'
  | 0, lo, E, S, h => ⟨E, S, rfl, h⟩
  | n + 1, lo, E, S, h => by
    obtain ⟨a, b, c, h, en, so, s4, s5, s6, s9, s10, s11, s12, s13, s14, s15, s16, rfl, rfl, h1, h2, h3⟩ := h
    obtain ⟨E1, S1, q, ok1⟩ := law_step (sc := sc) (a := a) (b := b) (c := c) (s4 := some (.int lo)) (s5 := s5) (s6 := s6) (s9 := s9) (s10 := s10) (s11 := s11) (s12 := s12) (s13 := s13) (s14 := s14) (s15 := s15) (s16 := s16) h1 h2 h3
    obtain ⟨E2, S2, q2, ok2⟩ := law_steps n (lo + 1) ok1
    exact ⟨E2, S2, forL_nx gN_eq q q2, ok2⟩
end Sm.K15
end

section
set_option linter.all false
set_option autoImplicit false
set_option maxRecDepth 100000
set_option maxHeartbeats 4000000
namespace Sm.K15
open Sm
theorem sl_eq {a : ME} {lo hi : Option ME} {e : Env} {S S1 S2 S3 : Store} {x z : D} {l h : Option Int} (h1 : a e S = .ok x S1) (h2 : pO lo e S1 = .ok l S2) (h3 : pO hi e S2 = .ok h S3) (h4 : slD S3 x l h = some z) : eSl a lo hi e S = .ok z S3 := by
  unfold eSl; simp only [h1, h2, h3, h4, bind_ok, ofO_some]
theorem pO_n {e : Env} {S : Store} : pO none e S = .ok none S := rfl
theorem pO_s {m : ME} {e : Env} {S S1 : Store} {i : Int} (h : m e S = .ok (.int i) S1) : pO (some m) e S = .ok (some i) S1 := by
  unfold pO; simp only [h, bind_ok]
/-! ### plaits -/
def plaitR (t : Int) (x y z : D) : D × D × D := if t.fmod 2 = 0 then (y, x, z) else (x, z, y)
theorem law_plait {S : Store} {x0 x1 x2 x3 x4 x7 x8 x9 x10 x11 x12 x13 x14 x15 x16 : Option D} {x y z : D} {rest : List D} {t : Int} (hr : rest.length ≤ 1) :
    ∃ k, b_law_l4 [x0, x1, x2, x3, x4, some (.lst (x :: y :: z :: rest)), some (.int t), x7, x8, x9, x10, x11, x12, x13, x14, x15, x16] S =
      .ok (.nx [x0, x1, x2, x3, x4, some (.lst ((plaitR t x y z).1 :: (plaitR t x y z).2.1 :: (plaitR t x y z).2.2 :: rest)), some (.int t), x7, x8, x9, x10, k, x12, x13, x14, x15, x16]) S := by
  have hm : 0 ≤ t.fmod 2 ∧ t.fmod 2 < 2 := fmod_nn t 2 (by decide)
  have key : ∀ k : Int, k = t.fmod 2 → b_law_l4 [x0, x1, x2, x3, x4, some (.lst (x :: y :: z :: rest)), some (.int t), x7, x8, x9, x10, x11, x12, x13, x14, x15, x16] S =
      .ok (.nx [x0, x1, x2, x3, x4, some (.lst ((plaitR t x y z).1 :: (plaitR t x y z).2.1 :: (plaitR t x y z).2.2 :: rest)), some (.int t), x7, x8, x9, x10, some (.int k), x12, x13, x14, x15, x16]) S := by
    intro k hk
    have first : sSet 11 (eOp oMod (eV 6) (eC (.int 2))) [x0, x1, x2, x3, x4, some (.lst (x :: y :: z :: rest)), some (.int t), x7, x8, x9, x10, x11, x12, x13, x14, x15, x16] S = .ok (.nx [x0, x1, x2, x3, x4, some (.lst (x :: y :: z :: rest)), some (.int t), x7, x8, x9, x10, some (.int k), x12, x13, x14, x15, x16]) S := by
      rw [hk]
      exact set_eq (eOp_eq (eV_at rfl) eC_eq (ii_mod (by decide)))
    refine seq_nx first ?_
    have hk2 : k = 0 ∨ k = 1 := by omega
    have hrest : rest = [] ∨ ∃ w, rest = [w] := by
      cases rest with
      | nil => exact .inl rfl
      | cons w q =>
        cases q with
        | nil => exact .inr ⟨w, rfl⟩
        | cons v q => simp at hr
    rcases hk2 with rfl | rfl
    · have ep : plaitR t x y z = (y, x, z) := by unfold plaitR; rw [if_pos hk.symm]
      rw [ep]
      rcases hrest with rfl | ⟨w, rfl⟩
      · exact set_eq (eOp_eq (eOp_eq (sl_eq (z := .lst []) (eV_at rfl) pO_n (pO_s (eV_at rfl)) rfl) (eLst_eq (aCons_eq (eOp_eq (eV_at rfl) (eOp_eq (eV_at rfl) eC_eq ii_add) rfl) (aCons_eq (eOp_eq (eV_at rfl) (eV_at rfl) rfl) aNil_eq)) (by simp)) rfl) (sl_eq (z := .lst [z]) (eV_at rfl) (pO_s (eOp_eq (eV_at rfl) eC_eq ii_add)) pO_n rfl) rfl)
      · exact set_eq (eOp_eq (eOp_eq (sl_eq (z := .lst []) (eV_at rfl) pO_n (pO_s (eV_at rfl)) rfl) (eLst_eq (aCons_eq (eOp_eq (eV_at rfl) (eOp_eq (eV_at rfl) eC_eq ii_add) rfl) (aCons_eq (eOp_eq (eV_at rfl) (eV_at rfl) rfl) aNil_eq)) (by simp)) rfl) (sl_eq (z := .lst [z, w]) (eV_at rfl) (pO_s (eOp_eq (eV_at rfl) eC_eq ii_add)) pO_n rfl) rfl)
    · have ep : plaitR t x y z = (x, z, y) := by unfold plaitR; rw [if_neg (by omega)]
      rw [ep]
      rcases hrest with rfl | ⟨w, rfl⟩
      · exact set_eq (eOp_eq (eOp_eq (sl_eq (z := .lst [x]) (eV_at rfl) pO_n (pO_s (eV_at rfl)) rfl) (eLst_eq (aCons_eq (eOp_eq (eV_at rfl) (eOp_eq (eV_at rfl) eC_eq ii_add) rfl) (aCons_eq (eOp_eq (eV_at rfl) (eV_at rfl) rfl) aNil_eq)) (by simp)) rfl) (sl_eq (z := .lst []) (eV_at rfl) (pO_s (eOp_eq (eV_at rfl) eC_eq ii_add)) pO_n rfl) rfl)
      · exact set_eq (eOp_eq (eOp_eq (sl_eq (z := .lst [x]) (eV_at rfl) pO_n (pO_s (eV_at rfl)) rfl) (eLst_eq (aCons_eq (eOp_eq (eV_at rfl) (eOp_eq (eV_at rfl) eC_eq ii_add) rfl) (aCons_eq (eOp_eq (eV_at rfl) (eV_at rfl) rfl) aNil_eq)) (by simp)) rfl) (sl_eq (z := .lst [w]) (eV_at rfl) (pO_s (eOp_eq (eV_at rfl) eC_eq ii_add)) pO_n rfl) rfl)
  exact ⟨_, key _ rfl⟩
/-- so many rounds from turn lo -/
def plaitN : Nat → Int → D → D → D → D × D × D
  | 0, _, x, y, z => (x, y, z)
  | n + 1, lo, x, y, z => plaitN n (lo + 1) (plaitR lo x y z).1 (plaitR lo x y z).2.1 (plaitR lo x y z).2.2
theorem law_plaits {S : Store} {x0 x1 x2 x3 x4 x7 x8 x9 x10 x12 x13 x14 x15 x16 : Option D} {rest : List D} (hr : rest.length ≤ 1) : ∀ (n : Nat) (lo : Int) {x y z : D} {x6 x11 : Option D},
    ∃ k6 k11, forL none (gN 6) b_law_l4 (rangeL lo n) [x0, x1, x2, x3, x4, some (.lst (x :: y :: z :: rest)), x6, x7, x8, x9, x10, x11, x12, x13, x14, x15, x16] S =
      .ok (.nx [x0, x1, x2, x3, x4, some (.lst ((plaitN n lo x y z).1 :: (plaitN n lo x y z).2.1 :: (plaitN n lo x y z).2.2 :: rest)), k6, x7, x8, x9, x10, k11, x12, x13, x14, x15, x16]) S
  | 0, lo, x, y, z, x6, x11 => ⟨x6, x11, rfl⟩
  | n + 1, lo, x, y, z, x6, x11 => by
    obtain ⟨k, q⟩ := law_plait (S := S) (x0 := x0) (x1 := x1) (x2 := x2) (x3 := x3) (x4 := x4) (x7 := x7) (x8 := x8) (x9 := x9) (x10 := x10) (x11 := x11) (x12 := x12) (x13 := x13) (x14 := x14) (x15 := x15) (x16 := x16) (x := x) (y := y) (z := z) (t := lo) hr
    obtain ⟨k6, k11, q2⟩ := law_plaits (S := S) (x0 := x0) (x1 := x1) (x2 := x2) (x3 := x3) (x4 := x4) (x7 := x7) (x8 := x8) (x9 := x9) (x10 := x10) (x12 := x12) (x13 := x13) (x14 := x14) (x15 := x15) (x16 := x16) hr n (lo + 1) (x := (plaitR lo x y z).1) (y := (plaitR lo x y z).2.1) (z := (plaitR lo x y z).2.2) (x6 := some (.int lo)) (x11 := k)
    exact ⟨k6, k11, forL_nx gN_eq q q2⟩
/-- the program's own round -/
theorem prog_plaits {S : Store} {x0 x1 : Option D} : ∀ (n : Nat) (lo : Int) {x y z : D} {x3 : Option D},
    ∃ k3, forL none (gN 3) b_plaited_l1 (rangeL lo n) [x0, x1, some (.lst [x, y, z]), x3] S = .ok (.nx [x0, x1, some (.lst [(plaitN n lo x y z).1, (plaitN n lo x y z).2.1, (plaitN n lo x y z).2.2]), k3]) S
  | 0, lo, x, y, z, x3 => ⟨x3, rfl⟩
  | n + 1, lo, x, y, z, x3 => by
    have step : b_plaited_l1 [x0, x1, some (.lst [x, y, z]), some (.int lo)] S = .ok (.nx [x0, x1, some (.lst [(plaitR lo x y z).1, (plaitR lo x y z).2.1, (plaitR lo x y z).2.2]), some (.int lo)]) S := by
      by_cases h : lo.fmod 2 = 0
      · have ep : plaitR lo x y z = (y, x, z) := by unfold plaitR; rw [if_pos h]
        rw [ep]
        refine if_t (S1 := S) (tB_eq (b := true) ?_) (set_eq (eLst_eq (aCons_eq (eOp_eq (eV_at rfl) eC_eq rfl) (aCons_eq (eOp_eq (eV_at rfl) eC_eq rfl) (aCons_eq (eOp_eq (eV_at rfl) eC_eq rfl) aNil_eq))) (by simp)))
        exact eOp_eq (eOp_eq (eV_at rfl) eC_eq (ii_mod (by decide))) eC_eq (by rw [eqV_ii, h]; rfl)
      · have ep : plaitR lo x y z = (x, z, y) := by unfold plaitR; rw [if_neg h]
        rw [ep]
        refine if_f (S1 := S) (tB_eq (b := false) ?_) (set_eq (eLst_eq (aCons_eq (eOp_eq (eV_at rfl) eC_eq rfl) (aCons_eq (eOp_eq (eV_at rfl) eC_eq rfl) (aCons_eq (eOp_eq (eV_at rfl) eC_eq rfl) aNil_eq))) (by simp)))
        exact eOp_eq (eOp_eq (eV_at rfl) eC_eq (ii_mod (by decide))) eC_eq (by rw [eqV_ii]; simp [h])
    obtain ⟨k3, q⟩ := prog_plaits (S := S) (x0 := x0) (x1 := x1) n (lo + 1) (x := (plaitR lo x y z).1) (y := (plaitR lo x y z).2.1) (z := (plaitR lo x y z).2.2) (x3 := some (.int lo))
    exact ⟨k3, forL_nx gN_eq step q⟩
theorem plaited_ok {S : Store} {x y z : D} {n : Int} (h1 : 0 ≤ n) (h2 : n ≤ 1000) : m_plaited [.lst [x, y, z], .int n] S = .ok (.tup [(plaitN n.toNat 0 x y z).1, (plaitN n.toNat 0 x y z).2.1, (plaitN n.toNat 0 x y z).2.2]) S := by
  obtain ⟨k3, q⟩ := prog_plaits (S := S) (x0 := some (.lst [x, y, z])) (x1 := some (.int n)) n.toNat 0 (x := x) (y := y) (z := z) (x3 := none)
  refine fn_rt rfl ?_
  refine seq_nx (if_f (S1 := S) (tB_eq (b := false) (eOp_eq (eCB_eq (z := .int 3) (aCons_eq (eV_at rfl) aNil_eq) rfl) eC_eq (by rw [neV_ii]; rfl))) nil_eq) ?_
  refine seq_nx (if_f (S1 := S) (tB_eq (b := false) ?_) nil_eq) ?_
  · rw [show false = decide (n < 0) by simp; omega]; repeat (first | exact eC_eq | exact aNil_eq | exact nil_eq | exact gN_eq | exact brk_eq | exact raise_eq | exact eV_at rfl | apply eOp_eq | apply tB_eq | apply aCons_eq | apply eCB_eq | apply set_eq | apply ret_eq | exact ii_lt | exact ii_le | exact ii_gt | exact ii_ge | exact ii_sub | exact ii_add | exact eqV_ii | exact neV_ii)
  refine seq_nx (set_eq (d := .lst [x, y, z]) (eCB_eq (aCons_eq (eV_at rfl) aNil_eq) rfl)) ?_
  refine seq_nx (for_eq (range1_eq (aCons_eq (eV_at rfl) aNil_eq) ⟨by omega, by omega⟩) q) ?_
  exact ret_eq (eCB_eq (aCons_eq (eV_at rfl) aNil_eq) rfl)
theorem plaited_four {S : Store} {x y z w : D} {n : Int} : m_plaited [.lst [x, y, z, w], .int n] S = .exc 1 S := by
  refine fn_exc rfl ?_
  exact seq_exc (if_t (S1 := S) (tB_eq (b := true) (eOp_eq (eCB_eq (z := .int 4) (aCons_eq (eV_at rfl) aNil_eq) rfl) eC_eq (by rw [neV_ii]; rfl))) raise_eq)
end Sm.K15
end

section
set_option linter.all false
set_option autoImplicit false
set_option maxRecDepth 100000
set_option maxHeartbeats 4000000
namespace Sm.K15
open Sm
theorem lc_eq {vs : List Nat} {it : MI} {g : MG} {t : MB} {m : ME} {e : Env} {S S1 S2 : Store} {xs ys : List D} (h1 : it e S = .ok (xs, none) S1) (h2 : xs.length ≤ 100000) (h3 : lcL g t m (wipe e vs) xs S1 [] = .ok ys S2) : eLC vs it g t m e S = .ok (.lst ys) S2 := by
  unfold eLC; simp only [h1, bind_ok]; rw [if_neg (by omega)]; simp only [h3, bind_ok]; rfl
theorem seq_it {a : ME} {e : Env} {S S1 : Store} {xs : List D} (h : a e S = .ok (.lst xs) S1) : iSeq a e S = .ok (xs, none) S1 := by unfold iSeq; simp only [h, bind_ok]
theorem lcL_yes {g : MG} {m : ME} {e e1 : Env} {x y : D} {xs acc : List D} {S S0 S2 : Store} (h1 : g x e S = .ok e1 S0) (h2 : m e1 S0 = .ok y S2) : lcL g tYes m e (x :: xs) S acc = lcL g tYes m e xs S2 (acc ++ [y]) := by
  show (match g x e S with | .ok e1 S0 => _ | _ => _) = _
  simp only [h1, tYes, h2]
theorem rangeL_len : ∀ (n : Nat) (lo : Int), (rangeL lo n).length = n
  | 0, _ => rfl
  | n + 1, lo => by show (rangeL (lo + 1) n).length + 1 = n + 1; rw [rangeL_len n]
/-- a list of rolls -/
theorem lc_dice {sc : Ob} {R : Store} {me : ME} {P : Int → Prop} {slot : Nat} {e : Env} (hme : ∀ a b c (x : D), ∃ v a' b' c', me (e.set slot (some x)) (sc :: tri a b c :: R) = .ok (.int v) (sc :: tri a' b' c' :: R) ∧ P v) : ∀ (n : Nat) (lo a b c : Int) (acc : List D),
    ∃ (vs : List Int) (a' b' c' : Int), lcL (gN slot) tYes me e (rangeL lo n) (sc :: tri a b c :: R) acc = .ok (acc ++ vs.map .int) (sc :: tri a' b' c' :: R) ∧ vs.length = n ∧ ∀ v ∈ vs, P v
  | 0, lo, a, b, c, acc => ⟨[], a, b, c, by simp [rangeL, lcL], rfl, fun v h => by cases h⟩
  | n + 1, lo, a, b, c, acc => by
    obtain ⟨v, a1, b1, c1, h1, h2⟩ := hme a b c (.int lo)
    obtain ⟨vs, a2, b2, c2, h3, h4, h5⟩ := lc_dice hme n (lo + 1) a1 b1 c1 (acc ++ [.int v])
    refine ⟨v :: vs, a2, b2, c2, ?_, by simp [h4], fun w hw => ?_⟩
    · show lcL (gN slot) tYes me e (.int lo :: rangeL (lo + 1) n) _ acc = _
      rw [lcL_yes gN_eq h1, h3]
      simp
    · rcases List.mem_cons.mp hw with z | z
      · rw [z]; exact h2
      · exact h5 w z
/-! ### cords -/
theorem intsD_map : ∀ ns : List Int, intsD (ns.map .int) = some ns
  | [] => rfl
  | n :: ns => by show (intsD (ns.map .int)).map (n :: ·) = _; rw [intsD_map ns]; rfl
theorem sum_eq {S : Store} {ns : List Int} : bSum S [.lst (ns.map .int)] = some (.int (sumI ns)) := by
  unfold bSum; simp only [view, intsD_map]; rfl
theorem genL_map {f : D → Option (Option D)} {h : Int → D} {ns : List Int} (hf : ∀ n ∈ ns, f (.int n) = some (some (h n))) : genL f (ns.map .int) = some (ns.map h) := by
  induction ns with
  | nil => rfl
  | cons n ns ih =>
    show (match f (.int n) with | some (some y) => _ | some none => _ | none => _) = _
    rw [hf n List.mem_cons_self]
    show (genL f (ns.map .int)).map (h n :: ·) = _
    rw [ih fun m hm => hf m (List.mem_cons_of_mem _ hm)]
    rfl
theorem boolsD_map (h : Int → Bool) : ∀ ns : List Int, boolsD (ns.map fun n => .bl (h n)) = some (ns.map h)
  | [] => rfl
  | n :: ns => by show (boolsD (ns.map fun n => .bl (h n))).map (h n :: ·) = _; rw [boolsD_map h ns]; rfl
/-- any over a list of numbers, by a test of each -/
theorem any_ints {a : ME} {j : Nat} {me : ME} {e : Env} {S : Store} {ns : List Int} {h : Int → Bool} (ha : a e S = .ok (.lst (ns.map .int)) S) (hm : ∀ n ∈ ns, me (e.set j (some (.int n))) S = .ok (.bl (h n)) S) : eAny (mGen (gSeq a) (gN j) tYes me) e S = .ok (.bl (ns.any h)) S := by
  have h1 : gSeq a e S = .ok (ns.map .int) S := by unfold gSeq; simp only [ha, bind_ok, view]
  have h2 : genL (turnG (gN j) tYes me e S) (ns.map .int) = some (ns.map fun n => .bl (h n)) := genL_map fun n hn => by
    unfold turnG gN tYes; simp only [hm n hn]
  have h3 : mGen (gSeq a) (gN j) tYes me e S = .ok (ns.map fun n => .bl (h n)) S := by unfold mGen; simp only [h1, bind_ok, h2]
  unfold eAny
  simp only [h3, bind_ok, boolsD_map]
  show ofO (some (D.bl ((ns.map h).any id))) S = _
  rw [ofO_some]
  congr 2
  rw [List.any_map]
  rfl
theorem any_false {ns : List Int} {h : Int → Bool} (hn : ∀ n ∈ ns, h n = false) : ns.any h = false := by
  rw [List.any_eq_false]
  intro x hx
  simp [hn x hx]
theorem mul_a {S : Store} {a b : Int} (h : -big < a ∧ a < big) : oMul S (.int a) (.int b) = some (.int (a * b)) := by
  show (if (-big < a ∧ a < big) ∨ (-big < b ∧ b < big) then some (D.int (a * b)) else none) = _
  rw [if_pos (.inl h)]
theorem mul_b {S : Store} {a b : Int} (h : -big < b ∧ b < big) : oMul S (.int a) (.int b) = some (.int (a * b)) := by
  show (if (-big < a ∧ a < big) ∨ (-big < b ∧ b < big) then some (D.int (a * b)) else none) = _
  rw [if_pos (.inr h)]
theorem cord_ok {S : Store} {ns : List Int} {over loss : Int} (h1 : ∀ n ∈ ns, 1 ≤ n) (h2 : 0 ≤ over) (h3 : over < 1000) (h4 : 0 ≤ loss) (h5 : loss < 100) :
    m_cord_for [.lst (ns.map .int), .int over, .int loss] S = .ok (.int (0 - (0 - (sumI ns + over * ns.length) * 100).fdiv (100 - loss))) S := by
  refine fn_rt rfl ?_
  refine seq_nx (if_f (S1 := S) (tOr_f (S1 := S) (tB_eq (b := false) ?_) (tOr_f (S1 := S) ?_ (tB_eq (b := false) ?_))) nil_eq) ?_
  · rw [show false = decide (over < 0) by simp; omega]; repeat (first | exact eC_eq | exact aNil_eq | exact nil_eq | exact gN_eq | exact brk_eq | exact raise_eq | exact eV_at rfl | apply eOp_eq | apply tB_eq | apply aCons_eq | apply eCB_eq | apply set_eq | apply ret_eq | exact ii_lt | exact ii_le | exact ii_gt | exact ii_ge | exact ii_sub | exact ii_add | exact eqV_ii | exact neV_ii)
  · rw [show false = !true from rfl]
    refine tNot_eq (tB_eq ?_)
    show eChain oLe oLt (eC (.int 0)) (eV 2) (eC (.int 100)) _ S = _
    unfold eChain
    simp only [eC_eq, bind_ok]
    rw [eV_at (d := .int loss) rfl]
    simp only [bind_ok, ii_le, ii_lt]
    rw [show decide ((0 : Int) ≤ loss) = true by simp [h4], show decide (loss < 100) = true by simp [h5]]
    rfl
  · have := any_ints (a := eV 0) (j := 3) (me := eOp oLt (eV 3) (eC (.int 1))) (e := [some (.lst (ns.map .int)), some (.int over), some (.int loss), none, none]) (S := S) (ns := ns) (h := fun n => decide (n < 1)) (eV_at rfl) fun n hn => eOp_eq (eV_at rfl) eC_eq ii_lt
    rw [any_false (fun n hn => by simp; have := h1 n hn; omega)] at this
    exact this
  have len : bLen S [.lst (ns.map .int)] = some (.int ns.length) := by unfold bLen; simp [view]
  refine seq_nx (set_eq (d := .int (sumI ns + over * ns.length)) (eOp_eq (eCB_eq (aCons_eq (eV_at rfl) aNil_eq) sum_eq) (eOp_eq (eV_at rfl) (eCB_eq (aCons_eq (eV_at rfl) aNil_eq) len) (mul_a ⟨by unfold big; omega, by unfold big; omega⟩)) ii_add)) ?_
  exact ret_eq (eOp_eq eC_eq (eOp_eq (eOp_eq eC_eq (eOp_eq (eV_at rfl) eC_eq (mul_b ⟨by decide, by decide⟩)) ii_sub) (eOp_eq eC_eq (eV_at rfl) ii_sub) (ii_div ⟨by omega, by omega⟩)) ii_sub)
theorem cases_ok {S : Store} : ∃ S', m_law_cases1 [] S = .ok (.bl true) S' := ⟨_, rfl⟩
end Sm.K15
end

section
set_option linter.all false
set_option autoImplicit false
set_option maxRecDepth 100000
set_option maxHeartbeats 4000000
namespace Sm.K15
open Sm
/-! ### cuts -/
def cutF : List Int → Int → List Int → List Int × Int
  | [], c, acc => (acc, c)
  | l :: ls, c, acc => if l ≤ c then cutF ls (c - l) (acc ++ [l]) else cutF ls c acc
theorem set_last {S0 : Store} {o o' : Ob} : (S0 ++ [o]).set S0.length o' = S0 ++ [o'] := by
  rw [List.set_append_right _ _ (Nat.le_refl _), Nat.sub_self]; rfl
theorem at_last {S0 : Store} {o : Ob} : (S0 ++ [o])[S0.length]? = some o := by simp
theorem append_eq {o v : ME} {e : Env} {S S1 S2 : Store} {x y : D} {r : Nat} {xs : List D} {p : Nat × List D} (h1 : o e S = .ok x S1) (h2 : lstAt S1 x = some p) (h3 : v e S1 = .ok y S2) (h4 : lstAt S2 x = some (r, xs)) (h5 : xs.length < 100000) : eAppend o v e S = .ok .non (S2.set r (.lst (xs ++ [y]))) := by
  unfold eAppend; simp only [h1, h2, h3, h4, bind_ok]; rw [if_pos h5]
theorem expr_eq {m : ME} {e : Env} {S S1 : Store} {d : D} (h : m e S = .ok d S1) : sExpr m e S = .ok (.nx e) S1 := by unfold sExpr; simp only [h, bind_ok]
theorem cut_loop {S0 : Store} {x1 : Option D} : ∀ (ls : List Int) {c : Int} {acc : List Int} {x2 : Option D}, acc.length + ls.length ≤ 1000 →
    ∃ t2, forL none (gN 2) b_cut_in_order_l1 (ls.map .int) [some (.int c), x1, x2, some (.obj S0.length)] (S0 ++ [.lst (acc.map .int)]) = .ok (.nx [some (.int (cutF ls c acc).2), x1, t2, some (.obj S0.length)]) (S0 ++ [.lst ((cutF ls c acc).1.map .int)])
  | [], c, acc, x2, h => ⟨x2, rfl⟩
  | l :: ls, c, acc, x2, h => by
    simp only [List.length_cons] at h
    by_cases hl : l ≤ c
    · have e : cutF (l :: ls) c acc = cutF ls (c - l) (acc ++ [l]) := by show (if l ≤ c then _ else _) = _; rw [if_pos hl]
      rw [e]
      obtain ⟨t2, q⟩ := cut_loop (S0 := S0) (x1 := x1) ls (c := c - l) (acc := acc ++ [l]) (x2 := some (.int l)) (by simp; omega)
      refine ⟨t2, forL_nx gN_eq (if_t (S1 := S0 ++ [.lst (acc.map .int)]) (tB_eq (b := true) ?_) (seq_nx (expr_eq (append_eq (eV_at rfl) (lstAt_obj at_last) (eV_at rfl) (lstAt_obj at_last) (by simp; omega))) (aug_eq rfl (eV_at rfl) isub_ii))) ?_⟩
      · rw [show true = decide (l ≤ c) by simp [hl]]
        exact eOp_eq (eV_at rfl) (eV_at rfl) ii_le
      · rw [set_last]
        have e2 : (acc.map D.int ++ [D.int l]) = (acc ++ [l]).map .int := by simp
        rw [e2]
        exact q
    · have e : cutF (l :: ls) c acc = cutF ls c acc := by show (if l ≤ c then _ else _) = _; rw [if_neg hl]
      rw [e]
      obtain ⟨t2, q⟩ := cut_loop (S0 := S0) (x1 := x1) ls (c := c) (acc := acc) (x2 := some (.int l)) (by omega)
      refine ⟨t2, forL_nx (e2 := [some (.int c), x1, some (.int l), some (.obj S0.length)]) (S2 := S0 ++ [.lst (acc.map .int)]) gN_eq (if_f (S1 := S0 ++ [.lst (acc.map .int)]) (tB_eq (b := false) ?_) nil_eq) q⟩
      rw [show false = decide (l ≤ c) by simp; omega]
      exact eOp_eq (eV_at rfl) (eV_at rfl) ii_le
theorem new_eq {r : MA} {e : Env} {S S1 : Store} {xs : List D} (h : r e S = .ok xs S1) (h2 : xs.length ≤ 1000) : eNew (oLst r) e S = .ok (.obj S1.length) (S1 ++ [.lst xs]) := by
  unfold eNew oLst; simp only [h, bind_ok]; rw [if_pos h2]; rfl
theorem cut_ok {S : Store} {c : Int} {ls : List Int} (h1 : 0 ≤ c) (h2 : ∀ l ∈ ls, 1 ≤ l) (h3 : ls.length ≤ 1000) : ∃ S', m_cut_in_order [.int c, .lst (ls.map .int)] S = .ok (.tup [.tup ((cutF ls c []).1.map .int), .int (cutF ls c []).2]) (S ++ [S']) := by
  obtain ⟨t2, q⟩ := cut_loop (S0 := S) (x1 := some (.lst (ls.map .int))) ls (c := c) (acc := []) (x2 := none) (by simpa using h3)
  refine ⟨.lst ((cutF ls c []).1.map .int), fn_rt rfl ?_⟩
  refine seq_nx (if_f (S1 := S) (tOr_f (S1 := S) (tB_eq (b := false) ?_) (tB_eq (b := false) ?_)) nil_eq) ?_
  · rw [show false = decide (c < 0) by simp; omega]; repeat (first | exact eC_eq | exact aNil_eq | exact nil_eq | exact gN_eq | exact brk_eq | exact raise_eq | exact eV_at rfl | apply eOp_eq | apply tB_eq | apply aCons_eq | apply eCB_eq | apply set_eq | apply ret_eq | exact ii_lt | exact ii_le | exact ii_gt | exact ii_ge | exact ii_sub | exact ii_add | exact eqV_ii | exact neV_ii)
  · have := any_ints (a := eV 1) (j := 2) (me := eOp oLt (eV 2) (eC (.int 1))) (e := [some (.int c), some (.lst (ls.map .int)), none, none]) (S := S) (ns := ls) (h := fun n => decide (n < 1)) (eV_at rfl) fun n hn => eOp_eq (eV_at rfl) eC_eq ii_lt
    rw [any_false (fun n hn => by simp; have := h2 n hn; omega)] at this
    exact this
  refine seq_nx (set_eq (new_eq aNil_eq (by simp))) ?_
  refine seq_nx (for_eq (seq_it (eV_at rfl)) q) ?_
  have tp : bTuple (S ++ [.lst ((cutF ls c []).1.map .int)]) [.obj S.length] = some (.tup ((cutF ls c []).1.map .int)) := by
    unfold bTuple seqD view
    simp [Ob.val]
  exact ret_eq (eTup_eq (aCons_eq (eCB_eq (aCons_eq (eV_at rfl) aNil_eq) tp) (aCons_eq (eV_at rfl) aNil_eq)) (by simp))
theorem cutF_sum : ∀ (ls : List Int) (c : Int) (acc : List Int), sumI (cutF ls c acc).1 + (cutF ls c acc).2 = sumI acc + c
  | [], c, acc => rfl
  | l :: ls, c, acc => by
    have app : ∀ (a : List Int), sumI (a ++ [l]) = sumI a + l := fun a => by
      induction a with
      | nil => show l + 0 = 0 + l; omega
      | cons x a ih => show x + sumI (a ++ [l]) = x + sumI a + l; rw [ih]; omega
    unfold cutF
    split
    · rw [cutF_sum ls (c - l) (acc ++ [l]), app]; omega
    · exact cutF_sum ls c acc
end Sm.K15
end

section
set_option linter.all false
set_option autoImplicit false
set_option maxRecDepth 100000
set_option maxHeartbeats 4000000
namespace Sm.K15
open Sm
/-! ### equal lengths -/
theorem fits_small : ∀ (ns : List Int) (a : Int), (∀ n ∈ ns, 0 ≤ n ∧ n ≤ 1000) → 0 ≤ a → a + 1000 * ns.length ≤ 1000000 → fitsL a ns = true
  | [], _, _, _, _ => rfl
  | n :: r, a, h, h1, h2 => by
    obtain ⟨p, q⟩ := h n List.mem_cons_self
    simp only [List.length_cons] at h2
    unfold fitsL
    simp only [Bool.and_eq_true, decide_eq_true_eq]
    refine ⟨⟨by omega, by omega, by omega, by omega⟩, fits_small r (a + n) (fun m hm => h m (List.mem_cons_of_mem _ hm)) (by omega) (by push_cast at h2; omega)⟩
theorem sum_ints {a : ME} {j : Nat} {me : ME} {e : Env} {S : Store} {ns : List Int} {h : Int → Int} (ha : a e S = .ok (.lst (ns.map .int)) S) (hm : ∀ n ∈ ns, me (e.set j (some (.int n))) S = .ok (.int (h n)) S) (hf : fitsL 0 (ns.map h) = true) : eSum (mGen (gSeq a) (gN j) tYes me) e S = .ok (.int (sumI (ns.map h))) S := by
  have h1 : gSeq a e S = .ok (ns.map .int) S := by unfold gSeq; simp only [ha, bind_ok, view]
  have h2 : genL (turnG (gN j) tYes me e S) (ns.map .int) = some (ns.map fun n => .int (h n)) := genL_map fun n hn => by
    unfold turnG gN tYes; simp only [hm n hn]
  have h3 : mGen (gSeq a) (gN j) tYes me e S = .ok (ns.map fun n => .int (h n)) S := by unfold mGen; simp only [h1, bind_ok, h2]
  have h4 : (ns.map fun n => D.int (h n)) = (ns.map h).map .int := by rw [List.map_map]; rfl
  unfold eSum
  simp only [h3, bind_ok, h4, intsD_map]
  show ofO (if fitsL 0 (ns.map h) = true then some (D.int (sumI (ns.map h))) else none) S = _
  rw [if_pos hf, ofO_some]
/-- how many of length m -/
def cnt (ns : List Int) (m : Int) : Int := sumI (ns.map fun n => n.fdiv m)
theorem cnt_anti {ns : List Int} {m m' : Int} (h : ∀ n ∈ ns, 0 ≤ n) (h1 : 1 ≤ m) (h2 : m ≤ m') : cnt ns m' ≤ cnt ns m := by
  unfold cnt
  induction ns with
  | nil => exact Int.le_refl _
  | cons n r ih =>
    have := ih fun k hk => h k (List.mem_cons_of_mem _ hk)
    have hn := h n List.mem_cons_self
    show n.fdiv m' + sumI (r.map fun n => n.fdiv m') ≤ n.fdiv m + sumI (r.map fun n => n.fdiv m)
    have e : n.fdiv m' ≤ n.fdiv m := by
      rw [Int.fdiv_eq_ediv_of_nonneg n (by omega), Int.fdiv_eq_ediv_of_nonneg n (by omega)]
      have p0 : 0 ≤ n / m' := Int.ediv_nonneg hn (by omega)
      have p1 : n / m' * m' ≤ n := Int.ediv_mul_le n (by omega)
      have p2 : n / m' * m ≤ n / m' * m' := Int.mul_le_mul_of_nonneg_left h2 p0
      exact Int.le_ediv_of_mul_le (by omega) (Int.le_trans p2 p1)
    omega
theorem while_t {t : MB} {b : MS} {n : Nat} {e e2 : Env} {S S1 S2 : Store} (h1 : t e S = .ok true S1) (h2 : b e S1 = .ok (.nx e2) S2) : sWhile t b (n + 1) e S = sWhile t b n e2 S2 := by
  show (t e S).bind _ = _
  simp only [h1, bind_ok, if_true, h2]
theorem while_f {t : MB} {b : MS} {n : Nat} {e : Env} {S S1 : Store} (h1 : t e S = .ok false S1) : sWhile t b (n + 1) e S = .ok (.nx e) S1 := by
  show (t e S).bind _ = _
  simp only [h1, bind_ok]
  rw [if_neg (by decide)]
theorem fdiv_small {n m : Int} (h : 0 ≤ n ∧ n ≤ 1000) (hm : 1 ≤ m) : 0 ≤ n.fdiv m ∧ n.fdiv m ≤ 1000 := by
  rw [Int.fdiv_eq_ediv_of_nonneg n (by omega)]
  exact ⟨Int.ediv_nonneg h.1 (by omega), Int.le_trans (Int.ediv_le_self m h.1) h.2⟩
theorem equal_loop {S : Store} {ns : List Int} {want : Int} (hn : ∀ n ∈ ns, 0 ≤ n ∧ n ≤ 1000) (hl : ns.length ≤ 100) : ∀ (k : Nat) {lo hi : Int} {fuel : Nat} {x2 x5 : Option D}, (hi - lo).toNat ≤ k → k < fuel → 0 ≤ lo → lo ≤ hi → hi ≤ 1000 → (lo = 0 ∨ want ≤ cnt ns lo) → (∀ m, hi < m → cnt ns m < want) →
    ∃ r y5, sWhile (tB (eOp oLt (eV 3) (eV 4))) b_longest_equal_l1 fuel [some (.lst (ns.map .int)), some (.int want), x2, some (.int lo), some (.int hi), x5] S = .ok (.nx [some (.lst (ns.map .int)), some (.int want), x2, some (.int r), some (.int r), y5]) S ∧ 0 ≤ r ∧ r ≤ hi ∧ (r = 0 ∨ want ≤ cnt ns r) ∧ ∀ m, r < m → cnt ns m < want := by
  intro k
  induction k with
  | zero =>
    intro lo hi fuel x2 x5 hk hf h0 h1 h2 h3 h4
    obtain ⟨f, rfl⟩ : ∃ f, fuel = f + 1 := ⟨fuel - 1, by omega⟩
    have e : lo = hi := by omega
    subst e
    refine ⟨lo, x5, while_f (tB_eq (b := false) ?_), h0, Int.le_refl _, h3, h4⟩
    rw [show false = decide (lo < lo) by simp]
    exact eOp_eq (eV_at rfl) (eV_at rfl) ii_lt
  | succ k ih =>
    intro lo hi fuel x2 x5 hk hf h0 h1 h2 h3 h4
    obtain ⟨f, rfl⟩ : ∃ f, fuel = f + 1 := ⟨fuel - 1, by omega⟩
    by_cases e : lo = hi
    · subst e
      refine ⟨lo, x5, while_f (tB_eq (b := false) ?_), h0, Int.le_refl _, h3, h4⟩
      rw [show false = decide (lo < lo) by simp]
      exact eOp_eq (eV_at rfl) (eV_at rfl) ii_lt
    · have hm : ∃ mid, (lo + hi + 1).fdiv 2 = mid ∧ lo < mid ∧ mid ≤ hi := ⟨_, rfl, by rw [Int.fdiv_eq_ediv_of_nonneg _ (by decide)]; omega, by rw [Int.fdiv_eq_ediv_of_nonneg _ (by decide)]; omega⟩
      obtain ⟨mid, e1, m1, m2⟩ := hm
      have tt : tB (eOp oLt (eV 3) (eV 4)) [some (.lst (ns.map .int)), some (.int want), x2, some (.int lo), some (.int hi), x5] S = .ok true S := tB_eq (by
        rw [show true = decide (lo < hi) by simp; omega]
        exact eOp_eq (eV_at rfl) (eV_at rfl) ii_lt)
      have setm : sSet 5 (eOp oDiv (eOp oAdd (eOp oAdd (eV 3) (eV 4)) (eC (.int 1))) (eC (.int 2))) [some (.lst (ns.map .int)), some (.int want), x2, some (.int lo), some (.int hi), x5] S = .ok (.nx [some (.lst (ns.map .int)), some (.int want), x2, some (.int lo), some (.int hi), some (.int mid)]) S := by
        rw [← e1]
        exact set_eq (eOp_eq (eOp_eq (eOp_eq (eV_at rfl) (eV_at rfl) ii_add) eC_eq ii_add) eC_eq (ii_div ⟨by decide, by decide⟩))
      have sm : eSum (mGen (gSeq (eV 0)) (gN 2) tYes (eOp oDiv (eV 2) (eV 5))) [some (.lst (ns.map .int)), some (.int want), x2, some (.int lo), some (.int hi), some (.int mid)] S = .ok (.int (cnt ns mid)) S := sum_ints (eV_at rfl) (fun n hn' => eOp_eq (eV_at rfl) (eV_at rfl) (ii_div ⟨by omega, by omega⟩)) (fits_small _ _ (fun v hv => by
        obtain ⟨n, hn', rfl⟩ := List.mem_map.mp hv
        exact fdiv_small (hn n hn') (by omega)) (Int.le_refl _) (by rw [List.length_map]; omega))
      by_cases hw : want ≤ cnt ns mid
      · obtain ⟨r, y5, q, q1, q2, q3, q4⟩ := ih (lo := mid) (hi := hi) (fuel := f) (x2 := x2) (x5 := some (.int mid)) (by omega) (by omega) (by omega) m2 h2 (.inr hw) h4
        refine ⟨r, y5, ?_, q1, q2, q3, q4⟩
        have hb : b_longest_equal_l1 [some (.lst (ns.map .int)), some (.int want), x2, some (.int lo), some (.int hi), x5] S = .ok (.nx [some (.lst (ns.map .int)), some (.int want), x2, some (.int mid), some (.int hi), some (.int mid)]) S :=
          seq_nx setm (if_t (S1 := S) (tB_eq (b := true) (by rw [show true = decide (want ≤ cnt ns mid) by simp [hw]]; exact eOp_eq sm (eV_at rfl) ii_ge)) (set_eq (eV_at rfl)))
        rw [while_t tt hb]
        exact q
      · obtain ⟨r, y5, q, q1, q2, q3, q4⟩ := ih (lo := lo) (hi := mid - 1) (fuel := f) (x2 := x2) (x5 := some (.int mid)) (by omega) (by omega) h0 (by omega) (by omega) h3 (fun m hmm => by
          have := cnt_anti (ns := ns) (m := mid) (m' := m) (fun n hn' => (hn n hn').1) (by omega) (by omega)
          omega)
        refine ⟨r, y5, ?_, q1, by omega, q3, q4⟩
        have hb : b_longest_equal_l1 [some (.lst (ns.map .int)), some (.int want), x2, some (.int lo), some (.int hi), x5] S = .ok (.nx [some (.lst (ns.map .int)), some (.int want), x2, some (.int lo), some (.int (mid - 1)), some (.int mid)]) S :=
          seq_nx setm (if_f (S1 := S) (tB_eq (b := false) (by rw [show false = decide (want ≤ cnt ns mid) by simp; omega]; exact eOp_eq sm (eV_at rfl) ii_ge)) (set_eq (eOp_eq (eV_at rfl) eC_eq ii_sub)))
        rw [while_t tt hb]
        exact q
theorem maxI_ge : ∀ (l : List Int) (m : Int), m ≤ maxI l m ∧ (∀ x ∈ l, x ≤ maxI l m) ∧ (maxI l m = m ∨ maxI l m ∈ l)
  | [], m => ⟨Int.le_refl _, fun x h => by simp at h, .inl rfl⟩
  | x :: r, m => by
    have e : maxI (x :: r) m = maxI r (if x > m then x else m) := rfl
    have hq : ∃ q, (if x > m then x else m) = q ∧ x ≤ q ∧ m ≤ q ∧ (q = x ∨ q = m) := by
      by_cases hx : x > m
      · exact ⟨x, if_pos hx, Int.le_refl _, by omega, .inl rfl⟩
      · exact ⟨m, if_neg hx, by omega, Int.le_refl _, .inr rfl⟩
    obtain ⟨q, e1, q1, q2, q3⟩ := hq
    rw [e, e1]
    obtain ⟨h1, h2, h3⟩ := maxI_ge r q
    refine ⟨by omega, fun y hy => ?_, ?_⟩
    · rcases List.mem_cons.mp hy with z | z
      · subst z; omega
      · exact h2 y z
    · rcases h3 with z | z
      · rw [z]
        rcases q3 with w | w
        · exact .inr (by rw [w]; exact List.mem_cons_self)
        · exact .inl w
      · exact .inr (List.mem_cons_of_mem _ z)
theorem cnt_zero {ns : List Int} {m : Int} (h : ∀ n ∈ ns, 0 ≤ n ∧ n < m) : cnt ns m = 0 := by
  unfold cnt
  induction ns with
  | nil => rfl
  | cons n r ih =>
    obtain ⟨p, q⟩ := h n List.mem_cons_self
    show n.fdiv m + sumI (r.map fun n => n.fdiv m) = 0
    rw [ih fun k hk => h k (List.mem_cons_of_mem _ hk), Int.fdiv_eq_ediv_of_nonneg n (by omega), Int.ediv_eq_zero_of_lt p q]
    rfl
theorem longest_ok {S : Store} {ns : List Int} {want : Int} (hn : ∀ n ∈ ns, 0 ≤ n ∧ n ≤ 24) (hl : ns.length ≤ 100) (hw : 1 ≤ want) :
    (∃ r, m_longest_equal [.lst (ns.map .int), .int want] S = .ok (.int r) S ∧ 1 ≤ r ∧ r ≤ 24 ∧ want ≤ cnt ns r ∧ ∀ m, r < m → cnt ns m < want) ∨ (m_longest_equal [.lst (ns.map .int), .int want] S = .exc 6 S ∧ ∀ m, 1 ≤ m → cnt ns m < want) := by
  have mx : ∃ M, bMax S [.lst (ns.map .int ++ [.int 0])] = some (.int M) ∧ 0 ≤ M ∧ M ≤ 24 ∧ ∀ n ∈ ns, n ≤ M := by
    have e : (ns.map D.int ++ [D.int 0]) = (ns ++ [0]).map .int := by simp
    rw [e]
    unfold bMax
    simp only [view, intsD_map]
    cases ns with
    | nil => exact ⟨0, rfl, by decide, by decide, fun n h => by simp at h⟩
    | cons n r =>
      obtain ⟨h1, h2, h3⟩ := maxI_ge (r ++ [0]) n
      refine ⟨maxI (r ++ [0]) n, rfl, h2 0 (by simp), ?_, fun m hm => ?_⟩
      · rcases h3 with z | z
        · rw [z]; exact (hn n List.mem_cons_self).2
        · rcases List.mem_append.mp z with y | y
          · exact (hn _ (List.mem_cons_of_mem _ y)).2
          · simp at y; rw [y]; decide
      · rcases List.mem_cons.mp hm with z | z
        · subst z; exact h1
        · exact h2 m (by simp [z])
  obtain ⟨M, hM, M0, M24, Mall⟩ := mx
  obtain ⟨r, y5, q, q1, q2, q3, q4⟩ := equal_loop (S := S) (ns := ns) (want := want) (fun n h => ⟨(hn n h).1, by have := (hn n h).2; omega⟩) hl 1000 (lo := 0) (hi := M) (fuel := 100000) (x2 := none) (x5 := none) (by omega) (by decide) (Int.le_refl _) M0 (by omega) (.inl rfl) (fun m hm => by
    rw [cnt_zero fun n h => ⟨(hn n h).1, by have := Mall n h; omega⟩]; omega)
  have start : ∀ {o : Out Fl}, sSeq (sIf (tB (eOp oEq (eV 3) (eC (.int 0)))) (sRaise 6) (sNil)) (sRet (eV 3)) [some (.lst (ns.map .int)), some (.int want), none, some (.int r), some (.int r), y5] S = o → b_longest_equal [some (.lst (ns.map .int)), some (.int want), none, none, none, none] S = o := fun {o} h => by
    refine seq_nx (if_f (S1 := S) (tOr_f (S1 := S) (tB_eq (b := false) ?_) (tB_eq (b := false) ?_)) nil_eq) ?_
    · rw [show false = decide (want < 1) by simp; omega]; repeat (first | exact eC_eq | exact aNil_eq | exact nil_eq | exact gN_eq | exact brk_eq | exact raise_eq | exact eV_at rfl | apply eOp_eq | apply tB_eq | apply aCons_eq | apply eCB_eq | apply set_eq | apply ret_eq | exact ii_lt | exact ii_le | exact ii_gt | exact ii_ge | exact ii_sub | exact ii_add | exact eqV_ii | exact neV_ii)
    · have := any_ints (a := eV 0) (j := 2) (me := eOp oLt (eV 2) (eC (.int 0))) (e := [some (.lst (ns.map .int)), some (.int want), none, none, none, none]) (S := S) (ns := ns) (h := fun n => decide (n < 0)) (eV_at rfl) fun n hn => eOp_eq (eV_at rfl) eC_eq ii_lt
      rw [any_false (fun n h => by simp; exact (hn n h).1)] at this
      exact this
    have add : oAdd S (.lst (ns.map .int)) (.lst [.int 0]) = some (.lst (ns.map .int ++ [.int 0])) := by
      show (if (ns.map D.int).length + [D.int 0].length ≤ 100000 then _ else none) = _
      rw [if_pos (by simp; omega)]
    refine seq_nx (par_eq (v := .int 0) (w := .int M) (aCons_eq eC_eq (aCons_eq (eCB_eq (aCons_eq (eOp_eq (eCB_eq (z := .lst (ns.map .int)) (aCons_eq (eV_at rfl) aNil_eq) rfl) (eLst_eq (aCons_eq eC_eq aNil_eq) (by simp)) add) aNil_eq) hM) aNil_eq))) ?_
    exact seq_nx q h
  by_cases r0 : r = 0
  · subst r0
    refine .inr ⟨fn_exc rfl (start (seq_exc (if_t (S1 := S) (tB_eq (b := true) (eOp_eq (eV_at rfl) eC_eq (by rw [eqV_ii]; rfl))) raise_eq))), fun m hm => q4 m (by omega)⟩
  · refine .inl ⟨r, fn_rt rfl (start (seq_nx (if_f (S1 := S) (tB_eq (b := false) (eOp_eq (eV_at rfl) eC_eq (by rw [eqV_ii]; simp [r0]))) nil_eq) (ret_eq (eV_at rfl)))), by omega, by omega, ?_, q4⟩
    rcases q3 with z | z
    · exact absurd z r0
    · exact z
end Sm.K15
end

section
set_option linter.all false
set_option autoImplicit false
set_option maxRecDepth 100000
set_option maxHeartbeats 4000000
namespace Sm.K15
open Sm
/-! ### knots: the plain law -/
def gaps : Int → List Int → List Int
  | _, [] => []
  | p, x :: xs => (x - p) :: gaps x xs
/-- p, then the list: never falling -/
def Up : Int → List Int → Prop
  | _, [] => True
  | p, x :: xs => p ≤ x ∧ Up x xs
theorem up_le : ∀ {L : List Int} {p : Int}, Up p L → ∀ x ∈ L, p ≤ x
  | [], _, _, x, h => by simp at h
  | y :: L, p, h, x, hx => by
    rcases List.mem_cons.mp hx with z | z
    · rw [z]; exact h.1
    · exact Int.le_trans h.1 (up_le h.2 x z)
theorem gaps_up : ∀ {L : List Int} {p : Int}, Up p L → ∀ a b, a ∈ p :: L → b ∈ L → a < b → (∀ s ∈ L, ¬ (a < s ∧ s < b)) → ∃ d ∈ gaps p L, b - a ≤ d
  | [], _, _, a, b, _, hb, _, _ => by simp at hb
  | x :: xs, p, h, a, b, ha, hb, hab, hs => by
    by_cases hx : a < x
    · have ea : a = p := by
        rcases List.mem_cons.mp ha with z | z
        · exact z
        · rcases List.mem_cons.mp z with w | w
          · omega
          · have := up_le h.2 a w; omega
      have hb2 : b ≤ x := by
        have := hs x List.mem_cons_self
        omega
      exact ⟨x - p, List.mem_cons_self, by omega⟩
    · have ha2 : a ∈ x :: xs := by
        rcases List.mem_cons.mp ha with z | z
        · have := h.1
          have e : a = x := by omega
          rw [e]; exact List.mem_cons_self
        · exact z
      have hb2 : b ∈ xs := by
        rcases List.mem_cons.mp hb with z | z
        · omega
        · exact z
      obtain ⟨d, h1, h2⟩ := gaps_up h.2 a b ha2 hb2 hab fun s hs1 => hs s (List.mem_cons_of_mem _ hs1)
      exact ⟨d, List.mem_cons_of_mem _ h1, h2⟩
theorem gaps_in : ∀ {L : List Int} {p : Int}, Up p L → ∀ d ∈ gaps p L, ∃ a ∈ p :: L, ∃ b ∈ L, d = b - a ∧ a ≤ b ∧ ∀ s ∈ L, ¬ (a < s ∧ s < b)
  | [], _, _, d, h => by simp [gaps] at h
  | x :: xs, p, h, d, hd => by
    rcases List.mem_cons.mp hd with z | z
    · refine ⟨p, List.mem_cons_self, x, List.mem_cons_self, z, h.1, fun s hs => ?_⟩
      rcases List.mem_cons.mp hs with w | w
      · omega
      · have := up_le h.2 s w; omega
    · obtain ⟨a, h1, b, h2, h3, h4, h5⟩ := gaps_in h.2 d z
      refine ⟨a, List.mem_cons_of_mem _ h1, b, List.mem_cons_of_mem _ h2, h3, h4, fun s hs => ?_⟩
      rcases List.mem_cons.mp hs with w | w
      · rcases List.mem_cons.mp h1 with y | y
        · omega
        · have := up_le h.2 a y; omega
      · exact h5 s w
theorem mem_insI {x y : Int} : ∀ {l : List Int}, y ∈ insI x l ↔ y = x ∨ y ∈ l
  | [] => by simp [insI]
  | z :: l => by
    unfold insI
    split
    · simp
    · simp only [List.mem_cons, mem_insI (l := l)]
      constructor
      · rintro (h | h | h)
        · exact .inr (.inl h)
        · exact .inl h
        · exact .inr (.inr h)
      · rintro (h | h | h)
        · exact .inr (.inl h)
        · exact .inl h
        · exact .inr (.inr h)
theorem mem_sortI {y : Int} : ∀ {l : List Int}, y ∈ sortI l ↔ y ∈ l
  | [] => Iff.rfl
  | x :: l => by
    show y ∈ insI x (sortI l) ↔ _
    rw [mem_insI, mem_sortI (l := l), List.mem_cons]
theorem len_insI {x : Int} : ∀ {l : List Int}, (insI x l).length = l.length + 1
  | [] => rfl
  | z :: l => by
    unfold insI
    split
    · rfl
    · show (insI x l).length + 1 = _; rw [len_insI]; rfl
theorem len_sortI : ∀ {l : List Int}, (sortI l).length = l.length
  | [] => rfl
  | x :: l => by show (insI x (sortI l)).length = _; rw [len_insI, len_sortI]; rfl
theorem up_ins {x p : Int} : ∀ {l : List Int}, Up p l → p ≤ x → Up p (insI x l)
  | [], _, h => ⟨h, trivial⟩
  | z :: l, h, hp => by
    unfold insI
    split
    · exact ⟨hp, by assumption, h.2⟩
    · exact ⟨h.1, up_ins h.2 (by omega)⟩
theorem up_sort {p : Int} : ∀ {l : List Int}, (∀ x ∈ l, p ≤ x) → Up p (sortI l)
  | [], _ => trivial
  | x :: l, h => up_ins (up_sort fun y hy => h y (List.mem_cons_of_mem _ hy)) (h x List.mem_cons_self)
theorem up_app {q : Int} : ∀ {l : List Int} {p : Int}, Up p l → (∀ x ∈ p :: l, x ≤ q) → Up p (l ++ [q])
  | [], p, _, h => ⟨h p List.mem_cons_self, trivial⟩
  | x :: l, p, h, hq => ⟨h.1, up_app h.2 fun y hy => hq y (List.mem_cons_of_mem _ hy)⟩
/-- the law's own differences -/
def difs (tied : List Int) (long : Int) : List Int := ((0 :: tied).map fun a => ((tied ++ [long]).filter fun b => decide (a ≤ b) && (tied.filter fun s => decide (a < s) && decide (s < b)).isEmpty).map fun b => b - a).flatten
theorem mem_difs {tied : List Int} {long d : Int} : d ∈ difs tied long ↔ ∃ a ∈ 0 :: tied, ∃ b ∈ tied ++ [long], d = b - a ∧ a ≤ b ∧ ∀ s ∈ tied, ¬ (a < s ∧ s < b) := by
  unfold difs
  rw [List.mem_flatten]
  constructor
  · rintro ⟨l, hl, hd⟩
    obtain ⟨a, ha, rfl⟩ := List.mem_map.mp hl
    obtain ⟨b, hb, rfl⟩ := List.mem_map.mp hd
    obtain ⟨hb1, hb2⟩ := List.mem_filter.mp hb
    simp only [Bool.and_eq_true, decide_eq_true_eq, List.isEmpty_iff, List.filter_eq_nil_iff, Bool.and_eq_true] at hb2
    exact ⟨a, ha, b, hb1, rfl, hb2.1, fun s hs h => hb2.2 s hs ⟨h.1, h.2⟩⟩
  · rintro ⟨a, ha, b, hb, rfl, h1, h2⟩
    refine ⟨_, List.mem_map.mpr ⟨a, ha, rfl⟩, List.mem_map.mpr ⟨b, List.mem_filter.mpr ⟨hb, ?_⟩, rfl⟩⟩
    simp only [Bool.and_eq_true, decide_eq_true_eq, List.isEmpty_iff, List.filter_eq_nil_iff]
    exact ⟨h1, fun s hs h => h2 s hs ⟨h.1, h.2⟩⟩
/-- the largest of a list with something in it -/
def IsMax (m : Int) (l : List Int) : Prop := m ∈ l ∧ ∀ x ∈ l, x ≤ m
theorem isMax_of {x : Int} {l : List Int} : IsMax (maxI l x) (x :: l) := by
  obtain ⟨h1, h2, h3⟩ := maxI_ge l x
  refine ⟨?_, fun y hy => ?_⟩
  · rcases h3 with z | z
    · rw [z]; exact List.mem_cons_self
    · exact List.mem_cons_of_mem _ z
  · rcases List.mem_cons.mp hy with z | z
    · rw [z]; exact h1
    · exact h2 y z
theorem knots_law {tied : List Int} {long m m' : Int} (h0 : 0 ≤ long) (ht : ∀ x ∈ tied, 0 ≤ x ∧ x ≤ long) (h1 : IsMax m (difs tied long)) (h2 : IsMax m' (gaps 0 (sortI tied ++ [long]))) : m = m' := by
  have up : Up 0 (sortI tied ++ [long]) := up_app (up_sort fun x hx => (ht x hx).1) fun x hx => by
    rcases List.mem_cons.mp hx with z | z
    · rw [z]; exact h0
    · exact (ht x (mem_sortI.mp z)).2
  have memL : ∀ {x : Int}, x ∈ sortI tied ++ [long] ↔ x ∈ tied ++ [long] := fun {x} => by rw [List.mem_append, List.mem_append, mem_sortI]
  apply Int.le_antisymm
  · obtain ⟨a, ha, b, hb, e, hab, hs⟩ := mem_difs.mp h1.1
    have ha2 : a ∈ 0 :: (sortI tied ++ [long]) := by
      rcases List.mem_cons.mp ha with z | z
      · rw [z]; exact List.mem_cons_self
      · exact List.mem_cons_of_mem _ (memL.mpr (List.mem_append_left _ z))
    have bl : b ≤ long := by
      rcases List.mem_append.mp hb with z | z
      · exact (ht b z).2
      · simp at z; omega
    by_cases hlt : a < b
    · obtain ⟨d, h3, h4⟩ := gaps_up up a b ha2 (memL.mpr hb) hlt fun s hs1 h => by
        rcases List.mem_append.mp (memL.mp hs1) with z | z
        · exact hs s z h
        · simp at z; omega
      have := h2.2 d h3
      omega
    · obtain ⟨a', _, b', _, e', hab', _⟩ := gaps_in up m' h2.1
      omega
  · obtain ⟨a, ha, b, hb, e, hab, hs⟩ := gaps_in up m' h2.1
    by_cases hz : a ∈ 0 :: tied
    · exact h1.2 m' (mem_difs.mpr ⟨a, hz, b, memL.mp hb, e, hab, fun s hs1 => hs s (memL.mpr (List.mem_append_left _ hs1))⟩)
    · -- a is the end itself
      have ea : a = long := by
        rcases List.mem_cons.mp ha with z | z
        · exact absurd (by rw [z]; exact List.mem_cons_self) hz
        · rcases List.mem_append.mp (memL.mp z) with w | w
          · exact absurd (List.mem_cons_of_mem _ w) hz
          · simpa using w
      have eb : b = long := by
        have : b ≤ long := by
          rcases List.mem_append.mp (memL.mp hb) with w | w
          · exact (ht b w).2
          · simp at w; omega
        omega
      obtain ⟨a', _, b', _, e', hab', _⟩ := mem_difs.mp h1.1
      omega
end Sm.K15
end

section
set_option linter.all false
set_option autoImplicit false
set_option maxRecDepth 100000
set_option maxHeartbeats 4000000
namespace Sm.K15
open Sm
theorem lc_ints {slot : Nat} {t : MB} {m : ME} {e : Env} {S : Store} {h : Int → Bool} {f : Int → D} : ∀ (ns : List Int) (acc : List D), (∀ n ∈ ns, t (e.set slot (some (.int n))) S = .ok (h n) S) → (∀ n ∈ ns, h n = true → m (e.set slot (some (.int n))) S = .ok (f n) S) →
    lcL (gN slot) t m e (ns.map .int) S acc = .ok (acc ++ (ns.filter h).map f) S
  | [], acc, _, _ => by simp [lcL]
  | n :: ns, acc, h1, h2 => by
    have t1 := h1 n List.mem_cons_self
    have ih := fun acc => lc_ints (slot := slot) (t := t) (m := m) (e := e) (S := S) (h := h) (f := f) ns acc (fun k hk => h1 k (List.mem_cons_of_mem _ hk)) (fun k hk => h2 k (List.mem_cons_of_mem _ hk))
    rw [List.map_cons]
    cases hn : h n with
    | false =>
      rw [hn] at t1
      have e1 : lcL (gN slot) t m e (.int n :: ns.map .int) S acc = lcL (gN slot) t m e (ns.map .int) S acc := by
        rw [lcL]
        simp only [gN_eq, t1]
      rw [e1, ih acc, List.filter_cons_of_neg (by simp [hn])]
    | true =>
      rw [hn] at t1
      have e1 : lcL (gN slot) t m e (.int n :: ns.map .int) S acc = lcL (gN slot) t m e (ns.map .int) S (acc ++ [f n]) := by
        rw [lcL]
        simp only [gN_eq, t1, h2 n List.mem_cons_self hn]
      rw [e1, ih, List.filter_cons_of_pos hn]
      simp
theorem cut1 {α : Type} {x : α} {L : List α} : cutL (x :: L) (some 1) none = L := by
  unfold cutL cutA cutN
  simp
theorem zip_len : ∀ (xs ys : List D), (zipD xs ys).length ≤ ys.length
  | [], _ => by simp [zipD]
  | _ :: _, [] => by simp [zipD]
  | x :: xs, y :: ys => by
    show (zipD xs ys).length + 1 ≤ ys.length + 1
    have := zip_len xs ys
    omega
theorem filter_all {ns : List Int} : ns.filter (fun _ => true) = ns := by simp
theorem max_cons {S : Store} {x : Int} {r : List Int} : bMax S [.lst ((x :: r).map .int)] = some (.int (maxI r x)) := by
  unfold bMax; simp only [view, intsD_map]
theorem max_list {S : Store} {l : List Int} (h : l ≠ []) : ∃ m, bMax S [.lst (l.map .int)] = some (.int m) ∧ IsMax m l := by
  cases l with
  | nil => exact absurd rfl h
  | cons x r => exact ⟨_, max_cons, isMax_of⟩
theorem add_lst {S : Store} {xs ys : List D} (h : xs.length + ys.length ≤ 100000) : oAdd S (.lst xs) (.lst ys) = some (.lst (xs ++ ys)) := by
  show (if xs.length + ys.length ≤ 100000 then _ else none) = _
  rw [if_pos h]
theorem lc_gaps {e : Env} {S : Store} (h4 : 4 < e.length) (h5 : 5 < e.length) : ∀ (L : List Int) (p : Int) (acc : List D), lcL (gT [gN 4, gN 5]) tYes (eOp oSub (eV 5) (eV 4)) e (zipD ((p :: L).map .int) (L.map .int)) S acc = .ok (acc ++ (gaps p L).map .int) S
  | [], p, acc => by simp [zipD, lcL, gaps]
  | x :: L, p, acc => by
    show lcL _ _ _ e (.tup [.int p, .int x] :: zipD ((x :: L).map .int) (L.map .int)) S acc = _
    rw [lcL_yes (e1 := (e.set 4 (some (.int p))).set 5 (some (.int x))) (S0 := S) (y := .int (x - p)) rfl (eOp_eq (eV_at (List.getElem?_set_self (by rw [List.length_set]; exact h5))) (eV_at (by rw [List.getElem?_set_ne (by decide), List.getElem?_set_self h4])) ii_sub), lc_gaps h4 h5 L x]
    simp [gaps]
theorem sorted_eq {S : Store} {ns : List Int} : bSorted S [.lst (ns.map .int)] = some (.lst ((sortI ns).map .int)) := by
  unfold bSorted; simp only [view, intsD_map]; rfl
theorem in_range {cord n : Int} {e : Env} {S : Store} (h0 : e[0]? = some (some (.int cord))) (h2 : e[2]? = some (some (.int n))) : eUn uNot (eChain oLe oLe (eC (.int 0)) (eV 2) (eV 0)) e S = .ok (.bl (!(decide (0 ≤ n) && decide (n ≤ cord)))) S := by
  have c : eChain oLe oLe (eC (.int 0)) (eV 2) (eV 0) e S = .ok (.bl (decide (0 ≤ n) && decide (n ≤ cord))) S := by
    unfold eChain
    simp only [eC_eq, bind_ok, eV_at h2, eV_at h0, ii_le]
    by_cases hn : 0 ≤ n
    · rw [show decide (0 ≤ n) = true by simp [hn]]; rfl
    · rw [show decide (0 ≤ n) = false by simp; omega]; rfl
  exact eUn_eq c rfl
theorem zip_it {r : MA} {e : Env} {S S1 : Store} {xs ys : List D} (h : r e S = .ok [.lst xs, .lst ys] S1) : iZip r e S = .ok (zipD xs ys, none) S1 := by unfold iZip; simp only [h, bind_ok, treeL]
theorem knots_ok {S : Store} {tied : List Int} {cord : Int} (h0 : 0 ≤ cord) (ht : ∀ x ∈ tied, 0 ≤ x ∧ x ≤ cord) (hl : tied.length ≤ 100) : ∃ m, m_knots [.int cord, .lst (tied.map .int)] S = .ok (.int m) S ∧ IsMax m (gaps 0 (sortI tied ++ [cord])) := by
  have hne : gaps 0 (sortI tied ++ [cord]) ≠ [] := by
    cases sortI tied with
    | nil => simp [gaps]
    | cons x l => simp [gaps]
  obtain ⟨m, hm, hM⟩ := max_list (S := S) hne
  refine ⟨m, fn_rt rfl ?_, hM⟩
  refine seq_nx (if_f (S1 := S) (tB_eq (b := false) ?_) nil_eq) ?_
  · rw [show false = decide (cord < 0) by simp; omega]; repeat (first | exact eC_eq | exact aNil_eq | exact nil_eq | exact gN_eq | exact brk_eq | exact raise_eq | exact eV_at rfl | apply eOp_eq | apply tB_eq | apply aCons_eq | apply eCB_eq | apply set_eq | apply ret_eq | exact ii_lt | exact ii_le | exact ii_gt | exact ii_ge | exact ii_sub | exact ii_add | exact eqV_ii | exact neV_ii)
  refine seq_nx (if_f (S1 := S) (tB_eq (b := false) ?_) nil_eq) ?_
  · have := any_ints (a := eV 1) (j := 2) (me := eUn uNot (eChain oLe oLe (eC (.int 0)) (eV 2) (eV 0))) (e := [some (.int cord), some (.lst (tied.map .int)), none, none, none, none]) (S := S) (ns := tied) (h := fun n => !(decide (0 ≤ n) && decide (n ≤ cord))) (eV_at rfl) fun n hn => in_range rfl rfl
    rw [any_false (fun n hn => by simp; have := ht n hn; omega)] at this
    exact this
  have e1 : [D.int 0] ++ (sortI tied).map D.int ++ [D.int cord] = (0 :: (sortI tied ++ [cord])).map .int := by simp
  have sp : sSet 3 (eOp oAdd (eOp oAdd (eLst (aCons (eC (.int 0)) (aNil))) (eCB bSorted (aCons (eV 1) (aNil)))) (eLst (aCons (eV 0) (aNil)))) [some (.int cord), some (.lst (tied.map .int)), none, none, none, none] S = .ok (.nx [some (.int cord), some (.lst (tied.map .int)), none, some (.lst ((0 :: (sortI tied ++ [cord])).map .int)), none, none]) S := by
    rw [← e1]
    exact set_eq (eOp_eq (eOp_eq (eLst_eq (aCons_eq eC_eq aNil_eq) (by simp)) (eCB_eq (aCons_eq (eV_at rfl) aNil_eq) sorted_eq) (add_lst (by simp [len_sortI]; omega))) (eLst_eq (aCons_eq (eV_at rfl) aNil_eq) (by simp)) (add_lst (by simp [len_sortI]; omega)))
  refine seq_nx sp ?_
  have sl : slD S (.lst ((0 :: (sortI tied ++ [cord])).map .int)) (some 1) none = some (.lst ((sortI tied ++ [cord]).map .int)) := by
    show some (D.lst (cutL ((0 :: (sortI tied ++ [cord])).map D.int) (some 1) none)) = _
    rw [List.map_cons, cut1]
  exact ret_eq (eCB_eq (aCons_eq (lc_eq (zip_it (aCons_eq (eV_at rfl) (aCons_eq (sl_eq (eV_at rfl) (pO_s eC_eq) pO_n sl) aNil_eq))) (Nat.le_trans (zip_len _ _) (by simp [len_sortI]; omega)) (lc_gaps (by simp [wipe]) (by simp [wipe]) _ _ _)) aNil_eq) hm)
theorem knots_bad {S : Store} {tied : List Int} {cord : Int} (h0 : 0 ≤ cord) (ht : ∃ x ∈ tied, cord < x) : m_knots [.int cord, .lst (tied.map .int)] S = .exc 4 S := by
  refine fn_exc rfl ?_
  refine seq_nx (if_f (S1 := S) (tB_eq (b := false) ?_) nil_eq) ?_
  · rw [show false = decide (cord < 0) by simp; omega]; repeat (first | exact eC_eq | exact aNil_eq | exact nil_eq | exact gN_eq | exact brk_eq | exact raise_eq | exact eV_at rfl | apply eOp_eq | apply tB_eq | apply aCons_eq | apply eCB_eq | apply set_eq | apply ret_eq | exact ii_lt | exact ii_le | exact ii_gt | exact ii_ge | exact ii_sub | exact ii_add | exact eqV_ii | exact neV_ii)
  refine seq_exc (if_t (S1 := S) (tB_eq (b := true) ?_) raise_eq)
  have := any_ints (a := eV 1) (j := 2) (me := eUn uNot (eChain oLe oLe (eC (.int 0)) (eV 2) (eV 0))) (e := [some (.int cord), some (.lst (tied.map .int)), none, none, none, none]) (S := S) (ns := tied) (h := fun n => !(decide (0 ≤ n) && decide (n ≤ cord))) (eV_at rfl) fun n hn => in_range rfl rfl
  rw [show (tied.any fun n => !(decide (0 ≤ n) && decide (n ≤ cord))) = true by
    obtain ⟨x, hx, hc⟩ := ht
    rw [List.any_eq_true]
    exact ⟨x, hx, by simp; omega⟩] at this
  exact this
end Sm.K15
end

section
set_option linter.all false
set_option autoImplicit false
set_option maxRecDepth 100000
set_option maxHeartbeats 4000000
namespace Sm.K15
open Sm
theorem flat_loop {S : Store} {x0 : Option D} : ∀ (ls : List (List Int)) {acc : List Int} {x2 : Option D}, acc.length + ls.flatten.length ≤ 1000 →
    ∃ t2, forL none (gN 2) b_law_flat_l1 (ls.map fun l => .lst (l.map .int)) [x0, some (.lst (acc.map .int)), x2] S = .ok (.nx [x0, some (.lst ((acc ++ ls.flatten).map .int)), t2]) S
  | [], acc, x2, h => ⟨x2, by simp [forL, unlockAt]⟩
  | l :: ls, acc, x2, h => by
    rw [List.flatten_cons, List.length_append] at h
    obtain ⟨t2, q⟩ := flat_loop (S := S) (x0 := x0) ls (acc := acc ++ l) (x2 := some (.lst (l.map .int))) (by rw [List.length_append]; omega)
    refine ⟨t2, ?_⟩
    rw [List.flatten_cons, ← List.append_assoc]
    refine forL_nx (e2 := [x0, some (.lst ((acc ++ l).map .int)), some (.lst (l.map .int))]) (S2 := S) gN_eq ?_ q
    rw [List.map_append]
    exact set_eq (eOp_eq (eV_at rfl) (eV_at rfl) (add_lst (by simp; omega)))
theorem flat_ok {S : Store} {ls : List (List Int)} (h : ls.flatten.length ≤ 1000) : m_law_flat [.lst (ls.map fun l => .lst (l.map .int))] S = .ok (.lst (ls.flatten.map .int)) S := by
  obtain ⟨t2, q⟩ := flat_loop (S := S) (x0 := some (.lst (ls.map fun l => .lst (l.map .int)))) ls (acc := []) (x2 := none) (by simpa using h)
  exact fn_rt rfl (seq_nx (set_eq (eLst_eq aNil_eq (by simp))) (seq_nx (for_eq (seq_it (eV_at rfl)) q) (ret_eq (eV_at rfl))))
theorem chain_lt {a s b : Int} {i j k : Nat} {e : Env} {S : Store} (h1 : e[i]? = some (some (.int a))) (h2 : e[j]? = some (some (.int s))) (h3 : e[k]? = some (some (.int b))) : eChain oLt oLt (eV i) (eV j) (eV k) e S = .ok (.bl (decide (a < s) && decide (s < b))) S := by
  unfold eChain
  simp only [eV_at h1, eV_at h2, eV_at h3, bind_ok, ii_lt]
  by_cases hn : a < s
  · rw [show decide (a < s) = true by simp [hn]]; rfl
  · rw [show decide (a < s) = false by simp; omega]; rfl
theorem eq_nil {S : Store} {ns : List Int} : oEq S (.lst (ns.map .int)) (.lst []) = some (.bl ns.isEmpty) := by
  have h : ∀ l : List Int, (l.map D.int).all (dataN 5) = true := fun l => by
    induction l with
    | nil => rfl
    | cons x r ih => simp [List.map_cons, List.all_cons, dataN, ih]
  unfold oEq eqV
  have d1 : dataD (.lst (ns.map .int)) = true := h ns
  simp only [view, d1]
  cases ns <;> rfl
theorem difs_ne {tied : List Int} {long : Int} (h0 : 0 ≤ long) (ht : ∀ x ∈ tied, 0 ≤ x ∧ x ≤ long) : difs tied long ≠ [] := by
  obtain ⟨h1, h2⟩ := isMax_of (x := 0) (l := tied)
  have hm : long - maxI tied 0 ∈ difs tied long := mem_difs.mpr ⟨maxI tied 0, h1, long, by simp, rfl, by
    rcases List.mem_cons.mp h1 with z | z
    · rw [z]; exact h0
    · exact (ht _ z).2, fun s hs h => by have := h2 s (List.mem_cons_of_mem _ hs); omega⟩
  intro z
  rw [z] at hm
  simp at hm
theorem difs_len {tied : List Int} {long : Int} (hl : tied.length ≤ 10) : (difs tied long).length ≤ 200 := by
  unfold difs
  have gen : ∀ (as : List Int) (f : Int → List Int), (∀ a ∈ as, (f a).length ≤ 11) → ((as.map f).flatten).length ≤ 11 * as.length := fun as f h => by
    induction as with
    | nil => simp
    | cons a r ih =>
      rw [List.map_cons, List.flatten_cons, List.length_append, List.length_cons]
      have := h a List.mem_cons_self
      have := ih fun b hb => h b (List.mem_cons_of_mem _ hb)
      omega
  refine Nat.le_trans (gen _ _ fun a ha => ?_) (by simp; omega)
  rw [List.length_map]
  refine Nat.le_trans (List.length_filter_le _ _) (by simp; omega)
def dueE : ME := eCB bMax (aCons (eCall m_law_flat (aCons (eLC [22] (iSeq (eOp oAdd (eLst (aCons (eC (.int 0)) (aNil))) (eV 20))) (gN 22) (tYes) (eLC [23] (iSeq (eOp oAdd (eV 20) (eLst (aCons (eV 11) (aNil))))) (gN 23) (tAnd (tB (eOp oGe (eV 23) (eV 22))) (tB (eOp oEq (eLC [24] (iSeq (eV 20)) (gN 24) (tB (eChain oLt oLt (eV 22) (eV 24) (eV 23))) (eV 24)) (eLst (aNil))))) (eOp oSub (eV 23) (eV 22)))) (aNil))) (aNil))
theorem due_ok {S : Store} {tied : List Int} {long : Int} {x0 x1 x2 x3 x4 x5 x6 x7 x8 x9 x10 x12 x13 x14 x15 x16 x17 x18 x19 x21 x22 x23 x24 : Option D} (h0 : 0 ≤ long) (ht : ∀ x ∈ tied, 0 ≤ x ∧ x ≤ long) (hl : tied.length ≤ 10) :
    ∃ m, dueE [x0, x1, x2, x3, x4, x5, x6, x7, x8, x9, x10, some (.int long), x12, x13, x14, x15, x16, x17, x18, x19, some (.lst (tied.map .int)), x21, x22, x23, x24] S = .ok (.int m) S ∧ IsMax m (difs tied long) := by
  obtain ⟨m, hm, hM⟩ := max_list (S := S) (difs_ne h0 ht)
  refine ⟨m, ?_, hM⟩
  have len := difs_len (tied := tied) (long := long) hl
  unfold difs at hm len
  refine eCB_eq (aCons_eq (eCall_eq (aCons_eq (lc_eq (xs := (0 :: tied).map .int) (seq_it (eOp_eq (eLst_eq (aCons_eq eC_eq aNil_eq) (by simp)) (eV_at rfl) (by rw [add_lst (by simp; omega)]; rfl))) (by simp; omega) (lc_ints (h := fun _ => true) (f := fun a => .lst ((((tied ++ [long]).filter fun b => decide (a ≤ b) && (tied.filter fun s => decide (a < s) && decide (s < b)).isEmpty).map fun b => b - a).map .int)) (0 :: tied) [] (fun _ _ => rfl) fun a ha _ => ?_)) aNil_eq) (o := .ok (.lst (((0 :: tied).map fun a => ((tied ++ [long]).filter fun b => decide (a ≤ b) && (tied.filter fun s => decide (a < s) && decide (s < b)).isEmpty).map fun b => b - a).flatten.map .int)) S) ?_) aNil_eq) hm
  · rw [List.map_map]
    refine lc_eq (xs := (tied ++ [long]).map .int) (seq_it (eOp_eq (eV_at rfl) (eLst_eq (aCons_eq (eV_at rfl) aNil_eq) (by simp)) (by rw [add_lst (by simp; omega)]; simp))) (by simp; omega) ?_
    have := lc_ints (slot := 23) (S := S) (t := tAnd (tB (eOp oGe (eV 23) (eV 22))) (tB (eOp oEq (eLC [24] (iSeq (eV 20)) (gN 24) (tB (eChain oLt oLt (eV 22) (eV 24) (eV 23))) (eV 24)) (eLst (aNil))))) (m := eOp oSub (eV 23) (eV 22)) (e := wipe ((wipe [x0, x1, x2, x3, x4, x5, x6, x7, x8, x9, x10, some (.int long), x12, x13, x14, x15, x16, x17, x18, x19, some (.lst (tied.map .int)), x21, x22, x23, x24] [22]).set 22 (some (.int a))) [23])
      (h := fun b => decide (a ≤ b) && (tied.filter fun s => decide (a < s) && decide (s < b)).isEmpty) (f := fun b => .int (b - a)) (tied ++ [long]) [] (fun b hb => ?_) (fun b hb _ => eOp_eq (eV_at rfl) (eV_at rfl) ii_sub)
    · exact this
    · by_cases hab : a ≤ b
      · rw [show decide (a ≤ b) = true by simp [hab], Bool.true_and]
        refine tAnd_t (S1 := S) (tB_eq (b := true) (by rw [show true = decide (a ≤ b) by simp [hab]]; exact eOp_eq (eV_at rfl) (eV_at rfl) ii_ge)) (tB_eq (eOp_eq (lc_eq (seq_it (eV_at rfl)) (by simp; omega) (lc_ints (h := fun s => decide (a < s) && decide (s < b)) (f := .int) tied [] (fun s hs => tB_eq (chain_lt rfl rfl rfl)) (fun s hs _ => eV_at rfl))) (eLst_eq aNil_eq (by simp)) eq_nil))
      · rw [show decide (a ≤ b) = false by simp; omega, Bool.false_and]
        exact tAnd_f (tB_eq (b := false) (by rw [show false = decide (a ≤ b) by simp; omega]; exact eOp_eq (eV_at rfl) (eV_at rfl) ii_ge))
  · rw [filter_all]
    have := flat_ok (S := S) (ls := (0 :: tied).map fun a => ((tied ++ [long]).filter fun b => decide (a ≤ b) && (tied.filter fun s => decide (a < s) && decide (s < b)).isEmpty).map fun b => b - a) (by omega)
    rw [List.map_map] at this
    exact this
end Sm.K15
end

section
set_option linter.all false
set_option autoImplicit false
set_option maxRecDepth 100000
set_option maxHeartbeats 4000000
namespace Sm.K15
open Sm
theorem sum_shift (ov : Int) : ∀ cs : List Int, sumI (cs.map fun h => h + ov) = sumI cs + ov * cs.length
  | [] => by show (0 : Int) = 0 + ov * ((0 : Nat) : Int); simp
  | x :: r => by
    show x + ov + sumI (r.map fun h => h + ov) = x + sumI r + ov * ((r.length + 1 : Nat) : Int)
    rw [sum_shift ov r, Int.natCast_add, Int.mul_add]
    simp
    omega
theorem rest_A {sc : Ob} {R : Store} {a b c : Int} {rest : MS} : ∃ x1 x2 x3 x5 x7 a' b' c', sSeq b_law_rest1_s1 (sSeq b_law_rest1_s2 (sSeq b_law_rest1_s3 (sSeq b_law_rest1_s4 rest)))
    [some (.obj 1), none, none, none, none, none, none, none, none, none, none, none, none, none, none, none, none, none, none, none, none, none, none, none, none] (sc :: tri a b c :: R) =
    rest [some (.obj 1), x1, x2, x3, none, x5, none, x7, none, none, none, none, none, none, none, none, none, none, none, none, none, none, none, none, none] (sc :: tri a' b' c' :: R) := by
  obtain ⟨n, a1, b1, c1, r1, n0, n5⟩ := e_roll (sc := sc) (R := R) (a := a) (b := b) (c := c) (many := 5) (i := 0) (by decide) (by decide)
  obtain ⟨cs, a2, b2, c2, lc, lcl, lcP⟩ := lc_dice (sc := sc) (R := R) (me := eOp oAdd (eC (.int 1)) (eCall m_law_roll (aCons (eV 0) (aCons (eC (.int 20)) (aNil))))) (P := fun v => 1 ≤ v ∧ v ≤ 20) (slot := 4) (e := wipe [some (.obj 1), none, none, none, none, none, none, none, none, none, none, none, none, none, none, none, none, none, none, none, none, none, none, none, none] [4]) (fun a b c x => by
    obtain ⟨v, a', b', c', r, v0, v1⟩ := e_roll (sc := sc) (R := R) (a := a) (b := b) (c := c) (many := 20) (i := 0) (by decide) (by decide)
    exact ⟨1 + v, a', b', c', eOp_eq eC_eq (r _ rfl) ii_add, by omega, by omega⟩) n.toNat 0 a1 b1 c1 []
  obtain ⟨ov, a3, b3, c3, r3, o0, o5⟩ := e_roll (sc := sc) (R := R) (a := a2) (b := b2) (c := c2) (many := 5) (i := 0) (by decide) (by decide)
  obtain ⟨lo, a4, b4, c4, r4, l0, l1⟩ := e_roll (sc := sc) (R := R) (a := a3) (b := b3) (c := c3) (many := 100) (i := 0) (by decide) (by decide)
  have hcs : cs.length ≤ 5 := by omega
  obtain ⟨W, hW⟩ : ∃ W, W = sumI cs + ov * cs.length := ⟨_, rfl⟩
  obtain ⟨q, hq⟩ : ∃ q, q = 0 - (0 - W * 100).fdiv (100 - lo) := ⟨_, rfl⟩
  have s1 : b_law_rest1_s1 [some (.obj 1), none, none, none, none, none, none, none, none, none, none, none, none, none, none, none, none, none, none, none, none, none, none, none, none] (sc :: tri a b c :: R) = .ok (.nx [some (.obj 1), some (.lst (cs.map .int)), some (.int ov), some (.int lo), none, none, none, none, none, none, none, none, none, none, none, none, none, none, none, none, none, none, none, none, none]) (sc :: tri a4 b4 c4 :: R) :=
    asg_eq (d := .tup [.lst (cs.map .int), .int ov, .int lo]) (eTup_eq (aCons_eq (lc_eq (range1_eq (aCons_eq (r1 _ rfl) aNil_eq) ⟨by omega, by omega⟩) (by rw [rangeL_len]; omega) lc) (aCons_eq (r3 _ rfl) (aCons_eq (r4 _ rfl) aNil_eq))) (by simp)) rfl
  have s2 : b_law_rest1_s2 [some (.obj 1), some (.lst (cs.map .int)), some (.int ov), some (.int lo), none, none, none, none, none, none, none, none, none, none, none, none, none, none, none, none, none, none, none, none, none] (sc :: tri a4 b4 c4 :: R) = .ok (.nx [some (.obj 1), some (.lst (cs.map .int)), some (.int ov), some (.int lo), none, some (.int W), none, none, none, none, none, none, none, none, none, none, none, none, none, none, none, none, none, none, none]) (sc :: tri a4 b4 c4 :: R) := by
    refine set_eq (d := .int W) (eCB_eq (aCons_eq (lc_eq (seq_it (eV_at rfl)) (by simp; omega) (lc_ints (h := fun _ => true) (f := fun h => .int (h + ov)) cs [] (fun _ _ => rfl) fun h hh _ => eOp_eq (eV_at rfl) (eV_at rfl) ii_add)) aNil_eq) ?_)
    rw [filter_all, List.nil_append, show (cs.map fun h => D.int (h + ov)) = (cs.map fun h => h + ov).map .int by rw [List.map_map]; rfl, sum_eq, sum_shift, hW]
  have s3 : b_law_rest1_s3 [some (.obj 1), some (.lst (cs.map .int)), some (.int ov), some (.int lo), none, some (.int W), none, none, none, none, none, none, none, none, none, none, none, none, none, none, none, none, none, none, none] (sc :: tri a4 b4 c4 :: R) = .ok (.nx [some (.obj 1), some (.lst (cs.map .int)), some (.int ov), some (.int lo), none, some (.int W), none, some (.int q), none, none, none, none, none, none, none, none, none, none, none, none, none, none, none, none, none]) (sc :: tri a4 b4 c4 :: R) := by
    rw [hq, hW]
    exact set_eq (eCall_eq (aCons_eq (eV_at rfl) (aCons_eq (eV_at rfl) (aCons_eq (eV_at rfl) aNil_eq))) (cord_ok (fun n hn => (lcP n hn).1) o0 (by omega) l0 l1))
  have f1 : (0 - W * 100).fdiv (100 - lo) = (0 - W * 100) / (100 - lo) := Int.fdiv_eq_ediv_of_nonneg _ (by omega)
  have g1 : (0 - W * 100) / (100 - lo) * (100 - lo) ≤ 0 - W * 100 := Int.ediv_mul_le _ (by omega)
  have g2 : 0 - W * 100 < ((0 - W * 100) / (100 - lo) + 1) * (100 - lo) := Int.lt_ediv_add_one_mul_self _ (by omega)
  have hq2 : q = 0 - (0 - W * 100) / (100 - lo) := by rw [hq, f1]
  generalize hz : (0 - W * 100) / (100 - lo) = z at g1 g2 hq2
  have k1 : 100 * W ≤ q * (100 - lo) := by rw [hq2, Int.zero_sub, Int.neg_mul]; omega
  have k2 : (q - 1) * (100 - lo) < 100 * W := by
    have e : (q - 1) * (100 - lo) = - ((z + 1) * (100 - lo)) := by rw [hq2, ← Int.neg_mul]; congr 1; omega
    rw [e]; omega
  have s4 : b_law_rest1_s4 [some (.obj 1), some (.lst (cs.map .int)), some (.int ov), some (.int lo), none, some (.int W), none, some (.int q), none, none, none, none, none, none, none, none, none, none, none, none, none, none, none, none, none] (sc :: tri a4 b4 c4 :: R) = .ok (.nx [some (.obj 1), some (.lst (cs.map .int)), some (.int ov), some (.int lo), none, some (.int W), none, some (.int q), none, none, none, none, none, none, none, none, none, none, none, none, none, none, none, none, none]) (sc :: tri a4 b4 c4 :: R) := by
    have bl : -big < 100 - lo ∧ 100 - lo < big := ⟨by unfold big; omega, by unfold big; omega⟩
    refine if_f (S1 := sc :: tri a4 b4 c4 :: R) (tOr_f (S1 := sc :: tri a4 b4 c4 :: R) (tB_eq (b := false) ?_) ?_) nil_eq
    · rw [show false = decide (q * (100 - lo) < 100 * W) by simp; omega]
      exact eOp_eq (eOp_eq (eV_at rfl) (eOp_eq eC_eq (eV_at rfl) ii_sub) (mul_b bl)) (eOp_eq eC_eq (eV_at rfl) (mul_a ⟨by decide, by decide⟩)) ii_lt
    · have second : tB (eOp oGe (eOp oMul (eOp oSub (eV 7) (eC (.int 1))) (eOp oSub (eC (.int 100)) (eV 3))) (eOp oMul (eC (.int 100)) (eV 5))) [some (.obj 1), some (.lst (cs.map .int)), some (.int ov), some (.int lo), none, some (.int W), none, some (.int q), none, none, none, none, none, none, none, none, none, none, none, none, none, none, none, none, none] (sc :: tri a4 b4 c4 :: R) = .ok false (sc :: tri a4 b4 c4 :: R) := tB_eq (by
        rw [show false = decide (100 * W ≤ (q - 1) * (100 - lo)) by simp; omega]
        exact eOp_eq (eOp_eq (eOp_eq (eV_at rfl) eC_eq ii_sub) (eOp_eq eC_eq (eV_at rfl) ii_sub) (mul_b bl)) (eOp_eq eC_eq (eV_at rfl) (mul_a ⟨by decide, by decide⟩)) ii_ge)
      by_cases h0 : 0 < q
      · exact tAnd_t (S1 := sc :: tri a4 b4 c4 :: R) (tB_eq (b := true) (by rw [show true = decide (0 < q) by simp [h0]]; exact eOp_eq (eV_at rfl) eC_eq ii_gt)) second
      · exact tAnd_f (tB_eq (b := false) (by rw [show false = decide (0 < q) by simp; omega]; exact eOp_eq (eV_at rfl) eC_eq ii_gt))
  exact ⟨_, _, _, _, _, a4, b4, c4, seq_nx s1 (seq_nx s2 (seq_nx s3 (seq_nx s4 rfl)))⟩
end Sm.K15
end

section
set_option linter.all false
set_option autoImplicit false
set_option maxRecDepth 100000
set_option maxHeartbeats 4000000
namespace Sm.K15
open Sm
def noWayT : Tx := [110, 111, 32, 119, 97, 121]
theorem ne_noway {S : Store} : oNe S (.str noWayT) (.str noWayT) = some (.bl false) := ne_self rfl (by simp [view, eqD])
theorem ne_nil {S : Store} {ns : List Int} : oNe S (.lst (ns.map .int)) (.lst []) = some (.bl (!ns.isEmpty)) := by
  have h : ∀ l : List Int, (l.map D.int).all (dataN 5) = true := fun l => by
    induction l with
    | nil => rfl
    | cons x r ih => simp [List.map_cons, List.all_cons, dataN, ih]
  unfold oNe eqV
  have d1 : dataD (.lst (ns.map .int)) = true := h ns
  simp only [view, d1]
  cases ns <;> rfl
def longs : List Int := [1, 2, 3, 4, 5, 6, 7, 8, 9, 10, 11, 12, 13, 14, 15, 16, 17, 18, 19, 20, 21, 22, 23, 24, 25]
theorem mem_longs {m : Int} : m ∈ longs ↔ 1 ≤ m ∧ m ≤ 25 := by
  unfold longs
  simp only [List.mem_cons, List.mem_nil_iff, or_false]
  omega
theorem range2_eq {r : MA} {e : Env} {S S1 : Store} {a b : Int} (h : r e S = .ok [.int a, .int b] S1) (h2 : -1000000 ≤ a ∧ a ≤ 1000000 ∧ -1000000 ≤ b ∧ b ≤ 1000000) : iRange2 r e S = .ok (rangeL a (b - a).toNat, none) S1 := by unfold iRange2; simp only [h, bind_ok]; rw [if_pos h2]
theorem max_uniq {m m' : Int} {l : List Int} (h : IsMax m l) (h' : IsMax m' l) : m = m' := Int.le_antisymm (h'.2 m h.1) (h.2 m' h'.1)
theorem rest_B {sc : Ob} {R : Store} {a b c : Int} {rest : MS} {x1 x2 x3 x4 x5 x6 x7 : Option D} : ∃ x8 x9 x10 a' b' c', sSeq b_law_rest1_s5 (sSeq b_law_rest1_s6 (sSeq b_law_rest1_s7 rest))
    [some (.obj 1), x1, x2, x3, x4, x5, x6, x7, none, none, none, none, none, none, none, none, none, none, none, none, none, none, none, none, none] (sc :: tri a b c :: R) =
    rest [some (.obj 1), x1, x2, x3, x4, x5, x6, x7, x8, x9, x10, none, none, none, none, none, none, none, none, none, none, none, none, none, none] (sc :: tri a' b' c' :: R) := by
  obtain ⟨n, a1, b1, c1, r1, n0, n5⟩ := e_roll (sc := sc) (R := R) (a := a) (b := b) (c := c) (many := 5) (i := 0) (by decide) (by decide)
  obtain ⟨cs, a2, b2, c2, lc, lcl, lcP⟩ := lc_dice (sc := sc) (R := R) (me := eCall m_law_roll (aCons (eV 0) (aCons (eC (.int 25)) (aNil)))) (P := fun v => 0 ≤ v ∧ v ≤ 24) (slot := 4) (e := wipe [some (.obj 1), x1, x2, x3, x4, x5, x6, x7, none, none, none, none, none, none, none, none, none, none, none, none, none, none, none, none, none] [4]) (fun a b c x => by
    obtain ⟨v, a', b', c', r, v0, v1⟩ := e_roll (sc := sc) (R := R) (a := a) (b := b) (c := c) (many := 25) (i := 0) (by decide) (by decide)
    exact ⟨v, a', b', c', r _ rfl, by omega, by omega⟩) n.toNat 0 a1 b1 c1 []
  obtain ⟨w, a3, b3, c3, r3, w0, w6⟩ := e_roll (sc := sc) (R := R) (a := a2) (b := b2) (c := c2) (many := 6) (i := 0) (by decide) (by decide)
  have hcs : cs.length ≤ 5 := by omega
  have s5 : b_law_rest1_s5 [some (.obj 1), x1, x2, x3, x4, x5, x6, x7, none, none, none, none, none, none, none, none, none, none, none, none, none, none, none, none, none] (sc :: tri a b c :: R) = .ok (.nx [some (.obj 1), x1, x2, x3, x4, x5, x6, x7, some (.lst (cs.map .int)), some (.int (1 + w)), none, none, none, none, none, none, none, none, none, none, none, none, none, none, none]) (sc :: tri a3 b3 c3 :: R) :=
    asg_eq (d := .tup [.lst (cs.map .int), .int (1 + w)]) (eTup_eq (aCons_eq (lc_eq (range1_eq (aCons_eq (r1 _ rfl) aNil_eq) ⟨by omega, by omega⟩) (by rw [rangeL_len]; omega) lc) (aCons_eq (eOp_eq eC_eq (r3 _ rfl) ii_add) aNil_eq)) (by simp)) rfl
  have s6 : b_law_rest1_s6 [some (.obj 1), x1, x2, x3, x4, x5, x6, x7, some (.lst (cs.map .int)), some (.int (1 + w)), none, none, none, none, none, none, none, none, none, none, none, none, none, none, none] (sc :: tri a3 b3 c3 :: R) =
      .ok (.nx [some (.obj 1), x1, x2, x3, x4, x5, x6, x7, some (.lst (cs.map .int)), some (.int (1 + w)), some (.lst ((longs.filter fun m => decide (1 + w ≤ cnt cs m)).map .int)), none, none, none, none, none, none, none, none, none, none, none, none, none, none]) (sc :: tri a3 b3 c3 :: R) := by
    refine set_eq (lc_eq (xs := longs.map .int) (range2_eq (aCons_eq eC_eq (aCons_eq eC_eq aNil_eq)) ⟨by decide, by decide, by decide, by decide⟩) (by decide) (lc_ints (h := fun m => decide (1 + w ≤ cnt cs m)) (f := .int) longs [] (fun m hm => ?_) (fun m hm _ => eV_at rfl)))
    obtain ⟨m1, m2⟩ := mem_longs.mp hm
    refine tB_eq (eOp_eq (x := .int (cnt cs m)) (eCB_eq (aCons_eq (lc_eq (seq_it (eV_at rfl)) (by simp; omega) (lc_ints (h := fun _ => true) (f := fun n => .int (n.fdiv m)) cs [] (fun _ _ => rfl) (fun n hn _ => eOp_eq (eV_at rfl) (eV_at rfl) (ii_div ⟨by omega, by omega⟩)))) aNil_eq) ?_) (eV_at rfl) ii_ge)
    rw [filter_all, List.nil_append, show (cs.map fun n => D.int (n.fdiv m)) = (cs.map fun n => n.fdiv m).map .int by rw [List.map_map]; rfl, sum_eq]
    rfl
  have s7 : b_law_rest1_s7 [some (.obj 1), x1, x2, x3, x4, x5, x6, x7, some (.lst (cs.map .int)), some (.int (1 + w)), some (.lst ((longs.filter fun m => decide (1 + w ≤ cnt cs m)).map .int)), none, none, none, none, none, none, none, none, none, none, none, none, none, none] (sc :: tri a3 b3 c3 :: R) =
      .ok (.nx [some (.obj 1), x1, x2, x3, x4, x5, x6, x7, some (.lst (cs.map .int)), some (.int (1 + w)), some (.lst ((longs.filter fun m => decide (1 + w ≤ cnt cs m)).map .int)), none, none, none, none, none, none, none, none, none, none, none, none, none, none]) (sc :: tri a3 b3 c3 :: R) := by
    rcases longest_ok (S := sc :: tri a3 b3 c3 :: R) (ns := cs) (want := 1 + w) (fun n hn => lcP n hn) (by omega) (by omega) with ⟨r, q, q1, q2, q3, q4⟩ | ⟨q, q4⟩
    · have hr : IsMax r (longs.filter fun m => decide (1 + w ≤ cnt cs m)) := ⟨List.mem_filter.mpr ⟨mem_longs.mpr ⟨q1, by omega⟩, by simp [q3]⟩, fun x hx => by
        obtain ⟨h1, h2⟩ := List.mem_filter.mp hx
        have h3 : 1 + w ≤ cnt cs x := by simpa using h2
        by_cases h4 : x ≤ r
        · exact h4
        · have := q4 x (by omega); omega⟩
      have hne : (longs.filter fun m => decide (1 + w ≤ cnt cs m)) ≠ [] := fun z => by
        have := hr.1; rw [z] at this; simp at this
      obtain ⟨m, hm, hM⟩ := max_list (S := sc :: tri a3 b3 c3 :: R) hne
      have e : m = r := max_uniq hM hr
      subst e
      refine if_f (S1 := sc :: tri a3 b3 c3 :: R) (tB_eq (b := false) (eOp_eq (x := .int m) (y := .int m) (told_ok (eCall_eq (aCons_eq (eV_at rfl) (aCons_eq (eV_at rfl) aNil_eq)) q)) (eIf_t (S1 := sc :: tri a3 b3 c3 :: R) (tB_eq (b := true) ?_) (eCB_eq (aCons_eq (eV_at rfl) aNil_eq) hm)) ne_int)) nil_eq
      refine eOp_eq (eV_at rfl) (eLst_eq aNil_eq (by simp)) ?_
      rw [ne_nil]
      cases h : (longs.filter fun m => decide (1 + w ≤ cnt cs m)) with
      | nil => exact absurd h hne
      | cons x l => rfl
    · have hnil : (longs.filter fun m => decide (1 + w ≤ cnt cs m)) = [] := by
        rw [List.filter_eq_nil_iff]
        intro m hm
        have := q4 m (mem_longs.mp hm).1
        simp; omega
      rw [hnil]
      exact if_f (S1 := sc :: tri a3 b3 c3 :: R) (tB_eq (b := false) (eOp_eq (x := .str noWayT) (y := .str noWayT) (told_exc (y := (6, noWayT)) (eCall_eq (aCons_eq (eV_at rfl) (aCons_eq (eV_at rfl) aNil_eq)) q) rfl) (eIf_f (S1 := sc :: tri a3 b3 c3 :: R) (tB_eq (b := false) (eOp_eq (eV_at rfl) (eLst_eq aNil_eq (by simp)) (by rw [ne_nil]; rfl))) eC_eq) ne_noway)) nil_eq
  exact ⟨_, _, _, a3, b3, c3, seq_nx s5 (seq_nx s6 (seq_nx s7 rfl))⟩
end Sm.K15
end

section
set_option linter.all false
set_option autoImplicit false
set_option maxRecDepth 100000
set_option maxHeartbeats 4000000
namespace Sm.K15
open Sm
def tab : Nat → D
  | 0 => .lst [.tup [.int 3, .str [116, 104, 105, 110]], .tup [.int 6, .str [109, 105, 100]], .tup [.int 9, .str [116, 104, 105, 99, 107]]]
  | 1 => .lst [.tup [.int 5, .str [111, 110, 101]]]
  | 2 => .lst [.tup [.int 4, .str [97]], .tup [.int 4, .str [98]]]
  | _ => .lst []
theorem kinds_ok {S : Store} {t : Int} {k : Nat} {x0 x1 x2 x3 x4 x5 x6 x7 x8 x9 x10 x11 x12 x15 x16 x17 x18 x19 x20 x21 x22 x23 x24 : Option D} (h0 : 0 ≤ t) (h1 : t < 12) (hk : k < 4) :
    ∃ y, b_law_rest1_s9 [x0, x1, x2, x3, x4, x5, x6, x7, x8, x9, x10, x11, x12, some (.int t), some (tab k), x15, x16, x17, x18, x19, x20, x21, x22, x23, x24] S = .ok (.nx [x0, x1, x2, x3, x4, x5, x6, x7, x8, x9, x10, x11, x12, some (.int t), some (tab k), y, x16, x17, x18, x19, x20, x21, x22, x23, x24]) S ∧
      b_law_rest1_s10 [x0, x1, x2, x3, x4, x5, x6, x7, x8, x9, x10, x11, x12, some (.int t), some (tab k), y, x16, x17, x18, x19, x20, x21, x22, x23, x24] S = .ok (.nx [x0, x1, x2, x3, x4, x5, x6, x7, x8, x9, x10, x11, x12, some (.int t), some (tab k), y, x16, x17, x18, x19, x20, x21, x22, x23, x24]) S := by
  have ht : t = 0 ∨ t = 1 ∨ t = 2 ∨ t = 3 ∨ t = 4 ∨ t = 5 ∨ t = 6 ∨ t = 7 ∨ t = 8 ∨ t = 9 ∨ t = 10 ∨ t = 11 := by omega
  have hk2 : k = 0 ∨ k = 1 ∨ k = 2 ∨ k = 3 := by omega
  rcases hk2 with rfl | rfl | rfl | rfl <;> rcases ht with rfl | rfl | rfl | rfl | rfl | rfl | rfl | rfl | rfl | rfl | rfl | rfl <;> exact ⟨_, rfl, rfl⟩
theorem rest_C {sc : Ob} {R : Store} {a b c : Int} {rest : MS} {x1 x2 x3 x4 x5 x6 x7 x8 x9 x10 x11 x12 : Option D} : ∃ x13 x14 x15 a' b' c', sSeq b_law_rest1_s8 (sSeq b_law_rest1_s9 (sSeq b_law_rest1_s10 rest))
    [some (.obj 1), x1, x2, x3, x4, x5, x6, x7, x8, x9, x10, x11, x12, none, none, none, none, none, none, none, none, none, none, none, none] (sc :: tri a b c :: R) =
    rest [some (.obj 1), x1, x2, x3, x4, x5, x6, x7, x8, x9, x10, x11, x12, x13, x14, x15, none, none, none, none, none, none, none, none, none] (sc :: tri a' b' c' :: R) := by
  obtain ⟨t, a1, b1, c1, r1, t0, t1⟩ := e_roll (sc := sc) (R := R) (a := a) (b := b) (c := c) (many := 12) (i := 0) (by decide) (by decide)
  obtain ⟨k, a2, b2, c2, r2, k0, k1⟩ := e_roll (sc := sc) (R := R) (a := a1) (b := b1) (c := c1) (many := 4) (i := 0) (by decide) (by decide)
  have ix : oIx (sc :: tri a2 b2 c2 :: R) (.lst [tab 0, tab 1, tab 2, tab 3]) (.int k) = some (tab k.toNat) := by
    have hk : k = 0 ∨ k = 1 ∨ k = 2 ∨ k = 3 := by omega
    rcases hk with rfl | rfl | rfl | rfl <;> rfl
  have s8 : b_law_rest1_s8 [some (.obj 1), x1, x2, x3, x4, x5, x6, x7, x8, x9, x10, x11, x12, none, none, none, none, none, none, none, none, none, none, none, none] (sc :: tri a b c :: R) = .ok (.nx [some (.obj 1), x1, x2, x3, x4, x5, x6, x7, x8, x9, x10, x11, x12, some (.int t), some (tab k.toNat), none, none, none, none, none, none, none, none, none, none]) (sc :: tri a2 b2 c2 :: R) := by
    refine asg_eq (d := .tup [.int t, tab k.toNat]) (eTup_eq (aCons_eq (r1 _ rfl) (aCons_eq (eOp_eq (x := .lst [tab 0, tab 1, tab 2, tab 3]) ?_ (r2 _ rfl) ix) aNil_eq)) (by simp)) rfl
    rfl
  obtain ⟨y, s9, s10⟩ := kinds_ok (S := sc :: tri a2 b2 c2 :: R) (t := t) (k := k.toNat) (x0 := some (.obj 1)) (x1 := x1) (x2 := x2) (x3 := x3) (x4 := x4) (x5 := x5) (x6 := x6) (x7 := x7) (x8 := x8) (x9 := x9) (x10 := x10) (x11 := x11) (x12 := x12) (x15 := none) (x16 := none) (x17 := none) (x18 := none) (x19 := none) (x20 := none) (x21 := none) (x22 := none) (x23 := none) (x24 := none) t0 t1 (by omega)
  exact ⟨_, _, _, a2, b2, c2, seq_nx s8 (seq_nx s9 (seq_nx s10 rfl))⟩
/-- the law's own cuts -/
theorem law_cut {S : Store} {long : Int} {x0 x1 x2 x3 x4 x5 x6 x7 x8 x9 x10 x13 x14 x15 x16 x17 x18 x20 x21 x22 x23 x24 : Option D} : ∀ (ls : List Int) {acc : List Int} {x12 : Option D}, acc.length + ls.length ≤ 1000 →
    ∃ t12, forL none (gN 12) b_law_rest1_l1 (ls.map .int) [x0, x1, x2, x3, x4, x5, x6, x7, x8, x9, x10, some (.int long), x12, x13, x14, x15, x16, x17, x18, some (.lst (acc.map .int)), x20, x21, x22, x23, x24] S =
      .ok (.nx [x0, x1, x2, x3, x4, x5, x6, x7, x8, x9, x10, some (.int long), t12, x13, x14, x15, x16, x17, x18, some (.lst ((cutF ls (long - sumI acc) acc).1.map .int)), x20, x21, x22, x23, x24]) S
  | [], acc, x12, h => ⟨x12, rfl⟩
  | l :: ls, acc, x12, h => by
    simp only [List.length_cons] at h
    have app : sumI (acc ++ [l]) = sumI acc + l := by
      induction acc with
      | nil => show l + 0 = 0 + l; omega
      | cons x a ih => show x + sumI (a ++ [l]) = x + sumI a + l; rw [ih (by simp at h; omega)]; omega
    by_cases hl : l ≤ long - sumI acc
    · have e : cutF (l :: ls) (long - sumI acc) acc = cutF ls (long - sumI (acc ++ [l])) (acc ++ [l]) := by
        show (if l ≤ long - sumI acc then _ else _) = _
        rw [if_pos hl, app, show long - sumI acc - l = long - (sumI acc + l) by omega]
      obtain ⟨t12, q⟩ := law_cut (S := S) (long := long) (x0 := x0) (x1 := x1) (x2 := x2) (x3 := x3) (x4 := x4) (x5 := x5) (x6 := x6) (x7 := x7) (x8 := x8) (x9 := x9) (x10 := x10) (x13 := x13) (x14 := x14) (x15 := x15) (x16 := x16) (x17 := x17) (x18 := x18) (x20 := x20) (x21 := x21) (x22 := x22) (x23 := x23) (x24 := x24) ls (acc := acc ++ [l]) (x12 := some (.int l)) (by simp; omega)
      rw [e]
      refine ⟨t12, forL_nx (S2 := S) gN_eq (set_eq (d := .lst ((acc ++ [l]).map .int)) (eOp_eq (x := .lst (acc.map .int)) (y := .lst [.int l]) (eV_at rfl) (eIf_t (S1 := S) (tB_eq (b := true) ?_) (eLst_eq (aCons_eq (eV_at rfl) aNil_eq) (by simp))) (by rw [add_lst (by simp; omega)]; simp))) q⟩
      rw [show true = decide (sumI acc + l ≤ long) by simp; omega]
      exact eOp_eq (eOp_eq (eCB_eq (aCons_eq (eV_at rfl) aNil_eq) sum_eq) (eV_at rfl) ii_add) (eV_at rfl) ii_le
    · have e : cutF (l :: ls) (long - sumI acc) acc = cutF ls (long - sumI acc) acc := by
        show (if l ≤ long - sumI acc then _ else _) = _
        rw [if_neg hl]
      obtain ⟨t12, q⟩ := law_cut (S := S) (long := long) (x0 := x0) (x1 := x1) (x2 := x2) (x3 := x3) (x4 := x4) (x5 := x5) (x6 := x6) (x7 := x7) (x8 := x8) (x9 := x9) (x10 := x10) (x13 := x13) (x14 := x14) (x15 := x15) (x16 := x16) (x17 := x17) (x18 := x18) (x20 := x20) (x21 := x21) (x22 := x22) (x23 := x23) (x24 := x24) ls (acc := acc) (x12 := some (.int l)) (by omega)
      rw [e]
      refine ⟨t12, forL_nx (S2 := S) gN_eq (set_eq (d := .lst (acc.map .int)) (eOp_eq (x := .lst (acc.map .int)) (y := .lst []) (eV_at rfl) (eIf_f (S1 := S) (tB_eq (b := false) ?_) (eLst_eq aNil_eq (by simp))) (by rw [add_lst (by simp; omega)]; simp))) q⟩
      rw [show false = decide (sumI acc + l ≤ long) by simp; omega]
      exact eOp_eq (eOp_eq (eCB_eq (aCons_eq (eV_at rfl) aNil_eq) sum_eq) (eV_at rfl) ii_add) (eV_at rfl) ii_le
end Sm.K15
end

section
set_option linter.all false
set_option autoImplicit false
set_option maxRecDepth 100000
set_option maxHeartbeats 4000000
namespace Sm.K15
open Sm
theorem all_int (k : Nat) : ∀ l : List Int, (l.map D.int).all (dataN (k + 1)) = true
  | [] => rfl
  | x :: r => by simp [List.map_cons, List.all_cons, dataN, all_int k r]
theorem eqL_int : ∀ l : List Int, eqL (l.map D.int) (l.map D.int) = true
  | [] => rfl
  | x :: r => by
    show (eqD (.int x) (.int x) && eqL (r.map D.int) (r.map D.int)) = true
    rw [eqL_int r]; simp [eqD]
theorem ne_pair {S : Store} {l : List Int} {x y : Int} (h : x = y) : oNe S (.tup [.tup (l.map .int), .int x]) (.tup [.tup (l.map .int), .int y]) = some (.bl false) := by
  subst h
  refine ne_self ?_ ?_
  · show ([D.tup (l.map .int), .int x].all (dataN 5)) = true
    have : dataN 5 (.tup (l.map .int)) = true := all_int 3 l
    simp only [List.all_cons, this, List.all_nil]
    rfl
  · show (eqL (l.map D.int) (l.map D.int) && (eqD (.int x) (.int x) && true)) = true
    rw [eqL_int]; simp [eqD]
theorem rest_D {sc : Ob} {R : Store} {a b c : Int} {rest : MS} {x1 x2 x3 x4 x5 x6 x7 x8 x9 x10 x11 x12 x13 x14 x15 x16 x17 : Option D} : ∃ (long : Int) (y12 x18 x19 : Option D) (a' b' c' : Int) (R' : Store), 0 ≤ long ∧ long < 30 ∧ sSeq b_law_rest1_s11 (sSeq b_law_rest1_s12 (sSeq b_law_rest1_s13 rest))
    [some (.obj 1), x1, x2, x3, x4, x5, x6, x7, x8, x9, x10, x11, x12, x13, x14, x15, x16, x17, none, none, none, none, none, none, none] (sc :: tri a b c :: R) =
    rest [some (.obj 1), x1, x2, x3, x4, x5, x6, x7, x8, x9, x10, some (.int long), y12, x13, x14, x15, x16, x17, x18, x19, none, none, none, none, none] (sc :: tri a' b' c' :: R') := by
  obtain ⟨long, a0, b0, c0, r0, l0, l30⟩ := e_roll (sc := sc) (R := R) (a := a) (b := b) (c := c) (many := 30) (i := 0) (by decide) (by decide)
  obtain ⟨n, a1, b1, c1, r1, n0, n7⟩ := e_roll (sc := sc) (R := R) (a := a0) (b := b0) (c := c0) (many := 7) (i := 0) (by decide) (by decide)
  obtain ⟨ls, a2, b2, c2, lc, lcl, lcP⟩ := lc_dice (sc := sc) (R := R) (me := eOp oAdd (eC (.int 1)) (eCall m_law_roll (aCons (eV 0) (aCons (eC (.int 9)) (aNil))))) (P := fun v => 1 ≤ v) (slot := 4) (e := wipe [some (.obj 1), x1, x2, x3, x4, x5, x6, x7, x8, x9, x10, x11, x12, x13, x14, x15, x16, x17, none, none, none, none, none, none, none] [4]) (fun a b c x => by
    obtain ⟨v, a', b', c', r, v0, v1⟩ := e_roll (sc := sc) (R := R) (a := a) (b := b) (c := c) (many := 9) (i := 0) (by decide) (by decide)
    exact ⟨1 + v, a', b', c', eOp_eq eC_eq (r _ rfl) ii_add, by omega⟩) n.toNat 0 a1 b1 c1 []
  have hls : ls.length ≤ 7 := by omega
  have s11 : b_law_rest1_s11 [some (.obj 1), x1, x2, x3, x4, x5, x6, x7, x8, x9, x10, x11, x12, x13, x14, x15, x16, x17, none, none, none, none, none, none, none] (sc :: tri a b c :: R) = .ok (.nx [some (.obj 1), x1, x2, x3, x4, x5, x6, x7, x8, x9, x10, some (.int long), x12, x13, x14, x15, x16, x17, some (.lst (ls.map .int)), some (.lst (([] : List Int).map .int)), none, none, none, none, none]) (sc :: tri a2 b2 c2 :: R) :=
    asg_eq (d := .tup [.int long, .lst (ls.map .int), .lst []]) (eTup_eq (aCons_eq (r0 _ rfl) (aCons_eq (lc_eq (range1_eq (aCons_eq (r1 _ rfl) aNil_eq) ⟨by omega, by omega⟩) (by rw [rangeL_len]; omega) lc) (aCons_eq (eLst_eq aNil_eq (by simp)) aNil_eq))) (by simp)) rfl
  obtain ⟨t12, q⟩ := law_cut (S := sc :: tri a2 b2 c2 :: R) (long := long) (x0 := some (.obj 1)) (x1 := x1) (x2 := x2) (x3 := x3) (x4 := x4) (x5 := x5) (x6 := x6) (x7 := x7) (x8 := x8) (x9 := x9) (x10 := x10) (x13 := x13) (x14 := x14) (x15 := x15) (x16 := x16) (x17 := x17) (x18 := some (.lst (ls.map .int))) (x20 := none) (x21 := none) (x22 := none) (x23 := none) (x24 := none) ls (acc := []) (x12 := x12) (by simp; omega)
  rw [show long - sumI [] = long by show long - 0 = long; omega] at q
  obtain ⟨S', cut⟩ := cut_ok (S := sc :: tri a2 b2 c2 :: R) (c := long) (ls := ls) l0 (fun l hl => lcP l hl) (by omega)
  have hsum : (cutF ls long []).2 = long - sumI (cutF ls long []).1 := by
    have := cutF_sum ls long []
    have z : sumI [] = 0 := rfl
    omega
  have s12 := for_eq (it := iSeq (eV 18)) (seq_it (eV_at (i := 18) (e := [some (.obj 1), x1, x2, x3, x4, x5, x6, x7, x8, x9, x10, some (.int long), x12, x13, x14, x15, x16, x17, some (.lst (ls.map .int)), some (.lst (([] : List Int).map .int)), none, none, none, none, none]) (S := sc :: tri a2 b2 c2 :: R) rfl)) q
  have s13 : b_law_rest1_s13 [some (.obj 1), x1, x2, x3, x4, x5, x6, x7, x8, x9, x10, some (.int long), t12, x13, x14, x15, x16, x17, some (.lst (ls.map .int)), some (.lst ((cutF ls long []).1.map .int)), none, none, none, none, none] (sc :: tri a2 b2 c2 :: R) = .ok (.nx [some (.obj 1), x1, x2, x3, x4, x5, x6, x7, x8, x9, x10, some (.int long), t12, x13, x14, x15, x16, x17, some (.lst (ls.map .int)), some (.lst ((cutF ls long []).1.map .int)), none, none, none, none, none]) (sc :: tri a2 b2 c2 :: (R ++ [S'])) :=
    if_f (S1 := sc :: tri a2 b2 c2 :: (R ++ [S'])) (tB_eq (b := false) (eOp_eq (eCall_eq (aCons_eq (eV_at rfl) (aCons_eq (eV_at rfl) aNil_eq)) cut) (eTup_eq (aCons_eq (eCB_eq (z := .tup ((cutF ls long []).1.map .int)) (aCons_eq (eV_at rfl) aNil_eq) rfl) (aCons_eq (eOp_eq (eV_at rfl) (eCB_eq (aCons_eq (eV_at rfl) aNil_eq) sum_eq) ii_sub) aNil_eq)) (by simp)) (ne_pair hsum))) nil_eq
  exact ⟨long, t12, _, _, a2, b2, c2, R ++ [S'], l0, l30, seq_nx s11 (seq_nx s12 (seq_nx s13 rfl))⟩
end Sm.K15
end

section
set_option linter.all false
set_option autoImplicit false
set_option maxRecDepth 100000
set_option maxHeartbeats 4000000
namespace Sm.K15
open Sm
def noSuchT : Tx := [110, 111, 32, 115, 117, 99, 104]
theorem ne_nosuch {S : Store} : oNe S (.str noSuchT) (.str noSuchT) = some (.bl false) := ne_self rfl (by simp [view, eqD])
theorem rest_E {sc : Ob} {R : Store} {a b c : Int} {long : Int} (l0 : 0 ≤ long) (l30 : long < 30) {x1 x2 x3 x4 x5 x6 x7 x8 x9 x10 x12 x13 x14 x15 x16 x17 x18 x19 : Option D} : ∃ S', sSeq b_law_rest1_s14 (sSeq b_law_rest1_s15 (sSeq b_law_rest1_s16 (sSeq b_law_rest1_s17 b_law_rest1_s18)))
    [some (.obj 1), x1, x2, x3, x4, x5, x6, x7, x8, x9, x10, some (.int long), x12, x13, x14, x15, x16, x17, x18, x19, none, none, none, none, none] (sc :: tri a b c :: R) = .ok (.rt (.bl true)) S' := by
  obtain ⟨n, a1, b1, c1, r1, n0, n5⟩ := e_roll (sc := sc) (R := R) (a := a) (b := b) (c := c) (many := 5) (i := 0) (by decide) (by decide)
  obtain ⟨ts, a2, b2, c2, lc, lcl, lcP⟩ := lc_dice (sc := sc) (R := R) (me := eCall m_law_roll (aCons (eV 0) (aCons (eOp oAdd (eOp oAdd (eV 11) (eC (.int 1))) (eCB bInt (aCons (eOp oEq (eCall m_law_roll (aCons (eV 0) (aCons (eC (.int 12)) (aNil)))) (eC (.int 0))) (aNil)))) (aNil)))) (P := fun v => 0 ≤ v) (slot := 4) (e := wipe [some (.obj 1), x1, x2, x3, x4, x5, x6, x7, x8, x9, x10, some (.int long), x12, x13, x14, x15, x16, x17, x18, x19, none, none, none, none, none] [4]) (fun a b c x => by
    obtain ⟨w, a', b', c', r, w0, w1⟩ := e_roll (sc := sc) (R := R) (a := a) (b := b) (c := c) (many := 12) (i := 0) (by decide) (by decide)
    obtain ⟨k, hk⟩ : ∃ k : Int, k = if (w == 0) = true then 1 else 0 := ⟨_, rfl⟩
    have k0 : 0 ≤ k ∧ k ≤ 1 := by rw [hk]; split <;> omega
    obtain ⟨v, a'', b'', c'', r2, v0, v1⟩ := roll_st (sc := sc) (R := R) (a := a') (b := b') (c := c') (many := long + 1 + k) (by omega) (by omega)
    refine ⟨v, a'', b'', c'', eCall_eq (aCons_eq (eV_at rfl) (aCons_eq (eOp_eq (x := .int (long + 1)) (y := .int k) (eOp_eq (eV_at rfl) eC_eq ii_add) (eCB_eq (aCons_eq (eOp_eq (r _ rfl) eC_eq eqV_ii) aNil_eq) ?_) ii_add) aNil_eq)) r2, v0⟩
    rw [hk]; rfl) n.toNat 0 a1 b1 c1 []
  have hts : ts.length ≤ 5 := by omega
  have s14 : b_law_rest1_s14 [some (.obj 1), x1, x2, x3, x4, x5, x6, x7, x8, x9, x10, some (.int long), x12, x13, x14, x15, x16, x17, x18, x19, none, none, none, none, none] (sc :: tri a b c :: R) = .ok (.nx [some (.obj 1), x1, x2, x3, x4, x5, x6, x7, x8, x9, x10, some (.int long), x12, x13, x14, x15, x16, x17, x18, x19, some (.lst (ts.map .int)), none, none, none, none]) (sc :: tri a2 b2 c2 :: R) :=
    set_eq (d := .lst (ts.map .int)) (lc_eq (range1_eq (aCons_eq (r1 _ rfl) aNil_eq) ⟨by omega, by omega⟩) (by rw [rangeL_len]; omega) lc)
  have s15 : b_law_rest1_s15 [some (.obj 1), x1, x2, x3, x4, x5, x6, x7, x8, x9, x10, some (.int long), x12, x13, x14, x15, x16, x17, x18, x19, some (.lst (ts.map .int)), none, none, none, none] (sc :: tri a2 b2 c2 :: R) = .ok (.nx [some (.obj 1), x1, x2, x3, x4, x5, x6, x7, x8, x9, x10, some (.int long), x12, x13, x14, x15, x16, x17, x18, x19, some (.lst (ts.map .int)), some (.str noSuchT), none, none, none]) (sc :: tri a2 b2 c2 :: R) := set_eq eC_eq
  obtain ⟨m, hm, hM⟩ := max_list (S := sc :: tri a2 b2 c2 :: R) (l := 0 :: ts) (by simp)
  obtain ⟨Sf, s18⟩ := cases_ok (S := sc :: tri a2 b2 c2 :: R)
  have test : tB (eOp oLe (eCB bMax (aCons (eOp oAdd (eLst (aCons (eC (.int 0)) (aNil))) (eV 20)) (aNil))) (eV 11)) [some (.obj 1), x1, x2, x3, x4, x5, x6, x7, x8, x9, x10, some (.int long), x12, x13, x14, x15, x16, x17, x18, x19, some (.lst (ts.map .int)), some (.str noSuchT), none, none, none] (sc :: tri a2 b2 c2 :: R) = .ok (decide (m ≤ long)) (sc :: tri a2 b2 c2 :: R) :=
    tB_eq (eOp_eq (x := .int m) (eCB_eq (aCons_eq (eOp_eq (z := .lst ((0 :: ts).map .int)) (eLst_eq (aCons_eq eC_eq aNil_eq) (by simp)) (eV_at rfl) (add_lst (by simp; omega))) aNil_eq) hm) (eV_at rfl) ii_le)
  by_cases hl : m ≤ long
  · have ht : ∀ x ∈ ts, 0 ≤ x ∧ x ≤ long := fun x hx => ⟨lcP x hx, Int.le_trans (hM.2 x (by simp [hx])) hl⟩
    obtain ⟨d, hd, hD⟩ := due_ok (S := sc :: tri a2 b2 c2 :: R) (tied := ts) (long := long) (x0 := some (.obj 1)) (x1 := x1) (x2 := x2) (x3 := x3) (x4 := x4) (x5 := x5) (x6 := x6) (x7 := x7) (x8 := x8) (x9 := x9) (x10 := x10) (x12 := x12) (x13 := x13) (x14 := x14) (x15 := x15) (x16 := x16) (x17 := x17) (x18 := x18) (x19 := x19) (x21 := some (.str noSuchT)) (x22 := none) (x23 := none) (x24 := none) l0 ht (by omega)
    obtain ⟨g, hg, hG⟩ := knots_ok (S := sc :: tri a2 b2 c2 :: R) l0 ht (by omega)
    have e : d = g := knots_law l0 ht hD hG
    subst e
    rw [show decide (m ≤ long) = true by simp [hl]] at test
    have s16 : b_law_rest1_s16 [some (.obj 1), x1, x2, x3, x4, x5, x6, x7, x8, x9, x10, some (.int long), x12, x13, x14, x15, x16, x17, x18, x19, some (.lst (ts.map .int)), some (.str noSuchT), none, none, none] (sc :: tri a2 b2 c2 :: R) = .ok (.nx [some (.obj 1), x1, x2, x3, x4, x5, x6, x7, x8, x9, x10, some (.int long), x12, x13, x14, x15, x16, x17, x18, x19, some (.lst (ts.map .int)), some (.int d), none, none, none]) (sc :: tri a2 b2 c2 :: R) := if_t test (set_eq hd)
    have s17 : b_law_rest1_s17 [some (.obj 1), x1, x2, x3, x4, x5, x6, x7, x8, x9, x10, some (.int long), x12, x13, x14, x15, x16, x17, x18, x19, some (.lst (ts.map .int)), some (.int d), none, none, none] (sc :: tri a2 b2 c2 :: R) = .ok (.nx [some (.obj 1), x1, x2, x3, x4, x5, x6, x7, x8, x9, x10, some (.int long), x12, x13, x14, x15, x16, x17, x18, x19, some (.lst (ts.map .int)), some (.int d), none, none, none]) (sc :: tri a2 b2 c2 :: R) :=
      if_f (S1 := sc :: tri a2 b2 c2 :: R) (tB_eq (b := false) (eOp_eq (x := .int d) (y := .int d) (told_ok (eCall_eq (aCons_eq (eV_at rfl) (aCons_eq (eV_at rfl) aNil_eq)) hg)) (eV_at rfl) ne_int)) nil_eq
    exact ⟨Sf, seq_nx s14 (seq_nx s15 (seq_nx s16 (seq_nx s17 (ret_eq (eCall_eq aNil_eq s18)))))⟩
  · have hin : m ∈ ts := by
      rcases List.mem_cons.mp hM.1 with z | z
      · omega
      · exact z
    have hb := knots_bad (S := sc :: tri a2 b2 c2 :: R) (tied := ts) l0 ⟨m, hin, by omega⟩
    rw [show decide (m ≤ long) = false by simp; omega] at test
    have s16 : b_law_rest1_s16 [some (.obj 1), x1, x2, x3, x4, x5, x6, x7, x8, x9, x10, some (.int long), x12, x13, x14, x15, x16, x17, x18, x19, some (.lst (ts.map .int)), some (.str noSuchT), none, none, none] (sc :: tri a2 b2 c2 :: R) = .ok (.nx [some (.obj 1), x1, x2, x3, x4, x5, x6, x7, x8, x9, x10, some (.int long), x12, x13, x14, x15, x16, x17, x18, x19, some (.lst (ts.map .int)), some (.str noSuchT), none, none, none]) (sc :: tri a2 b2 c2 :: R) := if_f test nil_eq
    have s17 : b_law_rest1_s17 [some (.obj 1), x1, x2, x3, x4, x5, x6, x7, x8, x9, x10, some (.int long), x12, x13, x14, x15, x16, x17, x18, x19, some (.lst (ts.map .int)), some (.str noSuchT), none, none, none] (sc :: tri a2 b2 c2 :: R) = .ok (.nx [some (.obj 1), x1, x2, x3, x4, x5, x6, x7, x8, x9, x10, some (.int long), x12, x13, x14, x15, x16, x17, x18, x19, some (.lst (ts.map .int)), some (.str noSuchT), none, none, none]) (sc :: tri a2 b2 c2 :: R) :=
      if_f (S1 := sc :: tri a2 b2 c2 :: R) (tB_eq (b := false) (eOp_eq (x := .str noSuchT) (y := .str noSuchT) (told_exc (y := (4, noSuchT)) (eCall_eq (aCons_eq (eV_at rfl) (aCons_eq (eV_at rfl) aNil_eq)) hb) rfl) (eV_at rfl) ne_nosuch)) nil_eq
    exact ⟨Sf, seq_nx s14 (seq_nx s15 (seq_nx s16 (seq_nx s17 (ret_eq (eCall_eq aNil_eq s18)))))⟩
theorem rest1_ok {sc : Ob} {R : Store} {a b c : Int} : ∃ S', m_law_rest1 [.obj 1] (sc :: tri a b c :: R) = .ok (.bl true) S' := by
  obtain ⟨x1, x2, x3, x5, x7, a1, b1, c1, h1⟩ := rest_A (sc := sc) (R := R) (a := a) (b := b) (c := c) (rest := sSeq b_law_rest1_s5 (sSeq b_law_rest1_s6 (sSeq b_law_rest1_s7 (sSeq b_law_rest1_s8 (sSeq b_law_rest1_s9 (sSeq b_law_rest1_s10 (sSeq b_law_rest1_s11 (sSeq b_law_rest1_s12 (sSeq b_law_rest1_s13 (sSeq b_law_rest1_s14 (sSeq b_law_rest1_s15 (sSeq b_law_rest1_s16 (sSeq b_law_rest1_s17 (b_law_rest1_s18))))))))))))))
  obtain ⟨x8, x9, x10, a2, b2, c2, h2⟩ := rest_B (sc := sc) (R := R) (a := a1) (b := b1) (c := c1) (x1 := x1) (x2 := x2) (x3 := x3) (x4 := none) (x5 := x5) (x6 := none) (x7 := x7) (rest := sSeq b_law_rest1_s8 (sSeq b_law_rest1_s9 (sSeq b_law_rest1_s10 (sSeq b_law_rest1_s11 (sSeq b_law_rest1_s12 (sSeq b_law_rest1_s13 (sSeq b_law_rest1_s14 (sSeq b_law_rest1_s15 (sSeq b_law_rest1_s16 (sSeq b_law_rest1_s17 (b_law_rest1_s18)))))))))))
  obtain ⟨x13, x14, x15, a3, b3, c3, h3⟩ := rest_C (sc := sc) (R := R) (a := a2) (b := b2) (c := c2) (x1 := x1) (x2 := x2) (x3 := x3) (x4 := none) (x5 := x5) (x6 := none) (x7 := x7) (x8 := x8) (x9 := x9) (x10 := x10) (x11 := none) (x12 := none) (rest := sSeq b_law_rest1_s11 (sSeq b_law_rest1_s12 (sSeq b_law_rest1_s13 (sSeq b_law_rest1_s14 (sSeq b_law_rest1_s15 (sSeq b_law_rest1_s16 (sSeq b_law_rest1_s17 (b_law_rest1_s18))))))))
  obtain ⟨long, y12, x18, x19, a4, b4, c4, R', l0, l30, h4⟩ := rest_D (sc := sc) (R := R) (a := a3) (b := b3) (c := c3) (x1 := x1) (x2 := x2) (x3 := x3) (x4 := none) (x5 := x5) (x6 := none) (x7 := x7) (x8 := x8) (x9 := x9) (x10 := x10) (x11 := none) (x12 := none) (x13 := x13) (x14 := x14) (x15 := x15) (x16 := none) (x17 := none) (rest := sSeq b_law_rest1_s14 (sSeq b_law_rest1_s15 (sSeq b_law_rest1_s16 (sSeq b_law_rest1_s17 (b_law_rest1_s18)))))
  obtain ⟨S', h5⟩ := rest_E (sc := sc) (R := R') (a := a4) (b := b4) (c := c4) l0 l30 (x1 := x1) (x2 := x2) (x3 := x3) (x4 := none) (x5 := x5) (x6 := none) (x7 := x7) (x8 := x8) (x9 := x9) (x10 := x10) (x12 := y12) (x13 := x13) (x14 := x14) (x15 := x15) (x16 := none) (x17 := none) (x18 := x18) (x19 := x19)
  exact ⟨S', fn_rt rfl (h1.trans (h2.trans (h3.trans (h4.trans h5))))⟩
end Sm.K15
end

section
set_option linter.all false
set_option autoImplicit false
set_option maxRecDepth 100000
set_option maxHeartbeats 4000000
namespace Sm.K15
open Sm
theorem eqL_str : ∀ l : List Tx, eqL (l.map D.str) (l.map D.str) = true
  | [] => rfl
  | x :: r => by
    show (eqD (.str x) (.str x) && eqL (r.map D.str) (r.map D.str)) = true
    rw [eqL_str r]; simp [eqD]
def isStr (d : D) : Prop := ∃ t : Tx, d = .str t ∧ ∀ x ∈ t, x < 128
theorem plaitN_str : ∀ (n : Nat) (lo : Int) {x y z : D}, isStr x → isStr y → isStr z → isStr (plaitN n lo x y z).1 ∧ isStr (plaitN n lo x y z).2.1 ∧ isStr (plaitN n lo x y z).2.2
  | 0, lo, x, y, z, hx, hy, hz => ⟨hx, hy, hz⟩
  | n + 1, lo, x, y, z, hx, hy, hz => by
    have : isStr (plaitR lo x y z).1 ∧ isStr (plaitR lo x y z).2.1 ∧ isStr (plaitR lo x y z).2.2 := by
      unfold plaitR; split
      · exact ⟨hy, hx, hz⟩
      · exact ⟨hx, hz, hy⟩
    exact plaitN_str n (lo + 1) this.1 this.2.1 this.2.2
theorem ne_strs {S : Store} {x y z : D} (hx : isStr x) (hy : isStr y) (hz : isStr z) : oNe S (.lst [x, y, z]) (.lst [x, y, z]) = some (.bl false) := by
  obtain ⟨x, rfl, qx⟩ := hx
  obtain ⟨y, rfl, qy⟩ := hy
  obtain ⟨z, rfl, qz⟩ := hz
  exact ne_self (by simp [view, dataD, dataN]; exact ⟨qx, qy, qz⟩) (by simp [view, eqD, eqL])
theorem aCons_exc {a : ME} {r : MA} {e : Env} {S S1 : Store} {k : Nat} (h : a e S = .exc k S1) : aCons a r e S = .exc k S1 := by unfold aCons; simp only [h, bind_exc]
theorem eCB_exc {f : Store → List D → Option D} {r : MA} {e : Env} {S S1 : Store} {k : Nat} (h : r e S = .exc k S1) : eCB f r e S = .exc k S1 := by unfold eCB; simp only [h, bind_exc]
def candT : Tx := [99, 97, 110, 100, 108, 101]
theorem ne_cand {S : Store} : oNe S (.str candT) (.str candT) = some (.bl false) := ne_self rfl (by simp [view, eqD])
def cordE : ME := eSl (eLst (aCons (eC (.str [120])) (aCons (eC (.str [121])) (aCons (eC (.str [122])) (aCons (eC (.str [119])) (aNil)))))) none (some (eOp oAdd (eC (.int 3)) (eCB bInt (aCons (eOp oEq (eCall m_law_roll (aCons (eV 1) (aCons (eC (.int 9)) (aNil)))) (eC (.int 0))) (aNil)))))
def restL (four : Bool) : List D := if four then [.str [119]] else []
theorem cords_ok {sc : Ob} {R : Store} {a b c : Int} : ∃ (four : Bool) (a' b' c' : Int), ∀ e : Env, e[1]? = some (some (.obj 1)) → cordE e (sc :: tri a b c :: R) = .ok (.lst (.str [120] :: .str [121] :: .str [122] :: restL four)) (sc :: tri a' b' c' :: R) := by
  obtain ⟨k, a1, b1, c1, r1, k0, k9⟩ := e_roll (sc := sc) (R := R) (a := a) (b := b) (c := c) (many := 9) (i := 1) (by decide) (by decide)
  refine ⟨k == 0, a1, b1, c1, fun e he => ?_⟩
  have go : ∀ q : Bool, (k == 0) = q → cordE e (sc :: tri a b c :: R) = .ok (.lst (.str [120] :: .str [121] :: .str [122] :: restL q)) (sc :: tri a1 b1 c1 :: R) := by
    intro q hq
    have en : eOp oEq (eCall m_law_roll (aCons (eV 1) (aCons (eC (.int 9)) (aNil)))) (eC (.int 0)) e (sc :: tri a b c :: R) = .ok (.bl q) (sc :: tri a1 b1 c1 :: R) := eOp_eq (r1 e he) eC_eq (by rw [eqV_ii, hq])
    have z : slD (sc :: tri a1 b1 c1 :: R) (.lst [.str [120], .str [121], .str [122], .str [119]]) none (some (3 + (if q = true then 1 else 0))) = some (.lst (.str [120] :: .str [121] :: .str [122] :: restL q)) := by cases q <;> rfl
    exact sl_eq (eLst_eq (aCons_eq eC_eq (aCons_eq eC_eq (aCons_eq eC_eq (aCons_eq eC_eq aNil_eq)))) (by simp)) pO_n (pO_s (eOp_eq eC_eq (eCB_eq (aCons_eq en aNil_eq) rfl) ii_add)) z
  exact go _ rfl
theorem round_ok {sc : Ob} {a b c : Int} : ∃ E' S', b_law_l1 [some (.obj 0), some (.obj 1), none, none, none, none, none, none, none, none, none, none, none, none, none, none, none] [sc, tri a b c] = .ok (.nx E') S' := by
  obtain ⟨h, a1, b1, c1, r1, h0, h1⟩ := e_roll (sc := sc) (R := []) (a := a) (b := b) (c := c) (many := 20) (i := 1) (by decide) (by decide)
  obtain ⟨en, a2, b2, c2, r2, n0, n1⟩ := e_roll (sc := sc) (R := []) (a := a1) (b := b1) (c := c1) (many := 12) (i := 1) (by decide) (by decide)
  have wi := wk_init (S := [sc, tri a2 b2 c2, .ins 0 []]) (r := 2) (long := 1 + h + (1 + en)) (high := 1 + h) rfl (by omega) (by omega)
  rw [show 1 + h + (1 + en) - (1 + h) = 1 + en by omega] at wi
  obtain ⟨n, a3, b3, c3, r3, m0, m1⟩ := e_roll (sc := sc) (R := [wk (1 + h) (1 + en) 0]) (a := a2) (b := b2) (c := c2) (many := 10) (i := 1) (by decide) (by decide)
  obtain ⟨E1, S1, q, ok⟩ := law_steps (sc := sc) n.toNat 0 (E := ev17 (1 + h) (1 + en) 0 none none none none none none none none none none none) (S := [sc, tri a3 b3 c3, wk (1 + h) (1 + en) 0]) ⟨a3, b3, c3, 1 + h, 1 + en, 0, none, none, none, none, none, none, none, none, none, none, none, rfl, rfl, by omega, by omega, by omega⟩
  obtain ⟨a, b, c, hh, ee, ss, s4, s5, s6, s9, s10, s11, s12, s13, s14, s15, s16, rfl, rfl, g1, g2, g3⟩ := ok
  obtain ⟨four, a4, b4, c4, cords⟩ := cords_ok (sc := sc) (R := [wk hh ee ss]) (a := a) (b := b) (c := c)
  obtain ⟨t, a5, b5, c5, r5, t0, t1⟩ := e_roll (sc := sc) (R := [wk hh ee ss]) (a := a4) (b := b4) (c := c4) (many := 12) (i := 1) (by decide) (by decide)
  have hrest : (restL four).length ≤ 1 := by cases four <;> decide
  obtain ⟨k6, k11, q2⟩ := law_plaits (S := [sc, tri a5 b5 c5, wk hh ee ss]) (x0 := some (.obj 0)) (x1 := some (.obj 1)) (x2 := some (.int hh)) (x3 := some (.obj 2)) (x4 := s4) (x7 := some (.int ee)) (x8 := some (.int ss)) (x9 := some (.lst (.str [120] :: .str [121] :: .str [122] :: restL four))) (x10 := some (.int t)) (x12 := s12) (x13 := s13) (x14 := s14) (x15 := s15) (x16 := s16) (rest := restL four) hrest t.toNat 0 (x := .str [120]) (y := .str [121]) (z := .str [122]) (x6 := s6) (x11 := s11)
  obtain ⟨Sf, rest1⟩ := rest1_ok (sc := sc) (R := [wk hh ee ss]) (a := a5) (b := b5) (c := c5)
  have check : sIf (tB (eOp oNe (eTold subX toldX (eCB bList (aCons (eCall m_plaited (aCons (eV 9) (aCons (eV 10) (aNil)))) (aNil)))) (eIf (tB (eOp oEq (eCB bLen (aCons (eV 9) (aNil))) (eC (.int 3)))) (eV 5) (eC (.str [99, 97, 110, 100, 108, 101]))))) (sRet (eC (.bl false))) (sNil)
      [some (.obj 0), some (.obj 1), some (.int hh), some (.obj 2), s4, some (.lst ((plaitN t.toNat 0 (.str [120]) (.str [121]) (.str [122])).1 :: (plaitN t.toNat 0 (.str [120]) (.str [121]) (.str [122])).2.1 :: (plaitN t.toNat 0 (.str [120]) (.str [121]) (.str [122])).2.2 :: restL four)), k6, some (.int ee), some (.int ss), some (.lst (.str [120] :: .str [121] :: .str [122] :: restL four)), some (.int t), k11, s12, s13, s14, s15, s16] [sc, tri a5 b5 c5, wk hh ee ss] =
      .ok (.nx [some (.obj 0), some (.obj 1), some (.int hh), some (.obj 2), s4, some (.lst ((plaitN t.toNat 0 (.str [120]) (.str [121]) (.str [122])).1 :: (plaitN t.toNat 0 (.str [120]) (.str [121]) (.str [122])).2.1 :: (plaitN t.toNat 0 (.str [120]) (.str [121]) (.str [122])).2.2 :: restL four)), k6, some (.int ee), some (.int ss), some (.lst (.str [120] :: .str [121] :: .str [122] :: restL four)), some (.int t), k11, s12, s13, s14, s15, s16]) [sc, tri a5 b5 c5, wk hh ee ss] := by
    obtain ⟨p1, p2, p3⟩ := plaitN_str t.toNat 0 (x := .str [120]) (y := .str [121]) (z := .str [122]) ⟨_, rfl, by decide⟩ ⟨_, rfl, by decide⟩ ⟨_, rfl, by decide⟩
    generalize hx : (plaitN t.toNat 0 (.str [120]) (.str [121]) (.str [122])).1 = X at p1
    generalize hy : (plaitN t.toNat 0 (.str [120]) (.str [121]) (.str [122])).2.1 = Y at p2
    generalize hz : (plaitN t.toNat 0 (.str [120]) (.str [121]) (.str [122])).2.2 = Z at p3
    cases four with
    | true =>
      exact if_f (S1 := [sc, tri a5 b5 c5, wk hh ee ss]) (tB_eq (b := false) (eOp_eq (x := .str candT) (y := .str candT) (told_exc (y := (1, candT)) (eCB_exc (aCons_exc (eCall_eq (aCons_eq (eV_at rfl) (aCons_eq (eV_at rfl) aNil_eq)) plaited_four))) rfl) (eIf_f (S1 := [sc, tri a5 b5 c5, wk hh ee ss]) (tB_eq (b := false) (eOp_eq (x := .int 4) (eCB_eq (aCons_eq (eV_at rfl) aNil_eq) rfl) eC_eq (by rw [eqV_ii]; rfl))) eC_eq) ne_cand)) nil_eq
    | false =>
      have pl := plaited_ok (S := [sc, tri a5 b5 c5, wk hh ee ss]) (x := .str [120]) (y := .str [121]) (z := .str [122]) (n := t) t0 (by omega)
      rw [hx, hy, hz] at pl
      exact if_f (S1 := [sc, tri a5 b5 c5, wk hh ee ss]) (tB_eq (b := false) (eOp_eq (x := .lst [X, Y, Z]) (y := .lst [X, Y, Z]) (told_ok (eCB_eq (aCons_eq (eCall_eq (aCons_eq (eV_at rfl) (aCons_eq (eV_at rfl) aNil_eq)) pl) aNil_eq) rfl)) (eIf_t (S1 := [sc, tri a5 b5 c5, wk hh ee ss]) (tB_eq (b := true) (eOp_eq (x := .int 3) (eCB_eq (aCons_eq (eV_at rfl) aNil_eq) rfl) eC_eq (by rw [eqV_ii]; rfl))) (eV_at rfl)) (ne_strs p1 p2 p3))) nil_eq
  refine ⟨_, _, seq_nx (set_eq (d := .int (1 + h)) (eOp_eq eC_eq (r1 _ rfl) ii_add)) (seq_nx (par_eq (v := .int (1 + en)) (w := .int 0) (aCons_eq (eOp_eq eC_eq (r2 _ rfl) ii_add) (aCons_eq eC_eq aNil_eq)))
    (seq_nx (set_eq (d := .obj 2) (make_eq (S1 := [sc, tri a2 b2 c2]) (aCons_eq (eOp_eq (z := .int (1 + h + (1 + en))) (eV_at rfl) (eV_at rfl) ii_add) (aCons_eq (eV_at rfl) aNil_eq)) wi))
    (seq_nx (for_eq (range1_eq (aCons_eq (r3 _ rfl) aNil_eq) ⟨by omega, by omega⟩) q)
    (seq_nx (asg_eq (d := .tup [.lst (.str [120] :: .str [121] :: .str [122] :: restL four), .int t]) (eTup_eq (aCons_eq (cords _ rfl) (aCons_eq (r5 _ rfl) aNil_eq)) (by simp)) rfl)
    (seq_nx (set_eq (d := .lst (.str [120] :: .str [121] :: .str [122] :: restL four)) (eCB_eq (aCons_eq (eV_at rfl) aNil_eq) rfl))
    (seq_nx (for_eq (range1_eq (aCons_eq (eV_at rfl) aNil_eq) ⟨by omega, by omega⟩) q2)
    (seq_nx check (if_f (S1 := Sf) (tNot_eq (b := true) (tB_eq (eCall_eq (aCons_eq (eV_at rfl) aNil_eq) rest1))) nil_eq))))))))⟩
theorem dice_ok {sc : Ob} {z : Int} : ∃ a b c, m_law_dice [.int z] [sc] = .ok (.obj 1) [sc, tri a b c] := by
  have ch : ∀ {e : Env}, e[0]? = some (some (.int z)) → eChain oLt oLt (eOp oSub (eC (.int 0)) (eC (.int 10))) (eV 0) (eC (.int 10)) e [sc] = .ok (.bl (decide (0 - 10 < z) && decide (z < 10))) [sc] := fun {e} he => by
    unfold eChain
    simp only [eOp_eq (e := e) (S := [sc]) (eC_eq (d := .int 0)) (eC_eq (d := .int 10)) ii_sub, eV_at he, eC_eq, bind_ok, ii_lt]
    by_cases hn : (0 : Int) - 10 < z
    · rw [show decide ((0 : Int) - 10 < z) = true by simp only [hn]; rfl]; rfl
    · rw [show decide ((0 : Int) - 10 < z) = false by simp only [hn]; rfl]; rfl
  cases hq : (decide ((0 : Int) - 10 < z) && decide (z < 10)) with
  | true =>
    refine ⟨if z < 0 then -z else z, 0, 2, fn_rt rfl (seq_rt (if_t (S1 := [sc]) (tB_eq (b := true) ?_) (ret_eq (new_eq (aCons_eq (eCB_eq (aCons_eq (eV_at rfl) aNil_eq) rfl) (aCons_eq eC_eq (aCons_eq eC_eq aNil_eq))) (by simp)))))⟩
    rw [ch rfl, hq]
  | false =>
    refine ⟨z, 1 + z.fmod 1009, _, fn_rt rfl (seq_nx (if_f (S1 := [sc]) (tB_eq (b := false) ?_) nil_eq) (ret_eq (new_eq (aCons_eq (eV_at rfl) (aCons_eq (eOp_eq eC_eq (eOp_eq (eCB_eq (aCons_eq (eV_at rfl) aNil_eq) rfl) eC_eq (ii_mod (by decide))) ii_add) (aCons_eq (eCB_eq (aCons_eq (eOp_eq (y := .int 1000000000000000000) (eV_at rfl) (eOp_eq eC_eq eC_eq rfl) ii_ge) aNil_eq) rfl) aNil_eq))) (by simp))))⟩
    rw [ch rfl, hq]
theorem rounds_ok {xs : List Int} : ∃ a b c, m_law_rounds [.obj 0, .int 1] [.lck (.lck (.lst (xs.map .int)))] = .ok (.lst [.obj 1]) [.lck (.lck (.lst (xs.map .int))), tri a b c] := by
  cases xs with
  | nil =>
    obtain ⟨a, b, c, d⟩ := dice_ok (sc := .lck (.lck (.lst (([] : List Int).map .int)))) (z := 0)
    refine ⟨a, b, c, fn_rt rfl ?_⟩
    refine seq_nx (set_eq (d := .lst []) (sl_eq (eV_at rfl) pO_n (pO_s (eV_at rfl)) rfl)) ?_
    refine seq_nx (if_t (S1 := [.lck (.lck (.lst (([] : List Int).map .int)))]) (tB_eq (b := true) (eOp_eq (eV_at rfl) (eLst_eq aNil_eq (by simp)) (eq_nil (ns := [])))) (set_eq (d := .lst [.int 0]) (eLst_eq (aCons_eq eC_eq aNil_eq) (by simp)))) ?_
    exact ret_eq (lc_eq (seq_it (eV_at rfl)) (by simp) (lcL_yes gN_eq (eCall_eq (aCons_eq (eV_at rfl) aNil_eq) d)))
  | cons n r =>
    obtain ⟨a, b, c, d⟩ := dice_ok (sc := .lck (.lck (.lst ((n :: r).map .int)))) (z := n)
    refine ⟨a, b, c, fn_rt rfl ?_⟩
    have cut : slD [.lck (.lck (.lst ((n :: r).map .int)))] (.obj 0) none (some 1) = some (.lst [.int n]) := by
      show some (D.lst (cutL (D.int n :: r.map .int) none (some 1))) = _
      have : cutL (D.int n :: r.map .int) none (some 1) = [.int n] := by
        have e : min (1 : Int).toNat (D.int n :: r.map D.int).length = 1 := by
          show min 1 ((r.map D.int).length + 1) = 1
          omega
        show ((D.int n :: r.map D.int).drop 0).take ((if (1 : Int) < 0 then (1 + ((D.int n :: r.map D.int).length : Int)).toNat else min (1 : Int).toNat (D.int n :: r.map D.int).length) - 0) = _
        rw [if_neg (show ¬ (1 : Int) < 0 by decide), e]
        rfl
      rw [this]
    refine seq_nx (set_eq (d := .lst [.int n]) (sl_eq (eV_at rfl) pO_n (pO_s (eV_at rfl)) cut)) ?_
    refine seq_nx (if_f (S1 := [.lck (.lck (.lst ((n :: r).map .int)))]) (tB_eq (b := false) (eOp_eq (eV_at rfl) (eLst_eq aNil_eq (by simp)) (eq_nil (ns := [n])))) nil_eq) ?_
    exact ret_eq (lc_eq (seq_it (eV_at rfl)) (by simp) (lcL_yes gN_eq (eCall_eq (aCons_eq (eV_at rfl) aNil_eq) d)))
theorem plain (xs : List Int) : ∃ S, m_law [.obj 0] [.lck (.lck (.lst (xs.map .int)))] = .ok (.bl true) S := by
  obtain ⟨a, b, c, r⟩ := rounds_ok (xs := xs)
  obtain ⟨E, S, q⟩ := round_ok (sc := .lck (.lck (.lst (xs.map .int)))) (a := a) (b := b) (c := c)
  exact ⟨S, fn_rt rfl (seq_nx (for_eq (seq_it (eCall_eq (aCons_eq (eV_at rfl) (aCons_eq eC_eq aNil_eq)) r)) (forL_nx gN_eq q forL_nil)) (ret_eq eC_eq))⟩
end Sm.K15
end
theorem PySem.Challenge.cw_candlehall_k15_wicks_holds : PySem.Challenge.rw_candlehall_k15_wicks.Holds := by
  exact Sm.K15.holds fun ns _ _ => Sm.K15.plain ns
