import PyProof.Rows.All
import Wide.All
import OpenK.AllK
import Wide.FinOn
import HandS.ForMost
import HandS.Walk
import HandS.More
import HandS.TupAny
import HandS.Deep
import HandS.Flow
import HandS.SortInts
import HandS.IsInst
import HandS.Property
import HandS.ClsMeth
import HandS.Star
import HandS.CallRecv
import HandS.MakeKwOnly
import PyProof.ListStr
import HandS.WordsDict
import HandS.RaiseMore
import HandS.TupSets
import HandS.Zip
import KE.GoesZip
import KE.GoesEnum
import PyProof.EnumMake
import PyProof.EnumFor
import PyProof.ZipIter
import HandS.NoneIn
import HandS.SetBool
import OpenK.KOps
import HandS.HeadEnd
import HandS.Words
import HandS.HeadHook2
import HandS.Head2
import PySem.Challenge.RW_farblend_k13_edges_that_come_and_go
set_option Elab.async false
set_option linter.all false
/-! FbSem: a small language over plain data and its evaluator. -/
namespace FB

/-- plain data -/
inductive D where
  | non | bl (b : Bool) | int (i : Int) | str (x : List Nat)
  | tup (xs : List D) | lst (xs : List D) | dic (kvs : List (Sum Int (List Nat) × D))
  | ins (c : Nat) (fs : List (Nat × D)) | cls (c : Nat)
  /-- a list from outside -/
  | frl (xs : List D)
/-- data with owned parts that may change -/
inductive M where
  | pure (d : D) | lst (xs : List M) | ins (c : Nat) (fs : List (Nat × M))

mutual
def M.frz : M → D
  | .pure d => d
  | .lst xs => .lst (M.frzs xs)
  | .ins c fs => .ins c (M.frzf fs)
def M.frzs : List M → List D
  | [] => []
  | m :: ms => m.frz :: M.frzs ms
def M.frzf : List (Nat × M) → List (Nat × D)
  | [] => []
  | (n, m) :: ms => (n, m.frz) :: M.frzf ms
end

/-- one step of a path, written: a field, a written index, the index that a slot holds -/
inductive Pe where
  | fld (f : Nat) | ixc (i : Nat) | ixs (i : Nat)
deriving DecidableEq
inductive PeV where
  | fld (f : Nat) | ix (i : Nat)
deriving DecidableEq

inductive O2 where
  | add | sub | mul | fdiv | mod | pow
deriving DecidableEq
inductive C2 where
  | eq | ne | lt | le | gt | ge | isin | notin | isN | notN
deriving DecidableEq
inductive Bi where
  | len | min2 | max2 | min1 | max1 | sorted | list | tuple | sortedSet | lenSet | all | any | toInt | toStr | repr
  | dictPairs | dictZip
deriving DecidableEq
inductive Bm where
  | join | split | partition | index | get1 | get2
deriving DecidableEq
/-- targets: a slot, a tuple of slots -/
inductive Tg where
  | one (i : Nat) | tup (is : List Nat)
deriving DecidableEq

inductive Ex where
  | var (i : Nat) | mv (i : Nat) | bor (i : Nat) | pl (i : Nat) (ps : List Pe) | plv (i : Nat) (ps : List Pe)
  | int (n : Int) | str (x : List Nat) | bl (b : Bool) | non
  | glb (g : Nat) | cls (c : Nat)
  | op2 (mu : Bool) (o : O2) (a b : Ex) | neg (a : Ex)
  | not (a : Ex) | and (a b : Ex) | or (a b : Ex) | ite (c a b : Ex)
  | cmp (o : C2) (a b : Ex) | cmpd (o : C2) (a b : Ex) | chain (o o' : C2) (a b c : Ex)
  | bid (b : Bi) (a : Ex) | bi (mu : Bool) (b : Bi) (a : Ex) | bi2 (mu : Bool) (b : Bi) (a c : Ex) | bm (mu : Bool) (b : Bm) (r a : Ex) | bm2 (mu : Bool) (b : Bm) (r a c : Ex)
  | isi (c : Nat) (a : Ex) | isb (k : Nat) (a : Ex)
  | tup (es : Ex) | lst (mu : Bool) (es : Ex)
  | ix (a b : Ex) | sl (mu : Bool) (a lo hi : Ex) | rev (mu : Bool) (a : Ex)
  | fld (f : Nat) (e : Ex)
  | call (f : Nat) (args : Ex) | meth (m : Nat) (r : Ex) (args : Ex) | cmeth (c m : Nat) (args : Ex) | new (mu : Bool) (c : Nat) (args : Ex)
  | lc (mu : Bool) (it : Ex) (tg : Tg) (c e : Ex) | lc2 (mu : Bool) (it : Ex) (tg : Tg) (it2 : Ex) (tg2 : Tg) (c e : Ex)
  | dc (it : Ex) (tg : Tg) (c k e : Ex)
  | fstr (es : Ex)
  | pop (i : Nat) (ps : List Pe) | popAt (i : Nat) (ps : List Pe) (e : Ex)
  | nil | cons (e es : Ex)
  /-- calls by a pattern (keywords, defaults): of a def, of a method, of a class; a method with a star argument; a new instance of the class that a slot holds -/
  | callk (p : Nat) (args kws : Ex) | methk (m p : Nat) (r args kws : Ex) | newk (mu : Bool) (c p : Nat) (args kws : Ex) | meths (m : Nat) (r a : Ex) | newv (mu : Bool) (i : Nat) (args : Ex)
  /-- sorted of a set comprehension -/
  | sss (mu : Bool) (it : Ex) (tg : Tg) (e : Ex)
  /-- a value, a place: read only from now on -/
  | fz (a : Ex) | frp (i : Nat) (ps : List Pe)
  | rng1 (a : Ex) | rng2 (a b : Ex) | rng3 (a b c : Ex) | zip (a b : Ex) | enum (a : Ex)
deriving DecidableEq

inductive Sx where
  | skip | seq (a b : Sx)
  | set (i : Nat) (e : Ex) | setT (is : List Nat) (e : Ex) | aug (mu : Bool) (o : O2) (i : Nat) (e : Ex)
  | par (i j : Nat) (a b : Ex)
  | app (i : Nat) (ps : List Pe) (e : Ex) | setx (i : Nat) (ps : List Pe) (k e : Ex) | setf (i : Nat) (ps : List Pe) (f : Nat) (e : Ex) | clr (i : Nat) (ps : List Pe)
  | ex (e : Ex) | ret (e : Ex) | ret0
  | ite (c : Ex) (a b : Sx) | wh (c : Ex) (a : Sx) | for (it : Ex) (tg : Tg) (a : Sx)
  | raise (e : Ex) | cont | brk
deriving DecidableEq

abbrev En := List (Option M)
/-- an exception: its class, its fields -/
structure X1 where
  c : Nat
  fs : List (Nat × D)
inductive Rs (α : Type) where
  | ok (a : α) (env : En) | ex (x : X1) (env : En) | no
inductive Out where
  | nx (env : En) | rt (m : M) (env : En) | bk (env : En) | ct (env : En) | ex (x : X1) (env : En) | no
/-- a call's end: the value, what is handed back in the places of the arguments -/
inductive Cr where
  | ok (m : M) (ms : List (Option M)) | ex (x : X1) | no
inductive Ar where
  | val (m : M) | bor (i : Nat)

@[simp] def Rs.bind {α β : Type} : Rs α → (α → En → Rs β) → Rs β
  | .ok a env, f => f a env
  | .ex x env, _ => .ex x env
  | .no, _ => .no
/-- a step that may be stuck -/
@[simp] def Rs.lift {α : Type} (o : Option α) (env : En) : Rs α := match o with
  | some a => .ok a env
  | none => .no

/-- a call's pattern: the def; each parameter: the value of this place (as they are evaluated), or a default -/
structure Kp where
  fn : Nat
  bs : List (Sum Nat D)
/-- a default that is written into the promise -/
def defOk : D → Bool
  | .non => true | .bl _ => true | .int _ => true | .str _ => true
  | _ => false
def fillK (ds : List D) : List (Sum Nat D) → Option (List D)
  | [] => some []
  | .inl i :: r => ds[i]?.bind fun d => (fillK ds r).map (d :: ·)
  | .inr d :: r => if defOk d then (fillK ds r).map (d :: ·) else none
/-- what a program is to the evaluator -/
structure Rt where
  call : Nat → List M → Cr
  /-- every parameter filled -/
  raw : Nat → List M → Cr
  glob : Nat → Option D
  /-- class, name: the def of a method, of a property; a class's constant -/
  meth : Nat → Nat → Option Nat
  prop : Nat → Nat → Option Nat
  con : Nat → Nat → Option D
  init : Nat → Option Nat
  /-- the defs of __contains__, __len__, __eq__, __repr__ -/
  dun : Nat → Nat → Option Nat
  /-- is the first class (an instance's own) the second one or under it -/
  sub : Nat → Nat → Bool
  /-- a plain attribute of the class's instances -/
  attr : Nat → Nat → Bool
  kp : Nat → Option Kp

abbrev SL : Nat := 16777216

/-! ### data by their forms -/
def asSeq : D → Option (List D)
  | .tup xs => some xs
  | .lst xs => some xs
  | .str x => some (x.map fun c => .str [c])
  | .dic kvs => some (kvs.map fun p => match p.1 with | .inl i => .int i | .inr x => .str x)
  | _ => none
/-- what is walked -/
def asIt : D → Option (List D)
  | .tup xs => some xs
  | .lst xs => some xs
  | .str x => some (x.map fun c => .str [c])
  | _ => none
def keyOf : D → Option (Sum Int (List Nat))
  | .int i => some (.inl i)
  | .str x => some (.inr x)
  | _ => none
mutual
def eqD : D → D → Bool
  | .non, .non => true
  | .bl a, .bl b => a == b
  | .bl a, .int b => (if a then 1 else 0) == b
  | .int a, .bl b => a == (if b then 1 else 0)
  | .int a, .int b => a == b
  | .str a, .str b => a == b
  | .tup a, .tup b => eqDs a b
  | .lst a, .lst b => eqDs a b
  | _, _ => false
def eqDs : List D → List D → Bool
  | [], [] => true
  | a :: as, b :: bs => eqD a b && eqDs as bs
  | _, _ => false
end
/-- none, a bool, an int, a text -/
def atomD : D → Bool
  | .non => true | .bl _ => true | .int _ => true | .str _ => true
  | _ => false
/-- two of these that are compared without more -/
def scalD : D → D → Bool
  | .non, .non => true | .non, .int _ => true | .int _, .non => true | .non, .bl _ => true | .bl _, .non => true | .non, .str _ => true | .str _, .non => true
  | .int _, .int _ => true | .bl _, .bl _ => true | .str _, .str _ => true
  | .int _, .str _ => true | .str _, .int _ => true | .bl _, .str _ => true | .str _, .bl _ => true
  | _, _ => false
/-- no dict, no instance, no class within, to a depth -/
def flatN : Nat → D → Bool
  | _, .non => true | _, .bl _ => true | _, .int _ => true | _, .str x => x.all fun c => decide (c < 1114112)
  | n + 1, .tup a => a.all (flatN n) | n + 1, .lst a => a.all (flatN n)
  | _, _ => false
def flatD (d : D) : Bool := flatN 60 d
def lexLt (a b : List Nat) : Bool := decide (a < b)

def truth : D → Option Bool
  | .non => some false
  | .bl b => some b
  | .int i => some (i != 0)
  | .str x => if x.length ≤ SL then some (x.length != 0) else none
  | .tup xs => some (!xs.isEmpty)
  | .lst xs => some (!xs.isEmpty)
  | _ => none
def mkL (mu : Bool) (xs : List D) : M := if mu then .lst (xs.map .pure) else .pure (.lst xs)

def big (i : Int) : Bool := decide (i.natAbs < 2 ^ 1200000)
def sem2 (mu : Bool) : O2 → D → D → Option M
  | .add, .int a, .int b => some (.pure (.int (a + b)))
  | .add, .str a, .str b => if a.length + b.length ≤ SL then some (.pure (.str (a ++ b))) else none
  | .add, .lst a, .lst b => if a.length + b.length ≤ SL then some (mkL mu (a ++ b)) else none
  | .add, .tup a, .tup b => if a.length + b.length ≤ SL then some (.pure (.tup (a ++ b))) else none
  | .sub, .int a, .int b => some (.pure (.int (a - b)))
  | .mul, .int a, .int b => if a.natAbs < 2 ^ 64 ∨ b.natAbs < 2 ^ 64 then some (.pure (.int (a * b))) else none
  | .mul, .str a, .int b => if b < 2 ^ 30 ∧ -(2 ^ 30) < b ∧ a.length * b.toNat ≤ SL then some (.pure (.str (List.replicate b.toNat a).flatten)) else none
  | .mul, .lst a, .int b => if b < 2 ^ 30 ∧ -(2 ^ 30) < b ∧ a.length * b.toNat ≤ SL then some (mkL mu (List.replicate b.toNat a).flatten) else none
  | .fdiv, .int a, .int b => if 0 < b ∧ b < 2 ^ 30 then some (.pure (.int (a / b))) else none
  | .mod, .int a, .int b => if 0 < b then some (.pure (.int (a % b))) else none
  | .pow, .int a, .int b => if 0 ≤ b ∧ b ≤ 1000 ∧ a.natAbs < 2 ^ 64 then some (.pure (.int (a ^ b.toNat))) else none
  | _, _, _ => none
/-- an augmented operator -/
def semA : O2 → D → D → Option D
  | .add, .int a, .int b => some (.int (a + b))
  | .sub, .int a, .int b => some (.int (a - b))
  | _, _, _ => none
def isNonD : D → Bool
  | .non => true
  | _ => false
def lookD (k : Sum Int (List Nat)) : List (Sum Int (List Nat) × D) → Option D
  | [] => none
  | (j, d) :: r => if j = k then some d else lookD k r
/-- comparisons of data (instances: elsewhere) -/
def semC : C2 → D → D → Option Bool
  | .eq, a, b => if scalD a b || (flatD a && flatD b) then some (eqD a b) else none
  | .ne, a, b => if scalD a b || (flatD a && flatD b) then some (!eqD a b) else none
  | .lt, .int a, .int b => some (decide (a < b))
  | .le, .int a, .int b => some (decide (a ≤ b))
  | .gt, .int a, .int b => some (decide (b < a))
  | .ge, .int a, .int b => some (decide (b ≤ a))
  | .lt, .str a, .str b => some (lexLt a b)
  | .le, .str a, .str b => some (!lexLt b a)
  | .gt, .str a, .str b => some (lexLt b a)
  | .ge, .str a, .str b => some (!lexLt a b)
  | .isin, .str [c], .str b => some (decide (c ∈ b))
  | .notin, .str [c], .str b => some (!decide (c ∈ b))
  | .isin, a, .lst b => if (atomD a && b.all atomD) || (flatD a && flatD (.lst b)) then some (b.any fun x => eqD x a) else none
  | .isin, a, .tup b => if atomD a && b.all atomD then some (b.any fun x => eqD x a) else none
  | .notin, a, .lst b => if (atomD a && b.all atomD) || (flatD a && flatD (.lst b)) then some (!b.any fun x => eqD x a) else none
  | .notin, a, .tup b => if atomD a && b.all atomD then some (!b.any fun x => eqD x a) else none
  | .isin, a, .dic b => (keyOf a).map fun k => (lookD k b).isSome
  | .notin, a, .dic b => (keyOf a).map fun k => !(lookD k b).isSome
  | .isN, a, .non => some (isNonD a)
  | .notN, a, .non => some (!isNonD a)
  | _, _, _ => none
/-- an index from the left or the right -/
def ixNat (n : Nat) (i : Int) : Option Nat := if 0 ≤ i then (if i < n then some i.toNat else none) else if -(n : Int) ≤ i then some (i + n).toNat else none
def semIx : D → D → Option D
  | .lst xs, .int i => (ixNat xs.length i).bind fun j => xs[j]?
  | .tup xs, .int i => (ixNat xs.length i).bind fun j => xs[j]?
  | .str x, .int i => if x.length ≤ SL then (ixNat x.length i).bind fun j => x[j]?.map fun c => .str [c] else none
  | .dic kvs, k => (keyOf k).bind fun k => lookD k kvs
  | _, _ => none
/-- the ends of a slice -/
def cutLo (n : Nat) : Option Int → Nat
  | none => 0
  | some i => if i < 0 then (i + n).toNat else min i.toNat n
def cutHi (n : Nat) : Option Int → Nat
  | none => n
  | some i => if i < 0 then (i + n).toNat else min i.toNat n
def cutL {α : Type} (xs : List α) (lo hi : Option Int) : List α := (xs.drop (cutLo xs.length lo)).take (cutHi xs.length hi - cutLo xs.length lo)
def semSl (mu : Bool) (a : D) (l h : Option Int) : Option M := match a with
  | .lst xs => some (mkL mu (cutL xs l h))
  | .frl xs => some (mkL mu (cutL xs l h))
  | .tup xs => some (.pure (.tup (cutL xs l h)))
  | .str x => if x.length ≤ SL then some (.pure (.str (cutL x l h))) else none
  | _ => none
def semRev (mu : Bool) : D → Option M
  | .lst xs => some (mkL mu xs.reverse)
  | .str x => some (.pure (.str x.reverse))
  | .tup xs => some (.pure (.tup xs.reverse))
  | _ => none

def allPure : List M → Option (List D)
  | [] => some []
  | .pure d :: r => (allPure r).map (d :: ·)
  | _ => none
/-- what a tree is to a reader -/
def viewD : M → Option D
  | .pure d => some d
  | .lst ms => (allPure ms).map .lst
  | _ => none
/-! ### places -/
def ixM (ms : List M) (i : Nat) : Option M := ms[i]?
def getP : List PeV → M → Option M
  | [], m => some m
  | .fld f :: ps, .ins _ fs => (fs.lookup f).bind (getP ps)
  | .fld f :: ps, .pure (.ins _ fs) => (fs.lookup f).bind fun d => getP ps (.pure d)
  | .ix i :: ps, .lst ms => ms[i]?.bind (getP ps)
  | .ix i :: ps, .pure (.lst ds) => ds[i]?.bind fun d => getP ps (.pure d)
  | .ix i :: ps, .pure (.tup ds) => ds[i]?.bind fun d => getP ps (.pure d)
  | _, _ => none
def setF {α : Type} (f : Nat) (v : α) : List (Nat × α) → List (Nat × α)
  | [] => [(f, v)]
  | (g, w) :: r => if g = f then (f, v) :: r else (g, w) :: setF f v r
/-- the tree with its part at a path made anew -/
def modP (h : M → Option M) : List PeV → M → Option M
  | [], m => h m
  | .fld f :: ps, .ins c fs => (fs.lookup f).bind fun m => (modP h ps m).map fun m' => .ins c (setF f m' fs)
  | .ix i :: ps, .lst ms => ms[i]?.bind fun m => (modP h ps m).map fun m' => .lst (ms.set i m')
  | _, _ => none
def slot (env : En) (i : Nat) : Option M := (env[i]?).join
/-- the written path's values -/
def pathV (env : En) : List Pe → Option (List PeV)
  | [] => some []
  | .fld f :: ps => (pathV env ps).map (.fld f :: ·)
  | .ixc i :: ps => (pathV env ps).map (.ix i :: ·)
  | .ixs i :: ps => match slot env i with
    | some (.pure (.int n)) => if 0 ≤ n then (pathV env ps).map (.ix n.toNat :: ·) else none
    | _ => none
def getPl (env : En) (i : Nat) (ps : List Pe) : Option M := (slot env i).bind fun m => (pathV env ps).bind fun q => getP q m
def modPl (env : En) (i : Nat) (ps : List Pe) (h : M → Option M) : Option En :=
  (slot env i).bind fun m => (pathV env ps).bind fun q => (modP h q m).map fun m' => env.set i (some m')
def asPure : M → Option D
  | .pure d => some d
  | _ => none

/-! ### built-ins -/
def allInts : List D → Option (List Int)
  | [] => some []
  | .int i :: r => (allInts r).map (i :: ·)
  | _ => none
def allStrs : List D → Option (List (List Nat))
  | [] => some []
  | .str x :: r => (allStrs r).map (x :: ·)
  | _ => none
def allBools : List D → Option (List Bool)
  | [] => some []
  | .bl b :: r => (allBools r).map (b :: ·)
  | _ => none
def insI (x : Int) : List Int → List Int
  | [] => [x]
  | y :: r => if x < y then x :: y :: r else y :: insI x r
def sortI : List Int → List Int
  | [] => []
  | x :: r => insI x (sortI r)
def lexLe (a b : List Nat) : Bool := !lexLt b a
def insS (x : List Nat) : List (List Nat) → List (List Nat)
  | [] => [x]
  | y :: r => if lexLe x y then x :: y :: r else y :: insS x r
def sortS : List (List Nat) → List (List Nat)
  | [] => []
  | x :: r => insS x (sortS r)
/-- tuples of ints -/
def allTups : List D → Option (List (List Int))
  | [] => some []
  | .tup x :: r => (allInts x).bind fun x => (allTups r).map (x :: ·)
  | _ => none
def ltIs : List Int → List Int → Bool
  | [], [] => false
  | [], _ :: _ => true
  | _ :: _, [] => false
  | a :: r, b :: q => decide (a < b) || (decide (a = b) && ltIs r q)
def insT (x : List Int) : List (List Int) → List (List Int)
  | [] => [x]
  | y :: r => if ltIs y x then y :: insT x r else x :: y :: r
def sortT : List (List Int) → List (List Int)
  | [] => []
  | x :: r => insT x (sortT r)
def dedupT : List (List Int) → List (List Int)
  | [] => []
  | x :: r => if r.contains x then dedupT r else x :: dedupT r
/-- one length for all, small ints -/
def tupsOk (l : List (List Int)) : Bool := decide (l.length < 64) && match l with
  | [] => true
  | x :: _ => decide (1 ≤ x.length) && l.all fun y => decide (y.length = x.length) && y.all fun i => decide (0 ≤ i ∧ i < 1000000)
def tupD (l : List (List Int)) : List D := l.map fun x => .tup (x.map .int)
def minI : List Int → Option Int
  | [] => none
  | x :: r => some (r.foldl (fun a b => if b < a then b else a) x)
def maxI : List Int → Option Int
  | [] => none
  | x :: r => some (r.foldl (fun a b => if a < b then b else a) x)
def dedupI : List Int → List Int
  | [] => []
  | x :: r => if r.contains x then dedupI r else x :: dedupI r
def joinS (sep : List Nat) : List (List Nat) → List Nat
  | [] => []
  | [x] => x
  | x :: y :: r => x ++ sep ++ joinS sep (y :: r)
def intDec (i : Int) : List Nat := (toString i).toList.map Char.toNat
def dicPut (k : Sum Int (List Nat)) (v : D) : List (Sum Int (List Nat) × D) → List (Sum Int (List Nat) × D)
  | [] => [(k, v)]
  | (j, w) :: r => if j = k then (j, v) :: r else (j, w) :: dicPut k v r
def dicAll : List D → List (Sum Int (List Nat) × D) → Option (List (Sum Int (List Nat) × D))
  | [], acc => some acc
  | .tup [k, v] :: r, acc => (keyOf k).bind fun k => dicAll r (dicPut k v acc)
  | _, _ => none
def dicOf (ds : List D) : Option (List (Sum Int (List Nat) × D)) := dicAll ds []
def semBi (mu : Bool) : Bi → List D → Option M
  | .len, [.str x] => if x.length ≤ SL then some (.pure (.int x.length)) else none
  | .len, [.lst x] => some (.pure (.int x.length))
  | .len, [.tup x] => some (.pure (.int x.length))
  | .len, [.dic x] => some (.pure (.int x.length))
  | .min2, [.int a, .int b] => some (.pure (.int (if b < a then b else a)))
  | .max2, [.int a, .int b] => some (.pure (.int (if a < b then b else a)))
  | .min2, [.str a, .str b] => some (.pure (.str (if lexLt b a then b else a)))
  | .max2, [.str a, .str b] => some (.pure (.str (if lexLt a b then b else a)))
  | .list, [d] => match d with
    | .lst xs => some (mkL mu xs)
    | .tup xs => some (mkL mu xs)
    | .str x => if x.length ≤ SL then some (mkL mu (x.map fun c => .str [c])) else none
    | _ => none
  | .tuple, [d] => match d with
    | .lst xs => some (.pure (.tup xs))
    | .tup xs => some (.pure (.tup xs))
    | _ => none
  | .all, [.lst xs] => (allBools xs).map fun bs => .pure (.bl (bs.all id))
  | .any, [.lst xs] => (allBools xs).map fun bs => .pure (.bl (bs.any id))
  | .toInt, [.int i] => some (.pure (.int i))
  | .toInt, [.bl b] => some (.pure (.int (if b then 1 else 0)))
  | .toStr, [.str x] => some (.pure (.str x))
  | .repr, [.int i] => if i.natAbs < 2 ^ 1000 then some (.pure (.str (intDec i))) else none
  | .toStr, [.int i] => if i.natAbs < 2 ^ 1000 then some (.pure (.str (intDec i))) else none
  | .sorted, [.lst xs] => match allInts xs, allStrs xs with
    | some ns, _ => some (mkL mu ((sortI ns).map .int))
    | none, some ss => if ss.length < 64 then some (mkL mu ((sortS ss).map .str)) else none
    | none, none => match allTups xs with
      | some ts => if tupsOk ts then some (mkL mu (tupD (sortT ts))) else none
      | none => none
  | .min1, [.tup xs] => (allInts xs).bind fun is => (minI is).map fun i => .pure (.int i)
  | .min1, [.lst xs] => (allInts xs).bind fun is => (minI is).map fun i => .pure (.int i)
  | .max1, [.tup xs] => (allInts xs).bind fun is => (maxI is).map fun i => .pure (.int i)
  | .max1, [.lst xs] => (allInts xs).bind fun is => (maxI is).map fun i => .pure (.int i)
  | .dictPairs, [.lst xs] => (dicOf xs).map fun d => .pure (.dic d)
  | .dictPairs, [.dic kvs] => some (.pure (.dic kvs))
  | .dictZip, [a, b] => (asIt a).bind fun xs => (asIt b).bind fun ys => (dicOf ((xs.zip ys).map fun p => .tup [p.1, p.2])).map fun d => .pure (.dic d)
  | _, _ => none
def semBm (mu : Bool) : Bm → D → List D → Option M
  | .join, .str sep, [.lst xs] => (allStrs xs).bind fun ss => if (ss.map List.length).sum + ss.length * sep.length ≤ SL then some (.pure (.str (joinS sep ss))) else none
  | _, _, _ => none

/-! ### the evaluator -/
def wipeE (env : En) : List Nat → En
  | [] => env
  | i :: is => (wipeE env is).set i none
/-- what stood in the slots of a comprehension's own names comes back -/
def backE (old : En) : List Nat → En → Option En
  | [], env => some env
  | i :: is, env => match slot old i with
    | none => backE old is (env.set i none)
    | some (.pure d) => backE old is (env.set i (some (.pure d)))
    | _ => none
/-- what was lent to a loop comes back -/
def giveL : List (Nat × M) → En → Option En
  | [], env => some env
  | (i, m) :: r, env => (giveL r env).bind fun e => match slot e i with
    | none => if i < e.length then some (e.set i (some m)) else none
    | some _ => none
def setAll : List Nat → List D → En → Option En
  | [], [], env => some env
  | i :: is, d :: ds, env => setAll is ds (env.set i (some (.pure d)))
  | _, _, _ => none
def Tg.slots : Tg → List Nat
  | .one i => [i]
  | .tup is => is
def bindTg : Tg → D → En → Option En
  | .one i, d, env => some (env.set i (some (.pure d)))
  | .tup is, .tup ds, env => setAll is ds env
  | .tup is, .lst ds, env => setAll is ds env
  | _, _, _ => none
def takeA : List Ar → En → Option (List M × En)
  | [], env => some ([], env)
  | .val m :: r, env => (takeA r env).map fun p => (m :: p.1, p.2)
  | .bor i :: r, env => (slot env i).bind fun m => (takeA r (env.set i none)).map fun p => (m :: p.1, p.2)
def giveA : List Ar → List (Option M) → En → En
  | .val _ :: r, _ :: ms, env => giveA r ms env
  | .bor i :: r, m :: ms, env => giveA r ms (env.set i m)
  | _, _, env => env
def clsOf : M → Option Nat
  | .pure (.ins c _) => some c
  | .ins c _ => some c
  | _ => none
/-- the first argument's tree -/
def headM : List Ar → En → Option M
  | [.val m], _ => some m
  | [.bor i], env => slot env i
  | _, _ => none
/-- no attribute of the instance has the name -/
def lacks (m : Nat) : M → Bool
  | .pure (.ins _ fs) => (fs.lookup m).isNone
  | .ins _ fs => (fs.lookup m).isNone
  | _ => false
def callA (call : List M → Cr) (as : List Ar) (env : En) : Rs M := match takeA as env with
  | some (ms, env1) => match call ms with
    | .ok m ms' => .ok m (giveA as ms' env1)
    | .ex x => .ex x env1
    | .no => .no
  | none => .no
/-- a call that hands its value alone -/
def callV (call : List M → Cr) (ds : List D) (env : En) : Rs M := match call (ds.map .pure) with
  | .ok m _ => .ok m env
  | .ex x => .ex x env
  | .no => .no
def lcLoop (f : D → En → Rs (Option M)) : List D → En → Rs (List M)
  | [], env => .ok [] env
  | d :: ds, env => (f d env).bind fun o env1 => (lcLoop f ds env1).bind fun ms env2 => match o with
    | some m => .ok (m :: ms) env2
    | none => .ok ms env2
/-- a turn of a comprehension: the item bound, the test, the element -/
def turnR (tg : Tg) (t : En → Rs Bool) (e : En → Rs M) (d : D) (env : En) : Rs (Option M) := match bindTg tg d (wipeE env tg.slots) with
  | some env => (t env).bind fun b env => if b then (e env).bind fun m env => .ok (some m) env else .ok none env
  | none => .no
def catRs (f : D → En → Rs (List M)) : List D → En → Rs (List M)
  | [], env => .ok [] env
  | d :: ds, env => (f d env).bind fun o env1 => (catRs f ds env1).bind fun ms env2 => .ok (o ++ ms) env2
def rngD (lo : Int) (n : Nat) : List D := (List.range n).map fun (k : Nat) => .int (lo + k)
def valsOf : List Ar → Option (List D)
  | [] => some []
  | .val m :: r => (valsOf r).map (m.frz :: ·)
  | .bor _ :: _ => none
def boolR : Rs M → Rs Bool
  | .ok (.pure (.bl b)) env => .ok b env
  | .ok _ _ => .no
  | .ex x env => .ex x env
  | .no => .no
/-- comparisons that a def of the text does -/
def cmpR (R : Rt) (o : C2) (a b : D) (env : En) : Rs M := match o, a, b with
  | .isin, a, .ins c fs => match R.dun c 0 with
    | some f => callV (R.call f) [.ins c fs, a] env
    | none => .no
  | .notin, a, .ins c fs => match R.dun c 0 with
    | some f => (boolR (callV (R.call f) [.ins c fs, a] env)).bind fun b env => .ok (.pure (.bl (!b))) env
    | none => .no
  | .eq, .ins c fs, .ins c' gs => match R.dun c 2 with
    | some f => if c = c' then (boolR (callV (R.call f) [.ins c fs, .ins c' gs] env)).bind fun b env => .ok (.pure (.bl b)) env else .no
    | none => .no
  | .ne, .ins c fs, .ins c' gs => match R.dun c 2 with
    | some f => if c = c' then (boolR (callV (R.call f) [.ins c fs, .ins c' gs] env)).bind fun b env => .ok (.pure (.bl (!b))) env else .no
    | none => .no
  | _, _, _ => .no
def fldR (R : Rt) (f : Nat) (d : D) (env : En) : Rs M := match d with
  | .ins c fs => match fs.lookup f with
    | some d => .ok (.pure d) env
    | none => match R.prop c f with
      | some g => callV (R.call g) [.ins c fs] env
      | none => match R.con c f with
        | some d => .ok (.pure d) env
        | none => .no
  | .cls c => match R.con c f with
    | some d => .ok (.pure d) env
    | none => .no
  | _ => .no
/-- len, repr by a def of the text -/
def bidR (R : Rt) (b : Bi) (d : D) (env : En) : Rs M := match b, d with
  | .len, .ins c fs => match R.dun c 1 with
    | some f => (callV (R.call f) [.ins c fs] env).bind fun m env => match m with
      | .pure (.int n) => if 0 ≤ n ∧ n < 2 ^ 60 then .ok (.pure (.int n)) env else .no
      | _ => .no
    | none => .no
  | .repr, .ins c fs => match R.dun c 3 with
    | some f => (callV (R.call f) [.ins c fs] env).bind fun m env => match m with
      | .pure (.str x) => .ok (.pure (.str x)) env
      | _ => .no
    | none => .no
  | _, _ => .no
def fmtD : D → Option (List Nat)
  | .str x => some x
  | .int i => if i.natAbs < 2 ^ 30 then some (intDec i) else none
  | _ => none
/-- the part at a path taken out of a list at its end, at a place -/
def popAtP (j : Option Int) (m : M) : Option (M × M) := match m with
  | .lst ms => (ixNat ms.length (j.getD (-1))).bind fun k => ms[k]?.map fun x => (x, .lst (ms.eraseIdx k))
  | _ => none
def keepL : M → Option M
  | .lst ms => some (.lst ms)
  | _ => none
def popR (j : Option Int) (l : M) : Option M := (popAtP j l).map (·.2)
def popPl (env : En) (i : Nat) (ps : List Pe) (j : Option Int) : Rs M := match modPl env i ps (popR j) with
  | some e => Rs.lift ((getPl env i ps).bind fun m => (popAtP j m).map (·.1)) e
  | none => .no

/-- a part of a slice: left out, or an int -/
def partR (e : Ex) (f : En → Rs M) (env : En) : Rs (Option Int) := match e with
  | .non => .ok none env
  | _ => (f env).bind fun m env => match m with
    | .pure (.int i) => .ok (some i) env
    | _ => .no
/-- an argument: what a slot holds is lent, else a value -/
def argOne (e : Ex) (f : En → Rs M) (env : En) : Rs (List Ar) := match e with
  | .bor i => match slot env i with
    | some _ => .ok [.bor i] env
    | none => .no
  | _ => (f env).bind fun m env => .ok [.val m] env
/-- the ways an expression is asked: its value, as a test, as arguments, as what is walked -/
structure Sm where
  e : En → Rs M
  t : En → Rs Bool
  l : En → Rs (List Ar)
  i : En → Rs (List D × List (Nat × M))
def Sm.of (f : En → Rs M) : Sm := ⟨f, fun env => (f env).bind fun x env => Rs.lift ((viewD x).bind truth) env, fun _ => .no, fun env => (f env).bind fun x env => Rs.lift ((asIt x.frz).map fun ds => (ds, [])) env⟩
def Sm.ofI (f : En → Rs (List D × List (Nat × M))) : Sm := ⟨fun _ => .no, fun _ => .no, fun _ => .no, f⟩
def Sm.ofL (f : En → Rs (List Ar)) : Sm := ⟨fun _ => .no, fun _ => .no, f, fun _ => .no⟩
/-- the kind of a datum: 0 none, 1 bool, 2 int, 3 text, 4 list, 5 tuple, 6 dict, 7 an instance -/
def kindM : M → Option Nat
  | .pure .non => some 0 | .pure (.bl _) => some 1 | .pure (.int _) => some 2 | .pure (.str _) => some 3 | .pure (.lst _) => some 4 | .pure (.tup _) => some 5 | .pure (.dic _) => some 6 | .pure (.ins _ _) => some 7
  | .lst _ => some 4 | .ins _ _ => some 7
  | _ => none
/-- isinstance(x, T): 0 int, 1 bool, 2 str, 3 list, 4 tuple, 5 dict, 6 (list, tuple) -/
def isbM (k : Nat) (x : M) : Option Bool := (kindM x).bind fun n => match k with
  | 0 => some (n == 2 || n == 1)
  | 1 => some (n == 1)
  | 2 => some (n == 3)
  | 3 => some (n == 4)
  | 4 => some (n == 5)
  | 5 => some (n == 6)
  | 6 => some (n == 4 || n == 5)
  | _ => none
def isiM (R : Rt) (c : Nat) (x : M) : Option Bool := match clsOf x with
  | some c' => some (R.sub c' c)
  | none => (kindM x).map fun _ => false
def ev (R : Rt) : Ex → Sm
  | .var i => Sm.of fun env => match slot env i with
    | some (.pure d) => .ok (.pure d) env
    | _ => .no
  | .mv i => Sm.of fun env => match slot env i with
    | some m => .ok m (env.set i none)
    | none => .no
  | .pl i ps => Sm.of fun env => match getPl env i ps with
    | some m => .ok m env
    | none => .no
  | .plv i ps => Sm.of fun env => match getPl env i ps with
    | some (.pure d) => .ok (.pure d) env
    | _ => .no
  | .int n => Sm.of fun env => .ok (.pure (.int n)) env
  | .str x => Sm.of fun env => .ok (.pure (.str x)) env
  | .bl b => Sm.of fun env => .ok (.pure (.bl b)) env
  | .non => Sm.of fun env => .ok (.pure .non) env
  | .glb g => Sm.of fun env => Rs.lift ((R.glob g).map .pure) env
  | .cls c => Sm.of fun env => .ok (.pure (.cls c)) env
  | .op2 mu o a b => Sm.of fun env => ((ev R a).e env).bind fun x env => ((ev R b).e env).bind fun y env => Rs.lift ((viewD x).bind fun x => (viewD y).bind fun y => sem2 mu o x y) env
  | .neg a => Sm.of fun env => ((ev R a).e env).bind fun x env => match x with
    | .pure (.int i) => .ok (.pure (.int (-i))) env
    | _ => .no
  | .not a => { Sm.of (fun env => ((ev R a).e env).bind fun x env => Rs.lift (((viewD x).bind truth).map fun b => .pure (.bl (!b))) env) with t := fun env => ((ev R a).t env).bind fun x env => .ok (!x) env }
  | .and a b => { Sm.of (fun env => (boolR ((ev R a).e env)).bind fun x env => if x then (ev R b).e env else .ok (.pure (.bl false)) env) with t := fun env => ((ev R a).t env).bind fun x env => if x then (ev R b).t env else .ok false env }
  | .or a b => { Sm.of (fun env => (boolR ((ev R a).e env)).bind fun x env => if x then .ok (.pure (.bl true)) env else (ev R b).e env) with t := fun env => ((ev R a).t env).bind fun x env => if x then .ok true env else (ev R b).t env }
  | .ite c a b => { Sm.of (fun env => ((ev R c).t env).bind fun x env => if x then (ev R a).e env else (ev R b).e env) with t := fun env => ((ev R c).t env).bind fun x env => if x then (ev R a).t env else (ev R b).t env }
  | .cmp o a b => Sm.of fun env => ((ev R a).e env).bind fun x env => ((ev R b).e env).bind fun y env => Rs.lift (((viewD x).bind fun x => (viewD y).bind fun y => semC o x y).map fun b => .pure (.bl b)) env
  | .cmpd o a b => Sm.of fun env => ((ev R a).e env).bind fun x env => ((ev R b).e env).bind fun y env => (match x, y with
      | .pure x, .pure y => cmpR R o x y env
      | _, _ => .no)
  | .chain o o' a b c => Sm.of fun env => ((ev R a).e env).bind fun x env => ((ev R b).e env).bind fun y env => match x, y with
    | .pure x, .pure y => (match semC o x y with
      | some true => ((ev R c).e env).bind fun z env => (match z with
        | .pure z => (match semC o' y z with
          | some v => .ok (.pure (.bl v)) env
          | none => .no)
        | _ => .no)
      | some false => .ok (.pure (.bl false)) env
      | none => .no)
    | _, _ => .no
  | .bid b a => Sm.of fun env => ((ev R a).e env).bind fun x env => match x with
    | .pure x => bidR R b x env
    | _ => .no
  | .bi mu b a => Sm.of fun env => ((ev R a).e env).bind fun x env => Rs.lift ((viewD x).bind fun x => semBi mu b [x]) env
  | .bi2 mu b a c => Sm.of fun env => ((ev R a).e env).bind fun x env => ((ev R c).e env).bind fun y env => Rs.lift ((viewD x).bind fun x => (viewD y).bind fun y => semBi mu b [x, y]) env
  | .bm mu b r a => Sm.of fun env => ((ev R r).e env).bind fun x env => ((ev R a).e env).bind fun y env => Rs.lift ((viewD x).bind fun x => (viewD y).bind fun y => semBm mu b x [y]) env
  | .bm2 mu b r a c => Sm.of fun env => ((ev R r).e env).bind fun x env => ((ev R a).e env).bind fun y env => ((ev R c).e env).bind fun z env => Rs.lift ((viewD x).bind fun x => (viewD y).bind fun y => (viewD z).bind fun z => semBm mu b x [y, z]) env
  | .isi c a => Sm.of fun env => ((ev R a).e env).bind fun x env => Rs.lift ((isiM R c x).map fun b => .pure (.bl b)) env
  | .isb k a => Sm.of fun env => ((ev R a).e env).bind fun x env => Rs.lift ((isbM k x).map fun b => .pure (.bl b)) env
  | .tup es => Sm.of fun env => ((ev R es).l env).bind fun as env => match valsOf as with
    | some ds => if ds.length ≤ SL then .ok (.pure (.tup ds)) env else .no
    | none => .no
  | .lst mu es => Sm.of fun env => ((ev R es).l env).bind fun as env => match takeA as env with
    | some (ms, env1) => if ms.length ≤ SL then .ok (if mu then .lst ms else .pure (.lst (M.frzs ms))) env1 else .no
    | none => .no
  | .ix a b => Sm.of fun env => ((ev R a).e env).bind fun x env => ((ev R b).e env).bind fun y env => Rs.lift ((viewD x).bind fun x => (viewD y).bind fun y => (semIx x y).map .pure) env
  | .sl mu a lo hi => Sm.of fun env => ((ev R a).e env).bind fun x env => (partR lo (ev R lo).e env).bind fun l env => (partR hi (ev R hi).e env).bind fun h env => Rs.lift ((viewD x).bind fun x => semSl mu x l h) env
  | .rev mu a => Sm.of fun env => ((ev R a).e env).bind fun x env => Rs.lift ((viewD x).bind (semRev mu)) env
  | .fld f e => Sm.of fun env => match e with
    | .bor i => match slot env i with
        | some m => match clsOf m with
          | some c => match R.prop c f with
            | some g => callA (R.call g) [.bor i] env
            | none => if lacks f m then Rs.lift ((R.con c f).map .pure) env else .no
          | none => .no
        | none => .no
    | _ => ((ev R e).e env).bind fun x env => match x with
        | .pure d => fldR R f d env
        | _ => .no
  | .call f args => Sm.of fun env => ((ev R args).l env).bind fun as env => callA (R.call f) as env
  | .meth m r args => Sm.of fun env => (argOne r (ev R r).e env).bind fun a0 env => match (headM a0 env).bind fun x => (clsOf x).bind fun c => if lacks m x then R.meth c m else none with
    | some f => ((ev R args).l env).bind fun as env => callA (R.call f) (a0 ++ as) env
    | none => .no
  | .cmeth c m args => Sm.of fun env => ((ev R args).l env).bind fun as env => match R.meth c m with
    | some f => callA (R.call f) (.val (.pure (.cls c)) :: as) env
    | none => .no
  | .new mu c args => Sm.of fun env => ((ev R args).l env).bind fun as env => match R.init c with
    | some f => match takeA as env with
      | some (ms, env1) => match R.call f (.ins c [] :: ms) with
        | .ok (.pure .non) (some m :: ms') => .ok (if mu then m else .pure m.frz) (giveA as ms' env1)
        | .ok _ _ => .no
        | .ex x => .ex x env1
        | .no => .no
      | none => .no
    | none => .no
  | .lc mu it tg c e => Sm.of fun env => ((ev R it).i env).bind fun dl env1 =>
    (lcLoop (turnR tg (ev R c).t (ev R e).e) dl.1 env1).bind fun ms env2 => match (backE env1 tg.slots env2).bind (giveL dl.2) with
        | some env3 => if ms.length ≤ SL then .ok (if mu then .lst ms else .pure (.lst (M.frzs ms))) env3 else .no
        | none => .no
  | .lc2 mu it tg it2 tg2 c e => Sm.of fun env => ((ev R it).i env).bind fun dl env1 =>
    (catRs (fun d env => match bindTg tg d (wipeE env (tg.slots ++ tg2.slots)) with
      | some env => ((ev R it2).i env).bind fun dl2 env => match dl2.2 with
        | [] => lcLoop (turnR tg2 (ev R c).t (ev R e).e) dl2.1 env
        | _ => .no
      | none => .no) dl.1 env1).bind fun ms env2 => match (backE env1 (tg.slots ++ tg2.slots) env2).bind (giveL dl.2) with
        | some env3 => if ms.length ≤ SL then .ok (if mu then .lst ms else .pure (.lst (M.frzs ms))) env3 else .no
        | none => .no
  | .dc it tg c k e => Sm.of fun env => ((ev R it).i env).bind fun dl env1 =>
    (lcLoop (fun d env => match bindTg tg d (wipeE env tg.slots) with
      | some env => ((ev R c).t env).bind fun b env => if b then ((ev R k).e env).bind fun x env => ((ev R e).e env).bind fun m env => .ok (some (.pure (.tup [x.frz, m.frz]))) env else .ok none env
      | none => .no) dl.1 env1).bind fun ms env2 => match (backE env1 tg.slots env2).bind (giveL dl.2), dicOf (M.frzs ms) with
        | some env3, some kvs => .ok (.pure (.dic kvs)) env3
        | _, _ => .no
  | .fstr es => Sm.of fun env => ((ev R es).l env).bind fun as env => match (valsOf as).bind fun ds => ds.mapM fmtD with
    | some xs => .ok (.pure (.str xs.flatten)) env
    | none => .no
  | .pop i ps => Sm.of fun env => popPl env i ps none
  | .popAt i ps e => Sm.of fun env => match modPl env i ps keepL with
    | some _ => ((ev R e).e env).bind fun x env => (match x with
      | .pure (.int j) => if -(2 ^ 60) < j ∧ j < 2 ^ 60 then popPl env i ps (some j) else .no
      | _ => .no)
    | none => .no
  | .bor i => Sm.ofI fun env => match slot env i with
    | some m => Rs.lift (((viewD m).bind asIt).map fun ds => (ds, [(i, m)])) (env.set i none)
    | none => .no
  | .nil => Sm.ofL fun env => .ok [] env
  | .cons e es => Sm.ofL fun env => (argOne e (ev R e).e env).bind fun a env => ((ev R es).l env).bind fun as env => .ok (a ++ as) env
  | .rng1 a => Sm.ofI fun env => ((ev R a).e env).bind fun x env => match x with
    | .pure (.int n) => if n < SL ∧ -(2 ^ 60) < n then .ok (rngD 0 n.toNat, []) env else .no
    | _ => .no
  | .rng2 a b => Sm.ofI fun env => ((ev R a).e env).bind fun x env => ((ev R b).e env).bind fun y env => match x, y with
    | .pure (.int m), .pure (.int n) => if -(2 ^ 60) < m ∧ m < 2 ^ 60 ∧ -(2 ^ 60) < n ∧ n < 2 ^ 60 ∧ n - m < SL then .ok (rngD m (n - m).toNat, []) env else .no
    | _, _ => .no
  | .zip a b => Sm.ofI fun env => ((ev R a).i env).bind fun dl env => ((ev R b).i env).bind fun dl2 env => .ok ((dl.1.zip dl2.1).map fun p => .tup [p.1, p.2], dl.2 ++ dl2.2) env
  | .enum a => Sm.ofI fun env => ((ev R a).i env).bind fun dl env => .ok (dl.1.zipIdx.map fun p => .tup [.int p.2, p.1], dl.2) env
  | .rng3 _ _ _ => Sm.ofI fun _ => .no
  | .callk p args kws => Sm.of fun env => ((ev R args).l env).bind fun as env => ((ev R kws).l env).bind fun as2 env => match R.kp p with
    | some k => (match (valsOf (as ++ as2)).bind fun ds => fillK ds k.bs with
      | some xs => callV (R.raw k.fn) xs env
      | none => .no)
    | none => .no
  | .methk m p r args kws => Sm.of fun env => ((ev R r).e env).bind fun x env => match x with
    | .pure (.ins c fs) => (match (if lacks m (.pure (.ins c fs)) then R.meth c m else none), R.kp p with
      | some f, some k => ((ev R args).l env).bind fun as env => ((ev R kws).l env).bind fun as2 env => (match (valsOf (.val (.pure (.ins c fs)) :: (as ++ as2))).bind fun ds => fillK ds k.bs with
        | some xs => if f = k.fn then callV (R.raw f) xs env else .no
        | none => .no)
      | _, _ => .no)
    | _ => .no
  | .newk mu c p args kws => Sm.of fun env => ((ev R args).l env).bind fun as env => ((ev R kws).l env).bind fun as2 env => match R.init c, R.kp p with
    | some f, some k => (match (valsOf (as ++ as2)).bind fun ds => fillK ds k.bs with
      | some xs => if f = k.fn then (match R.raw f (.ins c [] :: xs.map .pure) with
        | .ok (.pure .non) (some m :: _) => .ok (if mu then m else .pure m.frz) env
        | .ok _ _ => .no
        | .ex x => .ex x env
        | .no => .no) else .no
      | none => .no)
    | _, _ => .no
  | .meths m r a => Sm.of fun env => ((ev R r).e env).bind fun x env => match x with
    | .pure (.ins c fs) => (match (if lacks m (.pure (.ins c fs)) then R.meth c m else none) with
      | some f => ((ev R a).e env).bind fun y env => (match y with
        | .pure (.tup ds) => callV (R.call f) (.ins c fs :: ds) env
        | .pure (.lst ds) => callV (R.call f) (.ins c fs :: ds) env
        | _ => .no)
      | none => .no)
    | _ => .no
  | .newv mu i args => Sm.of fun env => ((ev R args).l env).bind fun as env => match slot env i with
    | some (.pure (.cls c)) => (match R.init c with
      | some f => match takeA as env with
        | some (ms, env1) => match R.call f (.ins c [] :: ms) with
          | .ok (.pure .non) (some m :: ms') => .ok (if mu then m else .pure m.frz) (giveA as ms' env1)
          | .ok _ _ => .no
          | .ex x => .ex x env1
          | .no => .no
        | none => .no
      | none => .no)
    | _ => .no
  | .sss mu it tg e => Sm.of fun env => ((ev R it).i env).bind fun dl env1 =>
    (lcLoop (turnR tg (fun env => .ok true env) (ev R e).e) dl.1 env1).bind fun ms env2 => match (backE env1 tg.slots env2).bind (giveL dl.2) with
        | some env3 => (match allTups (M.frzs ms) with
          | some ts => if tupsOk ts then .ok (mkL mu (tupD (sortT (dedupT ts)))) env3 else .no
          | none => .no)
        | none => .no
  | .fz a => Sm.of fun env => ((ev R a).e env).bind fun x env => .ok (.pure x.frz) env
  | .frp i ps => Sm.of fun env => match modPl env i ps (fun m => some (.pure m.frz)), getPl env i ps with
    | some env', some m => .ok (.pure m.frz) env'
    | _, _ => .no
def evalE (R : Rt) (x : Ex) (env : En) : Rs M := (ev R x).e env
def evalT (R : Rt) (x : Ex) (env : En) : Rs Bool := (ev R x).t env
def evalL (R : Rt) (x : Ex) (env : En) : Rs (List Ar) := (ev R x).l env
def evalI (R : Rt) (x : Ex) (env : En) : Rs (List D × List (Nat × M)) := (ev R x).i env

/-! ### statements -/
def Rs.out (r : Rs En) : Out := match r with
  | .ok env _ => .nx env
  | .ex x env => .ex x env
  | .no => .no
def Out.andThen (o : Out) (f : En → Out) : Out := match o with
  | .nx env => f env
  | o => o
def whileN (t : En → Rs Bool) (b : En → Out) : Nat → En → Out
  | 0, _ => .no
  | n + 1, env => match t env with
    | .ok true env => match b env with
      | .nx env => whileN t b n env
      | .ct env => whileN t b n env
      | .bk env => .nx env
      | o => o
    | .ok false env => .nx env
    | .ex x env => .ex x env
    | .no => .no
def Out.isNo : Out → Prop
  | .no => True
  | _ => False
/-- the while loop, at most so many turns -/
def whileC (t : En → Rs Bool) (b : En → Out) (env : En) : Out := whileN t b 100000 env
def forL (b : D → En → Out) : List D → En → Out
  | [], env => .nx env
  | d :: ds, env => match b d env with
    | .nx env => forL b ds env
    | .ct env => forL b ds env
    | .bk env => .nx env
    | o => o
/-- what was lent comes back, however the loop ends -/
def Out.backL (ln : List (Nat × M)) : Out → Out
  | .nx env => match giveL ln env with
    | some e => .nx e
    | none => .no
  | .rt m env => match giveL ln env with
    | some e => .rt m e
    | none => .no
  | .ex x env => match giveL ln env with
    | some e => .ex x e
    | none => .no
  | _ => .no
def appL (m : M) : M → Option M
  | .lst ms => if ms.length < SL then some (.lst (ms ++ [m])) else none
  | _ => none
def setL (m x : M) : M → Option M
  | .lst ms => match x with
    | .pure (.int j) => (ixNat ms.length j).map fun j => .lst (ms.set j m)
    | _ => none
  | _ => none
def setI (R : Rt) (f : Nat) (m : M) : M → Option M
  | .ins c fs => if fs.length < 100 ∧ R.attr c f = true then some (.ins c (setF f m fs)) else none
  | _ => none
/-- the slots that a statement assigns -/
def asg : Sx → List Nat
  | .seq a b => asg a ++ asg b
  | .set i _ => [i]
  | .setT is _ => is
  | .aug _ _ i _ => [i]
  | .par i j _ _ => [i, j]
  | .ite _ a b => asg a ++ asg b
  | .wh _ a => asg a
  | .for _ tg a => tg.slots ++ asg a
  | _ => []
def lentOk (as : List Nat) (ln : List (Nat × M)) : Bool := ln.all fun p => !as.contains p.1
def exec (R : Rt) : Sx → En → Out
  | .skip, env => .nx env
  | .seq a b, env => (exec R a env).andThen (exec R b)
  | .set i e, env => ((evalE R e env).bind fun m env => .ok (env.set i (some m)) env).out
  | .setT is e, env => ((evalE R e env).bind fun m env => Rs.lift (bindTg (.tup is) m.frz env) env).out
  | .par i j a b, env => ((evalE R a env).bind fun x env => (evalE R b env).bind fun y env => .ok ((env.set i (some x)).set j (some y)) env).out
  | .aug mu o i e, env => match slot env i with
    | some (.pure d) => ((evalE R e env).bind fun m env => Rs.lift ((semA o d m.frz).map fun d => env.set i (some (.pure d))) env).out
    | _ => .no
  | .app i ps e, env => match modPl env i ps keepL with
    | some _ => ((evalE R e env).bind fun m env => Rs.lift (modPl env i ps (appL m)) env).out
    | none => .no
  | .setx i ps k e, env => ((evalE R e env).bind fun m env => match modPl env i ps keepL with
    | some _ => (evalE R k env).bind fun x env => Rs.lift (modPl env i ps (setL m x)) env
    | none => .no).out
  | .setf i ps f e, env => ((evalE R e env).bind fun m env => Rs.lift (modPl env i ps (setI R f m)) env).out
  | .clr i ps, env => (Rs.lift (modPl env i ps fun l => match l with
      | .lst _ => some (.lst [])
      | _ => none) env).out
  | .ex e, env => ((evalE R e env).bind fun _ env => .ok env env).out
  | .ret e, env => match evalE R e env with
    | .ok m env => .rt m env
    | .ex x env => .ex x env
    | .no => .no
  | .ret0, env => .rt (.pure .non) env
  | .ite c a b, env => match evalT R c env with
    | .ok true env => exec R a env
    | .ok false env => exec R b env
    | .ex x env => .ex x env
    | .no => .no
  | .wh c a, env => whileC (evalT R c) (exec R a) env
  | .for it tg a, env => match evalI R it env with
    | .ok dl env => if lentOk (tg.slots ++ asg a) dl.2 then (forL (fun d env => match bindTg tg d env with
      | some env => exec R a env
      | none => .no) dl.1 env).backL dl.2 else .no
    | .ex x env => .ex x env
    | .no => .no
  | .raise _, _ => .no
  | .cont, env => .ct env
  | .brk, env => .bk env

/-! ### defs -/
structure Fn where
  np : Nat
  n : Nat
  star : Bool
  body : Sx
/-- what is handed back of the parameters: those that the body does not assign -/
def backP (as : List Nat) (k : Nat) : List (Option M) → List (Option M)
  | [] => []
  | m :: r => (if as.contains k then none else m) :: backP as (k + 1) r
/-- a body over its parameters -/
def runB (f : Fn) (exec' : En → Out) (ps : List M) (n : Nat) : Cr := match exec' (ps.map some ++ List.replicate (f.n - f.np) none) with
  | .rt m env => .ok m (backP (asg f.body) 0 (env.take n))
  | .nx env => .ok (.pure .non) (backP (asg f.body) 0 (env.take n))
  | .ex x _ => .ex x
  | _ => .no
/-- what comes back of a star parameter's arguments -/
def starB (n : Nat) : Cr → Cr
  | .ok m ms => .ok m (ms.take 1 ++ List.replicate n none)
  | .ex x => .ex x
  | .no => .no
def runFn (f : Fn) (exec' : En → Out) (ms : List M) : Cr :=
  if f.star then (match ms with
    | m :: r => if f.np = 2 ∧ r.length ≤ 5 then starB r.length (runB f exec' [m, .pure (.tup (M.frzs r))] 2) else .no
    | [] => .no)
  else if ms.length = f.np then runB f exec' ms ms.length else .no
structure Pg where
  fn : Nat → Option Fn
  glob : Nat → Option D
  meth : Nat → Nat → Option Nat
  prop : Nat → Nat → Option Nat
  con : Nat → Nat → Option D
  init : Nat → Option Nat
  dun : Nat → Nat → Option Nat
  sub : Nat → Nat → Bool
  attr : Nat → Nat → Bool
  kp : Nat → Option Kp
  /-- may be called by position -/
  pos : Nat → Bool
def Pg.mk' (P : Pg) (r : Nat → List M → Cr) : Rt := ⟨fun f ms => if P.pos f then r f ms else .no, r, P.glob, P.meth, P.prop, P.con, P.init, P.dun, P.sub, P.attr, P.kp⟩
def run (P : Pg) : Nat → Nat → List M → Cr
  | 0, _, _ => .no
  | k + 1, f, ms => match P.fn f with
    | some d => runFn d (exec (P.mk' (run P k)) d.body) ms
    | none => .no
def Pg.rt (P : Pg) (k : Nat) : Rt := P.mk' (run P k)
end FB

set_option Elab.async false
set_option linter.all false
/-! FbRel: how data lie in the hand layer's abstract heap. -/
namespace FB
open PySem PySem.Spec PyProof.Rows L2

abbrev mkS (x : List Nat) : Str := ⟨x.toArray⟩
/-- where classes stand, how fields are named -/
structure Lk where
  K : PySem.W.Frag
  cls : Nat → Addr
  fa : Nat → Addr
  nm : Nat → Str
  inj : ∀ a b, nm a = nm b → a = b

def kKey : Sum Int (List Nat) → Key
  | .inl i => .inl i
  | .inr x => .inr (mkS x)
/-- read only: not owned by anyone -/
def RdL (O : List Addr) (H : Hp) (a : Addr) (vs : List V) : Prop := a ∉ O ∧ H a = some (.lst vs)
def RdX (L : Lk) (O : List Addr) (H : Hp) (a : Addr) (vs : List V) : Prop :=
  (a ∉ O ∧ Rd H a (.lst vs)) ∨
    ∃ (o : Obj) (its : Array Value) (n : Nat), L.K.lookup a = some o ∧ o.cls = .type "list" ∧ o.dict = none ∧ o.data = .seq its n ∧ its.size ≤ sizeLine ∧ Vals vs its.toList
def RdT (L : Lk) (O : List Addr) (H : Hp) (a : Addr) (vs : List V) : Prop :=
  (a ∉ O ∧ Rd H a (.tup vs)) ∨
    ∃ (o : Obj) (its : Array Value) (n : Nat), L.K.lookup a = some o ∧ o.cls = .type "tuple" ∧ o.data = .seq its n ∧ its.size ≤ sizeLine ∧ Vals vs its.toList
theorem RdX.sq {L : Lk} {O : List Addr} {H : Hp} {a : Addr} {vs : List V} (h : RdX L O H a vs) : SqL L.K H a vs := h.imp (·.2) id
theorem RdT.sq {L : Lk} {O : List Addr} {H : Hp} {a : Addr} {vs : List V} (h : RdT L O H a vs) : SqT L.K H a vs := h.imp (·.2) id

mutual
def RepD (L : Lk) (O : List Addr) (H : Hp) : D → V → Prop
  | .non, v => v = .non
  | .bl b, v => v = .bl b
  | .int i, v => v = .int i
  | .str x, v => v = .str (mkS x)
  | .tup ds, v => ∃ a vs, v = .ref a ∧ RdT L O H a vs ∧ RepDs L O H ds vs
  | .lst ds, v => ∃ a vs, v = .ref a ∧ RdL O H a vs ∧ RepDs L O H ds vs
  | .frl ds, v => ∃ a vs, v = .ref a ∧ RdX L O H a vs ∧ RepDs L O H ds vs
  | .dic kvs, v => ∃ a vs, v = .ref a ∧ a ∉ O ∧ Rd H a (.dK vs) ∧ RepDk L O H kvs vs
  | .ins c fs, v => ∃ a dx vs, v = .ref a ∧ a ∉ O ∧ H a = some (.ins (L.cls c) dx vs) ∧ Cls L.K (L.cls c) ∧ RepDf L O H c fs vs
  | .cls c, v => v = .ref (L.cls c)
def RepDs (L : Lk) (O : List Addr) (H : Hp) : List D → List V → Prop
  | [], [] => True
  | d :: ds, v :: vs => RepD L O H d v ∧ RepDs L O H ds vs
  | _, _ => False
def RepDk (L : Lk) (O : List Addr) (H : Hp) : List (Sum Int (List Nat) × D) → List (Key × V) → Prop
  | [], [] => True
  | (k, d) :: ds, (j, v) :: vs => j = kKey k ∧ RepD L O H d v ∧ RepDk L O H ds vs
  | _, _ => False
def RepDf (L : Lk) (O : List Addr) (H : Hp) (c : Nat) : List (Nat × D) → List (Str × V) → Prop
  | [], [] => True
  | (k, d) :: ds, (j, v) :: vs => (j = L.nm k ∧ NoAttr L.K (L.cls c) (L.nm k)) ∧ RepD L O H d v ∧ RepDf L O H c ds vs
  | _, _ => False
end
mutual
def RepM (L : Lk) (O : List Addr) (H : Hp) : M → V → List Addr → Prop
  | .pure d, v, f => f = [] ∧ RepD L O H d v
  | .lst ms, v, f => ∃ a vs g, v = .ref a ∧ f = a :: g ∧ H a = some (.lst vs) ∧ RepMs L O H ms vs g
  | .ins c fs, v, f => ∃ a dx vs g, v = .ref a ∧ f = a :: g ∧ H a = some (.ins (L.cls c) dx vs) ∧ Cls L.K (L.cls c) ∧ RepMf L O H c fs vs g
def RepMs (L : Lk) (O : List Addr) (H : Hp) : List M → List V → List Addr → Prop
  | [], [], f => f = []
  | m :: ms, v :: vs, f => ∃ f1 f2, f = f1 ++ f2 ∧ RepM L O H m v f1 ∧ RepMs L O H ms vs f2
  | _, _, _ => False
def RepMf (L : Lk) (O : List Addr) (H : Hp) (c : Nat) : List (Nat × M) → List (Str × V) → List Addr → Prop
  | [], [], f => f = []
  | (k, m) :: ms, (j, v) :: vs, f => ∃ f1 f2, f = f1 ++ f2 ∧ (j = L.nm k ∧ NoAttr L.K (L.cls c) (L.nm k)) ∧ RepM L O H m v f1 ∧ RepMf L O H c ms vs f2
  | _, _, _ => False
end

/-- tracked objects outside O are kept; what comes to be owned is new -/
structure Mv (O O' : List Addr) (H H' : Hp) : Prop where
  keep : ∀ a o, a ∉ O → H a = some o → H' a = some o
  new : ∀ a, a ∈ O' → a ∉ O → H a = none
section
variable {L : Lk} {O O' : List Addr} {H H' : Hp}
theorem Mv.rd (x : Mv O O' H H') {a : Addr} {u : HO} (h : a ∉ O ∧ Rd H a u) : a ∉ O' ∧ Rd H' a u := by
  obtain ⟨n, r⟩ := h
  have hs : ∃ o, H a = some o := r.elim (fun e => ⟨_, e⟩) fun ⟨o, e⟩ => ⟨_, e⟩
  refine ⟨fun m => ?_, r.elim (fun e => .inl (x.keep _ _ n e)) fun ⟨o, e⟩ => .inr ⟨o, x.keep _ _ n e⟩⟩
  obtain ⟨o, e⟩ := hs
  rw [x.new a m n] at e
  cases e
theorem Mv.x (x : Mv O O' H H') {a : Addr} {vs : List V} (h : RdX L O H a vs) : RdX L O' H' a vs := h.imp x.rd id
theorem Mv.l (x : Mv O O' H H') {a : Addr} {vs : List V} (h : RdL O H a vs) : RdL O' H' a vs := ⟨(x.rd ⟨h.1, .inl h.2⟩).1, x.keep _ _ h.1 h.2⟩
theorem Mv.t (x : Mv O O' H H') {a : Addr} {vs : List V} (h : RdT L O H a vs) : RdT L O' H' a vs := h.imp x.rd id
mutual
theorem RepD.mv (x : Mv O O' H H') : ∀ {d : D} {v : V}, RepD L O H d v → RepD L O' H' d v
  | .non, _, h => h
  | .bl _, _, h => h
  | .int _, _, h => h
  | .str _, _, h => h
  | .tup ds, v, ⟨a, vs, e, r, q⟩ => ⟨a, vs, e, x.t r, RepDs.mv x q⟩
  | .lst ds, v, ⟨a, vs, e, r, q⟩ => ⟨a, vs, e, x.l r, RepDs.mv x q⟩
  | .frl ds, v, ⟨a, vs, e, r, q⟩ => ⟨a, vs, e, x.x r, RepDs.mv x q⟩
  | .dic kvs, v, ⟨a, vs, e, n, r, q⟩ => ⟨a, vs, e, (x.rd ⟨n, r⟩).1, (x.rd ⟨n, r⟩).2, RepDk.mv x q⟩
  | .ins c fs, v, ⟨a, dx, vs, e, n, r, k, q⟩ => ⟨a, dx, vs, e, (x.rd ⟨n, .inl r⟩).1, x.keep _ _ n r, k, RepDf.mv x q⟩
  | .cls _, _, h => h
theorem RepDs.mv (x : Mv O O' H H') : ∀ {ds : List D} {vs : List V}, RepDs L O H ds vs → RepDs L O' H' ds vs
  | [], [], h => h
  | d :: ds, v :: vs, ⟨a, b⟩ => ⟨RepD.mv x a, RepDs.mv x b⟩
theorem RepDk.mv (x : Mv O O' H H') : ∀ {ds : List (Sum Int (List Nat) × D)} {vs : List (Key × V)}, RepDk L O H ds vs → RepDk L O' H' ds vs
  | [], [], h => h
  | (_, _) :: ds, (_, _) :: vs, ⟨e, a, b⟩ => ⟨e, RepD.mv x a, RepDk.mv x b⟩
theorem RepDf.mv (x : Mv O O' H H') {c : Nat} : ∀ {ds : List (Nat × D)} {vs : List (Str × V)}, RepDf L O H c ds vs → RepDf L O' H' c ds vs
  | [], [], h => h
  | (_, _) :: ds, (_, _) :: vs, ⟨e, a, b⟩ => ⟨e, RepD.mv x a, RepDf.mv x b⟩
end
mutual
theorem RepM.mv (x : Mv O O' H H') : ∀ {m : M} {v : V} {f : List Addr}, RepM L O H m v f → (∀ a o, a ∈ f → H a = some o → H' a = some o) → RepM L O' H' m v f
  | .pure d, v, f, ⟨e, r⟩, _ => ⟨e, r.mv x⟩
  | .lst ms, v, f, ⟨a, vs, g, e, ef, r, q⟩, k => ⟨a, vs, g, e, ef, k _ _ (ef ▸ List.mem_cons_self) r, RepMs.mv x q fun b o hb => k b o (ef ▸ List.mem_cons_of_mem _ hb)⟩
  | .ins c fs, v, f, ⟨a, dx, vs, g, e, ef, r, kc, q⟩, k => ⟨a, dx, vs, g, e, ef, k _ _ (ef ▸ List.mem_cons_self) r, kc, RepMf.mv x q fun b o hb => k b o (ef ▸ List.mem_cons_of_mem _ hb)⟩
theorem RepMs.mv (x : Mv O O' H H') : ∀ {ms : List M} {vs : List V} {f : List Addr}, RepMs L O H ms vs f → (∀ a o, a ∈ f → H a = some o → H' a = some o) → RepMs L O' H' ms vs f
  | [], [], f, h, _ => h
  | m :: ms, v :: vs, f, ⟨f1, f2, e, a, b⟩, k => ⟨f1, f2, e, RepM.mv x a fun c o hc => k c o (e ▸ List.mem_append_left _ hc), RepMs.mv x b fun c o hc => k c o (e ▸ List.mem_append_right _ hc)⟩
theorem RepMf.mv (x : Mv O O' H H') {c : Nat} : ∀ {ms : List (Nat × M)} {vs : List (Str × V)} {f : List Addr}, RepMf L O H c ms vs f → (∀ a o, a ∈ f → H a = some o → H' a = some o) → RepMf L O' H' c ms vs f
  | [], [], f, h, _ => h
  | (_, _) :: ms, (_, _) :: vs, f, ⟨f1, f2, e, en, a, b⟩, k => ⟨f1, f2, e, en, RepM.mv x a fun c o hc => k c o (e ▸ List.mem_append_left _ hc), RepMf.mv x b fun c o hc => k c o (e ▸ List.mem_append_right _ hc)⟩
end
/-! owned objects stand in the heap -/
mutual
theorem RepM.tr : ∀ {m : M} {v : V} {f : List Addr}, RepM L O H m v f → ∀ a ∈ f, ∃ o, H a = some o
  | .pure d, v, f, ⟨e, r⟩, a, ha => by rw [e] at ha; cases ha
  | .lst ms, v, f, ⟨a, vs, g, e, ef, r, q⟩, b, hb => by
    rw [ef] at hb
    rcases List.mem_cons.mp hb with rfl | hb
    · exact ⟨_, r⟩
    · exact RepMs.tr q b hb
  | .ins c fs, v, f, ⟨a, dx, vs, g, e, ef, r, _, q⟩, b, hb => by
    rw [ef] at hb
    rcases List.mem_cons.mp hb with rfl | hb
    · exact ⟨_, r⟩
    · exact RepMf.tr q b hb
theorem RepMs.tr : ∀ {ms : List M} {vs : List V} {f : List Addr}, RepMs L O H ms vs f → ∀ a ∈ f, ∃ o, H a = some o
  | [], [], f, h, a, ha => by rw [show f = [] from h] at ha; cases ha
  | m :: ms, v :: vs, f, ⟨f1, f2, e, p, q⟩, a, ha => by
    rw [e] at ha
    rcases List.mem_append.mp ha with h | h
    · exact RepM.tr p a h
    · exact RepMs.tr q a h
theorem RepMf.tr {c : Nat} : ∀ {ms : List (Nat × M)} {vs : List (Str × V)} {f : List Addr}, RepMf L O H c ms vs f → ∀ a ∈ f, ∃ o, H a = some o
  | [], [], f, h, a, ha => by rw [show f = [] from h] at ha; cases ha
  | (_, _) :: ms, (_, _) :: vs, f, ⟨f1, f2, e, en, p, q⟩, a, ha => by
    rw [e] at ha
    rcases List.mem_append.mp ha with h | h
    · exact RepM.tr p a h
    · exact RepMf.tr q a h
end
/-! what was owned is read only from now on -/
theorem Mv.less (h : ∀ a, a ∈ O' → a ∈ O) : Mv O O' H H := ⟨fun _ _ _ e => e, fun a m n => absurd (h a m) n⟩
mutual
theorem RepM.frz (s : ∀ a, a ∈ O' → a ∈ O) : ∀ {m : M} {v : V} {f : List Addr}, RepM L O H m v f → (∀ a ∈ f, a ∉ O') → RepD L O' H m.frz v
  | .pure d, v, f, ⟨e, r⟩, _ => r.mv (Mv.less s)
  | .lst ms, v, f, ⟨a, vs, g, e, ef, r, q⟩, k => ⟨a, vs, e, ⟨k a (ef ▸ List.mem_cons_self), r⟩, RepMs.frz s q fun b hb => k b (ef ▸ List.mem_cons_of_mem _ hb)⟩
  | .ins c fs, v, f, ⟨a, dx, vs, g, e, ef, r, kc, q⟩, k => ⟨a, dx, vs, e, k a (ef ▸ List.mem_cons_self), r, kc, RepMf.frz s q fun b hb => k b (ef ▸ List.mem_cons_of_mem _ hb)⟩
theorem RepMs.frz (s : ∀ a, a ∈ O' → a ∈ O) : ∀ {ms : List M} {vs : List V} {f : List Addr}, RepMs L O H ms vs f → (∀ a ∈ f, a ∉ O') → RepDs L O' H (M.frzs ms) vs
  | [], [], f, h, _ => trivial
  | m :: ms, v :: vs, f, ⟨f1, f2, e, p, q⟩, k => ⟨RepM.frz s p fun a ha => k a (e ▸ List.mem_append_left _ ha), RepMs.frz s q fun a ha => k a (e ▸ List.mem_append_right _ ha)⟩
theorem RepMf.frz (s : ∀ a, a ∈ O' → a ∈ O) {c : Nat} : ∀ {ms : List (Nat × M)} {vs : List (Str × V)} {f : List Addr}, RepMf L O H c ms vs f → (∀ a ∈ f, a ∉ O') → RepDf L O' H c (M.frzf ms) vs
  | [], [], f, h, _ => trivial
  | (_, _) :: ms, (_, _) :: vs, f, ⟨f1, f2, e, en, p, q⟩, k => ⟨en, RepM.frz s p fun a ha => k a (e ▸ List.mem_append_left _ ha), RepMf.frz s q fun a ha => k a (e ▸ List.mem_append_right _ ha)⟩
end
/-- a reader's view -/
inductive RepV (L : Lk) (O : List Addr) (H : Hp) : D → V → Prop where
  | d {d : D} {v : V} (h : RepD L O H d v) : RepV L O H d v
  | l {ds : List D} {a : Addr} {vs : List V} (h : H a = some (.lst vs)) (q : RepDs L O H ds vs) : RepV L O H (.lst ds) (.ref a)
theorem allPure_rep : ∀ {ms : List M} {ds : List D} {vs : List V} {f : List Addr}, allPure ms = some ds → RepMs L O H ms vs f → RepDs L O H ds vs ∧ f = []
  | [], ds, [], f, h, r => by
    cases h
    exact ⟨trivial, r⟩
  | .pure d :: ms, ds, v :: vs, f, h, ⟨f1, f2, e, p, q⟩ => by
    unfold allPure at h
    cases h2 : allPure ms with
    | none => rw [h2] at h; cases h
    | some r =>
      rw [h2] at h
      cases h
      obtain ⟨a, b⟩ := allPure_rep h2 q
      obtain ⟨e1, p⟩ := p
      subst e1 b
      exact ⟨⟨p, a⟩, e⟩
  | .lst _ :: _, _, _, _, h, _ => by cases h
  | .ins _ _ :: _, _, _, _, h, _ => by cases h
theorem view_rep {m : M} {d : D} {v : V} {f : List Addr} (h : viewD m = some d) (r : RepM L O H m v f) : RepV L O H d v := by
  cases m with
  | pure d' => cases h; exact .d r.2
  | lst ms =>
    obtain ⟨a, vs, g, e, ef, rr, q⟩ := r
    subst e
    simp only [viewD] at h
    cases h2 : allPure ms with
    | none => rw [h2] at h; cases h
    | some ds =>
      rw [h2] at h
      cases h
      exact .l rr (allPure_rep h2 q).1
  | ins _ _ => cases h
theorem RepV.ls {ds : List D} {v : V} (r : RepV L O H (.lst ds) v) : ∃ a vs, v = .ref a ∧ H a = some (.lst vs) ∧ RepDs L O H ds vs := by
  cases r with
  | d h => obtain ⟨a, vs, e, x, q⟩ := h; exact ⟨a, vs, e, x.2, q⟩
  | l h q => exact ⟨_, _, rfl, h, q⟩
theorem RepV.mv {d : D} {v : V} (x : Mv O O' H H') (r : RepV L O H d v) (k : ∀ a o, v = .ref a → a ∈ O → H a = some o → H' a = some o) : RepV L O' H' d v := by
  cases r with
  | d h => exact .d (h.mv x)
  | l h q =>
    rename_i ds a vs
    refine .l ?_ (q.mv x)
    by_cases ha : a ∈ O
    · exact k a _ rfl ha h
    · exact x.keep a _ ha h
theorem RepDs.len : ∀ {ds : List D} {vs : List V}, RepDs L O H ds vs → ds.length = vs.length
  | [], [], _ => rfl
  | _ :: _, _ :: _, ⟨_, h⟩ => congrArg Nat.succ h.len
theorem RepDs.get : ∀ {ds : List D} {vs : List V} {i : Nat} {d : D}, RepDs L O H ds vs → ds[i]? = some d → ∃ v, vs[i]? = some v ∧ RepD L O H d v
  | [], _, _, _, _, h => by simp at h
  | d :: ds, v :: vs, 0, e, ⟨a, _⟩, h => by simp at h; subst h; exact ⟨v, rfl, a⟩
  | d :: ds, v :: vs, i + 1, e, ⟨_, b⟩, h => by
    obtain ⟨u, h1, h2⟩ := RepDs.get (i := i) b (by simpa using h)
    exact ⟨u, by simpa using h1, h2⟩
theorem RepDs.get' : ∀ {ds : List D} {vs : List V} {i : Nat} {v : V}, RepDs L O H ds vs → vs[i]? = some v → ∃ d, ds[i]? = some d ∧ RepD L O H d v
  | [], [], _, _, _, h => by simp at h
  | d :: ds, v :: vs, 0, e, ⟨a, _⟩, h => by simp at h; subst h; exact ⟨d, rfl, a⟩
  | d :: ds, v :: vs, i + 1, e, ⟨_, b⟩, h => by
    obtain ⟨u, h1, h2⟩ := RepDs.get' (i := i) b (by simpa using h)
    exact ⟨u, by simpa using h1, h2⟩
theorem RepDs.app : ∀ {ds es : List D} {vs us : List V}, RepDs L O H ds vs → RepDs L O H es us → RepDs L O H (ds ++ es) (vs ++ us)
  | [], _, [], _, _, h => h
  | _ :: _, _, _ :: _, _, ⟨a, b⟩, h => ⟨a, b.app h⟩
theorem RepDs.take : ∀ {ds : List D} {vs : List V} (n : Nat), RepDs L O H ds vs → RepDs L O H (ds.take n) (vs.take n)
  | _, _, 0, _ => trivial
  | [], [], _ + 1, _ => trivial
  | _ :: _, _ :: _, n + 1, ⟨a, b⟩ => ⟨a, b.take n⟩
theorem RepDs.drop : ∀ {ds : List D} {vs : List V} (n : Nat), RepDs L O H ds vs → RepDs L O H (ds.drop n) (vs.drop n)
  | _, _, 0, h => h
  | [], [], _ + 1, _ => trivial
  | _ :: _, _ :: _, n + 1, ⟨_, b⟩ => b.drop n
end
end FB

set_option Elab.async false
set_option linter.all false
/-! FbInv: the slots' trees, what an evaluation hands on. -/
namespace FB
open PySem PySem.Spec PyProof.Rows L2

def RepO (L : Lk) (O : List Addr) (H : Hp) : En → L2.St → List Addr → Prop
  | [], [], f => f = []
  | none :: ms, _ :: vs, f => RepO L O H ms vs f
  | some m :: ms, u :: vs, f => ∃ v f1 f2, u = some v ∧ f = f1 ++ f2 ∧ RepM L O H m v f1 ∧ RepO L O H ms vs f2
  | _, _, _ => False
/-- g: owned elsewhere; f: owned by the slots -/
structure EnvOk (L : Lk) (g : List Addr) (H : Hp) (env : En) (σ : L2.St) (f : List Addr) : Prop where
  nd : (g ++ f).Nodup
  tr : ∀ a ∈ g, ∃ o, H a = some o
  rep : RepO L (g ++ f) H env σ f
section
variable {L : Lk} {O O' g f : List Addr} {H H' : Hp} {env : En} {σ : L2.St}
theorem RepO.len : ∀ {env : En} {σ : L2.St} {f : List Addr}, RepO L O H env σ f → env.length = σ.length
  | [], [], _, _ => rfl
  | none :: _, _ :: _, _, h => congrArg Nat.succ (RepO.len h)
  | some _ :: _, _ :: _, _, ⟨_, _, _, _, _, _, h⟩ => congrArg Nat.succ (RepO.len h)
theorem RepO.mv (x : Mv O O' H H') : ∀ {env : En} {σ : L2.St} {f : List Addr}, RepO L O H env σ f → (∀ a o, a ∈ f → H a = some o → H' a = some o) → RepO L O' H' env σ f
  | [], [], _, h, _ => h
  | none :: ms, _ :: vs, _, h, k => RepO.mv (env := ms) (σ := vs) x h k
  | some _ :: _, _ :: _, _, ⟨v, f1, f2, e, ef, r, q⟩, k => ⟨v, f1, f2, e, ef, r.mv x fun a o ha => k a o (ef ▸ List.mem_append_left _ ha), RepO.mv x q fun a o ha => k a o (ef ▸ List.mem_append_right _ ha)⟩
theorem RepO.tr : ∀ {env : En} {σ : L2.St} {f : List Addr}, RepO L O H env σ f → ∀ a ∈ f, ∃ o, H a = some o
  | [], [], f, h, a, ha => by rw [show f = [] from h] at ha; cases ha
  | none :: ms, _ :: vs, _, h, a, ha => RepO.tr (env := ms) (σ := vs) h a ha
  | some _ :: _, _ :: _, _, ⟨v, f1, f2, e, ef, r, q⟩, a, ha => by
    rw [ef] at ha
    rcases List.mem_append.mp ha with h | h
    · exact r.tr a h
    · exact RepO.tr q a h
/-- a slot's tree taken out -/
theorem RepO.take : ∀ {env : En} {σ : L2.St} {f : List Addr} {i : Nat} {m : M}, RepO L O H env σ f → slot env i = some m →
    ∃ v p f1 q, σ[i]? = some (some v) ∧ f = p ++ f1 ++ q ∧ RepM L O H m v f1 ∧ RepO L O H (env.set i none) σ (p ++ q)
  | none :: ms, _ :: vs, f, 0, m, h, e => by simp [slot] at e
  | none :: ms, u :: vs, f, i + 1, m, h, e => by
    obtain ⟨v, p, f1, q, h1, h2, h3, h4⟩ := RepO.take (i := i) (show RepO L O H ms vs f from h) (by simpa [slot] using e)
    exact ⟨v, p, f1, q, by simpa using h1, h2, h3, h4⟩
  | some m' :: ms, u :: vs, f, 0, m, ⟨v, f1, f2, eu, ef, r, q⟩, e => by
    have : m' = m := by simpa [slot] using e
    subst this
    exact ⟨v, [], f1, f2, by simp [eu], by simpa using ef, r, q⟩
  | some m' :: ms, u :: vs, f, i + 1, m, ⟨v, f1, f2, eu, ef, r, q⟩, e => by
    obtain ⟨v', p, g1, q', h1, h2, h3, h4⟩ := RepO.take (i := i) q (by simpa [slot] using e)
    refine ⟨v', f1 ++ p, g1, q', by simpa using h1, by rw [ef, h2]; simp [List.append_assoc], h3, ?_⟩
    exact ⟨v, f1, p ++ q', eu, by simp [List.append_assoc], r, h4⟩
  | [], [], _, _, _, _, e => by simp [slot] at e
/-- a slot's tree dropped -/
theorem RepO.drop : ∀ {env : En} {σ : L2.St} {f : List Addr} (i : Nat), RepO L O H env σ f → ∃ f', f'.Sublist f ∧ RepO L O H (env.set i none) σ f'
  | none :: ms, _ :: vs, f, 0, h => ⟨f, List.Sublist.refl _, h⟩
  | none :: ms, u :: vs, f, i + 1, h => by
    obtain ⟨f', s, r⟩ := RepO.drop i (show RepO L O H ms vs f from h)
    exact ⟨f', s, r⟩
  | some m' :: ms, u :: vs, f, 0, ⟨v, f1, f2, eu, ef, r, q⟩ => ⟨f2, ef ▸ List.sublist_append_right _ _, q⟩
  | some m' :: ms, u :: vs, f, i + 1, ⟨v, f1, f2, eu, ef, r, q⟩ => by
    obtain ⟨f', s, r'⟩ := RepO.drop i q
    exact ⟨f1 ++ f', ef ▸ s.append_left f1, v, f1, f', eu, rfl, r, r'⟩
  | [], [], f, i, h => ⟨f, List.Sublist.refl _, by simpa using h⟩
/-- a tree put into an empty slot -/
theorem RepO.put {m : M} {v : V} {f1 : List Addr} (r : RepM L O H m v f1) : ∀ {env : En} {σ : L2.St} {f : List Addr} {i : Nat}, RepO L O H env σ f → slot env i = none → i < env.length →
    ∃ p q, f = p ++ q ∧ RepO L O H (env.set i (some m)) (σ.set i (some v)) (p ++ f1 ++ q)
  | none :: ms, _ :: vs, f, 0, h, _, _ => ⟨[], f, rfl, v, f1, f, rfl, by simp, r, h⟩
  | none :: ms, u :: vs, f, i + 1, h, e, l => by
    obtain ⟨p, q, h1, h2⟩ := RepO.put r (i := i) (show RepO L O H ms vs f from h) (by simpa [slot] using e) (by simpa using l)
    exact ⟨p, q, h1, h2⟩
  | some m' :: ms, u :: vs, f, 0, ⟨v', g1, f2, eu, ef, r', q⟩, e, _ => by simp [slot] at e
  | some m' :: ms, u :: vs, f, i + 1, ⟨v', g1, f2, eu, ef, r', q⟩, e, l => by
    obtain ⟨p, q', h1, h2⟩ := RepO.put r (i := i) q (by simpa [slot] using e) (by simpa using l)
    exact ⟨g1 ++ p, q', by rw [ef, h1, List.append_assoc], v', g1, p ++ f1 ++ q', eu, by simp [List.append_assoc], r', h2⟩
  | [], [], _, _, _, _, l => by simp at l
theorem RepO.weak : ∀ {env : En} {σ : L2.St} {f : List Addr} (i : Nat) (u : Option V), RepO L O H env σ f → slot env i = none → RepO L O H env (σ.set i u) f
  | none :: ms, _ :: vs, f, 0, u, h, _ => h
  | none :: ms, _ :: vs, f, i + 1, u, h, e => RepO.weak (env := ms) i u (show RepO L O H ms vs f from h) (by simpa [slot] using e)
  | some m' :: ms, _ :: vs, f, 0, u, h, e => by simp [slot] at e
  | some m' :: ms, _ :: vs, f, i + 1, u, ⟨v', g1, f2, eu, ef, r', q⟩, e => ⟨v', g1, f2, eu, ef, r', RepO.weak (env := ms) i u q (by simpa [slot] using e)⟩
  | [], [], _, _, _, h, _ => by simpa using h

theorem EnvOk.trf (h : EnvOk L g H env σ f) : ∀ a ∈ g ++ f, ∃ o, H a = some o := fun a ha => (List.mem_append.mp ha).elim (h.tr a) (h.rep.tr a)
theorem EnvOk.len (h : EnvOk L g H env σ f) : env.length = σ.length := h.rep.len
/-- tracked objects kept, the owned ones of the slots too -/
theorem EnvOk.same (h : EnvOk L g H env σ f) (k : ∀ a o, H a = some o → H' a = some o) : EnvOk L g H' env σ f :=
  ⟨h.nd, fun a ha => let ⟨o, e⟩ := h.tr a ha; ⟨o, k a o e⟩, h.rep.mv ⟨fun a o _ e => k a o e, fun a m n => absurd m n⟩ fun a o _ e => k a o e⟩
/-- owned elsewhere: less -/
theorem EnvOk.less {g' : List Addr} (h : EnvOk L g H env σ f) (s : g'.Sublist g) : EnvOk L g' H env σ f :=
  ⟨h.nd.sublist (s.append_right f), fun a ha => h.tr a (s.subset ha), h.rep.mv (Mv.less fun a ha => (List.mem_append.mp ha).elim (fun z => List.mem_append_left _ (s.subset z)) (List.mem_append_right _)) fun _ _ _ e => e⟩
theorem EnvOk.perm {g' : List Addr} (h : EnvOk L g H env σ f) (p : g'.Perm g) : EnvOk L g' H env σ f :=
  ⟨(p.append_right f).nodup_iff.mpr h.nd, fun a ha => h.tr a (p.mem_iff.mp ha), h.rep.mv (Mv.less fun a ha => (List.mem_append.mp ha).elim (fun z => List.mem_append_left _ (p.mem_iff.mp z)) (List.mem_append_right _)) fun _ _ _ e => e⟩
/-- a slot's tree is taken out -/
theorem EnvOk.take {i : Nat} {m : M} (h : EnvOk L g H env σ f) (e : slot env i = some m) :
    ∃ v f1 f2, σ[i]? = some (some v) ∧ (∀ a, a ∈ f ↔ a ∈ f1 ∨ a ∈ f2) ∧ RepM L (g ++ f1 ++ f2) H m v f1 ∧ EnvOk L (g ++ f1) H (env.set i none) σ f2 := by
  obtain ⟨v, p, f1, q, h1, h2, h3, h4⟩ := h.rep.take e
  have pm : (g ++ f1 ++ (p ++ q)).Perm (g ++ f) := by
    rw [h2, List.append_assoc, List.append_assoc]
    refine List.Perm.append_left g ?_
    simpa [List.append_assoc] using (List.perm_append_comm (l₁ := f1) (l₂ := p)).append_right q
  have sub : ∀ a, a ∈ g ++ f1 ++ (p ++ q) → a ∈ g ++ f := fun a ha => pm.mem_iff.mp ha
  refine ⟨v, f1, p ++ q, h1, fun a => ?_, h3.mv (Mv.less sub) fun _ _ _ e => e, pm.nodup_iff.mpr h.nd, fun a ha => ?_, h4.mv (Mv.less sub) fun _ _ _ e => e⟩
  · rw [h2]; simp only [List.mem_append]; constructor
    · rintro ((a | a) | a) <;> simp [a]
    · rintro (a | a | a) <;> simp [a]
  · rcases List.mem_append.mp ha with z | z
    · exact h.tr a z
    · exact h3.tr a z
/-- a slot's tree is dropped -/
theorem EnvOk.drop (h : EnvOk L g H env σ f) (i : Nat) : ∃ f', (∀ a ∈ f', a ∈ f) ∧ EnvOk L g H (env.set i none) σ f' := by
  obtain ⟨f', s, r⟩ := h.rep.drop i
  exact ⟨f', fun a ha => s.subset ha, h.nd.sublist (s.append_left g), h.tr, r.mv (Mv.less fun a ha => (List.mem_append.mp ha).elim (List.mem_append_left _) fun z => List.mem_append_right _ (s.subset z)) fun _ _ _ e => e⟩
theorem slot_none (env : En) (i : Nat) : slot (env.set i none) i = none := by
  unfold slot
  by_cases h : i < env.length
  · rw [List.getElem?_set_self h]; rfl
  · rw [List.getElem?_eq_none (by simpa using h)]; rfl
/-- a tree is put into a slot (what it held is dropped) -/
theorem EnvOk.put {i : Nat} {m : M} {v : V} {f1 : List Addr} (h : EnvOk L (g ++ f1) H env σ f) (r : RepM L (g ++ f1 ++ f) H m v f1) (l : i < env.length) :
    ∃ f', (∀ a ∈ f', a ∈ f1 ∨ a ∈ f) ∧ EnvOk L g H (env.set i (some m)) (σ.set i (some v)) f' := by
  obtain ⟨f0, s0, h0⟩ := h.drop i
  have r0 : RepM L (g ++ f1 ++ f0) H m v f1 := r.mv (Mv.less fun a ha => (List.mem_append.mp ha).elim (List.mem_append_left _) fun z => List.mem_append_right _ (s0 a z)) fun _ _ _ e => e
  obtain ⟨p, q, e1, h1⟩ := RepO.put r0 h0.rep (slot_none env i) (by simpa using l)
  rw [List.set_set] at h1
  have pm : (g ++ (p ++ f1 ++ q)).Perm (g ++ f1 ++ f0) := by
    rw [e1, List.append_assoc, List.append_assoc]
    refine List.Perm.append_left g ?_
    simpa [List.append_assoc] using (List.perm_append_comm (l₁ := p) (l₂ := f1)).append_right q
  refine ⟨p ++ f1 ++ q, fun a ha => ?_, pm.nodup_iff.mpr h0.nd, fun a ha => h.tr a (List.mem_append_left _ ha), h1.mv (Mv.less fun a ha => pm.mem_iff.mp ha) fun _ _ _ e => e⟩
  simp only [List.mem_append] at ha
  have : ∀ a, a ∈ p ∨ a ∈ q → a ∈ f := fun a z => s0 a (by rw [e1]; exact List.mem_append.mpr z)
  rcases ha with (z | z) | z
  · exact .inr (this a (.inl z))
  · exact .inl z
  · exact .inr (this a (.inr z))
theorem EnvOk.slotD {i : Nat} {d : D} (h : EnvOk L g H env σ f) (e : slot env i = some (.pure d)) : ∃ v, σ[i]? = some (some v) ∧ RepD L (g ++ f) H d v := by
  obtain ⟨v, p, f1, q, h1, h2, h3, _⟩ := h.rep.take e
  exact ⟨v, h1, h3.2⟩

/-- what an evaluation hands on: m at v, owning fm; al: an alias into the slots; qt: nothing changed -/
structure Pst (L : Lk) (al qt : Bool) (g f : List Addr) (H : Hp) (env : En) (m : M) (env' : En) (σ : L2.St) (v : V) (H' : Hp) (f' fm : List Addr) : Prop where
  ok : EnvOk L (if al then g else g ++ fm) H' env' σ f'
  st : ∀ a o, H a = some o → a ∉ f → H' a = some o
  nf : ∀ a ∈ f', a ∈ f ∨ H a = none
  nm : ∀ a ∈ fm, a ∈ f ∨ H a = none
  rep : RepM L (g ++ fm ++ f') H' m v fm
  ali : al = true → ∀ a ∈ fm, a ∈ f'
  qui : qt = true → env' = env ∧ f' = f ∧ (∀ a o, H a = some o → H' a = some o) ∧ (al = false → ∀ a ∈ fm, H a = none)
theorem Pst.okg {al qt : Bool} {m : M} {env' : En} {v : V} {f' fm : List Addr} (p : Pst L al qt g f H env m env' σ v H' f' fm) : EnvOk L g H' env' σ f' := by
  cases al with
  | true => exact p.ok
  | false => exact EnvOk.less (show EnvOk L (g ++ fm) H' env' σ f' from p.ok) (List.sublist_append_left g fm)
/-- a value that owns nothing -/
theorem Pst.pureD {qt : Bool} {d : D} {env' : En} {v : V} {f' : List Addr} (ok : EnvOk L g H' env' σ f') (st : ∀ a o, H a = some o → a ∉ f → H' a = some o) (nf : ∀ a ∈ f', a ∈ f ∨ H a = none)
    (r : RepD L (g ++ f') H' d v) (qui : qt = true → env' = env ∧ f' = f ∧ (∀ a o, H a = some o → H' a = some o)) : Pst L false qt g f H env (.pure d) env' σ v H' f' [] :=
  ⟨by simpa using ok, st, nf, fun _ z => (nomatch z), ⟨rfl, by simpa using r⟩, fun z => (nomatch z), fun z => ⟨(qui z).1, (qui z).2.1, (qui z).2.2, fun _ _ z => (nomatch z)⟩⟩
end
end FB

set_option Elab.async false
set_option linter.all false
/-! FbChk: which text an expression of the small language stands for. -/
namespace FB
open PySem PySem.Spec PyProof.Rows L2

/-- where an expression stands: the def's names by slots, the scope that runs -/
structure Sc where
  N : List Str
  sc : Scope
  /-- the def's own cells -/
  fn : Str → Bool
/-- names of the text -/
structure Tx where
  nm : Nat → Str
  cn : Nat → Str
  fn : Nat → Str
  gn : Nat → Str
  /-- the def stands in the module -/
  isg : Nat → Bool
  /-- patterns of calls: the def, how many values by position, the keywords -/
  kf : Nat → Nat
  kn : Nat → Nat
  kk : Nat → List Str

def visB (sc : Scope) (x : Str) : Bool := match sc.names.lookup x with
  | some .local => true | some .cell => true | some .free => true | _ => false
theorem vis_of {sc : Scope} {x : Str} (h : visB sc x = true) : Vis sc x := by
  unfold visB at h
  unfold Vis
  split at h <;> first | (rename_i e; simp [e]) | cases h
def nameB (C : Sc) (i : Nat) (n : Str) : Bool := decide (C.N[i]? = some n) && visB C.sc n && !(n == ("__debug__" : Str)) && !(n == ("__classdict__" : Str))
def locB (C : Sc) (i : Nat) (n : Str) : Bool := decide (C.N[i]? = some n) && (match C.sc.names.lookup n with
  | some .local => true
  | some .cell => C.fn n
  | _ => false)
def ckNs (C : Sc) : List Nat → List Expr → Bool
  | [], [] => true
  | i :: is, .Name n _ :: es => locB C i n && ckNs C is es
  | _, _ => false
/-- a target of the text -/
def ckTg (C : Sc) : Tg → Expr → Bool
  | .one i, .Name n _ => locB C i n
  | .tup is, .Tuple es _ _ => ckNs C is es
  | _, _ => false
def glB (C : Sc) (n : Str) : Bool := decide (C.sc.names.lookup n = some .globalImplicit) && !(n == ("__debug__" : Str))
def ckP (T : Tx) (C : Sc) (i : Nat) : List Pe → Expr → Bool
  | [], .Name n _ => nameB C i n
  | .fld f :: ps, .Attribute e a _ => decide (a = T.nm f) && ckP T C i ps e
  | .ixc k :: ps, .Subscript e (.Constant (.int j) _ _) _ => decide (j = (k : Int)) && ckP T C i ps e
  | .ixs j :: ps, .Subscript e (.Name n _) _ => nameB C j n && ckP T C i ps e
  | _, _ => false
def isAl : Ex → Bool
  | .pl _ _ => true
  | _ => false
/-- no slot is moved, lent or popped -/
def quiet : Ex → Bool
  | .mv _ => false | .bor _ => false | .pop _ _ => false | .popAt _ _ _ => false
  | .op2 _ _ a b => quiet a && quiet b
  | .neg a => quiet a | .not a => quiet a
  | .and a b => quiet a && quiet b | .or a b => quiet a && quiet b
  | .ite c a b => quiet c && quiet a && quiet b
  | .cmp _ a b => quiet a && quiet b
  | .chain _ _ a b c => quiet a && quiet b && quiet c
  | .bi _ _ a => quiet a | .bi2 _ _ a b => quiet a && quiet b
  | .bm _ _ a b => quiet a && quiet b | .bm2 _ _ a b c => quiet a && quiet b && quiet c
  | .isi _ a => quiet a | .isb _ a => quiet a
  | .ix a b => quiet a && quiet b | .sl _ a b c => quiet a && quiet b && quiet c | .rev _ a => quiet a
  | .var _ => true | .pl _ _ => true | .plv _ _ => true | .int _ => true | .str _ => true | .bl _ => true | .non => true | .glb _ => true | .cls _ => true
  | _ => false
/-- an alias wants what comes behind it quiet -/
def alOk (a b : Ex) : Bool := !isAl a || quiet b

def o2Op : O2 → Operator
  | .add => .Add | .sub => .Sub | .mul => .Mult | .fdiv => .FloorDiv | .mod => .Mod | .pow => .Pow
def c2Op : C2 → CmpOp
  | .eq => .Eq | .ne => .NotEq | .lt => .Lt | .le => .LtE | .gt => .Gt | .ge => .GtE | .isin => .In | .notin => .NotIn | .isN => .Is | .notN => .IsNot
def opB : Operator → Operator → Bool
  | .Add, .Add => true | .Sub, .Sub => true | .Mult, .Mult => true | .FloorDiv, .FloorDiv => true | .Mod, .Mod => true | .Pow, .Pow => true | _, _ => false
theorem opB_eq {a b : Operator} (h : opB a b = true) : a = b := by cases a <;> cases b <;> first | rfl | cases h
def cmB : CmpOp → CmpOp → Bool
  | .Eq, .Eq => true | .NotEq, .NotEq => true | .Lt, .Lt => true | .LtE, .LtE => true | .Gt, .Gt => true | .GtE, .GtE => true | .In, .In => true | .NotIn, .NotIn => true | .Is, .Is => true | .IsNot, .IsNot => true | _, _ => false
theorem cmB_eq {a b : CmpOp} (h : cmB a b = true) : a = b := by cases a <;> cases b <;> first | rfl | cases h
/-- not a set display -/
def noSet : Expr → Bool
  | .Set _ _ _ => false
  | _ => true
def noSlice : Expr → Bool
  | .Slice _ _ _ _ => false
  | _ => true
/-- no built-in by this node -/
def biName : Bi → Option Str
  | .len => some "len" | .min2 => some "min" | .max2 => some "max" | .list => some "list" | .tuple => some "tuple" | .all => some "all" | .any => some "any" | .toInt => some "int" | .toStr => some "str" | .sorted => some "sorted" | .repr => some "repr" | .min1 => some "min" | .max1 => some "max"
  | _ => none

def isEqC : C2 → Bool
  | .eq => true | .ne => true | _ => false
def isNeC : C2 → Bool
  | .ne => true | _ => false
def bidN : Bi → Str → Bool
  | .len, n => decide (n = "len") | .repr, n => decide (n = "repr") | _, _ => false
def argN : Ex → Nat
  | .cons _ b => argN b + 1
  | _ => 0
/-- the keywords of a pattern -/
def kwB (T : Tx) (p : Nat) (args kws : Ex) (n : Nat) (ks : List Keyword) : Bool := decide (ks.map (·.arg) = (T.kk p).map some) && decide (argN args + n = T.kn p) && decide (argN kws = (T.kk p).length)
structure Ck where
  k : Sc → List Keyword → Bool := fun _ _ => false
  e : Sc → Expr → Bool
  l : Sc → List Expr → Bool
  i : Sc → Expr → Expr → Bool
def Ck.of (f : Sc → Expr → Bool) : Ck := ⟨fun _ _ => false, f, fun _ _ => false, fun C _ e => noSet e && f C e⟩
def Ck.off (f : Sc → Expr → Bool) : Ck := ⟨fun _ _ => false, f, fun _ _ => false, fun _ _ _ => false⟩
def isTupE : Expr → Bool
  | .Tuple _ _ _ => true
  | _ => false
def noStar : Expr → Bool
  | .Starred _ _ => false
  | _ => true
/-- an argument: a slot that is lent, or a value -/
def argB (P : Expr → Bool) (C : Sc) (a : Ex) (x : Expr) : Bool := match a with
  | .bor i => (match x with | .Name n _ => nameB C i n | _ => false)
  | _ => !isAl a && P x
/-- what an attribute is asked of: a slot that is lent, or a value -/
def recB (P : Expr → Bool) (C : Sc) (a : Ex) (x : Expr) : Bool := match a with
  | .bor i => (match x with | .Name n _ => nameB C i n | _ => false)
  | _ => P x
/-- a sequence as it stands: a slot that is lent, or a value -/
def isSrc : Ex → Bool
  | .rng1 _ => false | .rng2 _ _ => false | .rng3 _ _ _ => false | .zip _ _ => false | .enum _ => false | .nil => false | .cons _ _ => false
  | _ => true
/-- not a call without arguments (super() is no receiver here) -/
def noCall0 : Expr → Bool
  | .Call _ [] _ _ => false
  | _ => true
def partB (P : Expr → Bool) (b : Ex) : Option Expr → Bool
  | none => decide (b = .non)
  | some y => !decide (b = .non) && P y
/-- the scope that a comprehension's block runs in -/
def blkS (C : Sc) (scope : Scope) : Sc := ⟨C.N, relS scope C.sc, fun x => scope.names.lookup x == some .cell⟩
def ownOf (N : List Str) (is : List Nat) : List (Str × Nat) := is.filterMap fun i => N[i]?.map fun n => (n, i)
def ckIfs (P : Expr → Bool) (c : Ex) : List Expr → Bool
  | [] => decide (c = .bl true)
  | [x] => P x
  | _ => false
def blkB (C : Sc) (scope : Scope) (is : List Nat) : Bool := blkC C.N C.sc scope (ownOf C.N is) && decide ((ownOf C.N is).map (·.2) = is) && decide is.Nodup
/-- the built-in type that is meant -/
def isbN : Nat → Option Str
  | 0 => some "int" | 1 => some "bool" | 2 => some "str" | 3 => some "list" | 4 => some "tuple" | 5 => some "dict" | _ => none
/-- the parts of an f-string, without their clothes -/
def bareF : List Expr → List Expr
  | [] => []
  | .FormattedValue e _ _ _ :: r => e :: bareF r
  | e :: r => e :: bareF r
def partF : Expr → Bool
  | .FormattedValue _ c none _ => decide (c = -1)
  | .Constant (.str _) _ _ => true
  | _ => false
def ckF (P : List Expr → Bool) (C : Sc) (vs : List Expr) : Bool := vs.all partF && P (bareF vs)
/-- and, or, a comparison, not, a test with three parts: other rules for their truth -/
def ck (T : Tx) : Ex → Ck
  | .var i => .of fun C e => match e with | .Name n _ => nameB C i n | _ => false
  | .mv i => .of fun C e => match e with | .Name n _ => nameB C i n | _ => false
  | .bor i => ⟨fun _ _ => false, fun _ _ => false, fun _ _ => false, fun C _ e => match e with | .Name n _ => nameB C i n | _ => false⟩
  | .pl i ps => .off fun C e => ckP T C i ps.reverse e
  | .plv i ps => .of fun C e => ckP T C i ps.reverse e
  | .int n => .of fun C e => match e with | .Constant (.int m) _ _ => decide (m = n) | _ => false
  | .str x => .of fun C e => match e with | .Constant (.str y) _ _ => decide (y = mkS x) | _ => false
  | .bl b => .of fun C e => match e with | .Constant (.bool c) _ _ => decide (c = b) | _ => false
  | .non => .of fun C e => match e with | .Constant .none _ _ => true | _ => false
  | .glb g => .of fun C e => match e with | .Name n _ => decide (n = T.gn g) && glB C n | _ => false
  | .cls c => .of fun C e => match e with | .Name n _ => decide (n = T.cn c) && glB C n | _ => false
  | .op2 _ o a b => .of fun C e => match e with | .BinOp x p y _ => opB p (o2Op o) && alOk a b && (ck T a).e C x && (ck T b).e C y | _ => false
  | .neg a => .of fun C e => match e with | .UnaryOp .USub x _ => !isAl a && (ck T a).e C x | _ => false
  | .not a => .of fun C e => match e with | .UnaryOp .Not x _ => (ck T a).e C x | _ => false
  | .and a b => .of fun C e => match e with
    | .BoolOp .And [x, y] _ => !isAl a && !isAl b && (ck T a).e C x && (ck T b).e C y
    | .BoolOp .And (x :: y :: z :: r) p => !isAl a && !isAl b && (ck T a).e C x && (ck T b).e C (.BoolOp .And (y :: z :: r) p)
    | _ => false
  | .or a b => .of fun C e => match e with
    | .BoolOp .Or [x, y] _ => !isAl a && !isAl b && (ck T a).e C x && (ck T b).e C y
    | .BoolOp .Or (x :: y :: z :: r) p => !isAl a && !isAl b && (ck T a).e C x && (ck T b).e C (.BoolOp .Or (y :: z :: r) p)
    | _ => false
  | .ite c a b => .of fun C e => match e with | .IfExp x y z _ => !isAl a && !isAl b && (ck T c).e C x && (ck T a).e C y && (ck T b).e C z | _ => false
  | .cmp o a b => .of fun C e => match e with | .Compare x [p] [y] _ => cmB p (c2Op o) && noSet y && alOk a b && (ck T a).e C x && (ck T b).e C y | _ => false
  | .chain o o' a b c => .of fun C e => match e with | .Compare x [p, q] [y, z] _ => cmB p (c2Op o) && cmB q (c2Op o') && noSet z && quiet b && quiet c && !isAl b && (ck T a).e C x && (ck T b).e C y && (ck T c).e C z | _ => false
  | .sl _ a b c => .of fun C e => match e with
    | .Subscript x (.Slice lo hi none _) _ => quiet b && quiet c && (ck T a).e C x && partB ((ck T b).e C) b lo && partB ((ck T c).e C) c hi
    | _ => false
  | .bi _ b a => .of fun C e => match e with
    | .Call (.Name n _) [x] [] _ => decide (biName b = some n) && glB C n && noStar x && (ck T a).e C x
    | _ => false
  | .bi2 _ b a c => .of fun C e => match e with
    | .Call (.Name n _) [x, y] [] _ => decide (biName b = some n) && glB C n && noStar x && noStar y && alOk a c && (ck T a).e C x && (ck T c).e C y
    | _ => false
  | .ix a b => .of fun C e => match e with | .Subscript x y _ => noSlice y && alOk a b && (ck T a).e C x && (ck T b).e C y | _ => false
  | .fld f a => .of fun C e => match e with
    | .Attribute x b _ => decide (b = T.nm f) && noCall0 x && recB ((ck T a).e C) C a x
    | _ => false
  | .lc _ it tg c e => .of fun C x => match x with
    | .ListComp elt [⟨t, iter, ifs, k⟩] scope _ => decide (k = 0) && blkB C scope tg.slots && (ck T it).i C t iter && ckTg (blkS C scope) tg t && ckIfs ((ck T c).e (blkS C scope)) c ifs && !isAl e && (ck T e).e (blkS C scope) elt
    | _ => false
  | .isi c a => .of fun C e => match e with
    | .Call (.Name f _) [x, .Name n _] [] _ => decide (f = "isinstance") && glB C f && noStar x && decide (n = T.cn c) && glB C n && (ck T a).e C x
    | _ => false
  | .isb k a => .of fun C e => match e with
    | .Call (.Name f _) [x, .Name n _] [] _ => decide (f = "isinstance") && glB C f && noStar x && decide (isbN k = some n) && glB C n && (ck T a).e C x
    | .Call (.Name f _) [x, .Tuple [.Name n1 _, .Name n2 _] _ _] [] _ => decide (f = "isinstance") && glB C f && noStar x && decide (k = 6) && decide (n1 = "list") && decide (n2 = "tuple") && glB C n1 && glB C n2 && (ck T a).e C x
    | _ => false
  | .pop i ps => .of fun C e => match e with
    | .Call (.Attribute o a ap) [] [] p => decide (a = "pop") && ckP T C i ps.reverse o && (ap.endLine == p.line)
    | _ => false
  | .popAt i ps a => .of fun C e => match e with
    | .Call (.Attribute o n ap) [x] [] p => decide (n = "pop") && ckP T C i ps.reverse o && (ap.endLine == p.line) && noStar x && !isAl a && (ps.isEmpty || quiet a) && (ck T a).e C x
    | _ => false
  | .nil => ⟨fun _ ks => ks.isEmpty, fun _ _ => false, fun _ es => es.isEmpty, fun _ _ _ => false⟩
  | .cons a b => ⟨fun C ks => match ks with
    | x :: r => !isAl a && (ck T a).e C x.value && (ck T b).k C r
    | [] => false, fun _ _ => false, fun C es => match es with
    | x :: r => argB ((ck T a).e C) C a x && noStar x && (ck T b).l C r
    | [] => false, fun _ _ _ => false⟩
  | .sss _ it tg e => .of fun C x => match x with
    | .Call (.Name n _) [.SetComp elt [⟨t, iter, [], k⟩] scope _] [] _ => decide (n = "sorted") && glB C n && decide (k = 0) && blkB C scope tg.slots && (ck T it).i C t iter && ckTg (blkS C scope) tg t && !isAl e && (ck T e).e (blkS C scope) elt
    | _ => false
  | .cmpd o a b => .of fun C e => match e with | .Compare x [p] [y] _ => isEqC o && cmB p (c2Op o) && noSet y && !isAl a && !isAl b && (ck T a).e C x && (ck T b).e C y | _ => false
  | .bid b a => .of fun C e => match e with
    | .Call (.Name n _) [x] [] _ => bidN b n && glB C n && noStar x && !isAl a && (ck T a).e C x
    | _ => false
  | .callk p args kws => .of fun C e => match e with
    | .Call (.Name n _) xs ks _ => decide (n = T.fn (T.kf p)) && T.isg (T.kf p) && glB C n && kwB T p args kws 0 ks && (ck T args).l C xs && (ck T kws).k C ks
    | _ => false
  | .methk m p r args kws => .of fun C e => match e with
    | .Call (.Attribute x a ap) xs ks pos => decide (a = T.nm m) && noCall0 x && (ap.endLine == pos.line) && decide (xs.length + ks.length < 20) && !isAl r && (ck T r).e C x && kwB T p args kws 1 ks && (ck T args).l C xs && (ck T kws).k C ks
    | _ => false
  | .frp i ps => .of fun C e => ckP T C i ps.reverse e
  | .fz a => .of fun C e => match e with | .Call _ _ _ _ => !isAl a && (ck T a).e C e | _ => false
  | .rng1 a => ⟨fun _ _ => false, fun _ _ => false, fun _ _ => false, fun C _ e => match e with
    | .Call (.Name n _) [x] [] _ => decide (n = "range") && glB C n && noStar x && !isAl a && (ck T a).e C x
    | _ => false⟩
  | .rng2 a b => ⟨fun _ _ => false, fun _ _ => false, fun _ _ => false, fun C _ e => match e with
    | .Call (.Name n _) [x, y] [] _ => decide (n = "range") && glB C n && noStar x && noStar y && !isAl a && !isAl b && (ck T a).e C x && (ck T b).e C y
    | _ => false⟩
  | .enum a => ⟨fun _ _ => false, fun _ _ => false, fun _ _ => false, fun C tg e => match e with
    | .Call (.Name n _) [x] [] _ => decide (n = "enumerate") && glB C n && noStar x && isTupE tg && isSrc a && (ck T a).i C tg x
    | _ => false⟩
  | .zip a b => ⟨fun _ _ => false, fun _ _ => false, fun _ _ => false, fun C tg e => match e with
    | .Call (.Name n _) [x, y] [] _ => decide (n = "zip") && glB C n && noStar x && noStar y && isTupE tg && isSrc a && isSrc b && (ck T a).i C tg x && (ck T b).i C tg y
    | _ => false⟩
  | .call f args => .of fun C e => match e with
    | .Call (.Name n _) xs [] _ => decide (n = T.fn f) && T.isg f && glB C n && (ck T args).l C xs
    | _ => false
  | .meth m r args => .of fun C e => match e with
    | .Call (.Attribute x a ap) xs [] p => decide (a = T.nm m) && noCall0 x && (ap.endLine == p.line) && decide (xs.length < 30) && argB ((ck T r).e C) C r x && (ck T args).l C xs
    | _ => false
  | .new _ c args => .of fun C e => match e with
    | .Call (.Name n _) xs [] _ => decide (n = T.cn c) && glB C n && (ck T args).l C xs
    | _ => false
  | .tup es => .of fun C e => match e with | .Tuple xs _ _ => (ck T es).l C xs | _ => false
  | .lst _ es => .of fun C e => match e with | .List xs _ => (ck T es).l C xs | _ => false
  | _ => .off fun _ _ => false

/-! ### statements -/
structure CkS where
  s : Sc → Stmt → Bool
  b : Sc → List Stmt → Bool
def CkS.of (f : Sc → Stmt → Bool) : CkS := ⟨f, fun _ _ => false⟩
def isComp : Expr → Bool
  | .ListComp _ _ _ _ => true | .SetComp _ _ _ _ => true | .DictComp _ _ _ _ _ => true
  | _ => false
/-- name = [..]: the name is stored ahead of the comprehension's end -/
def swapB (C : Sc) (n : Str) (py : Pos) : Expr → Bool
  | .ListComp _ _ scope pos => (match C.sc.kind with | .function => true | _ => false) && decide (C.sc.names.lookup n = some .local) && (py.line == pos.line) && !(scope.names.any fun (m, k) => m == n && (k == .local || k == .cell))
  | _ => false
def isLc : Ex → Bool
  | .lc _ _ _ _ _ => true
  | _ => false
def noTupE : Expr → Bool
  | .Tuple _ _ _ => false
  | _ => true
/-- two names at once, one of which is no plain local: no swap -/
def sstNo (C : Sc) : List Expr → Expr → Bool
  | [.Name n1 _, .Name n2 _], .Tuple _ _ _ => decide (C.sc.names.lookup n1 ≠ some .local) || decide (C.sc.names.lookup n2 ≠ some .local)
  | _, _ => false
def ckS (T : Tx) : Sx → CkS
  | .skip => ⟨fun _ s => match s with | .Pass _ => true | _ => false, fun _ ss => ss.isEmpty⟩
  | .seq a b => ⟨fun _ _ => false, fun C ss => match ss with | s :: r => (ckS T a).s C s && (ckS T b).b C r | [] => false⟩
  | .set i e => .of fun C s => match s with
    | .Assign [.Name n py] v _ => locB C i n && !isAl e && (ck T e).e C v && (if isComp v then isLc e && swapB C n py v else true)
    | _ => false
  | .setT is e => .of fun C s => match s with
    | .Assign [.Tuple es _ _] v _ => ckNs C is es && (noTupE v || sstNo C es v) && !isAl e && (ck T e).e C v
    | _ => false
  | .ex e => .of fun C s => match s with
    | .Expr v _ => !isComp v && (ck T e).e C v
    | _ => false
  | .ret e => .of fun C s => match s with
    | .Return (some v) _ => !isAl e && (ck T e).e C v
    | _ => false
  | .ret0 => .of fun _ s => match s with
    | .Return none _ => true
    | _ => false
  | .ite c a b => .of fun C s => match s with
    | .If x p q _ => (ck T c).e C x && (ckS T a).b C p && (ckS T b).b C q
    | _ => false
  | .wh c a => .of fun C s => match s with
    | .While x p [] _ => (ck T c).e C x && (ckS T a).b C p
    | _ => false
  | .for it tg a => .of fun C s => match s with
    | .For t x p [] _ => (ck T it).i C t x && ckTg C tg t && (ckS T a).b C p
    | _ => false
  | .app i ps e => .of fun C s => match s with
    | .Expr (.Call (.Attribute o a ap) [x] [] p) _ => decide (a = "append") && ckP T C i ps.reverse o && (ap.endLine == p.line) && noStar x && !isAl e && (ps.isEmpty || quiet e) && (ck T e).e C x
    | _ => false
  | .setf i ps f e => .of fun C s => match s with
    | .Assign [.Attribute o a _] v _ => decide (a = T.nm f) && ckP T C i ps.reverse o && !isAl e && (ck T e).e C v
    | _ => false
  | .setx i ps k e => .of fun C s => match s with
    | .Assign [.Subscript o y _] v _ => noSlice y && ckP T C i ps.reverse o && !isAl e && !isAl k && quiet k && (ck T e).e C v && (ck T k).e C y
    | _ => false
  | .par i j a b => .of fun C s => match s with
    | .Assign [.Tuple [.Name n1 p1, .Name n2 p2] _ _] (.Tuple [x, y] _ _) _ => decide (i ≠ j) && decide (C.N[i]? = some n1) && decide (C.N[j]? = some n2) && decide (C.sc.names.lookup n1 = some .local) && decide (C.sc.names.lookup n2 = some .local) && (match C.sc.kind with | .function => true | _ => false) &&
        (p2.line == p1.line) && decide (n1 ≠ n2) && !([x, y].all (foldedForSure 8)) && !([x, y].all (constantsAlone 8)) && noStar x && noStar y && !isAl a && !isAl b && (ck T a).e C x && (ck T b).e C y
    | _ => false
  | .aug _ o i e => .of fun C s => match s with
    | .AugAssign (.Name n _) p v _ => locB C i n && opB p (o2Op o) && !isAl e && (ck T e).e C v
    | _ => false
  | .cont => .of fun _ s => match s with | .Continue _ => true | _ => false
  | .brk => .of fun _ s => match s with | .Break _ => true | _ => false
  | .raise _ => .of fun _ s => match s with | .Raise _ _ _ => true | _ => false
  | _ => .of fun _ _ => false
end FB

set_option Elab.async false
set_option linter.all false
set_option maxRecDepth 10000
/-! FbSnd: the readings that the evaluator gives, and that the text keeps them. -/
namespace FB
open PySem PySem.Spec PyProof.Rows L2

/-- the names of built-ins that the text uses -/
def biNames : List Str := ["len", "min", "max", "list", "tuple", "all", "any", "int", "bool", "str", "sorted", "repr", "range", "zip", "enumerate", "isinstance", "set", "dict"]
/-- what a def promises, by the evaluator's word -/
def spOf (L : Lk) (call : List M → Cr) : Sp := fun vs H Q _ => ∃ g f ms m ms', EnvOk L g H (ms.map some) (vs.map some) f ∧ call ms = .ok m ms' ∧
  ∀ v H' f' fm, Pst L false false g f H (ms.map some) m ms' (vs.map some) v H' f' fm → Q v H'
/-- what a call by keywords promises -/
def FnK (P : Program) (w : World) (K : PySem.W.Frag) (mg : Str → Option Value) (base : Heap) (k : Nat) (f : Addr) (n : Nat) (ks : List Str) (sp : Sp) : Prop :=
  ∀ (A : Around) (outer : List Env) (s : Shared) (H : Hp) (us ws : List Value) (vs zs : List V) (Q : VK) (E : XK), Room k A → Env0 P w K mg base A outer s H → Vals vs us → Vals zs ws → us.length = n → ws.length = ks.length → sp (vs ++ zs) H Q E →
    codeAny (model P w) A (.call (.ref f) ⟨us, ks.zip ws⟩) (CR CX0 outer P w H s Q E) s
def defV : D → V
  | .bl b => .bl b
  | .int i => .int i
  | .str x => .str (mkS x)
  | _ => .non
def fillV (vs : List V) : List (Sum Nat D) → Option (List V)
  | [] => some []
  | .inl i :: r => vs[i]?.bind fun d => (fillV vs r).map (d :: ·)
  | .inr d :: r => (fillV vs r).map (defV d :: ·)
def spK (L : Lk) (call : List M → Cr) (bs : List (Sum Nat D)) : Sp := fun vs H Q E => ∃ us, fillV vs bs = some us ∧ spOf L call us H Q E
/-- a constant that a class holds, read at an instance and at the class -/
structure ConOf (L : Lk) (c f : Nat) (d : D) : Prop where
  cls : Cls L.K (L.cls c)
  ins : ∃ v u, Con L.K (L.cls c) (L.nm f) v u ∧ ∀ O H, RepD L O H d v
  own : ∃ mc v u, ClX.CRead L.K (L.cls c) mc ∧ ClX.CVal L.K (L.cls c) mc (L.nm f) v u ∧ ∀ O H, RepD L O H d v
/-- an own class's instances have it as their type -/
structure InsT (K : PySem.W.Frag) (C : Addr) : Prop where
  ha : PySem.W.findIn K (.ref C) "__class__" = some (some (.builtin "object.__class__"))
  hn : PySem.W.specialIn K (.builtin "object.__class__") "__get__" = some (some (.builtin "getset_descriptor.__get__"))
  htk : PySem.W.takesIn K (.builtin "object.__class__") = some true
  hm : PySem.W.mroIn K C (.type "object") = some true
def tyNames : List String := ["NoneType", "bool", "int", "str", "list", "tuple", "dict"]
def dnm : Nat → Str
  | 0 => "__contains__" | 1 => "__len__" | 2 => "__eq__" | _ => "__repr__"
/-- what is known of the module -/
structure Gd (L : Lk) (T : Tx) (R : Rt) (prog : Program) (w : World) (mg : Str → Option Value) (base : Heap) (k : Nat) : Prop where
  free : ∀ n ∈ biNames, mg n = none
  glob : ∀ g d, R.glob g = some d → ∃ u v, mg (T.gn g) = some u ∧ RelV v u ∧ ∀ O H, RepD L O H d v
  cls : ∀ c, mg (T.cn c) = some (.ref (L.cls c))
  run : ∀ f, FnR prog w L.K mg base CX0 k (L.fa f) (spOf L (R.call f))
  gfn : ∀ f, T.isg f = true → mg (T.fn f) = some (.ref (L.fa f)) ∧ PySem.W.keepIn L.K (.ref (L.fa f)) = true
  meth : ∀ c m f, R.meth c m = some f → Meth L.K (L.cls c) (L.nm m) (L.fa f) ∧ Cls L.K (L.cls c)
  insT : ∀ c, InsT L.K (L.cls c)
  sub : ∀ c c', PySem.W.kitOne L.K (.ref (L.cls c)) (.ref (L.cls c')) = some (R.sub c c')
  subT : ∀ t ∈ tyNames, ∀ c, PySem.W.kitOne L.K (.type t) (.ref (L.cls c)) = some false
  subI : ∀ t ∈ tyNames, ∀ c, PySem.W.kitOne L.K (.ref (L.cls c)) (.type t) = some false
  attr : ∀ c f, R.attr c f = true → NoAttr L.K (L.cls c) (L.nm f)
  prop : ∀ c f g, R.prop c f = some g → Cls L.K (L.cls c) ∧ ∃ p, PropOf L.K (L.cls c) (L.nm f) p (L.fa g)
  con : ∀ c f d, R.con c f = some d → ConOf L c f d
  init : ∀ c f, R.init c = some f → Mk L.K (L.cls c) (L.fa f) ∧ Cls L.K (L.cls c)
  dun : ∀ c j f, R.dun c j = some f → PySem.W.findIn L.K (.ref (L.cls c)) (dnm j) = some (some (.ref (L.fa f))) ∧ PySem.W.isFn L.K (.ref (L.fa f)) = true ∧ Cls L.K (L.cls c) ∧ PySem.W.findIn L.K (.ref (L.cls c)) "__ne__" = some (some (.builtin "object.__ne__"))
  kw : ∀ p q, R.kp p = some q → q.fn = T.kf p ∧ FnK prog w L.K mg base k (L.fa q.fn) (T.kn p) (T.kk p) (spK L (R.raw q.fn) q.bs)
/-- a context of the text -/
structure Cok (L : Lk) (T : Tx) (R : Rt) (C : Sc) (X : Cx) : Prop where
  N : X.N = C.N
  sc : X.env.scope = C.sc
  fn : X.fn = C.fn
  calm : X.calm = true
  nd : X.N.Nodup
  K : X.K = L.K
  nm : L.nm = T.nm
  gd : ∃ k, Gd L T R X.prog X.w X.mg X.base k ∧ Room (k + 1) X.A
theorem Cok.un {L : Lk} {T : Tx} {R : Rt} {C : Sc} {X : Cx} (c : Cok L T R C X) : X.A.units + 65 < cLine := by
  obtain ⟨k, _, r⟩ := c.gd
  have := r.un
  omega

section
variable (L : Lk) (T : Tx) (R : Rt)
/-- the reading of an expression -/
def tE (x : Ex) : TE := fun σ H Q => ∃ g f env m env', EnvOk L g H env σ f ∧ (ev R x).e env = .ok m env' ∧ ∀ v H' f' fm, Pst L (isAl x) (quiet x) g f H env m env' σ v H' f' fm → Q v H'
/-- .. of a test -/
structure Tst (qt : Bool) (g f : List Addr) (H : Hp) (env env' : En) (σ : L2.St) (H' : Hp) (f' : List Addr) : Prop where
  ok : EnvOk L g H' env' σ f'
  st : ∀ a o, H a = some o → a ∉ f → H' a = some o
  nf : ∀ a ∈ f', a ∈ f ∨ H a = none
  qui : qt = true → env' = env ∧ f' = f ∧ (∀ a o, H a = some o → H' a = some o)
def tT (x : Ex) : TT := fun σ H Q => ∃ g f env b env', EnvOk L g H env σ f ∧ (ev R x).t env = .ok b env' ∧ ∀ H' f', Tst L (quiet x) g f H env env' σ H' f' → Q b H'
end
/-- what holds of one expression -/
structure Snd (L : Lk) (T : Tx) (R : Rt) (x : Ex) : Prop where
  e : ∀ C e, (ck T x).e C e = true → ∀ X, Cok L T R C X → PE X e (tE L R x)
  t : ∀ C e, (ck T x).e C e = true → ∀ X, Cok L T R C X → PT X e (tT L R x)
section
variable {L : Lk} {T : Tx} {R : Rt} {C : Sc} {X : Cx}
theorem PE.imp {e : Expr} {t u : TE} (h : PE X e t) (i : ∀ σ H Q, u σ H Q → t σ H Q) : PE X e u := ⟨fun pins s σ H Q I q => h.run pins s σ H Q I (i σ H Q q)⟩
theorem PT.imp {e : Expr} {t u : TT} (h : PT X e t) (i : ∀ σ H Q, u σ H Q → t σ H Q) : PT X e u := ⟨fun pins s σ H Q I q => h.run pins s σ H Q I (i σ H Q q)⟩
theorem vis_X (c : Cok L T R C X) {i : Nat} {n : Str} (h : nameB C i n = true) : X.N[i]? = some n ∧ Vis X.env.scope n ∧ (n == ("__debug__" : Str)) = false ∧ (n == ("__classdict__" : Str)) = false := by
  unfold nameB at h
  simp only [Bool.and_eq_true, decide_eq_true_eq, Bool.not_eq_true'] at h
  obtain ⟨⟨⟨h1, h2⟩, h3⟩, h4⟩ := h
  exact ⟨by rw [c.N]; exact h1, by rw [c.sc]; exact vis_of h2, h3, h4⟩
theorem pe_name (c : Cok L T R C X) {i : Nat} {n : Str} {pos : Pos} (h : nameB C i n = true) : PE X (.Name n pos) (tVar i) := by
  obtain ⟨h1, h2, h3, h4⟩ := vis_X c h
  exact pe_var h1 h2 h3 h4
/-- truth of a value -/
theorem truth_rep {O : List Addr} {H : Hp} {d : D} {v : V} {b : Bool} (r : RepV L O H d v) (h : truth d = some b) : TruV L.K v H b := by
  cases d with
  | non => cases r with | d h' => cases h; rw [show v = .non from h']; rfl
  | bl c => cases r with | d h' => cases h; rw [show v = .bl _ from h']; rfl
  | int i => cases r with | d h' => cases h; rw [show v = .int _ from h']; rfl
  | str x =>
    cases r with
    | d h' =>
      simp only [truth] at h
      split at h
      · rename_i hx
        cases h
        rw [show v = .str _ from h']
        refine ⟨?_, ?_⟩
        · show x.toArray.size ≤ sizeLine
          rw [PySem.sizeLine_eq]
          simpa using hx
        · show (x.length != 0) = (((x.toArray.size : Nat) : Int) != 0)
          cases x with
          | nil => rfl
          | cons c r => simp; omega
      · cases h
  | tup xs =>
    cases r with
    | d h' =>
      cases h
      obtain ⟨a, vs, rfl, q, p⟩ := h'
      refine .inr (.inl ⟨vs, q.sq, ?_⟩)
      cases xs <;> cases vs <;> first | rfl | exact p.elim
  | lst xs =>
    obtain ⟨a, vs, rfl, q, p⟩ := r.ls
    cases h
    refine .inl ⟨vs, .of q, ?_⟩
    cases xs <;> cases vs <;> first | rfl | exact p.elim
  | dic kvs => cases h
  | ins _ _ => cases h
  | cls _ => cases h
  | frl _ => cases h
theorem bind_ok {α β : Type} {r : Rs α} {k : α → En → Rs β} {b : β} {env : En} (h : r.bind k = .ok b env) : ∃ a env1, r = .ok a env1 ∧ k a env1 = .ok b env := by
  cases r with
  | ok a env1 => exact ⟨a, env1, rfl, h⟩
  | ex _ _ => cases h
  | no => cases h
theorem lift_ok {α : Type} {o : Option α} {e1 env : En} {a : α} (h : Rs.lift o e1 = .ok a env) : o = some a ∧ env = e1 := by
  cases o with
  | none => cases h
  | some b => cases h; exact ⟨rfl, rfl⟩
theorem bindO_ok {α β : Type} {r : Option α} {k : α → Option β} {b : β} (h : r.bind k = some b) : ∃ a, r = some a ∧ k a = some b := by
  cases r with
  | none => cases h
  | some a => exact ⟨a, rfl, h⟩
theorem mapO_ok {α β : Type} {r : Option α} {k : α → β} {b : β} (h : r.map k = some b) : ∃ a, r = some a ∧ k a = b := by
  cases r with
  | none => cases h
  | some a => exact ⟨a, rfl, Option.some.inj h⟩
theorem Pst.tst {al qt : Bool} {g f : List Addr} {H H' : Hp} {env env' : En} {σ : L2.St} {m : M} {v : V} {f' fm : List Addr} (p : Pst L al qt g f H env m env' σ v H' f' fm) : Tst L qt g f H env env' σ H' f' :=
  ⟨p.okg, p.st, p.nf, fun z => ⟨(p.qui z).1, (p.qui z).2.1, (p.qui z).2.2.1⟩⟩
theorem Pst.view {al qt : Bool} {g f : List Addr} {H H' : Hp} {env env' : En} {σ : L2.St} {m : M} {v : V} {f' fm : List Addr} {d : D} (p : Pst L al qt g f H env m env' σ v H' f' fm) (h : viewD m = some d) :
    RepV L (g ++ f') H' d v := by
  refine (view_rep h p.rep).mv (Mv.less fun a ha => ?_) fun _ _ _ _ e => e
  simp only [List.mem_append] at ha ⊢
  rcases ha with z | z
  · exact .inl (.inl z)
  · exact .inr z
/-- the test of a plain expression is its value's truth -/
theorem pt_plain {x : Ex} {e : Expr} (c : Cok L T R C X) (h : PE X e (tE L R x)) (ht : (ev R x).t = fun env => ((ev R x).e env).bind fun y env => Rs.lift ((viewD y).bind truth) env)
    (he : ∀ whole, isTrue e X.env whole = (do let v ← whole; standAt e.pos; holding [v] (truthy v))) : PT X e (tT L R x) := by
  refine PT.imp (pt_truth h he) fun σ H Q ⟨g, f, env, b, env', hE, hb, q⟩ => ?_
  rw [ht] at hb
  obtain ⟨m, env1, hm, h2⟩ := bind_ok hb
  obtain ⟨h3, rfl⟩ := lift_ok h2
  obtain ⟨d, hd, h4⟩ := bindO_ok h3
  refine ⟨g, f, env, m, _, hE, hm, fun v H' f' fm p => ⟨b, ?_, q H' f' p.tst⟩⟩
  rw [c.K]
  exact truth_rep (p.view hd) h4
end

section
variable {L : Lk} {T : Tx} {R : Rt} {C : Sc} {X : Cx}
theorem pst_refl {g f : List Addr} {H : Hp} {env : En} {σ : L2.St} {d : D} {v : V} {qt : Bool} (h : EnvOk L g H env σ f) (r : RepD L (g ++ f) H d v) : Pst L false qt g f H env (.pure d) env σ v H f [] :=
  Pst.pureD h (fun _ _ e _ => e) (fun _ z => .inl z) r fun _ => ⟨rfl, rfl, fun _ _ e => e⟩
/-- a constant -/
theorem pe_const {x : Ex} {e : Expr} {v : V} {d : D} (hp : PE X e (tC v)) (he : (ev R x).e = fun env => .ok (.pure d) env) (ha : isAl x = false) (r : ∀ O H, RepD L O H d v) : PE X e (tE L R x) := by
  refine PE.imp hp fun σ H Q ⟨g, f, env, m, env', hE, hm, q⟩ => ?_
  rw [he] at hm
  cases hm
  exact q v H f [] (by rw [ha]; exact pst_refl hE (r _ _))
theorem snd_int (n : Int) : Snd L T R (.int n) := by
  have hE : ∀ C e, (ck T (.int n)).e C e = true → ∀ X, Cok L T R C X → PE X e (tE L R (.int n)) := by
    intro C e h X c
    cases e with
    | Constant k j p =>
      cases k with
      | int m =>
        have : m = n := of_decide_eq_true h
        subst this
        exact pe_const pe_int rfl rfl fun _ _ => rfl
      | _ => cases h
    | _ => cases h
  refine ⟨hE, fun C e h X c => ?_⟩
  refine pt_plain c (hE C e h X c) rfl ?_
  cases e with
  | Constant k j p => exact fun _ => rfl
  | _ => cases h
theorem snd_str (n : List Nat) : Snd L T R (.str n) := by
  have hE : ∀ C e, (ck T (.str n)).e C e = true → ∀ X, Cok L T R C X → PE X e (tE L R (.str n)) := by
    intro C e h X c
    cases e with
    | Constant k j p =>
      cases k with
      | str m =>
        have : m = mkS n := of_decide_eq_true h
        subst this
        exact pe_const pe_str rfl rfl fun _ _ => rfl
      | _ => cases h
    | _ => cases h
  refine ⟨hE, fun C e h X c => ?_⟩
  refine pt_plain c (hE C e h X c) rfl ?_
  cases e with
  | Constant k j p => exact fun _ => rfl
  | _ => cases h
theorem snd_bl (n : Bool) : Snd L T R (.bl n) := by
  have hE : ∀ C e, (ck T (.bl n)).e C e = true → ∀ X, Cok L T R C X → PE X e (tE L R (.bl n)) := by
    intro C e h X c
    cases e with
    | Constant k j p =>
      cases k with
      | bool m =>
        have : m = n := of_decide_eq_true h
        subst this
        exact pe_const pe_bl rfl rfl fun _ _ => rfl
      | _ => cases h
    | _ => cases h
  refine ⟨hE, fun C e h X c => ?_⟩
  refine pt_plain c (hE C e h X c) rfl ?_
  cases e with
  | Constant k j p => exact fun _ => rfl
  | _ => cases h
theorem snd_non : Snd L T R .non := by
  have hE : ∀ C e, (ck T .non).e C e = true → ∀ X, Cok L T R C X → PE X e (tE L R .non) := by
    intro C e h X c
    cases e with
    | Constant k j p =>
      cases k with
      | none => exact pe_const pe_non rfl rfl fun _ _ => rfl
      | _ => cases h
    | _ => cases h
  refine ⟨hE, fun C e h X c => ?_⟩
  refine pt_plain c (hE C e h X c) rfl ?_
  cases e with
  | Constant k j p => exact fun _ => rfl
  | _ => cases h
theorem gl_of {n : Str} (c : Cok L T R C X) (h : glB C n = true) : Gl X n ∧ (n == ("__debug__" : Str)) = false := by
  unfold glB at h
  simp only [Bool.and_eq_true, decide_eq_true_eq, Bool.not_eq_true'] at h
  exact ⟨by show X.env.scope.names.lookup n = _; rw [c.sc]; exact h.1, h.2⟩
theorem snd_glb (k : Nat) : Snd L T R (.glb k) := by
  have hE : ∀ C e, (ck T (.glb k)).e C e = true → ∀ X, Cok L T R C X → PE X e (tE L R (.glb k)) := by
    intro C e h X c
    cases e with
    | Name n p =>
      have h : (decide (n = T.gn k) && glB C n) = true := h
      simp only [Bool.and_eq_true, decide_eq_true_eq] at h
      obtain ⟨h1, h2⟩ := h
      obtain ⟨h2, h3⟩ := gl_of c h2
      cases hd : R.glob k with
      | none => exact ⟨fun pins s σ H Q I ⟨g, f, env, m, env', hE, hm, q⟩ => by
          have hm : Rs.lift ((R.glob k).map M.pure) env = .ok m env' := hm
          rw [hd] at hm; cases hm⟩
      | some d =>
        obtain ⟨_, gd, _⟩ := c.gd
        obtain ⟨u, v, e1, e2, e3⟩ := gd.glob k d hd
        rw [← h1] at e1
        refine pe_const (pe_glob h2 e1 e2 h3) (d := d) ?_ rfl e3
        funext env
        show Rs.lift ((R.glob k).map M.pure) env = _
        rw [hd]; rfl
    | _ => cases h
  refine ⟨hE, fun C e h X c => ?_⟩
  refine pt_plain c (hE C e h X c) rfl ?_
  cases e with
  | Name n p => exact fun _ => rfl
  | _ => cases h
theorem snd_cls (k : Nat) : Snd L T R (.cls k) := by
  have hE : ∀ C e, (ck T (.cls k)).e C e = true → ∀ X, Cok L T R C X → PE X e (tE L R (.cls k)) := by
    intro C e h X c
    cases e with
    | Name n p =>
      have h : (decide (n = T.cn k) && glB C n) = true := h
      simp only [Bool.and_eq_true, decide_eq_true_eq] at h
      obtain ⟨h1, h2⟩ := h
      obtain ⟨h2, h3⟩ := gl_of c h2
      obtain ⟨_, gd, _⟩ := c.gd
      have e1 := gd.cls k
      rw [← h1] at e1
      exact pe_const (pe_glob h2 e1 (show RelV (.ref (L.cls k)) _ from rfl) h3) rfl rfl fun _ _ => rfl
    | _ => cases h
  refine ⟨hE, fun C e h X c => ?_⟩
  refine pt_plain c (hE C e h X c) rfl ?_
  cases e with
  | Name n p => exact fun _ => rfl
  | _ => cases h
theorem snd_var (i : Nat) : Snd L T R (.var i) := by
  have hE : ∀ C e, (ck T (.var i)).e C e = true → ∀ X, Cok L T R C X → PE X e (tE L R (.var i)) := by
    intro C e h X c
    cases e with
    | Name n p =>
      refine PE.imp (pe_name c h) fun σ H Q ⟨g, f, env, m, env', hE, hm, q⟩ => ?_
      have hm : (match slot env i with | some (.pure d) => (.ok (.pure d) env : Rs M) | _ => .no) = .ok m env' := hm
      split at hm
      · rename_i d hd
        cases hm
        obtain ⟨v, hv, r⟩ := hE.slotD hd
        exact ⟨v, hv, q v H f [] (pst_refl hE r)⟩
      · cases hm
    | _ => cases h
  refine ⟨hE, fun C e h X c => ?_⟩
  refine pt_plain c (hE C e h X c) rfl ?_
  cases e with
  | Name n p => exact fun _ => rfl
  | _ => cases h
theorem snd_mv (i : Nat) : Snd L T R (.mv i) := by
  have hE : ∀ C e, (ck T (.mv i)).e C e = true → ∀ X, Cok L T R C X → PE X e (tE L R (.mv i)) := by
    intro C e h X c
    cases e with
    | Name n p =>
      refine PE.imp (pe_name c h) fun σ H Q ⟨g, f, env, m, env', hE, hm, q⟩ => ?_
      have hm : (match slot env i with | some m => (.ok m (env.set i none) : Rs M) | none => .no) = .ok m env' := hm
      split at hm
      · rename_i d hd
        cases hm
        obtain ⟨v, f1, f2, hv, hf, r, ok⟩ := hE.take hd
        exact ⟨v, hv, q v H f2 f1 ⟨ok, fun _ _ e _ => e, fun a z => .inl ((hf a).mpr (.inr z)), fun a z => .inl ((hf a).mpr (.inl z)), r, fun z => (nomatch z), fun z => (nomatch z)⟩⟩
      · cases hm
    | _ => cases h
  refine ⟨hE, fun C e h X c => ?_⟩
  refine pt_plain c (hE C e h X c) rfl ?_
  cases e with
  | Name n p => exact fun _ => rfl
  | _ => cases h
end
end FB

set_option Elab.async false
set_option linter.all false
set_option maxRecDepth 10000
/-! FbSnd2: operators, comparisons, built-ins of one or two operands. -/
namespace FB
open PySem PySem.Spec PyProof.Rows L2
section
variable {L : Lk} {T : Tx} {R : Rt} {C : Sc} {X : Cx}
/-- two operands in a row -/
theorem tE_two {a b : Ex} (hab : alOk a b = true) {σ : L2.St} {H : Hp} {g f : List Addr} {env env1 env2 : En} {x y : M} (hE : EnvOk L g H env σ f) (ha : (ev R a).e env = .ok x env1) (hb : (ev R b).e env1 = .ok y env2)
    {K : V → V → Hp → Prop}
    (fin : ∀ va vb H2 f2, Tst L (quiet a && quiet b) g f H env env2 σ H2 f2 → (∀ d, viewD x = some d → RepV L (g ++ f2) H2 d va) → (∀ d, viewD y = some d → RepV L (g ++ f2) H2 d vb) → K va vb H2) :
    tE L R a σ H fun va H1 => tE L R b σ H1 fun vb H2 => K va vb H2 := by
  refine ⟨g, f, env, x, env1, hE, ha, fun va H1 f1 fa pa => ⟨_, f1, env1, y, env2, pa.ok, hb, fun vb H2 f2 fb pb => ?_⟩⟩
  have hgs : ∀ c, c ∈ g → c ∈ (if isAl a = true then g else g ++ fa) := fun c hc => by
    split
    · exact hc
    · exact List.mem_append_left _ hc
  have hsub : g.Sublist (if isAl a = true then g else g ++ fa) := by
    split
    · exact List.Sublist.refl _
    · exact List.sublist_append_left g fa
  have tr1 : ∀ c o, H c = some o → c ∉ f → c ∉ f1 := fun c o e n m => by
    rcases pa.nf c m with z | z
    · exact n z
    · rw [z] at e; cases e
  have nfH : ∀ c, H1 c = none → c ∉ f → H c = none := fun c e n => by
    cases q : H c with
    | none => rfl
    | some o => rw [pa.st c o q n] at e; cases e
  have tst : Tst L (quiet a && quiet b) g f H env env2 σ H2 f2 := by
    refine ⟨pb.okg.less hsub, fun c o e n => pb.st c o (pa.st c o e n) (tr1 c o e n), fun c hc => ?_, fun hq => ?_⟩
    · rcases pb.nf c hc with z | z
      · exact pa.nf c z
      · by_cases n : c ∈ f
        · exact .inl n
        · exact .inr (nfH c z n)
    · rw [Bool.and_eq_true] at hq
      obtain ⟨q1, q2, q3, _⟩ := pa.qui hq.1
      obtain ⟨r1, r2, r3, _⟩ := pb.qui hq.2
      exact ⟨r1.trans q1, r2.trans q2, fun c o e => r3 c o (q3 c o e)⟩
  have rx : RepM L (g ++ fa ++ f2) H2 x va fa := by
    cases al : isAl a with
    | true =>
      have hq : quiet b = true := by
        unfold alOk at hab
        rw [al] at hab
        simpa using hab
      obtain ⟨_, r2, r3, _⟩ := pb.qui hq
      rw [r2]
      exact pa.rep.mv ⟨fun c o _ e => r3 c o e, fun c m n => absurd m n⟩ fun c o _ e => r3 c o e
    | false =>
      have ok1 := pa.ok
      rw [al] at ok1
      have ok1 : EnvOk L (g ++ fa) H1 env1 σ f1 := ok1
      refine pa.rep.mv ⟨fun c o n e => pb.st c o e fun m => n (List.mem_append_right _ m), fun c m n => ?_⟩ fun c o m e => pb.st c o e fun z => ?_
      · rcases List.mem_append.mp m with z | z
        · exact absurd (List.mem_append_left _ z) n
        · rcases pb.nf c z with w | w
          · exact absurd (List.mem_append_right _ w) n
          · exact w
      · exact (List.nodup_append.mp ok1.nd).2.2 c (List.mem_append_right _ m) c z rfl
  refine fin va vb H2 f2 tst (fun d h => ?_) fun d h => ?_
  · refine (view_rep h rx).mv (Mv.less fun c hc => ?_) fun _ _ _ _ e => e
    simp only [List.mem_append] at hc ⊢
    rcases hc with z | z
    · exact .inl (.inl z)
    · exact .inr z
  · refine (view_rep h pb.rep).mv (Mv.less fun c hc => ?_) fun _ _ _ _ e => e
    simp only [List.mem_append] at hc ⊢
    rcases hc with z | z
    · exact .inl (.inl (hgs c z))
    · exact .inr z
/-- one operand -/
theorem tE_one {a : Ex} {σ : L2.St} {H : Hp} {g f : List Addr} {env env1 : En} {x : M} (hE : EnvOk L g H env σ f) (ha : (ev R a).e env = .ok x env1) {K : V → Hp → Prop}
    (fin : ∀ va H1 f1, Tst L (quiet a) g f H env env1 σ H1 f1 → (∀ d, viewD x = some d → RepV L (g ++ f1) H1 d va) → K va H1) : tE L R a σ H K :=
  ⟨g, f, env, x, env1, hE, ha, fun va H1 f1 fa pa => fin va H1 f1 pa.tst fun d h => pa.view h⟩

/-! ### what an operation hands on -/
variable {g f f2 : List Addr} {H H2 : Hp} {env env2 : En} {σ : L2.St} {qt : Bool}
theorem Tst.pure (t : Tst L qt g f H env env2 σ H2 f2) {d : D} {v : V} (r : RepD L (g ++ f2) H2 d v) : Pst L false qt g f H env (.pure d) env2 σ v H2 f2 [] := Pst.pureD t.ok t.st t.nf r t.qui
theorem new_same {H : Hp} {p : Addr} {o : HO} (np : H p = none) : ∀ a u, H a = some u → upd H p o a = some u := fun a u e => by rw [upd_ne (ne_of_none e np)]; exact e
/-- a new object is laid -/
theorem Tst.new (t : Tst L qt g f H env env2 σ H2 f2) {p : Addr} {o : HO} (np : H2 p = none) : Tst L qt g f H env env2 σ (upd H2 p o) f2 :=
  ⟨t.ok.same (new_same np), fun a u e n => new_same np a u (t.st a u e n), t.nf, fun q => ⟨(t.qui q).1, (t.qui q).2.1, fun a u e => new_same np a u ((t.qui q).2.2 a u e)⟩⟩
theorem RepDs.new {O : List Addr} {p : Addr} {o : HO} {ds : List D} {vs : List V} (np : H2 p = none) (r : RepDs L O H2 ds vs) : RepDs L O (upd H2 p o) ds vs :=
  r.mv ⟨fun a u _ e => new_same np a u e, fun _ m n => absurd m n⟩
theorem RepD.new {O : List Addr} {p : Addr} {o : HO} {d : D} {v : V} (np : H2 p = none) (r : RepD L O H2 d v) : RepD L O (upd H2 p o) d v :=
  r.mv ⟨fun a u _ e => new_same np a u e, fun _ m n => absurd m n⟩
theorem repMs_pure {O : List Addr} : ∀ {ds : List D} {vs : List V}, RepDs L O H ds vs → RepMs L O H (ds.map .pure) vs []
  | [], [], _ => rfl
  | d :: ds, v :: vs, ⟨a, b⟩ => ⟨[], [], rfl, ⟨rfl, a⟩, repMs_pure b⟩
theorem Tst.list (t : Tst L qt g f H env env2 σ H2 f2) {p : Addr} {ds : List D} {vs : List V} (mu : Bool) (np : H2 p = none) (r : RepDs L (g ++ f2) H2 ds vs) :
    ∃ fm, Pst L false qt g f H env (mkL mu ds) env2 σ (.ref p) (upd H2 p (.lst vs)) f2 fm := by
  have tn := t.new (o := .lst vs) np
  have npO : p ∉ g ++ f2 := fun m => by
    obtain ⟨o, e⟩ := t.ok.trf p m
    rw [np] at e; cases e
  have npH : p ∉ f → H p = none := fun n => by
    cases q : H p with
    | none => rfl
    | some o => rw [t.st p o q n] at np; cases np
  cases mu with
  | false => exact ⟨[], tn.pure ⟨p, vs, rfl, ⟨npO, upd_same⟩, r.new np⟩⟩
  | true =>
    have hnd : (g ++ [p] ++ f2).Nodup := by
      have h1 := t.ok.nd
      rw [List.append_assoc]
      refine List.nodup_append.mpr ⟨(List.nodup_append.mp h1).1, ?_, ?_⟩
      · refine List.nodup_cons.mpr ⟨fun m => npO (List.mem_append_right _ m), (List.nodup_append.mp h1).2.1⟩
      · intro a ha b hb e
        subst e
        rcases List.mem_cons.mp hb with z | z
        · exact npO (z ▸ List.mem_append_left _ ha)
        · exact (List.nodup_append.mp h1).2.2 a ha a z rfl
    have mvp : Mv (g ++ f2) (g ++ [p] ++ f2) H2 (upd H2 p (.lst vs)) := ⟨fun a u _ e => new_same np a u e, fun a m n => by
      simp only [List.mem_append, List.mem_singleton] at m n
      rcases m with (m | m) | m
      · exact absurd (.inl m) n
      · rw [m]; exact np
      · exact absurd (.inr m) n⟩
    refine ⟨[p], ⟨⟨hnd, fun a ha => ?_, t.ok.rep.mv mvp fun a u _ e => new_same np a u e⟩, tn.st, tn.nf, fun a ha => ?_, ⟨p, vs, [], rfl, rfl, upd_same, repMs_pure (r.mv mvp)⟩, fun z => (nomatch z), fun q => ⟨(tn.qui q).1, (tn.qui q).2.1, (tn.qui q).2.2, fun _ a ha => ?_⟩⟩⟩
    · rcases List.mem_append.mp ha with z | z
      · obtain ⟨o, e⟩ := tn.ok.tr a z
        exact ⟨o, e⟩
      · rw [List.mem_singleton.mp z]; exact ⟨_, upd_same⟩
    · rw [List.mem_singleton.mp ha]
      by_cases n : p ∈ f
      · exact .inl n
      · exact .inr (npH n)
    · rw [List.mem_singleton.mp ha]
      cases q' : H p with
      | none => rfl
      | some o => rw [(t.qui q).2.2 p o q'] at np; cases np
theorem Tst.tup (t : Tst L qt g f H env env2 σ H2 f2) {p : Addr} {ds : List D} {vs : List V} (np : H2 p = none) (r : RepDs L (g ++ f2) H2 ds vs) :
    Pst L false qt g f H env (.pure (.tup ds)) env2 σ (.ref p) (upd H2 p (.tup vs)) f2 [] := by
  have npO : p ∉ g ++ f2 := fun m => by
    obtain ⟨o, e⟩ := t.ok.trf p m
    rw [np] at e; cases e
  exact (t.new np).pure ⟨p, vs, rfl, .inl ⟨npO, .inl upd_same⟩, r.new np⟩

theorem OpR.or {fn : Value → Value → Sem Value} {r1 r2 : R2} (h1 : OpR X fn r1) (h2 : OpR X fn r2) : OpR X fn (fun x y H Q => r1 x y H Q ∨ r2 x y H Q) := fun pins s σ H x y v u Q I rx ry h =>
  h.elim (h1 pins s σ H x y v u Q I rx ry) (h2 pins s σ H x y v u Q I rx ry)
end
end FB

set_option Elab.async false
set_option linter.all false
set_option maxRecDepth 10000
/-! FbSnd3: arithmetic, and, or, not, if-else. -/
namespace FB
open PySem PySem.Spec PyProof.Rows L2
theorem foldl_cat (A : Array Nat) : ∀ (n : Nat) (acc : Array Nat), (List.replicate n A).foldl (· ++ ·) acc = acc ++ ((List.replicate n A.toList).flatten).toArray
  | 0, acc => by simp
  | n + 1, acc => by
    rw [List.replicate_succ, List.foldl_cons, foldl_cat A n, List.replicate_succ, List.flatten_cons]
    apply Array.ext'
    simp
theorem txt_mul (a : List Nat) (n : Int) : PySem.Txt.mul (mkS a) n = mkS (List.replicate n.toNat a).flatten := by
  unfold PySem.Txt.mul
  by_cases h1 : n < 1
  · rw [if_pos h1]
    have : n.toNat = 0 := by omega
    rw [this]; rfl
  · rw [if_neg h1]
    by_cases h2 : (n == 1 || (mkS a).length == 0) = true
    · rw [if_pos h2]
      simp only [Bool.or_eq_true, beq_iff_eq] at h2
      rcases h2 with h2 | h2
      · subst h2; simp
      · have : a = [] := by
          have : a.toArray.size = 0 := h2
          simpa using this
        subst this
        simp
    · rw [if_neg h2]
      congr 1
      rw [foldl_cat]
      simp
def rStrMul : R2 := fun x y H Q => ∃ (a : List Nat) (n : Int), x = .str (mkS a) ∧ y = .int n ∧ n < 2 ^ 30 ∧ -(2 ^ 30) < n ∧ a.length * n.toNat ≤ SL ∧ Q (.str (mkS (List.replicate n.toNat a).flatten)) H
section
variable {L : Lk} {T : Tx} {R : Rt} {C : Sc} {X : Cx}
theorem op_strMul : OpR X (binaryOp .Mult) rStrMul := by
  intro pins s σ H x y v u Q I rx ry h
  obtain ⟨a, n, rfl, rfl, h1, h2, h3, q⟩ := h
  obtain ⟨t, rfl⟩ := rx
  obtain ⟨t', rfl⟩ := ry
  have hlen : (mkS a).length = a.length := by show a.toArray.size = a.length; simp
  refine PySem.SB.mul ⟨?_, fun k1 k2 => ?_, fun k1 k2 => ?_⟩ fun t' k => ?_
  · have e1 : ¬ n < -(2 ^ 63 : Int) := by omega
    have e2 : ¬ n ≥ 2 ^ 63 := by omega
    rw [decide_eq_false e1, decide_eq_false e2]; rfl
  · rw [hlen]
    intro hc
    have e3 : (a.length : Int) * n ≤ SL := by
      have : (a.length : Int) * (n.toNat : Int) ≤ SL := by exact_mod_cast h3
      rwa [Int.toNat_of_nonneg (by omega)] at this
    have e4 : (a.length : Int) ≤ SL := by
      have : (a.length : Int) * 1 ≤ (a.length : Int) * n := Int.mul_le_mul_of_nonneg_left (by omega) (by omega)
      omega
    have e5 : ((2 ^ 63 - 1) / n : Int) ≥ 2 ^ 32 := by
      rw [ge_iff_le, Int.le_ediv_iff_mul_le (by omega)]
      omega
    have e6 : (SL : Int) = 16777216 := rfl
    omega
  · rw [hlen]
    unfold PySem.Builtin.Str.tooLong
    rw [PySem.sizeLine_eq]
    simpa using h3
  · rw [txt_mul]
    exact ⟨.str _, H, I.tok _, ⟨_, rfl⟩, q⟩
def opRd (K : PySem.W.Frag) : O2 → R2
  | .add => fun x y H Q => (((rI0 fun i j => .int (i + j)) x y H Q ∨ (∃ i j, x = .str i ∧ y = .str j ∧ i.length + j.length ≤ sizeLine ∧ Q (.str (i ++ j)) H)) ∨ rCat x y H Q) ∨ rCatA K x y H Q
  | .sub => rI0 fun i j => .int (i - j)
  | .mul => fun x y H Q => ((rI CMul fun i j => .int (i * j)) x y H Q ∨ rRep x y H Q) ∨ rStrMul x y H Q
  | .fdiv => rI CDiv fun i j => .int (i / j)
  | .mod => rI (fun _ j => 0 < j) fun i j => .int (i % j)
  | .pow => rI CPow fun i j => .int (i ^ j.toNat)
theorem opRd_ok (o : O2) : OpR X (binaryOp (o2Op o)) (opRd X.K o) := by
  cases o with
  | add => exact ((op_add.or op_add_str).or op_cat).or op_catA
  | sub => exact op_sub
  | mul => exact (op_mul.or op_rep).or op_strMul
  | fdiv => exact op_fdiv
  | mod => exact op_mod
  | pow => exact op_pow

variable {g f f2 : List Addr} {H H2 : Hp} {env env2 : En} {σ : L2.St} {qt : Bool}
theorem RepV.int {O : List Addr} {i : Int} {v : V} (r : RepV L O H (.int i) v) : v = .int i := by cases r with | d h => exact h
theorem RepV.str {O : List Addr} {x : List Nat} {v : V} (r : RepV L O H (.str x) v) : v = .str (mkS x) := by cases r with | d h => exact h
theorem RepV.bl {O : List Addr} {b : Bool} {v : V} (r : RepV L O H (.bl b) v) : v = .bl b := by cases r with | d h => exact h
theorem RepV.non {O : List Addr} {v : V} (r : RepV L O H .non v) : v = .non := by cases r with | d h => exact h
theorem RepV.tup {O : List Addr} {ds : List D} {v : V} (r : RepV L O H (.tup ds) v) : ∃ a vs, v = .ref a ∧ RdT L O H a vs ∧ RepDs L O H ds vs := by cases r with | d h => exact h
theorem RepV.dic {O : List Addr} {ds : List (Sum Int (List Nat) × D)} {v : V} (r : RepV L O H (.dic ds) v) : ∃ a vs, v = .ref a ∧ a ∉ O ∧ Rd H a (.dK vs) ∧ RepDk L O H ds vs := by cases r with | d h => exact h
theorem RepV.ins {O : List Addr} {c : Nat} {fs : List (Nat × D)} {v : V} (r : RepV L O H (.ins c fs) v) : ∃ a dx vs, v = .ref a ∧ a ∉ O ∧ H a = some (.ins (L.cls c) dx vs) ∧ Cls L.K (L.cls c) ∧ RepDf L O H c fs vs := by cases r with | d h => exact h
theorem mkS_len (x : List Nat) : (mkS x).length = x.length := by show x.toArray.size = x.length; simp
theorem mkS_app (x y : List Nat) : mkS x ++ mkS y = mkS (x ++ y) := by
  show Str.mk (x.toArray ++ y.toArray) = Str.mk (x ++ y).toArray
  congr 1; simp
theorem RepDs.rep {O : List Addr} {ds : List D} {vs : List V} (r : RepDs L O H ds vs) : ∀ n : Nat, RepDs L O H (List.replicate n ds).flatten (List.replicate n vs).flatten
  | 0 => trivial
  | n + 1 => by
    rw [List.replicate_succ, List.flatten_cons, List.replicate_succ, List.flatten_cons]
    exact r.app (r.rep n)
theorem sem2_ok {mu : Bool} {o : O2} {dx dy : D} {m : M} {va vb : V} {Q : VK} (h : sem2 mu o dx dy = some m) (t : Tst L qt g f H env env2 σ H2 f2) (rx : RepV L (g ++ f2) H2 dx va) (ry : RepV L (g ++ f2) H2 dy vb)
    (q : ∀ v H' f' fm, Pst L false qt g f H env m env2 σ v H' f' fm → Q v H') : opRd L.K o va vb H2 Q := by
  unfold sem2 at h
  split at h
  · cases h; exact .inl (.inl (.inl ⟨_, _, rx.int, ry.int, q _ _ _ _ (t.pure rfl)⟩))
  · split at h
    · rename_i a b hz
      cases h
      refine .inl (.inl (.inr ⟨_, _, rx.str, ry.str, ?_, ?_⟩))
      · rw [mkS_len, mkS_len, PySem.sizeLine_eq]; exact hz
      · rw [mkS_app]; exact q _ _ _ _ (t.pure rfl)
    · cases h
  · split at h
    · rename_i a b hz
      cases h
      obtain ⟨l, vs, rfl, h1, h2⟩ := rx.ls
      obtain ⟨l', vs', rfl, h1', h2'⟩ := ry.ls
      refine .inl (.inr ⟨l, l', vs, vs', rfl, rfl, h1, h1', ?_, fun p np => ?_⟩)
      · rw [← h2.len, ← h2'.len, PySem.sizeLine_eq]; exact hz
      · obtain ⟨fm, P⟩ := t.list mu np (h2.app h2')
        exact q _ _ _ _ P
    · cases h
  · split at h
    · rename_i a b hz
      cases h
      obtain ⟨l, vs, rfl, h1, h2⟩ := rx.tup
      obtain ⟨l', vs', rfl, h1', h2'⟩ := ry.tup
      refine .inr ⟨l, l', vs, vs', rfl, rfl, h1.sq, h1'.sq, ?_, fun e => ?_, fun e1 e2 => ?_, fun e1 e2 p np => ?_⟩
      · rw [← h2.len, ← h2'.len, PySem.sizeLine_eq]; exact hz
      · subst e
        have : a = [] := by
          have := h2.len
          simpa using this
        subst this
        exact q _ _ _ _ (t.pure ⟨l', vs', rfl, h1', h2'⟩)
      · subst e2
        have : b = [] := by
          have := h2'.len
          simpa using this
        subst this
        rw [List.append_nil] at q
        exact q _ _ _ _ (t.pure ⟨l, vs, rfl, h1, h2⟩)
      · exact q _ _ _ _ (t.tup np (h2.app h2'))
    · cases h
  · cases h; exact ⟨_, _, rx.int, ry.int, q _ _ _ _ (t.pure rfl)⟩
  · split at h
    · rename_i a b hz
      cases h
      refine .inl (.inl ⟨_, _, rx.int, ry.int, ?_, q _ _ _ _ (t.pure rfl)⟩)
      rcases hz with hz | hz
      · exact .inl ⟨by omega, by omega⟩
      · exact .inr ⟨by omega, by omega⟩
    · cases h
  · split at h
    · rename_i a b hz
      cases h
      exact .inr ⟨_, _, rx.str, ry.int, hz.1, hz.2.1, hz.2.2, q _ _ _ _ (t.pure rfl)⟩
    · cases h
  · split at h
    · rename_i a b hz
      cases h
      obtain ⟨l, vs, rfl, h1, h2⟩ := rx.ls
      refine .inl (.inr ⟨l, b, vs, rfl, ry.int, h1, by omega, by omega, ?_, fun p np => ?_⟩)
      · rw [← h2.len, PySem.sizeLine_eq]; exact hz.2.2
      · obtain ⟨fm, P⟩ := t.list mu np (h2.rep b.toNat)
        exact q _ _ _ _ P
    · cases h
  · split at h
    · rename_i a b hz
      cases h
      exact ⟨_, _, rx.int, ry.int, ⟨hz.1, by have := hz.2; omega⟩, q _ _ _ _ (t.pure rfl)⟩
    · cases h
  · split at h
    · rename_i a b hz
      cases h
      exact ⟨_, _, rx.int, ry.int, hz, q _ _ _ _ (t.pure rfl)⟩
    · cases h
  · split at h
    · rename_i a b hz
      cases h
      exact ⟨_, _, rx.int, ry.int, ⟨hz.1, by omega, hz.2.2⟩, q _ _ _ _ (t.pure rfl)⟩
    · cases h
  · cases h
theorem snd_op2 (mu : Bool) (o : O2) (a b : Ex) (ha : Snd L T R a) (hb : Snd L T R b) : Snd L T R (.op2 mu o a b) := by
  have hE : ∀ C e, (ck T (.op2 mu o a b)).e C e = true → ∀ X, Cok L T R C X → PE X e (tE L R (.op2 mu o a b)) := by
    intro C e h X c
    cases e with
    | BinOp x p y pos =>
      have h : (opB p (o2Op o) && alOk a b && (ck T a).e C x && (ck T b).e C y) = true := h
      simp only [Bool.and_eq_true] at h
      obtain ⟨⟨⟨h1, h2⟩, h3⟩, h4⟩ := h
      have h1 := opB_eq h1
      subst h1
      refine PE.imp (pe_op (opRd_ok o) (ha.e C x h3 X c) (hb.e C y h4 X c)) fun σ H Q ⟨g, f, env, m, env', hE, hm, q⟩ => ?_
      obtain ⟨x, env1, hx, hm⟩ := bind_ok hm
      obtain ⟨y, env2, hy, hm⟩ := bind_ok hm
      obtain ⟨hn, rfl⟩ := lift_ok hm
      obtain ⟨dx, hdx, hn⟩ := bindO_ok hn
      obtain ⟨dy, hdy, hn⟩ := bindO_ok hn
      refine tE_two h2 hE hx hy fun va vb H2 f2 t rx ry => ?_
      rw [c.K]
      exact sem2_ok hn t (rx dx hdx) (ry dy hdy) q
    | _ => cases h
  refine ⟨hE, fun C e h X c => ?_⟩
  refine pt_plain c (hE C e h X c) rfl ?_
  cases e with
  | BinOp x p y pos => exact fun _ => rfl
  | _ => cases h
theorem snd_neg (a : Ex) (ha : Snd L T R a) : Snd L T R (.neg a) := by
  have hE : ∀ C e, (ck T (.neg a)).e C e = true → ∀ X, Cok L T R C X → PE X e (tE L R (.neg a)) := by
    intro C e h X c
    cases e with
    | UnaryOp p x pos =>
      cases p with
      | USub =>
        have h : (!isAl a && (ck T a).e C x) = true := h
        simp only [Bool.and_eq_true] at h
        refine PE.imp (pe_un un_neg (ha.e C x h.2 X c)) fun σ H Q ⟨g, f, env, m, env', hE, hm, q⟩ => ?_
        obtain ⟨x, env1, hx, hm⟩ := bind_ok hm
        split at hm
        · cases hm
          exact tE_one hE hx fun va H1 f1 t rx => ⟨_, (rx _ rfl).int, q _ _ _ _ (t.pure rfl)⟩
        · cases hm
      | _ => cases h
    | _ => cases h
  refine ⟨hE, fun C e h X c => ?_⟩
  refine pt_plain c (hE C e h X c) rfl ?_
  cases e with
  | UnaryOp p x pos => cases p with
    | USub => exact fun _ => rfl
    | _ => cases h
  | _ => cases h
end
end FB

set_option Elab.async false
set_option linter.all false
set_option maxRecDepth 10000
/-! FbSnd4: not, and, or, if-else, comparisons. -/
namespace FB
open PySem PySem.Spec PyProof.Rows L2
section
variable {L : Lk} {T : Tx} {R : Rt} {C : Sc} {X : Cx}
variable {g f f1 f2 : List Addr} {H H1 H2 : Hp} {env env1 env2 : En} {σ : L2.St} {qt : Bool}
theorem Tst.nf2 {qa : Bool} (t : Tst L qa g f H env env1 σ H1 f1) {c : Addr} (h : c ∈ f1 ∨ H1 c = none) : c ∈ f ∨ H c = none := by
  rcases h with z | z
  · exact t.nf c z
  · by_cases n : c ∈ f
    · exact .inl n
    · refine .inr ?_
      cases q : H c with
      | none => rfl
      | some o => rw [t.st c o q n] at z; cases z
theorem Tst.st2 {qa : Bool} (t : Tst L qa g f H env env1 σ H1 f1) {c : Addr} {o : HO} (e : H c = some o) (n : c ∉ f) : H1 c = some o ∧ c ∉ f1 :=
  ⟨t.st c o e n, fun m => by
    rcases t.nf c m with z | z
    · exact n z
    · rw [z] at e; cases e⟩
/-- one evaluation, then another -/
theorem Tst.trans {qa qb : Bool} (t : Tst L qa g f H env env1 σ H1 f1) (u : Tst L qb g f1 H1 env1 env2 σ H2 f2) : Tst L (qa && qb) g f H env env2 σ H2 f2 :=
  ⟨u.ok, fun c o e n => u.st c o (t.st2 e n).1 (t.st2 e n).2, fun c hc => t.nf2 (u.nf c hc), fun q => by
    rw [Bool.and_eq_true] at q
    obtain ⟨a1, a2, a3⟩ := t.qui q.1
    obtain ⟨b1, b2, b3⟩ := u.qui q.2
    exact ⟨b1.trans a1, b2.trans a2, fun c o e => b3 c o (a3 c o e)⟩⟩
theorem Tst.pst {qa qb al : Bool} {m : M} {v : V} {fm : List Addr} (t : Tst L qa g f H env env1 σ H1 f1) (u : Pst L al qb g f1 H1 env1 m env2 σ v H2 f2 fm) : Pst L al (qa && qb) g f H env m env2 σ v H2 f2 fm :=
  ⟨u.ok, fun c o e n => u.st c o (t.st2 e n).1 (t.st2 e n).2, fun c hc => t.nf2 (u.nf c hc), fun c hc => t.nf2 (u.nm c hc), u.rep, u.ali, fun q => by
    rw [Bool.and_eq_true] at q
    obtain ⟨a1, a2, a3⟩ := t.qui q.1
    obtain ⟨b1, b2, b3, b4⟩ := u.qui q.2
    refine ⟨b1.trans a1, b2.trans a2, fun c o e => b3 c o (a3 c o e), fun al c hc => ?_⟩
    have z := b4 al c hc
    cases w : H c with
    | none => rfl
    | some o => rw [a3 c o w] at z; cases z⟩
theorem Tst.wk {qa qb : Bool} (t : Tst L qa g f H env env1 σ H1 f1) (h : qb = true → qa = true) : Tst L qb g f H env env1 σ H1 f1 := ⟨t.ok, t.st, t.nf, fun q => t.qui (h q)⟩
theorem Pst.wk {qa qb al : Bool} {m : M} {v : V} {fm : List Addr} (u : Pst L al qa g f H env m env2 σ v H2 f2 fm) (h : qb = true → qa = true) : Pst L al qb g f H env m env2 σ v H2 f2 fm := ⟨u.ok, u.st, u.nf, u.nm, u.rep, u.ali, fun q => u.qui (h q)⟩

theorem snd_not (a : Ex) (ha : Snd L T R a) : Snd L T R (.not a) := by
  refine ⟨fun C e h X c => ?_, fun C e h X c => ?_⟩
  · cases e with
    | UnaryOp p x pos =>
      cases p with
      | Not =>
        refine PE.imp (pe_notT (ha.e C x h X c)) fun σ H Q ⟨g, f, env, m, env', hE, hm, q⟩ => ?_
        obtain ⟨x, env1, hx, hm⟩ := bind_ok hm
        obtain ⟨hn, rfl⟩ := lift_ok hm
        obtain ⟨b, hn2, rfl⟩ := mapO_ok hn
        obtain ⟨d, hd, hn3⟩ := bindO_ok hn2
        refine tE_one hE hx fun va H1 f1 t rx => ⟨b, ?_, q _ _ _ _ (t.pure rfl)⟩
        rw [c.K]
        exact truth_rep (rx d hd) hn3
      | _ => cases h
    | _ => cases h
  · cases e with
    | UnaryOp p x pos =>
      cases p with
      | Not =>
        refine PT.imp (pt_not (ha.t C x h X c)) fun σ H Q ⟨g, f, env, b, env', hE, hm, q⟩ => ?_
        obtain ⟨x, env1, hx, hm⟩ := bind_ok hm
        cases hm
        exact ⟨g, f, env, x, _, hE, hx, fun H' f' t => q H' f' t⟩
      | _ => cases h
    | _ => cases h
theorem boolR_ok {r : Rs M} {b : Bool} {env : En} (h : boolR r = .ok b env) : r = .ok (.pure (.bl b)) env := by
  unfold boolR at h
  split at h
  · cases h; rfl
  · cases h
  · cases h
  · cases h
theorem pw_bool {op : BoolOp} {es : List Expr} {pos : Pos} {t : TT} (h : PT X (.BoolOp op es pos) t) : PW X (.BoolOp op es pos) t := ⟨fun wh pins s σ H Q I q => h.run pins s σ H Q I q⟩
/-- the value's parts -/
theorem and_rd {a b : Ex} (hal : isAl a = false) (hbl : isAl b = false) (σ : L2.St) (H : Hp) (Q : VK) (h : tE L R (.and a b) σ H Q) : tAndV (tE L R a) (tE L R b) σ H Q := by
  obtain ⟨g, f, env, m, env', hE, hm, q⟩ := h
  obtain ⟨x, env1, hx, hm⟩ := bind_ok hm
  have hx := boolR_ok hx
  refine tE_one hE hx fun va H1 f1 t rx => ⟨x, (rx _ rfl).bl, ?_⟩
  cases x with
  | true =>
    rw [if_pos rfl] at hm
    refine iteT ⟨g, f1, env1, m, env', t.ok, hm, fun v H' f' fm p => q v H' f' fm ?_⟩
    rw [hbl] at p
    exact t.pst p
  | false =>
    rw [if_neg Bool.false_ne_true] at hm
    cases hm
    exact iteF (q _ _ _ _ ((t.pure (d := .bl false) (v := .bl false) rfl).wk fun z => (Bool.and_eq_true _ _ |>.mp z).1))
theorem or_rd {a b : Ex} (hal : isAl a = false) (hbl : isAl b = false) (σ : L2.St) (H : Hp) (Q : VK) (h : tE L R (.or a b) σ H Q) : tOrV (tE L R a) (tE L R b) σ H Q := by
  obtain ⟨g, f, env, m, env', hE, hm, q⟩ := h
  obtain ⟨x, env1, hx, hm⟩ := bind_ok hm
  have hx := boolR_ok hx
  refine tE_one hE hx fun va H1 f1 t rx => ⟨x, (rx _ rfl).bl, ?_⟩
  cases x with
  | false =>
    rw [if_neg Bool.false_ne_true] at hm
    refine iteF ⟨g, f1, env1, m, env', t.ok, hm, fun v H' f' fm p => q v H' f' fm ?_⟩
    rw [hbl] at p
    exact t.pst p
  | true =>
    rw [if_pos rfl] at hm
    cases hm
    exact iteT (q _ _ _ _ ((t.pure (d := .bl true) (v := .bl true) rfl).wk fun z => (Bool.and_eq_true _ _ |>.mp z).1))
theorem and_td {a b : Ex} (σ : L2.St) (H : Hp) (Q : Bool → Hp → Prop) (h : tT L R (.and a b) σ H Q) : tAnd (tT L R a) (tT L R b) σ H Q := by
  obtain ⟨g, f, env, m, env', hE, hm, q⟩ := h
  obtain ⟨x, env1, hx, hm⟩ := bind_ok hm
  refine ⟨g, f, env, x, env1, hE, hx, fun H1 f1 t => ?_⟩
  cases x with
  | true =>
    rw [if_pos rfl] at hm
    exact iteT ⟨g, f1, env1, m, env', t.ok, hm, fun H' f' p => q H' f' (t.trans p)⟩
  | false =>
    rw [if_neg Bool.false_ne_true] at hm
    cases hm
    exact iteF (q _ _ (t.wk fun z => (Bool.and_eq_true _ _ |>.mp z).1))
theorem or_td {a b : Ex} (σ : L2.St) (H : Hp) (Q : Bool → Hp → Prop) (h : tT L R (.or a b) σ H Q) : tOr (tT L R a) (tT L R b) σ H Q := by
  obtain ⟨g, f, env, m, env', hE, hm, q⟩ := h
  obtain ⟨x, env1, hx, hm⟩ := bind_ok hm
  refine ⟨g, f, env, x, env1, hE, hx, fun H1 f1 t => ?_⟩
  cases x with
  | false =>
    rw [if_neg Bool.false_ne_true] at hm
    exact iteF ⟨g, f1, env1, m, env', t.ok, hm, fun H' f' p => q H' f' (t.trans p)⟩
  | true =>
    rw [if_pos rfl] at hm
    cases hm
    exact iteT (q _ _ (t.wk fun z => (Bool.and_eq_true _ _ |>.mp z).1))
theorem snd_and (a b : Ex) (ha : Snd L T R a) (hb : Snd L T R b) : Snd L T R (.and a b) := by
  refine ⟨fun C e h X c => ?_, fun C e h X c => ?_⟩
  · cases e with
    | BoolOp p xs pos =>
      cases p with
      | Or => cases h
      | And =>
        match xs, h with
        | [x, y], h =>
          have h : (!isAl a && !isAl b && (ck T a).e C x && (ck T b).e C y) = true := h
          simp only [Bool.and_eq_true, Bool.not_eq_true'] at h
          obtain ⟨⟨⟨h1, h2⟩, h3⟩, h4⟩ := h
          exact PE.imp (pe_and (ha.e C x h3 X c) (pe_one (hb.e C y h4 X c))) (and_rd h1 h2)
        | x :: y :: z :: r, h =>
          have h : (!isAl a && !isAl b && (ck T a).e C x && (ck T b).e C (.BoolOp .And (y :: z :: r) pos)) = true := h
          simp only [Bool.and_eq_true, Bool.not_eq_true'] at h
          obtain ⟨⟨⟨h1, h2⟩, h3⟩, h4⟩ := h
          exact PE.imp (pe_and (ha.e C x h3 X c) (hb.e C _ h4 X c)) (and_rd h1 h2)
    | _ => cases h
  · cases e with
    | BoolOp p xs pos =>
      cases p with
      | Or => cases h
      | And =>
        match xs, h with
        | [x, y], h =>
          have h : (!isAl a && !isAl b && (ck T a).e C x && (ck T b).e C y) = true := h
          simp only [Bool.and_eq_true, Bool.not_eq_true'] at h
          obtain ⟨⟨⟨h1, h2⟩, h3⟩, h4⟩ := h
          exact PT.imp (pw_and (ha.t C x h3 X c) (pw_and1 (hb.t C y h4 X c))).pt and_td
        | x :: y :: z :: r, h =>
          have h : (!isAl a && !isAl b && (ck T a).e C x && (ck T b).e C (.BoolOp .And (y :: z :: r) pos)) = true := h
          simp only [Bool.and_eq_true, Bool.not_eq_true'] at h
          obtain ⟨⟨⟨h1, h2⟩, h3⟩, h4⟩ := h
          exact PT.imp (pw_and (ha.t C x h3 X c) (pw_bool (hb.t C _ h4 X c))).pt and_td
    | _ => cases h
theorem snd_or (a b : Ex) (ha : Snd L T R a) (hb : Snd L T R b) : Snd L T R (.or a b) := by
  refine ⟨fun C e h X c => ?_, fun C e h X c => ?_⟩
  · cases e with
    | BoolOp p xs pos =>
      cases p with
      | And => cases h
      | Or =>
        match xs, h with
        | [x, y], h =>
          have h : (!isAl a && !isAl b && (ck T a).e C x && (ck T b).e C y) = true := h
          simp only [Bool.and_eq_true, Bool.not_eq_true'] at h
          obtain ⟨⟨⟨h1, h2⟩, h3⟩, h4⟩ := h
          exact PE.imp (pe_or (ha.e C x h3 X c) (pe_one (hb.e C y h4 X c))) (or_rd h1 h2)
        | x :: y :: z :: r, h =>
          have h : (!isAl a && !isAl b && (ck T a).e C x && (ck T b).e C (.BoolOp .Or (y :: z :: r) pos)) = true := h
          simp only [Bool.and_eq_true, Bool.not_eq_true'] at h
          obtain ⟨⟨⟨h1, h2⟩, h3⟩, h4⟩ := h
          exact PE.imp (pe_or (ha.e C x h3 X c) (hb.e C _ h4 X c)) (or_rd h1 h2)
    | _ => cases h
  · cases e with
    | BoolOp p xs pos =>
      cases p with
      | And => cases h
      | Or =>
        match xs, h with
        | [x, y], h =>
          have h : (!isAl a && !isAl b && (ck T a).e C x && (ck T b).e C y) = true := h
          simp only [Bool.and_eq_true, Bool.not_eq_true'] at h
          obtain ⟨⟨⟨h1, h2⟩, h3⟩, h4⟩ := h
          exact PT.imp (pw_or (ha.t C x h3 X c) (pw_or1 (hb.t C y h4 X c))).pt or_td
        | x :: y :: z :: r, h =>
          have h : (!isAl a && !isAl b && (ck T a).e C x && (ck T b).e C (.BoolOp .Or (y :: z :: r) pos)) = true := h
          simp only [Bool.and_eq_true, Bool.not_eq_true'] at h
          obtain ⟨⟨⟨h1, h2⟩, h3⟩, h4⟩ := h
          exact PT.imp (pw_or (ha.t C x h3 X c) (pw_bool (hb.t C _ h4 X c))).pt or_td
    | _ => cases h
theorem pt_ifExp {c a b : Expr} {pos : Pos} {tc ta tb : TT} (hc : PT X c tc) (ha : PT X a ta) (hb : PT X b tb) : PT X (.IfExp c a b pos) (fun σ H Q => tc σ H fun k H1 => if k = true then ta σ H1 Q else tb σ H1 Q) := by
  refine ⟨fun pins s σ H Q I h => ?_⟩
  show wpAny _ _ (do if ← isTrue c X.env (eval c X.env) then isTrue a X.env (eval a X.env) else isTrue b X.env (eval b X.env)) _ _ _
  refine wpAny_bind (thn (hc.run pins s σ H _ I h) fun d s1 ⟨H1, I1, q1⟩ => ?_)
  cases d with
  | true => exact ha.run pins s1 σ H1 Q I1 q1
  | false => exact hb.run pins s1 σ H1 Q I1 q1
theorem snd_ite (k a b : Ex) (hk : Snd L T R k) (ha : Snd L T R a) (hb : Snd L T R b) : Snd L T R (.ite k a b) := by
  refine ⟨fun C e h X c => ?_, fun C e h X c => ?_⟩
  · cases e with
    | IfExp x y z pos =>
      have h : (!isAl a && !isAl b && (ck T k).e C x && (ck T a).e C y && (ck T b).e C z) = true := h
      simp only [Bool.and_eq_true, Bool.not_eq_true'] at h
      obtain ⟨⟨⟨⟨h1, h2⟩, h3⟩, h4⟩, h5⟩ := h
      refine PE.imp (pe_ifExp (hk.t C x h3 X c) (ha.e C y h4 X c) (hb.e C z h5 X c)) fun σ H Q ⟨g, f, env, m, env', hE, hm, q⟩ => ?_
      obtain ⟨x, env1, hx, hm⟩ := bind_ok hm
      refine ⟨g, f, env, x, env1, hE, hx, fun H1 f1 t => ?_⟩
      cases x with
      | true =>
        rw [if_pos rfl] at hm
        refine iteT ⟨g, f1, env1, m, env', t.ok, hm, fun v H' f' fm p => q v H' f' fm ?_⟩
        rw [h1] at p
        exact (t.pst p).wk fun z => by
          have z : (quiet k && quiet a && quiet b) = true := z
          simp only [Bool.and_eq_true] at z ⊢
          exact z.1
      | false =>
        rw [if_neg Bool.false_ne_true] at hm
        refine iteF ⟨g, f1, env1, m, env', t.ok, hm, fun v H' f' fm p => q v H' f' fm ?_⟩
        rw [h2] at p
        exact (t.pst p).wk fun z => by
          have z : (quiet k && quiet a && quiet b) = true := z
          simp only [Bool.and_eq_true] at z ⊢
          exact ⟨z.1.1, z.2⟩
    | _ => cases h
  · cases e with
    | IfExp x y z pos =>
      have h : (!isAl a && !isAl b && (ck T k).e C x && (ck T a).e C y && (ck T b).e C z) = true := h
      simp only [Bool.and_eq_true, Bool.not_eq_true'] at h
      obtain ⟨⟨⟨⟨h1, h2⟩, h3⟩, h4⟩, h5⟩ := h
      refine PT.imp (pt_ifExp (hk.t C x h3 X c) (ha.t C y h4 X c) (hb.t C z h5 X c)) fun σ H Q ⟨g, f, env, m, env', hE, hm, q⟩ => ?_
      obtain ⟨x, env1, hx, hm⟩ := bind_ok hm
      refine ⟨g, f, env, x, env1, hE, hx, fun H1 f1 t => ?_⟩
      cases x with
      | true =>
        rw [if_pos rfl] at hm
        exact iteT ⟨g, f1, env1, m, env', t.ok, hm, fun H' f' p => q H' f' ((t.trans p).wk fun z => by
          have z : (quiet k && quiet a && quiet b) = true := z
          simp only [Bool.and_eq_true] at z ⊢
          exact z.1)⟩
      | false =>
        rw [if_neg Bool.false_ne_true] at hm
        exact iteF ⟨g, f1, env1, m, env', t.ok, hm, fun H' f' p => q H' f' ((t.trans p).wk fun z => by
          have z : (quiet k && quiet a && quiet b) = true := z
          simp only [Bool.and_eq_true] at z ⊢
          exact ⟨z.1.1, z.2⟩)⟩
    | _ => cases h
end
end FB

set_option Elab.async false
set_option linter.all false
set_option maxRecDepth 10000
/-! FbSnd5: comparisons. -/
namespace FB
open PySem PySem.Spec PyProof.Rows L2
mutual
def toP : D → PyData
  | .non => .none | .bl b => .bool b | .int i => .int i | .str x => .str (mkS x)
  | .tup xs => .tuple (toPs xs) | .lst xs => .list (toPs xs)
  | _ => .none
def toPs : List D → List PyData
  | [] => []
  | d :: ds => toP d :: toPs ds
end
theorem mkS_beq (x y : List Nat) : (mkS x == mkS y) = (x == y) := by
  rw [Bool.eq_iff_iff]
  simp only [beq_iff_eq]
  constructor
  · intro h
    have := congrArg (fun s => s.cps.toList) h
    simpa using this
  · rintro rfl; rfl
theorem mkS_inj {x y : List Nat} (h : mkS x = mkS y) : x = y := by
  have := congrArg (fun s => s.cps.toList) h
  simpa using this
mutual
theorem eqv_toP : ∀ (n : Nat) (a b : D), flatN n a = true → flatN n b = true → PyData.eqv (toP a) (toP b) = eqD a b
  | n, .non, b, ha, hb => by cases b <;> first | rfl | (cases n <;> cases hb)
  | n, .bl _, b, ha, hb => by cases b <;> first | rfl | (cases n <;> cases hb)
  | n, .int _, b, ha, hb => by cases b <;> first | rfl | (cases n <;> cases hb)
  | n, .str x, b, ha, hb => by
    cases b with
    | str y => exact mkS_beq x y
    | _ => first | rfl | (cases n <;> cases hb)
  | 0, .tup _, _, ha, _ => by cases ha
  | 0, .lst _, _, ha, _ => by cases ha
  | n + 1, .tup xs, b, ha, hb => by
    cases b with
    | tup ys => exact eqv_toPs n xs ys ha hb
    | _ => first | rfl | cases hb
  | n + 1, .lst xs, b, ha, hb => by
    cases b with
    | lst ys => exact eqv_toPs n xs ys ha hb
    | _ => first | rfl | cases hb
  | n, .dic _, _, ha, _ => by cases n <;> cases ha
  | n, .ins _ _, _, ha, _ => by cases n <;> cases ha
  | n, .cls _, _, ha, _ => by cases n <;> cases ha
  | n, .frl _, _, ha, _ => by cases n <;> cases ha
theorem eqv_toPs : ∀ (n : Nat) (a b : List D), a.all (flatN n) = true → b.all (flatN n) = true → PyData.eqvAll (toPs a) (toPs b) = eqDs a b
  | _, [], [], _, _ => rfl
  | _, [], _ :: _, _, _ => rfl
  | _, _ :: _, [], _, _ => rfl
  | n, a :: as, b :: bs, ha, hb => by
    rw [List.all_cons, Bool.and_eq_true] at ha hb
    show (PyData.eqv (toP a) (toP b) && PyData.eqvAll (toPs as) (toPs bs)) = (eqD a b && eqDs as bs)
    rw [eqv_toP n a b ha.1 hb.1, eqv_toPs n as bs ha.2 hb.2]
end
theorem strOk_mkS {x : List Nat} (h : (x.all fun c => decide (c < 1114112)) = true) : PySem.PyData.strOk (mkS x) = true := by
  unfold PySem.PyData.strOk
  rw [← Array.all_toList]
  exact h
mutual
theorem lay_toP : ∀ (n : Nat) (a : D), flatN n a = true → PyData.canLay0 (toP a) = true ∧ PyData.depth (toP a) ≤ n
  | n, .non, _ => ⟨rfl, Nat.zero_le _⟩
  | n, .bl _, _ => ⟨rfl, Nat.zero_le _⟩
  | n, .int _, _ => ⟨rfl, Nat.zero_le _⟩
  | n, .str x, h => ⟨strOk_mkS (by cases n <;> exact h), Nat.zero_le _⟩
  | 0, .tup _, h => by cases h
  | 0, .lst _, h => by cases h
  | n + 1, .tup xs, h => by
    obtain ⟨a, b⟩ := lay_toPs n xs h
    exact ⟨a, Nat.succ_le_succ b⟩
  | n + 1, .lst xs, h => by
    obtain ⟨a, b⟩ := lay_toPs n xs h
    exact ⟨a, Nat.succ_le_succ b⟩
  | n, .dic _, ha => by cases n <;> cases ha
  | n, .ins _ _, ha => by cases n <;> cases ha
  | n, .cls _, ha => by cases n <;> cases ha
  | n, .frl _, ha => by cases n <;> cases ha
theorem lay_toPs : ∀ (n : Nat) (a : List D), a.all (flatN n) = true → PyData.canLayAll0 (toPs a) = true ∧ PyData.depthAll (toPs a) ≤ n
  | _, [], _ => ⟨rfl, Nat.zero_le _⟩
  | n, a :: as, h => by
    rw [List.all_cons, Bool.and_eq_true] at h
    obtain ⟨h1, h2⟩ := lay_toP n a h.1
    obtain ⟨h3, h4⟩ := lay_toPs n as h.2
    refine ⟨?_, Nat.max_le.mpr ⟨h2, h4⟩⟩
    show (PyData.canLay0 (toP a) && PyData.canLayAll0 (toPs as)) = true
    rw [h1, h3]; rfl
end
theorem shaped_toP {a : D} (h : flatD a = true) : SeqAt.shaped (toP a) = true := by
  obtain ⟨h1, h2⟩ := lay_toP 60 a h
  unfold SeqAt.shaped
  rw [h1, decide_eq_true (Nat.le_trans h2 (by decide))]; rfl
section
variable {L : Lk} {T : Tx} {R : Rt} {C : Sc} {X : Cx}
variable {g f f1 f2 : List Addr} {H H1 H2 : Hp} {env env1 env2 : En} {σ : L2.St} {qt : Bool} {O : List Addr}
mutual
theorem dp_of : ∀ (n : Nat) (d : D) (v : V), flatN n d = true → RepD L O H d v → Dp L.K H v (toP d)
  | n, .non, v, _, r => by rw [show v = .non from r]; exact .non
  | n, .bl b, v, _, r => by rw [show v = .bl b from r]; exact .bl b
  | n, .int b, v, _, r => by rw [show v = .int b from r]; exact .int b
  | n, .str b, v, _, r => by rw [show v = .str _ from r]; exact .str _
  | 0, .tup _, _, h, _ => by cases h
  | 0, .lst _, _, h, _ => by cases h
  | n + 1, .tup ds, v, h, ⟨a, vs, e, q, p⟩ => by rw [e]; exact .tup q.sq (dps_of n ds vs h p)
  | n + 1, .lst ds, v, h, ⟨a, vs, e, q, p⟩ => by rw [e]; exact .lst (.of q.2) (dps_of n ds vs h p)
  | n, .dic _, _, ha, _ => by cases n <;> cases ha
  | n, .ins _ _, _, ha, _ => by cases n <;> cases ha
  | n, .cls _, _, ha, _ => by cases n <;> cases ha
  | n, .frl _, _, ha, _ => by cases n <;> cases ha
theorem dps_of : ∀ (n : Nat) (d : List D) (v : List V), d.all (flatN n) = true → RepDs L O H d v → DpAll L.K H v (toPs d)
  | _, [], [], _, _ => .nil
  | n, d :: ds, v :: vs, h, ⟨a, b⟩ => by
    rw [List.all_cons, Bool.and_eq_true] at h
    exact .cons (dp_of n d v h.1 a) (dps_of n ds vs h.2 b)
end
theorem dpv_of {d : D} {v : V} (h : flatD d = true) (r : RepV L O H d v) : Dp L.K H v (toP d) := by
  cases r with
  | d r => exact dp_of 60 d v h r
  | l e q => exact .lst (.of e) (dps_of 59 _ _ h q)
theorem scal_of {a b : D} {v u : V} (h : scalD a b = true) (r : RepV L O H a v) (q : RepV L O H b u) : scal v u = true ∧ decide (v = u) = eqD a b := by
  cases a <;> cases b <;> first
    | (rw [r.non, q.non]; exact ⟨rfl, rfl⟩)
    | (rw [r.non, q.int]; exact ⟨rfl, rfl⟩)
    | (rw [r.int, q.non]; exact ⟨rfl, rfl⟩)
    | (rw [r.non, q.bl]; exact ⟨rfl, rfl⟩)
    | (rw [r.bl, q.non]; exact ⟨rfl, rfl⟩)
    | (rw [r.non, q.str]; exact ⟨rfl, rfl⟩)
    | (rw [r.str, q.non]; exact ⟨rfl, rfl⟩)
    | (rw [r.int, q.int]; exact ⟨rfl, dec_int⟩)
    | (rw [r.bl, q.bl]; exact ⟨rfl, dec_bl⟩)
    | (rw [r.str, q.str]; exact ⟨rfl, dec_str.trans (mkS_beq _ _)⟩)
    | (rw [r.int, q.str]; exact ⟨rfl, rfl⟩)
    | (rw [r.str, q.int]; exact ⟨rfl, rfl⟩)
    | (rw [r.bl, q.str]; exact ⟨rfl, rfl⟩)
    | (rw [r.str, q.bl]; exact ⟨rfl, rfl⟩)
    | cases h
theorem atom_of {a : D} {v : V} (h : atomD a = true) (r : RepV L O H a v) : flatV v = true ∧ RepD L O H a v := by
  cases a with
  | non => rw [r.non]; exact ⟨rfl, rfl⟩
  | bl _ => rw [r.bl]; exact ⟨rfl, rfl⟩
  | int _ => rw [r.int]; exact ⟨rfl, rfl⟩
  | str _ => rw [r.str]; exact ⟨rfl, rfl⟩
  | _ => cases h
theorem eqV_of {a b : D} {v u : V} (ha : atomD a = true) (hb : atomD b = true) (r : RepD L O H a v) (q : RepD L O H b u) : eqV v u = eqD a b := by
  cases a with
  | non => cases b <;> first | (rw [show v = _ from r, show u = _ from q]; rfl) | cases hb
  | bl _ => cases b <;> first | (rw [show v = _ from r, show u = _ from q]; rfl) | cases hb
  | int _ => cases b <;> first | (rw [show v = _ from r, show u = _ from q]; rfl) | cases hb
  | str x =>
    cases b with
    | str y =>
      rw [show v = _ from r, show u = _ from q]
      exact mkS_beq x y
    | _ => first | (rw [show v = _ from r, show u = _ from q]; rfl) | cases hb
  | _ => cases ha
theorem inV_of {a : D} {v : V} (ha : atomD a = true) (r : RepD L O H a v) : ∀ {ds : List D} {vs : List V}, ds.all atomD = true → RepDs L O H ds vs → vs.all flatV = true ∧ inV v vs = ds.any fun x => eqD x a
  | [], [], _, _ => ⟨rfl, rfl⟩
  | d :: ds, u :: us, h, ⟨p, q⟩ => by
    rw [List.all_cons, Bool.and_eq_true] at h
    obtain ⟨h1, h2⟩ := inV_of ha r h.2 q
    obtain ⟨h3, _⟩ := atom_of h.1 (.d p)
    refine ⟨by rw [List.all_cons, h3, h1]; rfl, ?_⟩
    show (eqV u v || inV v us) = (eqD d a || _)
    rw [h2, eqV_of h.1 ha p r]
theorem anyP {a : D} (ha : flatD a = true) : ∀ {ds : List D}, ds.all (flatN 60) = true → ((toPs ds).any fun z => PyData.eqv z (toP a)) = ds.any fun x => eqD x a
  | [], _ => rfl
  | d :: ds, h => by
    rw [List.all_cons, Bool.and_eq_true] at h
    show (PyData.eqv (toP d) (toP a) || (toPs ds).any _) = (eqD d a || _)
    rw [anyP ha h.2, eqv_toP 60 d a h.1 ha]
theorem flatN_mono : ∀ (n : Nat) (d : D), flatN n d = true → flatN (n + 1) d = true := by
  intro n
  induction n with
  | zero => intro d h; cases d <;> first | rfl | exact h | cases h
  | succ n ih =>
    intro d h
    cases d with
    | tup xs => exact List.all_eq_true.mpr fun x hx => ih x (List.all_eq_true.mp h x hx)
    | lst xs => exact List.all_eq_true.mpr fun x hx => ih x (List.all_eq_true.mp h x hx)
    | _ => first | rfl | exact h | cases h

/-! dicts by their keys -/
theorem kKey_inj {a b : Sum Int (List Nat)} (h : kKey a = kKey b) : a = b := by
  cases a with
  | inl i => cases b with
    | inl j => exact congrArg _ (Sum.inl.inj h)
    | inr y => cases h
  | inr x => cases b with
    | inl j => cases h
    | inr y => exact congrArg _ (mkS_inj (Sum.inr.inj h))
theorem look_rep (k : Sum Int (List Nat)) : ∀ {ds : List (Sum Int (List Nat) × D)} {vs : List (Key × V)}, RepDk L O H ds vs →
    (lookD k ds = none → valV vs (kKey k) = none) ∧ ∀ d, lookD k ds = some d → ∃ v, valV vs (kKey k) = some v ∧ RepD L O H d v
  | [], [], _ => ⟨fun _ => rfl, fun _ h => (nomatch h)⟩
  | (j, d) :: ds, (jv, v) :: vs, ⟨e, p, q⟩ => by
    subst e
    obtain ⟨h1, h2⟩ := look_rep k q
    by_cases hk : j = k
    · subst hk
      refine ⟨fun h => ?_, fun d' h => ⟨v, ?_, ?_⟩⟩
      · simp [lookD] at h
      · simp [valV]
      · simp only [lookD, if_pos] at h
        cases h
        exact p
    · have hkk : ¬ kKey j = kKey k := fun z => hk (kKey_inj z)
      have e1 : valV ((kKey j, v) :: vs) (kKey k) = valV vs (kKey k) := by simp [valV, hkk]
      have e2 : lookD k ((j, d) :: ds) = lookD k ds := by simp [lookD, hk]
      rw [e1, e2]
      exact ⟨h1, h2⟩
theorem keyOf_rep {d : D} {v : V} {k : Sum Int (List Nat)} (h : keyOf d = some k) (r : RepV L O H d v) : v = kV (kKey k) := by
  cases d with
  | int i => cases h; exact r.int
  | str x => cases h; exact r.str
  | _ => cases h
theorem dget_rep {ds : List (Sum Int (List Nat) × D)} {a : Addr} {vs : List (Key × V)} {d : D} {v : V} {k : Sum Int (List Nat)} (e : Rd H a (.dK vs)) (q : RepDk L O H ds vs) (h : keyOf d = some k) (r : RepV L O H d v) :
    ∃ o, DGet H a v o ∧ o.isSome = (lookD k ds).isSome ∧ ∀ d, lookD k ds = some d → ∃ v, o = some v ∧ RepD L O H d v := by
  obtain ⟨h1, h2⟩ := look_rep k q
  refine ⟨valV vs (kKey k), .inl ⟨vs, kKey k, e, keyOf_rep h r, rfl⟩, ?_, h2⟩
  cases w : lookD k ds with
  | none => rw [h1 w]; rfl
  | some d => obtain ⟨v, hv, _⟩ := h2 d w; rw [hv]; rfl
def rInK : R2 := fun x y H Q => ∃ a o, y = .ref a ∧ DGet H a x o ∧ Q (.bl o.isSome) H
def rNotInK : R2 := fun x y H Q => ∃ a o, y = .ref a ∧ DGet H a x o ∧ Q (.bl (!o.isSome)) H
theorem op_inK (hu : X.A.units + 1 < cLine) : OpR X (compareOp .In) rInK := by
  intro pins s σ H x y v u Q I rx ry h
  obtain ⟨a, o, rfl, g, q⟩ := h
  cases ry
  exact d_in hu I g rx fun s3 I3 => ⟨.bl o.isSome, H, I3, rfl, q⟩
theorem op_notInK (hu : X.A.units + 1 < cLine) : OpR X (compareOp .NotIn) rNotInK := by
  intro pins s σ H x y v u Q I rx ry h
  obtain ⟨a, o, rfl, g, q⟩ := h
  cases ry
  exact d_notIn hu I g rx fun s3 I3 => ⟨.bl (!o.isSome), H, I3, rfl, q⟩

def cmRd (K : PySem.W.Frag) : C2 → R2
  | .eq => fun x y H Q => rEq x y H Q ∨ rEqD K x y H Q
  | .ne => fun x y H Q => rNe x y H Q ∨ rNeD K x y H Q
  | .lt => fun x y H Q => (rI0 fun i j => .bl (decide (i < j))) x y H Q ∨ ∃ i j, x = .str i ∧ y = .str j ∧ Q (.bl (decide (i.cps.toList < j.cps.toList))) H
  | .le => fun x y H Q => (rI0 fun i j => .bl (decide (i ≤ j))) x y H Q ∨ ∃ i j, x = .str i ∧ y = .str j ∧ Q (.bl (!decide (j.cps.toList < i.cps.toList))) H
  | .gt => fun x y H Q => (rI0 fun i j => .bl (decide (j < i))) x y H Q ∨ ∃ i j, x = .str i ∧ y = .str j ∧ Q (.bl (decide (j.cps.toList < i.cps.toList))) H
  | .ge => fun x y H Q => (rI0 fun i j => .bl (decide (j ≤ i))) x y H Q ∨ ∃ i j, x = .str i ∧ y = .str j ∧ Q (.bl (!decide (i.cps.toList < j.cps.toList))) H
  | .isin => fun x y H Q => ((rIn K false x y H Q ∨ rInD K x y H Q) ∨ rInK x y H Q) ∨ ∃ (c : Nat) (z : Str), x = .str ⟨#[c]⟩ ∧ y = .str z ∧ Q (.bl (decide (c ∈ z.cps.toList))) H
  | .notin => fun x y H Q => ((rIn K true x y H Q ∨ rNotInD K x y H Q) ∨ rNotInK x y H Q) ∨ ∃ (c : Nat) (z : Str), x = .str ⟨#[c]⟩ ∧ y = .str z ∧ Q (.bl (!decide (c ∈ z.cps.toList))) H
  | .isN => fun x y H Q => y = .non ∧ Q (.bl (decide (x = .non))) H
  | .notN => fun x y H Q => y = .non ∧ Q (.bl (!decide (x = .non))) H
theorem cmRd_ok (hu : X.A.units + 65 < cLine) (o : C2) : OpR X (compareOp (c2Op o)) (cmRd X.K o) := by
  cases o with
  | eq => exact op_eq.or (op_eqD (by omega))
  | ne => exact op_ne.or (op_neD (by omega))
  | lt => exact op_lt.or op_lt_str
  | le => exact op_le.or op_le_str
  | gt => exact op_gt.or op_gt_str
  | ge => exact op_ge.or op_ge_str
  | isin => exact ((op_in_seq.or (op_inD hu)).or (op_inK (by omega))).or op_in_sign
  | notin => exact ((op_notIn_seq.or (op_notInD hu)).or (op_notInK (by omega))).or op_notIn_sign
  | isN => exact op_isN
  | notN => exact op_notN
theorem isNon_of {a : D} {v : V} (r : RepV L O H a v) : decide (v = .non) = isNonD a := by
  cases r with
  | d r =>
    cases a with
    | non => rw [show v = .non from r]; rfl
    | bl _ => rw [show v = _ from r]; rfl
    | int _ => rw [show v = _ from r]; rfl
    | str _ => rw [show v = _ from r]; rfl
    | tup _ => obtain ⟨_, _, rfl, _⟩ := r; rfl
    | lst _ => obtain ⟨_, _, rfl, _⟩ := r; rfl
    | dic _ => obtain ⟨_, _, rfl, _⟩ := r; rfl
    | ins _ _ => obtain ⟨_, _, _, rfl, _⟩ := r; rfl
    | cls _ => rw [show v = _ from r]; rfl
    | frl _ => obtain ⟨_, _, rfl, _⟩ := r; rfl
  | l e q => rfl
theorem semC_ok {o : C2} {dx dy : D} {b : Bool} {va vb : V} {Q : VK} (h : semC o dx dy = some b) (rx : RepV L O H dx va) (ry : RepV L O H dy vb) (q : Q (.bl b) H) : cmRd L.K o va vb H Q := by
  unfold semC at h
  split at h
  · split at h
    · rename_i hc
      cases h
      rw [Bool.or_eq_true, Bool.and_eq_true] at hc
      rcases hc with hc | ⟨h1, h2⟩
      · obtain ⟨h1, h2⟩ := scal_of hc rx ry
        exact .inl ⟨h1, by rw [h2]; exact q⟩
      · refine .inr ⟨_, _, dpv_of h1 rx, dpv_of h2 ry, shaped_toP h1, shaped_toP h2, ?_⟩
        rw [eqv_toP 60 _ _ h1 h2]; exact q
    · cases h
  · split at h
    · rename_i hc
      cases h
      rw [Bool.or_eq_true, Bool.and_eq_true] at hc
      rcases hc with hc | ⟨h1, h2⟩
      · obtain ⟨h1, h2⟩ := scal_of hc rx ry
        exact .inl ⟨h1, by rw [h2]; exact q⟩
      · refine .inr ⟨_, _, dpv_of h1 rx, dpv_of h2 ry, shaped_toP h1, shaped_toP h2, ?_⟩
        rw [eqv_toP 60 _ _ h1 h2]; exact q
    · cases h
  · cases h; exact .inl ⟨_, _, rx.int, ry.int, q⟩
  · cases h; exact .inl ⟨_, _, rx.int, ry.int, q⟩
  · cases h; exact .inl ⟨_, _, rx.int, ry.int, q⟩
  · cases h; exact .inl ⟨_, _, rx.int, ry.int, q⟩
  · cases h; exact .inr ⟨_, _, rx.str, ry.str, by simpa [lexLt] using q⟩
  · cases h; exact .inr ⟨_, _, rx.str, ry.str, by simpa [lexLt] using q⟩
  · cases h; exact .inr ⟨_, _, rx.str, ry.str, by simpa [lexLt] using q⟩
  · cases h; exact .inr ⟨_, _, rx.str, ry.str, by simpa [lexLt] using q⟩
  · cases h; exact .inr ⟨_, _, rx.str, ry.str, by simpa using q⟩
  · cases h; exact .inr ⟨_, _, rx.str, ry.str, by simpa using q⟩
  · split at h
    · rename_i hc
      cases h
      obtain ⟨p, vs, rfl, h1, h2⟩ := ry.ls
      rw [Bool.or_eq_true, Bool.and_eq_true, Bool.and_eq_true] at hc
      rcases hc with ⟨k1, k2⟩ | ⟨k1, k2⟩
      · obtain ⟨l1, l2⟩ := atom_of k1 rx
        obtain ⟨l3, l4⟩ := inV_of k1 l2 k2 h2
        exact .inl (.inl (.inl ⟨p, vs, rfl, .inl (.of h1), l1, l3, by rw [if_neg Bool.false_ne_true, l4]; exact q⟩))
      · refine .inl (.inl (.inr ⟨_, _, dpv_of k1 rx, .lst (.of h1) (dps_of 59 _ _ k2 h2), shaped_toP k1, shaped_toP (a := .lst _) k2, ?_⟩))
        rw [anyP k1 (List.all_eq_true.mpr fun x hx => flatN_mono 59 x (List.all_eq_true.mp k2 x hx))]
        exact q
    · cases h
  · split at h
    · rename_i hc
      cases h
      obtain ⟨p, vs, rfl, h1, h2⟩ := ry.tup
      rw [Bool.and_eq_true] at hc
      obtain ⟨k1, k2⟩ := hc
      obtain ⟨l1, l2⟩ := atom_of k1 rx
      obtain ⟨l3, l4⟩ := inV_of k1 l2 k2 h2
      exact .inl (.inl (.inl ⟨p, vs, rfl, .inr h1.sq, l1, l3, by rw [if_neg Bool.false_ne_true, l4]; exact q⟩))
    · cases h
  · split at h
    · rename_i hc
      cases h
      obtain ⟨p, vs, rfl, h1, h2⟩ := ry.ls
      rw [Bool.or_eq_true, Bool.and_eq_true, Bool.and_eq_true] at hc
      rcases hc with ⟨k1, k2⟩ | ⟨k1, k2⟩
      · obtain ⟨l1, l2⟩ := atom_of k1 rx
        obtain ⟨l3, l4⟩ := inV_of k1 l2 k2 h2
        exact .inl (.inl (.inl ⟨p, vs, rfl, .inl (.of h1), l1, l3, by rw [if_pos rfl, l4]; exact q⟩))
      · refine .inl (.inl (.inr ⟨_, _, dpv_of k1 rx, .lst (.of h1) (dps_of 59 _ _ k2 h2), shaped_toP k1, shaped_toP (a := .lst _) k2, ?_⟩))
        rw [anyP k1 (List.all_eq_true.mpr fun x hx => flatN_mono 59 x (List.all_eq_true.mp k2 x hx))]
        exact q
    · cases h
  · split at h
    · rename_i hc
      cases h
      obtain ⟨p, vs, rfl, h1, h2⟩ := ry.tup
      rw [Bool.and_eq_true] at hc
      obtain ⟨k1, k2⟩ := hc
      obtain ⟨l1, l2⟩ := atom_of k1 rx
      obtain ⟨l3, l4⟩ := inV_of k1 l2 k2 h2
      exact .inl (.inl (.inl ⟨p, vs, rfl, .inr h1.sq, l1, l3, by rw [if_pos rfl, l4]; exact q⟩))
    · cases h
  · obtain ⟨k, hk, rfl⟩ := mapO_ok h
    obtain ⟨a, vs, rfl, n, e, p⟩ := ry.dic
    obtain ⟨o, h1, h2, _⟩ := dget_rep e p hk rx
    exact .inl (.inr ⟨a, o, rfl, h1, by rw [h2]; exact q⟩)
  · obtain ⟨k, hk, rfl⟩ := mapO_ok h
    obtain ⟨a, vs, rfl, n, e, p⟩ := ry.dic
    obtain ⟨o, h1, h2, _⟩ := dget_rep e p hk rx
    exact .inl (.inr ⟨a, o, rfl, h1, by rw [h2]; exact q⟩)
  · cases h
    exact ⟨ry.non, by rw [isNon_of rx]; exact q⟩
  · cases h
    exact ⟨ry.non, by rw [isNon_of rx]; exact q⟩
  · cases h
theorem noSet_bi {op : CmpOp} {y : Expr} (h : noSet y = true) : behindInMarks op y = false := by
  cases y <;> first | rfl | cases h
theorem snd_cmp (o : C2) (a b : Ex) (ha : Snd L T R a) (hb : Snd L T R b) : Snd L T R (.cmp o a b) := by
  have key : ∀ {x y : Expr} {σ : L2.St} {H : Hp} {Q : VK}, alOk a b = true → tE L R (.cmp o a b) σ H Q → tOp (cmRd L.K o) (tE L R a) (tE L R b) σ H Q := by
    intro x y σ H Q h2 ⟨g, f, env, m, env', hE, hm, q⟩
    obtain ⟨x, env1, hx, hm⟩ := bind_ok hm
    obtain ⟨y, env2, hy, hm⟩ := bind_ok hm
    obtain ⟨hn, rfl⟩ := lift_ok hm
    obtain ⟨bb, hn2, rfl⟩ := mapO_ok hn
    obtain ⟨dx, hdx, hn3⟩ := bindO_ok hn2
    obtain ⟨dy, hdy, hn4⟩ := bindO_ok hn3
    exact tE_two h2 hE hx hy fun va vb H2 f2 t rx ry => semC_ok hn4 (rx dx hdx) (ry dy hdy) (q _ _ _ _ (t.pure rfl))
  refine ⟨fun C e h X c => ?_, fun C e h X c => ?_⟩
  · cases e with
    | Compare x ps ys pos =>
      match ps, ys, h with
      | [p], [y], h =>
        have h : (cmB p (c2Op o) && noSet y && alOk a b && (ck T a).e C x && (ck T b).e C y) = true := h
        simp only [Bool.and_eq_true] at h
        obtain ⟨⟨⟨⟨h1, h0⟩, h2⟩, h3⟩, h4⟩ := h
        have h1 := cmB_eq h1
        subst h1
        refine PE.imp (pe_cmpR (cmRd_ok c.un o) (ha.e C x h3 X c) (hb.e C y h4 X c) (noSet_bi h0)) fun σ H Q hq => ?_
        rw [c.K]
        exact key (x := x) (y := y) h2 hq
    | _ => cases h
  · cases e with
    | Compare x ps ys pos =>
      match ps, ys, h with
      | [p], [y], h =>
        have h : (cmB p (c2Op o) && noSet y && alOk a b && (ck T a).e C x && (ck T b).e C y) = true := h
        simp only [Bool.and_eq_true] at h
        obtain ⟨⟨⟨⟨h1, h0⟩, h2⟩, h3⟩, h4⟩ := h
        have h1 := cmB_eq h1
        subst h1
        refine PT.imp (pt_cmpR (cmRd_ok c.un o) (ha.e C x h3 X c) (hb.e C y h4 X c) (noSet_bi h0)) fun σ H Q ⟨g, f, env, m, env', hE, hm, q⟩ => ?_
        obtain ⟨x, env1, hx, hm⟩ := bind_ok hm
        obtain ⟨hn, rfl⟩ := lift_ok hm
        obtain ⟨dd, hd, hn2⟩ := bindO_ok hn
        have hx2 := hx
        obtain ⟨x1, e1, hx1, hm1⟩ := bind_ok hx2
        obtain ⟨y1, e2, hy1, hm2⟩ := bind_ok hm1
        obtain ⟨hm3, rfl⟩ := lift_ok hm2
        obtain ⟨bb, _, rfl⟩ := mapO_ok hm3
        cases hd
        cases hn2
        rw [c.K]
        exact key (x := .Constant .none 0 ⟨0, 0, 0, 0⟩) (y := .Constant .none 0 ⟨0, 0, 0, 0⟩) h2 ⟨g, f, env, _, _, hE, hx, fun v H' f' fm p => ⟨_, p.rep.2, q H' f' p.tst⟩⟩
    | _ => cases h
end
end FB

set_option Elab.async false
set_option linter.all false
set_option maxRecDepth 10000
/-! FbSnd6: places, subscripts, slices, chains. -/
namespace FB
open PySem PySem.Spec PyProof.Rows L2
section
variable {L : Lk} {T : Tx} {R : Rt} {C : Sc} {X : Cx}
variable {g f f1 f2 : List Addr} {H H1 H2 : Hp} {env env1 env2 : En} {σ : L2.St} {qt : Bool} {O : List Addr}
/-- the reading of a place, its path from the end -/
def tP (L : Lk) (i : Nat) : List Pe → TE
  | [] => tVar i
  | .fld k :: r => tFld L.K (tP L i r) (L.nm k)
  | .ixc k :: r => tOp (rIx L.K) (tP L i r) (tC (.int k))
  | .ixs j :: r => tOp (rIx L.K) (tP L i r) (tVar j)
theorem ab_of {i : Nat} {r : List Pe} {e : Expr} {a : Str} {env : Env} (h : ckP T C i r e = true) : attributeBase e a env (eval e env) = eval e env := by
  cases e with
  | Name _ _ => rfl
  | Attribute _ _ _ => rfl
  | Subscript _ _ _ => rfl
  | _ => cases r with
    | nil => cases h
    | cons p r => cases p <;> cases h
theorem pe_place (c : Cok L T R C X) (i : Nat) : ∀ (r : List Pe) (e : Expr), ckP T C i r e = true → PE X e (tP L i r)
  | [], e, h => by
    cases e with
    | Name n p => exact pe_name c h
    | _ => cases h
  | .fld k :: r, e, h => by
    cases e with
    | Attribute x a p =>
      have h : (decide (a = T.nm k) && ckP T C i r x) = true := h
      simp only [Bool.and_eq_true, decide_eq_true_eq] at h
      obtain ⟨h1, h2⟩ := h
      subst h1
      have e1 : T.nm k = L.nm k := by rw [c.nm]
      rw [e1]
      have := pe_fld (pos := p) (f := L.nm k) (pe_place c i r x h2) (ab_of h2)
      rw [c.K] at this
      exact this
    | _ => cases h
  | .ixc k :: r, e, h => by
    cases e with
    | Subscript x a p =>
      cases a with
      | Constant v j p2 =>
        cases v with
        | int n =>
          have h : (decide (n = (k : Int)) && ckP T C i r x) = true := h
          simp only [Bool.and_eq_true, decide_eq_true_eq] at h
          obtain ⟨h1, h2⟩ := h
          subst h1
          have := pe_ix (pos := p) ix_seq (pe_place c i r x h2) (pe_int (X := X) (i := (k : Int)) (j := j) (pos := p2)) (fun _ _ => rfl)
          rw [c.K] at this
          exact this
        | _ => cases h
      | _ => cases h
    | _ => cases h
  | .ixs k :: r, e, h => by
    cases e with
    | Subscript x a p =>
      cases a with
      | Name n p2 =>
        have h : (nameB C k n && ckP T C i r x) = true := h
        simp only [Bool.and_eq_true] at h
        have := pe_ix (pos := p) ix_seq (pe_place c i r x h.2) (pe_name (pos := p2) c h.1) (fun _ _ => rfl)
        rw [c.K] at this
        exact this
      | _ => cases h
    | _ => cases h
theorem RepDf.look {k c : Nat} : ∀ {ds : List (Nat × D)} {vs : List (Str × V)} {d : D}, RepDf L O H c ds vs → ds.lookup k = some d → ∃ v, vs.lookup (L.nm k) = some v ∧ NoAttr L.K (L.cls c) (L.nm k) ∧ RepD L O H d v
  | [], [], d, _, h => by simp at h
  | (j, d') :: ds, (jv, v) :: vs, d, ⟨⟨e, na⟩, p, q⟩, h => by
    subst e
    by_cases hk : k = j
    · subst hk
      simp only [List.lookup_cons, beq_self_eq_true] at h
      cases h
      exact ⟨v, by simp [List.lookup_cons], na, p⟩
    · have h1 : (k == j) = false := by simpa using hk
      have h2 : (L.nm k == L.nm j) = false := by simpa using fun z => hk (L.inj _ _ z)
      simp only [List.lookup_cons, h1] at h
      obtain ⟨v', e1, e2⟩ := RepDf.look q h
      exact ⟨v', by simp only [List.lookup_cons, h2]; exact e1, e2⟩
theorem RepMf.look {k c : Nat} : ∀ {ds : List (Nat × M)} {vs : List (Str × V)} {fm : List Addr} {d : M}, RepMf L O H c ds vs fm → ds.lookup k = some d →
    ∃ v f1, vs.lookup (L.nm k) = some v ∧ NoAttr L.K (L.cls c) (L.nm k) ∧ RepM L O H d v f1 ∧ ∀ a ∈ f1, a ∈ fm
  | [], [], fm, d, _, h => by simp at h
  | (j, d') :: ds, (jv, v) :: vs, fm, d, ⟨f1, f2, ef, ⟨e, na⟩, p, q⟩, h => by
    subst e
    by_cases hk : k = j
    · subst hk
      simp only [List.lookup_cons, beq_self_eq_true] at h
      cases h
      exact ⟨v, f1, by simp [List.lookup_cons], na, p, fun a ha => ef ▸ List.mem_append_left _ ha⟩
    · have h1 : (k == j) = false := by simpa using hk
      have h2 : (L.nm k == L.nm j) = false := by simpa using fun z => hk (L.inj _ _ z)
      simp only [List.lookup_cons, h1] at h
      obtain ⟨v', g1, e1, e2, e3, e4⟩ := RepMf.look q h
      exact ⟨v', g1, by simp only [List.lookup_cons, h2]; exact e1, e2, e3, fun a ha => ef ▸ List.mem_append_right _ (e4 a ha)⟩
theorem RepMs.get : ∀ {ms : List M} {vs : List V} {fm : List Addr} {i : Nat} {m : M}, RepMs L O H ms vs fm → ms[i]? = some m → ∃ v f1, vs[i]? = some v ∧ RepM L O H m v f1 ∧ ∀ a ∈ f1, a ∈ fm
  | [], _, _, _, _, _, h => by simp at h
  | d :: ds, v :: vs, fm, 0, m, ⟨f1, f2, ef, p, q⟩, h => by
    simp at h; subst h
    exact ⟨v, f1, rfl, p, fun a ha => ef ▸ List.mem_append_left _ ha⟩
  | d :: ds, v :: vs, fm, i + 1, m, ⟨f1, f2, ef, p, q⟩, h => by
    obtain ⟨u, g1, h1, h2, h3⟩ := RepMs.get (i := i) q (by simpa using h)
    exact ⟨u, g1, by simpa using h1, h2, fun a ha => ef ▸ List.mem_append_right _ (h3 a ha)⟩
theorem atI_of {α : Type} {xs : List α} {i : Nat} {x : α} (h : xs[i]? = some x) : atI xs (i : Int) = some x := by
  have hi : i < xs.length := (List.getElem?_eq_some_iff.mp h).1
  unfold atI ixN
  rw [if_pos (by omega), if_pos (by omega)]
  simpa using h
theorem getP_app : ∀ (q : List PeV) (p : PeV) (m : M), getP (q ++ [p]) m = (getP q m).bind (getP [p])
  | [], p, m => by simp [getP]
  | .fld k :: q, p, m => by
    cases m with
    | pure d =>
      cases d with
      | ins c fs =>
        show ((fs.lookup k).bind fun d => getP (q ++ [p]) (.pure d)) = ((fs.lookup k).bind fun d => getP q (.pure d)).bind (getP [p])
        cases fs.lookup k with
        | none => rfl
        | some d => exact getP_app q p (.pure d)
      | _ => rfl
    | lst _ => rfl
    | ins c fs =>
      show ((fs.lookup k).bind (getP (q ++ [p]))) = ((fs.lookup k).bind (getP q)).bind (getP [p])
      cases fs.lookup k with
      | none => rfl
      | some d => exact getP_app q p d
  | .ix k :: q, p, m => by
    cases m with
    | pure d =>
      cases d with
      | lst ds =>
        show ((ds[k]?).bind fun d => getP (q ++ [p]) (.pure d)) = ((ds[k]?).bind fun d => getP q (.pure d)).bind (getP [p])
        cases ds[k]? with
        | none => rfl
        | some d => exact getP_app q p (.pure d)
      | tup ds =>
        show ((ds[k]?).bind fun d => getP (q ++ [p]) (.pure d)) = ((ds[k]?).bind fun d => getP q (.pure d)).bind (getP [p])
        cases ds[k]? with
        | none => rfl
        | some d => exact getP_app q p (.pure d)
      | _ => rfl
    | lst ds =>
      show ((ds[k]?).bind (getP (q ++ [p]))) = ((ds[k]?).bind (getP q)).bind (getP [p])
      cases ds[k]? with
      | none => rfl
      | some d => exact getP_app q p d
    | ins c fs => rfl
/-- one step's value -/
def stepV (env : En) : Pe → Option PeV
  | .fld f => some (.fld f)
  | .ixc i => some (.ix i)
  | .ixs i => match slot env i with
    | some (.pure (.int n)) => if 0 ≤ n then some (.ix n.toNat) else none
    | _ => none
theorem pathV_cons (env : En) (p : Pe) (r : List Pe) : pathV env (p :: r) = (stepV env p).bind fun v => (pathV env r).map (v :: ·) := by
  cases p with
  | fld f => rfl
  | ixc i => rfl
  | ixs i =>
    show (match slot env i with | some (.pure (.int n)) => if 0 ≤ n then (pathV env r).map (.ix n.toNat :: ·) else none | _ => none) = ((match slot env i with | some (.pure (.int n)) => if 0 ≤ n then some (PeV.ix n.toNat) else none | _ => none) : Option PeV).bind _
    split
    · split <;> rfl
    · rfl
theorem pathV_app (env : En) : ∀ (r : List Pe) (p : Pe), pathV env (r ++ [p]) = (pathV env r).bind fun q => (stepV env p).map fun v => q ++ [v]
  | [], p => by
    rw [List.nil_append, pathV_cons]
    show ((stepV env p).bind fun v => some [v]) = _
    cases stepV env p <;> rfl
  | s :: r, p => by
    rw [List.cons_append, pathV_cons, pathV_cons, pathV_app env r p]
    cases stepV env s with
    | none => rfl
    | some v =>
      cases pathV env r with
      | none => rfl
      | some q => cases stepV env p <;> rfl
theorem getPl_app {i : Nat} {r : List Pe} {p : Pe} {m : M} (h : getPl env i (r ++ [p]) = some m) : ∃ m0 v, getPl env i r = some m0 ∧ stepV env p = some v ∧ getP [v] m0 = some m := by
  unfold getPl at h ⊢
  obtain ⟨ms, h1, h2⟩ := bindO_ok h
  obtain ⟨q, h3, h4⟩ := bindO_ok h2
  rw [pathV_app] at h3
  obtain ⟨q0, h5, h6⟩ := bindO_ok h3
  obtain ⟨v, h7, h8⟩ := mapO_ok h6
  subst h8
  rw [getP_app] at h4
  obtain ⟨m0, h9, h10⟩ := bindO_ok h4
  exact ⟨m0, v, by rw [h1]; show (pathV env r).bind _ = _; rw [h5]; exact h9, h7, h10⟩
theorem place_rd (hE : EnvOk L g H env σ f) (i : Nat) : ∀ (r : List Pe) (m : M) (Q : VK), getPl env i r.reverse = some m → (∀ v fm, (∀ a ∈ fm, a ∈ f) → RepM L (g ++ f) H m v fm → Q v H) → tP L i r σ H Q
  | [], m, Q, h, q => by
    have h : (slot env i).bind (fun m => some m) = some m := h
    obtain ⟨m', h1, h2⟩ := bindO_ok h
    cases h2
    obtain ⟨v, p, f1, q', e1, e2, e3, _⟩ := hE.rep.take h1
    exact ⟨v, e1, q v f1 (fun a ha => by rw [e2]; simp [ha]) e3⟩
  | .fld k :: r, m, Q, h, q => by
    rw [List.reverse_cons] at h
    obtain ⟨m0, v, h1, h2, h3⟩ := getPl_app h
    cases h2
    refine place_rd hE i r m0 _ h1 fun v fm hs rp => ?_
    cases m0 with
    | pure d =>
      cases d with
      | ins c fs =>
        have h3 : (fs.lookup k).bind (fun d => some (M.pure d)) = some m := h3
        obtain ⟨d, h4, h5⟩ := bindO_ok h3
        cases h5
        obtain ⟨a, dx, vs, rfl, n, e, kc, p⟩ := rp.2
        obtain ⟨v, e1, e2, e3⟩ := p.look h4
        exact ⟨a, _, dx, vs, v, rfl, e, kc, e2, e1, q v [] (fun _ z => (nomatch z)) ⟨rfl, e3⟩⟩
      | _ => cases h3
    | lst _ => cases h3
    | ins c fs =>
      have h3 : (fs.lookup k).bind (fun d => some d) = some m := h3
      obtain ⟨d, h4, h5⟩ := bindO_ok h3
      cases h5
      obtain ⟨a, dx, vs, g', rfl, ef, e, kc, p⟩ := rp
      obtain ⟨v, f1, e1, e2, e3, e4⟩ := p.look h4
      exact ⟨a, _, dx, vs, v, rfl, e, kc, e2, e1, q v f1 (fun b hb => hs b (ef ▸ List.mem_cons_of_mem _ (e4 b hb))) e3⟩
  | .ixc k :: r, m, Q, h, q => by
    rw [List.reverse_cons] at h
    obtain ⟨m0, v, h1, h2, h3⟩ := getPl_app h
    cases h2
    refine place_rd hE i r m0 _ h1 fun v fm hs rp => ?_
    cases m0 with
    | pure d =>
      cases d with
      | lst ds =>
        have h3 : (ds[k]?).bind (fun d => some (M.pure d)) = some m := h3
        obtain ⟨d, h4, h5⟩ := bindO_ok h3
        cases h5
        obtain ⟨a, vs, rfl, n, p⟩ := rp.2
        obtain ⟨v, e1, e3⟩ := p.get h4
        exact .inl ⟨a, vs, k, v, rfl, rfl, .of n.2, atI_of e1, q v [] (fun _ z => (nomatch z)) ⟨rfl, e3⟩⟩
      | tup ds =>
        have h3 : (ds[k]?).bind (fun d => some (M.pure d)) = some m := h3
        obtain ⟨d, h4, h5⟩ := bindO_ok h3
        cases h5
        obtain ⟨a, vs, rfl, n, p⟩ := rp.2
        obtain ⟨v, e1, e3⟩ := p.get h4
        exact .inr (.inl ⟨a, vs, k, v, rfl, rfl, n.sq, atI_of e1, q v [] (fun _ z => (nomatch z)) ⟨rfl, e3⟩⟩)
      | _ => cases h3
    | ins _ _ => cases h3
    | lst ds =>
      have h3 : (ds[k]?).bind (fun d => some d) = some m := h3
      obtain ⟨d, h4, h5⟩ := bindO_ok h3
      cases h5
      obtain ⟨a, vs, g', rfl, ef, e, p⟩ := rp
      obtain ⟨v, f1, e1, e3, e4⟩ := p.get h4
      exact .inl ⟨a, vs, k, v, rfl, rfl, .of e, atI_of e1, q v f1 (fun b hb => hs b (ef ▸ List.mem_cons_of_mem _ (e4 b hb))) e3⟩
  | .ixs j :: r, m, Q, h, q => by
    rw [List.reverse_cons] at h
    obtain ⟨m0, v, h1, h2, h3⟩ := getPl_app h
    have h2 : (match slot env j with | some (.pure (.int n)) => if 0 ≤ n then some (PeV.ix n.toNat) else none | _ => none) = some v := h2
    split at h2
    · rename_i n hn
      split at h2
      · rename_i h0
        cases h2
        obtain ⟨vj, ej, rj⟩ := hE.slotD hn
        have rj : vj = .int n := rj
        have en : ((n.toNat : Nat) : Int) = n := Int.toNat_of_nonneg h0
        refine place_rd hE i r m0 _ h1 fun v fm hs rp => ⟨vj, ej, ?_⟩
        rw [rj]
        cases m0 with
        | pure d =>
          cases d with
          | lst ds =>
            have h3 : (ds[n.toNat]?).bind (fun d => some (M.pure d)) = some m := h3
            obtain ⟨d, h4, h5⟩ := bindO_ok h3
            cases h5
            obtain ⟨a, vs, rfl, n', p⟩ := rp.2
            obtain ⟨v, e1, e3⟩ := p.get h4
            exact .inl ⟨a, vs, n, v, rfl, rfl, .of n'.2, by rw [← en]; exact atI_of e1, q v [] (fun _ z => (nomatch z)) ⟨rfl, e3⟩⟩
          | tup ds =>
            have h3 : (ds[n.toNat]?).bind (fun d => some (M.pure d)) = some m := h3
            obtain ⟨d, h4, h5⟩ := bindO_ok h3
            cases h5
            obtain ⟨a, vs, rfl, n', p⟩ := rp.2
            obtain ⟨v, e1, e3⟩ := p.get h4
            exact .inr (.inl ⟨a, vs, n, v, rfl, rfl, n'.sq, by rw [← en]; exact atI_of e1, q v [] (fun _ z => (nomatch z)) ⟨rfl, e3⟩⟩)
          | _ => cases h3
        | ins _ _ => cases h3
        | lst ds =>
          have h3 : (ds[n.toNat]?).bind (fun d => some d) = some m := h3
          obtain ⟨d, h4, h5⟩ := bindO_ok h3
          cases h5
          obtain ⟨a, vs, g', rfl, ef, e, p⟩ := rp
          obtain ⟨v, f1, e1, e3, e4⟩ := p.get h4
          exact .inl ⟨a, vs, n, v, rfl, rfl, .of e, by rw [← en]; exact atI_of e1, q v f1 (fun b hb => hs b (ef ▸ List.mem_cons_of_mem _ (e4 b hb))) e3⟩
      · cases h2
    · cases h2
theorem it_place {i : Nat} {r : List Pe} {e : Expr} {env : Env} (h : ckP T C i r e = true) : ∀ whole, isTrue e env whole = (do let v ← whole; standAt e.pos; holding [v] (truthy v)) := by
  cases e with
  | Name _ _ => exact fun _ => rfl
  | Attribute _ _ _ => exact fun _ => rfl
  | Subscript _ _ _ => exact fun _ => rfl
  | _ => cases r with
    | nil => cases h
    | cons p r => cases p <;> cases h
theorem snd_pl (i : Nat) (ps : List Pe) : Snd L T R (.pl i ps) := by
  have hE : ∀ C e, (ck T (.pl i ps)).e C e = true → ∀ X, Cok L T R C X → PE X e (tE L R (.pl i ps)) := by
    intro C e h X c
    refine PE.imp (pe_place c i _ _ h) fun σ H Q ⟨g, f, env, m, env', hE, hm, q⟩ => ?_
    have hm : (match getPl env i ps with | some m => (.ok m env : Rs M) | none => .no) = .ok m env' := hm
    split at hm
    · rename_i d hd
      cases hm
      rw [← List.reverse_reverse ps] at hd
      refine place_rd hE i ps.reverse m Q hd fun v fm hs rp => q v H f fm ⟨hE, fun _ _ e _ => e, fun _ z => .inl z, fun a ha => .inl (hs a ha), rp.mv (Mv.less fun a ha => ?_) fun _ _ _ e => e, fun _ => hs, fun _ => ⟨rfl, rfl, fun _ _ e => e, fun z => (nomatch z)⟩⟩
      simp only [List.mem_append] at ha ⊢
      rcases ha with (z | z) | z
      · exact .inl z
      · exact .inr (hs a z)
      · exact .inr z
    · cases hm
  exact ⟨hE, fun C e h X c => pt_plain c (hE C e h X c) rfl (it_place h)⟩
theorem snd_plv (i : Nat) (ps : List Pe) : Snd L T R (.plv i ps) := by
  have hE : ∀ C e, (ck T (.plv i ps)).e C e = true → ∀ X, Cok L T R C X → PE X e (tE L R (.plv i ps)) := by
    intro C e h X c
    refine PE.imp (pe_place c i _ _ h) fun σ H Q ⟨g, f, env, m, env', hE, hm, q⟩ => ?_
    have hm : (match getPl env i ps with | some (.pure d) => (.ok (.pure d) env : Rs M) | _ => .no) = .ok m env' := hm
    split at hm
    · rename_i d hd
      cases hm
      rw [← List.reverse_reverse ps] at hd
      exact place_rd hE i ps.reverse _ Q hd fun v fm hs rp => q v H f [] (pst_refl hE rp.2)
    · cases hm
  exact ⟨hE, fun C e h X c => pt_plain c (hE C e h X c) rfl (it_place h)⟩

/-! ### subscripts -/
def rIxK : R2 := fun x y H Q => ∃ a v, x = .ref a ∧ DGet H a y (some v) ∧ Q v H
theorem ix_dict (hu : X.A.units + 1 < cLine) : IxR X rIxK := by
  intro value slice pins s σ H x y v u Q I rx ry h hs
  obtain ⟨a, z, rfl, d, q⟩ := h
  cases rx
  exact tail_any (dict_typeIs I d) PySem.F.slot_dict_getitem.lookup (d_getItem hu I d ry fun w' s' I' r' => ⟨z, H, I', r', q⟩) hs
theorem ixNat_eq (n : Nat) (i : Int) : ixNat n i = ixN n i := rfl
theorem semIx_ok {dx dy d : D} {va vb : V} {Q : VK} (h : semIx dx dy = some d) (rx : RepV L O H dx va) (ry : RepV L O H dy vb) (q : ∀ v, RepD L O H d v → Q v H) : rIx L.K va vb H Q ∨ rIxK va vb H Q := by
  unfold semIx at h
  split at h
  · obtain ⟨j, h1, h2⟩ := bindO_ok h
    obtain ⟨a, vs, rfl, e, p⟩ := rx.ls
    obtain ⟨v, e1, e2⟩ := p.get h2
    refine .inl (.inl ⟨a, vs, _, v, rfl, ry.int, .of e, ?_, q v e2⟩)
    unfold atI
    rw [← p.len, ← ixNat_eq, h1]; exact e1
  · obtain ⟨j, h1, h2⟩ := bindO_ok h
    obtain ⟨a, vs, rfl, e, p⟩ := rx.tup
    obtain ⟨v, e1, e2⟩ := p.get h2
    refine .inl (.inr (.inl ⟨a, vs, _, v, rfl, ry.int, e.sq, ?_, q v e2⟩))
    unfold atI
    rw [← p.len, ← ixNat_eq, h1]; exact e1
  · split at h
    · rename_i hz
      obtain ⟨j, h1, h2⟩ := bindO_ok h
      obtain ⟨cc, h3, rfl⟩ := mapO_ok h2
      refine .inl (.inr (.inr ⟨_, _, cc, rx.str, ry.int, ?_, ?_, q _ rfl⟩))
      · rw [mkS_len, PySem.sizeLine_eq]; exact hz
      · unfold atI
        rw [← ixNat_eq]
        simp only
        rw [h1]; exact h3
    · cases h
  · obtain ⟨k, hk, h2⟩ := bindO_ok h
    obtain ⟨a, vs, rfl, n, e, p⟩ := rx.dic
    obtain ⟨o, h3, _, h4⟩ := dget_rep e p hk ry
    obtain ⟨v, h5, h6⟩ := h4 d h2
    subst h5
    exact .inr ⟨a, v, rfl, h3, q v h6⟩
  · cases h
theorem plain_ix {y : Expr} (h : noSlice y = true) : PlainIx y := by
  cases y <;> first | exact fun _ _ => rfl | cases h
theorem snd_ix (a b : Ex) (ha : Snd L T R a) (hb : Snd L T R b) : Snd L T R (.ix a b) := by
  have hE : ∀ C e, (ck T (.ix a b)).e C e = true → ∀ X, Cok L T R C X → PE X e (tE L R (.ix a b)) := by
    intro C e h X c
    cases e with
    | Subscript x y pos =>
      have h : (noSlice y && alOk a b && (ck T a).e C x && (ck T b).e C y) = true := h
      simp only [Bool.and_eq_true] at h
      obtain ⟨⟨⟨h1, h2⟩, h3⟩, h4⟩ := h
      refine PE.imp (pe_ix (ix_seq.or (ix_dict (by have := c.un; omega))) (ha.e C x h3 X c) (hb.e C y h4 X c) (plain_ix h1)) fun σ H Q ⟨g, f, env, m, env', hE, hm, q⟩ => ?_
      obtain ⟨x, env1, hx, hm⟩ := bind_ok hm
      obtain ⟨y, env2, hy, hm⟩ := bind_ok hm
      obtain ⟨hn, rfl⟩ := lift_ok hm
      obtain ⟨dx, hdx, hn1⟩ := bindO_ok hn
      obtain ⟨dy, hdy, hn2⟩ := bindO_ok hn1
      obtain ⟨d, hd, rfl⟩ := mapO_ok hn2
      refine tE_two h2 hE hx hy fun va vb H2 f2 t rx ry => ?_
      rw [c.K]
      exact semIx_ok hd (rx dx hdx) (ry dy hdy) fun v r => q _ _ _ _ (t.pure r)
    | _ => cases h
  refine ⟨hE, fun C e h X c => ?_⟩
  refine pt_plain c (hE C e h X c) rfl ?_
  cases e with
  | Subscript x y pos => exact fun _ => rfl
  | _ => cases h
theorem mem_wk {g gg fx ff : List Addr} (hg : ∀ c, c ∈ g → c ∈ gg) {c : Addr} (hc : c ∈ g ++ ff) : c ∈ gg ++ fx ++ ff := by
  simp only [List.mem_append] at hc ⊢
  rcases hc with z | z
  · exact .inl (.inl (hg c z))
  · exact .inr z
theorem sub_if (b : Bool) (l f : List Addr) : l.Sublist (if b = true then l else l ++ f) := by
  split
  · exact List.Sublist.refl _
  · exact List.sublist_append_left l f
/-- three operands, the later ones quiet -/
theorem tE_three {a b d : Ex} (qb : quiet b = true) (qd : quiet d = true) {env3 : En} {x y z : M} (hE : EnvOk L g H env σ f) (ha : (ev R a).e env = .ok x env1) (hb : (ev R b).e env1 = .ok y env2) (hd : (ev R d).e env2 = .ok z env3)
    {K : V → V → V → Hp → Prop}
    (fin : ∀ va vb vd H2 f2, Tst L (quiet a) g f H env env3 σ H2 f2 → (∀ d, viewD x = some d → RepV L (g ++ f2) H2 d va) → (∀ d, viewD y = some d → RepV L (g ++ f2) H2 d vb) → (∀ d, viewD z = some d → RepV L (g ++ f2) H2 d vd) → K va vb vd H2) :
    tE L R a σ H fun va H1 => tE L R b σ H1 fun vb H2 => tE L R d σ H2 fun vd H3 => K va vb vd H3 := by
  refine ⟨g, f, env, x, env1, hE, ha, fun va H1 f1 fa pa => ⟨_, f1, env1, y, env2, pa.ok, hb, fun vb H2 f2 fb pb => ⟨_, f2, env2, z, env3, pb.ok, hd, fun vd H3 f3 fd pd => ?_⟩⟩⟩
  obtain ⟨b1, b2, b3, _⟩ := pb.qui qb
  obtain ⟨d1, d2, d3, _⟩ := pd.qui qd
  have s1 := sub_if (isAl a) g fa
  have s2 := sub_if (isAl b) (if isAl a = true then g else g ++ fa) fb
  have up : ∀ c o, H1 c = some o → H3 c = some o := fun c o e => d3 c o (b3 c o e)
  have t3 : Tst L (quiet a) g f H env env3 σ H3 f3 :=
    ⟨pd.okg.less (s1.trans s2), fun c o e n => up c o (pa.st c o e n), fun c hc => pa.nf c (by rw [← b2, ← d2]; exact hc), fun q => by
      obtain ⟨q1, q2, q3, _⟩ := pa.qui q
      exact ⟨d1.trans (b1.trans q1), d2.trans (b2.trans q2), fun c o e => up c o (q3 c o e)⟩⟩
  refine fin va vb vd H3 f3 t3 (fun dd h => ?_) (fun dd h => ?_) fun dd h => ?_
  · rw [d2, b2]
    exact ((view_rep h pa.rep).mv (Mv.less fun c hc => mem_wk (fun _ z => z) hc) fun _ _ _ _ e => e).mv ⟨fun c o _ e => up c o e, fun c m n => absurd m n⟩ fun c o _ _ e => up c o e
  · rw [d2]
    exact ((view_rep h pb.rep).mv (Mv.less fun c hc => mem_wk (fun c z => s1.subset z) hc) fun _ _ _ _ e => e).mv ⟨fun c o _ e => d3 c o e, fun c m n => absurd m n⟩ fun c o _ _ e => d3 c o e
  · exact (view_rep h pd.rep).mv (Mv.less fun c hc => mem_wk (fun c z => s2.subset (s1.subset z)) hc) fun _ _ _ _ e => e
end
end FB

set_option Elab.async false
set_option linter.all false
set_option maxRecDepth 10000
/-! FbSnd7: slices, chains, built-ins of one or two operands. -/
namespace FB
open PySem PySem.Spec PyProof.Rows L2
section
variable {L : Lk} {T : Tx} {R : Rt} {C : Sc} {X : Cx}
variable {g f f1 f2 : List Addr} {H H1 H2 : Hp} {env env1 env2 : En} {σ : L2.St} {qt : Bool} {O : List Addr}
theorem cut_eq (xs : List V) (lo hi : Option Int) : cutV xs lo hi = cutL xs lo hi := by
  cases lo <;> cases hi <;> rfl
theorem cutS_eq (x : List Nat) (lo hi : Option Int) : cutS (mkS x) lo hi = mkS (cutL x lo hi) := by
  unfold cutS mkS
  cases lo <;> cases hi <;> simp [cutL, cutLo, cutHi, HT.sIx, Str.length]
theorem RepDs.cut {ds : List D} {vs : List V} (r : RepDs L O H ds vs) (lo hi : Option Int) : RepDs L O H (cutL ds lo hi) (cutL vs lo hi) := by
  unfold cutL
  rw [r.len]
  exact (r.drop _).take _
def slRd (K : PySem.W.Frag) : V → Option Int → Option Int → Hp → VK → Prop := fun x l u H Q => (rSlL K x l u H Q ∨ rSlS x l u H Q) ∨ rSlA K x l u H Q
theorem slRd_ok : SlR X (slRd X.K) := (sl_list.or sl_str).or sl_tupA
theorem semSl_ok {mu : Bool} {dx : D} {lo hi : Option Int} {m : M} {va : V} {Q : VK} (h : semSl mu dx lo hi = some m) (t : Tst L qt g f H env env2 σ H2 f2) (rx : RepV L (g ++ f2) H2 dx va)
    (q : ∀ v H' f' fm, Pst L false qt g f H env m env2 σ v H' f' fm → Q v H') : slRd L.K va lo hi H2 Q := by
  cases dx with
  | lst xs =>
    cases h
    obtain ⟨a, vs, rfl, e, p⟩ := rx.ls
    refine .inl (.inl ⟨a, vs, rfl, .of e, fun r nr => ?_⟩)
    rw [cut_eq]
    obtain ⟨fm, P⟩ := t.list mu nr (p.cut lo hi)
    exact q _ _ _ _ P
  | frl xs =>
    cases h
    cases rx with
    | d rx =>
      obtain ⟨a, vs, rfl, e, p⟩ := rx
      refine .inl (.inl ⟨a, vs, rfl, e.sq, fun r nr => ?_⟩)
      rw [cut_eq]
      obtain ⟨fm, P⟩ := t.list mu nr (p.cut lo hi)
      exact q _ _ _ _ P
  | str x =>
    simp only [semSl] at h
    split at h
    · rename_i hz
      cases h
      refine .inl (.inr ⟨_, rx.str, ?_, ?_⟩)
      · rw [mkS_len, PySem.sizeLine_eq]; exact hz
      · rw [cutS_eq]; exact q _ _ _ _ (t.pure rfl)
    · cases h
  | tup xs =>
    cases h
    obtain ⟨a, vs, rfl, e, p⟩ := rx.tup
    refine .inr ⟨a, vs, rfl, e.sq, fun hw => ?_, fun _ r nr => ?_⟩
    · have : cutL xs lo hi = xs := by
        have e1 : cutLo xs.length lo = 0 := by rw [p.len]; exact (show cutLo vs.length lo = HT.sIx vs.length 0 lo by cases lo <;> rfl).trans hw.1
        have e2 : cutHi xs.length hi = xs.length := by rw [p.len]; exact (show cutHi vs.length hi = HT.sIx vs.length vs.length hi by cases hi <;> rfl).trans hw.2
        unfold cutL
        rw [e1, e2]
        simp
      rw [this] at q
      exact q _ _ _ _ (t.pure ⟨a, vs, rfl, e, p⟩)
    · rw [cut_eq]
      exact q _ _ _ _ (t.tup nr (p.cut lo hi))
  | _ => cases h
/-- a part of a slice -/
def tO (L : Lk) (R : Rt) (b : Ex) : TO := fun σ H Q => ∃ g f env o env', EnvOk L g H env σ f ∧ partR b (ev R b).e env = .ok o env' ∧ ∀ H' f', Tst L (quiet b) g f H env env' σ H' f' → Q o H'
theorem partR_some {b : Ex} {fn : En → Rs M} {env env' : En} {o : Option Int} (hb : b ≠ .non) (h : partR b fn env = .ok o env') : ∃ i, o = some i ∧ fn env = .ok (.pure (.int i)) env' := by
  have h : ((fn env).bind fun m env => match m with | .pure (.int i) => (.ok (some i) env : Rs (Option Int)) | _ => .no) = .ok o env' := by
    unfold partR at h
    split at h
    · exact absurd rfl hb
    · exact h
  obtain ⟨m, env1, h1, h2⟩ := bind_ok h
  split at h2
  · cases h2; exact ⟨_, rfl, h1⟩
  · cases h2
theorem po_of {b : Ex} {lo : Option Expr} (hb : Snd L T R b) (c : Cok L T R C X) (h : partB ((ck T b).e C) b lo = true) : PO X lo (tO L R b) := by
  cases lo with
  | none =>
    have e : b = .non := of_decide_eq_true h
    subst e
    refine ⟨fun pins s σ H Q I ⟨g, f, env, o, env', hE, hm, k⟩ => po_none.run pins s σ H Q I ?_⟩
    cases hm
    exact k H f ⟨hE, fun _ _ e _ => e, fun _ z => .inl z, fun _ => ⟨rfl, rfl, fun _ _ e => e⟩⟩
  | some y =>
    have h : (!decide (b = .non) && (ck T b).e C y) = true := h
    simp only [Bool.and_eq_true, Bool.not_eq_true', decide_eq_false_iff_not] at h
    refine ⟨fun pins s σ H Q I ⟨g, f, env, o, env', hE, hm, k⟩ => (po_some (hb.e C y h.2 X c)).run pins s σ H Q I ?_⟩
    obtain ⟨i, rfl, hm2⟩ := partR_some h.1 hm
    exact ⟨g, f, env, _, env', hE, hm2, fun v H' f' fm p => ⟨i, p.rep.2, k H' f' p.tst⟩⟩
theorem snd_sl (mu : Bool) (a b d : Ex) (ha : Snd L T R a) (hb : Snd L T R b) (hd : Snd L T R d) : Snd L T R (.sl mu a b d) := by
  have hE : ∀ C e, (ck T (.sl mu a b d)).e C e = true → ∀ X, Cok L T R C X → PE X e (tE L R (.sl mu a b d)) := by
    intro C e h X c
    cases e with
    | Subscript x y pos =>
      cases y with
      | Slice lo hi st p2 =>
        cases st with
        | some _ => cases h
        | none =>
          have h : (quiet b && quiet d && (ck T a).e C x && partB ((ck T b).e C) b lo && partB ((ck T d).e C) d hi) = true := h
          simp only [Bool.and_eq_true] at h
          obtain ⟨⟨⟨⟨qb, qd⟩, h3⟩, h4⟩, h5⟩ := h
          refine PE.imp (pe_slice slRd_ok (ha.e C x h3 X c) (po_of hb c h4) (po_of hd c h5)) fun σ H Q ⟨g, f, env, m, env', hE, hm, q⟩ => ?_
          obtain ⟨x, env1, hx, hm⟩ := bind_ok hm
          obtain ⟨l, env2, hy, hm⟩ := bind_ok hm
          obtain ⟨u, env3, hz, hm⟩ := bind_ok hm
          obtain ⟨hn, rfl⟩ := lift_ok hm
          obtain ⟨dx, hdx, hn1⟩ := bindO_ok hn
          rw [c.K]
          refine ⟨g, f, env, x, env1, hE, hx, fun va H1 f1 fa pa => ⟨_, f1, env1, l, env2, pa.ok, hy, fun H2 f2 t2 => ⟨_, f2, env2, u, _, t2.ok, hz, fun H3 f3 t3 => ?_⟩⟩⟩
          obtain ⟨b1, b2, b3⟩ := t2.qui qb
          obtain ⟨d1, d2, d3⟩ := t3.qui qd
          have up : ∀ c o, H1 c = some o → H3 c = some o := fun c o e => d3 c o (b3 c o e)
          have tt : Tst L (quiet a) g f H env env' σ H3 f3 := ⟨t3.ok.less (sub_if _ _ _), fun c o e n => up c o (pa.st c o e n), fun c hc => pa.nf c (by rw [← b2, ← d2]; exact hc), fun q => by
            obtain ⟨q1, q2, q3, _⟩ := pa.qui q
            exact ⟨d1.trans (b1.trans q1), d2.trans (b2.trans q2), fun c o e => up c o (q3 c o e)⟩⟩
          have rx : RepV L (g ++ f3) H3 dx va := by
            rw [d2, b2]
            exact ((view_rep hdx pa.rep).mv (Mv.less fun c hc => mem_wk (fun _ z => z) hc) fun _ _ _ _ e => e).mv ⟨fun c o _ e => up c o e, fun c m n => absurd m n⟩ fun c o _ _ e => up c o e
          exact semSl_ok hn1 tt rx fun v H' f' fm p => q v H' f' fm (p.wk fun z => by
            have z : (quiet a && quiet b && quiet d) = true := z
            simp only [Bool.and_eq_true] at z
            exact z.1.1)
      | _ => cases h
    | _ => cases h
  refine ⟨hE, fun C e h X c => ?_⟩
  refine pt_plain c (hE C e h X c) rfl ?_
  cases e with
  | Subscript x y pos => exact fun _ => rfl
  | _ => cases h
/-- a < b < c -/
theorem chain_rd {o o' : C2} {a b d : Ex} (qb : quiet b = true) (qd : quiet d = true) {σ : L2.St} {H : Hp} {Q : VK} (h : tE L R (.chain o o' a b d) σ H Q) : tChain (cmRd L.K o) (cmRd L.K o') (tE L R a) (tE L R b) (tE L R d) σ H Q := by
  obtain ⟨g, f, env, m, env', hE, hm, q⟩ := h
  obtain ⟨x, env1, hx, hm⟩ := bind_ok hm
  obtain ⟨y, env2, hy, hm⟩ := bind_ok hm
  cases x with
  | lst _ => cases hm
  | ins _ _ => cases hm
  | pure dx =>
  cases y with
  | lst _ => cases hm
  | ins _ _ => cases hm
  | pure dy =>
    have hm : (match semC o dx dy with | some true => ((ev R d).e env2).bind fun z env => (match z with | .pure z => (match semC o' dy z with | some v => (.ok (.pure (.bl v)) env : Rs M) | none => .no) | _ => .no) | some false => .ok (.pure (.bl false)) env2 | none => .no) = .ok m env' := hm
    refine ⟨g, f, env, _, env1, hE, hx, fun va H1 f1 fa pa => ⟨_, f1, env1, _, env2, pa.ok, hy, fun vb H2 f2 fb pb => ?_⟩⟩
    obtain ⟨b1, b2, b3, _⟩ := pb.qui qb
    have t2 : Tst L (quiet a) g f H env env2 σ H2 f2 := ⟨pb.okg.less (sub_if _ _ _), fun c o e n => b3 c o (pa.st c o e n), fun c hc => pa.nf c (by rw [← b2]; exact hc), fun q => by
      obtain ⟨q1, q2, q3, _⟩ := pa.qui q
      exact ⟨b1.trans q1, b2.trans q2, fun c o e => b3 c o (q3 c o e)⟩⟩
    have rx : RepV L (g ++ f2) H2 dx va := by
      rw [b2]
      exact ((view_rep rfl pa.rep).mv (Mv.less fun c hc => mem_wk (fun _ z => z) hc) fun _ _ _ _ e => e).mv ⟨fun c o _ e => b3 c o e, fun c m n => absurd m n⟩ fun c o _ _ e => b3 c o e
    have ry : RepV L (g ++ f2) H2 dy vb := (view_rep rfl pb.rep).mv (Mv.less fun c hc => mem_wk (fun c z => (sub_if _ _ _).subset z) hc) fun _ _ _ _ e => e
    split at hm
    · rename_i hs
      obtain ⟨z, env3, hz, hm⟩ := bind_ok hm
      cases z with
      | lst _ => cases hm
      | ins _ _ => cases hm
      | pure dz =>
        have hm : (match semC o' dy dz with | some v => (.ok (.pure (.bl v)) env3 : Rs M) | none => .no) = .ok m env' := hm
        split at hm
        · rename_i vv hv
          cases hm
          refine semC_ok hs rx ry ⟨true, rfl, iteT ⟨_, f2, env2, _, _, pb.ok, hz, fun vd H3 f3 fd pd => ?_⟩⟩
          obtain ⟨d1, d2, d3, _⟩ := pd.qui qd
          have t3 : Tst L (quiet a) g f H env env' σ H3 f3 := ⟨pd.okg.less ((sub_if _ _ _).trans (sub_if _ _ _)), fun c o e n => d3 c o (t2.st c o e n), fun c hc => t2.nf c (by rw [← d2]; exact hc), fun q => by
            obtain ⟨q1, q2, q3⟩ := t2.qui q
            exact ⟨d1.trans q1, d2.trans q2, fun c o e => d3 c o (q3 c o e)⟩⟩
          have ry3 : RepV L (g ++ f3) H3 dy vb := by
            rw [d2]
            exact ry.mv ⟨fun c o _ e => d3 c o e, fun c m n => absurd m n⟩ fun c o _ _ e => d3 c o e
          have rz : RepV L (g ++ f3) H3 dz vd := (view_rep rfl pd.rep).mv (Mv.less fun c hc => mem_wk (fun c z => ((sub_if _ _ _).trans (sub_if _ _ _)).subset z) hc) fun _ _ _ _ e => e
          refine semC_ok hv ry3 rz (q _ _ _ _ ((t3.pure (d := .bl vv) (v := .bl vv) rfl).wk fun z => ?_))
          have z : (quiet a && quiet b && quiet d) = true := z
          simp only [Bool.and_eq_true] at z
          exact z.1.1
        · cases hm
    · rename_i hs
      cases hm
      refine semC_ok hs rx ry ⟨false, rfl, iteF (q _ _ _ _ ((t2.pure (d := .bl false) (v := .bl false) rfl).wk fun z => ?_))⟩
      have z : (quiet a && quiet b && quiet d) = true := z
      simp only [Bool.and_eq_true] at z
      exact z.1.1
    · cases hm
theorem snd_chain (o o' : C2) (a b d : Ex) (ha : Snd L T R a) (hb : Snd L T R b) (hd : Snd L T R d) : Snd L T R (.chain o o' a b d) := by
  refine ⟨fun C e h X c => ?_, fun C e h X c => ?_⟩
  · cases e with
    | Compare x ps ys pos =>
      match ps, ys, h with
      | [p, p'], [y, z], h =>
        have h : (cmB p (c2Op o) && cmB p' (c2Op o') && noSet z && quiet b && quiet d && !isAl b && (ck T a).e C x && (ck T b).e C y && (ck T d).e C z) = true := h
        simp only [Bool.and_eq_true] at h
        obtain ⟨⟨⟨⟨⟨⟨⟨⟨h1, h2⟩, h3⟩, qb⟩, qd⟩, _⟩, h4⟩, h5⟩, h6⟩ := h
        have h1 := cmB_eq h1
        have h2 := cmB_eq h2
        subst h1 h2
        refine PE.imp (pe_chain (cmRd_ok c.un o) (cmRd_ok c.un o') (ha.e C x h4 X c) (hb.e C y h5 X c) (hd.e C z h6 X c) (noSet_bi h3)) fun σ H Q hq => ?_
        rw [c.K]
        exact chain_rd qb qd hq
    | _ => cases h
  · cases e with
    | Compare x ps ys pos =>
      match ps, ys, h with
      | [p, p'], [y, z], h =>
        have h : (cmB p (c2Op o) && cmB p' (c2Op o') && noSet z && quiet b && quiet d && !isAl b && (ck T a).e C x && (ck T b).e C y && (ck T d).e C z) = true := h
        simp only [Bool.and_eq_true] at h
        obtain ⟨⟨⟨⟨⟨⟨⟨⟨h1, h2⟩, h3⟩, qb⟩, qd⟩, _⟩, h4⟩, h5⟩, h6⟩ := h
        have h1 := cmB_eq h1
        have h2 := cmB_eq h2
        subst h1 h2
        refine PT.imp (pt_chain (cmRd_ok c.un o) (cmRd_ok c.un o') (ha.e C x h4 X c) (hb.e C y h5 X c) (hd.e C z h6 X c) (noSet_bi h3)) fun σ H Q ⟨g, f, env, m, env', hE, hm, q⟩ => ?_
        obtain ⟨x, env1, hx, hm⟩ := bind_ok hm
        obtain ⟨hn, rfl⟩ := lift_ok hm
        obtain ⟨dd, hdd, hn2⟩ := bindO_ok hn
        rw [c.K]
        refine chain_rd qb qd ⟨g, f, env, _, _, hE, hx, fun v H' f' fm p => ?_⟩
        have hv := p.view hdd
        have : ∃ b, x = .pure (.bl b) := by
          obtain ⟨x1, e1, _, hm1⟩ := bind_ok hx
          obtain ⟨y1, e2, _, hm2⟩ := bind_ok hm1
          split at hm2
          · split at hm2
            · obtain ⟨z1, e3, _, hm3⟩ := bind_ok hm2
              split at hm3
              · split at hm3
                · cases hm3; exact ⟨_, rfl⟩
                · cases hm3
              · cases hm3
            · cases hm2; exact ⟨_, rfl⟩
            · cases hm2
          · cases hm2
        obtain ⟨bb, rfl⟩ := this
        cases hdd
        cases hn2
        exact ⟨_, p.rep.2, q H' f' p.tst⟩
    | _ => cases h
end
end FB

set_option Elab.async false
set_option linter.all false
set_option maxRecDepth 10000
/-! FbCall: arguments, displays, calls. -/
namespace FB
open PySem PySem.Spec PyProof.Rows L2
section
variable {L : Lk} {T : Tx} {R : Rt} {C : Sc} {X : Cx}
variable {g f f1 f2 : List Addr} {H H1 H2 H' : Hp} {env env1 env2 : En} {σ : L2.St} {qt : Bool} {O O' : List Addr}
def RepAs (L : Lk) (O : List Addr) (H : Hp) (σ : L2.St) : List Ar → List V → List Addr → Prop
  | [], [], f => f = []
  | .val m :: as, v :: vs, f => ∃ f1 f2, f = f1 ++ f2 ∧ RepM L O H m v f1 ∧ RepAs L O H σ as vs f2
  | .bor i :: as, v :: vs, f => σ[i]? = some (some v) ∧ RepAs L O H σ as vs f
  | _, _, _ => False
theorem RepAs.mv (x : Mv O O' H H') : ∀ {as : List Ar} {vs : List V} {f : List Addr}, RepAs L O H σ as vs f → (∀ a o, a ∈ f → H a = some o → H' a = some o) → RepAs L O' H' σ as vs f
  | [], [], _, h, _ => h
  | .val m :: as, v :: vs, f, ⟨f1, f2, e, p, q⟩, k => ⟨f1, f2, e, p.mv x fun c o hc => k c o (e ▸ List.mem_append_left _ hc), RepAs.mv x q fun c o hc => k c o (e ▸ List.mem_append_right _ hc)⟩
  | .bor i :: as, v :: vs, f, ⟨e, q⟩, k => ⟨e, RepAs.mv x q k⟩
theorem RepAs.app : ∀ {as bs : List Ar} {vs us : List V} {f f' : List Addr}, RepAs L O H σ as vs f → RepAs L O H σ bs us f' → RepAs L O H σ (as ++ bs) (vs ++ us) (f ++ f')
  | [], _, [], _, _, _, h, q => by rw [show _ = [] from h]; exact q
  | .val m :: as, _, v :: vs, _, f, f', ⟨f1, f2, e, p, r⟩, q => ⟨f1, f2 ++ f', by rw [e, List.append_assoc], p, r.app q⟩
  | .bor i :: as, _, v :: vs, _, f, f', ⟨e, r⟩, q => ⟨e, r.app q⟩
structure PstA (L : Lk) (g f : List Addr) (H : Hp) (env : En) (as : List Ar) (env' : En) (σ : L2.St) (vs : List V) (H' : Hp) (f' fm : List Addr) : Prop where
  ok : EnvOk L (g ++ fm) H' env' σ f'
  st : ∀ a o, H a = some o → a ∉ f → H' a = some o
  nf : ∀ a ∈ f', a ∈ f ∨ H a = none
  nm : ∀ a ∈ fm, a ∈ f ∨ H a = none
  rep : RepAs L (g ++ fm ++ f') H' σ as vs fm
def tA (L : Lk) (R : Rt) (x : Ex) : TA := fun σ H Q => ∃ g f env as env', EnvOk L g H env σ f ∧ (ev R x).l env = .ok as env' ∧ ∀ vs H' f' fm, PstA L g f H env as env' σ vs H' f' fm → Q vs H'
theorem pst_nilA (hE : EnvOk L g H env σ f) : PstA L g f H env [] env σ [] H f [] := ⟨by simpa using hE, fun _ _ e _ => e, fun _ z => .inl z, fun _ z => (nomatch z), rfl⟩
/-- one more argument, evaluated behind the others -/
theorem PstA.snoc {as : List Ar} {vs : List V} {fm fa : List Addr} {m : M} {v : V} {qb : Bool} (p : PstA L g f H env as env1 σ vs H1 f1 fm) (u : Pst L false qb (g ++ fm) f1 H1 env1 m env2 σ v H2 f2 fa) :
    PstA L g f H env (as ++ [.val m]) env2 σ (vs ++ [v]) H2 f2 (fm ++ fa) := by
  have st2 : ∀ c o, H c = some o → c ∉ f → H1 c = some o ∧ c ∉ f1 := fun c o e n => ⟨p.st c o e n, fun m => by
    rcases p.nf c m with z | z
    · exact n z
    · rw [z] at e; cases e⟩
  have nf2 : ∀ c, c ∈ f1 ∨ H1 c = none → c ∈ f ∨ H c = none := fun c h => by
    rcases h with z | z
    · exact p.nf c z
    · by_cases n : c ∈ f
      · exact .inl n
      · refine .inr ?_
        cases q : H c with
        | none => rfl
        | some o => rw [p.st c o q n] at z; cases z
  have ok := u.ok
  refine ⟨by have ok : EnvOk L (g ++ fm ++ fa) H2 env2 σ f2 := ok; rw [← List.append_assoc]; exact ok, fun c o e n => u.st c o (st2 c o e n).1 (st2 c o e n).2, fun c hc => nf2 c (u.nf c hc), fun c hc => ?_, ?_⟩
  · rcases List.mem_append.mp hc with z | z
    · exact p.nm c z
    · exact nf2 c (u.nm c z)
  · rw [← List.append_assoc]
    refine RepAs.app (p.rep.mv ⟨fun c o n e => u.st c o e fun z => n (List.mem_append_right _ z), fun c hc n => ?_⟩ fun c o hc e => u.st c o e fun z => ?_) ⟨fa, [], by simp, u.rep, rfl⟩
    · simp only [List.mem_append] at hc n
      rcases hc with (hc | hc) | hc
      · exact absurd (.inl hc) n
      · rcases u.nm c hc with w | w
        · exact absurd (.inr w) n
        · exact w
      · rcases u.nf c hc with w | w
        · exact absurd (.inr w) n
        · exact w
    · exact (List.nodup_append.mp p.ok.nd).2.2 c (List.mem_append_right _ hc) c z rfl
theorem PstA.snocB {as : List Ar} {vs : List V} {fm : List Addr} {i : Nat} {v : V} (p : PstA L g f H env as env1 σ vs H1 f1 fm) (e : σ[i]? = some (some v)) : PstA L g f H env (as ++ [.bor i]) env1 σ (vs ++ [v]) H1 f1 fm :=
  ⟨p.ok, p.st, p.nf, p.nm, by
    have := p.rep.app (σ := σ) (bs := [.bor i]) (us := [v]) (f' := []) ⟨e, rfl⟩
    simpa using this⟩
/-- the reading of the rest of the arguments, some stand -/
def tA2 (L : Lk) (R : Rt) (x : Ex) (as0 : List Ar) : List V → L2.St → Hp → (List V → Hp → Prop) → Prop := fun vs0 σ H1 Q => ∃ g f H env env1 f1 fm as env', PstA L g f H env as0 env1 σ vs0 H1 f1 fm ∧ (ev R x).l env1 = .ok as env' ∧
  ∀ vs H' f' fm', PstA L g f H env (as0 ++ as) env' σ (vs0 ++ vs) H' f' fm' → Q vs H'

theorem star_cons {e : Expr} {es : List Expr} {env : Env} (h : noStar e = true) : starEach (e :: es) env = (false, eval e env) :: starEach es env := by
  cases e <;> first | rfl | cases h
def noStars : List Expr → Bool
  | [] => true
  | e :: es => noStar e && noStars es
theorem star_none {es : List Expr} {env : Env} {pos : Pos} (h : noStars es = true) : (backTo pos (starEach es env)).any (·.1) = false := by
  induction es with
  | nil => rfl
  | cons e es ih =>
    have h : (noStar e && noStars es) = true := h
    rw [Bool.and_eq_true] at h
    rw [star_cons h.1]
    show (false || (backTo pos (starEach es env)).any (·.1)) = false
    rw [ih h.2]; rfl
theorem ckl_star : ∀ {x : Ex} {es : List Expr}, (ck T x).l C es = true → noStars es = true
  | .nil, es, h => by
    have h : es.isEmpty = true := h
    cases es with
    | nil => rfl
    | cons _ _ => cases h
  | .cons a b, es, h => by
    cases es with
    | nil => cases h
    | cons x r =>
      have h : (argB ((ck T a).e C) C a x && noStar x && (ck T b).l C r) = true := h
      rw [Bool.and_eq_true, Bool.and_eq_true] at h
      show (noStar x && noStars r) = true
      rw [h.1.2, ckl_star h.2]; rfl
  | .var _, _, h => by cases h
  | .mv _, _, h => by cases h
  | .bor _, _, h => by cases h
  | .pl _ _, _, h => by cases h
  | .plv _ _, _, h => by cases h
  | .int _, _, h => by cases h
  | .str _, _, h => by cases h
  | .bl _, _, h => by cases h
  | .non, _, h => by cases h
  | .glb _, _, h => by cases h
  | .cls _, _, h => by cases h
  | .op2 _ _ _ _, _, h => by cases h
  | .neg _, _, h => by cases h
  | .not _, _, h => by cases h
  | .and _ _, _, h => by cases h
  | .or _ _, _, h => by cases h
  | .ite _ _ _, _, h => by cases h
  | .cmp _ _ _, _, h => by cases h
  | .cmpd _ _ _, _, h => by cases h
  | .chain _ _ _ _ _, _, h => by cases h
  | .bid _ _, _, h => by cases h
  | .bi _ _ _, _, h => by cases h
  | .bi2 _ _ _ _, _, h => by cases h
  | .bm _ _ _ _, _, h => by cases h
  | .bm2 _ _ _ _ _, _, h => by cases h
  | .isi _ _, _, h => by cases h
  | .isb _ _, _, h => by cases h
  | .tup _, _, h => by cases h
  | .lst _ _, _, h => by cases h
  | .ix _ _, _, h => by cases h
  | .sl _ _ _ _, _, h => by cases h
  | .rev _ _, _, h => by cases h
  | .fld _ _, _, h => by cases h
  | .call _ _, _, h => by cases h
  | .meth _ _ _, _, h => by cases h
  | .cmeth _ _ _, _, h => by cases h
  | .new _ _ _, _, h => by cases h
  | .lc _ _ _ _ _, _, h => by cases h
  | .lc2 _ _ _ _ _ _ _, _, h => by cases h
  | .dc _ _ _ _ _, _, h => by cases h
  | .fstr _, _, h => by cases h
  | .pop _ _, _, h => by cases h
  | .popAt _ _ _, _, h => by cases h
  | .rng1 _, _, h => by cases h
  | .rng2 _ _, _, h => by cases h
  | .rng3 _ _ _, _, h => by cases h
  | .zip _ _, _, h => by cases h
  | .enum _, _, h => by cases h
  | .callk _ _ _, _, h => by cases h
  | .methk _ _ _ _ _, _, h => by cases h
  | .newk _ _ _ _ _, _, h => by cases h
  | .meths _ _ _, _, h => by cases h
  | .newv _ _ _, _, h => by cases h
  | .sss _ _ _ _, _, h => by cases h
  | .fz _, _, h => by cases h
  | .frp _ _, _, h => by cases h
/-- what holds of a list of arguments: whatever stands before -/
structure SndL (L : Lk) (T : Tx) (R : Rt) (x : Ex) : Prop where
  l : ∀ C es, (ck T x).l C es = true → ∀ X, Cok L T R C X → ∀ as0 vs0, PA X es (tA2 L R x as0 vs0)
theorem sndl_nil : SndL L T R .nil := ⟨fun C es h X c as0 vs0 => by
  have h : es.isEmpty = true := h
  cases es with
  | cons _ _ => cases h
  | nil =>
    refine ⟨fun pos pins s σ H Q I ⟨g, f, H0, env, env1, f1, fm, as, env', hE, hm, k⟩ => pa_nil.run pos pins s σ H Q I ?_⟩
    cases hm
    exact k [] H f1 fm (by simpa using hE)⟩
theorem noBor_argOne {e : Ex} {fn : En → Rs M} (h : ∀ i, e ≠ .bor i) : argOne e fn = fun env => (fn env).bind fun m env => .ok [.val m] env := by
  funext env
  unfold argOne
  split
  · exact absurd rfl (h _)
  · rfl
theorem sndl_cons (a b : Ex) (ha : Snd L T R a) (hb : SndL L T R b) : SndL L T R (.cons a b) := ⟨fun C es h X c as0 vs0 => by
  cases es with
  | nil => cases h
  | cons x r =>
    have h : (argB ((ck T a).e C) C a x && noStar x && (ck T b).l C r) = true := h
    rw [Bool.and_eq_true, Bool.and_eq_true] at h
    obtain ⟨⟨h1, h2⟩, h3⟩ := h
    by_cases hbor : ∃ i, a = .bor i
    · obtain ⟨i, rfl⟩ := hbor
      cases x with
      | Name n p =>
        have h1 : nameB C i n = true := h1
        refine ⟨fun pos pins s σ H Q I hq => ?_⟩
        obtain ⟨g, f, H0, env, env1, f1, fm, as, env', hE, hm, k⟩ := hq
        obtain ⟨a1, env2, ha1, hm⟩ := bind_ok hm
        have ha1 : (match slot env1 i with | some _ => (.ok [.bor i] env1 : Rs (List Ar)) | none => .no) = .ok a1 env2 := ha1
        split at ha1
        · rename_i mm hs
          cases ha1
          obtain ⟨as2, env3, has2, hm⟩ := bind_ok hm
          cases hm
          obtain ⟨v, p0, g1, q0, e1, _⟩ := hE.ok.rep.take hs
          exact (pa_cons (pe_name c h1) (hb.l C r h3 X c (as0 ++ [.bor i]) (vs0 ++ [v])) (star_cons h2)).run pos pins s σ H Q I ⟨v, e1, g, f, H0, env, env1, f1, fm, as2, env', hE.snocB e1, has2, fun vs H' f' fm' p => k (v :: vs) H' f' fm' (by simpa using p)⟩
        · cases ha1
      | _ => cases h1
    · have hnb : ∀ i, a ≠ .bor i := fun i z => hbor ⟨i, z⟩
      have h1 : (!isAl a && (ck T a).e C x) = true := by
        cases a <;> first | exact h1 | exact absurd rfl (hnb _)
      rw [Bool.and_eq_true, Bool.not_eq_true'] at h1
      refine ⟨fun pos pins s σ H Q I hq => ?_⟩
      obtain ⟨g, f, H0, env, env1, f1, fm, as, env', hE, hm, k⟩ := hq
      obtain ⟨a1, env2, ha1, hm⟩ := bind_ok hm
      rw [noBor_argOne hnb] at ha1
      obtain ⟨m, env2', hm1, ha2⟩ := bind_ok ha1
      cases ha2
      obtain ⟨as2, env3, has2, hm⟩ := bind_ok hm
      cases hm
      refine (PA.run (t := fun σ H Q => tE L R a σ H fun v H1 => tA2 L R b (as0 ++ [.val m]) (vs0 ++ [v]) σ H1 fun vs H2 => Q (v :: vs) H2) ⟨fun pos pins s σ H Q I hq => ?_⟩) pos pins s σ H Q I ?_
      · rw [star_cons h2]
        show wpAny _ _ (spliced ((false, eval x X.env) :: backTo pos (starEach r X.env))) _ _ s
        refine Calls.spliced_cons (thn ((ha.e C x h1.2 X c).run pins s σ H _ I hq) fun u s1 ⟨v, H1, I1, r1, q1⟩ => ?_)
        exact thn ((hb.l C r h3 X c _ _).run pos pins s1 σ H1 _ I1 q1) fun us s2 ⟨xs, H2, I2, r2, q2⟩ => ⟨v :: xs, H2, I2, .cons r1 r2, q2⟩
      · refine ⟨g ++ fm, f1, env1, m, env2, hE.ok, hm1, fun v H1 f2 fa pa => ?_⟩
        rw [h1.1] at pa
        exact ⟨g, f, H0, env, env2, f2, fm ++ fa, as2, env', hE.snoc pa, has2, fun vs H' f' fm' p => k (v :: vs) H' f' fm' (by simpa using p)⟩⟩
/-- .. of the values of keywords -/
structure SndK (L : Lk) (T : Tx) (R : Rt) (x : Ex) : Prop where
  k : ∀ C ks, (ck T x).k C ks = true → ∀ X, Cok L T R C X → ∀ as0 vs0, PK X ks (tA2 L R x as0 vs0)
theorem sndk_nil : SndK L T R .nil := ⟨fun C ks h X c as0 vs0 => by
  have h : ks.isEmpty = true := h
  cases ks with
  | cons _ _ => cases h
  | nil =>
    refine ⟨fun pos pins s σ H Q I ⟨g, f, H0, env, env1, f1, fm, as, env', hE, hm, k⟩ => pk_nil.run pos pins s σ H Q I ?_⟩
    cases hm
    exact k [] H f1 fm (by simpa using hE)⟩
theorem sndk_cons (a b : Ex) (ha : Snd L T R a) (hb : SndK L T R b) : SndK L T R (.cons a b) := ⟨fun C ks h X c as0 vs0 => by
  cases ks with
  | nil => cases h
  | cons x r =>
    have h : (!isAl a && (ck T a).e C x.value && (ck T b).k C r) = true := h
    rw [Bool.and_eq_true, Bool.and_eq_true, Bool.not_eq_true'] at h
    obtain ⟨⟨h1, h2⟩, h3⟩ := h
    have hnb : ∀ i, a ≠ .bor i := fun i z => by subst z; cases h2
    obtain ⟨nm, e, kpos⟩ := x
    refine ⟨fun pos pins s σ H Q I hq => ?_⟩
    obtain ⟨g, f, H0, env, env1, f1, fm, as, env', hE, hm, k⟩ := hq
    obtain ⟨a1, env2, ha1, hm⟩ := bind_ok hm
    rw [noBor_argOne hnb] at ha1
    obtain ⟨m, env2', hm1, ha2⟩ := bind_ok ha1
    cases ha2
    obtain ⟨as2, env3, has2, hm⟩ := bind_ok hm
    cases hm
    show wpAny _ _ (evalAll ((do let v ← eval e X.env; standAt pos; pure v) :: (backToKw pos (keywordEach r X.env)).map (·.2))) _ _ s
    refine wpAny_evalAll_cons (wpAny_bind (thn ((ha.e C e h2 X c).run pins s σ H (fun v H1 => tA2 L R b (as0 ++ [.val m]) (vs0 ++ [v]) σ H1 fun vs H2 => Q (v :: vs) H2) I ?_) fun u s1 ⟨v, H1, I1, r1, q1⟩ => wpAny_bind (wpAny_standAt (wpAny_pure ?_))))
    · refine ⟨g ++ fm, f1, env1, m, env2, hE.ok, hm1, fun v H1 f2 fa pa => ?_⟩
      rw [h1] at pa
      exact ⟨g, f, H0, env, env2, f2, fm ++ fa, as2, env', hE.snoc pa, has2, fun vs H' f' fm' p => k (v :: vs) H' f' fm' (by simpa using p)⟩
    · exact thn ((hb.k C r h3 X c _ _).run pos pins s1 σ H1 _ I1 q1) fun us s2 ⟨xs, H2, I2, r2, q2⟩ => ⟨v :: xs, H2, I2, .cons r1 r2, q2⟩⟩
theorem evl_len : ∀ {x : Ex} {env env' : En} {as : List Ar}, (ev R x).l env = .ok as env' → argN x = as.length
  | .nil, env, env', as, h => by cases h; rfl
  | .cons a b, env, env', as, h => by
    obtain ⟨a1, env1, h1, h⟩ := bind_ok h
    obtain ⟨a2, env2, h2, h⟩ := bind_ok h
    cases h
    have e1 : a1.length = 1 := by
      unfold argOne at h1
      split at h1
      · split at h1
        · cases h1; rfl
        · cases h1
      · obtain ⟨_, _, _, h1⟩ := bind_ok h1
        cases h1; rfl
    rw [List.length_append, e1, ← evl_len h2]
    show argN b + 1 = 1 + argN b
    omega
  | .var _, _, _, _, h => by cases h
  | .mv _, _, _, _, h => by cases h
  | .bor _, _, _, _, h => by cases h
  | .pl _ _, _, _, _, h => by cases h
  | .plv _ _, _, _, _, h => by cases h
  | .int _, _, _, _, h => by cases h
  | .str _, _, _, _, h => by cases h
  | .bl _, _, _, _, h => by cases h
  | .non, _, _, _, h => by cases h
  | .glb _, _, _, _, h => by cases h
  | .cls _, _, _, _, h => by cases h
  | .op2 _ _ _ _, _, _, _, h => by cases h
  | .neg _, _, _, _, h => by cases h
  | .not _, _, _, _, h => by cases h
  | .and _ _, _, _, _, h => by cases h
  | .or _ _, _, _, _, h => by cases h
  | .ite _ _ _, _, _, _, h => by cases h
  | .cmp _ _ _, _, _, _, h => by cases h
  | .cmpd _ _ _, _, _, _, h => by cases h
  | .chain _ _ _ _ _, _, _, _, h => by cases h
  | .bid _ _, _, _, _, h => by cases h
  | .bi _ _ _, _, _, _, h => by cases h
  | .bi2 _ _ _ _, _, _, _, h => by cases h
  | .bm _ _ _ _, _, _, _, h => by cases h
  | .bm2 _ _ _ _ _, _, _, _, h => by cases h
  | .isi _ _, _, _, _, h => by cases h
  | .isb _ _, _, _, _, h => by cases h
  | .tup _, _, _, _, h => by cases h
  | .lst _ _, _, _, _, h => by cases h
  | .ix _ _, _, _, _, h => by cases h
  | .sl _ _ _ _, _, _, _, h => by cases h
  | .rev _ _, _, _, _, h => by cases h
  | .fld _ _, _, _, _, h => by cases h
  | .call _ _, _, _, _, h => by cases h
  | .meth _ _ _, _, _, _, h => by cases h
  | .cmeth _ _ _, _, _, _, h => by cases h
  | .new _ _ _, _, _, _, h => by cases h
  | .lc _ _ _ _ _, _, _, _, h => by cases h
  | .lc2 _ _ _ _ _ _ _, _, _, _, h => by cases h
  | .dc _ _ _ _ _, _, _, _, h => by cases h
  | .fstr _, _, _, _, h => by cases h
  | .pop _ _, _, _, _, h => by cases h
  | .popAt _ _ _, _, _, _, h => by cases h
  | .rng1 _, _, _, _, h => by cases h
  | .rng2 _ _, _, _, _, h => by cases h
  | .rng3 _ _ _, _, _, _, h => by cases h
  | .zip _ _, _, _, _, h => by cases h
  | .enum _, _, _, _, h => by cases h
  | .callk _ _ _, _, _, _, h => by cases h
  | .methk _ _ _ _ _, _, _, _, h => by cases h
  | .newk _ _ _ _ _, _, _, _, h => by cases h
  | .meths _ _ _, _, _, _, h => by cases h
  | .newv _ _ _, _, _, _, h => by cases h
  | .sss _ _ _ _, _, _, _, h => by cases h
  | .fz _, _, _, _, h => by cases h
  | .frp _ _, _, _, _, h => by cases h
theorem tA_of {x : Ex} {σ : L2.St} {H : Hp} {Q : List V → Hp → Prop} (h : tA L R x σ H Q) : tA2 L R x [] [] σ H Q := by
  obtain ⟨g, f, env, as, env', hE, hm, k⟩ := h
  exact ⟨g, f, H, env, env, f, [], as, env', pst_nilA hE, hm, fun vs H' f' fm p => k vs H' f' fm p⟩
theorem SndL.a {x : Ex} {es : List Expr} (h : SndL L T R x) (hk : (ck T x).l C es = true) (c : Cok L T R C X) : PA X es (tA L R x) :=
  ⟨fun pos pins s σ H Q I q => (h.l C es hk X c [] []).run pos pins s σ H Q I (tA_of q)⟩
end
end FB

set_option Elab.async false
set_option linter.all false
set_option maxRecDepth 10000
/-! FbCall2: calls of the text's own defs. -/
namespace FB
open PySem PySem.Spec PyProof.Rows L2
section
variable {L : Lk} {T : Tx} {R : Rt} {C : Sc} {X : Cx}
variable {g f f1 f2 : List Addr} {H H1 H2 H' : Hp} {env env1 env2 : En} {σ : L2.St} {qt : Bool} {O O' : List Addr}
theorem EnvOk.congr {g' f' : List Addr} {env' : En} {σ' : L2.St} (h : EnvOk L g H env σ f) (pm : (g' ++ f').Perm (g ++ f)) (tr : ∀ a ∈ g', a ∈ g ++ f) (r : RepO L (g ++ f) H env' σ' f') : EnvOk L g' H env' σ' f' :=
  ⟨pm.nodup_iff.mpr h.nd, fun a ha => h.trf a (tr a ha), r.mv (Mv.less fun a ha => pm.mem_iff.mp ha) fun _ _ _ e => e⟩
theorem take_ok : ∀ {as : List Ar} {vs : List V} {g fm f : List Addr} {env : En} {ms : List M} {env2 : En}, takeA as env = some (ms, env2) → EnvOk L (g ++ fm) H env σ f → RepAs L (g ++ fm ++ f) H σ as vs fm →
    ∃ fa f2, EnvOk L (g ++ f2) H (ms.map some) (vs.map some) fa ∧ EnvOk L (g ++ fa) H env2 σ f2 ∧ (∀ a ∈ fa, a ∈ fm ∨ a ∈ f) ∧ ∀ a ∈ f2, a ∈ f
  | [], vs, g, fm, f, env, ms, env2, h, e, r => by
    cases h
    cases vs with
    | cons _ _ => exact r.elim
    | nil =>
      have r : fm = [] := r
      subst r
      refine ⟨[], f, ⟨by simpa using e.nd, fun a ha => e.trf a (by simpa using ha), rfl⟩, by simpa using e, fun _ z => (nomatch z), fun _ z => z⟩
  | .val m :: as, vs, g, fm, f, env, ms, env2, h, e, r => by
    cases vs with
    | nil => exact r.elim
    | cons v vs =>
      obtain ⟨f1, fr, ef, rm, rr⟩ := r
      subst ef
      obtain ⟨⟨ms', e2⟩, h1, h2⟩ := mapO_ok (r := takeA as env) (k := fun p => (m :: p.1, p.2)) h
      cases h2
      have e' : EnvOk L (g ++ f1 ++ fr) H env σ f := by rw [List.append_assoc]; exact e
      obtain ⟨fa, f2, k1, k2, k3, k4⟩ := take_ok (g := g ++ f1) h1 e' (by rw [List.append_assoc g f1 fr]; exact rr)
      have sub : ∀ a, a ∈ g ++ f2 ++ (f1 ++ fa) → a ∈ g ++ (f1 ++ fr) ++ f := fun a ha => by
        simp only [List.mem_append] at ha ⊢
        rcases ha with (ha | ha) | ha | ha
        · exact .inl (.inl ha)
        · exact .inr (k4 a ha)
        · exact .inl (.inr (.inl ha))
        · rcases k3 a ha with z | z
          · exact .inl (.inr (.inr z))
          · exact .inr z
      have pm : (g ++ f2 ++ (f1 ++ fa)).Perm (g ++ f1 ++ f2 ++ fa) := by
        rw [List.append_assoc, List.append_assoc, List.append_assoc]
        refine List.Perm.append_left g ?_
        rw [← List.append_assoc, ← List.append_assoc]
        exact (List.perm_append_comm (l₁ := f2) (l₂ := f1)).append_right fa
      refine ⟨f1 ++ fa, f2, k1.congr pm (fun a ha => pm.mem_iff.mp (List.mem_append_left _ ha)) (show RepO L _ H (some m :: ms'.map some) (some v :: vs.map some) (f1 ++ fa) from ⟨v, f1, fa, rfl, rfl, rm.mv (Mv.less fun a ha => sub a (pm.mem_iff.mpr ha)) fun _ _ _ e => e, k1.rep⟩), by rw [← List.append_assoc]; exact k2, fun a ha => ?_, k4⟩
      rcases List.mem_append.mp ha with z | z
      · exact .inl (List.mem_append_left _ z)
      · exact (k3 a z).imp (List.mem_append_right _) id
  | .bor i :: as, vs, g, fm, f, env, ms, env2, h, e, r => by
    cases vs with
    | nil => exact r.elim
    | cons v vs =>
      obtain ⟨ev, rr⟩ := r
      obtain ⟨m, hm, h⟩ := bindO_ok (r := slot env i) (k := fun m => (takeA as (env.set i none)).map fun p : List M × En => (m :: p.1, p.2)) h
      obtain ⟨⟨ms', e2⟩, h1, h2⟩ := mapO_ok h
      cases h2
      obtain ⟨v', f1, f2', ev', hf, rm, e'⟩ := e.take hm
      rw [ev] at ev'
      cases ev'
      have pm0 : (g ++ f1 ++ fm).Perm (g ++ fm ++ f1) := by
        rw [List.append_assoc, List.append_assoc]
        exact List.Perm.append_left g List.perm_append_comm
      have e'' : EnvOk L (g ++ f1 ++ fm) H (env.set i none) σ f2' := e'.perm pm0
      have rr' : RepAs L (g ++ f1 ++ fm ++ f2') H σ as vs fm := rr.mv (Mv.less fun a ha => by
        simp only [List.mem_append] at ha ⊢
        rcases ha with ((ha | ha) | ha) | ha
        · exact .inl (.inl ha)
        · exact .inr ((hf a).mpr (.inl ha))
        · exact .inl (.inr ha)
        · exact .inr ((hf a).mpr (.inr ha))) fun _ _ _ e => e
      obtain ⟨fa, f2, k1, k2, k3, k4⟩ := take_ok (g := g ++ f1) h1 e'' rr'
      have pm : (g ++ f2 ++ (f1 ++ fa)).Perm (g ++ f1 ++ f2 ++ fa) := by
        rw [List.append_assoc, List.append_assoc, List.append_assoc]
        refine List.Perm.append_left g ?_
        rw [← List.append_assoc, ← List.append_assoc]
        exact (List.perm_append_comm (l₁ := f2) (l₂ := f1)).append_right fa
      have sub : ∀ a, a ∈ g ++ f1 ++ f2 ++ fa → a ∈ g ++ fm ++ f1 ++ f2' := fun a ha => by
        simp only [List.mem_append] at ha ⊢
        rcases ha with ((ha | ha) | ha) | ha
        · exact .inl (.inl (.inl ha))
        · exact .inl (.inr ha)
        · exact .inr (k4 a ha)
        · rcases k3 a ha with z | z
          · exact .inl (.inl (.inr z))
          · exact .inr z
      refine ⟨f1 ++ fa, f2, k1.congr pm (fun a ha => pm.mem_iff.mp (List.mem_append_left _ ha)) (show RepO L _ H (some m :: ms'.map some) (some v :: vs.map some) (f1 ++ fa) from ⟨v, f1, fa, rfl, rfl, rm.mv (Mv.less sub) fun _ _ _ e => e, k1.rep⟩), by rw [← List.append_assoc]; exact k2, fun a ha => ?_, fun a ha => (hf a).mpr (.inr (k4 a ha))⟩
      rcases List.mem_append.mp ha with z | z
      · exact .inr ((hf a).mpr (.inl z))
      · rcases k3 a z with w | w
        · exact .inl w
        · exact .inr ((hf a).mpr (.inr w))
theorem set_self {i : Nat} {v : Option V} : ∀ {σ : L2.St} {i : Nat}, σ[i]? = some v → σ.set i v = σ
  | [], _, h => by simp at h
  | a :: r, 0, h => by simp at h; subst h; rfl
  | a :: r, i + 1, h => by
    show a :: r.set i v = a :: r
    rw [set_self (i := i) (by simpa using h)] <;> exact i
theorem give_ok : ∀ {as : List Ar} {vs : List V} {fm : List Addr} {ms' : List (Option M)} {f' f2 fx g : List Addr} {env2 : En}, RepAs L O H σ as vs fm → RepO L O' H' ms' (vs.map some) f' → (∀ a, a ∈ g ++ fx ++ f' ++ f2 → a ∈ O') →
    EnvOk L (g ++ fx ++ f') H' env2 σ f2 → ∃ f3, EnvOk L (g ++ fx) H' (giveA as ms' env2) σ f3 ∧ ∀ a ∈ f3, a ∈ f2 ∨ a ∈ f'
  | [], vs, fm, ms', f', f2, fx, g, env2, r, ro, s, e => ⟨f2, by
      have : giveA [] ms' env2 = env2 := by cases ms' <;> rfl
      rw [this]
      exact e.less (List.sublist_append_left _ _), fun a ha => .inl ha⟩
  | .val m :: as, [], fm, ms', f', f2, fx, g, env2, r, ro, s, e => r.elim
  | .bor i :: as, [], fm, ms', f', f2, fx, g, env2, r, ro, s, e => r.elim
  | .val m :: as, v :: vs, fm, [], f', f2, fx, g, env2, r, ro, s, e => ro.elim
  | .bor i :: as, v :: vs, fm, [], f', f2, fx, g, env2, r, ro, s, e => ro.elim
  | .val m :: as, v :: vs, fm, none :: ms', f', f2, fx, g, env2, ⟨_, _, _, _, rr⟩, ro, s, e => give_ok (as := as) rr (ms' := ms') (vs := vs) ro s e
  | .val m :: as, v :: vs, fm, some m' :: ms', f', f2, fx, g, env2, ⟨_, _, _, _, rr⟩, ⟨v', f1, fr, ev, ef, rm, ro⟩, s, e => by
    subst ef
    have sub : (g ++ fx ++ fr).Sublist (g ++ fx ++ (f1 ++ fr)) := (List.sublist_append_right f1 fr).append_left _
    obtain ⟨f3, k1, k2⟩ := give_ok (as := as) rr ro (fun a ha => s a (by
      simp only [List.mem_append] at ha ⊢
      rcases ha with (ha | ha) | ha
      · exact .inl (.inl ha)
      · exact .inl (.inr (.inr ha))
      · exact .inr ha)) (e.less sub)
    exact ⟨f3, k1, fun a ha => (k2 a ha).imp id (List.mem_append_right _)⟩
  | .bor i :: as, v :: vs, fm, none :: ms', f', f2, fx, g, env2, ⟨_, rr⟩, ro, s, e => by
    obtain ⟨fd, k0, e'⟩ := e.drop i
    obtain ⟨f3, k1, k2⟩ := give_ok (as := as) rr (ms' := ms') (vs := vs) ro (fun a ha => s a (by
      simp only [List.mem_append] at ha ⊢
      rcases ha with ha | ha
      · exact .inl ha
      · exact .inr (k0 a ha))) e'
    exact ⟨f3, k1, fun a ha => (k2 a ha).imp (k0 a) id⟩
  | .bor i :: as, v :: vs, fm, some m' :: ms', f', f2, fx, g, env2, ⟨hs, rr⟩, ⟨v', f1, fr, ev, ef, rm, ro⟩, s, e => by
    subst ef
    have ev : some v = some v' := ev
    cases ev
    have il : i < env2.length := by
      rw [e.len]
      exact (List.getElem?_eq_some_iff.mp hs).1
    have pm : (g ++ fx ++ fr ++ f1).Perm (g ++ fx ++ (f1 ++ fr)) := by
      rw [List.append_assoc (g ++ fx)]
      exact List.Perm.append_left _ List.perm_append_comm
    have e1 : EnvOk L (g ++ fx ++ fr ++ f1) H' env2 σ f2 := e.perm pm
    have rm' : RepM L (g ++ fx ++ fr ++ f1 ++ f2) H' m' v f1 := rm.mv (Mv.less fun a ha => s a (by
      simp only [List.mem_append] at ha ⊢
      rcases ha with (((ha | ha) | ha) | ha) | ha
      · exact .inl (.inl (.inl ha))
      · exact .inl (.inl (.inr ha))
      · exact .inl (.inr (.inr ha))
      · exact .inl (.inr (.inl ha))
      · exact .inr ha)) fun _ _ _ e => e
    obtain ⟨fp, k0, e2⟩ := e1.put rm' il
    rw [set_self (i := i) hs] at e2
    obtain ⟨f3, k1, k2⟩ := give_ok (as := as) rr ro (fun a ha => s a (by
      simp only [List.mem_append] at ha ⊢
      rcases ha with (ha | ha) | ha
      · exact .inl (.inl ha)
      · exact .inl (.inr (.inr ha))
      · rcases k0 a ha with z | z
        · exact .inl (.inr (.inl z))
        · exact .inr z)) e2
    refine ⟨f3, k1, fun a ha => ?_⟩
    rcases k2 a ha with z | z
    · rcases k0 a z with w | w
      · exact .inr (List.mem_append_left _ w)
      · exact .inl w
    · exact .inr (List.mem_append_right _ z)
/-- behind a call: the value, the lent slots back in their places -/
theorem call_pst {as : List Ar} {vs : List V} {fm : List Addr} {ms : List M} {ms' : List (Option M)} {m : M} {v : V} {f' fm' fa : List Addr} (p : PstA L g f H env as env1 σ vs H1 f1 fm)
    (k1 : EnvOk L (g ++ f2) H1 (ms.map some) (vs.map some) fa) (k2 : EnvOk L (g ++ fa) H1 env2 σ f2) (k3 : ∀ a ∈ fa, a ∈ fm ∨ a ∈ f1) (k4 : ∀ a ∈ f2, a ∈ f1)
    (u : Pst L false false (g ++ f2) fa H1 (ms.map some) m ms' (vs.map some) v H' f' fm') : ∃ f3, Pst L false false g f H env m (giveA as ms' env2) σ v H' f3 fm' := by
  have st2 : ∀ c o, H c = some o → c ∉ f → H1 c = some o ∧ c ∉ fa ∧ c ∉ f2 := fun c o e n => by
    have n1 : c ∉ f1 := fun m => by
      rcases p.nf c m with z | z
      · exact n z
      · rw [z] at e; cases e
    have n2 : c ∉ fm := fun m => by
      rcases p.nm c m with z | z
      · exact n z
      · rw [z] at e; cases e
    exact ⟨p.st c o e n, fun m => (k3 c m).elim n2 n1, fun m => n1 (k4 c m)⟩
  have nf2 : ∀ c, c ∈ fa ∨ c ∈ f2 ∨ H1 c = none → c ∈ f ∨ H c = none := fun c h => by
    by_cases n : c ∈ f
    · exact .inl n
    · refine .inr ?_
      cases q : H c with
      | none => rfl
      | some o =>
        obtain ⟨s1, s2, s3⟩ := st2 c o q n
        rcases h with z | z | z
        · exact absurd z s2
        · exact absurd z s3
        · rw [s1] at z; cases z
  have okc : EnvOk L (g ++ f2 ++ fm') H' ms' (vs.map some) f' := u.ok
  have dj : ∀ c ∈ f2, c ∉ fa := fun c hc m => (List.nodup_append.mp k1.nd).2.2 c (List.mem_append_right _ hc) c m rfl
  have pm : (g ++ fm' ++ f' ++ f2).Perm (g ++ f2 ++ fm' ++ f') := by
    have : (fm' ++ f' ++ f2).Perm (f2 ++ (fm' ++ f')) := List.perm_append_comm
    simpa [List.append_assoc] using List.Perm.append_left g this
  have e2 : EnvOk L (g ++ fm' ++ f') H' env2 σ f2 := by
    refine ⟨pm.nodup_iff.mpr okc.nd, fun a ha => okc.trf a (pm.mem_iff.mp (List.mem_append_left _ ha)), k2.rep.mv ⟨fun a o n e => u.st a o e fun z => n (List.mem_append_left _ (List.mem_append_right _ z)), fun a ha n => ?_⟩ fun a o ha e => u.st a o e (dj a ha)⟩
    simp only [List.mem_append, not_or] at ha n
    rcases ha with ((ha | ha) | ha) | ha
    · exact absurd ha n.1.1
    · rcases u.nm a ha with z | z
      · exact absurd z n.1.2
      · exact z
    · rcases u.nf a ha with z | z
      · exact absurd z n.1.2
      · exact z
    · exact absurd ha n.2
  obtain ⟨f3, k5, k6⟩ := give_ok p.rep okc.rep (fun a ha => pm.mem_iff.mp ha) e2
  refine ⟨f3, ⟨k5, fun c o e n => u.st c o (st2 c o e n).1 (st2 c o e n).2.1, fun c hc => ?_, fun c hc => ?_, u.rep.mv (Mv.less fun a ha => ?_) fun _ _ _ e => e, fun z => (nomatch z), fun z => (nomatch z)⟩⟩
  · rcases k6 c hc with z | z
    · exact nf2 c (.inr (.inl z))
    · rcases u.nf c z with w | w
      · exact nf2 c (.inl w)
      · exact nf2 c (.inr (.inr w))
  · rcases u.nm c hc with w | w
    · exact nf2 c (.inl w)
    · exact nf2 c (.inr (.inr w))
  · simp only [List.mem_append] at ha ⊢
    rcases ha with (ha | ha) | ha
    · exact .inl (.inl (.inl ha))
    · exact .inl (.inr ha)
    · rcases k6 a ha with z | z
      · exact .inl (.inl (.inr z))
      · exact .inr z
/-- the callee's wish from the arguments -/
theorem callA_rd {call : List M → Cr} {as : List Ar} {vs : List V} {fm : List Addr} {m : M} {env' : En} {Q : VK} {E : XK} (p : PstA L g f H env as env1 σ vs H1 f1 fm) (h : callA call as env1 = .ok m env')
    (q : ∀ v H' f' fm, Pst L false false g f H env m env' σ v H' f' fm → Q v H') : spOf L call vs H1 Q E := by
  unfold callA at h
  split at h
  · rename_i ms e2 ht
    split at h
    · rename_i m' ms' hc
      cases h
      obtain ⟨fa, f2, k1, k2, k3, k4⟩ := take_ok ht p.ok p.rep
      exact ⟨g ++ f2, fa, ms, _, ms', k1, hc, fun v H' f' fm' u => let ⟨f3, z⟩ := call_pst (env2 := e2) p k1 k2 k3 k4 u; q v H' f3 fm' z⟩
    · cases h
    · cases h
  · cases h
theorem pe_callR {k : Nat} {fa : Addr} {sp : Sp} {x : Str} {pp pos : Pos} {e : Expr} {es : List Expr} {t : TA} (F : FnR X.prog X.w X.K X.mg X.base CX0 k fa sp) (hr : Room k X.A) (hg : Gl X x) (hm : X.mg x = some (.ref fa)) (hk : PySem.W.keepIn X.K (.ref fa) = true)
    (ha : PA X (e :: es) t) (hs : noStars (e :: es) = true) (hdb : (x == ("__debug__" : Str)) = false) : PE X (.Call (.Name x pp) (e :: es) [] pos) (fun σ H Q => t σ H fun vs H1 => sp vs H1 Q E0) := by
  have hs : (noStar e && noStars es) = true := hs
  rw [Bool.and_eq_true] at hs
  refine ⟨fun pins s σ H Q I h => ?_⟩
  refine wpAny_Call_Name_kw (ld_glob I hg hm ?_ hdb)
  refine PySem.W.callWith_K (h₀ := X.base) I.ok.mod.kin hk (thn (ha.run pos pins s σ H _ I h) fun us s1 ⟨vs, H1, I1, r, q⟩ => ⟨I1.kIn, ?_⟩) (star_cons hs.1) (star_none hs.2)
  exact wpAny_call (run_fnR F hr pass0 I1 r q)
theorem pe_callR0 {k : Nat} {fa : Addr} {sp : Sp} {x : Str} {pp pos : Pos} (F : FnR X.prog X.w X.K X.mg X.base CX0 k fa sp) (hr : Room k X.A) (hg : Gl X x) (hm : X.mg x = some (.ref fa)) (hk : PySem.W.keepIn X.K (.ref fa) = true)
    (hdb : (x == ("__debug__" : Str)) = false) : PE X (.Call (.Name x pp) [] [] pos) (fun σ H Q => sp [] H Q E0) := by
  refine ⟨fun pins s σ H Q I h => ?_⟩
  refine wpAny_Call_Name_kw (ld_glob I hg hm ?_ hdb)
  exact PySem.W.callWith_K0 I.kIn hk (wpAny_call (run_fnR (us := []) F hr pass0 I .nil h))
theorem l_nil {args : Ex} (h : (ck T args).l C [] = true) : args = .nil := by
  cases args <;> first | rfl | cases h
theorem snd_call (fid : Nat) (args : Ex) (ha : SndL L T R args) : Snd L T R (.call fid args) := by
  have hE : ∀ C e, (ck T (.call fid args)).e C e = true → ∀ X, Cok L T R C X → PE X e (tE L R (.call fid args)) := by
    intro C e h X c
    cases e with
    | Call x es ks pos =>
      cases x with
      | Name n p =>
        cases ks with
        | cons _ _ => cases h
        | nil =>
          have h : (decide (n = T.fn fid) && T.isg fid && glB C n && (ck T args).l C es) = true := h
          simp only [Bool.and_eq_true, decide_eq_true_eq] at h
          obtain ⟨⟨⟨h1, h2⟩, h3⟩, h4⟩ := h
          obtain ⟨h3, h3'⟩ := gl_of c h3
          obtain ⟨k, gd, hr⟩ := c.gd
          obtain ⟨g1, g2⟩ := gd.gfn fid h2
          rw [← h1] at g1
          have F := gd.run fid
          rw [← c.K] at F g2
          cases es with
          | nil =>
            have e0 := l_nil h4
            subst e0
            refine PE.imp (pe_callR0 F (hr.mono (Nat.le_succ k)) h3 g1 g2 h3') fun σ H Q ⟨g, f, env, m, env', hE, hm, q⟩ => ?_
            exact callA_rd (pst_nilA hE) (show callA (R.call fid) [] env = .ok m env' from hm) q
          | cons x es =>
            refine PE.imp (pe_callR F (hr.mono (Nat.le_succ k)) h3 g1 g2 (ha.a h4 c) (ckl_star h4) h3') fun σ H Q ⟨g, f, env, m, env', hE, hm, q⟩ => ?_
            obtain ⟨as, env1, has, hm⟩ := bind_ok hm
            exact ⟨g, f, env, as, env1, hE, has, fun vs H' f' fm p => callA_rd p hm q⟩
      | _ => cases h
    | _ => cases h
  refine ⟨hE, fun C e h X c => ?_⟩
  refine pt_plain c (hE C e h X c) rfl ?_
  cases e with
  | Call x es ks pos => exact fun _ => rfl
  | _ => cases h

/-! ### displays -/
theorem vals_rep : ∀ {as : List Ar} {vs : List V} {fm : List Addr} {ds : List D}, valsOf as = some ds → RepAs L O H σ as vs fm → (∀ a, a ∈ O' → a ∈ O) → (∀ a ∈ fm, a ∉ O') → RepDs L O' H ds vs
  | [], [], _, ds, h, _, _, _ => by cases h; trivial
  | .val m :: as, v :: vs, fm, ds, h, ⟨f1, f2, e, p, q⟩, s, n => by
    obtain ⟨ds', h1, rfl⟩ := mapO_ok h
    exact ⟨p.frz s fun a ha => n a (e ▸ List.mem_append_left _ ha), vals_rep h1 q s fun a ha => n a (e ▸ List.mem_append_right _ ha)⟩
  | .bor i :: as, _ :: _, _, _, h, _, _, _ => by cases h
theorem RepAs.len : ∀ {as : List Ar} {vs : List V} {fm : List Addr}, RepAs L O H σ as vs fm → as.length = vs.length
  | [], [], _, _ => rfl
  | .val _ :: _, _ :: _, _, ⟨_, _, _, _, q⟩ => congrArg Nat.succ q.len
  | .bor _ :: _, _ :: _, _, ⟨_, q⟩ => congrArg Nat.succ q.len
theorem PstA.tst {as : List Ar} {vs : List V} {fm : List Addr} (p : PstA L g f H env as env1 σ vs H1 f1 fm) : Tst L false g f H env env1 σ H1 f1 :=
  ⟨p.ok.less (List.sublist_append_left _ _), p.st, p.nf, fun z => (nomatch z)⟩
theorem PstA.ds {as : List Ar} {vs : List V} {fm : List Addr} {ds : List D} (p : PstA L g f H env as env1 σ vs H1 f1 fm) (h : valsOf as = some ds) : RepDs L (g ++ f1) H1 ds vs := by
  refine vals_rep h p.rep (fun a ha => ?_) fun a ha m => ?_
  · simp only [List.mem_append] at ha ⊢
    rcases ha with z | z
    · exact .inl (.inl z)
    · exact .inr z
  · have nd := p.ok.nd
    rw [List.append_assoc] at nd
    have h1 := List.nodup_append.mp nd
    rcases List.mem_append.mp m with z | z
    · exact h1.2.2 a z a (List.mem_append_left _ ha) rfl
    · exact (List.nodup_append.mp h1.2.1).2.2 a ha a z rfl
theorem snd_tup (es : Ex) (ha : SndL L T R es) : Snd L T R (.tup es) := by
  have hE : ∀ C e, (ck T (.tup es)).e C e = true → ∀ X, Cok L T R C X → PE X e (tE L R (.tup es)) := by
    intro C e h X c
    cases e with
    | Tuple xs k pos =>
      refine PE.imp (pe_tup (ha.a h c)) fun σ H Q ⟨g, f, env, m, env', hE, hm, q⟩ => ?_
      obtain ⟨as, env1, has, hm⟩ := bind_ok hm
      split at hm
      · rename_i ds hv
        split at hm
        · rename_i hz
          cases hm
          refine ⟨g, f, env, as, _, hE, has, fun vs H' f' fm p => ⟨?_, fun pp np => q _ _ _ _ (p.tst.tup np (p.ds hv))⟩⟩
          rw [← (p.ds hv).len, PySem.sizeLine_eq]; exact hz
        · cases hm
      · cases hm
    | _ => cases h
  refine ⟨hE, fun C e h X c => ?_⟩
  refine pt_plain c (hE C e h X c) rfl ?_
  cases e with
  | Tuple x k pos => exact fun _ => rfl
  | _ => cases h
end
end FB

set_option Elab.async false
set_option linter.all false
set_option maxRecDepth 10000
/-! FbCall3: lists as written, methods, new instances. -/
namespace FB
open PySem PySem.Spec PyProof.Rows L2
section
variable {L : Lk} {T : Tx} {R : Rt} {C : Sc} {X : Cx}
variable {g f f1 f2 : List Addr} {H H1 H2 H' : Hp} {env env1 env2 : En} {σ : L2.St} {qt : Bool} {O O' : List Addr}
theorem repO_ms : ∀ {ms : List M} {vs : List V} {f : List Addr}, RepO L O H (ms.map some) (vs.map some) f → RepMs L O H ms vs f
  | [], [], _, h => h
  | m :: ms, v :: vs, f, ⟨v', f1, f2, e, ef, r, q⟩ => by
    cases e
    exact ⟨f1, f2, ef, r, repO_ms q⟩
  | [], _ :: _, _, h => h.elim
  | _ :: _, [], _, h => h.elim
theorem RepMs.len : ∀ {ms : List M} {vs : List V} {f : List Addr}, RepMs L O H ms vs f → ms.length = vs.length
  | [], [], _, _ => rfl
  | _ :: _, _ :: _, _, ⟨_, _, _, _, q⟩ => congrArg Nat.succ q.len
/-- a value's trees in hand, the slots behind it -/
structure Own (L : Lk) (g f : List Addr) (H : Hp) (env' : En) (σ : L2.St) (H' : Hp) (f' fm : List Addr) : Prop where
  ok : EnvOk L (g ++ fm) H' env' σ f'
  st : ∀ a o, H a = some o → a ∉ f → H' a = some o
  nf : ∀ a ∈ f', a ∈ f ∨ H a = none
  nm : ∀ a ∈ fm, a ∈ f ∨ H a = none
theorem Own.dj {fm : List Addr} (o : Own L g f H env1 σ H1 f1 fm) : ∀ a ∈ fm, a ∉ g ++ f1 := fun a ha m => by
  have nd := o.ok.nd
  rw [List.append_assoc] at nd
  have h1 := List.nodup_append.mp nd
  rcases List.mem_append.mp m with z | z
  · exact h1.2.2 a z a (List.mem_append_left _ ha) rfl
  · exact (List.nodup_append.mp h1.2.1).2.2 a ha a z rfl
theorem Own.tst {fm : List Addr} (o : Own L g f H env1 σ H1 f1 fm) : Tst L false g f H env env1 σ H1 f1 := ⟨o.ok.less (List.sublist_append_left _ _), o.st, o.nf, fun z => (nomatch z)⟩
theorem Own.pst {fm : List Addr} {m : M} {v : V} (o : Own L g f H env1 σ H1 f1 fm) (r : RepM L (g ++ fm ++ f1) H1 m v fm) : Pst L false false g f H env m env1 σ v H1 f1 fm :=
  ⟨o.ok, o.st, o.nf, o.nm, r, fun z => (nomatch z), fun z => (nomatch z)⟩
theorem Pst.own {qt : Bool} {fm : List Addr} {m : M} {v : V} (p : Pst L false qt g f H env m env1 σ v H1 f1 fm) : Own L g f H env1 σ H1 f1 fm := ⟨p.ok, p.st, p.nf, p.nm⟩
/-- a tree that is read only from now on -/
theorem Pst.frz {qt : Bool} {fm : List Addr} {m : M} {v : V} (p : Pst L false qt g f H env m env1 σ v H1 f1 fm) : Pst L false false g f H env (.pure m.frz) env1 σ v H1 f1 [] :=
  p.own.tst.pure (p.rep.frz (fun a ha => by
    simp only [List.mem_append] at ha ⊢
    rcases ha with z | z
    · exact .inl (.inl z)
    · exact .inr z) p.own.dj)
theorem Own.new {fm : List Addr} {p : Addr} {o : HO} (w : Own L g f H env1 σ H1 f1 fm) (np : H1 p = none) : Own L g f H env1 σ (upd H1 p o) f1 fm :=
  ⟨w.ok.same (new_same np), fun a u e n => new_same np a u (w.st a u e n), w.nf, w.nm⟩
theorem sub_fr {a : Addr} {g fm f : List Addr} (ha : a ∈ g ++ f) : a ∈ g ++ fm ++ f := by
  simp only [List.mem_append] at ha ⊢
  rcases ha with z | z
  · exact .inl (.inl z)
  · exact .inr z
/-- a list of trees is laid -/
theorem Own.lst {fm : List Addr} {ms : List M} {vs : List V} {p : Addr} (w : Own L g f H env1 σ H1 f1 fm) (mu : Bool) (np : H1 p = none) (r : RepMs L (g ++ fm ++ f1) H1 ms vs fm) :
    ∃ fr, Pst L false false g f H env (if mu then .lst ms else .pure (.lst (M.frzs ms))) env1 σ (.ref p) (upd H1 p (.lst vs)) f1 fr := by
  have npO : p ∉ g ++ fm ++ f1 := fun m => by
    obtain ⟨o, e⟩ := w.ok.trf p m
    rw [np] at e; cases e
  have npH : p ∉ f → H p = none := fun n => by
    cases q : H p with
    | none => rfl
    | some o => rw [w.st p o q n] at np; cases np
  cases mu with
  | false =>
    have rd : RepDs L (g ++ f1) H1 (M.frzs ms) vs := r.frz (fun a ha => sub_fr ha) w.dj
    have t : Tst L false g f H env env1 σ H1 f1 := w.tst
    exact ⟨[], (t.new np).pure ⟨p, vs, rfl, ⟨fun m => npO (sub_fr m), upd_same⟩, rd.new np⟩⟩
  | true =>
    have hnd : (g ++ (p :: fm) ++ f1).Nodup := by
      have h1 := w.ok.nd
      have pm : (g ++ (p :: fm) ++ f1).Perm (p :: (g ++ fm ++ f1)) := by
        rw [List.append_assoc, List.append_assoc]
        exact List.perm_middle
      rw [pm.nodup_iff]
      exact List.nodup_cons.mpr ⟨npO, h1⟩
    have mvp : Mv (g ++ fm ++ f1) (g ++ (p :: fm) ++ f1) H1 (upd H1 p (.lst vs)) := ⟨fun a u _ e => new_same np a u e, fun a m n => by
      simp only [List.mem_append, List.mem_cons] at m n
      rcases m with (m | m | m) | m
      · exact absurd (.inl (.inl m)) n
      · rw [m]; exact np
      · exact absurd (.inl (.inr m)) n
      · exact absurd (.inr m) n⟩
    refine ⟨p :: fm, ⟨⟨hnd, fun a ha => ?_, w.ok.rep.mv mvp fun a u _ e => new_same np a u e⟩, (w.new np).st, (w.new (o := .lst vs) np).nf, fun a ha => ?_, ⟨p, vs, fm, rfl, rfl, upd_same, r.mv mvp fun a u _ e => new_same np a u e⟩, fun z => (nomatch z), fun z => (nomatch z)⟩⟩
    · rcases List.mem_append.mp ha with z | z
      · obtain ⟨o, e⟩ := w.ok.tr a (List.mem_append_left _ z)
        exact ⟨o, new_same np a o e⟩
      · rcases List.mem_cons.mp z with rfl | z
        · exact ⟨_, upd_same⟩
        · obtain ⟨o, e⟩ := w.ok.tr a (List.mem_append_right _ z)
          exact ⟨o, new_same np a o e⟩
    · rcases List.mem_cons.mp ha with rfl | z
      · by_cases n : a ∈ f
        · exact .inl n
        · exact .inr (npH n)
      · exact w.nm a z
/-- arguments taken -/
theorem PstA.take {as : List Ar} {vs : List V} {fm : List Addr} {ms : List M} (p : PstA L g f H env as env1 σ vs H1 f1 fm) (h : takeA as env1 = some (ms, env2)) :
    ∃ fa f2, Own L g f H env2 σ H1 f2 fa ∧ RepMs L (g ++ fa ++ f2) H1 ms vs fa := by
  obtain ⟨fa, f2, k1, k2, k3, k4⟩ := take_ok h p.ok p.rep
  refine ⟨fa, f2, ⟨k2, p.st, fun a ha => p.nf a (k4 a ha), fun a ha => ?_⟩, (repO_ms k1.rep).mv (Mv.less fun a ha => ?_) fun _ _ _ e => e⟩
  · rcases k3 a ha with z | z
    · exact p.nm a z
    · exact p.nf a z
  · simp only [List.mem_append] at ha ⊢
    rcases ha with (z | z) | z
    · exact .inl (.inl z)
    · exact .inr z
    · exact .inl (.inr z)
theorem snd_lst (mu : Bool) (es : Ex) (ha : SndL L T R es) : Snd L T R (.lst mu es) := by
  have hE : ∀ C e, (ck T (.lst mu es)).e C e = true → ∀ X, Cok L T R C X → PE X e (tE L R (.lst mu es)) := by
    intro C e h X c
    cases e with
    | List xs pos =>
      refine PE.imp (pe_lst (ha.a h c)) fun σ H Q ⟨g, f, env, m, env', hE, hm, q⟩ => ?_
      obtain ⟨as, env1, has, hm⟩ := bind_ok hm
      split at hm
      · rename_i ms env2 ht
        split at hm
        · rename_i hz
          cases hm
          refine ⟨g, f, env, as, env1, hE, has, fun vs H1 f1 fm p => ?_⟩
          obtain ⟨fa, f2, w, r⟩ := p.take ht
          refine ⟨by rw [← r.len, PySem.sizeLine_eq]; exact hz, fun pp np => ?_⟩
          obtain ⟨fr, z⟩ := w.lst (env := env) mu np r
          exact q _ _ _ _ z
        · cases hm
      · cases hm
    | _ => cases h
  refine ⟨hE, fun C e h X c => ?_⟩
  refine pt_plain c (hE C e h X c) rfl ?_
  cases e with
  | List x pos => exact fun _ => rfl
  | _ => cases h

/-! ### methods -/
theorem ab_no {e : Expr} {a : Str} {env : Env} (h : noCall0 e = true) : attributeBase e a env (eval e env) = eval e env := by
  cases e with
  | Call fn es ks p => cases es with
    | nil => cases h
    | cons _ _ => cases fn <;> rfl
  | _ => rfl
theorem mform {es : List Expr} {env : Env} {pos : Pos} (h : noStars es = true) (hn : es.length < 30) : methodCallForm (es.length + ([] : List Keyword).length) (backTo pos (starEach es env)) (backToKw pos (keywordEach [] env)) = true := by
  unfold methodCallForm
  have h1 : (backTo pos (starEach es env)).all (!·.1) = true := by
    clear hn
    induction es with
    | nil => rfl
    | cons e es ih =>
      have h : (noStar e && noStars es) = true := h
      rw [Bool.and_eq_true] at h
      rw [star_cons h.1]
      show (!false && (backTo pos (starEach es env)).all (!·.1)) = true
      rw [ih h.2]; rfl
  rw [h1]
  show (true && true && decide (es.length + 0 + 0 < 30)) = true
  simpa using hn
theorem mtree {o : Expr} {m : Str} {apos pos : Pos} {es : List Expr} {env : Env} (hb : attributeBase o m env (eval o env) = eval o env) (hl : (apos.endLine == pos.line) = true) (h : noStars es = true) (hn : es.length < 30) :
    eval (.Call (.Attribute o m apos) es [] pos) env = (do
      let ov ← eval o env
      standAt apos.atName
      let (f, first) ← holding [ov] (getMethod ov m (do return (← importBound o env).getD true))
      callWith pos f first (backTo pos (starEach es env)) (backToKw pos (keywordEach [] env))) := by
  refine mcall_of hb fun ov => ?_
  unfold methodCall calleeOf methodCallPos
  rw [mform h hn, hl]
  rfl
/-- o.m(e, ..), by a promise by position; the arguments' reading by the receiver -/
theorem pe_methA {k : Nat} {Cl fa : Addr} {m : Str} {sp : Sp} {o : Expr} {es : List Expr} {ta : TE} {t : V → TA} {apos pos : Pos} (he : PE X o ta) (c : Cls X.K Cl) (hm : Meth X.K Cl m fa)
    (F : FnR X.prog X.w X.K X.mg X.base CX0 k fa sp) (hr : Room k X.A) (ha : ∀ x, PA X es (t x)) (h0 : es = [] → ∀ x σ H Q, t x σ H Q → Q [] H) (hb : attributeBase o m X.env (eval o X.env) = eval o X.env) (hl : (apos.endLine == pos.line) = true) (hs : noStars es = true) (hn : es.length < 30) :
    PE X (.Call (.Attribute o m apos) es [] pos) (fun σ H Q => ta σ H fun x H1 => ∃ a dx fs, x = .ref a ∧ H1 a = some (.ins Cl dx fs) ∧ fs.lookup m = none ∧ t x σ H1 fun vs H2 => sp (x :: vs) H2 Q E0) := by
  refine ⟨fun pins s σ H Q I h => ?_⟩
  refine PySem.W.methodCall_KW (thn (he.run pins s σ H _ I h) fun u s1 ⟨x, H1, I1, rx, a, dx, fs, ex, ea, l, q⟩ => ?_) (mtree hb hl hs hn)
  subst ex
  obtain rfl : u = Value.ref a := rx
  refine getmeth_ok I1 ea c hm l ?_
  cases es with
  | cons e es =>
    have hs' : (noStar e && noStars es) = true := hs
    rw [Bool.and_eq_true] at hs'
    refine PySem.W.callWith_K (first := [.ref a]) (h₀ := X.base) I.ok.mod.kin hm.kp (thn ((ha _).run pos pins s1 σ H1 _ I1 q) fun us s2 ⟨vs, H2, I2, r, q2⟩ => ⟨I2.kIn, ?_⟩) (star_cons hs'.1) (star_none hs'.2)
    exact wpAny_call (run_fnR (us := .ref a :: us) (vs := .ref a :: vs) F hr pass0 I2 (.cons rfl r) q2)
  | nil => exact PySem.W.callWith_K0 (first := [.ref a]) I1.kIn hm.kp (wpAny_call (run_fnR (us := [.ref a]) (vs := [.ref a]) F hr pass0 I1 (.cons rfl .nil) (h0 rfl _ _ _ _ q)))
theorem repDf_none {c : Nat} {m : Nat} : ∀ {fs : List (Nat × D)} {vs : List (Str × V)}, RepDf L O H c fs vs → fs.lookup m = none → vs.lookup (L.nm m) = none
  | [], [], _, _ => rfl
  | (k, d) :: ds, (j, v) :: vs, ⟨e, _, q⟩, h => by
    rw [List.lookup_cons] at h ⊢
    by_cases hk : m = k
    · subst hk; simp at h
    · have h1 : (m == k) = false := by simpa using hk
      have h2 : (L.nm m == j) = false := by
        rw [e.1]
        simpa using fun z => hk (L.inj _ _ z)
      rw [h1] at h
      rw [h2]
      exact repDf_none q h
theorem repMf_none {c : Nat} {m : Nat} : ∀ {fs : List (Nat × M)} {vs : List (Str × V)} {f : List Addr}, RepMf L O H c fs vs f → fs.lookup m = none → vs.lookup (L.nm m) = none
  | [], [], _, _, _ => rfl
  | (k, d) :: ds, (j, v) :: vs, f, ⟨_, _, _, e, _, q⟩, h => by
    rw [List.lookup_cons] at h ⊢
    by_cases hk : m = k
    · subst hk; simp at h
    · have h1 : (m == k) = false := by simpa using hk
      have h2 : (L.nm m == j) = false := by
        rw [e.1]
        simpa using fun z => hk (L.inj _ _ z)
      rw [h1] at h
      rw [h2]
      exact repMf_none q h
theorem inst_rep {x : M} {c m : Nat} {v : V} (hc : clsOf x = some c) (hl : lacks m x = true) (r : RepM L O H x v f) : ∃ a dx fs, v = .ref a ∧ H a = some (.ins (L.cls c) dx fs) ∧ fs.lookup (L.nm m) = none ∧ Cls L.K (L.cls c) := by
  cases x with
  | pure d =>
    cases d with
    | ins c' fs =>
      cases hc
      obtain ⟨_, a, dx, vs, e, n, h, k, q⟩ := r
      exact ⟨a, dx, vs, e, h, repDf_none q (by simpa [lacks] using hl), k⟩
    | _ => cases hc
  | lst _ => cases hc
  | ins c' fs =>
    cases hc
    obtain ⟨a, dx, vs, g, e, _, h, k, q⟩ := r
    exact ⟨a, dx, vs, e, h, repMf_none q (by simpa [lacks] using hl), k⟩
theorem pst_as {qt : Bool} {m : M} {v : V} {fm : List Addr} (p : Pst L false qt g f H env m env1 σ v H1 f1 fm) : PstA L g f H env [.val m] env1 σ [v] H1 f1 fm :=
  ⟨p.ok, p.st, p.nf, p.nm, fm, [], by simp, p.rep, rfl⟩
theorem snd_meth (mid : Nat) (r args : Ex) (hr : Snd L T R r) (ha : SndL L T R args) : Snd L T R (.meth mid r args) := by
  have hE : ∀ C e, (ck T (.meth mid r args)).e C e = true → ∀ X, Cok L T R C X → PE X e (tE L R (.meth mid r args)) := by
    intro C e h X c
    cases e with
    | Call x es ks pos =>
      cases x with
      | Attribute o a ap =>
        cases ks with
        | cons _ _ => cases h
        | nil =>
          have h : (decide (a = T.nm mid) && noCall0 o && (ap.endLine == pos.line) && decide (es.length < 30) && argB ((ck T r).e C) C r o && (ck T args).l C es) = true := h
          simp only [Bool.and_eq_true, decide_eq_true_eq] at h
          obtain ⟨⟨⟨⟨⟨h1, h2⟩, h3⟩, h4⟩, h5⟩, h6⟩ := h
          obtain ⟨k, gd, hro⟩ := c.gd
          have hro := hro.mono (Nat.le_succ k)
          rw [← c.nm] at h1
          subst h1
          refine ⟨fun pins s σ H Q I hq => ?_⟩
          obtain ⟨g, f, env, m, env', hE, hm, q⟩ := hq
          obtain ⟨a0, env1, ha0, hm⟩ := bind_ok hm
          split at hm
          · rename_i fid hf
            obtain ⟨x0, hx0, hf⟩ := bindO_ok hf
            obtain ⟨ci, hci, hf⟩ := bindO_ok hf
            split at hf
            · rename_i hlk
              obtain ⟨as, env2, has, hm2⟩ := bind_ok hm
              obtain ⟨M1, M2⟩ := gd.meth _ _ _ hf
              have F := gd.run fid
              rw [← c.K] at F M1 M2
              have h0 : es = [] → ∀ x σ H Q, tA2 L R args a0 [x] σ H Q → Q [] H := fun e0 x σ H Q ⟨g, f, H0, env, env1, f1, fm, as, env', p, hl, k⟩ => by
                subst e0
                have e1 := l_nil h6
                subst e1
                cases hl
                exact k [] H f1 fm (by simpa using p)
              by_cases hbor : ∃ i, r = .bor i
              · obtain ⟨i, rfl⟩ := hbor
                cases o with
                | Name n p =>
                  have h5 : nameB C i n = true := h5
                  refine (pe_methA (t := fun x => tA2 L R args a0 [x]) (pe_name c h5) M2 M1 F hro (fun x => ha.l C es h6 X c a0 [x]) h0 (ab_no h2) h3 (ckl_star h6) h4).run pins s σ H Q I ?_
                  have ha0 : (match slot env i with | some _ => (.ok [.bor i] env : Rs (List Ar)) | none => .no) = .ok a0 env1 := ha0
                  split at ha0
                  · rename_i mm hs
                    cases ha0
                    have hx0 : slot env i = some x0 := hx0
                    obtain ⟨v, p0, f1, q0, e1, _, e3, _⟩ := hE.rep.take hx0
                    obtain ⟨ad, dx, fs, ev, eh, en, _⟩ := inst_rep hci hlk e3
                    refine ⟨v, e1, ad, dx, fs, ev, eh, en, g, f, H, env, env, f, [], as, env2, ?_, has, fun vs H' f' fm p => callA_rd p hm2 q⟩
                    exact (pst_nilA hE).snocB e1
                  · cases ha0
                | _ => cases h5
              · have hnb : ∀ i, r ≠ .bor i := fun i z => hbor ⟨i, z⟩
                have h5 : (!isAl r && (ck T r).e C o) = true := by
                  cases r <;> first | exact h5 | exact absurd rfl (hnb _)
                rw [Bool.and_eq_true, Bool.not_eq_true'] at h5
                refine (pe_methA (t := fun x => tA2 L R args a0 [x]) (hr.e C o h5.2 X c) M2 M1 F hro (fun x => ha.l C es h6 X c a0 [x]) h0 (ab_no h2) h3 (ckl_star h6) h4).run pins s σ H Q I ?_
                rw [noBor_argOne hnb] at ha0
                obtain ⟨m1, env1', hm1, ha2⟩ := bind_ok ha0
                cases ha2
                have hx1 : m1 = x0 := Option.some.inj hx0
                subst hx1
                refine ⟨g, f, env, m1, env1, hE, hm1, fun v H1 f1 fa pa => ?_⟩
                rw [h5.1] at pa
                obtain ⟨ad, dx, fs, ev, eh, en, _⟩ := inst_rep hci hlk pa.rep
                exact ⟨ad, dx, fs, ev, eh, en, g, f, H, env, env1, f1, fa, as, env2, pst_as pa, has, fun vs H' f' fm p => callA_rd p hm2 q⟩
            · cases hf
          · cases hm
      | _ => cases h
    | _ => cases h
  refine ⟨hE, fun C e h X c => ?_⟩
  refine pt_plain c (hE C e h X c) rfl ?_
  cases e with
  | Call x es ks pos => exact fun _ => rfl
  | _ => cases h
end
end FB

set_option Elab.async false
set_option linter.all false
set_option maxRecDepth 10000
/-! FbCall4: new instances. -/
namespace FB
open PySem PySem.Spec PyProof.Rows L2 StX
section
variable {L : Lk} {T : Tx} {R : Rt} {C : Sc} {X : Cx}
variable {g f f1 f2 : List Addr} {H H1 H2 H' : Hp} {env env1 env2 : En} {σ : L2.St} {qt : Bool} {O O' : List Addr}
theorem pe_makeA {k : Nat} {Cl fa : Addr} {sp : Sp} {x : Str} {es : List Expr} {t : TA} {p pos : Pos} (M : Mk X.K Cl fa) (F : FnR X.prog X.w X.K X.mg X.base CX0 k fa sp) (hr : Room (k + 1) X.A) (hg : Gl X x) (hm : X.mg x = some (.ref Cl))
    (ha : PA X es t) (h0 : es = [] → ∀ σ H Q, t σ H Q → Q [] H) (hs : noStars es = true) (hdb : (x == ("__debug__" : Str)) = false) : PE X (.Call (.Name x p) es [] pos) (tMakeR Cl sp E0 t) := by
  cases es with
  | cons e es =>
    have hs' : (noStar e && noStars es) = true := hs
    rw [Bool.and_eq_true] at hs'
    exact pe_makeR M F hr hg hm pass0 ha hdb (star_cons hs'.1) (star_none hs'.2)
  | nil =>
    refine ⟨fun pins s σ H Q I h => ?_⟩
    refine wpAny_Call_Name_kw (ld_glob I hg hm ?_ hdb)
    exact PySem.W.callWith_K0 I.kIn M.kp (run_makeR (us := []) M F hr pass0 I .nil (h0 rfl _ _ _ h))
/-- behind the making of an instance -/
theorem new_pst {c : Nat} {as : List Ar} {vs : List V} {fm : List Addr} {ms : List M} {ms' : List (Option M)} {m : M} {v' : V} {f' fm' fa : List Addr} {x dx : Addr} (mu : Bool) (p : PstA L g f H env as env1 σ vs H1 f1 fm)
    (nx : H1 x = none) (nd : H1 dx = none) (ne : dx ≠ x)
    (k1 : EnvOk L (g ++ f2) H1 (ms.map some) (vs.map some) fa) (k2 : EnvOk L (g ++ fa) H1 env2 σ f2) (k3 : ∀ a ∈ fa, a ∈ fm ∨ a ∈ f1) (k4 : ∀ a ∈ f2, a ∈ f1)
    (u : Pst L false false (g ++ f2) (x :: fa) (upd (upd H1 dx (.own x)) x (.ins (L.cls c) dx [])) (some (.ins c []) :: ms.map some) (.pure .non) (some m :: ms') (some (.ref x) :: vs.map some) v' H' f' fm') :
    v' = .non ∧ ∃ f3 fr, Pst L false false g f H env (if mu then m else .pure m.frz) (giveA as ms' env2) σ (.ref x) H' f3 fr := by
  obtain ⟨e0, e1⟩ := u.rep
  subst e0
  refine ⟨e1, ?_⟩
  have ok : EnvOk L (g ++ f2) H' (some m :: ms') (some (.ref x) :: vs.map some) f' := by
    have := u.ok
    simpa using this
  obtain ⟨v, fx, fr, ev, ef, rm, ro⟩ := ok.rep
  cases ev
  subst ef
  have up : ∀ a o, H1 a = some o → a ≠ x ∧ (upd (upd H1 dx (.own x)) x (.ins (L.cls c) dx [])) a = some o := fun a o e => by
    have n1 : a ≠ x := fun z => by rw [z, nx] at e; cases e
    have n2 : a ≠ dx := fun z => by rw [z, nd] at e; cases e
    exact ⟨n1, by rw [upd_ne n1, upd_ne n2]; exact e⟩
  have nw : ∀ a, a ∈ x :: fa ∨ (upd (upd H1 dx (.own x)) x (.ins (L.cls c) dx [])) a = none → a ∈ fa ∨ H1 a = none := fun a h => by
    cases q : H1 a with
    | none => exact .inr rfl
    | some o =>
      obtain ⟨n, e⟩ := up a o q
      rcases h with z | z
      · rcases List.mem_cons.mp z with w | w
        · exact absurd w n
        · exact .inl w
      · rw [e] at z; cases z
  have pm : (g ++ f2 ++ fx ++ fr).Perm (g ++ f2 ++ (fx ++ fr)) := by rw [List.append_assoc (g ++ f2)]
  have u2 : Pst L false false (g ++ f2) fa H1 (ms.map some) m ms' (vs.map some) (.ref x) H' fr fx := by
    refine ⟨ok.congr pm (fun a ha => pm.mem_iff.mp (List.mem_append_left _ ha)) ro, fun a o e n => ?_, fun a ha => nw a (u.nf a (List.mem_append_right _ ha)), fun a ha => nw a (u.nf a (List.mem_append_left _ ha)), rm.mv (Mv.less fun a ha => pm.mem_iff.mp ha) fun _ _ _ e => e, fun z => (nomatch z), fun z => (nomatch z)⟩
    obtain ⟨n1, e2⟩ := up a o e
    exact u.st a o e2 fun z => (List.mem_cons.mp z).elim n1 n
  obtain ⟨f3, z⟩ := call_pst (env2 := env2) p k1 k2 k3 k4 u2
  cases mu with
  | true => exact ⟨f3, fx, z⟩
  | false => exact ⟨f3, [], z.frz⟩
theorem h0_nil {args : Ex} {es : List Expr} (h : (ck T args).l C es = true) : es = [] → ∀ σ H Q, tA L R args σ H Q → Q [] H := fun e0 σ H Q ⟨g, f, env, as, env', p, hl, k⟩ => by
  subst e0
  have e1 := l_nil h
  subst e1
  cases hl
  exact k [] H f [] (pst_nilA p)
theorem snd_new (mu : Bool) (ci : Nat) (args : Ex) (ha : SndL L T R args) : Snd L T R (.new mu ci args) := by
  have hE : ∀ C e, (ck T (.new mu ci args)).e C e = true → ∀ X, Cok L T R C X → PE X e (tE L R (.new mu ci args)) := by
    intro C e h X c
    cases e with
    | Call x es ks pos =>
      cases x with
      | Name n p =>
        cases ks with
        | cons _ _ => cases h
        | nil =>
          have h : (decide (n = T.cn ci) && glB C n && (ck T args).l C es) = true := h
          simp only [Bool.and_eq_true, decide_eq_true_eq] at h
          obtain ⟨⟨h1, h3⟩, h4⟩ := h
          obtain ⟨h3, h3'⟩ := gl_of c h3
          obtain ⟨k, gd, hro⟩ := c.gd
          have g1 := gd.cls ci
          rw [← h1] at g1
          refine ⟨fun pins s σ H Q I hq => ?_⟩
          obtain ⟨g, f, env, m, env', hE, hm, q⟩ := hq
          obtain ⟨as, env1, has, hm⟩ := bind_ok hm
          split at hm
          · rename_i fid hf
            obtain ⟨M1, M2⟩ := gd.init _ _ hf
            have F := gd.run fid
            rw [← c.K] at F M1
            split at hm
            · rename_i ms env2 ht
              split at hm
              · rename_i m' ms' hc
                cases hm
                refine (pe_makeA M1 F hro h3 g1 (ha.a h4 c) (h0_nil h4) (ckl_star h4) h3').run pins s σ H Q I ⟨g, f, env, as, env1, hE, has, fun vs H1 f1 fm p => ?_⟩
                intro x dx nx nd ne
                obtain ⟨fa, f2, k1, k2, k3, k4⟩ := take_ok ht p.ok p.rep
                refine ⟨g ++ f2, x :: fa, .ins ci [] :: ms, _, _, ?_, hc, fun v H' f' fm' u => ?_⟩
                · have npO : x ∉ g ++ f2 ++ fa := fun m => by
                    obtain ⟨o, e⟩ := k1.trf x m
                    rw [nx] at e; cases e
                  have up : ∀ a o, H1 a = some o → (upd (upd H1 dx (.own x)) x (.ins (L.cls ci) dx [])) a = some o := fun a o e => by
                    have n1 : a ≠ x := fun z => by rw [z, nx] at e; cases e
                    have n2 : a ≠ dx := fun z => by rw [z, nd] at e; cases e
                    rw [upd_ne n1, upd_ne n2]; exact e
                  have pm : (g ++ f2 ++ x :: fa).Perm (x :: (g ++ f2 ++ fa)) := List.perm_middle
                  refine ⟨pm.nodup_iff.mpr (List.nodup_cons.mpr ⟨npO, k1.nd⟩), fun a ha => ?_, .ref x, [x], fa, rfl, rfl, ?_, ?_⟩
                  · obtain ⟨o, e⟩ := k1.tr a ha
                    exact ⟨o, up a o e⟩
                  · exact ⟨x, dx, [], [], rfl, rfl, upd_same, M2, rfl⟩
                  · refine k1.rep.mv ⟨fun a o _ e => up a o e, fun a ha n => ?_⟩ fun a o _ e => up a o e
                    rcases List.mem_cons.mp (pm.mem_iff.mp ha) with rfl | z
                    · exact nx
                    · exact absurd z n
                · obtain ⟨z1, f3, fr, z2⟩ := new_pst mu p nx nd ne k1 k2 k3 k4 u
                  exact ⟨z1, q _ _ _ _ z2⟩
              · cases hm
              · cases hm
              · cases hm
            · cases hm
          · cases hm
      | _ => cases h
    | _ => cases h
  refine ⟨hE, fun C e h X c => ?_⟩
  refine pt_plain c (hE C e h X c) rfl ?_
  cases e with
  | Call x es ks pos => exact fun _ => rfl
  | _ => cases h
end
end FB

set_option Elab.async false
set_option linter.all false
set_option maxRecDepth 10000
/-! FbFld: fields, properties, constants of classes. -/
namespace FB
open PySem PySem.Spec PyProof.Rows L2 StX
section
variable {L : Lk} {T : Tx} {R : Rt} {C : Sc} {X : Cx}
variable {g f f1 f2 : List Addr} {H H1 H2 H' : Hp} {env env1 env2 : En} {σ : L2.St} {qt : Bool} {O O' : List Addr}
theorem getpropR {k : Nat} {Cl p ga a dx : Addr} {fs : List (Str × V)} {fn : Str} {sp : Sp} {pins : List (Addr × Obj)} {s : Shared} {Q : VK} {b : Bool} {E' : Value → Shared → Prop} (I : Inv X pins σ H s) (ea : H a = some (.ins Cl dx fs)) (c : Cls X.K Cl) (hp : PropOf X.K Cl fn p ga)
    (F : FnR X.prog X.w X.K X.mg X.base CX0 k ga sp) (hr : Room (k + 1) X.A) (h : sp [.ref a] H Q E0) :
    wpAny (model X.prog X.w) X.A (getAttr (.ref a) fn b) (EP X pins σ Q) E' s := by
  obtain ⟨mA, OO, _, _, _, _⟩ := ins_get I.hok ea
  obtain ⟨od, J, _⟩ := OO.look
  obtain ⟨rest, hrec⟩ := hp.rec_
  have I1 := I.tok (s.toks + 1)
  have hc : (PySem.W.clsIn X.K Cl).isSome = true := by
    obtain ⟨cd, hc, _⟩ := PySem.W.any_some c.hd
    rw [hc]
    rfl
  refine PySem.W.get_bind I.kIn J (PySem.W.plainGet_of (c.get fn)).1 (PySem.W.findObj_data hc hp.at_ hp.get hp.tak) (PySem.W.plainGet_of (c.get fn)).2 (wpAny_call (PySem.W.prop_get (s := { s with toks := s.toks + 1 }) I.kIn hrec ?_))
  refine codeAny_mono (F X.A.in1 X.stack { s with toks := s.toks + 1 } H [.ref a] [.ref a] Q E0 hr.in1 I1.env0.in1 (.cons rfl .nil) h) fun r s' hq => ?_
  cases r with
  | error er => exact False.elim ((pass0 (X := X.nox)) pins σ H { s with toks := s.toks + 1 } er s' (I1.wish _) hq)
  | ok fl =>
    cases fl with
    | ret u =>
      obtain ⟨v, H', I3, rv, q3⟩ := I1.after hq
      show wpAny _ _ (handedOut u) _ _ _
      rw [PySem.W.handedOut_of (handed_of rv)]
      exact wpAny_pure ⟨v, H', I3, rv, q3⟩
    | next => exact False.elim hq
    | brk => exact False.elim hq
    | cont => exact False.elim hq
def tPropR (Cl : Addr) (sp : Sp) (ta : TE) : TE := fun σ H Q => ta σ H fun x H1 => ∃ a dx fs, x = .ref a ∧ H1 a = some (.ins Cl dx fs) ∧ sp [.ref a] H1 Q E0
theorem pe_propR {k : Nat} {Cl p ga : Addr} {fn : Str} {sp : Sp} {e : Expr} {pos : Pos} {ta : TE} (he : PE X e ta) (c : Cls X.K Cl) (hp : PropOf X.K Cl fn p ga) (F : FnR X.prog X.w X.K X.mg X.base CX0 k ga sp) (hr : Room (k + 1) X.A)
    (hab : attributeBase e fn X.env (eval e X.env) = eval e X.env) : PE X (.Attribute e fn pos) (tPropR Cl sp ta) := by
  refine ⟨fun pins s σ H Q I h => ?_⟩
  refine attr_of hab (thn (he.run pins s σ H _ I h) fun u s1 ⟨x, H1, I1, rx, a, dx, fs, ex, ea, q⟩ => ?_)
  subst ex
  obtain rfl : u = Value.ref a := rx
  exact getpropR I1 ea c hp F hr q
theorem callV_eq (call : List M → Cr) (d : D) (env : En) : callV call [d] env = callA call [.val (.pure d)] env := by
  unfold callV callA
  show (match call [.pure d] with | .ok m _ => (.ok m env : Rs M) | .ex x => .ex x env | .no => .no) = match call [.pure d] with | .ok m ms' => .ok m (giveA [.val (.pure d)] ms' env) | .ex x => .ex x env | .no => .no
  cases call [.pure d] with
  | ok m ms' =>
    have : giveA [.val (.pure d)] ms' env = env := by
      cases ms' with
      | nil => rfl
      | cons a b => cases b <;> rfl
    simp only [this]
  | ex x => rfl
  | no => rfl
theorem callV2_eq (call : List M → Cr) (d d2 : D) (env : En) : callV call [d, d2] env = callA call [.val (.pure d), .val (.pure d2)] env := by
  unfold callV callA
  show (match call [.pure d, .pure d2] with | .ok m _ => (.ok m env : Rs M) | .ex x => .ex x env | .no => .no) = match call [.pure d, .pure d2] with | .ok m ms' => .ok m (giveA [.val (.pure d), .val (.pure d2)] ms' env) | .ex x => .ex x env | .no => .no
  cases call [.pure d, .pure d2] with
  | ok m ms' =>
    have : giveA [.val (.pure d), .val (.pure d2)] ms' env = env := by
      cases ms' with
      | nil => rfl
      | cons a b => cases b with
        | nil => rfl
        | cons _ b => cases b <;> rfl
    simp only [this]
  | ex x => rfl
  | no => rfl
theorem repDf_get {c : Nat} {m : Nat} {d : D} : ∀ {fs : List (Nat × D)} {vs : List (Str × V)}, RepDf L O H c fs vs → fs.lookup m = some d → ∃ v, vs.lookup (L.nm m) = some v ∧ RepD L O H d v ∧ NoAttr L.K (L.cls c) (L.nm m)
  | [], [], _, h => by simp at h
  | (k, d) :: ds, (j, v) :: vs, ⟨e, r, q⟩, h => by
    rw [List.lookup_cons] at h
    by_cases hk : m = k
    · subst hk
      simp at h
      subst h
      refine ⟨v, ?_, r, e.2⟩
      rw [List.lookup_cons, e.1]; simp
    · have h1 : (m == k) = false := by simpa using hk
      have h2 : (L.nm m == j) = false := by
        rw [e.1]
        simpa using fun z => hk (L.inj _ _ z)
      rw [h1] at h
      obtain ⟨v', e1, e2⟩ := repDf_get q h
      exact ⟨v', by rw [List.lookup_cons, h2]; exact e1, e2⟩
theorem inst_cls {x : M} {c : Nat} {v : V} (hc : clsOf x = some c) (r : RepM L O H x v f) : ∃ a dx fs, v = .ref a ∧ H a = some (.ins (L.cls c) dx fs) ∧ Cls L.K (L.cls c) := by
  cases x with
  | pure d =>
    cases d with
    | ins c' fs =>
      cases hc
      obtain ⟨_, a, dx, vs, e, n, h, k, q⟩ := r
      exact ⟨a, dx, vs, e, h, k⟩
    | _ => cases hc
  | lst _ => cases hc
  | ins c' fs =>
    cases hc
    obtain ⟨a, dx, vs, g, e, _, h, k, q⟩ := r
    exact ⟨a, dx, vs, e, h, k⟩
/-- an operand's value as pure data, whatever it was reached by -/
theorem tE_pure {a : Ex} {σ : L2.St} {H : Hp} {g f : List Addr} {env env1 : En} {d : D} (hE : EnvOk L g H env σ f) (ha : (ev R a).e env = .ok (.pure d) env1) {K : V → Hp → Prop}
    (fin : ∀ va H1 f1, Tst L (quiet a) g f H env env1 σ H1 f1 → RepD L (g ++ f1) H1 d va → K va H1) : tE L R a σ H K :=
  ⟨g, f, env, _, env1, hE, ha, fun va H1 f1 fa pa => fin va H1 f1 pa.tst (by
    obtain ⟨e, r⟩ := pa.rep
    subst e
    simpa using r)⟩
theorem Tst.as1 (t : Tst L qt g f H env env1 σ H1 f1) {d : D} {v : V} (r : RepD L (g ++ f1) H1 d v) : PstA L g f H env [.val (.pure d)] env1 σ [v] H1 f1 [] :=
  ⟨by simpa using t.ok, t.st, t.nf, fun _ z => (nomatch z), [], [], rfl, ⟨rfl, by simpa using r⟩, rfl⟩
theorem Tst.off (t : Tst L qt g f H env env1 σ H1 f1) : Tst L false g f H env env1 σ H1 f1 := ⟨t.ok, t.st, t.nf, fun z => (nomatch z)⟩
theorem snd_fld (fid : Nat) (x : Ex) (hx : Snd L T R x) : Snd L T R (.fld fid x) := by
  have hE : ∀ C e, (ck T (.fld fid x)).e C e = true → ∀ X, Cok L T R C X → PE X e (tE L R (.fld fid x)) := by
    intro C e h X c
    cases e with
    | Attribute o b pos =>
      have h : (decide (b = T.nm fid) && noCall0 o && recB ((ck T x).e C) C x o) = true := h
      simp only [Bool.and_eq_true, decide_eq_true_eq] at h
      obtain ⟨⟨h1, h2⟩, h3⟩ := h
      rw [← c.nm] at h1
      subst h1
      obtain ⟨k, gd, hro⟩ := c.gd
      by_cases hbor : ∃ i, x = .bor i
      · obtain ⟨i, rfl⟩ := hbor
        cases o with
        | Name n p =>
          have h3 : nameB C i n = true := h3
          refine ⟨fun pins s σ H Q I hq => ?_⟩
          obtain ⟨g, f, env, m, env', hE, hm, q⟩ := hq
          replace hm : (match slot env i with
            | some m => match clsOf m with
              | some c => match R.prop c fid with
                | some g => callA (R.call g) [.bor i] env
                | none => if lacks fid m then Rs.lift ((R.con c fid).map .pure) env else .no
              | none => .no
            | none => .no) = .ok m env' := hm
          split at hm
          · rename_i m0 hs
            obtain ⟨v, p0, f1, q0, e1, _, e3, _⟩ := hE.rep.take hs
            split at hm
            · rename_i ci hci
              obtain ⟨ad, dx, fs, ev, eh, ec⟩ := inst_cls hci e3
              split at hm
              · rename_i ga hga
                obtain ⟨M2, pp, M1⟩ := gd.prop _ _ _ hga
                have F := gd.run ga
                rw [← c.K] at F M1 M2
                subst ev
                refine (pe_propR (pe_name c h3) M2 M1 F hro (ab_no h2)).run pins s σ H Q I ⟨_, e1, ad, dx, fs, rfl, eh, ?_⟩
                exact callA_rd (by simpa using (pst_nilA hE).snocB e1) hm q
              · split at hm
                · rename_i hlk
                  obtain ⟨d, hd⟩ := lift_ok hm
                  obtain ⟨d', hd1, hd2⟩ := mapO_ok d
                  subst hd2 hd
                  have K1 := gd.con _ _ _ hd1
                  obtain ⟨v', u', K2, K3⟩ := K1.ins
                  obtain ⟨ad', dx', fs', ev', eh', en', _⟩ := inst_rep hci hlk e3
                  have K4 := K1.cls
                  rw [← c.K] at K2 K4
                  refine (pe_con (pe_name c h3) (ab_no h2)).run pins s σ H Q I ⟨_, e1, ad', _, dx', fs', v', u', ev', eh', K4, K2, en', ?_⟩
                  exact q v' H f [] (pst_refl hE (K3 _ _))
                · cases hm
            · cases hm
          · cases hm
        | _ => cases h3
      · have hnb : ∀ i, x ≠ .bor i := fun i z => hbor ⟨i, z⟩
        have h3 : (ck T x).e C o = true := by
          cases x <;> first | exact h3 | exact absurd rfl (hnb _)
        have PX := hx.e C o h3 X c
        refine ⟨fun pins s σ H Q I hq => ?_⟩
        obtain ⟨g, f, env, m, env', hE, hm, q⟩ := hq
        have hm : ((ev R x).e env).bind (fun x env => match x with
          | .pure d => fldR R fid d env
          | _ => .no) = .ok m env' := by
          cases x <;> first | exact hm | exact absurd rfl (hnb _)
        obtain ⟨m0, env1, hm0, hm⟩ := bind_ok hm
        split at hm
        · rename_i d0
          unfold fldR at hm
          split at hm
          · rename_i ci fs0
            split at hm
            · rename_i d hd
              cases hm
              refine (pe_fld PX (ab_no h2)).run pins s σ H Q I (tE_pure hE hm0 fun va H1 f1 t r => ?_)
              obtain ⟨a, dx, vs, e, n, hh, hc, rf⟩ := r
              obtain ⟨v, l1, l2, l3⟩ := repDf_get rf hd
              rw [← c.K] at hc l3
              exact ⟨a, _, dx, vs, v, e, hh, hc, l3, l1, q v H1 f1 [] (t.off.pure l2)⟩
            · rename_i hnone
              split at hm
              · rename_i ga hga
                obtain ⟨M2, pp, M1⟩ := gd.prop _ _ _ hga
                have F := gd.run ga
                rw [← c.K] at F M1 M2
                rw [callV_eq] at hm
                refine (pe_propR PX M2 M1 F hro (ab_no h2)).run pins s σ H Q I (tE_pure hE hm0 fun va H1 f1 t r => ?_)
                have r' := r
                obtain ⟨a, dx, vs, e, n, hh, hc, rf⟩ := r
                subst e
                exact ⟨a, dx, vs, rfl, hh, callA_rd (t.as1 r') hm q⟩
              · split at hm
                · rename_i d hd
                  cases hm
                  have K1 := gd.con _ _ _ hd
                  obtain ⟨v', u', K2, K3⟩ := K1.ins
                  have K4 := K1.cls
                  rw [← c.K] at K2 K4
                  refine (pe_con PX (ab_no h2)).run pins s σ H Q I (tE_pure hE hm0 fun va H1 f1 t r => ?_)
                  obtain ⟨a, dx, vs, e, n, hh, hc, rf⟩ := r
                  exact ⟨a, _, dx, vs, v', u', e, hh, K4, K2, repDf_none rf hnone, q v' H1 f1 [] (t.off.pure (K3 _ _))⟩
                · cases hm
          · rename_i ci
            split at hm
            · rename_i d hd
              cases hm
              have K1 := gd.con _ _ _ hd
              obtain ⟨mc, v', u', K2, K3, K4⟩ := K1.own
              rw [← c.K] at K2 K3
              refine (ClX.pe_cval PX (ab_no h2)).run pins s σ H Q I (tE_pure hE hm0 fun va H1 f1 t r => ?_)
              exact ⟨_, mc, v', u', r, K2, K3, q v' H1 f1 [] (t.off.pure (K4 _ _))⟩
            · cases hm
          · cases hm
        · cases hm
    | _ => cases h
  refine ⟨hE, fun C e h X c => ?_⟩
  refine pt_plain c (hE C e h X c) rfl ?_
  cases e with
  | Attribute _ _ _ => exact fun _ => rfl
  | _ => cases h
end
end FB

set_option Elab.async false
set_option linter.all false
set_option maxRecDepth 10000
/-! FbKw: calls with keywords and defaults. -/
namespace FB
open PySem PySem.Spec PyProof.Rows L2 StX
section
variable {L : Lk} {T : Tx} {R : Rt} {C : Sc} {X : Cx}
variable {g f f1 f2 : List Addr} {H H1 H2 H' : Hp} {env env1 env2 : En} {σ : L2.St} {qt : Bool} {O O' : List Addr}
/-! ### filling -/
theorem defV_rep {d : D} (h : defOk d = true) : RepD L O H d (defV d) := by
  cases d <;> first | rfl | cases h
theorem fill_rep {ds : List D} {vs : List V} (r : RepDs L O H ds vs) : ∀ {bs : List (Sum Nat D)} {xs : List D}, fillK ds bs = some xs → ∃ us, fillV vs bs = some us ∧ RepDs L O H xs us
  | [], xs, h => by cases h; exact ⟨[], rfl, trivial⟩
  | .inl i :: bs, xs, h => by
    obtain ⟨d, h1, h2⟩ := bindO_ok h
    obtain ⟨xs', h3, rfl⟩ := mapO_ok h2
    obtain ⟨v, h4, h5⟩ := r.get h1
    obtain ⟨us, h6, h7⟩ := fill_rep r h3
    exact ⟨v :: us, by show (vs[i]?.bind fun d => (fillV vs bs).map (d :: ·)) = _; rw [h4, h6]; rfl, h5, h7⟩
  | .inr d :: bs, xs, h => by
    have h : (if defOk d then (fillK ds bs).map (d :: ·) else none) = some xs := h
    split at h
    · rename_i hd
      obtain ⟨xs', h3, rfl⟩ := mapO_ok h
      obtain ⟨us, h6, h7⟩ := fill_rep r h3
      exact ⟨defV d :: us, by show (fillV vs bs).map (defV d :: ·) = _; rw [h6]; rfl, defV_rep hd, h7⟩
    · cases h
/-! ### pure arguments -/
theorem takeA_vals : ∀ (xs : List D) (env : En), takeA (xs.map fun d => Ar.val (.pure d)) env = some (xs.map .pure, env)
  | [], _ => rfl
  | d :: xs, env => by
    show (takeA (xs.map fun d => Ar.val (.pure d)) env).map (fun p => (M.pure d :: p.1, p.2)) = _
    rw [takeA_vals xs env]; rfl
theorem giveA_vals : ∀ (xs : List D) (ms : List (Option M)) (env : En), giveA (xs.map fun d => Ar.val (.pure d)) ms env = env
  | [], _, _ => rfl
  | _ :: _, [], _ => rfl
  | d :: xs, m :: ms, env => by
    cases m <;> exact giveA_vals xs ms env
theorem callV_any (call : List M → Cr) (xs : List D) (env : En) : callV call xs env = callA call (xs.map fun d => .val (.pure d)) env := by
  unfold callV callA
  rw [takeA_vals]
  show (match call (xs.map .pure) with | .ok m _ => (.ok m env : Rs M) | .ex x => .ex x env | .no => .no) = match call (xs.map .pure) with | .ok m ms' => .ok m (giveA (xs.map fun d => Ar.val (.pure d)) ms' env) | .ex x => .ex x env | .no => .no
  cases call (xs.map .pure) with
  | ok m ms' => simp only [giveA_vals]
  | ex x => rfl
  | no => rfl
theorem repAs_vals : ∀ {xs : List D} {us : List V}, RepDs L O H xs us → RepAs L O H σ (xs.map fun d => .val (.pure d)) us []
  | [], [], _ => rfl
  | _ :: _, _ :: _, ⟨a, b⟩ => ⟨[], [], rfl, ⟨rfl, a⟩, repAs_vals b⟩
theorem Tst.asA (t : Tst L qt g f H env env1 σ H1 f1) {xs : List D} {us : List V} (r : RepDs L (g ++ f1) H1 xs us) : PstA L g f H env (xs.map fun d => .val (.pure d)) env1 σ us H1 f1 [] :=
  ⟨by simpa using t.ok, t.st, t.nf, fun _ z => (nomatch z), repAs_vals (by simpa using r)⟩
theorem callV_rd {call : List M → Cr} {xs : List D} {us : List V} {m : M} {env' : En} {Q : VK} {E : XK} (t : Tst L qt g f H env env1 σ H1 f1) (r : RepDs L (g ++ f1) H1 xs us) (h : callV call xs env1 = .ok m env')
    (q : ∀ v H' f' fm, Pst L false false g f H env m env' σ v H' f' fm → Q v H') : spOf L call us H1 Q E := by
  rw [callV_any] at h
  exact callA_rd (t.asA r) h q
/-! ### the rules -/
theorem kw_names {ks : List Keyword} {env : Env} {pos : Pos} : (backToKw pos (keywordEach ks env)).map (·.1) = ks.map (·.arg) := by
  induction ks with
  | nil => rfl
  | cons k ks ih =>
    obtain ⟨nm, e, kpos⟩ := k
    show nm :: (backToKw pos (keywordEach ks env)).map (·.1) = nm :: ks.map (·.arg)
    rw [ih]
theorem kw_all {ks : List Keyword} {env : Env} {pos : Pos} {ns : List Str} (h : ks.map (·.arg) = ns.map some) : (backToKw pos (keywordEach ks env)).all (·.1.isSome) = true := by
  have e := kw_names (ks := ks) (env := env) (pos := pos)
  rw [h] at e
  generalize backToKw pos (keywordEach ks env) = l at e
  rw [List.all_eq_true]
  intro x hx
  have : x.1 ∈ l.map (·.1) := List.mem_map_of_mem hx
  rw [e] at this
  obtain ⟨n, _, hn⟩ := List.mem_map.mp this
  rw [← hn]; rfl
theorem kw_fm {ks : List Keyword} {env : Env} {pos : Pos} {ns : List Str} (h : ks.map (·.arg) = ns.map some) : (backToKw pos (keywordEach ks env)).filterMap (·.1) = ns := by
  have e := kw_names (ks := ks) (env := env) (pos := pos)
  rw [h] at e
  have : ∀ (l : List (Option Str × Sem Value)) (ns : List Str), l.map (·.1) = ns.map some → l.filterMap (·.1) = ns := by
    intro l
    induction l with
    | nil => intro ns h; cases ns with
      | nil => rfl
      | cons _ _ => cases h
    | cons x l ih => intro ns h; cases ns with
      | nil => cases h
      | cons n ns =>
        simp only [List.map_cons, List.cons.injEq] at h
        rw [List.filterMap_cons, h.1, ih ns h.2]
  exact this _ _ e
theorem kw_none {ks : List Keyword} {env : Env} {pos : Pos} {ns : List Str} (h : ks.map (·.arg) = ns.map some) : (backToKw pos (keywordEach ks env)).any (·.1.isNone) = false := by
  have := kw_all (env := env) (pos := pos) h
  rw [List.all_eq_true] at this
  rw [List.any_eq_false]
  intro x hx
  have := this x hx
  cases hx1 : x.1 with
  | none => rw [hx1] at this; cases this
  | some _ => simp
theorem run_fnK {k n : Nat} {fa : Addr} {ks : List Str} {sp : Sp} {pins : List (Addr × Obj)} {s : Shared} {Q : VK} {us ws : List Value} {vs zs : List V} (F : FnK X.prog X.w X.K X.mg X.base k fa n ks sp) (hr : Room k X.A) (I : Inv X pins σ H s) (r : Vals vs us) (rz : Vals zs ws)
    (l1 : vs.length = n) (l2 : zs.length = ks.length) (h : sp (vs ++ zs) H Q E0) : wpAny (model X.prog X.w) X.A (call (.ref fa) us (ks.zip ws)) (EP X pins σ Q) X.xe s := by
  refine wpAny_call (codeAny_mono (F X.A X.stack s H us ws vs zs Q E0 hr I.env0 r rz (r.length.symm.trans l1) (rz.length.symm.trans l2) h) fun r s' hq => ?_)
  cases r with
  | error e => exact pass0 (X := X) pins σ H s e s' I hq
  | ok fl =>
    cases fl with
    | ret u => exact I.after hq
    | next => exact False.elim hq
    | brk => exact False.elim hq
    | cont => exact False.elim hq
/-- f(e, .., k = v, ..) -/
theorem pe_callKw {k n : Nat} {fa : Addr} {ns : List Str} {sp : Sp} {x : Str} {es : List Expr} {ks : List Keyword} {t : TA} {tk : List V → TA} {p pos : Pos} (F : FnK X.prog X.w X.K X.mg X.base k fa n ns sp) (hr : Room k X.A) (hg : Gl X x) (hm : X.mg x = some (.ref fa)) (hk : PySem.W.keepIn X.K (.ref fa) = true)
    (ha : PA X es t) (h0 : es = [] → ∀ σ H Q, t σ H Q → Q [] H) (hkw : ∀ vs, PK X ks (tk vs)) (hn : ks.map (·.arg) = ns.map some) (hs : noStars es = true) (hdb : (x == ("__debug__" : Str)) = false) :
    PE X (.Call (.Name x p) es ks pos) (fun σ H Q => t σ H fun vs H1 => tk vs σ H1 fun zs H2 => vs.length = n ∧ zs.length = ns.length ∧ sp (vs ++ zs) H2 Q E0) := by
  refine ⟨fun pins s σ H Q I h => ?_⟩
  refine wpAny_Call_Name_kw (ld_glob I hg hm ?_ hdb)
  cases es with
  | nil =>
    refine PySem.W.callWith_KW0 (h₀ := X.base) I.ok.mod.kin hk (kw_all hn) ?_ (by rw [kw_none hn]; rfl)
    refine thn ((hkw []).run pos pins s σ H _ I (h0 rfl _ _ _ h)) fun ws s2 ⟨zs, H2, I2, rz, l1, l2, q2⟩ => ⟨I2.kIn, ?_⟩
    rw [kw_fm hn]
    exact run_fnK (us := []) (vs := []) F hr I2 .nil rz l1 l2 q2
  | cons e es =>
    have hs' : (noStar e && noStars es) = true := hs
    rw [Bool.and_eq_true] at hs'
    refine PySem.W.callWith_KW (h₀ := X.base) I.ok.mod.kin hk (kw_all hn) (thn (ha.run pos pins s σ H _ I h) fun us s1 ⟨vs, H1, I1, r, q⟩ => ?_) (by rw [star_none hs, kw_none hn]; rfl) (star_cons hs'.1)
    refine thn ((hkw vs).run pos pins s1 σ H1 _ I1 q) fun ws s2 ⟨zs, H2, I2, rz, l1, l2, q2⟩ => ⟨I2.kIn, ?_⟩
    rw [kw_fm hn]
    exact run_fnK (us := us) (vs := vs) F hr I2 r rz l1 l2 q2
theorem kwB_of {p : Nat} {args kws : Ex} {n : Nat} {ks : List Keyword} (h : kwB T p args kws n ks = true) : ks.map (·.arg) = (T.kk p).map some ∧ argN args + n = T.kn p ∧ argN kws = (T.kk p).length := by
  unfold kwB at h
  simp only [Bool.and_eq_true, decide_eq_true_eq] at h
  exact ⟨h.1.1, h.1.2, h.2⟩
theorem snd_callk (pid : Nat) (args kws : Ex) (ha : SndL L T R args) (hb : SndK L T R kws) : Snd L T R (.callk pid args kws) := by
  have hE : ∀ C e, (ck T (.callk pid args kws)).e C e = true → ∀ X, Cok L T R C X → PE X e (tE L R (.callk pid args kws)) := by
    intro C e h X c
    cases e with
    | Call x es ks pos =>
      cases x with
      | Name n p =>
        have h : (decide (n = T.fn (T.kf pid)) && T.isg (T.kf pid) && glB C n && kwB T pid args kws 0 ks && (ck T args).l C es && (ck T kws).k C ks) = true := h
        simp only [Bool.and_eq_true, decide_eq_true_eq] at h
        obtain ⟨⟨⟨⟨⟨h1, h2⟩, h3⟩, h4⟩, h5⟩, h6⟩ := h
        obtain ⟨h3, h3'⟩ := gl_of c h3
        obtain ⟨k1, k2, k3⟩ := kwB_of h4
        obtain ⟨k, gd, hr⟩ := c.gd
        refine ⟨fun pins s σ H Q I hq => ?_⟩
        obtain ⟨g, f, env, m, env', hE, hm, q⟩ := hq
        obtain ⟨as, env1, has, hm⟩ := bind_ok hm
        obtain ⟨as2, env2, has2, hm⟩ := bind_ok hm
        split at hm
        · rename_i kp hkp
          split at hm
          · rename_i xs hxs
            obtain ⟨ds, hds, hfl⟩ := bindO_ok hxs
            obtain ⟨q1, q2⟩ := gd.kw _ _ hkp
            obtain ⟨g1, g2⟩ := gd.gfn _ h2
            rw [← h1] at g1
            rw [← c.K, q1] at q2
            rw [← c.K] at g2
            rw [q1] at hm
            have h0 : es = [] → ∀ σ H Q, tA2 L R args [] [] σ H Q → Q [] H := fun e0 σ H Q ⟨g, f, H0, env, env1, f1, fm, as, env', p, hl, k⟩ => by
              subst e0
              have e1 := l_nil h5
              subst e1
              cases hl
              exact k [] H f1 fm (by simpa using p)
            refine (pe_callKw q2 (hr.mono (Nat.le_succ k)) h3 g1 g2 (ha.l C es h5 X c [] []) h0 (fun vs => hb.k C ks h6 X c as vs) k1 (ckl_star h5) h3').run pins s σ H Q I ?_
            refine ⟨g, f, H, env, env, f, [], as, env1, pst_nilA hE, has, fun vs H1 f1 fm p => ?_⟩
            refine ⟨g, f, H, env, env1, f1, fm, as2, env2, by simpa using p, has2, fun zs H2 f2 fm' p' => ?_⟩
            have ln1 : vs.length = T.kn pid := by
              rw [← k2, evl_len has]
              have := p.rep.len
              simpa using this.symm
            have ln2 : zs.length = (T.kk pid).length := by
              have e1 := p.rep.len
              have e2 := p'.rep.len
              rw [← k3, evl_len has2]
              simp only [List.length_append, List.length_nil] at e1 e2
              omega
            refine ⟨ln1, ln2, ?_⟩
            obtain ⟨us, e1, e2⟩ := fill_rep (p'.ds (by simpa using hds)) hfl
            exact ⟨us, by simpa using e1, callV_rd p'.tst e2 hm q⟩
          · cases hm
        · cases hm
      | _ => cases h
    | _ => cases h
  refine ⟨hE, fun C e h X c => ?_⟩
  refine pt_plain c (hE C e h X c) rfl ?_
  cases e with
  | Call x es ks pos => exact fun _ => rfl
  | _ => cases h
/-! ### methods -/
theorem mformK {es : List Expr} {ks : List Keyword} {env : Env} {pos : Pos} {ns : List Str} (h : noStars es = true) (hn : es.length + ks.length < 20) (hk : ks.map (·.arg) = ns.map some) : methodCallForm (es.length + ks.length) (backTo pos (starEach es env)) (backToKw pos (keywordEach ks env)) = true := by
  unfold methodCallForm
  have h1 : (backTo pos (starEach es env)).all (!·.1) = true := by
    clear hn
    induction es with
    | nil => rfl
    | cons e es ih =>
      have h : (noStar e && noStars es) = true := h
      rw [Bool.and_eq_true] at h
      rw [star_cons h.1]
      show (!false && (backTo pos (starEach es env)).all (!·.1)) = true
      rw [ih h.2]; rfl
  rw [h1, kw_all hk]
  have : es.length + ks.length + (if (backToKw pos (keywordEach ks env)).isEmpty then 0 else 1) < 30 := by split <;> omega
  simpa using this
theorem mtreeK {o : Expr} {m : Str} {apos pos : Pos} {es : List Expr} {ks : List Keyword} {env : Env} {ns : List Str} (hb : attributeBase o m env (eval o env) = eval o env) (hl : (apos.endLine == pos.line) = true) (h : noStars es = true) (hn : es.length + ks.length < 20) (hk : ks.map (·.arg) = ns.map some) :
    eval (.Call (.Attribute o m apos) es ks pos) env = (do
      let ov ← eval o env
      standAt apos.atName
      let (f, first) ← holding [ov] (getMethod ov m (do return (← importBound o env).getD true))
      callWith pos f first (backTo pos (starEach es env)) (backToKw pos (keywordEach ks env))) := by
  refine mcall_of hb fun ov => ?_
  unfold methodCall calleeOf methodCallPos
  rw [mformK h hn hk, hl]
  rfl
/-- o.m(e, .., k = v, ..) -/
theorem pe_methKw {k n : Nat} {Cl fa : Addr} {m : Str} {ns : List Str} {sp : Sp} {o : Expr} {es : List Expr} {ks : List Keyword} {ta : TE} {t : V → TA} {tk : V → List V → TA} {apos pos : Pos} (he : PE X o ta) (c : Cls X.K Cl) (hm : Meth X.K Cl m fa)
    (F : FnK X.prog X.w X.K X.mg X.base k fa n ns sp) (hr : Room k X.A) (ha : ∀ x, PA X es (t x)) (h0 : es = [] → ∀ x σ H Q, t x σ H Q → Q [] H) (hkw : ∀ x vs, PK X ks (tk x vs)) (hn : ks.map (·.arg) = ns.map some) (hb : attributeBase o m X.env (eval o X.env) = eval o X.env) (hl : (apos.endLine == pos.line) = true) (hs : noStars es = true)
    (hz : es.length + ks.length < 20) : PE X (.Call (.Attribute o m apos) es ks pos) (fun σ H Q => ta σ H fun x H1 => ∃ a dx fs, x = .ref a ∧ H1 a = some (.ins Cl dx fs) ∧ fs.lookup m = none ∧ t x σ H1 fun vs H2 => tk x vs σ H2 fun zs H3 => (x :: vs).length = n ∧ zs.length = ns.length ∧ sp ((x :: vs) ++ zs) H3 Q E0) := by
  refine ⟨fun pins s σ H Q I h => ?_⟩
  refine PySem.W.methodCall_KW (thn (he.run pins s σ H _ I h) fun u s1 ⟨x, H1, I1, rx, a, dx, fs, ex, ea, l, q⟩ => ?_) (mtreeK hb hl hs hz hn)
  subst ex
  obtain rfl : u = Value.ref a := rx
  refine getmeth_ok I1 ea c hm l ?_
  cases es with
  | nil =>
    refine PySem.W.callWith_KW0 (first := [.ref a]) (h₀ := X.base) I.ok.mod.kin hm.kp (kw_all hn) ?_ (by rw [kw_none hn]; rfl)
    refine thn ((hkw (.ref a) []).run pos pins s1 σ H1 _ I1 (h0 rfl _ _ _ _ q)) fun ws s2 ⟨zs, H2, I2, rz, l1, l2, q2⟩ => ⟨I2.kIn, ?_⟩
    rw [kw_fm hn]
    exact run_fnK (us := [.ref a]) (vs := [.ref a]) F hr I2 (.cons rfl .nil) rz l1 l2 q2
  | cons e es =>
    have hs' : (noStar e && noStars es) = true := hs
    rw [Bool.and_eq_true] at hs'
    refine PySem.W.callWith_KW (first := [.ref a]) (h₀ := X.base) I.ok.mod.kin hm.kp (kw_all hn) (thn ((ha _).run pos pins s1 σ H1 _ I1 q) fun us s2 ⟨vs, H2, I2, r, q⟩ => ?_) (by rw [star_none hs, kw_none hn]; rfl) (star_cons hs'.1)
    refine thn ((hkw _ vs).run pos pins s2 σ H2 _ I2 q) fun ws s3 ⟨zs, H3, I3, rz, l1, l2, q2⟩ => ⟨I3.kIn, ?_⟩
    rw [kw_fm hn]
    exact run_fnK (us := .ref a :: us) (vs := .ref a :: vs) F hr I3 (.cons rfl r) rz l1 l2 q2
theorem pstA_snoc1 {m : M} {v : V} {fm : List Addr} {qt : Bool} (p : Pst L false qt g f H env m env1 σ v H1 f1 fm) : PstA L g f H env [.val m] env1 σ [v] H1 f1 fm := pst_as p
theorem snd_methk (mid pid : Nat) (r args kws : Ex) (hrr : Snd L T R r) (ha : SndL L T R args) (hb : SndK L T R kws) : Snd L T R (.methk mid pid r args kws) := by
  have hE : ∀ C e, (ck T (.methk mid pid r args kws)).e C e = true → ∀ X, Cok L T R C X → PE X e (tE L R (.methk mid pid r args kws)) := by
    intro C e h X c
    cases e with
    | Call x es ks pos =>
      cases x with
      | Attribute o a ap =>
        have h : (decide (a = T.nm mid) && noCall0 o && (ap.endLine == pos.line) && decide (es.length + ks.length < 20) && !isAl r && (ck T r).e C o && kwB T pid args kws 1 ks && (ck T args).l C es && (ck T kws).k C ks) = true := h
        simp only [Bool.and_eq_true, decide_eq_true_eq, Bool.not_eq_true'] at h
        obtain ⟨⟨⟨⟨⟨⟨⟨⟨h1, h2⟩, h3⟩, h4⟩, h5⟩, h6⟩, h7⟩, h8⟩, h9⟩ := h
        obtain ⟨k1, k2, k3⟩ := kwB_of h7
        obtain ⟨k, gd, hro⟩ := c.gd
        rw [← c.nm] at h1
        subst h1
        refine ⟨fun pins s σ H Q I hq => ?_⟩
        obtain ⟨g, f, env, m, env', hE, hm, q⟩ := hq
        obtain ⟨m0, env0, hm0, hm⟩ := bind_ok hm
        split at hm
        · rename_i ci fs
          split at hm
          · rename_i fid kp hf hkp
            obtain ⟨as, env1, has, hm⟩ := bind_ok hm
            obtain ⟨as2, env2, has2, hm⟩ := bind_ok hm
            split at hm
            · rename_i xs hxs
              split at hm
              · rename_i hfe
                obtain ⟨ds, hds, hfl⟩ := bindO_ok hxs
                obtain ⟨q1, q2⟩ := gd.kw _ _ hkp
                split at hf
                · rename_i hlk
                  obtain ⟨M1, M2⟩ := gd.meth _ _ _ hf
                  rw [← c.K] at M1 M2 q2
                  subst hfe
                  have h0 : es = [] → ∀ x σ H Q, tA2 L R args [.val (.pure (.ins ci fs))] [x] σ H Q → Q [] H := fun e0 x σ H Q ⟨g, f, H0, env, env1, f1, fm, as, env', p, hl, k⟩ => by
                    subst e0
                    have e1 := l_nil h8
                    subst e1
                    cases hl
                    exact k [] H f1 fm (by simpa using p)
                  refine (pe_methKw (t := fun x => tA2 L R args [.val (.pure (.ins ci fs))] [x]) (tk := fun x vs => tA2 L R kws (.val (.pure (.ins ci fs)) :: as) (x :: vs)) (hrr.e C o h6 X c) M2 M1 q2 (hro.mono (Nat.le_succ k)) (fun x => ha.l C es h8 X c _ _) h0 (fun x vs => hb.k C ks h9 X c _ _) k1 (ab_no h2) h3 (ckl_star h8) h4).run pins s σ H Q I ?_
                  refine ⟨g, f, env, _, env0, hE, hm0, fun v H0 f0 fa pa => ?_⟩
                  rw [h5] at pa
                  obtain ⟨ad, dx, fs', ev, eh, en, _⟩ := inst_rep (x := .pure (.ins ci fs)) rfl hlk pa.rep
                  refine ⟨ad, dx, fs', ev, eh, en, g, f, H, env, env0, f0, fa, as, env1, pst_as pa, has, fun vs H1 f1 fm p => ?_⟩
                  refine ⟨g, f, H, env, env1, f1, fm, as2, env2, by simpa using p, has2, fun zs H2 f2 fm' p' => ?_⟩
                  have e1 := p.rep.len
                  have e2 := p'.rep.len
                  have e3 := evl_len has
                  have e4 := evl_len has2
                  simp only [List.length_append, List.length_cons, List.length_nil] at e1 e2
                  refine ⟨by simp only [List.length_cons]; omega, by omega, ?_⟩
                  obtain ⟨us, z1, z2⟩ := fill_rep (p'.ds (by simpa using hds)) hfl
                  exact ⟨us, by simpa using z1, callV_rd p'.tst z2 hm q⟩
                · cases hf
              · cases hm
            · cases hm
          · cases hm
        · cases hm
      | _ => cases h
    | _ => cases h
  refine ⟨hE, fun C e h X c => ?_⟩
  refine pt_plain c (hE C e h X c) rfl ?_
  cases e with
  | Call x es ks pos => exact fun _ => rfl
  | _ => cases h
/-- a value, read only from now on -/
theorem snd_fz (a : Ex) (ha : Snd L T R a) : Snd L T R (.fz a) := by
  have hE : ∀ C e, (ck T (.fz a)).e C e = true → ∀ X, Cok L T R C X → PE X e (tE L R (.fz a)) := by
    intro C e h X c
    cases e with
    | Call x es ks pos =>
      have h : (!isAl a && (ck T a).e C (.Call x es ks pos)) = true := h
      rw [Bool.and_eq_true, Bool.not_eq_true'] at h
      refine PE.imp (ha.e C _ h.2 X c) fun σ H Q ⟨g, f, env, m, env', hE, hm, q⟩ => ?_
      obtain ⟨m0, env1, hm0, hm⟩ := bind_ok hm
      cases hm
      refine ⟨g, f, env, m0, _, hE, hm0, fun v H' f' fm p => ?_⟩
      rw [h.1] at p
      exact q v H' f' [] p.frz
    | _ => cases h
  refine ⟨hE, fun C e h X c => ?_⟩
  refine pt_plain c (hE C e h X c) rfl ?_
  cases e with
  | Call x es ks pos => exact fun _ => rfl
  | _ => cases h
end
end FB

set_option Elab.async false
set_option linter.all false
set_option maxRecDepth 10000
/-! FbBi0: rules of built-ins that were lacking. -/
namespace FB
open PySem PySem.Spec PyProof.Rows L2 StX
section
variable {prog : Program} {w : World} {A : Around} {E : Value → Shared → Prop} {s : Shared} {Q : Value → Shared → Prop}
def ltU (a b : Value) : Bool := match a, b with
  | .str x _, .str y _ => decide (x.cps.toList < y.cps.toList)
  | _, _ => false
def StrV (v : Value) : Prop := ∃ x t, v = .str x t
theorem cmpU_lt (vs : Array Value) (hn : ∀ v ∈ vs, StrV v) : CmpOf prog w A .Lt (fun i v => vs[i]? = some v) (fun i j => ltU (vs.getD i .none) (vs.getD j .none)) := fun i j vi vj s Q E hi hj h => by
  have e1 : vs.getD i .none = vi := by simp [Array.getD_eq_getD_getElem?, hi]
  have e2 : vs.getD j .none = vj := by simp [Array.getD_eq_getD_getElem?, hj]
  simp only [e1, e2] at h
  obtain ⟨x, t, rfl⟩ := hn _ (Array.mem_of_getElem? hi)
  obtain ⟨y, u, rfl⟩ := hn _ (Array.mem_of_getElem? hj)
  exact richCompare_gives (op := .Lt) (typeIs_str s _ t) (typeIs_str s _ u) F.slot_str_lt F.entry_str_lt (F.args_str_lt_2 _ _) (gives_str_lt _ _ t u) (fun x => nomatch x) h
theorem cmpU_gt (vs : Array Value) (hn : ∀ v ∈ vs, StrV v) : CmpOf prog w A .Gt (fun i v => vs[i]? = some v) (fun i j => ltU (vs.getD j .none) (vs.getD i .none)) := fun i j vi vj s Q E hi hj h => by
  have e1 : vs.getD i .none = vi := by simp [Array.getD_eq_getD_getElem?, hi]
  have e2 : vs.getD j .none = vj := by simp [Array.getD_eq_getD_getElem?, hj]
  simp only [e1, e2] at h
  obtain ⟨x, t, rfl⟩ := hn _ (Array.mem_of_getElem? hi)
  obtain ⟨y, u, rfl⟩ := hn _ (Array.mem_of_getElem? hj)
  exact richCompare_gives (op := .Gt) (typeIs_str s _ t) (typeIs_str s _ u) F.slot_str_gt F.entry_str_gt (F.args_str_gt_2 _ _) (gives_str_gt _ _ t u) (fun x => nomatch x) h
theorem two_kept {a b : Value} {v : Value} {h' : Heap} (hk : ∀ c o, c ∉ [(s.heap.push ({ cls := .type "tuple", data := .seq #[a, b] } : Obj)).objs.size] → ((s.heap.push { cls := .type "tuple", data := .seq #[a, b] }).push { cls := .type "tuple_iterator", data := .fields #[.ref s.heap.objs.size, .int 0 0] }).get? c = some o → h'.get? c = some o) :
    ∀ c o, s.heap.get? c = some o → h'.get? c = some o := fun c o e => by
  have hsz : (s.heap.push ({ cls := .type "tuple", data := .seq #[a, b] } : Obj)).objs.size = s.heap.objs.size + 1 := Heap.size_push ..
  refine hk c o (fun hm => ?_) (Heap.get?_push_of_some _ (Heap.get?_push_of_some _ e))
  rcases List.mem_cons.mp hm with e1 | hm
  · have := Heap.lt_size e; rw [e1, hsz] at this; exact Nat.lt_irrefl _ (Nat.lt_of_succ_lt this)
  · cases hm
theorem max_two_strs {a b : Value} (hh : A.handled = none) (ha : StrV a) (hb : StrV b)
    (h : ∀ h' tk, (∀ c o, s.heap.get? c = some o → h'.get? c = some o) → Q (if ltU a b then b else a) { s with heap := h', toks := tk }) :
    wpAny (model prog w) A (call (.builtin "max") [a, b]) Q E s := by
  have hT : (s.heap.push { cls := .type "tuple", data := .seq #[a, b] }).IsTuple s.heap.objs.size #[a, b] := ⟨_, Heap.get?_push_size _ rfl, rfl, 0, rfl⟩
  refine call_max_two (wpAny_pyIter_tuple hT ?_)
  have hsz : (s.heap.push { cls := .type "tuple", data := .seq #[a, b] }).objs.size = s.heap.objs.size + 1 := Heap.size_push ..
  refine ⟨_, [_, s.heap.objs.size], [_], _, _, _, _, rfl, Walks.tuple (A := A.in1) hh _ s.heap.objs.size (by rw [hsz]; exact Nat.ne_of_lt (Nat.lt_succ_self _)) #[a, b],
    ⟨⟨_, Heap.get?_push_size _ rfl, rfl, rfl⟩, hT.push _⟩, fun c hc => ?_, by simp, cmpU_gt #[a, b] (by simp [ha, hb]), fun v h' tk hP hk => ?_⟩
  · show c < ((s.heap.push _).push _).objs.size
    rw [Heap.size_push, hsz]
    rcases List.mem_cons.mp hc with rfl | hc
    · rw [hsz]; exact Nat.lt_succ_self _
    · rcases List.mem_cons.mp hc with rfl | hc
      · exact Nat.lt_succ_of_lt (Nat.lt_succ_self _)
      · cases hc
  · have := h h' tk (two_kept (v := v) hk)
    have hv : v = if ltU a b then b else a := by
      cases hc : ltU a b <;> simp [argBest, hc] at hP <;> simp [hP]
    rw [hv]; exact this
theorem min_two_strs {a b : Value} (hh : A.handled = none) (ha : StrV a) (hb : StrV b)
    (h : ∀ h' tk, (∀ c o, s.heap.get? c = some o → h'.get? c = some o) → Q (if ltU b a then b else a) { s with heap := h', toks := tk }) :
    wpAny (model prog w) A (call (.builtin "min") [a, b]) Q E s := by
  have hT : (s.heap.push { cls := .type "tuple", data := .seq #[a, b] }).IsTuple s.heap.objs.size #[a, b] := ⟨_, Heap.get?_push_size _ rfl, rfl, 0, rfl⟩
  refine call_min_two (wpAny_pyIter_tuple hT ?_)
  have hsz : (s.heap.push { cls := .type "tuple", data := .seq #[a, b] }).objs.size = s.heap.objs.size + 1 := Heap.size_push ..
  refine ⟨_, [_, s.heap.objs.size], [_], _, _, _, _, rfl, Walks.tuple (A := A.in1) hh _ s.heap.objs.size (by rw [hsz]; exact Nat.ne_of_lt (Nat.lt_succ_self _)) #[a, b],
    ⟨⟨_, Heap.get?_push_size _ rfl, rfl, rfl⟩, hT.push _⟩, fun c hc => ?_, by simp, cmpU_lt #[a, b] (by simp [ha, hb]), fun v h' tk hP hk => ?_⟩
  · show c < ((s.heap.push _).push _).objs.size
    rw [Heap.size_push, hsz]
    rcases List.mem_cons.mp hc with rfl | hc
    · rw [hsz]; exact Nat.lt_succ_self _
    · rcases List.mem_cons.mp hc with rfl | hc
      · exact Nat.lt_succ_of_lt (Nat.lt_succ_self _)
      · cases hc
  · have := h h' tk (two_kept (v := v) hk)
    have hv : v = if ltU b a then b else a := by
      cases hc : ltU b a <;> simp [argBest, hc] at hP <;> simp [hP]
    rw [hv]; exact this
end
section
variable {X : Cx}
theorem call_max2S (hc : X.calm = true) : CallR X (.builtin "max") (fun xs H Q => ∃ x y, xs = [.str (mkS x), .str (mkS y)] ∧ Q (.str (mkS (if lexLt x y then y else x))) H) := by
  intro pins s σ H xs us Q I r h
  obtain ⟨x, y, rfl, q⟩ := h
  obtain ⟨u, w', rfl, ⟨t, rfl⟩, ⟨t', rfl⟩⟩ := vals2 r
  refine max_two_strs (I.ok.hd hc) ⟨_, _, rfl⟩ ⟨_, _, rfl⟩ fun h' tk k => ⟨_, H, I.kept k, ?_, q⟩
  have e : ltU (.str (mkS x) t) (.str (mkS y) t') = lexLt x y := rfl
  rw [e]
  cases lexLt x y <;> exact ⟨_, rfl⟩
theorem call_min2S (hc : X.calm = true) : CallR X (.builtin "min") (fun xs H Q => ∃ x y, xs = [.str (mkS x), .str (mkS y)] ∧ Q (.str (mkS (if lexLt y x then y else x))) H) := by
  intro pins s σ H xs us Q I r h
  obtain ⟨x, y, rfl, q⟩ := h
  obtain ⟨u, w', rfl, ⟨t, rfl⟩, ⟨t', rfl⟩⟩ := vals2 r
  refine min_two_strs (I.ok.hd hc) ⟨_, _, rfl⟩ ⟨_, _, rfl⟩ fun h' tk k => ⟨_, H, I.kept k, ?_, q⟩
  have e : ltU (.str (mkS y) t') (.str (mkS x) t) = lexLt y x := rfl
  rw [e]
  cases lexLt y x <;> exact ⟨_, rfl⟩
theorem vals_signs {x : List Nat} : ∀ {l : List Value} {i : Nat}, (∀ j v, l[j]? = some v → ∃ c u, x[i + j]? = some c ∧ v = .str ⟨#[c]⟩ u) → l.length + i = x.length → Vals ((x.drop i).map fun c => V.str (mkS [c])) l
  | [], i, h, e => by
    rw [List.drop_of_length_le (by simp at e; omega)]
    exact .nil
  | v :: l, i, h, e => by
    obtain ⟨c, u, hc, rfl⟩ := h 0 v rfl
    have hi : i < x.length := by simp at e; omega
    have : x.drop i = c :: x.drop (i + 1) := by
      rw [List.drop_eq_getElem_cons hi]
      have : x[i]? = some c := by simpa using hc
      rw [List.getElem?_eq_getElem hi] at this
      rw [Option.some.inj this]
    rw [this]
    refine .cons ⟨u, rfl⟩ (vals_signs (fun j v hv => ?_) (by simp at e; omega))
    have := h (j + 1) v (by simpa using hv)
    rw [show i + 1 + j = i + (j + 1) by omega]
    exact this
theorem call_listS (hc : X.calm = true) : CallR X (.type "list") (fun xs H Q => ∃ x, xs = [.str (mkS x)] ∧ x.length ≤ sizeLine ∧ ∀ p, H p = none → Q (.ref p) (upd H p (.lst (x.map fun c => V.str (mkS [c]))))) := by
  intro pins s σ H xs us Q I r h
  obtain ⟨x, rfl, hz, q⟩ := h
  obtain ⟨u, rfl, t, rfl⟩ := vals1 r
  refine call_list_str (I.ok.hd hc) (mkS x) t (fun h' tk acc' c' hk hS' hacc => ?_) (hn := by simpa using hz)
  have hf : H s.heap.objs.size = none := I.hok.fresh (Nat.le_refl _)
  refine ⟨.ref s.heap.objs.size, upd H s.heap.objs.size (.lst (x.map fun c => V.str (mkS [c]))), I.laid (t' := tk) hk (Nat.le_refl _) ⟨by simpa using hz, acc'.toList, c', ?_, by simpa using hS'⟩, rfl, q _ hf⟩
  have hl : acc'.toList.length + 0 = x.length := by
    have := hacc.1
    simpa using this
  have := vals_signs (x := x) (l := acc'.toList) (i := 0) (fun j v hv => ?_) hl
  · simpa using this
  · obtain ⟨c, u, hc, rfl⟩ := hacc.2 j v (by simpa using hv)
    exact ⟨c, u, by simpa using hc, rfl⟩
end
end FB

set_option Elab.async false
set_option linter.all false
set_option maxRecDepth 10000
/-! FbTup: tuples of ints sorted; min, max of a tuple. -/
namespace FB
open PySem PySem.Spec PyProof.Rows L2 StX
theorem insT_perm (x : List Int) : ∀ l, (insT x l).Perm (x :: l)
  | [] => .refl _
  | y :: r => by
    unfold insT
    split
    · exact ((insT_perm x r).cons y).trans (.swap x y r)
    · exact .refl _
theorem sortT_perm : ∀ l, (sortT l).Perm l
  | [] => .refl _
  | x :: r => (insT_perm x (sortT r)).trans ((sortT_perm r).cons x)
theorem ltIs_code {B : Int} : ∀ {a b : List Int}, a.length = b.length → TS.Bd B a → TS.Bd B b → (ltIs a b = true ↔ TS.code B a < TS.code B b)
  | [], [], _, _, _ => by simp [ltIs, TS.code]
  | x :: r, y :: q, hl, ha, hb => by
    have hl' : r.length = q.length := by simpa using hl
    have ih := ltIs_code hl' ha.tail hb.tail
    have b1 := TS.code_bd r ha.tail
    have b2 := TS.code_bd q hb.tail
    unfold ltIs
    show _ ↔ x * B ^ r.length + TS.code B r < y * B ^ q.length + TS.code B q
    rw [← hl'] at b2 ⊢
    by_cases h1 : x < y
    · have := TS.num2 b1.1 b1.2 b2.1 h1
      simp [h1, this]
    · by_cases h2 : x = y
      · subst h2
        simp [ih]
      · have h3 : y < x := by omega
        have := TS.num2 b2.1 b2.2 b1.1 h3
        simp [h1, h2]
        omega
theorem ltIs_tri : ∀ {a b : List Int}, a.length = b.length → ltIs a b = false → ltIs b a = false → a = b
  | [], [], _, _, _ => rfl
  | x :: r, y :: q, hl, h1, h2 => by
    unfold ltIs at h1 h2
    simp only [Bool.or_eq_false_iff, decide_eq_false_iff_not, Bool.and_eq_false_iff] at h1 h2
    have e : x = y := by omega
    subst e
    have h1' : ltIs r q = false := by simpa using h1.2
    have h2' : ltIs q r = false := by simpa using h2.2
    rw [ltIs_tri (by simpa using hl) h1' h2']
/-- all of one length and within bounds -/
def TkS (d : Nat) (B : Int) (l : List (List Int)) : Prop := ∀ x ∈ l, x.length = d ∧ TS.Bd B x
theorem insT_sorted {d : Nat} {B : Int} (x : List Int) (hx : x.length = d ∧ TS.Bd B x) : ∀ {l : List (List Int)}, TkS d B l → l.Pairwise (fun a b => TS.code B a ≤ TS.code B b) → (insT x l).Pairwise fun a b => TS.code B a ≤ TS.code B b
  | [], _, _ => by simp [insT]
  | y :: r, hk, h => by
    have hy := hk y List.mem_cons_self
    have c := ltIs_code (B := B) (a := y) (b := x) (hy.1.trans hx.1.symm) hy.2 hx.2
    have h1 := List.pairwise_cons.mp h
    unfold insT
    split
    · rename_i hlt
      have hlt := c.mp hlt
      refine List.pairwise_cons.mpr ⟨fun z hz => ?_, insT_sorted x hx (fun z hz => hk z (List.mem_cons_of_mem _ hz)) h1.2⟩
      rcases List.mem_cons.mp ((insT_perm x r).mem_iff.mp hz) with rfl | hz
      · exact Int.le_of_lt hlt
      · exact h1.1 z hz
    · rename_i hlt
      have hle : TS.code B x ≤ TS.code B y := by
        rcases Int.lt_or_le (TS.code B y) (TS.code B x) with z | z
        · exact absurd (c.mpr z) hlt
        · exact z
      refine List.pairwise_cons.mpr ⟨fun z hz => ?_, h⟩
      rcases List.mem_cons.mp hz with rfl | hz
      · exact hle
      · exact Int.le_trans hle (h1.1 z hz)
theorem sortT_sorted {d : Nat} {B : Int} : ∀ {l : List (List Int)}, TkS d B l → (sortT l).Pairwise fun a b => TS.code B a ≤ TS.code B b
  | [], _ => .nil
  | x :: r, hk => insT_sorted x (hk x List.mem_cons_self) (fun z hz => hk z (List.mem_cons_of_mem _ ((sortT_perm r).mem_iff.mp hz))) (sortT_sorted fun z hz => hk z (List.mem_cons_of_mem _ hz))
theorem sortT_uniq {d : Nat} {B : Int} {l m : List (List Int)} (hk : TkS d B l) (p : m.Perm l) (h : m.Pairwise fun a b => TS.code B a ≤ TS.code B b) : m = sortT l := by
  refine List.Perm.eq_of_pairwise (fun a b ha hb x y => ?_) h (sortT_sorted hk) (p.trans (sortT_perm l).symm)
  have ka := hk a (p.mem_iff.mp ha)
  have kb := hk b ((sortT_perm l).mem_iff.mp hb)
  have e := Int.le_antisymm x y
  refine ltIs_tri (ka.1.trans kb.1.symm) ?_ ?_
  · cases q : ltIs a b with
    | false => rfl
    | true =>
      have := (ltIs_code (ka.1.trans kb.1.symm) ka.2 kb.2).mp q
      omega
  · cases q : ltIs b a with
    | false => rfl
    | true =>
      have := (ltIs_code (kb.1.trans ka.1.symm) kb.2 ka.2).mp q
      omega
theorem perm_lift {α β : Type} {f : α → β} {ys zs : List β} (h : ys.Perm zs) : ∀ {l : List α}, zs = l.map f → ∃ l' : List α, l'.Perm l ∧ l'.map f = ys := by
  induction h with
  | nil =>
    intro l e
    have : l = [] := by simpa using e.symm
    exact ⟨[], by rw [this], rfl⟩
  | cons x p ih =>
    intro l e
    cases l with
    | nil => simp at e
    | cons a l =>
      simp only [List.map_cons, List.cons.injEq] at e
      obtain ⟨l', p', e'⟩ := ih e.2
      exact ⟨a :: l', p'.cons a, by simp [e.1, e']⟩
  | swap x y l0 =>
    intro l e
    cases l with
    | nil => simp at e
    | cons a l =>
      cases l with
      | nil => simp at e
      | cons b l =>
        simp only [List.map_cons, List.cons.injEq] at e
        exact ⟨b :: a :: l, .swap a b l, by simp [e.1, e.2.1, e.2.2]⟩
  | trans p q ih1 ih2 =>
    intro l e
    obtain ⟨l', p', e'⟩ := ih2 e
    obtain ⟨l'', p'', e''⟩ := ih1 e'.symm
    exact ⟨l'', p''.trans p', e''⟩
theorem tupsOk_of {l : List (List Int)} (h : tupsOk l = true) : l.length < 64 ∧ ∃ d, 1 ≤ d ∧ TkS d 1000000 l := by
  unfold tupsOk at h
  rw [Bool.and_eq_true, decide_eq_true_eq] at h
  refine ⟨h.1, ?_⟩
  cases l with
  | nil => exact ⟨1, Nat.le_refl _, fun _ z => nomatch z⟩
  | cons x r =>
    have h2 := h.2
    simp only [Bool.and_eq_true, decide_eq_true_eq, List.all_eq_true] at h2
    exact ⟨x.length, h2.1, fun y hy => ⟨(h2.2 y hy).1, fun m hm => (h2.2 y hy).2 m hm⟩⟩

section
variable {prog : Program} {w : World} {A : Around} {E : Value → Shared → Prop} {s : Shared} {l : Addr} {xs : Array (Int × Tok)}
theorem iter_intTup {Q : Value → Shared → Prop} (hl : s.heap.IsTuple l (intItems xs))
    (h : ∀ s₂ : Shared, s₂ = { s with heap := s.heap.push { cls := .type "tuple_iterator", data := .fields #[.ref l, .int 0 0] } } →
      (s₂.heap.IsTupleIter s.heap.objs.size l 0 ∧ s₂.heap.IsTuple l (intItems xs)) → (∀ b ∈ [s.heap.objs.size, l], b < s₂.heap.objs.size) → l ≠ s.heap.objs.size → Q (.ref s.heap.objs.size) s₂) :
    wpAny (model prog w) A (pyIter (.ref l)) Q E s := by
  have hlt : l < s.heap.objs.size := by obtain ⟨_, e, _⟩ := hl; exact Heap.lt_size e
  refine wpAny_pyIter_tuple hl (h _ rfl ⟨⟨_, Heap.get?_push_size _ rfl, rfl, rfl⟩, hl.push _⟩ (fun b hb => ?_) (Nat.ne_of_lt hlt))
  show b < (s.heap.push _).objs.size
  rw [Heap.size_push]
  rcases List.mem_cons.mp hb with rfl | hb
  · exact Nat.lt_succ_self _
  · rcases List.mem_cons.mp hb with rfl | hb
    · exact Nat.lt_succ_of_lt hlt
    · cases hb
theorem old_keptT {h' : Heap} (hk : ∀ b o, b ∉ [s.heap.objs.size] → (s.heap.push { cls := .type "tuple_iterator", data := .fields #[.ref l, .int 0 0] }).get? b = some o → h'.get? b = some o) :
    ∀ b o, s.heap.get? b = some o → h'.get? b = some o := fun b o e => by
  refine hk b o (fun hm => ?_) (Heap.get?_push_of_some _ e)
  rcases List.mem_cons.mp hm with e1 | hm
  · exact absurd (e1 ▸ Heap.lt_size e) (Nat.lt_irrefl _)
  · cases hm
theorem max_intTup {Q : Value → Shared → Prop} (hh : A.handled = none) (hl : s.heap.IsTuple l (intItems xs)) (hne : 0 < xs.size)
    (h : ∀ v h' tk, (intItems xs)[argBest (fun i j => decide (numAt xs i > numAt xs j)) (xs.size - 1)]? = some v → (∀ b o, s.heap.get? b = some o → h'.get? b = some o) → Q v { s with heap := h', toks := tk }) :
    wpAny (model prog w) A (call (.builtin "max") [.ref l]) Q E s := by
  refine call_max_walk (iter_intTup hl fun s₂ e st hfp hlI => ?_)
  subst e
  refine ⟨_, _, _, _, _, _, _, rfl, Walks.tuple (A := A.in1) hh _ l hlI (intItems xs), st, hfp, by simpa [intItems] using hne, CmpOf.ints_gt (numAt xs) (fun _ _ => intItems_at), fun v h' tk hP hk => ?_⟩
  exact h v h' tk (by simpa [intItems] using hP) (old_keptT hk)
theorem min_intTup {Q : Value → Shared → Prop} (hh : A.handled = none) (hl : s.heap.IsTuple l (intItems xs)) (hne : 0 < xs.size)
    (h : ∀ v h' tk, (intItems xs)[argBest (fun i j => decide (numAt xs i < numAt xs j)) (xs.size - 1)]? = some v → (∀ b o, s.heap.get? b = some o → h'.get? b = some o) → Q v { s with heap := h', toks := tk }) :
    wpAny (model prog w) A (call (.builtin "min") [.ref l]) Q E s := by
  refine call_min_walk (iter_intTup hl fun s₂ e st hfp hlI => ?_)
  subst e
  refine ⟨_, _, _, _, _, _, _, rfl, Walks.tuple (A := A.in1) hh _ l hlI (intItems xs), st, hfp, by simpa [intItems] using hne, CmpOf.ints_lt (numAt xs) (fun _ _ => intItems_at), fun v h' tk hP hk => ?_⟩
  exact h v h' tk (by simpa [intItems] using hP) (old_keptT hk)
variable {its : List Value} {ns : List Int} {Q : Value → Shared → Prop}
theorem max_rawT (hh : A.handled = none) (hl : s.heap.IsTuple l its.toArray) (hi : IntsAre its ns) (hne : 0 < ns.length)
    (h : ∀ h' tk M t', (∀ b o, s.heap.get? b = some o → h'.get? b = some o) → M ∈ ns → (∀ a, a ∈ ns → a ≤ M) → Q (.int M t') { s with heap := h', toks := tk }) : wpAny (model prog w) A (call (.builtin "max") [.ref l]) Q E s := by
  obtain ⟨xs, e⟩ := hi.allInts.items
  have hn : numsOf (intItems xs).toList = ns := by rw [← e]; exact hi.numsOf
  rw [nums_intItems] at hn
  subst hn
  rw [e] at hl
  have hsz : 0 < xs.size := by simpa using hne
  refine max_intTup hh hl hsz fun v h' tk hv hk => ?_
  obtain ⟨t, rfl⟩ := intItems_at hv
  obtain ⟨h1, h2⟩ := argBest_gt (numAt xs) (xs.size - 1)
  refine h h' tk _ t hk ?_ fun a ha => ?_
  · rw [numAt_eq]; exact PySem.getD_mem (by rw [List.length_map, Array.length_toList]; omega)
  · obtain ⟨j, hj, rfl⟩ := mem_getD ha
    rw [List.length_map, Array.length_toList] at hj
    rw [← numAt_eq]; exact h2 j (by omega)
theorem min_rawT (hh : A.handled = none) (hl : s.heap.IsTuple l its.toArray) (hi : IntsAre its ns) (hne : 0 < ns.length)
    (h : ∀ h' tk M t', (∀ b o, s.heap.get? b = some o → h'.get? b = some o) → M ∈ ns → (∀ a, a ∈ ns → M ≤ a) → Q (.int M t') { s with heap := h', toks := tk }) : wpAny (model prog w) A (call (.builtin "min") [.ref l]) Q E s := by
  obtain ⟨xs, e⟩ := hi.allInts.items
  have hn : numsOf (intItems xs).toList = ns := by rw [← e]; exact hi.numsOf
  rw [nums_intItems] at hn
  subst hn
  rw [e] at hl
  have hsz : 0 < xs.size := by simpa using hne
  refine min_intTup hh hl hsz fun v h' tk hv hk => ?_
  obtain ⟨t, rfl⟩ := intItems_at hv
  obtain ⟨h1, h2⟩ := argBest_lt (numAt xs) (xs.size - 1)
  refine h h' tk _ t hk ?_ fun a ha => ?_
  · rw [numAt_eq]; exact PySem.getD_mem (by rw [List.length_map, Array.length_toList]; omega)
  · obtain ⟨j, hj, rfl⟩ := mem_getD ha
    rw [List.length_map, Array.length_toList] at hj
    rw [← numAt_eq]; exact h2 j (by omega)
end
section
variable {X : Cx}
def rMinA (K : PySem.W.Frag) : List V → Hp → VK → Prop := fun vs H Q => ∃ (a : Addr) (ns : List Int), vs = [V.ref a] ∧ (SqL K H a (ns.map V.int) ∨ SqT K H a (ns.map V.int)) ∧ 0 < ns.length ∧ ∀ m, m ∈ ns → (∀ y, y ∈ ns → m ≤ y) → Q (.int m) H
def rMaxA (K : PySem.W.Frag) : List V → Hp → VK → Prop := fun vs H Q => ∃ (a : Addr) (ns : List Int), vs = [V.ref a] ∧ (SqL K H a (ns.map V.int) ∨ SqT K H a (ns.map V.int)) ∧ 0 < ns.length ∧ ∀ m, m ∈ ns → (∀ y, y ∈ ns → y ≤ m) → Q (.int m) H
theorem cr_minA (hc : X.calm = true) : CallR X (.builtin "min") (rMinA X.K) := by
  intro pins s σ H vs us Q I r h
  obtain ⟨a, ns, rfl, hs | hs, hne, q⟩ := h
  · exact cr_min hc pins s σ H _ us Q I r ⟨a, ns, rfl, hs, hne, q⟩
  · obtain ⟨its, rv, hl, _⟩ := I.tuple hs
    rw [Vals.ref1 r]
    exact min_rawT (I.ok.hd hc) hl rv.ints hne fun h' tk m t' hk h1 h2 => ⟨.int _, H, I.kept hk, ⟨_, rfl⟩, q m h1 h2⟩
theorem cr_maxA (hc : X.calm = true) : CallR X (.builtin "max") (rMaxA X.K) := by
  intro pins s σ H vs us Q I r h
  obtain ⟨a, ns, rfl, hs | hs, hne, q⟩ := h
  · exact cr_max hc pins s σ H _ us Q I r ⟨a, ns, rfl, hs, hne, q⟩
  · obtain ⟨its, rv, hl, _⟩ := I.tuple hs
    rw [Vals.ref1 r]
    exact max_rawT (I.ok.hd hc) hl rv.ints hne fun h' tk m t' hk h1 h2 => ⟨.int _, H, I.kept hk, ⟨_, rfl⟩, q m h1 h2⟩
end
theorem minI_ok {ns : List Int} {m : Int} (h : minI ns = some m) : 0 < ns.length ∧ ∀ k, k ∈ ns → (∀ y, y ∈ ns → k ≤ y) → k = m := by
  cases ns with
  | nil => cases h
  | cons x r =>
    refine ⟨by simp, ?_⟩
    have h : r.foldl (fun a b => if b < a then b else a) x = m := Option.some.inj h
    have key : ∀ (r : List Int) (x : Int), (r.foldl (fun a b => if b < a then b else a) x) ∈ x :: r ∧ ∀ y ∈ x :: r, (r.foldl (fun a b => if b < a then b else a) x) ≤ y := by
      intro r
      induction r with
      | nil => intro x; simp
      | cons z r ih =>
        intro x
        obtain ⟨i1, i2⟩ := ih (if z < x then z else x)
        simp only [List.foldl_cons]
        refine ⟨?_, fun y hy => ?_⟩
        · rcases List.mem_cons.mp i1 with e | e
          · rw [e]; split <;> simp
          · simp [e]
        · have i0 := i2 _ List.mem_cons_self
          have hm : (if z < x then z else x) ≤ x ∧ (if z < x then z else x) ≤ z := by split <;> omega
          rcases List.mem_cons.mp hy with rfl | hy
          · exact Int.le_trans i0 hm.1
          · rcases List.mem_cons.mp hy with rfl | hy
            · exact Int.le_trans i0 hm.2
            · exact i2 y (List.mem_cons_of_mem _ hy)
    obtain ⟨k1, k2⟩ := key r x
    rw [h] at k1 k2
    intro k hk hl
    exact Int.le_antisymm (hl m k1) (k2 k hk)
theorem maxI_ok {ns : List Int} {m : Int} (h : maxI ns = some m) : 0 < ns.length ∧ ∀ k, k ∈ ns → (∀ y, y ∈ ns → y ≤ k) → k = m := by
  cases ns with
  | nil => cases h
  | cons x r =>
    refine ⟨by simp, ?_⟩
    have h : r.foldl (fun a b => if a < b then b else a) x = m := Option.some.inj h
    have key : ∀ (r : List Int) (x : Int), (r.foldl (fun a b => if a < b then b else a) x) ∈ x :: r ∧ ∀ y ∈ x :: r, y ≤ (r.foldl (fun a b => if a < b then b else a) x) := by
      intro r
      induction r with
      | nil => intro x; simp
      | cons z r ih =>
        intro x
        obtain ⟨i1, i2⟩ := ih (if x < z then z else x)
        simp only [List.foldl_cons]
        refine ⟨?_, fun y hy => ?_⟩
        · rcases List.mem_cons.mp i1 with e | e
          · rw [e]; split <;> simp
          · simp [e]
        · have i0 := i2 _ List.mem_cons_self
          have hm : x ≤ (if x < z then z else x) ∧ z ≤ (if x < z then z else x) := by split <;> omega
          rcases List.mem_cons.mp hy with rfl | hy
          · exact Int.le_trans hm.1 i0
          · rcases List.mem_cons.mp hy with rfl | hy
            · exact Int.le_trans hm.2 i0
            · exact i2 y (List.mem_cons_of_mem _ hy)
    obtain ⟨k1, k2⟩ := key r x
    rw [h] at k1 k2
    intro k hk hl
    exact Int.le_antisymm (k2 k hk) (hl m k1)
end FB

set_option Elab.async false
set_option linter.all false
set_option maxRecDepth 10000
/-! FbBi: calls of built-ins with one or two operands. -/
namespace FB
open PySem PySem.Spec PyProof.Rows L2 StX

/-! ### sorting -/
theorem insI_perm (x : Int) : ∀ l, (insI x l).Perm (x :: l)
  | [] => .refl _
  | y :: r => by
    unfold insI
    split
    · exact .refl _
    · exact ((insI_perm x r).cons y).trans (.swap x y r)
theorem sortI_perm : ∀ l, (sortI l).Perm l
  | [] => .refl _
  | x :: r => (insI_perm x (sortI r)).trans ((sortI_perm r).cons x)
theorem insI_sorted (x : Int) : ∀ {l}, l.Pairwise (· ≤ ·) → (insI x l).Pairwise (· ≤ ·)
  | [], _ => by simp [insI]
  | y :: r, h => by
    unfold insI
    have h1 := List.pairwise_cons.mp h
    split
    · rename_i hx
      refine List.pairwise_cons.mpr ⟨fun z hz => ?_, h⟩
      rcases List.mem_cons.mp hz with rfl | hz
      · omega
      · have := h1.1 z hz; omega
    · rename_i hx
      refine List.pairwise_cons.mpr ⟨fun z hz => ?_, insI_sorted x h1.2⟩
      rcases List.mem_cons.mp ((insI_perm x r).mem_iff.mp hz) with rfl | hz
      · omega
      · exact h1.1 z hz
theorem sortI_sorted : ∀ l, (sortI l).Pairwise (· ≤ ·)
  | [] => .nil
  | x :: r => insI_sorted x (sortI_sorted r)
theorem sortI_uniq {l m : List Int} (p : m.Perm l) (h : m.Pairwise (· ≤ ·)) : m = sortI l :=
  List.Perm.eq_of_pairwise (fun a b _ _ x y => Int.le_antisymm x y) h (sortI_sorted l) (p.trans (sortI_perm l).symm)
theorem lexLe_total (a b : List Nat) : lexLe a b = true ∨ lexLe b a = true := by
  unfold lexLe lexLt
  by_cases h : b < a
  · right
    simpa using fun z : a < b => List.lt_irrefl a (List.lt_trans z h)
  · left; simpa using h
theorem lexLe_anti {a b : List Nat} (h : lexLe a b = true) (k : lexLe b a = true) : a = b := by
  unfold lexLe lexLt at h k
  simp only [Bool.not_eq_true', decide_eq_false_iff_not] at h k
  exact List.le_antisymm h k
theorem lexLe_trans {a b c : List Nat} (h : lexLe a b = true) (k : lexLe b c = true) : lexLe a c = true := by
  unfold lexLe lexLt at h k ⊢
  simp only [Bool.not_eq_true', decide_eq_false_iff_not] at h k ⊢
  exact fun z => absurd (List.le_trans h k) (List.not_le.mpr z)
theorem insS_perm (x : List Nat) : ∀ l, (insS x l).Perm (x :: l)
  | [] => .refl _
  | y :: r => by
    unfold insS
    split
    · exact .refl _
    · exact ((insS_perm x r).cons y).trans (.swap x y r)
theorem sortS_perm : ∀ l, (sortS l).Perm l
  | [] => .refl _
  | x :: r => (insS_perm x (sortS r)).trans ((sortS_perm r).cons x)
theorem insS_sorted (x : List Nat) : ∀ {l : List (List Nat)}, l.Pairwise (fun a b => lexLe a b = true) → (insS x l).Pairwise fun a b => lexLe a b = true
  | [], _ => by simp [insS]
  | y :: r, h => by
    unfold insS
    have h1 := List.pairwise_cons.mp h
    split
    · rename_i hx
      refine List.pairwise_cons.mpr ⟨fun z hz => ?_, h⟩
      rcases List.mem_cons.mp hz with rfl | hz
      · exact hx
      · exact lexLe_trans hx (h1.1 z hz)
    · rename_i hx
      refine List.pairwise_cons.mpr ⟨fun z hz => ?_, insS_sorted x h1.2⟩
      rcases List.mem_cons.mp ((insS_perm x r).mem_iff.mp hz) with rfl | hz
      · rcases lexLe_total z y with w | w
        · exact absurd w hx
        · exact w
      · exact h1.1 z hz
theorem sortS_sorted : ∀ l, (sortS l).Pairwise fun a b => lexLe a b = true
  | [] => .nil
  | x :: r => insS_sorted x (sortS_sorted r)
theorem sortS_uniq {l m : List (List Nat)} (p : m.Perm l) (h : m.Pairwise fun a b => lexLe a b = true) : m = sortS l :=
  List.Perm.eq_of_pairwise (fun a b _ _ x y => lexLe_anti x y) h (sortS_sorted l) (p.trans (sortS_perm l).symm)
def unS (x : Str) : List Nat := x.cps.toList
theorem mkS_unS (x : Str) : mkS (unS x) = x := by
  obtain ⟨a⟩ := x
  show (⟨a.toList.toArray⟩ : Str) = ⟨a⟩
  simp
theorem unS_mkS (x : List Nat) : unS (mkS x) = x := by simp [unS]
theorem risingS_pw : ∀ {l : List Str} {p : Str}, risingS p l = true → (p :: l).Pairwise fun a b => lexLe (unS a) (unS b) = true
  | [], p, _ => by simp
  | x :: r, p, h => by
    have h : (!ltCps x.cps.toList p.cps.toList && risingS x r) = true := h
    rw [Bool.and_eq_true] at h
    have hx : lexLe (unS p) (unS x) = true := by
      have := h.1
      rw [ltCps_eq] at this
      exact this
    have ih := risingS_pw h.2
    have h1 := List.pairwise_cons.mp ih
    refine List.pairwise_cons.mpr ⟨fun z hz => ?_, ih⟩
    rcases List.mem_cons.mp hz with rfl | hz
    · exact hx
    · exact lexLe_trans hx (h1.1 z hz)
theorem sortedS_pw : ∀ {l : List Str}, sortedS l = true → l.Pairwise fun a b => lexLe (unS a) (unS b) = true
  | [], _ => .nil
  | x :: r, h => risingS_pw h

section
variable {L : Lk} {T : Tx} {R : Rt} {C : Sc} {X : Cx}
variable {g f f1 f2 : List Addr} {H H1 H2 H' : Hp} {env env1 env2 : En} {σ : L2.St} {qt : Bool} {O O' : List Addr}
theorem ints_rep : ∀ {xs : List D} {ns : List Int} {vs : List V}, allInts xs = some ns → RepDs L O H xs vs → vs = ns.map V.int
  | [], ns, [], h, _ => by cases h; rfl
  | .int i :: r, ns, v :: vs, h, ⟨a, b⟩ => by
    obtain ⟨ns', h1, rfl⟩ := mapO_ok (r := allInts r) (k := (i :: ·)) h
    rw [show v = .int i from a, ints_rep h1 b]; rfl
  | .non :: _, _, _, h, _ => by cases h
  | .bl _ :: _, _, _, h, _ => by cases h
  | .str _ :: _, _, _, h, _ => by cases h
  | .tup _ :: _, _, _, h, _ => by cases h
  | .lst _ :: _, _, _, h, _ => by cases h
  | .dic _ :: _, _, _, h, _ => by cases h
  | .ins _ _ :: _, _, _, h, _ => by cases h
  | .cls _ :: _, _, _, h, _ => by cases h
  | .frl _ :: _, _, _, h, _ => by cases h
theorem repD_ints {ns : List Int} : RepDs L O H (ns.map .int) (ns.map V.int) := by
  induction ns with
  | nil => trivial
  | cons n r ih => exact ⟨rfl, ih⟩
theorem tups_rep : ∀ {xs : List D} {ts : List (List Int)} {vs : List V}, allTups xs = some ts → RepDs L O H xs vs → ∃ as : List Addr, vs = as.map V.ref ∧ Paired (fun a t => RdT L O H a (t.map V.int)) as ts
  | [], ts, [], h, _ => by cases h; exact ⟨[], rfl, .nil⟩
  | .tup x :: r, ts, v :: vs, h, ⟨a, b⟩ => by
    obtain ⟨ns, h1, h2⟩ := bindO_ok (r := allInts x) (k := fun x => (allTups r).map (x :: ·)) h
    obtain ⟨ts', h3, rfl⟩ := mapO_ok h2
    obtain ⟨as, e, p⟩ := tups_rep h3 b
    obtain ⟨c, us, ev, hr, rd⟩ := a
    rw [ints_rep h1 rd] at hr
    exact ⟨c :: as, by rw [ev, e]; rfl, .cons hr p⟩
  | .non :: _, _, _, h, _ => by cases h
  | .bl _ :: _, _, _, h, _ => by cases h
  | .str _ :: _, _, _, h, _ => by cases h
  | .int _ :: _, _, _, h, _ => by cases h
  | .lst _ :: _, _, _, h, _ => by cases h
  | .dic _ :: _, _, _, h, _ => by cases h
  | .ins _ _ :: _, _, _, h, _ => by cases h
  | .cls _ :: _, _, _, h, _ => by cases h
  | .frl _ :: _, _, _, h, _ => by cases h
theorem repD_tups {as : List Addr} {ts : List (List Int)} (p : Paired (fun a t => RdT L O H a (t.map V.int)) as ts) : RepDs L O H (tupD ts) (as.map V.ref) := by
  induction p with
  | nil => trivial
  | cons h _ ih => exact ⟨⟨_, _, rfl, h, repD_ints⟩, ih⟩
theorem paired_zip {α β : Type} {P : α → β → Prop} {as : List α} {bs : List β} (p : Paired P as bs) : ∃ l : List (α × β), l.map (·.1) = as ∧ l.map (·.2) = bs ∧ ∀ q ∈ l, P q.1 q.2 := by
  induction p with
  | nil => exact ⟨[], rfl, rfl, fun _ z => nomatch z⟩
  | @cons a b _ _ h _ ih =>
    obtain ⟨l, e1, e2, k⟩ := ih
    exact ⟨(a, b) :: l, by simp [e1], by simp [e2], fun q hq => (List.mem_cons.mp hq).elim (fun e => by subst e; exact h) (k q)⟩
theorem zip_paired {α β : Type} {P : α → β → Prop} : ∀ {l : List (α × β)}, (∀ q ∈ l, P q.1 q.2) → Paired P (l.map (·.1)) (l.map (·.2))
  | [], _ => .nil
  | q :: l, h => .cons (h q List.mem_cons_self) (zip_paired fun z hz => h z (List.mem_cons_of_mem _ hz))
theorem strs_rep : ∀ {xs : List D} {ns : List (List Nat)} {vs : List V}, allStrs xs = some ns → RepDs L O H xs vs → vs = (ns.map mkS).map V.str
  | [], ns, [], h, _ => by cases h; rfl
  | .str i :: r, ns, v :: vs, h, ⟨a, b⟩ => by
    obtain ⟨ns', h1, rfl⟩ := mapO_ok (r := allStrs r) (k := (i :: ·)) h
    rw [show v = .str (mkS i) from a, strs_rep h1 b]; rfl
  | .non :: _, _, _, h, _ => by cases h
  | .bl _ :: _, _, _, h, _ => by cases h
  | .int _ :: _, _, _, h, _ => by cases h
  | .tup _ :: _, _, _, h, _ => by cases h
  | .lst _ :: _, _, _, h, _ => by cases h
  | .dic _ :: _, _, _, h, _ => by cases h
  | .ins _ _ :: _, _, _, h, _ => by cases h
  | .cls _ :: _, _, _, h, _ => by cases h
  | .frl _ :: _, _, _, h, _ => by cases h
theorem bools_rep : ∀ {xs : List D} {ns : List Bool} {vs : List V}, allBools xs = some ns → RepDs L O H xs vs → vs = ns.map V.bl
  | [], ns, [], h, _ => by cases h; rfl
  | .bl i :: r, ns, v :: vs, h, ⟨a, b⟩ => by
    obtain ⟨ns', h1, rfl⟩ := mapO_ok (r := allBools r) (k := (i :: ·)) h
    rw [show v = .bl i from a, bools_rep h1 b]; rfl
  | .non :: _, _, _, h, _ => by cases h
  | .str _ :: _, _, _, h, _ => by cases h
  | .int _ :: _, _, _, h, _ => by cases h
  | .tup _ :: _, _, _, h, _ => by cases h
  | .lst _ :: _, _, _, h, _ => by cases h
  | .dic _ :: _, _, _, h, _ => by cases h
  | .ins _ _ :: _, _, _, h, _ => by cases h
  | .cls _ :: _, _, _, h, _ => by cases h
  | .frl _ :: _, _, _, h, _ => by cases h
theorem repD_strs {ns : List (List Nat)} : RepDs L O H (ns.map .str) ((ns.map mkS).map V.str) := by
  induction ns with
  | nil => trivial
  | cons n r ih => exact ⟨rfl, ih⟩
theorem repD_signs {x : List Nat} : RepDs L O H (x.map fun c => .str [c]) (x.map fun c => V.str (mkS [c])) := by
  induction x with
  | nil => trivial
  | cons n r ih => exact ⟨rfl, ih⟩
/-- a reading that hands on m from operands that stand for ds -/
def Gives (L : Lk) (r : List V → Hp → VK → Prop) (ds : List D) (m : M) : Prop := ∀ (qt : Bool) (g f : List Addr) (H : Hp) (env env2 : En) (σ : L2.St) (H2 : Hp) (f2 : List Addr) (vs : List V) (Q : VK),
  Tst L qt g f H env env2 σ H2 f2 → (Paired (fun d v => RepV L (g ++ f2) H2 d v) ds vs) → (∀ v H' fm, Pst L false qt g f H env m env2 σ v H' f2 fm → Q v H') → r vs H2 Q
inductive BiV : Value → Prop where
  | b (id : String) : BiV (.builtin id)
  | t (id : String) : BiV (.type id)
/-- a built-in by its name does what is meant -/
def BiOk (L : Lk) (X : Cx) (n : Str) (ds : List D) (m : M) : Prop := ∃ fv r, bootBuiltins n = some fv ∧ BiV fv ∧ CallR X fv r ∧ Gives L r ds m
theorem Gives.one {r : List V → Hp → VK → Prop} {d : D} {m : M} (h : ∀ (qt : Bool) (g f : List Addr) (H : Hp) (env env2 : En) (σ : L2.St) (H2 : Hp) (f2 : List Addr) (v : V) (Q : VK),
    Tst L qt g f H env env2 σ H2 f2 → RepV L (g ++ f2) H2 d v → (∀ v H' fm, Pst L false qt g f H env m env2 σ v H' f2 fm → Q v H') → r [v] H2 Q) : Gives L r [d] m := by
  intro qt g f H env env2 σ H2 f2 vs Q t p q
  cases p with
  | cons p1 p2 => cases p2; exact h qt g f H env env2 σ H2 f2 _ Q t p1 q
theorem Gives.two {r : List V → Hp → VK → Prop} {d d' : D} {m : M} (h : ∀ (qt : Bool) (g f : List Addr) (H : Hp) (env env2 : En) (σ : L2.St) (H2 : Hp) (f2 : List Addr) (v v' : V) (Q : VK),
    Tst L qt g f H env env2 σ H2 f2 → RepV L (g ++ f2) H2 d v → RepV L (g ++ f2) H2 d' v' → (∀ v H' fm, Pst L false qt g f H env m env2 σ v H' f2 fm → Q v H') → r [v, v'] H2 Q) : Gives L r [d, d'] m := by
  intro qt g f H env env2 σ H2 f2 vs Q t p q
  cases p with
  | cons p1 p2 => cases p2 with
    | cons p3 p4 => cases p4; exact h qt g f H env env2 σ H2 f2 _ _ Q t p1 p3 q
theorem RepV.tu {ds : List D} {v : V} (r : RepV L O H (.tup ds) v) : ∃ a vs, v = .ref a ∧ RdT L O H a vs ∧ RepDs L O H ds vs := by
  cases r with | d h => exact h
theorem RepV.st {x : List Nat} {v : V} (r : RepV L O H (.str x) v) : v = .str (mkS x) := by
  cases r with | d h => exact h
theorem RepV.nt {x : Int} {v : V} (r : RepV L O H (.int x) v) : v = .int x := by
  cases r with | d h => exact h
theorem RepV.bo {x : Bool} {v : V} (r : RepV L O H (.bl x) v) : v = .bl x := by
  cases r with | d h => exact h
theorem RepV.sq {ds : List D} {v : V} (r : RepV L O H (.lst ds) v) : ∃ a vs, v = .ref a ∧ SqL L.K H a vs ∧ RepDs L O H ds vs := by
  obtain ⟨a, vs, e, h, q⟩ := r.ls
  exact ⟨a, vs, e, .of h, q⟩
theorem len_lenV {K : PySem.W.Frag} {a : Addr} {vs : List V} (h : SqL K H a vs ∨ SqT K H a vs) : LenV K (.ref a) H vs.length := h.elim (fun h => .inl ⟨vs, h, rfl⟩) fun h => .inr ⟨vs, h, rfl⟩
theorem call_lenR : CallR X (.builtin "len") (fun xs H Q => ∃ a kvs, xs = [V.ref a] ∧ Rd H a (.dK kvs) ∧ Q (.int kvs.length) H) := by
  intro pins s σ H xs us Q I r h
  obtain ⟨a, kvs, rfl, ha, q⟩ := h
  obtain ⟨u, rfl, ru⟩ := vals1 r
  cases ru
  exact d_len I ha fun t s' I' => ⟨.int kvs.length, H, I', ⟨t, rfl⟩, q⟩
theorem RepDk.len : ∀ {ds : List (Sum Int (List Nat) × D)} {vs : List (Key × V)}, RepDk L O H ds vs → ds.length = vs.length
  | [], [], _ => rfl
  | (_, _) :: _, (_, _) :: _, ⟨_, _, h⟩ => congrArg Nat.succ h.len
theorem log_lt {i : Int} (h : i.natAbs < 2 ^ 1000) : i.natAbs.log2 < 1920 := by
  by_cases z : i.natAbs = 0
  · rw [z]; decide
  · exact Nat.lt_of_lt_of_le ((Nat.log2_lt z).mpr h) (by decide)
theorem intDec_eq (i : Int) : mkS (intDec i) = (toString i : Str) := (PySem.Str.ofString_eq_toList _).symm
theorem bi_ok {mu : Bool} {b : Bi} {ds : List D} {m : M} {n : Str} (c : Cok L T R C X) (hn : biName b = some n) (h : semBi mu b ds = some m) : BiOk L X n ds m := by
  have K := c.K
  unfold semBi at h
  split at h <;> first | (cases h; done) | (cases hn; done) | skip
  · -- len of a text
    cases hn
    split at h
    · rename_i x hz
      cases h
      refine ⟨_, _, PySem.boot_len, .b _, call_len, Gives.one fun qt g f H env env2 σ H2 f2 v Q t r q => ?_⟩
      refine ⟨v, x.length, rfl, ?_, q _ _ _ (t.pure rfl)⟩
      rw [r.st]
      exact ⟨by rw [PySem.sizeLine_eq, mkS_len]; exact hz, (mkS_len _).symm⟩
    · cases h
  · cases hn; cases h
    rename_i x
    refine ⟨_, _, PySem.boot_len, .b _, call_len, Gives.one fun qt g f H env env2 σ H2 f2 v Q t r q => ?_⟩
    obtain ⟨a, vs, e, hs, rd⟩ := r.sq
    subst e
    refine ⟨_, x.length, rfl, ?_, q _ _ _ (t.pure rfl)⟩
    rw [rd.len, K]; exact len_lenV (.inl hs)
  · cases hn; cases h
    rename_i x
    refine ⟨_, _, PySem.boot_len, .b _, call_len, Gives.one fun qt g f H env env2 σ H2 f2 v Q t r q => ?_⟩
    obtain ⟨a, vs, e, hs, rd⟩ := r.tu
    subst e
    refine ⟨_, x.length, rfl, ?_, q _ _ _ (t.pure rfl)⟩
    rw [rd.len, K]; exact len_lenV (.inr hs.sq)
  · cases hn; cases h
    rename_i x
    refine ⟨_, _, PySem.boot_len, .b _, call_lenR, Gives.one fun qt g f H env env2 σ H2 f2 v Q t r q => ?_⟩
    cases r with
    | d h =>
      obtain ⟨a, vs, e, n, hr, rk⟩ := h
      exact ⟨a, vs, by rw [e], hr, q _ _ _ (t.pure (by rw [rk.len]; rfl))⟩
  · cases hn; cases h
    rename_i a b
    refine ⟨_, _, boot_min, .b _, call_min2 c.calm, Gives.two fun qt g f H env env2 σ H2 f2 v v' Q t r r' q => ?_⟩
    exact ⟨a, b, by rw [r.nt, r'.nt], q _ _ _ (t.pure rfl)⟩
  · cases hn; cases h
    rename_i a b
    refine ⟨_, _, boot_max, .b _, call_max2 c.calm, Gives.two fun qt g f H env env2 σ H2 f2 v v' Q t r r' q => ?_⟩
    exact ⟨a, b, by rw [r.nt, r'.nt], q _ _ _ (t.pure rfl)⟩
  · cases hn; cases h
    rename_i a b
    refine ⟨_, _, boot_min, .b _, call_min2S c.calm, Gives.two fun qt g f H env env2 σ H2 f2 v v' Q t r r' q => ?_⟩
    exact ⟨a, b, by rw [r.st, r'.st], q _ _ _ (t.pure rfl)⟩
  · cases hn; cases h
    rename_i a b
    refine ⟨_, _, boot_max, .b _, call_max2S c.calm, Gives.two fun qt g f H env env2 σ H2 f2 v v' Q t r r' q => ?_⟩
    exact ⟨a, b, by rw [r.st, r'.st], q _ _ _ (t.pure rfl)⟩
  · cases hn
    split at h
    · cases h
      refine ⟨_, _, PyProof.Rows.boot_list, .t _, call_list_of, Gives.one fun qt g f H env env2 σ H2 f2 v Q t r q => ?_⟩
      obtain ⟨a, vs, e, hs, rd⟩ := r.sq
      rw [← K] at hs
      refine ⟨a, vs, by rw [e], .inl hs, fun l nl => ?_⟩
      obtain ⟨fm, z⟩ := t.list mu nl rd
      exact q _ _ _ z
    · cases h
      refine ⟨_, _, PyProof.Rows.boot_list, .t _, call_list_of, Gives.one fun qt g f H env env2 σ H2 f2 v Q t r q => ?_⟩
      obtain ⟨a, vs, e, hs, rd⟩ := r.tu
      have hs := hs.sq
      rw [← K] at hs
      refine ⟨a, vs, by rw [e], .inr hs, fun l nl => ?_⟩
      obtain ⟨fm, z⟩ := t.list mu nl rd
      exact q _ _ _ z
    · split at h
      · rename_i x hz
        cases h
        refine ⟨_, _, PyProof.Rows.boot_list, .t _, call_listS c.calm, Gives.one fun qt g f H env env2 σ H2 f2 v Q t r q => ?_⟩
        refine ⟨x, by rw [r.st], by rw [PySem.sizeLine_eq]; exact hz, fun l nl => ?_⟩
        obtain ⟨fm, z⟩ := t.list mu nl repD_signs
        exact q _ _ _ z
      · cases h
    · cases h
  · cases hn
    split at h
    · cases h
      refine ⟨_, _, PyProof.Rows.boot_tuple, .t _, call_tuple_of, Gives.one fun qt g f H env env2 σ H2 f2 v Q t r q => ?_⟩
      obtain ⟨a, vs, e, hs, rd⟩ := r.sq
      rw [← K] at hs
      exact ⟨a, vs, by rw [e], .inl ⟨hs, fun l nl => q _ _ _ (t.tup nl rd)⟩⟩
    · cases h
      refine ⟨_, _, PyProof.Rows.boot_tuple, .t _, call_tuple_of, Gives.one fun qt g f H env env2 σ H2 f2 v Q t r q => ?_⟩
      obtain ⟨a, vs, e, hs, rd⟩ := r.tu
      have hs' := hs.sq
      rw [← K] at hs'
      exact ⟨a, vs, by rw [e], .inr ⟨hs', q _ _ _ (t.pure ⟨a, vs, rfl, hs, rd⟩)⟩⟩
    · cases h
  · cases hn
    obtain ⟨bs, hb, e⟩ := mapO_ok h
    subst e
    refine ⟨_, _, (by decide +kernel : bootBuiltins "all" = some (.builtin "all")), .b _, cr_all c.calm, Gives.one fun qt g f H env env2 σ H2 f2 v Q t r q => ?_⟩
    obtain ⟨a, vs, e, hs, rd⟩ := r.sq
    rw [← K, bools_rep hb rd] at hs
    exact ⟨a, bs, by rw [e], hs, q _ _ _ (t.pure rfl)⟩
  · cases hn
    obtain ⟨bs, hb, e⟩ := mapO_ok h
    subst e
    refine ⟨_, _, (by decide +kernel : bootBuiltins "any" = some (.builtin "any")), .b _, cr_any c.calm, Gives.one fun qt g f H env env2 σ H2 f2 v Q t r q => ?_⟩
    obtain ⟨a, vs, e, hs, rd⟩ := r.sq
    rw [← K, bools_rep hb rd] at hs
    exact ⟨a, bs, by rw [e], hs, q _ _ _ (t.pure rfl)⟩
  · cases hn; cases h
    rename_i i
    refine ⟨_, _, PyProof.Rows.boot_int, .t _, call_int1, Gives.one fun qt g f H env env2 σ H2 f2 v Q t r q => ?_⟩
    exact .inl ⟨i, by rw [r.nt], q _ _ _ (t.pure rfl)⟩
  · cases hn; cases h
    rename_i i
    refine ⟨_, _, PyProof.Rows.boot_int, .t _, call_int1, Gives.one fun qt g f H env env2 σ H2 f2 v Q t r q => ?_⟩
    exact .inr ⟨i, by rw [r.bo], q _ _ _ (t.pure rfl)⟩
  · cases hn; cases h
    rename_i x
    refine ⟨_, _, PyProof.Rows.boot_str, .t _, SkE.call_str_str, Gives.one fun qt g f H env env2 σ H2 f2 v Q t r q => ?_⟩
    exact ⟨mkS x, by rw [r.st], q _ _ _ (t.pure rfl)⟩
  · cases hn
    split at h
    · rename_i i hz
      cases h
      refine ⟨_, _, (by decide +kernel : bootBuiltins "repr" = some (.builtin "repr")), .b _, SkE.call_repr_int, Gives.one fun qt g f H env env2 σ H2 f2 v Q t r q => ?_⟩
      exact ⟨i, by rw [r.nt], log_lt hz, q _ _ _ (t.pure (by rw [← intDec_eq]; rfl))⟩
    · cases h
  · cases hn
    split at h
    · rename_i i hz
      cases h
      refine ⟨_, _, PyProof.Rows.boot_str, .t _, call_str_int, Gives.one fun qt g f H env env2 σ H2 f2 v Q t r q => ?_⟩
      exact ⟨i, by rw [r.nt], log_lt hz, q _ _ _ (t.pure (by rw [← intDec_eq]; rfl))⟩
    · cases h
  · cases hn
    rename_i xs
    split at h
    · rename_i ns hns
      cases h
      refine ⟨_, _, (by decide +kernel : bootBuiltins "sorted" = some (.builtin "sorted")), .b _, cr_sortedI, Gives.one fun qt g f H env env2 σ H2 f2 v Q t r q => ?_⟩
      obtain ⟨a, vs, e, hs, rd⟩ := r.sq
      rw [← K, ints_rep hns rd] at hs
      refine ⟨a, ns, by rw [e], hs, fun ns' p hp hw np => ?_⟩
      have e2 := sortI_uniq hp hw
      subst e2
      obtain ⟨fm, z⟩ := t.list mu np (repD_ints (ns := sortI ns))
      exact q _ _ _ z
    · rename_i ss hnn hss
      split at h
      · rename_i hz
        cases h
        refine ⟨_, _, (by decide +kernel : bootBuiltins "sorted" = some (.builtin "sorted")), .b _, cr_sortedS, Gives.one fun qt g f H env env2 σ H2 f2 v Q t r q => ?_⟩
        obtain ⟨a, vs, e, hs, rd⟩ := r.sq
        rw [← K, strs_rep hss rd] at hs
        refine ⟨a, ss.map mkS, by rw [e], hs, by simpa using hz, fun ys p hp hw np => ?_⟩
        have e2 : ys.map unS = sortS ss := by
          refine sortS_uniq ?_ (List.pairwise_map.mpr (sortedS_pw hw))
          have := hp.map unS
          rw [List.map_map, show (unS ∘ mkS) = id from funext unS_mkS, List.map_id] at this
          exact this
        have e3 : ys = (sortS ss).map mkS := by
          rw [← e2, List.map_map, show (mkS ∘ unS) = id from funext mkS_unS, List.map_id]
        subst e3
        obtain ⟨fm, z⟩ := t.list mu np (repD_strs (ns := sortS ss))
        exact q _ _ _ z
      · cases h
    · split at h
      · rename_i ts hts
        split at h
        · rename_i hok
          cases h
          obtain ⟨h64, dd, hd1, hk⟩ := tupsOk_of hok
          refine ⟨_, _, (by decide +kernel : bootBuiltins "sorted" = some (.builtin "sorted")), .b _, cr_sortT (B := 1000000) hd1, Gives.one fun qt g f H env env2 σ H2 f2 v Q t r q => ?_⟩
          obtain ⟨a, vs, e, hs, rd⟩ := r.sq
          obtain ⟨as, ev, hp⟩ := tups_rep hts rd
          obtain ⟨l, e1, e2, hl⟩ := paired_zip hp
          subst ev
          have hs' := hs
          rw [← K] at hs
          have hlen : as.length = ts.length := by rw [← e1, ← e2]; simp
          have tI : ∀ q ∈ l, TupI X.K H2 (V.ref q.1) q.2 := fun q hq => ⟨q.1, rfl, by rw [K]; exact (hl q hq).sq⟩
          refine ⟨a, as.map V.ref, by rw [e], hs, by simpa [hlen] using h64, fun x hx => ?_, fun ys p hperm hpw np => ?_⟩
          · rw [← e1, List.map_map] at hx
            obtain ⟨qq, hq, ex⟩ := List.mem_map.mp hx
            subst ex
            have hm : qq.2 ∈ ts := by rw [← e2]; exact List.mem_map_of_mem hq
            exact ⟨qq.2, tI qq hq, (hk _ hm).1, (hk _ hm).2⟩
          · obtain ⟨l', pl, el⟩ := perm_lift (f := fun q : Addr × List Int => V.ref q.1) hperm (l := l) (by rw [← e1, List.map_map]; rfl)
            have hl' : ∀ q ∈ l', RdT L (g ++ f2) H2 q.1 (q.2.map V.int) := fun q hq => hl q (pl.mem_iff.mp hq)
            have es : l'.map (·.2) = sortT ts := by
              refine sortT_uniq hk (by rw [← e2]; exact pl.map _) ?_
              rw [← el, List.pairwise_map] at hpw
              rw [List.pairwise_map]
              exact List.Pairwise.imp_of_mem (fun {a b} ha hb h => h _ _ (tI a (pl.mem_iff.mp ha)) (tI b (pl.mem_iff.mp hb))) hpw
            have pz := zip_paired (P := fun a (t : List Int) => RdT L (g ++ f2) H2 a (t.map V.int)) hl'
            rw [es] at pz
            have rd2 := repD_tups pz
            rw [List.map_map] at rd2
            have rd2 : RepDs L (g ++ f2) H2 (tupD (sortT ts)) ys := by rw [← el]; exact rd2
            obtain ⟨fm, z⟩ := t.list mu np rd2
            exact q _ _ _ z
        · cases h
      · cases h
  · cases hn
    obtain ⟨is, his, h⟩ := bindO_ok h
    obtain ⟨i, hi, rfl⟩ := mapO_ok h
    refine ⟨_, _, boot_min, .b _, cr_minA c.calm, Gives.one fun qt g f H env env2 σ H2 f2 v Q t r q => ?_⟩
    obtain ⟨a, vs, e, hs, rd⟩ := r.tu
    have hs := hs.sq
    rw [← K, ints_rep his rd] at hs
    refine ⟨a, is, by rw [e], .inr hs, (minI_ok hi).1, fun k k1 k2 => ?_⟩
    rw [(minI_ok hi).2 k k1 k2]
    exact q _ _ _ (t.pure rfl)
  · cases hn
    obtain ⟨is, his, h⟩ := bindO_ok h
    obtain ⟨i, hi, rfl⟩ := mapO_ok h
    refine ⟨_, _, boot_min, .b _, cr_minA c.calm, Gives.one fun qt g f H env env2 σ H2 f2 v Q t r q => ?_⟩
    obtain ⟨a, vs, e, hs, rd⟩ := r.sq
    rw [← K, ints_rep his rd] at hs
    refine ⟨a, is, by rw [e], .inl hs, (minI_ok hi).1, fun k k1 k2 => ?_⟩
    rw [(minI_ok hi).2 k k1 k2]
    exact q _ _ _ (t.pure rfl)
  · cases hn
    obtain ⟨is, his, h⟩ := bindO_ok h
    obtain ⟨i, hi, rfl⟩ := mapO_ok h
    refine ⟨_, _, boot_max, .b _, cr_maxA c.calm, Gives.one fun qt g f H env env2 σ H2 f2 v Q t r q => ?_⟩
    obtain ⟨a, vs, e, hs, rd⟩ := r.tu
    have hs := hs.sq
    rw [← K, ints_rep his rd] at hs
    refine ⟨a, is, by rw [e], .inr hs, (maxI_ok hi).1, fun k k1 k2 => ?_⟩
    rw [(maxI_ok hi).2 k k1 k2]
    exact q _ _ _ (t.pure rfl)
  · cases hn
    obtain ⟨is, his, h⟩ := bindO_ok h
    obtain ⟨i, hi, rfl⟩ := mapO_ok h
    refine ⟨_, _, boot_max, .b _, cr_maxA c.calm, Gives.one fun qt g f H env env2 σ H2 f2 v Q t r q => ?_⟩
    obtain ⟨a, vs, e, hs, rd⟩ := r.sq
    rw [← K, ints_rep his rd] at hs
    refine ⟨a, is, by rw [e], .inl hs, (maxI_ok hi).1, fun k k1 k2 => ?_⟩
    rw [(maxI_ok hi).2 k k1 k2]
    exact q _ _ _ (t.pure rfl)
/-- f(e, ..), f a built-in by its name -/
theorem pe_biA {n : Str} {e : Expr} {es : List Expr} {p pos : Pos} {t : TA} {r : List V → Hp → VK → Prop} {fv : Value} (hb : BiV fv) (hv : bootBuiltins n = some fv) (hc : CallR X fv r) (hg : Gl X n) (hm : X.mg n = none) (ha : PA X (e :: es) t) (hs : noStars (e :: es) = true)
    (hn : n ≠ "__name__") (hdb : (n == ("__debug__" : Str)) = false) : PE X (.Call (.Name n p) (e :: es) [] pos) (tCB r t) := by
  have hs' : (noStar e && noStars es) = true := hs
  rw [Bool.and_eq_true] at hs'
  cases hb with
  | b id => exact pe_callB hc hg hm hv ha hn hdb (star_cons hs'.1) (star_none hs'.2)
  | t id => exact pe_callTy hc hg hm hv ha hn hdb (star_cons hs'.1) (star_none hs'.2)
theorem biName_ne {b : Bi} {n : Str} (h : biName b = some n) : n ≠ "__name__" := by
  cases b <;> cases h <;> decide
theorem biName_mem {b : Bi} {n : Str} (h : biName b = some n) : n ∈ biNames := by
  cases b <;> cases h <;> simp [biNames]
theorem snd_bi (mu : Bool) (b : Bi) (a : Ex) (ha : Snd L T R a) : Snd L T R (.bi mu b a) := by
  have hE : ∀ C e, (ck T (.bi mu b a)).e C e = true → ∀ X, Cok L T R C X → PE X e (tE L R (.bi mu b a)) := by
    intro C e h X c
    cases e with
    | Call fe es ks pos =>
      cases fe with
      | Name n p =>
        cases ks with
        | cons _ _ => cases es with
          | nil => cases h
          | cons _ es => cases es <;> cases h
        | nil =>
          cases es with
          | nil => cases h
          | cons x es =>
            cases es with
            | cons _ _ => cases h
            | nil =>
              have h : (decide (biName b = some n) && glB C n && noStar x && (ck T a).e C x) = true := h
              simp only [Bool.and_eq_true, decide_eq_true_eq] at h
              obtain ⟨⟨⟨h1, h2⟩, h3⟩, h4⟩ := h
              obtain ⟨h2, h2'⟩ := gl_of c h2
              obtain ⟨k, gd, hro⟩ := c.gd
              refine ⟨fun pins s σ H Q I hq => ?_⟩
              obtain ⟨g, f, env, m, env', hE, hm, q⟩ := hq
              obtain ⟨x0, env1, hx0, hm2⟩ := bind_ok hm
              obtain ⟨hm3, e1⟩ := lift_ok hm2
              subst e1
              obtain ⟨d, hd, hm4⟩ := bindO_ok hm3
              obtain ⟨fv, r, b1, b2, b3, b4⟩ := bi_ok c h1 hm4
              refine (pe_biA b2 b1 b3 h2 (gd.free n (biName_mem h1)) (pa_cons (ha.e C x h4 X c) pa_nil (star_cons h3)) (by show (noStar x && true) = true; rw [h3]; rfl) (biName_ne h1) h2').run pins s σ H Q I ?_
              exact tE_one hE hx0 fun va H1 f1 t r => b4 _ _ _ _ _ _ _ _ _ _ Q t (.cons (r d hd) .nil) fun v H' fm p => q v H' f1 fm p
      | _ => cases h
    | _ => cases h
  refine ⟨hE, fun C e h X c => ?_⟩
  refine pt_plain c (hE C e h X c) rfl ?_
  cases e with
  | Call _ _ _ _ => exact fun _ => rfl
  | _ => cases h
theorem snd_bi2 (mu : Bool) (b : Bi) (a a2 : Ex) (ha : Snd L T R a) (ha2 : Snd L T R a2) : Snd L T R (.bi2 mu b a a2) := by
  have hE : ∀ C e, (ck T (.bi2 mu b a a2)).e C e = true → ∀ X, Cok L T R C X → PE X e (tE L R (.bi2 mu b a a2)) := by
    intro C e h X c
    cases e with
    | Call fe es ks pos =>
      cases fe with
      | Name n p =>
        cases ks with
        | cons _ _ => cases es with
          | nil => cases h
          | cons _ es => cases es with
            | nil => cases h
            | cons _ es => cases es <;> cases h
        | nil =>
          cases es with
          | nil => cases h
          | cons x es =>
            cases es with
            | nil => cases h
            | cons y es =>
              cases es with
              | cons _ _ => cases h
              | nil =>
                have h : (decide (biName b = some n) && glB C n && noStar x && noStar y && alOk a a2 && (ck T a).e C x && (ck T a2).e C y) = true := h
                simp only [Bool.and_eq_true, decide_eq_true_eq] at h
                obtain ⟨⟨⟨⟨⟨⟨h1, h2⟩, h3⟩, h3'⟩, h5⟩, h4⟩, h4'⟩ := h
                obtain ⟨h2, h2'⟩ := gl_of c h2
                obtain ⟨k, gd, hro⟩ := c.gd
                refine ⟨fun pins s σ H Q I hq => ?_⟩
                obtain ⟨g, f, env, m, env', hE, hm, q⟩ := hq
                obtain ⟨x0, env1, hx0, hm2⟩ := bind_ok hm
                obtain ⟨y0, env2, hy0, hm2'⟩ := bind_ok hm2
                obtain ⟨hm3, e1⟩ := lift_ok hm2'
                subst e1
                obtain ⟨d, hd, hm4⟩ := bindO_ok hm3
                obtain ⟨d', hd', hm5⟩ := bindO_ok hm4
                obtain ⟨fv, r, b1, b2, b3, b4⟩ := bi_ok c h1 hm5
                refine (pe_biA b2 b1 b3 h2 (gd.free n (biName_mem h1)) (pa_cons (ha.e C x h4 X c) (pa_cons (ha2.e C y h4' X c) pa_nil (star_cons h3')) (star_cons h3)) (by show (noStar x && (noStar y && true)) = true; rw [h3, h3']; rfl) (biName_ne h1) h2').run pins s σ H Q I ?_
                exact tE_two h5 hE hx0 hy0 fun va vb H1 f1 t r r' => b4 _ _ _ _ _ _ _ _ _ _ Q t (.cons (r d hd) (.cons (r' d' hd') .nil)) fun v H' fm p => q v H' f1 fm p
      | _ => cases h
    | _ => cases h
  refine ⟨hE, fun C e h X c => ?_⟩
  refine pt_plain c (hE C e h X c) rfl ?_
  cases e with
  | Call _ _ _ _ => exact fun _ => rfl
  | _ => cases h
end
end FB

set_option Elab.async false
set_option linter.all false
set_option maxRecDepth 10000
/-! FbIsi: isinstance; join; f-strings. -/
namespace FB
open PySem PySem.Spec PyProof.Rows L2 StX
section
variable {L : Lk} {T : Tx} {R : Rt} {C : Sc} {X : Cx}
variable {g f f1 f2 : List Addr} {H H1 H2 H' : Hp} {env env1 env2 : En} {σ : L2.St} {qt : Bool} {O O' : List Addr}
def kindT : Nat → String
  | 0 => "NoneType" | 1 => "bool" | 2 => "int" | 3 => "str" | 4 => "list" | 5 => "tuple" | _ => "dict"
/-- the type of a datum -/
theorem kind_ty {m : M} {n : Nat} {v : V} {fm : List Addr} (h : kindM m = some n) (r : RepM L O H m v fm) (it : ∀ c, InsT L.K (L.cls c)) : (n ≠ 7 ∧ kindT n ∈ tyNames ∧ TyX L.K H v (.type (kindT n))) ∨ (n = 7 ∧ ∃ c, clsOf m = some c ∧ TyX L.K H v (.ref (L.cls c))) := by
  cases m with
  | lst ms =>
    cases h
    obtain ⟨a, vs, gg, e, _, hh, _⟩ := r
    subst e
    exact .inl ⟨by decide, by decide, .base (.lst hh)⟩
  | ins c fs =>
    cases h
    obtain ⟨a, dx, vs, gg, e, _, hh, hc, _⟩ := r
    subst e
    exact .inr ⟨rfl, c, rfl, .base (.ins hh hc (it c).ha (it c).hn (it c).htk (it c).hm)⟩
  | pure d =>
    obtain ⟨_, r⟩ := r
    cases d with
    | non => cases h; rw [show v = .non from r]; exact .inl ⟨by decide, by decide, .base .non⟩
    | bl b => cases h; rw [show v = .bl b from r]; exact .inl ⟨by decide, by decide, .base (.bl b)⟩
    | int i => cases h; rw [show v = .int i from r]; exact .inl ⟨by decide, by decide, .base (.int i)⟩
    | str x => cases h; rw [show v = .str (mkS x) from r]; exact .inl ⟨by decide, by decide, .base (.str _)⟩
    | tup ds =>
      cases h
      obtain ⟨a, vs, e, hr, _⟩ := r
      subst e
      refine .inl ⟨by decide, by decide, ?_⟩
      rcases hr with ⟨_, hr | ⟨o, hr⟩⟩ | ⟨o, its, k, h1, h2, _⟩
      · exact .base (.tup hr)
      · exact .fTuple hr
      · exact .kTuple h1 h2
    | lst ds =>
      cases h
      obtain ⟨a, vs, e, hr, _⟩ := r
      subst e
      exact .inl ⟨by decide, by decide, .base (.lst hr.2)⟩
    | dic kvs =>
      cases h
      obtain ⟨a, vs, e, _, hr, _⟩ := r
      subst e
      refine .inl ⟨by decide, by decide, ?_⟩
      rcases hr with hr | ⟨o, hr⟩
      · exact .base (.dK hr)
      · exact .fDict hr
    | ins c fs =>
      cases h
      obtain ⟨a, dx, vs, e, _, hh, hc, _⟩ := r
      subst e
      exact .inr ⟨rfl, c, rfl, .base (.ins hh hc (it c).ha (it c).hn (it c).htk (it c).hm)⟩
    | cls _ => cases h
    | frl _ => cases h
theorem pe_tyN {n : Str} {t : String} {pos : Pos} (hg : Gl X n) (hm : X.mg n = none) (hv : bootBuiltins n = some (.type t)) (hn : n ≠ "__name__") (hd : (n == ("__debug__" : Str)) = false) : PE X (.Name n pos) (tC (.ty t)) := by
  refine ⟨fun pins s σ H Q I h => ?_⟩
  exact ld_blt I hg hm hv ⟨.ty t, H, I, rfl, h⟩ hn hd
def isbT : Nat → String
  | 0 => "int" | 1 => "bool" | 2 => "str" | 3 => "list" | 4 => "tuple" | _ => "dict"
def isbK (k n : Nat) : Option Bool := match k with
  | 0 => some (n == 2 || n == 1)
  | 1 => some (n == 1)
  | 2 => some (n == 3)
  | 3 => some (n == 4)
  | 4 => some (n == 5)
  | 5 => some (n == 6)
  | 6 => some (n == 4 || n == 5)
  | _ => none
theorem isbM_eq (k : Nat) (x : M) : isbM k x = (kindM x).bind (isbK k) := rfl
theorem isb_kit {k n : Nat} {b : Bool} {x : M} (hk : isbN k ≠ none) (hx : kindM x = some n) (h : isbM k x = some b) (hn : n ≠ 7) : PySem.W.kitOne L.K (.type (kindT n)) (.type (isbT k)) = some b := by
  have hn6 : n ≤ 6 := by
    cases x with
    | lst _ => cases hx; decide
    | ins _ _ => cases hx; exact absurd rfl hn
    | pure d => cases d <;> cases hx <;> first | decide | exact absurd rfl hn
  have hk5 : k ≤ 5 := by
    rcases k with _ | _ | _ | _ | _ | _ | k
    all_goals first | omega | exact absurd rfl hk
  rw [isbM_eq, hx] at h
  have h' : isbK k n = some b := h
  refine kit_ty ?_
  have all : ∀ k ≤ 5, ∀ n ≤ 6, kitB (kindT n) (isbT k) = isbK k n := by decide +kernel
  rw [all k hk5 n hn6]
  exact h'
theorem isb_name {k : Nat} {n : Str} (h : isbN k = some n) : n ∈ biNames ∧ bootBuiltins n = some (.type (isbT k)) ∧ n ≠ "__name__" := by
  have hk5 : k ≤ 5 := by
    rcases k with _ | _ | _ | _ | _ | _ | k
    all_goals first | omega | cases h
  have all : ∀ k ≤ 5, ∀ n, isbN k = some n → n ∈ biNames ∧ bootBuiltins n = some (.type (isbT k)) ∧ n ≠ "__name__" := by
    intro k hk n hn
    rcases k with _ | _ | _ | _ | _ | _ | k
    all_goals first | omega | (cases hn; exact ⟨by simp [biNames], by decide +kernel, by decide⟩)
  exact all k hk5 n h
theorem boot_isi : bootBuiltins "isinstance" = some (.builtin "isinstance") := by decide +kernel
theorem isbM_kind {k : Nat} {x : M} {b : Bool} (h : isbM k x = some b) : ∃ n, kindM x = some n := by
  rw [isbM_eq] at h
  obtain ⟨n, h1, _⟩ := bindO_ok h
  exact ⟨n, h1⟩
theorem isbM_ins {k : Nat} {x : M} {b : Bool} (hk : isbN k ≠ none) (hx : kindM x = some 7) (h : isbM k x = some b) : b = false := by
  rw [isbM_eq, hx] at h
  have h : isbK k 7 = some b := h
  rcases k with _ | _ | _ | _ | _ | _ | k
  all_goals first | (cases h; rfl) | exact absurd rfl hk
theorem isbT_mem (k : Nat) : isbT k ∈ tyNames := by
  rcases k with _ | _ | _ | _ | _ | k
  all_goals first | decide | (show "dict" ∈ tyNames; decide)
/-- isinstance(x, T) of a datum -/
theorem isb_rd {k : Nat} {b : Bool} {x : M} {v : V} {fm : List Addr} {G : Rt} {kk : Nat} {prog : Program} {w : World} {mg : Str → Option Value} {base : Heap} (gd : Gd L T G prog w mg base kk) (hk : isbN k ≠ none) (h : isbM k x = some b) (r : RepM L O H x v fm) :
    ∃ t, TyX L.K H v t ∧ PySem.W.kitOne L.K t (.type (isbT k)) = some b := by
  obtain ⟨n, hn⟩ := isbM_kind h
  rcases kind_ty hn r gd.insT with ⟨n7, _, ty⟩ | ⟨n7, c, _, ty⟩
  · exact ⟨_, ty, isb_kit hk hn h n7⟩
  · subst n7
    rw [isbM_ins hk hn h]
    exact ⟨_, ty, gd.subI _ (isbT_mem k) c⟩
theorem isi_rd {ci : Nat} {b : Bool} {x : M} {v : V} {fm : List Addr} {G : Rt} {kk : Nat} {prog : Program} {w : World} {mg : Str → Option Value} {base : Heap} (gd : Gd L T G prog w mg base kk) (h : isiM G ci x = some b) (r : RepM L O H x v fm) :
    ∃ t, TyX L.K H v t ∧ PySem.W.kitOne L.K t (.ref (L.cls ci)) = some b := by
  unfold isiM at h
  cases hc : clsOf x with
  | some c' =>
    rw [hc] at h
    have h : G.sub c' ci = b := Option.some.inj h
    have hn : kindM x = some 7 := by
      cases x with
      | lst _ => cases hc
      | ins _ _ => rfl
      | pure d => cases d <;> first | rfl | cases hc
    rcases kind_ty hn r gd.insT with ⟨n7, _, _⟩ | ⟨_, c, e, ty⟩
    · exact absurd rfl n7
    · rw [hc] at e
      cases e
      exact ⟨_, ty, h ▸ gd.sub c' ci⟩
  | none =>
    rw [hc] at h
    obtain ⟨n, hn, e⟩ := mapO_ok h
    subst e
    rcases kind_ty hn r gd.insT with ⟨n7, hm, ty⟩ | ⟨_, c, e, _⟩
    · exact ⟨_, ty, gd.subT _ hm ci⟩
    · rw [hc] at e; cases e
theorem snd_isi (ci : Nat) (a : Ex) (ha : Snd L T R a) : Snd L T R (.isi ci a) := by
  have hE : ∀ C e, (ck T (.isi ci a)).e C e = true → ∀ X, Cok L T R C X → PE X e (tE L R (.isi ci a)) := by
    intro C e h X c
    unfold ck at h
    dsimp only [Ck.of] at h
    split at h
    · rename_i fn p x n p2 pos
      simp only [Bool.and_eq_true, decide_eq_true_eq] at h
      obtain ⟨⟨⟨⟨⟨h1, h2⟩, h3⟩, h4⟩, h5⟩, h6⟩ := h
      subst h1
      obtain ⟨h2, h2'⟩ := gl_of c h2
      obtain ⟨h5, h5'⟩ := gl_of c h5
      obtain ⟨k, gd, hro⟩ := c.gd
      have gc := gd.cls ci
      rw [← h4] at gc
      have pc : PE X (.Name n p2) (tC (.ref (L.cls ci))) := pe_glob h5 gc (show RelV (.ref (L.cls ci)) _ from rfl) h5'
      refine ⟨fun pins s σ H Q I hq => ?_⟩
      obtain ⟨g, f, env, m, env', hE, hm, q⟩ := hq
      obtain ⟨x0, env1, hx0, hm2⟩ := bind_ok hm
      obtain ⟨hm3, e1⟩ := lift_ok hm2
      subst e1
      obtain ⟨b, hb, hm4⟩ := mapO_ok hm3
      subst hm4
      refine (pe_biA (.b _) boot_isi call_isi h2 (gd.free _ (by simp [biNames])) (pa_cons (ha.e C x h6 X c) (pa_cons pc pa_nil) (star_cons h3)) (by show (noStar x && (noStar (.Name n p2) && true)) = true; rw [h3]; rfl) (by decide) h2').run pins s σ H Q I ?_
      refine ⟨g, f, env, x0, _, hE, hx0, fun va H1 f1 fa pa => ?_⟩
      obtain ⟨t, ty, kit⟩ := isi_rd gd hb pa.rep
      rw [← c.K] at ty kit
      exact ⟨va, .ref (L.cls ci), t, .ref (L.cls ci), b, rfl, .own _, ty, kit, q _ _ _ _ (pa.tst.pure rfl)⟩
    · cases h
  refine ⟨hE, fun C e h X c => ?_⟩
  refine pt_plain c (hE C e h X c) rfl ?_
  cases e with
  | Call _ _ _ _ => exact fun _ => rfl
  | _ => cases h
theorem isb6 {n : Nat} {b : Bool} {x : M} (hx : kindM x = some n) (h : isbM 6 x = some b) : b = (n == 4 || n == 5) := by
  rw [isbM_eq, hx] at h
  exact (Option.some.inj h).symm
theorem kit_any6 {t : Value} {b1 b2 : Bool} (h1 : PySem.W.kitOne L.K t (.type "list") = some b1) (h2 : PySem.W.kitOne L.K t (.type "tuple") = some b2) : PySem.W.kitAny L.K t [.type "list", .type "tuple"] = some (b1 || b2) := by
  refine kitAny_cons h1 (fun e => ?_) fun e => by rw [e]; rfl
  subst e
  refine kitAny_cons h2 (fun e => ?_) fun e => by rw [e]; rfl
  subst e
  rfl
theorem snd_isb (k : Nat) (a : Ex) (ha : Snd L T R a) : Snd L T R (.isb k a) := by
  have hE : ∀ C e, (ck T (.isb k a)).e C e = true → ∀ X, Cok L T R C X → PE X e (tE L R (.isb k a)) := by
    intro C e h X c
    unfold ck at h
    dsimp only [Ck.of] at h
    split at h
    · rename_i fn p x n p2 pos
      simp only [Bool.and_eq_true, decide_eq_true_eq] at h
      obtain ⟨⟨⟨⟨⟨h1, h2⟩, h3⟩, h4⟩, h5⟩, h6⟩ := h
      subst h1
      obtain ⟨h2, h2'⟩ := gl_of c h2
      obtain ⟨h5, h5'⟩ := gl_of c h5
      obtain ⟨kk, gd, hro⟩ := c.gd
      obtain ⟨b1, b2, b3⟩ := isb_name h4
      have pc : PE X (.Name n p2) (tC (.ty (isbT k))) := pe_tyN h5 (gd.free n b1) b2 b3 h5'
      refine ⟨fun pins s σ H Q I hq => ?_⟩
      obtain ⟨g, f, env, m, env', hE, hm, q⟩ := hq
      obtain ⟨x0, env1, hx0, hm2⟩ := bind_ok hm
      obtain ⟨hm3, e1⟩ := lift_ok hm2
      subst e1
      obtain ⟨b, hb, hm4⟩ := mapO_ok hm3
      subst hm4
      refine (pe_biA (.b _) boot_isi call_isi h2 (gd.free _ (by simp [biNames])) (pa_cons (ha.e C x h6 X c) (pa_cons pc pa_nil) (star_cons h3)) (by show (noStar x && (noStar (.Name n p2) && true)) = true; rw [h3]; rfl) (by decide) h2').run pins s σ H Q I ?_
      refine ⟨g, f, env, x0, _, hE, hx0, fun va H1 f1 fa pa => ?_⟩
      obtain ⟨t, ty, kit⟩ := isb_rd gd (by rw [h4]; exact fun z => nomatch z) hb pa.rep
      rw [← c.K] at ty kit
      exact ⟨va, .ty (isbT k), t, .type (isbT k), b, rfl, .ty _, ty, kit, q _ _ _ _ (pa.tst.pure rfl)⟩
    · rename_i fn p x n1 p1 n2 p2 tk tp pos
      simp only [Bool.and_eq_true, decide_eq_true_eq] at h
      obtain ⟨⟨⟨⟨⟨⟨⟨⟨h1, h2⟩, h3⟩, h4⟩, h5⟩, h6⟩, h7⟩, h8⟩, h9⟩ := h
      subst h1 h4 h5 h6
      obtain ⟨h2, h2'⟩ := gl_of c h2
      obtain ⟨h7, h7'⟩ := gl_of c h7
      obtain ⟨h8, h8'⟩ := gl_of c h8
      obtain ⟨kk, gd, hro⟩ := c.gd
      have pc1 : PE X (.Name "list" p1) (tC (.ty "list")) := pe_tyN h7 (gd.free _ (by simp [biNames])) (by decide +kernel) (by decide) h7'
      have pc2 : PE X (.Name "tuple" p2) (tC (.ty "tuple")) := pe_tyN h8 (gd.free _ (by simp [biNames])) (by decide +kernel) (by decide) h8'
      refine ⟨fun pins s σ H Q I hq => ?_⟩
      obtain ⟨g, f, env, m, env', hE, hm, q⟩ := hq
      obtain ⟨x0, env1, hx0, hm2⟩ := bind_ok hm
      obtain ⟨hm3, e1⟩ := lift_ok hm2
      subst e1
      obtain ⟨b, hb, hm4⟩ := mapO_ok hm3
      subst hm4
      refine (pe_biA (.b _) boot_isi call_isiT h2 (gd.free _ (by simp [biNames])) (pa_cons (ha.e C x h9 X c) (pa_cons (pe_tup (pa_cons pc1 (pa_cons pc2 pa_nil))) pa_nil) (star_cons h3)) (by show (noStar x && (noStar (.Tuple _ _ _) && true)) = true; rw [h3]; rfl) (by decide) h2').run pins s σ H Q I ?_
      refine ⟨g, f, env, x0, _, hE, hx0, fun va H1 f1 fa pa => ⟨by rw [PySem.sizeLine_eq]; decide, fun pp np => ?_⟩⟩
      obtain ⟨n, hn⟩ := isbM_kind hb
      have tn := pa.tst.new (o := .tup [V.ty "list", V.ty "tuple"]) np
      have hb3 : isbM 3 x0 = some (n == 4) := by rw [isbM_eq, hn]; rfl
      have hb4 : isbM 4 x0 = some (n == 5) := by rw [isbM_eq, hn]; rfl
      have rp := pa.rep.mv (O' := g ++ fa ++ f1) (H' := upd H1 pp (.tup [V.ty "list", V.ty "tuple"])) ⟨fun a u _ e => new_same np a u e, fun _ m n => absurd m n⟩ fun a u _ e => new_same np a u e
      obtain ⟨t, ty, kk⟩ : ∃ t, TyX L.K (upd H1 pp (.tup [V.ty "list", V.ty "tuple"])) va t ∧ PySem.W.kitAny L.K t [.type "list", .type "tuple"] = some (n == 4 || n == 5) := by
        rcases kind_ty hn rp gd.insT with ⟨n7, hm, ty'⟩ | ⟨n7, c', e, ty'⟩
        · exact ⟨_, ty', kit_any6 (isb_kit (k := 3) (by decide) hn hb3 n7) (isb_kit (k := 4) (by decide) hn hb4 n7)⟩
        · refine ⟨_, ty', ?_⟩
          subst n7
          exact kit_any6 (gd.subI _ (by decide) c') (gd.subI _ (by decide) c')
      rw [← isb6 hn hb] at kk
      rw [← c.K] at ty kk
      exact ⟨va, pp, [V.ty "list", V.ty "tuple"], t, [.type "list", .type "tuple"], b, rfl, upd_same, .cons (.ty _) (.cons (.ty _) .nil), ty, kk, q _ _ _ _ (tn.pure rfl)⟩
    · cases h
  refine ⟨hE, fun C e h X c => ?_⟩
  refine pt_plain c (hE C e h X c) rfl ?_
  cases e with
  | Call _ _ _ _ => exact fun _ => rfl
  | _ => cases h
end
end FB

set_option Elab.async false
set_option linter.all false
set_option maxRecDepth 100000
set_option maxHeartbeats 1000000
/-! FbItK: enumerate and zip over lists, tuples and texts. -/
namespace FB
open PySem PySem.Spec PyProof.Rows L2 StX
inductive Kd where
  | l (a : Addr) | t (a : Addr) | s (x : Str) (t : Tok)
def sgV (x : Str) : List V := x.cps.toList.map fun c => V.str ⟨#[c]⟩
def Kd.val : Kd → Value
  | .l a => .ref a | .t a => .ref a | .s x tk => .str x tk
def Kd.v : Kd → V
  | .l a => .ref a | .t a => .ref a | .s x _ => .str x
def Kd.at (K : PySem.W.Frag) (H : Hp) (xs : List V) : Kd → Prop
  | .l a => SqL K H a xs | .t a => SqT K H a xs | .s x _ => xs = sgV x
def Kd.it (it : Addr) (i : Nat) (h : Heap) : Kd → Prop
  | .l a => h.IsListIter it a i | .t a => h.IsTupleIter it a i | .s x tk => h.IsStrIter it (strIterType x) x tk i
def Kd.old (N : Nat) : Kd → Prop
  | .l a => a < N | .t a => a < N | .s _ _ => True
def Kd.base : Kd → List Addr
  | .l a => [a] | .t a => [a] | .s _ _ => []
theorem Kd.base_lt {k : Kd} {N : Nat} (h : k.old N) : ∀ b ∈ k.base, b < N := by
  cases k with
  | l a => intro b hb; rw [List.mem_singleton.mp hb]; exact h
  | t a => intro b hb; rw [List.mem_singleton.mp hb]; exact h
  | s _ _ => intro b hb; cases hb
theorem Kd.cell {k : Kd} {it : Addr} {i : Nat} {h : Heap} (x : k.it it i h) : ∃ o, h.get? it = some o ∧ ∀ v, o.data ≠ .cell v := by
  cases k with
  | l a => obtain ⟨o, e, _, d⟩ := x; exact ⟨o, e, fun v z => by rw [d] at z; cases z⟩
  | t a => obtain ⟨o, e, _, d⟩ := x; exact ⟨o, e, fun v z => by rw [d] at z; cases z⟩
  | s y t => obtain ⟨o, e, _, d⟩ := x; exact ⟨o, e, fun v z => by rw [d] at z; cases z⟩
theorem Kd.keep {k : Kd} {it : Addr} {i : Nat} {h h' : Heap} (x : k.it it i h) (e : ∀ o, h.get? it = some o → h'.get? it = some o) : k.it it i h' := by
  cases k with
  | l a => obtain ⟨o, e1, r⟩ := x; exact ⟨o, e o e1, r⟩
  | t a => obtain ⟨o, e1, r⟩ := x; exact ⟨o, e o e1, r⟩
  | s y t => obtain ⟨o, e1, r⟩ := x; exact ⟨o, e o e1, r⟩
section
variable {X : Cx} {pins : List (Addr × Obj)} {σ : L2.St} {H : Hp} {s : Shared}
theorem Kd.inj {k : Kd} {xs ys : List V} (I : Inv X pins σ H s) (h1 : k.at X.K H xs) (h2 : k.at X.K H ys) : xs = ys := by
  cases k with
  | l a => exact I.list_inj h1 h2
  | t a => exact I.tuple_inj h1 h2
  | s y t => exact (show xs = sgV y from h1).trans (show ys = sgV y from h2).symm
/-- what its iterator draws -/
theorem Kd.draws {k : Kd} {it : Addr} {i N : Nat} {xs : List V} {A : Around} (hh : A.handled = none) (I : Inv X pins σ H s) (hq : k.at X.K H xs) (hit : k.it it i s.heap) (ho : k.old N) (hN : N ≤ it) :
    ∃ (P : Nat → Value → Prop) (St : Nat → Heap → Prop), Draws X.prog X.w A it (it :: k.base) xs.length P St ∧ St i s.heap ∧ (∀ j h, St j h → k.it it j h) ∧ ∀ j v, P j v → ∃ x, xs[j]? = some x ∧ RelV x v := by
  cases k with
  | l a =>
    obtain ⟨its, rv, p, _⟩ := I.list hq
    have hl := rv.length
    have D := Draws.list (prog := X.prog) (w := X.w) hh it a (show a ≠ it from Nat.ne_of_lt (Nat.lt_of_lt_of_le ho hN)) its.toArray
    rw [show its.toArray.size = xs.length by simp [hl]] at D
    refine ⟨_, _, D, ⟨hit, p.isList⟩, fun j h st => st.1, fun j v hv => ?_⟩
    have hv' : its[j]? = some v := by simpa using hv
    have hj : j < its.length := (List.getElem?_eq_some_iff.mp hv').1
    obtain ⟨u, hu, ru⟩ := rv.get (i := j) (x := xs[j]'(by omega)) (by simp [show j < xs.length by omega])
    rw [hv'] at hu
    cases hu
    exact ⟨_, by simp [show j < xs.length by omega], ru⟩
  | t a =>
    obtain ⟨its, rv, p, _⟩ := I.tuple hq
    have hl := rv.length
    have D := Draws.tuple (prog := X.prog) (w := X.w) hh it a (show a ≠ it from Nat.ne_of_lt (Nat.lt_of_lt_of_le ho hN)) its.toArray
    rw [show its.toArray.size = xs.length by simp [hl]] at D
    refine ⟨_, _, D, ⟨hit, p⟩, fun j h st => st.1, fun j v hv => ?_⟩
    have hv' : its[j]? = some v := by simpa using hv
    have hj : j < its.length := (List.getElem?_eq_some_iff.mp hv').1
    obtain ⟨u, hu, ru⟩ := rv.get (i := j) (x := xs[j]'(by omega)) (by simp [show j < xs.length by omega])
    rw [hv'] at hu
    cases hu
    exact ⟨_, by simp [show j < xs.length by omega], ru⟩
  | s y t =>
    have hq : xs = sgV y := hq
    subst hq
    have D := Draws.text (prog := X.prog) (w := X.w) hh it y t
    rw [show y.cps.size = (sgV y).length by simp [sgV]] at D
    refine ⟨_, _, D, hit, fun j h st => st, fun j v hv => ?_⟩
    obtain ⟨c, u, hc, rfl⟩ := hv
    exact ⟨.str ⟨#[c]⟩, by simp [sgV, hc], u, rfl⟩
end
/-! ### enumerate -/
def IteK (K : PySem.W.Frag) (k : Kd) : It :=
  ⟨fun i H => ∃ (xs : List V) (x : V), k.at K H xs ∧ xs[i]? = some x, fun i H v H' => ∃ T x, v = .ref T ∧ H T = none ∧ H' = upd H T (.tup [.int (i : Nat), x]) ∧ ∀ xs, k.at K H xs → xs[i]? = some x, fun i H => ∃ xs : List V, k.at K H xs ∧ xs.length = i⟩
theorem turn_enumK {P : Program} {w : World} {K : PySem.W.Frag} {elts : List Expr} {kk : Nat} {tpos : Pos} (k : Kd) (N : Nat) (ho : k.old N) :
    Turn P w K (.Tuple elts kk tpos) (IteK K k) [N + 1, N] (N + 1) (fun i h => (∃ old, IsEnum h (N + 1) N ((i : Nat) : Int) old) ∧ k.it N i h) where
  mem := by simp
  obj := fun i h st b hb => by
    obtain ⟨⟨old, he⟩, hi⟩ := st
    have e' : b = N + 1 ∨ b = N := by simpa using hb
    rcases e' with z | z
    · rw [z]; exact ⟨_, he, fun v q => nomatch q⟩
    · rw [z]; exact Kd.cell hi
  keep := fun i h h' st kp => let ⟨⟨old, he⟩, hi⟩ := st; ⟨⟨old, kp (N + 1) (by simp) _ he⟩, Kd.keep hi fun o q => kp N (by simp) o q⟩
  item := by
    intro X hP hw hK hc i pins s σ H E I hf st hg
    subst hP hw hK
    obtain ⟨⟨old, he⟩, hit⟩ := st
    obtain ⟨xs, x, hq, hx⟩ := hg
    have hel : N + 1 < s.heap.objs.size := Heap.lt_size he
    have hlt : i < xs.length := (List.getElem?_eq_some_iff.mp hx).1
    obtain ⟨Pv, St, D, st0, kst, kp⟩ := Kd.draws (A := X.A.in1) (I.ok.hd hc) I hq hit ho (Nat.le_refl N)
    have hef : (N + 1 : Nat) ∉ N :: k.base := fun m => by
      rcases List.mem_cons.mp m with z | z
      · exact absurd (show (N + 1 : Nat) = N from z) (Nat.succ_ne_self N)
      · exact absurd (show (N + 1 : Nat) < N from Kd.base_lt ho _ z) (Nat.not_lt.mpr (Nat.le_succ N))
    refine wpAny_pyNext_enum_itemD D he st0 hlt (Nat.succ_ne_self N) hef fun u h' tk hp ho' st1 hT hsz hk => ?_
    obtain ⟨x', hx', ru⟩ := kp i u hp
    rw [hx] at hx'
    cases hx'
    refine ⟨_, rfl, wpAny_letOwnedTupleGo_enum (s := { s with heap := h', toks := tk + 1 }) ho' fun h'' he' sb => ?_⟩
    have hT2 : h''.get? s.heap.objs.size = some { cls := .type "tuple", data := .seq #[.int i tk, u] } := (sb.2 _ (Nat.ne_of_gt hel)).trans hT
    have new : ObjOk X.prog X.w (upd H s.heap.objs.size (.tup [.int (i : Nat), x])) h'' s.heap.objs.size (.tup [.int (i : Nat), x]) :=
      ⟨by show 2 ≤ sizeLine; decide, [.int i tk, u], .cons ⟨_, rfl⟩ (.cons ru .nil), ⟨_, hT2, rfl, _, rfl⟩⟩
    have I1 : Inv X pins σ (upd H s.heap.objs.size (.tup [.int (i : Nat), x])) { s with heap := h'', toks := tk + 1 } :=
      I.turnedNew (ch := [N + 1, N]) (fun b ob hb q => (sb.2 b (fun z => hb (by simp [z]))).trans (hk b ob (fun z => hb (by simp [z])) (fun z => hb (by simp [z])) q)) hf (Nat.le_refl _) new
    refine ⟨.ref s.heap.objs.size, _, I1, rfl, ⟨_, x, rfl, I.hok.fresh (Nat.le_refl _), rfl, fun ys hy => by rw [Kd.inj I hy hq]; exact hx⟩, ⟨⟨u, ?_⟩, Kd.keep (kst _ _ st1) fun o q => (sb.2 N (Ne.symm (Nat.succ_ne_self N))).trans q⟩, fun b hb => ?_⟩
    · have e1 : ((i + 1 : Nat) : Int) = (i : Int) + 1 := by omega
      rw [e1]; exact he'
    · have hb' : b < s.heap.objs.size := by
        have e' : b = N + 1 ∨ b = N := by simpa using hb
        rcases e' with z | z
        · rw [z]; exact hel
        · rw [z]; exact Nat.lt_of_succ_lt hel
      rw [upd_ne (Nat.ne_of_lt hb')]
      exact (hf b hb).1
  done := by
    intro X hP hw hK hc i pins s σ H E I hf st hg
    subst hP hw hK
    obtain ⟨⟨old, he⟩, hit⟩ := st
    obtain ⟨xs, hq, hx⟩ := hg
    subst hx
    obtain ⟨f0, f1, f2, f3, f4, f5⟩ := hf N (by simp)
    obtain ⟨Pv, St, D, st0, kst, kp⟩ := Kd.draws (A := X.A.in1) (I.ok.hd hc) I hq hit ho (Nat.le_refl N)
    exact wpAny_pyNext_enum_endD D he st0 fun h' eb => ⟨rfl, I.turned (t' := s.toks) (fun b o hb q => eb b o hb q) f0 f1 f3 f4 f5⟩
  self := fun A i s Q E st h => let ⟨⟨_, he⟩, _⟩ := st; wpAny_pyIter_enum he h

theorem meets_enumerate_newT (l : Addr) (items : Array Value) (n : Nat) (dct : Option Addr) (sl : Array (Option Value)) :
    Meets (Builtin.«enumerate.__new__» ⟨[.type "enumerate", .ref l], []⟩) (fun _ R s => s.heap.get? l = some { cls := .type "tuple", dict := dct, data := .seq items n, slots := sl } ∧
      R (.ok (.ret (.ref (s.heap.push { cls := .type "tuple_iterator", data := .fields #[.ref l, .int 0 0] }).objs.size)))
        { s with heap := (s.heap.push { cls := .type "tuple_iterator", data := .fields #[.ref l, .int 0 0] }).push { cls := .type "enumerate", data := .fields #[.none, .bool false, .ref s.heap.objs.size, rawInt 0, .none, .none] } }) :=
  .of_wp fun prog w A R s h => by
    obtain ⟨hp, g, d, tk, os⟩ := s; obtain ⟨hl, h⟩ := h
    have hsub := sub_enumerate
    have hL : Heap.IsTuple (Shared.heap ⟨hp, g, d, tk, os⟩) l items := ⟨_, hl, rfl, n, rfl⟩
    wp_walk using AutoSeq1.wpAny_loadPart' hl
    refine wpAny_stack_any fun st => wpAny_pure ?_
    split
    · rename_i c _ _ _ _ _
      cases (c == Value.type "enumerate")
      · wp_walk using AutoSeq1.wpAny_loadPart' hl, wpAny_pyIter_tuple hL
        exact ⟨_, rfl, h⟩
      · wp_walk using AutoSeq1.wpAny_loadPart' hl, wpAny_pyIter_tuple hL
        exact ⟨_, rfl, h⟩
    · wp_walk using AutoSeq1.wpAny_loadPart' hl, wpAny_pyIter_tuple hL
      exact ⟨_, rfl, h⟩
theorem call_enumerate_tuple {prog : Program} {w : World} {A : Around} {E : Value → Shared → Prop} {s : Shared} {l : Addr} {items : Array Value} {Q : Value → Shared → Prop} (hL : s.heap.IsTuple l items)
    (h : ∀ h', IsEnum h' (s.heap.objs.size + 1) s.heap.objs.size 0 .none → h'.IsTupleIter s.heap.objs.size l 0 → h'.objs.size = s.heap.objs.size + 2 →
      (∀ b o, s.heap.get? b = some o → h'.get? b = some o) → Q (.ref (s.heap.objs.size + 1)) { s with heap := h' }) :
    wpAny (model prog w) A (call (.type "enumerate") [.ref l]) Q E s := by
  obtain ⟨⟨c, dct, dt, sl⟩, hl, hc, n, hd⟩ := hL
  replace hc : c = .type "tuple" := hc
  replace hd : dt = .seq items n := hd
  subst hc hd
  refine callType_new F.called_enumerate (by decide) (F.typeCall_enumerate_1 _) (F.newCall_enumerate_1 _) (fun obj => F.args_object_init_2 obj _) F.entry_enumerate_new
    (meets_enumerate_newT l items n dct sl) ⟨hl, ?_⟩
  have hz : (s.heap.push { cls := .type "tuple_iterator", data := .fields #[.ref l, .int 0 0] }).objs.size = s.heap.objs.size + 1 := Heap.size_push ..
  show _ ∧ _
  rw [hz]
  have he : IsEnum ((s.heap.push { cls := .type "tuple_iterator", data := .fields #[.ref l, .int 0 0] }).push
      { cls := .type "enumerate", data := .fields #[.none, .bool false, .ref s.heap.objs.size, rawInt 0, .none, .none] }) (s.heap.objs.size + 1) s.heap.objs.size 0 .none := by
    have := Heap.get?_push_size (s.heap.push { cls := .type "tuple_iterator", data := .fields #[.ref l, .int 0 0] })
      (o := { cls := .type "enumerate", data := .fields #[.none, .bool false, .ref s.heap.objs.size, rawInt 0, .none, .none] }) rfl
    rw [hz] at this; exact this
  refine ⟨⟨_, he, rfl⟩, h _ he ⟨_, Heap.get?_push_of_some _ (Heap.get?_push_size _ rfl), rfl, rfl⟩ (by rw [Heap.size_push, hz]) fun b o x => Heap.get?_push_of_some _ (Heap.get?_push_of_some _ x)⟩
section
variable {X : Cx}
theorem Kd.lt {k : Kd} {pins : List (Addr × Obj)} {σ : L2.St} {H : Hp} {s : Shared} {xs : List V} (I : Inv X pins σ H s) (hq : k.at X.K H xs) : k.old s.heap.objs.size := by
  cases k with
  | l a => obtain ⟨_, _, ⟨o, n, e, _⟩, _⟩ := I.list hq; exact Heap.lt_size e
  | t a => obtain ⟨_, _, ⟨o, e, _⟩, _⟩ := I.tuple hq; exact Heap.lt_size e
  | s _ _ => trivial
/-- the token of a text is not known ahead -/
def Vk (K : PySem.W.Frag) (H : Hp) (v : V) (R : Kd → Prop) : Prop := (∃ a xs, v = .ref a ∧ SqL K H a xs ∧ R (.l a)) ∨ (∃ a xs, v = .ref a ∧ SqT K H a xs ∧ R (.t a)) ∨ ∃ x, v = .str x ∧ ∀ t, R (.s x t)
theorem Vk.get {K : PySem.W.Frag} {H : Hp} {v : V} {u : Value} {R : Kd → Prop} (h : Vk K H v R) (r : RelV v u) : ∃ k xs, u = Kd.val k ∧ v = k.v ∧ k.at K H xs ∧ R k := by
  rcases h with ⟨a, xs, e, q, z⟩ | ⟨a, xs, e, q, z⟩ | ⟨x, e, z⟩
  · subst e; cases r; exact ⟨.l a, xs, rfl, rfl, q, z⟩
  · subst e; cases r; exact ⟨.t a, xs, rfl, rfl, q, z⟩
  · subst e; obtain ⟨t, rfl⟩ := r; exact ⟨.s x t, _, rfl, rfl, rfl, z t⟩
def iEnumK (K : PySem.W.Frag) (ta : TA) : TI := fun σ H R => ta σ H fun vs H1 => ∃ v, vs = [v] ∧ Vk K H1 v fun k => R (IteK K k) H1
theorem pi_enumK {e : Expr} {ta : TA} {p pos tpos : Pos} {elts : List Expr} {kk : Nat} (hg : Gl X "enumerate") (hm : X.mg "enumerate" = none) (ha : PA X [e] ta) (hs : starEach [e] X.env = (false, eval e X.env) :: starEach [] X.env) :
    PI X (.Tuple elts kk tpos) (.Call (.Name "enumerate" p) [e] [] pos) (iEnumK X.K ta) := by
  refine ⟨fun pins s σ H R I h => ?_⟩
  refine Call_ (ld_blt I hg hm boot_enumerate (PyProof.Rows.callWith_type1 (thn (ha.run pos pins s σ H _ I h) fun us s1 ⟨vs, H1, I1, r1, q1⟩ => ?_) hs rfl))
  obtain ⟨v, ex, q1⟩ := q1
  subst ex
  cases r1 with
  | cons r rr =>
    cases rr
    obtain ⟨k, xs, eu, _, hq, q⟩ := q1.get r
    subst eu
    have hold := Kd.lt I1 hq
    have fin : ∀ h' : Heap, IsEnum h' (s1.heap.objs.size + 1) s1.heap.objs.size 0 .none → k.it s1.heap.objs.size 0 h' → (∀ b o, s1.heap.get? b = some o → h'.get? b = some o) →
        wpAny (model X.prog X.w) X.A (pyIter (.ref (s1.heap.objs.size + 1))) (PIE X pins σ (.Tuple elts kk tpos) R) X.xe { s1 with heap := h' } := fun h' he hit hk => by
      refine wpAny_pyIter_enum he ?_
      have I2 : Inv X pins σ H1 { s1 with heap := h' } := I1.kept (t' := s1.toks) hk
      refine ⟨s1.heap.objs.size + 1, [s1.heap.objs.size + 1, s1.heap.objs.size], _, _, H1, rfl, I2, turn_enumK k s1.heap.objs.size hold, ⟨⟨.none, he⟩, hit⟩, fun b hb => ?_, q⟩
      have e' : b = s1.heap.objs.size + 1 ∨ b = s1.heap.objs.size := by simpa using hb
      have hle : s1.heap.objs.size ≤ b := by
        rcases e' with z | z
        · rw [z]; exact Nat.le_add_right _ _
        · rw [z]; exact Nat.le_refl _
      exact I1.fpOk hle (I1.hok.fresh hle)
    cases k with
    | l a =>
      obtain ⟨its, rv, p', hz⟩ := I1.list hq
      exact call_enumerate_list p'.isList fun h' he hit hsz hk => fin h' he hit hk
    | t a =>
      obtain ⟨its, rv, p', hz⟩ := I1.tuple hq
      exact call_enumerate_tuple p' fun h' he hit hsz hk => fin h' he hit hk
    | s x t => exact call_enumerate_str fun h' he hit hsz hk => fin h' he hit hk
end
/-! ### zip -/
def ItzK (K : PySem.W.Frag) (k k2 : Kd) : It :=
  ⟨fun i H => ∃ (xs ys : List V) (x y : V), k.at K H xs ∧ k2.at K H ys ∧ xs[i]? = some x ∧ ys[i]? = some y,
    fun i H v H' => ∃ T x y, v = .ref T ∧ H T = none ∧ H' = upd H T (.tup [x, y]) ∧ (∀ xs, k.at K H xs → xs[i]? = some x) ∧ ∀ ys, k2.at K H ys → ys[i]? = some y,
    fun i H => ∃ xs ys : List V, k.at K H xs ∧ k2.at K H ys ∧ i ≤ xs.length ∧ i ≤ ys.length ∧ (i = xs.length ∨ i = ys.length)⟩
theorem turn_zipK {P : Program} {w : World} {K : PySem.W.Frag} {elts : List Expr} {kk : Nat} {tpos : Pos} (k k2 : Kd) (N : Nat) (ho : k.old N) (ho2 : k2.old N) :
    Turn P w K (.Tuple elts kk tpos) (ItzK K k k2) [N + 4, N + 2, N + 3, N, N + 1] (N + 4) (fun i h => IsZip h (N + 4) (N + 2) (N + 3) .none ∧ IsTupOf2 h (N + 2) (.ref N) (.ref (N + 1)) ∧ (∃ x y, IsTupOf2 h (N + 3) x y) ∧ k.it N i h ∧ k2.it (N + 1) i h) where
  mem := by simp
  obj := fun i h st c hc => by
    obtain ⟨hz, hTI, ⟨x, y, hTO⟩, h1, h2⟩ := st
    have e' : c = N + 4 ∨ c = N + 2 ∨ c = N + 3 ∨ c = N ∨ c = N + 1 := by simpa using hc
    rcases e' with q | q | q | q | q
    · rw [q]; exact ⟨_, hz, fun v q => nomatch q⟩
    · rw [q]; exact ⟨_, hTI, fun v q => nomatch q⟩
    · rw [q]; exact ⟨_, hTO, fun v q => nomatch q⟩
    · rw [q]; exact Kd.cell h1
    · rw [q]; exact Kd.cell h2
  keep := fun i h h' st kp => by
    obtain ⟨hz, hTI, ⟨x, y, hTO⟩, h1, h2⟩ := st
    exact ⟨kp (N + 4) (by simp) _ hz, kp (N + 2) (by simp) _ hTI, ⟨x, y, kp (N + 3) (by simp) _ hTO⟩, Kd.keep h1 fun o q => kp N (by simp) o q, Kd.keep h2 fun o q => kp (N + 1) (by simp) o q⟩
  item := by
    intro X hP hw hK hc i pins s σ H E I hf st hg
    subst hP hw hK
    obtain ⟨hz, hTI, ⟨x0, y0, hTO⟩, h1, h2⟩ := st
    obtain ⟨xs, ys, x, y, hqx, hqy, hx, hy⟩ := hg
    have hzl : N + 4 < s.heap.objs.size := Heap.lt_size hz
    obtain ⟨P1, St1, D1, st1, kst1, kp1⟩ := Kd.draws (A := X.A.in1) (I.ok.hd hc) I hqx h1 ho (Nat.le_refl N)
    obtain ⟨P2, St2, D2, st2, kst2, kp2⟩ := Kd.draws (A := X.A.in1) (I.ok.hd hc) I hqy h2 ho2 (Nat.le_succ N)
    have S := zip_sep2 (N := N) (Kd.base_lt ho) (Kd.base_lt ho2)
    refine wpAny_pyNext_zipD2_item S D1 D2 hz hTI hTO st1 st2 (List.getElem?_eq_some_iff.mp hx).1 (List.getElem?_eq_some_iff.mp hy).1 fun u u2 h' tk p1 p2 z' TO' a1 a2 hT hsz hk => ?_
    obtain ⟨x', hx', ru⟩ := kp1 i u p1
    rw [hx] at hx'
    cases hx'
    obtain ⟨y', hy', ru2⟩ := kp2 i u2 p2
    rw [hy] at hy'
    cases hy'
    have N1 : (N + 2 : Nat) ≠ N + 4 := by omega
    have N2 : (N + 3 : Nat) ≠ N + 4 := by omega
    have N3 : (N : Nat) ≠ N + 4 := by omega
    have N4 : (N + 1 : Nat) ≠ N + 4 := by omega
    refine ⟨_, rfl, wpAny_letOwnedTupleGo_zip (s := { s with heap := h', toks := tk }) z' fun h'' z'' sb => ?_⟩
    have hT2 : h''.get? s.heap.objs.size = some { cls := .type "tuple", data := .seq #[u, u2] } := (sb.2 _ (Nat.ne_of_gt hzl)).trans hT
    have new : ObjOk X.prog X.w (upd H s.heap.objs.size (.tup [x, y])) h'' s.heap.objs.size (.tup [x, y]) :=
      ⟨by show 2 ≤ sizeLine; decide, [u, u2], .cons ru (.cons ru2 .nil), ⟨_, hT2, rfl, _, rfl⟩⟩
    have I1 : Inv X pins σ (upd H s.heap.objs.size (.tup [x, y])) { s with heap := h'', toks := tk } :=
      I.turnedNew (t' := tk) (ch := [N + 4, N + 2, N + 3, N, N + 1]) (fun c o hb q => (sb.2 c (fun q' => hb (by simp [q']))).trans (hk c o (fun q' => hb (by simp [q'])) (fun q' => hb (by simp [q'])) (fun q' => hb (by simp [q'])) (fun q' => hb (by simp [q'])) q)) hf (Nat.le_refl _) new
    refine ⟨.ref s.heap.objs.size, _, I1, rfl, ⟨_, x, y, rfl, I.hok.fresh (Nat.le_refl _), rfl, fun l hl => by rw [Kd.inj I hl hqx]; exact hx, fun l hl => by rw [Kd.inj I hl hqy]; exact hy⟩, ⟨z'', ?_, ⟨u, u2, ?_⟩, ?_, ?_⟩, fun c hcm => ?_⟩
    · exact (sb.2 _ N1).trans (hk _ _ N1 (show (N + 2 : Nat) ≠ N + 3 by omega) (show (N + 2 : Nat) ≠ N by omega) (show (N + 2 : Nat) ≠ N + 1 by omega) hTI)
    · exact (sb.2 _ N2).trans TO'
    · exact Kd.keep (kst1 _ _ a1) fun o q => (sb.2 _ N3).trans q
    · exact Kd.keep (kst2 _ _ a2) fun o q => (sb.2 _ N4).trans q
    · have hlt : c < s.heap.objs.size := by
        have e' : c = N + 4 ∨ c = N + 2 ∨ c = N + 3 ∨ c = N ∨ c = N + 1 := by simpa using hcm
        have hzl' : (N + 4 : Nat) < s.heap.objs.size := hzl
        rcases e' with q | q | q | q | q
        · rw [q]; exact hzl
        · rw [q]; exact Nat.lt_of_le_of_lt (show (N + 2 : Nat) ≤ N + 4 by omega) hzl'
        · rw [q]; exact Nat.lt_of_le_of_lt (show (N + 3 : Nat) ≤ N + 4 by omega) hzl'
        · rw [q]; exact Nat.lt_of_le_of_lt (show (N : Nat) ≤ N + 4 by omega) hzl'
        · rw [q]; exact Nat.lt_of_le_of_lt (show (N + 1 : Nat) ≤ N + 4 by omega) hzl'
      rw [upd_ne (Nat.ne_of_lt hlt)]
      exact (hf c hcm).1
  done := by
    intro X hP hw hK hc i pins s σ H E I hf st hg
    subst hP hw hK
    obtain ⟨hz, hTI, ⟨x0, y0, hTO⟩, h1, h2⟩ := st
    obtain ⟨xs, ys, hqx, hqy, l1, l2, hend⟩ := hg
    obtain ⟨P1, St1, D1, st1, kst1, kp1⟩ := Kd.draws (A := X.A.in1) (I.ok.hd hc) I hqx h1 ho (Nat.le_refl N)
    obtain ⟨P2, St2, D2, st2, kst2, kp2⟩ := Kd.draws (A := X.A.in1) (I.ok.hd hc) I hqy h2 ho2 (Nat.le_succ N)
    have S := zip_sep2 (N := N) (Kd.base_lt ho) (Kd.base_lt ho2)
    exact wpAny_pyNext_zipD2_end S D1 D2 hz hTI hTO st1 st2 l1 l2 hend fun h' tk hk => ⟨rfl, I.turnedL (t' := tk) (ch := [N + 4, N + 2, N + 3, N, N + 1]) (fun c o hb q =>
      hk c o (fun q' => hb (by simp [q'])) (fun q' => hb (by simp [q'])) (fun q' => hb (by simp [q'])) (fun q' => hb (by simp [q'])) q) hf⟩
  self := fun A i s Q E st h => wpAny_pyIter_zip st.1 h
def Kd.iter0 : Kd → Obj
  | .l a => { cls := .type "list_iterator", data := .fields #[.ref a, .int 0 0] }
  | .t a => { cls := .type "tuple_iterator", data := .fields #[.ref a, .int 0 0] }
  | .s x tk => { cls := .type (strIterType x), data := .fields #[.str x tk, .int 0 0] }
theorem Kd.begin {X : Cx} {pins : List (Addr × Obj)} {σ : L2.St} {H : Hp} {s : Shared} {k : Kd} {xs : List V} (I : Inv X pins σ H s) (hq : k.at X.K H xs) : ∃ Hb, Begins k.val k.iter0 Hb ∧ Hb s.heap := by
  cases k with
  | l a => obtain ⟨its, _, p, _⟩ := I.list hq; exact ⟨_, begins_list a its.toArray, p.isList⟩
  | t a => obtain ⟨its, _, p, _⟩ := I.tuple hq; exact ⟨_, begins_tuple a its.toArray, p⟩
  | s x tk => exact ⟨_, begins_text x tk, trivial⟩
theorem Kd.it0 {k : Kd} {it : Addr} {h : Heap} (e : h.get? it = some k.iter0) : k.it it 0 h := by
  cases k with
  | l a => exact ⟨_, e, rfl, rfl⟩
  | t a => exact ⟨_, e, rfl, rfl⟩
  | s x tk => exact ⟨_, e, rfl, rfl⟩
section
variable {X : Cx}
def iZipK (K : PySem.W.Frag) (ta : TA) : TI := fun σ H R => ta σ H fun vs H1 => ∃ v v2, vs = [v, v2] ∧ Vk K H1 v fun k => Vk K H1 v2 fun k2 => R (ItzK K k k2) H1
theorem pi_zipK {e e2 : Expr} {ta : TA} {p pos tpos : Pos} {elts : List Expr} {kk : Nat} (hg : Gl X "zip") (hm : X.mg "zip" = none) (ha : PA X [e, e2] ta)
    (hs : starEach [e, e2] X.env = (false, eval e X.env) :: starEach [e2] X.env) (hpl : (backTo pos (starEach [e2] X.env)).any (·.1) = false) :
    PI X (.Tuple elts kk tpos) (.Call (.Name "zip" p) [e, e2] [] pos) (iZipK X.K ta) := by
  refine ⟨fun pins s σ H R I h => ?_⟩
  refine Call_ (ld_blt I hg hm PyProof.Rows.boot_zip (PyProof.Rows.callWith_type1 (thn (ha.run pos pins s σ H _ I h) fun us s1 ⟨vs, H1, I1, r1, q1⟩ => ?_) hs hpl))
  obtain ⟨v, v2, ex, q1⟩ := q1
  subst ex
  cases r1 with
  | cons r rr =>
    cases rr with
    | cons r' rr =>
      cases rr
      obtain ⟨k, xs, eu, _, hq, q2⟩ := q1.get r
      obtain ⟨k2, ys, eu2, _, hq2, q⟩ := q2.get r'
      subst eu eu2
      obtain ⟨Hb, B, hb⟩ := Kd.begin I1 hq
      obtain ⟨Hb2, B2, hb2⟩ := Kd.begin I1 hq2
      refine zip_begins2 B B2 hb hb2 fun h' hz hTI hTO g1 g2 hsz hk => wpAny_pyIter_zip hz ?_
      have I2 : Inv X pins σ H1 { s1 with heap := h' } := I1.kept (t' := s1.toks) hk
      refine ⟨s1.heap.objs.size + 4, [s1.heap.objs.size + 4, s1.heap.objs.size + 2, s1.heap.objs.size + 3, s1.heap.objs.size, s1.heap.objs.size + 1], _, _, H1, rfl, I2, turn_zipK k k2 s1.heap.objs.size (Kd.lt I1 hq) (Kd.lt I1 hq2),
        ⟨hz, hTI, ⟨_, _, hTO⟩, Kd.it0 g1, Kd.it0 g2⟩, fun b hb => ?_, q⟩
      have hle : s1.heap.objs.size ≤ b := by
        have e' : b = s1.heap.objs.size + 4 ∨ b = s1.heap.objs.size + 2 ∨ b = s1.heap.objs.size + 3 ∨ b = s1.heap.objs.size ∨ b = s1.heap.objs.size + 1 := by simpa using hb
        rcases e' with z | z | z | z | z
        · rw [z]; exact Nat.le_add_right _ _
        · rw [z]; exact Nat.le_add_right _ _
        · rw [z]; exact Nat.le_add_right _ _
        · rw [z]; exact Nat.le_refl _
        · rw [z]; exact Nat.le_add_right _ _
      exact I1.fpOk hle (I1.hok.fresh hle)
/-- a sequence as it stands, walked by itself -/
def ItK (K : PySem.W.Frag) : Kd → It
  | .l a => Itl K a | .t a => Itt K a | .s x _ => Its x
def iSeqK (K : PySem.W.Frag) (te : TE) : TI := fun σ H R => te σ H fun v H1 => Vk K H1 v fun k => R (ItK K k) H1
theorem pi_seqK {tg e : Expr} {te : TE} (he : PE X e te) : PI X tg e (iSeqK X.K te) := by
  refine ⟨fun pins s σ H R I h => ?_⟩
  refine thn (he.run pins s σ H _ I h) fun v s1 ⟨y, H1, I1, r1, q1⟩ => ?_
  rcases q1 with ⟨a, xs, e, hq, q⟩ | ⟨a, xs, e, hq, q⟩ | ⟨x, e, q⟩
  · subst e
    cases r1
    obtain ⟨its, rv, p, hz⟩ := I1.list hq
    refine wpAny_pyIter_list p.isList ?_
    refine ⟨s1.heap.objs.size, [s1.heap.objs.size], _, _, H1, rfl, I1.kept (t' := s1.toks) fun b o e => Heap.get?_push_of_some _ e, turn_list a _, ⟨_, Heap.get?_push_size _ rfl, rfl, rfl⟩, fun b hb => ?_, q⟩
    have e : b = s1.heap.objs.size := by simpa using hb
    subst e
    exact I1.fpOk (Nat.le_refl _) (I1.hok.fresh (Nat.le_refl _))
  · subst e
    cases r1
    obtain ⟨its, rv, p, hz⟩ := I1.tuple hq
    refine wpAny_pyIter_tuple (show s1.heap.IsTuple a its.toArray from p) ?_
    refine ⟨s1.heap.objs.size, [s1.heap.objs.size], _, _, H1, rfl, I1.kept (t' := s1.toks) fun b o e => Heap.get?_push_of_some _ e, turn_tuple a _, ⟨_, Heap.get?_push_size _ rfl, rfl, rfl⟩, fun b hb => ?_, q⟩
    have e : b = s1.heap.objs.size := by simpa using hb
    subst e
    exact I1.fpOk (Nat.le_refl _) (I1.hok.fresh (Nat.le_refl _))
  · subst e
    obtain ⟨t, rfl⟩ := r1
    have q := q t
    cases ha : x.cps.all (· < 128)
    · exact wpAny_pyIter_wide ha (pi_one (tk := s1.toks) I1 _ (turn_str _ x t "str_iterator" (.inr rfl)) ⟨_, Heap.get?_push_size _ rfl, rfl, rfl⟩ q)
    · exact wpAny_pyIter_ascii ha (pi_one (tk := s1.toks) I1 _ (turn_str _ x t "str_ascii_iterator" (.inl rfl)) ⟨_, Heap.get?_push_size _ rfl, rfl, rfl⟩ q)
end
end FB

set_option Elab.async false
set_option linter.all false
set_option maxRecDepth 10000
/-! FbIt: what is walked. -/
namespace FB
open PySem PySem.Spec PyProof.Rows L2 StX
section
variable {L : Lk} {T : Tx} {R : Rt} {C : Sc} {X : Cx}
variable {g f f1 f2 : List Addr} {H H1 H2 H' : Hp} {env env1 env2 : En} {σ : L2.St} {qt : Bool} {O O' : List Addr}
/-- what is lent to a loop -/
def RepLn (L : Lk) (O : List Addr) (H : Hp) (σ : L2.St) : List (Nat × M) → List Addr → Prop
  | [], f => f = []
  | (i, m) :: r, f => ∃ v f1 f2, σ[i]? = some (some v) ∧ f = f1 ++ f2 ∧ RepM L O H m v f1 ∧ RepLn L O H σ r f2
theorem RepLn.mv (x : Mv O O' H H') : ∀ {ln : List (Nat × M)} {f : List Addr}, RepLn L O H σ ln f → (∀ a o, a ∈ f → H a = some o → H' a = some o) → RepLn L O' H' σ ln f
  | [], _, h, _ => h
  | (i, m) :: r, f, ⟨v, f1, f2, e, ef, p, q⟩, k => ⟨v, f1, f2, e, ef, p.mv x fun c o hc => k c o (ef ▸ List.mem_append_left _ hc), RepLn.mv x q fun c o hc => k c o (ef ▸ List.mem_append_right _ hc)⟩
structure PstI (L : Lk) (g f : List Addr) (H : Hp) (env : En) (ln : List (Nat × M)) (env' : En) (σ : L2.St) (H' : Hp) (f' fl : List Addr) : Prop where
  ok : EnvOk L (g ++ fl) H' env' σ f'
  st : ∀ a o, H a = some o → a ∉ f → H' a = some o
  nf : ∀ a ∈ f', a ∈ f ∨ H a = none
  nm : ∀ a ∈ fl, a ∈ f ∨ H a = none
  rep : RepLn L (g ++ fl ++ f') H' σ ln fl
/-- a sequence as it stands; f: what the slots own -/
inductive SeqV (L : Lk) (O f : List Addr) (H : Hp) : List D → V → Prop where
  | l {ds : List D} {a : Addr} {vs : List V} (n : a ∉ f) (h : H a = some (.lst vs)) (q : RepDs L O H ds vs) : SeqV L O f H ds (.ref a)
  | t {ds : List D} {a : Addr} {vs : List V} (h : RdT L O H a vs) (q : RepDs L O H ds vs) : SeqV L O f H ds (.ref a)
  | s (x : List Nat) : SeqV L O f H (x.map fun c => .str [c]) (.str (mkS x))
theorem SeqV.mv {ds : List D} {v : V} {ff : List Addr} (x : Mv O O' H H') (h : SeqV L O ff H ds v) (k : ∀ a o, H a = some o → a ∉ ff → H' a = some o) (ff' : List Addr) (nn : ∀ a o, H a = some o → a ∉ ff → a ∉ ff') : SeqV L O' ff' H' ds v := by
  cases h with
  | l n h q => exact .l (nn _ _ h n) (k _ _ h n) (q.mv x)
  | t h q => exact .t (x.t h) (q.mv x)
  | s x => exact .s x
theorem asIt_d {d : D} {ds : List D} {v : V} {ff : List Addr} (h : asIt d = some ds) (r : RepD L O H d v) (s : ∀ a ∈ ff, a ∈ O) : SeqV L O ff H ds v := by
  cases d with
  | tup xs =>
    cases h
    obtain ⟨a, vs, e, h, q⟩ := r
    subst e
    exact .t h q
  | lst xs =>
    cases h
    obtain ⟨a, vs, e, h, q⟩ := r
    subst e
    exact .l (fun m => h.1 (s a m)) h.2 q
  | str x =>
    cases h
    rw [show v = .str (mkS x) from r]
    exact .s x
  | _ => cases h
theorem asIt_m {m : M} {d : D} {ds : List D} {v : V} {ff : List Addr} (hv : viewD m = some d) (h : asIt d = some ds) (r : RepM L O H m v f1) (s : ∀ a ∈ ff, a ∈ O) (dj : ∀ a ∈ f1, a ∉ ff) : SeqV L O ff H ds v := by
  have rv := view_rep hv r
  cases m with
  | pure d' => cases hv; exact asIt_d h r.2 s
  | lst ms =>
    obtain ⟨a, vs, g0, e, ef, hh, q⟩ := r
    obtain ⟨ds', h1, h2⟩ := mapO_ok (r := allPure ms) (k := D.lst) hv
    subst h2
    cases h
    subst e
    exact .l (dj a (by rw [ef]; exact List.mem_cons_self)) hh (allPure_rep h1 q).1
  | ins _ _ => cases hv
/-- the reading of a source -/
def tS (L : Lk) (R : Rt) (x : Ex) : TE := fun σ H Q => ∃ g f env ds ln env', EnvOk L g H env σ f ∧ (ev R x).i env = .ok (ds, ln) env' ∧ ∀ v H' f' fl, PstI L g f H env ln env' σ H' f' fl → SeqV L (g ++ fl ++ f') f' H' ds v → Q v H'
/-- .. whose value is asked by itself -/
def plainI : Ex → Bool
  | .bor _ => false
  | x => isSrc x
theorem i_plain {x : Ex} (h : plainI x = true) : (ev R x).i = fun env => ((ev R x).e env).bind fun x env => Rs.lift ((asIt x.frz).map fun ds => (ds, [])) env := by
  cases x <;> first | rfl | cases h
theorem Pst.pstI {qt : Bool} {fm : List Addr} {m : M} {v : V} (p : Pst L false qt g f H env m env1 σ v H1 f1 fm) : PstI L g f H env [] env1 σ H1 f1 [] :=
  ⟨by simpa using p.okg, p.st, p.nf, fun _ z => (nomatch z), rfl⟩
/-- the value of a source -/
theorem pe_src {x : Ex} {e : Expr} (c : Cok L T R C X) (he : PE X e (tE L R x)) (hp : plainI x = true) (ha : isAl x = false) : PE X e (tS L R x) := by
  refine PE.imp he fun σ H Q ⟨g, f, env, ds, ln, env', hE, hm, q⟩ => ?_
  rw [i_plain hp] at hm
  obtain ⟨m, env1, hm1, hm2⟩ := bind_ok hm
  obtain ⟨hm3, e1⟩ := lift_ok hm2
  subst e1
  obtain ⟨ds', hds, e2⟩ := mapO_ok hm3
  cases e2
  refine ⟨g, f, env, m, _, hE, hm1, fun v H' f' fm p => ?_⟩
  rw [ha] at p
  have pf := p.frz
  exact q v H' f' [] p.pstI (asIt_d hds (by simpa using pf.rep.2) fun a z => by simp [z])
theorem pe_srcB {i : Nat} {n : Str} {pos : Pos} (c : Cok L T R C X) (h : nameB C i n = true) : PE X (.Name n pos) (tS L R (.bor i)) := by
  refine PE.imp (pe_name c h) fun σ H Q ⟨g, f, env, ds, ln, env', hE, hm, q⟩ => ?_
  replace hm : (match slot env i with | some m => Rs.lift (((viewD m).bind asIt).map fun ds => (ds, [(i, m)])) (env.set i none) | none => .no) = Rs.ok (ds, ln) env' := hm
  split at hm
  · rename_i m hs
    obtain ⟨hm3, e1⟩ := lift_ok hm
    subst e1
    obtain ⟨ds', hds, e2⟩ := mapO_ok hm3
    cases e2
    obtain ⟨d, hd, hds⟩ := bindO_ok hds
    obtain ⟨v, f1, f2, hv, hf, r, ok⟩ := hE.take hs
    have sub : ∀ a, a ∈ g ++ f1 ++ f2 → a ∈ g ++ f := fun a ha => by
      simp only [List.mem_append] at ha ⊢
      rcases ha with (z | z) | z
      · exact .inl z
      · exact .inr ((hf a).mpr (.inl z))
      · exact .inr ((hf a).mpr (.inr z))
    refine ⟨v, hv, q v H f2 f1 ⟨ok, fun _ _ e _ => e, fun a z => .inl ((hf a).mpr (.inr z)), fun a z => .inl ((hf a).mpr (.inl z)), v, f1, [], hv, by simp, r, rfl⟩ (asIt_m hd hds r (fun a z => by simp [z]) fun a ha m => ?_)⟩
    exact (List.nodup_append.mp ok.nd).2.2 a (List.mem_append_right _ ha) a m rfl
  · cases hm
/-! ### walks -/
/-- an iterator walks ds, whatever becomes of what the slots own (ff) -/
def WalkD (L : Lk) (O ff : List Addr) (H : Hp) (J : It) (ds : List D) : Prop := ∀ O'' H'', Mv O O'' H H'' → (∀ a o, H a = some o → a ∉ ff → H'' a = some o) → (∀ a ∈ O'', ∃ o, H'' a = some o) →
  (∀ i, i < ds.length → J.go i H'') ∧ J.stop ds.length H'' ∧ ∀ i x H3, i < ds.length → J.yld i H'' x H3 → ∃ d, ds[i]? = some d ∧ (∀ a o, H'' a = some o → H3 a = some o) ∧ RepD L O'' H3 d x
def tI (L : Lk) (R : Rt) (x : Ex) : TI := fun σ H Rr => ∃ g f env ds ln env', EnvOk L g H env σ f ∧ (ev R x).i env = .ok (ds, ln) env' ∧ ∀ J H' f' fl, PstI L g f H env ln env' σ H' f' fl → WalkD L (g ++ fl ++ f') f' H' J ds → Rr J H'
/-- the kind stands for ds as long as it is not owned by the slots -/
def KdD (L : Lk) (O ff : List Addr) (H : Hp) (k : Kd) (ds : List D) : Prop := ∀ O'' H'', Mv O O'' H H'' → (∀ a o, H a = some o → a ∉ ff → H'' a = some o) → ∃ xs, k.at L.K H'' xs ∧ RepDs L O'' H'' ds xs
theorem sg_rep (x : List Nat) : RepDs L O H (x.map fun c => .str [c]) (sgV (mkS x)) := by
  have : sgV (mkS x) = x.map fun c => V.str (mkS [c]) := by simp [sgV]
  rw [this]
  exact repD_signs
theorem SeqV.vk {ds : List D} {v : V} {ff : List Addr} {Rr : Kd → Prop} (h : SeqV L O ff H ds v) (q : ∀ k, KdD L O ff H k ds → Rr k) : Vk L.K H v Rr := by
  cases h with
  | l n h r => exact .inl ⟨_, _, rfl, .of h, q (.l _) fun O'' H'' m k => ⟨_, SqL.of (k _ _ h n), r.mv m⟩⟩
  | t h r => exact .inr (.inl ⟨_, _, rfl, h.sq, q (.t _) fun O'' H'' m k => ⟨_, (m.t h).sq, r.mv m⟩⟩)
  | s x => exact .inr (.inr ⟨mkS x, rfl, fun t => q (.s (mkS x) t) fun O'' H'' m k => ⟨_, rfl, sg_rep x⟩⟩)
theorem walk_seq {ds : List D} {ff : List Addr} {k : Kd} (h : KdD L O ff H k ds) : WalkD L O ff H (ItK L.K k) ds := by
  intro O'' H'' m kp tr
  obtain ⟨xs, ha, hr⟩ := h O'' H'' m kp
  have hl := hr.len
  cases k with
  | l a =>
    refine ⟨fun i hi => ⟨xs, xs[i]'(by omega), ha, by simp⟩, ⟨xs, ha, by omega⟩, fun i x H3 hi y => ?_⟩
    obtain ⟨e, y⟩ := y
    subst e
    obtain ⟨d, e1, e2⟩ := hr.get' (y xs ha)
    exact ⟨d, e1, fun _ _ e => e, e2⟩
  | t a =>
    refine ⟨fun i hi => ⟨xs, xs[i]'(by omega), ha, by simp⟩, ⟨xs, ha, by omega⟩, fun i x H3 hi y => ?_⟩
    obtain ⟨e, y⟩ := y
    subst e
    obtain ⟨d, e1, e2⟩ := hr.get' (y xs ha)
    exact ⟨d, e1, fun _ _ e => e, e2⟩
  | s z t =>
    have ha : xs = sgV z := ha
    subst ha
    have hz : ds.length = z.cps.size := by rw [hl]; simp [sgV]
    refine ⟨fun i hi => (show i < z.cps.size by omega), (show z.cps.size ≤ ds.length by omega), fun i x H3 hi y => ?_⟩
    obtain ⟨e, c, hc, ex⟩ := y
    subst e ex
    obtain ⟨d, e1, e2⟩ := hr.get' (i := i) (v := V.str ⟨#[c]⟩) (by simp [sgV, hc])
    exact ⟨d, e1, fun _ _ e => e, e2⟩
theorem rep_pair {a b : D} {x y : V} {T : Addr} (tr : ∀ c ∈ O, ∃ o, H c = some o) (nT : H T = none) (ra : RepD L O H a x) (rb : RepD L O H b y) : RepD L O (upd H T (.tup [x, y])) (.tup [a, b]) (.ref T) :=
  have nO : T ∉ O := fun m => by
    obtain ⟨o, e⟩ := tr T m
    rw [nT] at e; cases e
  ⟨T, [x, y], rfl, .inl ⟨nO, .inl upd_same⟩, ra.new nT, rb.new nT, trivial⟩
theorem walk_enum' {ds : List D} {ff : List Addr} {k : Kd} (h : KdD L O ff H k ds) : WalkD L O ff H (IteK L.K k) (ds.zipIdx.map fun p => .tup [.int p.2, p.1]) := by
  intro O'' H'' m kp tr
  obtain ⟨xs, ha, hr⟩ := h O'' H'' m kp
  have hl := hr.len
  refine ⟨fun i hi => ?_, ⟨xs, ha, by simp [hl]⟩, fun i x H3 hi y => ?_⟩
  · have hi : i < xs.length := by simp at hi; omega
    exact ⟨xs, xs[i], ha, by simp⟩
  · obtain ⟨T, x', e1, e2, e3, e4⟩ := y
    obtain ⟨d, f1, f2⟩ := hr.get' (e4 xs ha)
    subst e1 e3
    exact ⟨.tup [.int i, d], by simp [List.getElem?_zipIdx, f1], new_same e2, rep_pair tr e2 rfl f2⟩
theorem walk_zip' {ds ds2 : List D} {ff : List Addr} {k k2 : Kd} (h : KdD L O ff H k ds) (h2 : KdD L O ff H k2 ds2) : WalkD L O ff H (ItzK L.K k k2) ((ds.zip ds2).map fun p => .tup [p.1, p.2]) := by
  intro O'' H'' m kp tr
  obtain ⟨xs, ha, hr⟩ := h O'' H'' m kp
  obtain ⟨ys, ha2, hr2⟩ := h2 O'' H'' m kp
  have hl := hr.len
  have hl2 := hr2.len
  refine ⟨fun i hi => ?_, ⟨xs, ys, ha, ha2, by simp; omega, by simp; omega, by simp; omega⟩, fun i x H3 hi y => ?_⟩
  · have hi1 : i < xs.length := by simp at hi; omega
    have hi2 : i < ys.length := by simp at hi; omega
    exact ⟨xs, ys, xs[i], ys[i], ha, ha2, by simp, by simp⟩
  · obtain ⟨T, x', y', e1, e2, e3, e4, e5⟩ := y
    obtain ⟨d, f1, f2⟩ := hr.get' (e4 xs ha)
    obtain ⟨d2, g1, g2⟩ := hr2.get' (e5 ys ha2)
    subst e1 e3
    exact ⟨.tup [d, d2], by rw [List.getElem?_map, (List.getElem?_zip_eq_some (z := (d, d2))).mpr ⟨f1, g1⟩]; rfl, new_same e2, rep_pair tr e2 f2 g2⟩
theorem walk_rng {lo : Int} {n : Nat} {ff : List Addr} : WalkD L O ff H (Itr lo n) (rngD lo n) := by
  intro O'' H'' m kp tr
  refine ⟨fun i hi => (show i < n by simpa [rngD] using hi), (show n ≤ (rngD lo n).length by simp [rngD]), fun i x H3 hi y => ?_⟩
  have y : H3 = H'' ∧ x = V.int (lo + i) := y
  obtain ⟨e, e2⟩ := y
  subst e e2
  have hi : i < n := by simpa [rngD] using hi
  exact ⟨.int (lo + i), by simp [rngD, hi], fun _ _ e => e, rfl⟩
theorem PI.imp {tg e : Expr} {t u : TI} (h : PI X tg e t) (i : ∀ σ H Q, u σ H Q → t σ H Q) : PI X tg e u := ⟨fun pins s σ H Q I q => h.run pins s σ H Q I (i σ H Q q)⟩
/-- what holds of what is walked -/
structure SndI (L : Lk) (T : Tx) (R : Rt) (x : Ex) : Prop where
  i : ∀ C tg e, (ck T x).i C tg e = true → ∀ X, Cok L T R C X → PI X tg e (tI L R x) ∧ noSet e = true
  src : isSrc x = true → ∀ C tg e, (ck T x).i C tg e = true → ∀ X, Cok L T R C X → PE X e (tS L R x)
theorem pi_of_src {tg e : Expr} {x : Ex} (c : Cok L T R C X) (h : PE X e (tS L R x)) : PI X tg e (tI L R x) := by
  refine PI.imp (pi_seqK h) fun σ H Rr ⟨g, f, env, ds, ln, env', hE, hm, q⟩ => ⟨g, f, env, ds, ln, env', hE, hm, fun v H' f' fl p sv => ?_⟩
  rw [c.K]
  exact sv.vk fun k hk => q _ _ _ _ p (walk_seq hk)
end
end FB

set_option Elab.async false
set_option linter.all false
set_option maxRecDepth 10000
/-! FbIt2: the forms of what is walked. -/
namespace FB
open PySem PySem.Spec PyProof.Rows L2 StX
section
variable {L : Lk} {T : Tx} {R : Rt} {C : Sc} {X : Cx}
variable {g f f1 f2 : List Addr} {H H1 H2 H' : Hp} {env env1 env2 : En} {σ : L2.St} {qt : Bool} {O O' : List Addr}
theorem sndi_bor (i : Nat) : SndI L T R (.bor i) := by
  have s : ∀ C tg e, (ck T (.bor i)).i C tg e = true → ∀ X, Cok L T R C X → PE X e (tS L R (.bor i)) := by
    intro C tg e h X c
    cases e with
    | Name n p => exact pe_srcB c h
    | _ => cases h
  refine ⟨fun C tg e h X c => ⟨pi_of_src c (s C tg e h X c), ?_⟩, fun _ => s⟩
  cases e with
  | Name n p => rfl
  | _ => cases h
/-- a plain expression is walked by its value -/
theorem sndi_plain {x : Ex} (hx : Snd L T R x) (hp : plainI x = true) (ha : isAl x = false) (hk : ∀ C tg e, (ck T x).i C tg e = (noSet e && (ck T x).e C e)) : SndI L T R x := by
  have s : ∀ C tg e, (ck T x).i C tg e = true → ∀ X, Cok L T R C X → PE X e (tS L R x) := by
    intro C tg e h X c
    rw [hk, Bool.and_eq_true] at h
    exact pe_src c (hx.e C e h.2 X c) hp ha
  refine ⟨fun C tg e h X c => ⟨pi_of_src c (s C tg e h X c), ?_⟩, fun _ => s⟩
  rw [hk, Bool.and_eq_true] at h
  exact h.1
theorem pa_one {x : Expr} {t : TE} (h : PE X x t) (hs : noStar x = true) : PA X [x] (tCons t tNil) := pa_cons h pa_nil (star_cons hs)
theorem tst_i {Hx : Hp} {fx : List Addr} (t : Tst L qt g f H env env1 σ Hx fx) : PstI L g f H env [] env1 σ Hx fx [] := ⟨by simpa using t.ok, t.st, t.nf, fun _ z => (nomatch z), rfl⟩
theorem sndi_rng1 (a : Ex) (ha : Snd L T R a) : SndI L T R (.rng1 a) := by
  refine ⟨fun C tg e h X c => ?_, fun z => by cases z⟩
  cases e with
  | Call fe es ks pos =>
    cases fe with
    | Name n p =>
      cases ks with
      | cons _ _ => cases es with
        | nil => cases h
        | cons _ es => cases es <;> cases h
      | nil =>
        cases es with
        | nil => cases h
        | cons x es =>
          cases es with
          | cons _ _ => cases h
          | nil =>
            have h : (decide (n = "range") && glB C n && noStar x && !isAl a && (ck T a).e C x) = true := h
            simp only [Bool.and_eq_true, decide_eq_true_eq, Bool.not_eq_true'] at h
            obtain ⟨⟨⟨⟨h1, h2⟩, h3⟩, h5⟩, h4⟩ := h
            subst h1
            obtain ⟨h2, h2'⟩ := gl_of c h2
            obtain ⟨k, gd, hro⟩ := c.gd
            refine ⟨PI.imp (pi_range1 h2 (gd.free _ (by simp [biNames])) (pa_one (ha.e C x h4 X c) h3) (star_cons h3)) ?_, rfl⟩
            intro σ H Rr ⟨g, f, env, ds, ln, env', hE, hm, q⟩
            obtain ⟨m0, env1, hm0, hm⟩ := bind_ok hm
            split at hm
            · rename_i nn
              split at hm
              · rename_i hn
                cases hm
                refine tE_pure hE hm0 fun va H1 f1 t r => ?_
                rw [show va = .int nn from r]
                refine ⟨nn, rfl, ?_, ?_, q _ _ _ _ (tst_i t) walk_rng⟩
                · have := hn.2; omega
                · have := hn.1; have e0 : (SL : Int) = 16777216 := rfl; omega
              · cases hm
            · cases hm
    | _ => cases h
  | _ => cases h
theorem sndi_rng2 (a b : Ex) (ha : Snd L T R a) (hb : Snd L T R b) : SndI L T R (.rng2 a b) := by
  refine ⟨fun C tg e h X c => ?_, fun z => by cases z⟩
  cases e with
  | Call fe es ks pos =>
    cases fe with
    | Name n p =>
      cases ks with
      | cons _ _ => cases es with
        | nil => cases h
        | cons _ es => cases es with
          | nil => cases h
          | cons _ es => cases es <;> cases h
      | nil =>
        cases es with
        | nil => cases h
        | cons x es =>
          cases es with
          | nil => cases h
          | cons y es =>
            cases es with
            | cons _ _ => cases h
            | nil =>
              have h : (decide (n = "range") && glB C n && noStar x && noStar y && !isAl a && !isAl b && (ck T a).e C x && (ck T b).e C y) = true := h
              simp only [Bool.and_eq_true, decide_eq_true_eq, Bool.not_eq_true'] at h
              obtain ⟨⟨⟨⟨⟨⟨⟨h1, h2⟩, h3⟩, h3'⟩, h5⟩, h5'⟩, h4⟩, h4'⟩ := h
              subst h1
              obtain ⟨h2, h2'⟩ := gl_of c h2
              obtain ⟨k, gd, hro⟩ := c.gd
              refine ⟨PI.imp (pi_range2 h2 (gd.free _ (by simp [biNames])) (pa_cons (ha.e C x h4 X c) (pa_one (hb.e C y h4' X c) h3') (star_cons h3)) (by rw [star_cons h3, star_cons h3']; rfl) (star_cons h3')) ?_, rfl⟩
              intro σ H Rr ⟨g, f, env, ds, ln, env', hE, hm, q⟩
              obtain ⟨m0, env1, hm0, hm2⟩ := bind_ok hm
              obtain ⟨m1, env2, hm1, hm3⟩ := bind_ok hm2
              split at hm3
              · rename_i mm nn
                split at hm3
                · rename_i hn
                  cases hm3
                  refine tE_two (by simp [alOk, h5]) hE hm0 hm1 fun va vb H1 f1 t r r' => ?_
                  have e1 := (r _ rfl).nt
                  have e2 := (r' _ rfl).nt
                  subst e1 e2
                  refine ⟨mm, nn, rfl, ?_, q _ _ _ _ (tst_i t) walk_rng⟩
                  omega
                · cases hm3
              · cases hm3
    | _ => cases h
  | _ => cases h
theorem sndi_enum (a : Ex) (ha : SndI L T R a) : SndI L T R (.enum a) := by
  refine ⟨fun C tg e h X c => ?_, fun z => by cases z⟩
  cases e with
  | Call fe es ks pos =>
    cases fe with
    | Name n p =>
      cases ks with
      | cons _ _ => cases es with
        | nil => cases h
        | cons _ es => cases es <;> cases h
      | nil =>
        cases es with
        | nil => cases h
        | cons x es =>
          cases es with
          | cons _ _ => cases h
          | nil =>
            have h : (decide (n = "enumerate") && glB C n && noStar x && isTupE tg && isSrc a && (ck T a).i C tg x) = true := h
            simp only [Bool.and_eq_true, decide_eq_true_eq, Bool.not_eq_true'] at h
            obtain ⟨⟨⟨⟨⟨h1, h2⟩, h3⟩, h5⟩, h6⟩, h4⟩ := h
            subst h1
            cases tg with
            | Tuple elts kk tpos =>
              obtain ⟨h2, h2'⟩ := gl_of c h2
              obtain ⟨k, gd, hro⟩ := c.gd
              refine ⟨PI.imp (pi_enumK h2 (gd.free _ (by simp [biNames])) (pa_one (ha.src h6 C _ x h4 X c) h3) (star_cons h3)) ?_, rfl⟩
              intro σ H Rr ⟨g, f, env, ds, ln, env', hE, hm, q⟩
              obtain ⟨⟨ds0, ln0⟩, env1, hm0, hm⟩ := bind_ok hm
              cases hm
              refine ⟨g, f, env, ds0, ln0, _, hE, hm0, fun v H' f' fl p sv => ⟨v, rfl, ?_⟩⟩
              rw [c.K]
              exact sv.vk fun k hk => q _ _ _ _ p (walk_enum' hk)
            | _ => cases h5
    | _ => cases h
  | _ => cases h
theorem RepLn.app : ∀ {l1 l2 : List (Nat × M)} {fa fb : List Addr}, RepLn L O H σ l1 fa → RepLn L O H σ l2 fb → RepLn L O H σ (l1 ++ l2) (fa ++ fb)
  | [], _, fa, fb, h, h2 => by rw [show fa = [] from h]; exact h2
  | (i, m) :: r, _, fa, fb, ⟨v, f1, f2, e, ef, p, q⟩, h2 => ⟨v, f1, f2 ++ fb, e, by rw [ef, List.append_assoc], p, RepLn.app q h2⟩
theorem sndi_zip (a b : Ex) (ha : SndI L T R a) (hb : SndI L T R b) : SndI L T R (.zip a b) := by
  refine ⟨fun C tg e h X c => ?_, fun z => by cases z⟩
  cases e with
  | Call fe es ks pos =>
    cases fe with
    | Name n p =>
      cases ks with
      | cons _ _ => cases es with
        | nil => cases h
        | cons _ es => cases es with
          | nil => cases h
          | cons _ es => cases es <;> cases h
      | nil =>
        cases es with
        | nil => cases h
        | cons x es =>
          cases es with
          | nil => cases h
          | cons y es =>
            cases es with
            | cons _ _ => cases h
            | nil =>
              have h : (decide (n = "zip") && glB C n && noStar x && noStar y && isTupE tg && isSrc a && isSrc b && (ck T a).i C tg x && (ck T b).i C tg y) = true := h
              simp only [Bool.and_eq_true, decide_eq_true_eq, Bool.not_eq_true'] at h
              obtain ⟨⟨⟨⟨⟨⟨⟨⟨h1, h2⟩, h3⟩, h3'⟩, h5⟩, h6⟩, h6'⟩, h4⟩, h4'⟩ := h
              subst h1
              cases tg with
              | Tuple elts kk tpos =>
                obtain ⟨h2, h2'⟩ := gl_of c h2
                obtain ⟨k, gd, hro⟩ := c.gd
                refine ⟨PI.imp (pi_zipK h2 (gd.free _ (by simp [biNames])) (pa_cons (ha.src h6 C _ x h4 X c) (pa_one (hb.src h6' C _ y h4' X c) h3') (star_cons h3)) (star_cons h3) (star_none (by show (noStar y && true) = true; rw [h3']; rfl))) ?_, rfl⟩
                intro σ H Rr ⟨g, f, env, ds, ln, env', hE, hm, q⟩
                obtain ⟨⟨ds0, ln0⟩, env1, hm0, hm⟩ := bind_ok hm
                obtain ⟨⟨ds1, ln1⟩, env2, hm1, hm⟩ := bind_ok hm
                cases hm
                refine ⟨g, f, env, ds0, ln0, _, hE, hm0, fun v H1 f1 fl p sv => ⟨_, f1, env1, ds1, ln1, _, p.ok, hm1, fun v2 H2 f2 fl2 p2 sv2 => ⟨v, v2, rfl, ?_⟩⟩⟩
                rw [c.K]
                have mv12 : Mv (g ++ fl ++ f1) (g ++ fl ++ fl2 ++ f2) H1 H2 := ⟨fun a o n e => p2.st a o e fun m => n (List.mem_append_right _ m), fun a ha n => by
                  simp only [List.mem_append, not_or] at ha n
                  rcases ha with ((z | z) | z) | z
                  · exact absurd z n.1.1
                  · exact absurd z n.1.2
                  · exact (p2.nm a z).elim (fun w => absurd w n.2) id
                  · exact (p2.nf a z).elim (fun w => absurd w n.2) id⟩
                have nf2 : ∀ a o, H1 a = some o → a ∉ f1 → a ∉ f2 := fun a o e n m => by
                  rcases p2.nf a m with z | z
                  · exact n z
                  · rw [z] at e; cases e
                have sv' := sv.mv mv12 (fun a o e n => p2.st a o e n) f2 nf2
                have h1 : ∀ c o, H c = some o → c ∉ f → H1 c = some o ∧ c ∉ f1 := fun c o e n => ⟨p.st c o e n, fun m => by
                  rcases p.nf c m with z | z
                  · exact n z
                  · rw [z] at e; cases e⟩
                have hn : ∀ c, c ∈ f1 ∨ H1 c = none → c ∈ f ∨ H c = none := fun c h => by
                  rcases h with z | z
                  · exact p.nf c z
                  · by_cases n : c ∈ f
                    · exact .inl n
                    · refine .inr ?_
                      cases w : H c with
                      | none => rfl
                      | some o => rw [p.st c o w n] at z; cases z
                have pz : PstI L g f H env (ln0 ++ ln1) env' σ H2 f2 (fl ++ fl2) := by
                  refine ⟨by rw [← List.append_assoc]; exact p2.ok, fun a o e n => p2.st a o (h1 a o e n).1 (h1 a o e n).2, fun a ha => hn a (p2.nf a ha), fun a ha => ?_, ?_⟩
                  · rcases List.mem_append.mp ha with z | z
                    · exact p.nm a z
                    · exact hn a (p2.nm a z)
                  · rw [← List.append_assoc]
                    refine RepLn.app (p.rep.mv mv12 fun a o ha e => p2.st a o e fun m => ?_) p2.rep
                    exact (List.nodup_append.mp p.ok.nd).2.2 a (List.mem_append_right _ ha) a m rfl
                refine sv'.vk fun k hk => sv2.vk fun k2 hk2 => q _ _ _ _ pz ?_
                rw [← List.append_assoc]
                exact walk_zip' hk hk2
              | _ => cases h5
    | _ => cases h
  | _ => cases h
end
end FB

set_option Elab.async false
set_option linter.all false
set_option maxRecDepth 10000
/-! FbTg: targets. -/
namespace FB
open PySem PySem.Spec PyProof.Rows L2 StX
section
variable {L : Lk} {T : Tx} {R : Rt} {C : Sc} {X : Cx}
variable {g f f1 f2 : List Addr} {H H1 H2 H' : Hp} {env env1 env2 : En} {σ : L2.St} {qt : Bool} {O O' : List Addr}
theorem loc_of (c : Cok L T R C X) {i : Nat} {n : Str} (h : locB C i n = true) : X.N[i]? = some n ∧ L2.Loc X.env.scope n ∧ (X.fn n = true ∨ X.env.scope.names.lookup n = some .local) := by
  unfold locB at h
  simp only [Bool.and_eq_true, decide_eq_true_eq] at h
  obtain ⟨h1, h2⟩ := h
  refine ⟨by rw [c.N]; exact h1, ?_⟩
  unfold L2.Loc
  rw [c.sc, c.fn]
  split at h2
  · rename_i e; rw [e]; exact ⟨.inl rfl, .inr rfl⟩
  · rename_i e; rw [e]; exact ⟨.inr rfl, .inl h2⟩
  · cases h2
theorem pg_loc (c : Cok L T R C X) {i : Nat} {n : Str} {pos : Pos} (h : locB C i n = true) : PG X (.Name n pos) (gName i) := by
  obtain ⟨h1, h2, h3⟩ := loc_of c h
  exact pg_name c.nd h1 h2 h3
def gsOf : List Nat → TGs
  | [] => gNil
  | i :: is => gCons (gName i) (gsOf is)
theorem pgs_ns (c : Cok L T R C X) : ∀ {is : List Nat} {es : List Expr}, ckNs C is es = true → PGs X es (gsOf is) ∧ (assignEach es X.env).length = is.length ∧ (assignEach es X.env).findIdx? (·.1) = none
  | [], [], _ => ⟨pgs_nil, rfl, rfl⟩
  | [], _ :: _, h => by cases h
  | i :: is, [], h => by cases h
  | i :: is, e :: es, h => by
    cases e with
    | Name n p =>
      have h : (locB C i n && ckNs C is es) = true := h
      rw [Bool.and_eq_true] at h
      obtain ⟨a, b, d⟩ := pgs_ns c h.2
      have e : assignEach (.Name n p :: es) X.env = (false, assign (.Name n p) X.env) :: assignEach es X.env := rfl
      refine ⟨pgs_cons (pg_loc c h.1) a, ?_, ?_⟩
      · rw [e]; simp [b]
      · rw [e, List.findIdx?_cons]
        simp [d]
    | _ => cases h
/-- a plain value into a slot -/
theorem EnvOk.putD {i : Nat} {d : D} {v : V} (h : EnvOk L g H env σ f) (r : RepD L (g ++ f) H d v) : ∃ f', (∀ a ∈ f', a ∈ f) ∧ EnvOk L g H (env.set i (some (.pure d))) (σ.set i (some v)) f' := by
  by_cases l : i < env.length
  · obtain ⟨f', s, ok⟩ := EnvOk.put (f1 := []) (m := .pure d) (v := v) (by simpa using h) (by simpa using (show RepM L (g ++ f) H (.pure d) v [] from ⟨rfl, r⟩)) l
    exact ⟨f', fun a ha => (s a ha).elim (fun z => nomatch z) id, ok⟩
  · rw [List.set_eq_of_length_le (by omega), List.set_eq_of_length_le (by rw [← h.len]; omega)]
    exact ⟨f, fun _ z => z, h⟩
theorem gs_run : ∀ {is : List Nat} {ds : List D} {vs : List V} {env env' : En} {σ : L2.St} {f : List Addr} {Q : L2.St → Hp → Prop}, setAll is ds env = some env' → EnvOk L g H env σ f → RepDs L (g ++ f) H ds vs →
    (∀ σ' f', EnvOk L g H env' σ' f' → (∀ a ∈ f', a ∈ f) → (∀ j, j ∉ is → σ'[j]? = σ[j]?) → σ'.length = σ.length → Q σ' H) → gsOf is vs σ H Q
  | [], [], vs, env, env', σ, f, Q, h, e, r, q => by
    cases h
    cases vs with
    | cons _ _ => exact r.elim
    | nil => exact ⟨rfl, q σ f e (fun _ z => z) (fun _ _ => rfl) rfl⟩
  | i :: is, d :: ds, vs, env, env', σ, f, Q, h, e, r, q => by
    cases vs with
    | nil => exact r.elim
    | cons v vs =>
      obtain ⟨f', s, ok⟩ := EnvOk.putD (i := i) e r.1
      refine ⟨v, vs, rfl, gs_run h ok (r.2.mv (Mv.less fun a ha => (List.mem_append.mp ha).elim (List.mem_append_left _) fun z => List.mem_append_right _ (s a z))) fun σ' f'' e2 s2 u l => ?_⟩
      refine q σ' f'' e2 (fun a ha => s a (s2 a ha)) (fun j hj => ?_) (by rw [l, List.length_set])
      rw [u j fun z => hj (List.mem_cons_of_mem _ z), List.getElem?_set_ne]
      exact fun z => hj (z ▸ List.mem_cons_self)
  | [], _ :: _, _, _, _, _, _, _, h, _, _, _ => by cases h
  | _ :: _, [], _, _, _, _, _, _, h, _, _, _ => by cases h
/-- the reading of a target -/
def tG (L : Lk) (tg : Tg) : TG := fun v σ H Q => ∃ g f env d env', EnvOk L g H env σ f ∧ RepD L (g ++ f) H d v ∧ bindTg tg d env = some env' ∧
  ∀ σ' f', EnvOk L g H env' σ' f' → (∀ a ∈ f', a ∈ f) → (∀ j, j ∉ tg.slots → σ'[j]? = σ[j]?) → σ'.length = σ.length → Q σ' H
theorem PG.imp {e : Expr} {t u : TG} (h : PG X e t) (i : ∀ v σ H Q, u v σ H Q → t v σ H Q) : PG X e u := ⟨fun pins s σ H v w Q I r q => h.run pins s σ H v w Q I r (i v σ H Q q)⟩
theorem PG.or {e : Expr} {t u : TG} (h : PG X e t) (k : PG X e u) : PG X e (fun v σ H Q => t v σ H Q ∨ u v σ H Q) := ⟨fun pins s σ H v w Q I r q => q.elim (h.run pins s σ H v w Q I r) (k.run pins s σ H v w Q I r)⟩
theorem setAll_len : ∀ {is : List Nat} {ds : List D} {env env' : En}, setAll is ds env = some env' → ds.length = is.length
  | [], [], _, _, _ => rfl
  | _ :: _, _ :: _, _, _, h => congrArg Nat.succ (setAll_len h)
  | [], _ :: _, _, _, h => by cases h
  | _ :: _, [], _, _, h => by cases h
theorem pg_tg (c : Cok L T R C X) {tg : Tg} {e : Expr} (h : ckTg C tg e = true) : PG X e (tG L tg) := by
  cases tg with
  | one i =>
    cases e with
    | Name n p =>
      refine PG.imp (pg_loc c h) fun v σ H Q ⟨g, f, env, d, env', hE, r, hb, q⟩ => ?_
      cases hb
      obtain ⟨f', s, ok⟩ := EnvOk.putD (i := i) hE r
      refine q _ f' ok s (fun j hj => ?_) (by rw [List.length_set])
      rw [List.getElem?_set_ne]
      exact fun z => hj (z ▸ List.mem_cons_self)
    | _ => cases h
  | tup is =>
    cases e with
    | Tuple es k p =>
      obtain ⟨a, b, d⟩ := pgs_ns c (show ckNs C is es = true from h)
      refine PG.imp (PG.or (pg_tup c.calm a b d) (pg_unl c.calm a b d)) fun v σ H Q ⟨g, f, env, d, env', hE, r, hb, q⟩ => ?_
      cases d with
      | tup ds =>
        obtain ⟨p, vs, e1, hr, rd⟩ := r
        have hs : setAll is ds env = some env' := hb
        have := hr.sq
        rw [← c.K] at this
        exact .inl ⟨p, vs, e1, this, by rw [← rd.len, setAll_len hs], gs_run hs hE rd q⟩
      | lst ds =>
        obtain ⟨p, vs, e1, hr, rd⟩ := r
        have hs : setAll is ds env = some env' := hb
        exact .inr ⟨p, vs, e1, .of hr.2, by rw [← rd.len, setAll_len hs], gs_run hs hE rd q⟩
      | _ => cases hb
    | _ => cases h
end
end FB

set_option Elab.async false
set_option linter.all false
set_option maxRecDepth 10000
/-! FbLc: list comprehensions. -/
namespace FB
open PySem PySem.Spec PyProof.Rows L2 StX
section
variable {L : Lk} {T : Tx} {R : Rt} {C : Sc} {X : Cx}
variable {g f f1 f2 : List Addr} {H H1 H2 H' : Hp} {env env1 env2 : En} {σ σ' : L2.St} {qt : Bool} {O O' : List Addr}
theorem RepO.agree : ∀ {env : En} {σ σ' : L2.St} {f : List Addr}, RepO L O H env σ f → (∀ i, slot env i ≠ none → σ'[i]? = σ[i]?) → σ'.length = σ.length → RepO L O H env σ' f
  | [], [], σ', f, h, _, l => by
    have : σ' = [] := List.eq_nil_of_length_eq_zero l
    subst this; exact h
  | none :: ms, u :: vs, [], f, h, _, l => by simp at l
  | none :: ms, u :: vs, u' :: vs', f, h, k, l => RepO.agree (env := ms) (σ := vs) (σ' := vs') h (fun i hi => by
      have := k (i + 1) (by simpa [slot] using hi)
      simpa using this) (by simpa using l)
  | some m :: ms, u :: vs, [], f, h, _, l => by simp at l
  | some m :: ms, u :: vs, u' :: vs', f, ⟨v, f1, f2, e, ef, r, q⟩, k, l => by
    have e0 := k 0 (by simp [slot])
    have e0 : u' = u := by simpa using e0
    exact ⟨v, f1, f2, by rw [e0, e], ef, r, RepO.agree (env := ms) (σ := vs) (σ' := vs') q (fun i hi => by
      have := k (i + 1) (by simpa [slot] using hi)
      simpa using this) (by simpa using l)⟩
theorem EnvOk.agree (h : EnvOk L g H env σ f) (k : ∀ i, slot env i ≠ none → σ'[i]? = σ[i]?) (l : σ'.length = σ.length) : EnvOk L g H env σ' f := ⟨h.nd, h.tr, h.rep.agree k l⟩
theorem slot_set_ne {env : En} {i j : Nat} {x : Option M} (h : i ≠ j) : slot (env.set i x) j = slot env j := by
  unfold slot; rw [List.getElem?_set_ne h]
theorem slot_wipe {env : En} : ∀ {is : List Nat} {j : Nat}, slot (wipeE env is) j ≠ none → j ∉ is
  | [], j, _ => by simp
  | i :: is, j, h => by
    have h : slot ((wipeE env is).set i none) j ≠ none := h
    by_cases e : i = j
    · subst e; exact absurd (slot_none _ _) h
    · rw [slot_set_ne e] at h
      exact fun m => (List.mem_cons.mp m).elim (fun z => e z.symm) (slot_wipe h)
theorem EnvOk.wip : ∀ {is : List Nat} {f : List Addr}, EnvOk L g H env σ f → ∃ f', (∀ a ∈ f', a ∈ f) ∧ EnvOk L g H (wipeE env is) σ f'
  | [], f, h => ⟨f, fun _ z => z, h⟩
  | i :: is, f, h => by
    obtain ⟨f1, s1, h1⟩ := EnvOk.wip (is := is) h
    obtain ⟨f2, s2, h2⟩ := h1.drop i
    exact ⟨f2, fun a z => s1 a (s2 a z), h2⟩
theorem wipe_get {σ : L2.St} : ∀ {vs : List Nat} {i : Nat}, i ∉ vs → (wipe σ vs)[i]? = σ[i]?
  | [], _, _ => rfl
  | v :: vs, i, h => by
    show ((wipe σ vs).set v none)[i]? = _
    have e : v ≠ i := fun z => h (by rw [z]; exact List.mem_cons_self)
    rw [List.getElem?_set_ne e, wipe_get fun z => h (List.mem_cons_of_mem _ z)]
theorem wipe_in {σ : L2.St} : ∀ {vs : List Nat} {i : Nat}, i ∈ vs → i < σ.length → (wipe σ vs)[i]? = some none
  | v :: vs, i, h, l => by
    show ((wipe σ vs).set v none)[i]? = _
    by_cases e : v = i
    · subst e; rw [List.getElem?_set_self (by rw [wipe_length]; exact l)]
    · rw [List.getElem?_set_ne e]
      exact wipe_in ((List.mem_cons.mp h).elim (fun z => absurd z.symm e) id) l
theorem wipe_eq {σ σ2 : L2.St} {vs : List Nat} (h : ∀ j, j ∉ vs → σ2[j]? = (wipe σ vs)[j]?) (l : σ2.length = (wipe σ vs).length) : wipe σ2 vs = wipe σ vs := by
  rw [wipe_length] at l
  refine List.ext_getElem? fun j => ?_
  by_cases m : j ∈ vs
  · by_cases hj : j < σ.length
    · rw [wipe_in m (by omega), wipe_in m hj]
    · rw [List.getElem?_eq_none (by rw [wipe_length]; omega), List.getElem?_eq_none (by rw [wipe_length]; omega)]
  · rw [wipe_get m, h j m]
theorem EnvOk.wiped {is : List Nat} (h : EnvOk L g H (wipeE env is) σ f) : EnvOk L g H (wipeE env is) (wipe σ is) f := h.agree (fun i hi => wipe_get (slot_wipe hi)) (wipe_length _ _)
theorem EnvOk.unwiped {is : List Nat} (h : EnvOk L g H (wipeE env is) (wipe σ is) f) : EnvOk L g H (wipeE env is) σ f := h.agree (fun i hi => (wipe_get (slot_wipe hi)).symm) (wipe_length _ _).symm
theorem wipeE_set {env : En} {x : Option M} {i : Nat} : ∀ {is : List Nat}, i ∉ is → wipeE (env.set i x) is = (wipeE env is).set i x
  | [], _ => rfl
  | j :: is, h => by
    show (wipeE (env.set i x) is).set j none = ((wipeE env is).set j none).set i x
    rw [wipeE_set fun z => h (List.mem_cons_of_mem _ z)]
    exact List.set_comm _ _ fun e => h (e ▸ List.mem_cons_self)
theorem wipeE_len {env : En} : ∀ {is : List Nat}, (wipeE env is).length = env.length
  | [] => rfl
  | j :: is => by
    show ((wipeE env is).set j none).length = _
    rw [List.length_set, wipeE_len]
/-- plain values come back -/
theorem back_ok {old : En} : ∀ {is : List Nat} {env e' : En} {f : List Addr}, is.Nodup → backE old is env = some e' → EnvOk L g H (wipeE env is) σ f → (∀ i d, slot old i = some (.pure d) → ∃ v, σ[i]? = some (some v) ∧ RepD L (g ++ f) H d v) →
    ∃ f', (∀ a ∈ f', a ∈ f) ∧ EnvOk L g H e' σ f'
  | [], env, e', f, _, h, e, _ => by cases h; exact ⟨f, fun _ z => z, e⟩
  | i :: is, env, e', f, nd, h, e, k => by
    obtain ⟨n1, n2⟩ := List.nodup_cons.mp nd
    have e : EnvOk L g H ((wipeE env is).set i none) σ f := e
    unfold backE at h
    split at h
    · refine back_ok n2 h ?_ k
      rw [wipeE_set n1]; exact e
    · rename_i d hd
      obtain ⟨v, hv, r⟩ := k i d hd
      obtain ⟨f', s, e2⟩ := EnvOk.putD (i := i) e r
      rw [List.set_set, set_self (i := i) hv] at e2
      obtain ⟨f'', s2, e3⟩ := back_ok (f := f') n2 h (by rw [wipeE_set n1]; exact e2) fun j d' hj => by
        obtain ⟨v', hv', r'⟩ := k j d' hj
        exact ⟨v', hv', r'.mv (Mv.less fun a ha => (List.mem_append.mp ha).elim (List.mem_append_left _) fun z => List.mem_append_right _ (s a z))⟩
      exact ⟨f'', fun a z => s a (s2 a z), e3⟩
    · cases h
/-- what was lent comes back -/
theorem giveL_ok : ∀ {ln : List (Nat × M)} {g fl f : List Addr} {env e' : En}, giveL ln env = some e' → EnvOk L (g ++ fl) H env σ f → RepLn L (g ++ fl ++ f) H σ ln fl → ∃ f', (∀ a ∈ f', a ∈ fl ∨ a ∈ f) ∧ EnvOk L g H e' σ f'
  | [], g, fl, f, env, e', h, e, r => by
    cases h
    have r : fl = [] := r
    subst r
    exact ⟨f, fun _ z => .inr z, by simpa using e⟩
  | (i, m) :: ln, g, fl, f, env, e', h, e, ⟨v, fa, fb, hv, ef, rm, rl⟩ => by
    subst ef
    obtain ⟨e1, h1, h2⟩ := bindO_ok h
    obtain ⟨f', s, e2⟩ := giveL_ok (g := g ++ fa) (fl := fb) h1 (by rw [List.append_assoc]; exact e) (by rw [List.append_assoc g fa fb]; exact rl)
    split at h2
    · split at h2
      · rename_i hi
        cases h2
        obtain ⟨f'', s2, e3⟩ := e2.put (m := m) (v := v) (i := i) (f1 := fa) (g := g) (rm.mv (Mv.less fun a ha => by
          simp only [List.mem_append] at ha ⊢
          rcases ha with (z | z) | z
          · exact .inl (.inl z)
          · exact .inl (.inr (.inl z))
          · exact (s a z).elim (fun w => .inl (.inr (.inr w))) .inr) fun _ _ _ e => e) hi
        rw [set_self (i := i) hv] at e3
        refine ⟨f'', fun a z => ?_, e3⟩
        rcases s2 a z with w | w
        · exact .inl (List.mem_append_left _ w)
        · exact (s a w).imp (List.mem_append_right _) id
      · cases h2
    · cases h2
end
end FB

set_option Elab.async false
set_option linter.all false
set_option maxRecDepth 10000
/-! FbLc2: a comprehension's loop. -/
namespace FB
open PySem PySem.Spec PyProof.Rows L2 StX
section
variable {L : Lk} {T : Tx} {R : Rt} {C : Sc} {X : Cx}
variable {g f f1 f2 : List Addr} {H H1 H2 H' : Hp} {env env1 env2 : En} {σ σ' : L2.St} {qt : Bool} {O O' : List Addr}
theorem RepMs.app : ∀ {ms ns : List M} {vs us : List V} {fa fb : List Addr}, RepMs L O H ms vs fa → RepMs L O H ns us fb → RepMs L O H (ms ++ ns) (vs ++ us) (fa ++ fb)
  | [], _, [], _, fa, fb, h, h2 => by rw [show fa = [] from h]; exact h2
  | m :: ms, _, v :: vs, _, fa, fb, ⟨f1, f2, e, p, q⟩, h2 => ⟨f1, f2 ++ fb, by rw [e, List.append_assoc], p, RepMs.app q h2⟩
theorem Tst.mv (t : Tst L qt g f H env env1 σ H1 f1) : Mv (g ++ f) (g ++ f1) H H1 := ⟨fun a o n e => t.st a o e fun m => n (List.mem_append_right _ m), fun a ha n => by
  rcases List.mem_append.mp ha with z | z
  · exact absurd (List.mem_append_left _ z) n
  · exact (t.nf a z).elim (fun w => absurd (List.mem_append_right _ w) n) id⟩
theorem Pst.mvv {qt : Bool} {fm : List Addr} {m : M} {v : V} (p : Pst L false qt g f H env m env1 σ v H1 f1 fm) : Mv (g ++ f) (g ++ fm ++ f1) H H1 := ⟨fun a o n e => p.st a o e fun m => n (List.mem_append_right _ m), fun a ha n => by
  simp only [List.mem_append, not_or] at ha n
  rcases ha with (z | z) | z
  · exact absurd z n.1
  · exact (p.nm a z).elim (fun w => absurd w n.2) id
  · exact (p.nf a z).elim (fun w => absurd w n.2) id⟩
theorem Mv.trans {O'' : List Addr} {H'' : Hp} (a : Mv O O' H H') (b : Mv O' O'' H' H'') : Mv O O'' H H'' where
  keep := fun x o n e => by
    have e1 := a.keep x o n e
    refine b.keep x o (fun m => ?_) e1
    rw [a.new x m n] at e; cases e
  new := fun x m n => by
    by_cases h : x ∈ O'
    · exact a.new x h n
    · have z := b.new x m h
      cases q : H x with
      | none => rfl
      | some o => rw [a.keep x o n q] at z; cases z
/-- the state of a comprehension's loop ahead of a turn: the new list is at D -/
structure LcSt (L : Lk) (g0 f1 : List Addr) (H1 : Hp) (σ : L2.St) (vs : List Nat) (D : Addr) (env : En) (acc : List M) (H : Hp) (f fa : List Addr) (xs : List V) (ob : HO) : Prop where
  ok : EnvOk L (g0 ++ (D :: fa)) H (wipeE env vs) (wipe σ vs) f
  at_ : H D = some ob
  rep : RepMs L (g0 ++ (D :: fa) ++ f) H acc xs fa
  st : ∀ a o, H1 a = some o → a ∉ f1 → H a = some o
  nf : ∀ a ∈ f, a ∈ f1 ∨ H1 a = none
  nm : ∀ a ∈ fa, a ∈ f1 ∨ H1 a = none
theorem LcSt.mv {ob : HO} {vs : List Nat} {D : Addr} {acc : List M} {fa : List Addr} {xs : List V} {g0 : List Addr} (s : LcSt L g0 f1 H1 σ vs D env acc H f fa xs ob) (hD : H1 D = none) : Mv (g0 ++ f1) (g0 ++ (D :: fa) ++ f) H1 H :=
  ⟨fun a o n e => s.st a o e fun m => n (List.mem_append_right _ m), fun a ha n => by
    simp only [List.mem_append, List.mem_cons, not_or] at ha n
    rcases ha with (z | z | z) | z
    · exact absurd z n.1
    · rw [z]; exact hD
    · exact (s.nm a z).elim (fun w => absurd w n.2) id
    · exact (s.nf a z).elim (fun w => absurd w n.2) id⟩
/-- the loop begins -/
theorem lc_begin {o0 : HO} {g0 : List Addr} {vs : List Nat} {D : Addr} (ok : EnvOk L g0 H1 env1 σ f1) (hD : H1 D = none) : ∃ f, LcSt L g0 f1 H1 σ vs D env1 [] (upd H1 D o0) f [] [] o0 := by
  obtain ⟨f, s, e⟩ := EnvOk.wip (is := vs) ok
  have e2 := e.wiped
  have npO : D ∉ g0 ++ f := fun m => by
    obtain ⟨o, e'⟩ := e.trf D m
    rw [hD] at e'; cases e'
  have pm : (g0 ++ [D] ++ f).Perm (D :: (g0 ++ f)) := by
    rw [List.append_assoc]
    exact List.perm_middle
  refine ⟨f, ⟨⟨pm.nodup_iff.mpr (List.nodup_cons.mpr ⟨npO, e2.nd⟩), fun a ha => ?_, e2.rep.mv ⟨fun a o _ e => new_same hD a o e, fun a ha n => ?_⟩ fun a o _ e => new_same hD a o e⟩, upd_same, rfl, fun a o e _ => new_same hD a o e, fun a z => .inl (s a z), fun _ z => (nomatch z)⟩⟩
  · rcases List.mem_append.mp ha with z | z
    · obtain ⟨o, e'⟩ := ok.tr a z
      exact ⟨o, new_same hD a o e'⟩
    · rw [List.mem_singleton.mp z]; exact ⟨_, upd_same⟩
  · rcases List.mem_cons.mp (pm.mem_iff.mp ha) with z | z
    · rw [z]; exact hD
    · exact absurd z n
/-- a turn that gives nothing -/
theorem LcSt.skip {ob : HO} {vs : List Nat} {D : Addr} {acc : List M} {fa : List Addr} {xs : List V} {g0 : List Addr} {envb envc : En} {σ2 : L2.St} {H3 H4 : Hp} {f4 : List Addr} {fb : List Addr} {qa : Bool} (s : LcSt L g0 f1 H1 σ vs D env acc H f fa xs ob)
    (ext : ∀ a o, H a = some o → H3 a = some o) (sb : ∀ a ∈ fb, a ∈ f) (hw : wipe σ2 vs = wipe σ vs) (t : Tst L qa (g0 ++ (D :: fa)) fb H3 envb envc σ2 H4 f4) : ∃ f', LcSt L g0 f1 H1 σ vs D envc acc H4 f' fa xs ob := by
  obtain ⟨f', s', e⟩ := EnvOk.wip (is := vs) t.ok
  have e2 := e.wiped
  rw [hw] at e2
  have nD : ∀ a, a ∈ g0 ++ (D :: fa) → a ∉ fb := fun a ha m => (List.nodup_append.mp s.ok.nd).2.2 a ha a (sb a m) rfl
  have k34 : ∀ a o, H a = some o → a ∉ fb → H4 a = some o := fun a o e n => t.st a o (ext a o e) n
  refine ⟨f', ⟨e2, k34 D _ s.at_ (nD D (List.mem_append_right _ List.mem_cons_self)), ?_, fun a o e n => ?_, fun a ha => ?_, s.nm⟩⟩
  · refine s.rep.mv ⟨fun a o n e => k34 a o e fun m => n (List.mem_append_right _ (sb a m)), fun a ha n => ?_⟩ fun a o ha e => k34 a o e (nD a (List.mem_append_right _ (List.mem_cons_of_mem _ ha)))
    rcases List.mem_append.mp ha with z | z
    · exact absurd (List.mem_append_left _ z) n
    · rcases t.nf a (s' a z) with w | w
      · exact absurd (List.mem_append_right _ (sb a w)) n
      · cases q : H a with
        | none => rfl
        | some o => rw [ext a o q] at w; cases w
  · refine k34 a o (s.st a o e n) fun m => ?_
    rcases s.nf a (sb a m) with w | w
    · exact n w
    · rw [w] at e; cases e
  · rcases t.nf a (s' a ha) with w | w
    · exact s.nf a (sb a w)
    · by_cases n : a ∈ f1
      · exact .inl n
      · refine .inr ?_
        cases q : H1 a with
        | none => rfl
        | some o => rw [ext a o (s.st a o q n)] at w; cases w
/-- a turn that gives an item -/
theorem LcSt.item {ob : HO} {vs : List Nat} {D : Addr} {acc : List M} {fa : List Addr} {xs : List V} {g0 : List Addr} {envb envd : En} {σ2 : L2.St} {H3 H5 : Hp} {f5 : List Addr} {fb fm : List Addr} {m : M} {v : V} {qa : Bool} (hD : H1 D = none) (s : LcSt L g0 f1 H1 σ vs D env acc H f fa xs ob)
    (ext : ∀ a o, H a = some o → H3 a = some o) (sb : ∀ a ∈ fb, a ∈ f) (hw : wipe σ2 vs = wipe σ vs) (p : Pst L false qa (g0 ++ (D :: fa)) fb H3 envb m envd σ2 v H5 f5 fm) :
    H5 D = some ob ∧ ∀ on : HO, ∃ f', LcSt L g0 f1 H1 σ vs D envd (acc ++ [m]) (upd H5 D on) f' (fa ++ fm) (xs ++ [v]) on := by
  have eg : g0 ++ (D :: (fa ++ fm)) = g0 ++ (D :: fa) ++ fm := by simp
  have ok5 : EnvOk L (g0 ++ (D :: (fa ++ fm))) H5 envd σ2 f5 := by rw [eg]; exact p.ok
  obtain ⟨f', s', e⟩ := EnvOk.wip (is := vs) ok5
  have e2 := e.wiped
  rw [hw] at e2
  have nD : ∀ a, a ∈ g0 ++ (D :: fa) → a ∉ fb := fun a ha m => (List.nodup_append.mp s.ok.nd).2.2 a ha a (sb a m) rfl
  have k35 : ∀ a o, H a = some o → a ∉ fb → H5 a = some o := fun a o e n => p.st a o (ext a o e) n
  have at5 := k35 D _ s.at_ (nD D (List.mem_append_right _ List.mem_cons_self))
  have DO : D ∈ g0 ++ (D :: (fa ++ fm)) := List.mem_append_right _ List.mem_cons_self
  have nDf : D ∉ f' := fun m => (List.nodup_append.mp e2.nd).2.2 D DO D m rfl
  have nd5 := p.ok.nd
  have nDr : ∀ a, a ∈ fa ∨ a ∈ fm → a ≠ D := by
    have h1 := ok5.nd
    have h2 := (List.nodup_append.mp (List.nodup_append.mp h1).1).2.1
    have h3 := (List.nodup_cons.mp h2).1
    intro a ha e
    subst e
    exact h3 (List.mem_append.mpr ha)
  refine ⟨at5, fun on => ?_⟩
  have un : ∀ a o, H5 a = some o → a ≠ D → upd H5 D on a = some o := fun a o e n => by rw [upd_ne n]; exact e
  have mvD : ∀ {P : List Addr}, D ∈ P → Mv P P H5 (upd H5 D on) := fun {P} h => ⟨fun a o n e => un a o e fun z => n (z ▸ h), fun a m n => absurd m n⟩
  refine ⟨f', ⟨⟨e2.nd, fun a ha => ?_, e2.rep.mv (mvD (List.mem_append_left _ DO)) fun a o ha e => un a o e fun z => nDf (z ▸ ha)⟩, upd_same, ?_, fun a o eo n => ?_, fun a ha => ?_, fun a ha => ?_⟩⟩
  · by_cases z : a = D
    · subst z; exact ⟨_, upd_same⟩
    · obtain ⟨o, e'⟩ := e2.tr a ha
      exact ⟨o, un a o e' z⟩
  · have hn5 : ∀ a, a ∈ g0 ++ (D :: (fa ++ fm)) ++ f' → a ∉ g0 ++ (D :: fa) ++ f → H a = none := fun a ha n => by
      have back : a ∈ fb ∨ H3 a = none → H a = none := fun h => by
        rcases h with w | w
        · exact absurd (List.mem_append_right _ (sb a w)) n
        · cases q : H a with
          | none => rfl
          | some o => rw [ext a o q] at w; cases w
      rw [eg] at ha
      rcases List.mem_append.mp ha with z | z
      · rcases List.mem_append.mp z with w | w
        · exact absurd (List.mem_append_left _ w) n
        · exact back (p.nm a w)
      · exact back (p.nf a (s' a z))
    have rep5 : RepMs L (g0 ++ (D :: (fa ++ fm)) ++ f') H5 acc xs fa := s.rep.mv ⟨fun a o n e => k35 a o e fun m => n (List.mem_append_right _ (sb a m)), hn5⟩ fun a o ha e => k35 a o e (nD a (List.mem_append_right _ (List.mem_cons_of_mem _ ha)))
    have repm : RepM L (g0 ++ (D :: (fa ++ fm)) ++ f') H5 m v fm := p.rep.mv (Mv.less fun a ha => by
      rw [eg] at ha
      exact (List.mem_append.mp ha).elim (List.mem_append_left _) fun z => List.mem_append_right _ (s' a z)) fun _ _ _ e => e
    have DP : D ∈ g0 ++ (D :: (fa ++ fm)) ++ f' := List.mem_append_left _ DO
    refine RepMs.app (rep5.mv (mvD DP) fun a o ha e => un a o e (nDr a (.inl ha))) ⟨fm, [], by simp, repm.mv (mvD DP) fun a o ha e => un a o e (nDr a (.inr ha)), rfl⟩
  · refine un a o (k35 a o (s.st a o eo n) fun m => ?_) fun z => ?_
    · rcases s.nf a (sb a m) with w | w
      · exact n w
      · rw [w] at eo; cases eo
    · subst z; rw [hD] at eo; cases eo
  · have back : a ∈ fb ∨ H3 a = none → a ∈ f1 ∨ H1 a = none := fun h => by
      rcases h with w | w
      · exact s.nf a (sb a w)
      · by_cases n : a ∈ f1
        · exact .inl n
        · refine .inr ?_
          cases q : H1 a with
          | none => rfl
          | some o => rw [ext a o (s.st a o q n)] at w; cases w
    exact back (p.nf a (s' a ha))
  · have back : a ∈ fb ∨ H3 a = none → a ∈ f1 ∨ H1 a = none := fun h => by
      rcases h with w | w
      · exact s.nf a (sb a w)
      · by_cases n : a ∈ f1
        · exact .inl n
        · refine .inr ?_
          cases q : H1 a with
          | none => rfl
          | some o => rw [ext a o (s.st a o q n)] at w; cases w
    rcases List.mem_append.mp ha with z | z
    · exact s.nm a z
    · exact back (p.nm a z)
end
end FB

set_option Elab.async false
set_option linter.all false
set_option maxRecDepth 10000
/-! FbLc3: list comprehensions, whole. -/
namespace FB
open PySem PySem.Spec PyProof.Rows L2 StX
section
variable {L : Lk} {T : Tx} {R : Rt} {C : Sc} {X : Cx}
variable {g f f1 f2 : List Addr} {H H1 H2 H' : Hp} {env env1 env2 : En} {σ σ' : L2.St} {qt : Bool} {O O' : List Addr}
/-- the end of a comprehension: everything back in its place -/
theorem lc_end {fl : List Addr} {ln : List (Nat × M)} {is : List Nat} {D : Addr} {acc : List M} {fa : List Addr} {xs : List V} {envb env3 : En} {ob : HO} (p : PstI L g f H env ln env1 σ H1 f1 fl) (hD : H1 D = none) (nd : is.Nodup)
    (s : LcSt L (g ++ fl) f1 H1 σ is D env2 acc H' f2 fa xs ob) (hb : backE env1 is env2 = some envb) (hg : giveL ln envb = some env3) :
    ∃ f3, Own L g f H env3 σ H' f3 (D :: fa) ∧ RepMs L (g ++ (D :: fa) ++ f3) H' acc xs fa := by
  have m1 : Mv (g ++ fl ++ f1) (g ++ fl ++ (D :: fa) ++ f2) H1 H' := s.mv hD
  obtain ⟨fb, sb, e1⟩ := back_ok nd hb s.ok.unwiped fun i d hd => by
    obtain ⟨v, hv, r⟩ := p.ok.slotD hd
    exact ⟨v, hv, r.mv m1⟩
  have pm : (g ++ fl ++ (D :: fa)).Perm (g ++ (D :: fa) ++ fl) := by
    rw [List.append_assoc, List.append_assoc]
    exact List.Perm.append_left g List.perm_append_comm
  have e2 : EnvOk L (g ++ (D :: fa) ++ fl) H' envb σ fb := e1.perm pm.symm
  have sub2 : ∀ a, a ∈ g ++ (D :: fa) ++ fl ++ fb → a ∈ g ++ fl ++ (D :: fa) ++ f2 := fun a ha => by
    rcases List.mem_append.mp ha with z | z
    · exact List.mem_append_left _ (pm.mem_iff.mpr z)
    · exact List.mem_append_right _ (sb a z)
  have dfl : ∀ a ∈ fl, a ∉ f1 := fun a ha m => (List.nodup_append.mp p.ok.nd).2.2 a (List.mem_append_right _ ha) a m rfl
  have rl : RepLn L (g ++ (D :: fa) ++ fl ++ fb) H' σ ln fl := (p.rep.mv m1 fun a o ha e => s.st a o e (dfl a ha)).mv (Mv.less sub2) fun _ _ _ e => e
  obtain ⟨f3, s3, e3⟩ := giveL_ok hg e2 rl
  have n1 : ∀ c, c ∈ f1 ∨ H1 c = none → c ∈ f ∨ H c = none := fun c h => by
    rcases h with z | z
    · exact p.nf c z
    · by_cases n : c ∈ f
      · exact .inl n
      · refine .inr ?_
        cases q : H c with
        | none => rfl
        | some o => rw [p.st c o q n] at z; cases z
  refine ⟨f3, ⟨e3, fun a o e n => s.st a o (p.st a o e n) fun m => ?_, fun a ha => ?_, fun a ha => ?_⟩, s.rep.mv (Mv.less fun a ha => ?_) fun _ _ _ e => e⟩
  · rcases p.nf a m with z | z
    · exact n z
    · rw [z] at e; cases e
  · rcases s3 a ha with z | z
    · exact p.nm a z
    · exact n1 a (s.nf a (sb a z))
  · rcases List.mem_cons.mp ha with z | z
    · rw [z]; exact n1 D (.inr hD)
    · exact n1 a (s.nm a z)
  · rcases List.mem_append.mp ha with z | z
    · rcases List.mem_append.mp z with w | w
      · exact List.mem_append_left _ (List.mem_append_left _ (List.mem_append_left _ w))
      · exact List.mem_append_left _ (List.mem_append_right _ w)
    · rcases s3 a z with w | w
      · exact List.mem_append_left _ (List.mem_append_left _ (List.mem_append_right _ w))
      · exact List.mem_append_right _ (sb a w)
theorem Own.lst' {ms : List M} {vs : List V} {fa : List Addr} {D : Addr} (w : Own L g f H env1 σ H1 f1 (D :: fa)) (mu : Bool) (h : H1 D = some (.lst vs)) (r : RepMs L (g ++ (D :: fa) ++ f1) H1 ms vs fa) :
    ∃ fr, Pst L false false g f H env (if mu then .lst ms else .pure (.lst (M.frzs ms))) env1 σ (.ref D) H1 f1 fr := by
  have p : Pst L false false g f H env (.lst ms) env1 σ (.ref D) H1 f1 (D :: fa) := w.pst ⟨D, vs, fa, rfl, rfl, h, r⟩
  cases mu with
  | true => exact ⟨_, p⟩
  | false => exact ⟨_, p.frz⟩
theorem cok_blk (c : Cok L T R C X) (s : Shared) (H : Hp) (D : Addr) (cl : List (Str × Addr)) (scope : Scope) (fp : List Addr) : Cok L T R (blkS C scope) (X.blk s H scope (compEnvC scope cl D X.env) fp) :=
  ⟨c.N, by
    show relS scope X.env.scope = relS scope C.sc
    rw [c.sc], rfl, c.calm, c.nd, c.K, c.nm, c.gd⟩
theorem folded {e : Expr} (h : noSet e = true) {env : Env} (x : Value) : foldedSetIterable e env x = pure x := by
  cases e <;> first | rfl | cases h
theorem tT_bl (σ : L2.St) (H : Hp) (Q : Bool → Hp → Prop) (h : tT L R (.bl true) σ H Q) : tYes σ H Q := by
  obtain ⟨g, f, env, b, env', hE, hm, q⟩ := h
  have hm : Rs.ok true env = Rs.ok b env' := hm
  cases hm
  exact q H f ⟨hE, fun _ _ e _ => e, fun _ z => .inl z, fun _ => ⟨rfl, rfl, fun _ _ e => e⟩⟩
theorem PTs.imp {es : List Expr} {t u : TT} (h : PTs X es t) (i : ∀ σ H Q, u σ H Q → t σ H Q) : PTs X es u := ⟨fun pins s σ H Q I q => h.run pins s σ H Q I (i σ H Q q)⟩
theorem pts_ifs {P : Expr → Bool} {k : Ex} {ifs : List Expr} (hP : ∀ x, P x = true → PT X x (tT L R k)) (h : ckIfs P k ifs = true) : PTs X ifs (tT L R k) := by
  match ifs, h with
  | [], h =>
    have : k = .bl true := of_decide_eq_true h
    subst this
    exact PTs.imp pts_nil tT_bl
  | [x], h => exact pts_one (hP x h)
/-- the turns -/
theorem turn_ok {tg : Tg} {t : En → Rs Bool} {e : En → Rs M} {d : D} {env env' : En} {o : Option M} (h : turnR tg t e d env = .ok o env') :
    ∃ envb b envc, bindTg tg d (wipeE env tg.slots) = some envb ∧ t envb = .ok b envc ∧ ((b = false ∧ o = none ∧ env' = envc) ∨ (b = true ∧ ∃ m, e envc = .ok m env' ∧ o = some m)) := by
  unfold turnR at h
  split at h
  · rename_i envb hb
    obtain ⟨b, envc, ht, h2⟩ := bind_ok h
    refine ⟨envb, b, envc, hb, ht, ?_⟩
    cases b with
    | false => cases h2; exact .inl ⟨rfl, rfl, rfl⟩
    | true =>
      obtain ⟨m, envd, he, h3⟩ := bind_ok h2
      cases h3
      exact .inr ⟨rfl, m, he, rfl⟩
  · cases h
theorem lc_rd (mu : Bool) (it : Ex) (tg : Tg) (k e : Ex) (h5 : isAl e = false) (b3 : tg.slots.Nodup) (σ : L2.St) (H : Hp) (Q : VK) (hq : tE L R (.lc mu it tg k e) σ H Q) : tLc (tI L R it) (tG L tg) (tT L R k) (tE L R e) tg.slots σ H Q := by
  obtain ⟨g, f, env, m, env', hE, hm, q⟩ := hq
  obtain ⟨⟨ds, ln⟩, env1, hi, hm2⟩ := bind_ok hm
  obtain ⟨ms, env2, hl, hm3⟩ := bind_ok hm2
  split at hm3
  · rename_i env3 hb
    obtain ⟨envb, hb1, hb2⟩ := bindO_ok hb
    split at hm3
    · rename_i hz
      cases hm3
      refine ⟨g, f, env, ds, ln, env1, hE, hi, fun J H1 f1 fl p wd => ?_⟩
      intro D hD
      -- the walk
      let G : Hp → Prop := fun H2 => ∃ O2, Mv (g ++ fl ++ f1) O2 H1 H2 ∧ (∀ a o, H1 a = some o → a ∉ f1 → H2 a = some o) ∧ ∀ a ∈ O2, ∃ o, H2 a = some o
      let Y : Nat → Hp → V → Hp → Prop := fun i H2 x H3 => ∀ O2, Mv (g ++ fl ++ f1) O2 H1 H2 → (∀ a o, H1 a = some o → a ∉ f1 → H2 a = some o) → (∀ a ∈ O2, ∃ o, H2 a = some o) → ∃ d, ds[i]? = some d ∧ (∀ a o, H2 a = some o → H3 a = some o) ∧ RepD L O2 H3 d x
      have w : Walk J ds.length G Y := ⟨fun i H2 hi ⟨O2, a, b, c⟩ => (wd O2 H2 a b c).1 i hi, fun H2 ⟨O2, a, b, c⟩ => (wd O2 H2 a b c).2.1, fun i H2 x H3 hi _ y O2 a b c => (wd O2 H2 a b c).2.2 i x H3 hi y⟩
      let Pv : Nat → Hp → Prop := fun i H2 => ∃ env' f' acc fa xs msr, LcSt L (g ++ fl) f1 H1 σ tg.slots D env' acc H2 f' fa xs (.lst xs) ∧ lcLoop (turnR tg (ev R k).t (ev R e).e) (ds.drop i) env' = .ok msr env2 ∧ acc ++ msr = ms
      have hG : ∀ i H2, Pv i H2 → ∃ O2, Mv (g ++ fl ++ f1) O2 H1 H2 ∧ (∀ a o, H1 a = some o → a ∉ f1 → H2 a = some o) ∧ ∀ a ∈ O2, ∃ o, H2 a = some o := fun i H2 ⟨env', f', acc, fa, xs, msr, s, _, _⟩ => ⟨_, s.mv hD, s.st, s.ok.trf⟩
      refine lc_it w Pv ?_ (fun i H2 _ pv => hG i H2 pv) ?_ ?_
      · obtain ⟨f', s⟩ := lc_begin (o0 := .lst []) (vs := tg.slots) p.ok hD
        exact ⟨env1, f', [], [], [], ms, s, hl, rfl⟩
      · intro i x H2 H3 hi' ⟨env', f', acc, fa, xs, msr, s, hlp, hms⟩ y
        obtain ⟨d, hd, ext, rd⟩ := y _ (s.mv hD) s.st s.ok.trf
        have hdr : ds.drop i = d :: ds.drop (i + 1) := by
          rw [List.drop_eq_getElem_cons hi']
          rw [List.getElem?_eq_getElem hi'] at hd
          rw [Option.some.inj hd]
        rw [hdr] at hlp
        obtain ⟨o, enva, hto, hlp2⟩ := bind_ok (r := turnR tg (ev R k).t (ev R e).e d env') hlp
        obtain ⟨msr2, envz, hlp3, hlp4⟩ := bind_ok hlp2
        obtain ⟨envb', b, envc, hbt, htt, hcase⟩ := turn_ok hto
        have ok3 : EnvOk L (g ++ fl ++ (D :: fa)) H3 (wipeE env' tg.slots) (wipe σ tg.slots) f' := s.ok.same ext
        refine ⟨g ++ fl ++ (D :: fa), f', wipeE env' tg.slots, d, envb', ok3, rd, hbt, fun σ2 fb okb sb ub lb => ?_⟩
        have hw : wipe σ2 tg.slots = wipe σ tg.slots := wipe_eq ub lb
        refine ⟨hw, g ++ fl ++ (D :: fa), fb, envb', b, envc, okb, htt, fun H4 f4 t4 => ?_⟩
        rcases hcase with ⟨e1, e2, e3⟩ | ⟨e1, m, hme, e2⟩
        · subst e1 e2 e3
          cases hlp4
          rw [if_neg (by simp)]
          obtain ⟨f'', s'⟩ := s.skip ext sb hw t4
          exact ⟨_, f'', acc, fa, xs, msr, s', hlp3, hms⟩
        · subst e1 e2
          cases hlp4
          rw [if_pos rfl]
          refine ⟨g ++ fl ++ (D :: fa), f4, envc, m, enva, t4.ok, hme, fun v H5 f5 fm p5 => ?_⟩
          rw [h5] at p5
          obtain ⟨at5, hnx⟩ := s.item hD ext sb hw (t4.pst p5)
          obtain ⟨f'', s'⟩ := hnx (.lst (xs ++ [v]))
          refine ⟨xs, at5, ?_, enva, f'', acc ++ [m], fa ++ fm, xs ++ [v], msr2, s', hlp3, by rw [← hms]; simp⟩
          have l1 := s.rep.len
          have l2 : acc.length + (msr2.length + 1) = ms.length := by rw [← hms]; simp
          rw [PySem.sizeLine_eq, ← l1]
          have e0 : SL = 16777216 := rfl
          omega
      · intro H2 ⟨env', f', acc, fa, xs, msr, s, hlp, hms⟩
        rw [List.drop_length] at hlp
        cases hlp
        have e0 : acc = ms := by rw [← hms]; simp
        subst e0
        obtain ⟨f3, w3, r3⟩ := lc_end p hD b3 s hb1 hb2
        obtain ⟨fr, z⟩ := w3.lst' (env := env) mu s.at_ r3
        exact q _ _ _ _ z
    · cases hm3
  · cases hm3
theorem snd_lc (mu : Bool) (it : Ex) (tg : Tg) (k e : Ex) (hit : SndI L T R it) (hk : Snd L T R k) (he : Snd L T R e) : Snd L T R (.lc mu it tg k e) := by
  have hE : ∀ C x, (ck T (.lc mu it tg k e)).e C x = true → ∀ X, Cok L T R C X → PE X x (tE L R (.lc mu it tg k e)) := by
    intro C x h X c
    match x, h with
    | .ListComp elt [⟨t, iter, ifs, kk⟩] scope pos, h =>
      have h : (decide (kk = 0) && blkB C scope tg.slots && (ck T it).i C t iter && ckTg (blkS C scope) tg t && ckIfs ((ck T k).e (blkS C scope)) k ifs && !isAl e && (ck T e).e (blkS C scope) elt) = true := h
      simp only [Bool.and_eq_true, decide_eq_true_eq, Bool.not_eq_true'] at h
      obtain ⟨⟨⟨⟨⟨⟨h0, h1⟩, h2⟩, h3⟩, h4⟩, h5⟩, h6⟩ := h
      subst h0
      unfold blkB at h1
      simp only [Bool.and_eq_true, decide_eq_true_eq] at h1
      obtain ⟨⟨b1, b2⟩, b3⟩ := h1
      have bo := blkOk_by b1
      rw [← c.N, ← c.sc] at bo
      rw [← c.N] at b2
      obtain ⟨pi, ns⟩ := hit.i C t iter h2 X c
      refine PE.imp (pe_lc c.calm c.nd pi bo (fun s H D cl fp => pg_tg (cok_blk c s H D cl scope fp) h3) (fun s H D cl fp => pts_ifs (fun x hx => hk.t _ x hx _ (cok_blk c s H D cl scope fp)) h4) (fun s H D cl fp => he.e _ elt h6 _ (cok_blk c s H D cl scope fp)) fun x => folded ns x) ?_
      intro σ H Q hq
      rw [b2]
      exact lc_rd mu it tg k e h5 b3 σ H Q hq
  refine ⟨hE, fun C x h X c => ?_⟩
  refine pt_plain c (hE C x h X c) rfl ?_
  cases x with
  | ListComp _ _ _ _ => exact fun _ => rfl
  | _ => cases h
end
end FB

set_option Elab.async false
set_option linter.all false
set_option maxRecDepth 10000
/-! FbSet: a set comprehension over tuples of ints, sorted. -/
namespace FB
open PySem PySem.Spec PyProof.Rows L2 StX
section
variable {P : Program} {w : World} {A : Around} {E : Value → Shared → Prop} {s : Shared} {a : Addr} {L : List (Addr × List Int)} {es : Array (Int × Value)} {ep : Nat} {t : SetTable}
/-- a tuple of ints is added to a set of such -/
theorem addT_raw (R : SetTR P w s.heap a L es ep t) {x : Addr} {k : List Int} (hx : IsT P w s.heap k x) (hu : A.in1.units < cLine) (few : L.length + 1 < 64) {Q : Value → Shared → Prop}
    (hQ : ∀ h' L' es' ep' t' n, Heap.SameBut a s.heap h' → SetTR P w h' a L' es' ep' t' → (k ∈ L.map (·.2) → L' = L) → (k ∉ L.map (·.2) → L'.Perm ((x, k) :: L)) → Q .none { s with heap := h', toks := n }) :
    wpAny (model P w) A (call (.builtin "set.add") [.ref a, .ref x]) Q E s := by
  have hT : s.TypeIs (.ref a) "set" := by
    obtain ⟨o, ho, hex, _⟩ := R.ob
    exact ⟨o, ho, hex.1⟩
  refine wpAny_call_entry F.slot_set_add hT F.entry_set_add ?_ (F.args_set_add_2 _ _)
  unfold Builtin.«set.add» Builtin.Frozenset.oneOther
  simp only [List.isEmpty_nil, bind_assoc]
  unfold Builtin.Frozenset.addrOf setAdd
  refine wpAny_bind (wpAny_pure ?_)
  try dsimp only
  refine wpAny_bind (wpAny_pure ?_)
  try dsimp only
  refine wpAny_bind (wpAny_holding (wpAny_bind (wpAny_pyHash_tuple hu hx ?_)))
  refine add_at (s := { s with toks := s.toks + (k.length + 1) }) R hx hu few fun b h' L' es' ep' t' sb R' c1 c2 => ?_
  show wpAny (model P w) A.in1 (ret Value.none) _ _ _
  exact wpAny_pure ⟨_, rfl, hQ h' L' es' ep' t' _ sb R' c1 c2⟩
end
section
variable {X : Cx}
theorem addT_ok {pins : List (Addr × Obj)} {σ : L2.St} {H : Hp} {s : Shared} {E : Value → Shared → Prop} {D b : Addr} {k : List Int} {l : List (Addr × List Int)} {Q : Value → Shared → Prop} (I : Inv X pins σ H s) (hu : X.A.in1.units < cLine) (hD : H D = some (SetTO X.prog X.w D l))
    (hb : SqT X.K H b (k.map V.int)) (hl : ∀ p ∈ l, SqT X.K H p.1 (p.2.map V.int)) (few : l.length + 1 < 64)
    (h : ∀ s' l', (k ∈ l.map (·.2) → l' = l) → (k ∉ l.map (·.2) → l'.Perm ((b, k) :: l)) → Inv X pins σ (upd H D (SetTO X.prog X.w D l')) s' → Q .none s') : wpAny (model X.prog X.w) X.A (call (.builtin "set.add") [.ref D, .ref b]) Q E s := by
  have r0 : SetT0 X.prog X.w s.heap D l := (I.hok D _ hD).1
  obtain ⟨es, ep, t, R⟩ := r0.full fun p hp => I.isT (hl p hp)
  refine addT_raw R (I.isT hb) hu few fun h' l' es' ep' t' n sb R' c1 c2 => ?_
  have there : ∃ u, h'.get? D = some u := by
    obtain ⟨o, ho, _⟩ := R'.ob
    exact ⟨o, ho⟩
  exact h _ l' c1 c2 (I.write (e := D) (t' := n) (by rw [hD]; trivial) (.inl rfl) (fun c u hc hu => (sb.2 c hc).trans hu) there (setTO_new R'.t0))
/-- {elt for target in iter}, elt a tuple of ints -/
def tScT (P : Program) (w : World) (K : PySem.W.Frag) (wi : TI) (g : TG) (te : TE) (vs : List Nat) : TE := fun σ H Q => wi σ H fun J H1 => ∀ D, H1 D = none → ∃ W : Nat → Nat → Hp → Prop, (∃ m, W 0 m (upd H1 D (SetTO P w D []))) ∧ ∀ i m H, W i m H →
  (J.stop i H ∧ Q (.ref D) H) ∨ (J.go i H ∧ ∃ Nx : Hp → Prop, (∀ H', Nx H' → ∃ m', m' < m ∧ W (i + 1) m' H') ∧ ∀ x H', J.yld i H x H' → g x (wipe σ vs) H' fun σ2 H2 => wipe σ2 vs = wipe σ vs ∧
    te σ2 H2 fun y H3 => ∃ (b : Addr) (k : List Int) (l : List (Addr × List Int)), y = .ref b ∧ H3 D = some (SetTO P w D l) ∧ SqT K H3 b (k.map V.int) ∧ (∀ p ∈ l, SqT K H3 p.1 (p.2.map V.int)) ∧ l.length + 1 < 64 ∧
      ∀ l', (k ∈ l.map (·.2) → l' = l) → (k ∉ l.map (·.2) → l'.Perm ((b, k) :: l)) → Nx (upd H3 D (SetTO P w D l')))
theorem scT_core {pins : List (Addr × Obj)} {s : Shared} {σ : L2.St} {H : Hp} {Q : VK} {elt tg iter : Expr} {scope : Scope} {own : List (PySem.Str × Nat)} {pos pos' : Pos} {wi : TI} {g : TG} {te : TE} {use : Option (Value → Sem Unit)} {Qf : Value → Shared → Prop}
    (hc : X.calm = true) (hu : X.A.in1.units < cLine) (hN : X.N.Nodup) (I : Inv X pins σ H s) (hi : PI X tg iter wi) (bk : BlkOk X.N X.env.scope scope own)
    (hg : ∀ (s : Shared) (H : Hp) (C : Addr) (cl : List (PySem.Str × Addr)) (fp : List Addr), PG (X.blk s H scope (compEnvC scope cl C X.env) fp) tg g)
    (he : ∀ (s : Shared) (H : Hp) (C : Addr) (cl : List (PySem.Str × Addr)) (fp : List Addr), PE (X.blk s H scope (compEnvC scope cl C X.env) fp) elt te) (hs : ∀ x, foldedSetIterable iter X.env x = pure x)
    (h : tScT X.prog X.w X.K wi g te (own.map (·.2)) σ H Q)
    (fine : ∀ D C s' m H', Inv X pins σ H' s' → Q (.ref D) H' → s'.heap.Ns C m → FpOk X pins H' C → compPost (model X.prog X.w) X.A X.xe use Qf (.ref D) C (.ok .next) s') :
    wpAny (model X.prog X.w) X.A (comprehension (.SetComp elt [⟨tg, iter, [], 0⟩] scope pos) scope X.env pos' (newSet (.type "set")) false (eval iter X.env) use) Qf X.xe s := by
  have frees : ∀ y ∈ scope.names, y.2 = .free → ∃ c, X.env.cells.lookup y.1 = some c := fun y hy e => (bk.free y hy e).elim (fun k => I.ok.has _ (.inl k)) fun k => I.ok.has _ (.inr k)
  refine wpAny_comprehension_free (use := use) rfl hs (closure_ok frees) bk.kind (fun y hy e => by rw [bk.uniq y hy, e]) (thn (hi.run pins s σ H _ I h) fun xv t1 hx => thn hx fun itv t2 h2 => ?_)
  obtain ⟨it, fp, tn, J, Hb, e0, Ib, Tk, stb, fb, q⟩ := h2
  subst e0
  refine PpSet.newSet_ok (newEnv_comp ?_)
  generalize hD : t2.heap.objs.size = D
  have hDn : Hb D = none := Ib.hok.fresh (Nat.le_of_eq hD)
  obtain ⟨W, ⟨m0, w0⟩, turn⟩ := q D hDn
  generalize ht3 : ({ t2 with heap := t2.heap.push { cls := .type "set", dict := none, data := .set #[] 0 (.fresh 0 0 (!X.w.params.followText "set-order")) } } : Shared) = t3
  have Ic : Inv X pins σ (upd Hb D (SetTO X.prog X.w D [])) t3 := by
    rw [← ht3]
    refine Ib.laid (t' := t2.toks) (fun b o e => Heap.get?_push_of_some _ e) (Nat.le_of_eq hD) ?_
    rw [← hD]
    exact setTO_new (setTR_fresh (Heap.get?_push_size _ rfl)).t0
  have hp3 : t3.heap = t2.heap.push { cls := .type "set", dict := none, data := .set #[] 0 (.fresh 0 0 (!X.w.params.followText "set-order")) } := by rw [← ht3]
  have szs : ∀ b ∈ fp, b < t2.heap.objs.size := fun b hb => (Tk.obj _ _ stb b hb).elim fun o e => Heap.lt_size e.1
  have fc : ∀ b ∈ fp, FpOk X pins (upd Hb D (SetTO X.prog X.w D [])) b ∧ b < t3.heap.objs.size := fun b hb => by
    have small := szs b hb
    refine ⟨⟨?_, (fb b hb).2⟩, by rw [hp3, Heap.size_push]; exact Nat.lt_succ_of_lt small⟩
    rw [upd_ne (by rw [← hD]; exact Nat.ne_of_lt small)]
    exact (fb b hb).1
  have stc : tn 0 t3.heap := Tk.keep _ _ _ stb fun b _ o e => by rw [hp3]; exact Heap.get?_push_of_some _ e
  have Id := block_start Ic bk hN fc
  have pg := hg t3 (upd Hb D (SetTO X.prog X.w D [])) t3.heap.objs.size (cellsFrom (t3.heap.objs.size + 1) scope.names (cloFrom X.env.cells scope.names [])) fp
  have pe := he t3 (upd Hb D (SetTO X.prog X.w D [])) t3.heap.objs.size (cellsFrom (t3.heap.objs.size + 1) scope.names (cloFrom X.env.cells scope.names [])) fp
  show codeAny _ _ (.compStart (.SetComp elt [⟨tg, iter, [], 0⟩] scope pos) 0 (.ref it) (.ref D) (compEnvC scope (cellsFrom (t3.heap.objs.size + 1) scope.names (cloFrom X.env.cells scope.names [])) t3.heap.objs.size X.env)) (compPost (model X.prog X.w) X.A X.xe use Qf (.ref D) t3.heap.objs.size) { t3 with heap := pushCells (t3.heap.push { cls := .type "dict", data := .dict #[] }) scope.names }
  have nfp : ∀ b ∈ fp, (upd Hb D (SetTO X.prog X.w D [])) b = none := fun b hb => (fc b hb).1.1
  generalize hce : compEnvC scope (cellsFrom (t3.heap.objs.size + 1) scope.names (cloFrom X.env.cells scope.names [])) t3.heap.objs.size X.env = ce at Id pg pe ⊢
  have ceL : ce.locals = t3.heap.objs.size := by subst hce; rfl
  generalize hHc : upd Hb D (SetTO X.prog X.w D []) = Hc at Ic Id pg pe w0 nfp fc
  generalize ht4 : ({ t3 with heap := pushCells (t3.heap.push { cls := .type "dict", data := .dict #[] }) scope.names } : Shared) = t4 at Id ⊢
  have std : tn 0 t4.heap := Tk.keep _ _ _ stc fun b _ o e => by rw [← ht4]; exact pushCells_keeps _ _ _ _ (Heap.get?_push_of_some _ e)
  have stat : ∀ {σ' : L2.St} {H' : Hp} {s' : Shared}, Inv (X.blk t3 Hc scope ce fp) [] σ' H' s' → (∀ b ∈ fp, H' b = none) → ∀ b ∈ fp, FpOk (X.blk t3 Hc scope ce fp) [] H' b := fun {σ' H' s'} I' nn b hb =>
    ⟨nn b hb, (I'.ok.exf b hb).1, I'.ok.exfs b hb, .inl hb, fun x c e => (I'.ok.exf b hb).2 x c e, fun p hp => absurd (show p ∈ ([] : List (Addr × Obj)) ++ [] from hp) (by simp)⟩
  have loop : codeAny (model X.prog X.w) X.A (.compLoop (.SetComp elt [⟨tg, iter, [], 0⟩] scope pos) 0 (.ref it) (.ref D) ce) (compPost (model X.prog X.w) X.A X.xe use Qf (.ref D) t3.heap.objs.size) t4 := by
    refine PpSet.compLoopS_any (fun n s' => ∃ i H', Inv (X.blk t3 Hc scope ce fp) [] (wipe σ (own.map (·.2))) H' s' ∧ tn i s'.heap ∧ (∀ b ∈ fp, H' b = none) ∧ W i n H') ?_ m0 ⟨0, Hc, Id, std, nfp, w0⟩
    rintro n s5 ⟨i, H5, I5, st5, n5, w5⟩
    rcases turn i n H5 w5 with ⟨stop, qq⟩ | ⟨go, Nx, hNx, step⟩
    · have td := Tk.done (X.blk t3 Hc scope ce fp) rfl rfl rfl hc i [] s5 _ H5 (fun _ _ => False) I5 (stat I5 n5) st5 stop
      refine thnF td fun r s6 ⟨hr, I6⟩ => ?_
      subst hr
      have I7 : Inv X pins σ H5 s6 := Ic.call' (ch := fp) I6.os I6.base I6.hok I6.bare fun b hb => ⟨(fc b hb).1.2.2.2.1, (fc b hb).1.2.1, (fc b hb).1.2.2.2.2.1, (fc b hb).1.2.2.2.2.2⟩
      have nC : H5 t3.heap.objs.size = none := by
        have z : H5 ce.locals = none := I6.free
        rw [ceL] at z; exact z
      obtain ⟨m, hn, _⟩ := I6.loc
      have hn : s6.heap.Ns ce.locals m := hn
      rw [ceL] at hn
      exact fine D t3.heap.objs.size s6 m H5 I7 qq hn (Ic.fpOk (Nat.le_refl _) nC)
    · have ti := Tk.item (X.blk t3 Hc scope ce fp) rfl rfl rfl hc i [] s5 _ H5 (fun _ _ => False) I5 (stat I5 n5) st5 go
      refine thnF ti fun r s6 ⟨u, hr, h6⟩ => ?_
      subst hr
      refine thnF h6 fun _ s7 ⟨x, H7, I7, r7, y7, st7, n7⟩ => ?_
      have I7' := I7.pinned (stat I7 n7) (Tk.obj _ _ st7)
      refine thnF (pg.run _ s7 _ H7 x u _ I7' r7 (step x H7 y7)) fun _ s8 ⟨σ8, H8, I8, hw8, q8⟩ => ?_
      have fin : ∀ {s' : Shared} {H' : Hp}, Inv (X.blk t3 Hc scope ce fp) ([] ++ pinsAt fp s7.heap) σ8 H' s' → Nx H' → ∃ m, m < n ∧ ∃ i H', Inv (X.blk t3 Hc scope ce fp) [] (wipe σ (own.map (·.2))) H' s' ∧ tn i s'.heap ∧ (∀ b ∈ fp, H' b = none) ∧ W i m H' := fun {s' H'} I' nx => by
        obtain ⟨m', hm, w'⟩ := hNx H' nx
        have pinned' : ∀ b ∈ fp, ∀ o, s7.heap.get? b = some o → s'.heap.get? b = some o ∧ H' b = none := fun b hb o e =>
          let z := I'.pin (b, o) (List.mem_append_right _ (List.mem_append_right _ (mem_pinsAt hb e))); ⟨z.1, z.2.1⟩
        have hl : (wipe σ (own.map (·.2))).length = σ8.length := by rw [← hw8, wipe_length]
        refine ⟨m', hm, i + 1, H', (I'.unpinned (pins := [])).weak hl (fun j v e => ?_), Tk.keep _ _ _ st7 fun b hb o e => (pinned' b hb o e).1, fun b hb => ?_, w'⟩
        · rw [← hw8] at e
          exact (wipe_some e).1
        · obtain ⟨o, e, _⟩ := Tk.obj _ _ st7 b hb
          exact (pinned' b hb o e).2
      refine thnF ((pts_nil (X := X.blk t3 Hc scope ce fp)).run _ s8 σ8 H8 (fun ok H9 => ok = true ∧ H9 = H8) I8 ⟨rfl, rfl⟩) fun ok s9 ⟨H9, I9, eok, eh⟩ => ?_
      subst eok eh
      rw [if_pos rfl]
      refine thnF (pe.run _ _ σ8 _ _ I9 q8) fun z s10 ⟨yv, H10, I10, r10, b, k, l, ey, hD10, hb10, hl10, few, nx⟩ => ?_
      subst ey
      cases (show z = Value.ref b from r10)
      exact addT_ok (X := X.blk t3 Hc scope ce fp) I10 hu hD10 hb10 hl10 few fun s11 l' c1 c2 I11 => fin I11 (nx l' c1 c2)
  exact PpSet.codeAny_compStart_set loop (Tk.self X.A 0 _ _ _ std loop)
theorem pe_scT {elt tg iter : Expr} {scope : Scope} {own : List (PySem.Str × Nat)} {pos : Pos} {wi : TI} {g : TG} {te : TE} (hc : X.calm = true) (hu : X.A.in1.units < cLine) (hN : X.N.Nodup) (hi : PI X tg iter wi) (bk : BlkOk X.N X.env.scope scope own)
    (hg : ∀ (s : Shared) (H : Hp) (C : Addr) (cl : List (PySem.Str × Addr)) (fp : List Addr), PG (X.blk s H scope (compEnvC scope cl C X.env) fp) tg g)
    (he : ∀ (s : Shared) (H : Hp) (C : Addr) (cl : List (PySem.Str × Addr)) (fp : List Addr), PE (X.blk s H scope (compEnvC scope cl C X.env) fp) elt te) (hs : ∀ x, foldedSetIterable iter X.env x = pure x) :
    PE X (.SetComp elt [⟨tg, iter, [], 0⟩] scope pos) (tScT X.prog X.w X.K wi g te (own.map (·.2))) := by
  refine ⟨fun pins s σ H Q I h => ?_⟩
  rw [PpSet.eval_SetComp]
  refine scT_core hc hu hN I hi bk hg he hs h fun D C s' m H' I' q hn f => ⟨m, hn, fun h'' sb => ?_⟩
  obtain ⟨f0, f1, f2, f3, f4, f5⟩ := f
  exact ⟨.ref D, H', I'.turned (t' := s'.toks) (fun b o hb e => (sb.2 b hb).trans e) f0 f1 f3 f4 f5, rfl, q⟩
end
theorem dedupT_mem {k : List Int} : ∀ {l : List (List Int)}, k ∈ dedupT l ↔ k ∈ l
  | [] => by simp [dedupT]
  | x :: r => by
    unfold dedupT
    split
    · rename_i h
      have hx : x ∈ r := by simpa using h
      rw [dedupT_mem]
      constructor
      · exact List.mem_cons_of_mem _
      · intro z
        rcases List.mem_cons.mp z with rfl | z
        · exact hx
        · exact z
    · rw [List.mem_cons, List.mem_cons, dedupT_mem]
theorem dedupT_nodup : ∀ (l : List (List Int)), (dedupT l).Nodup
  | [] => .nil
  | x :: r => by
    unfold dedupT
    split
    · exact dedupT_nodup r
    · rename_i h
      refine List.nodup_cons.mpr ⟨fun z => h ?_, dedupT_nodup r⟩
      have := dedupT_mem.mp z
      simpa using this
theorem allInts_eq : ∀ {xs : List D} {ns : List Int}, allInts xs = some ns → xs = ns.map .int
  | [], ns, h => by cases h; rfl
  | .int i :: r, ns, h => by
    obtain ⟨ns', h1, rfl⟩ := mapO_ok (r := allInts r) (k := (i :: ·)) h
    rw [allInts_eq h1]; rfl
  | .non :: _, _, h => by cases h
  | .bl _ :: _, _, h => by cases h
  | .str _ :: _, _, h => by cases h
  | .tup _ :: _, _, h => by cases h
  | .lst _ :: _, _, h => by cases h
  | .dic _ :: _, _, h => by cases h
  | .ins _ _ :: _, _, h => by cases h
  | .cls _ :: _, _, h => by cases h
  | .frl _ :: _, _, h => by cases h
theorem allInts_map : ∀ k : List Int, allInts (k.map .int) = some k
  | [] => rfl
  | n :: r => by
    show (allInts (r.map .int)).map (n :: ·) = _
    rw [allInts_map r]; rfl
/-- trees that are tuples of ints -/
theorem allTups_ms : ∀ {ms : List M} {ts : List (List Int)}, allTups (M.frzs ms) = some ts → ms = ts.map fun k => M.pure (D.tup (k.map D.int))
  | [], ts, h => by cases h; rfl
  | .pure (.tup x) :: r, ts, h => by
    obtain ⟨ns, h1, h2⟩ := bindO_ok (r := allInts x) (k := fun x => (allTups (M.frzs r)).map (x :: ·)) h
    obtain ⟨ts', h3, rfl⟩ := mapO_ok h2
    rw [allInts_eq h1, allTups_ms h3]; rfl
  | .pure .non :: _, _, h => by cases h
  | .pure (.bl _) :: _, _, h => by cases h
  | .pure (.str _) :: _, _, h => by cases h
  | .pure (.int _) :: _, _, h => by cases h
  | .pure (.lst _) :: _, _, h => by cases h
  | .pure (.dic _) :: _, _, h => by cases h
  | .pure (.ins _ _) :: _, _, h => by cases h
  | .pure (.cls _) :: _, _, h => by cases h
  | .pure (.frl _) :: _, _, h => by cases h
  | .lst _ :: _, _, h => by cases h
  | .ins _ _ :: _, _, h => by cases h
/-- what the set holds of the items so far -/
structure SetI (acc : List M) (xs : List V) (l : List (Addr × List Int)) : Prop where
  src : ∀ p ∈ l, ∃ i : Nat, acc[i]? = some (M.pure (D.tup (p.2.map D.int))) ∧ xs[i]? = some (V.ref p.1)
  all : ∀ k, M.pure (D.tup (k.map D.int)) ∈ acc → k ∈ l.map (·.2)
  le : l.length ≤ acc.length
theorem SetI.nil : SetI [] [] [] := ⟨fun _ z => (nomatch z), fun _ z => (nomatch z), Nat.le_refl _⟩
theorem int_inj : ∀ {k j : List Int}, k.map D.int = j.map D.int → k = j
  | [], [], _ => rfl
  | [], _ :: _, h => by simp at h
  | _ :: _, [], h => by simp at h
  | a :: r, b :: q, h => by
    simp only [List.map_cons, List.cons.injEq, D.int.injEq] at h
    rw [h.1, int_inj h.2]
theorem SetI.step {acc : List M} {xs : List V} {l l' : List (Addr × List Int)} {b : Addr} {k : List Int} (s : SetI acc xs l) (hl : acc.length = xs.length) (c1 : k ∈ l.map (·.2) → l' = l) (c2 : k ∉ l.map (·.2) → l'.Perm ((b, k) :: l)) :
    SetI (acc ++ [M.pure (D.tup (k.map D.int))]) (xs ++ [V.ref b]) l' := by
  have old : ∀ p ∈ l, ∃ i : Nat, (acc ++ [M.pure (D.tup (k.map D.int))])[i]? = some (M.pure (D.tup (p.2.map D.int))) ∧ (xs ++ [V.ref b])[i]? = some (V.ref p.1) := fun p hp => by
    obtain ⟨i, h1, h2⟩ := s.src p hp
    exact ⟨i, by rw [List.getElem?_append_left (List.getElem?_eq_some_iff.mp h1).1]; exact h1, by rw [List.getElem?_append_left (List.getElem?_eq_some_iff.mp h2).1]; exact h2⟩
  by_cases hk : k ∈ l.map (·.2)
  · rw [c1 hk]
    refine ⟨old, fun j hj => ?_, by rw [List.length_append]; exact Nat.le_add_right_of_le s.le⟩
    rcases List.mem_append.mp hj with z | z
    · exact s.all j z
    · have e := List.mem_singleton.mp z
      simp only [M.pure.injEq, D.tup.injEq] at e
      rw [int_inj e]; exact hk
  · have pm := c2 hk
    refine ⟨fun p hp => ?_, fun j hj => ?_, by rw [pm.length_eq, List.length_append, List.length_cons]; exact Nat.succ_le_succ s.le⟩
    · rcases List.mem_cons.mp (pm.mem_iff.mp hp) with e | z
      · subst e
        exact ⟨acc.length, by simp, by rw [hl]; simp⟩
      · exact old p z
    · have pm2 := pm.map (·.2)
      rw [pm2.mem_iff]
      rcases List.mem_append.mp hj with z | z
      · exact List.mem_cons_of_mem _ (s.all j z)
      · have e := List.mem_singleton.mp z
        simp only [M.pure.injEq, D.tup.injEq] at e
        rw [int_inj e]; exact List.mem_cons_self
section
variable {L : Lk} {T : Tx} {R : Rt} {C : Sc} {X : Cx}
variable {g f f1 f2 : List Addr} {H H1 H2 H' : Hp} {env env1 env2 : En} {σ σ' : L2.St} {qt : Bool} {O O' : List Addr}
theorem RepMs.getP : ∀ {ms : List M} {vs : List V} {fa : List Addr} {i : Nat} {d : D} {v : V}, RepMs L O H ms vs fa → ms[i]? = some (.pure d) → vs[i]? = some v → RepD L O H d v
  | [], _, _, _, _, _, _, h, _ => by simp at h
  | m :: ms, v :: vs, fa, 0, d, u, ⟨f1, f2, e, a, b⟩, h, h' => by
    simp at h h'
    subst h h'
    exact a.2
  | m :: ms, v :: vs, fa, i + 1, d, u, ⟨f1, f2, e, a, b⟩, h, h' => RepMs.getP (i := i) b (by simpa using h) (by simpa using h')
theorem SetI.rd {acc : List M} {xs : List V} {l : List (Addr × List Int)} {fa : List Addr} (s : SetI acc xs l) (r : RepMs L O H acc xs fa) : ∀ p ∈ l, RdT L O H p.1 (p.2.map V.int) := fun p hp => by
  obtain ⟨i, h1, h2⟩ := s.src p hp
  obtain ⟨a, vs, e, hr, rd⟩ := r.getP h1 h2
  cases e
  rw [ints_rep (allInts_map p.2) rd] at hr
  exact hr
theorem RdT.less (s : ∀ a, a ∈ O' → a ∈ O) {a : Addr} {vs : List V} (h : RdT L O H a vs) : RdT L O' H a vs := (Mv.less s).t h
theorem sss_rd (mu : Bool) (it : Ex) (tg : Tg) (e : Ex) (h5 : isAl e = false) (b3 : tg.slots.Nodup) (hK : X.K = L.K) (σ : L2.St) (H : Hp) (Q : VK) (hq : tE L R (.sss mu it tg e) σ H Q) :
    tScT X.prog X.w X.K (tI L R it) (tG L tg) (tE L R e) tg.slots σ H (fun v H1 => rSortedT X.K X.prog X.w [v] H1 Q) := by
  obtain ⟨g, f, env, m, env', hE, hm, q⟩ := hq
  obtain ⟨⟨ds, ln⟩, env1, hi, hm2⟩ := bind_ok hm
  obtain ⟨ms, env2, hl, hm3⟩ := bind_ok hm2
  split at hm3
  · rename_i env3 hb
    obtain ⟨envb, hb1, hb2⟩ := bindO_ok hb
    split at hm3
    · rename_i ts hts
      split at hm3
      · rename_i hok
        cases hm3
        obtain ⟨h64, dd, hd1, hk⟩ := tupsOk_of hok
        have ems := allTups_ms hts
        have hlen : ms.length = ts.length := by rw [ems]; simp
        refine ⟨g, f, env, ds, ln, env1, hE, hi, fun J H1 f1 fl p wd => ?_⟩
        intro D hD
        let G : Hp → Prop := fun H2 => ∃ O2, Mv (g ++ fl ++ f1) O2 H1 H2 ∧ (∀ a o, H1 a = some o → a ∉ f1 → H2 a = some o) ∧ ∀ a ∈ O2, ∃ o, H2 a = some o
        let Y : Nat → Hp → V → Hp → Prop := fun i H2 x H3 => ∀ O2, Mv (g ++ fl ++ f1) O2 H1 H2 → (∀ a o, H1 a = some o → a ∉ f1 → H2 a = some o) → (∀ a ∈ O2, ∃ o, H2 a = some o) → ∃ d, ds[i]? = some d ∧ (∀ a o, H2 a = some o → H3 a = some o) ∧ RepD L O2 H3 d x
        have wk : Walk J ds.length G Y := ⟨fun i H2 hi ⟨O2, a, b, c⟩ => (wd O2 H2 a b c).1 i hi, fun H2 ⟨O2, a, b, c⟩ => (wd O2 H2 a b c).2.1, fun i H2 x H3 hi _ y O2 a b c => (wd O2 H2 a b c).2.2 i x H3 hi y⟩
        let Pv : Nat → Hp → Prop := fun i H2 => ∃ env' f' acc fa xs msr l, LcSt L (g ++ fl) f1 H1 σ tg.slots D env' acc H2 f' fa xs (SetTO X.prog X.w D l) ∧ lcLoop (turnR tg (fun env => .ok true env) (ev R e).e) (ds.drop i) env' = .ok msr env2 ∧ acc ++ msr = ms ∧ SetI acc xs l
        refine ⟨fun i n H2 => n = ds.length - i ∧ i ≤ ds.length ∧ Pv i H2, ⟨ds.length, by simp, Nat.zero_le _, ?_⟩, ?_⟩
        · obtain ⟨f', s⟩ := lc_begin (o0 := SetTO X.prog X.w D []) (vs := tg.slots) p.ok hD
          exact ⟨env1, f', [], [], [], ms, [], s, hl, rfl, SetI.nil⟩
        · rintro i n H2 ⟨rfl, hile, env', f', acc, fa, xs, msr, l, s, hlp, hms, sI⟩
          have gH : G H2 := ⟨_, s.mv hD, s.st, s.ok.trf⟩
          by_cases hlt : i < ds.length
          · refine .inr ⟨wk.goes i H2 hlt gH, fun H' => i + 1 ≤ ds.length ∧ Pv (i + 1) H', fun H' pv => ⟨ds.length - (i + 1), by omega, rfl, pv.1, pv.2⟩, fun x H3 y => ?_⟩
            obtain ⟨d, hd, ext, rd⟩ := wk.yields i H2 x H3 hlt gH y _ (s.mv hD) s.st s.ok.trf
            have hdr : ds.drop i = d :: ds.drop (i + 1) := by
              rw [List.drop_eq_getElem_cons hlt]
              rw [List.getElem?_eq_getElem hlt] at hd
              rw [Option.some.inj hd]
            rw [hdr] at hlp
            obtain ⟨o, enva, hto, hlp2⟩ := bind_ok (r := turnR tg (fun env => .ok true env) (ev R e).e d env') hlp
            obtain ⟨msr2, envz, hlp3, hlp4⟩ := bind_ok hlp2
            obtain ⟨envb', b, envc, hbt, htt, hcase⟩ := turn_ok hto
            cases htt
            rcases hcase with ⟨e1, _, _⟩ | ⟨_, m, hme, e2⟩
            · cases e1
            subst e2
            cases hlp4
            have ok3 : EnvOk L (g ++ fl ++ (D :: fa)) H3 (wipeE env' tg.slots) (wipe σ tg.slots) f' := s.ok.same ext
            refine ⟨g ++ fl ++ (D :: fa), f', wipeE env' tg.slots, d, envb', ok3, rd, hbt, fun σ2 fb okb sb ub lb => ?_⟩
            have hw : wipe σ2 tg.slots = wipe σ tg.slots := wipe_eq ub lb
            refine ⟨hw, g ++ fl ++ (D :: fa), fb, envb', m, enva, okb, hme, fun v H5 f5 fm p5 => ?_⟩
            rw [h5] at p5
            obtain ⟨at5, hnx⟩ := s.item hD ext sb hw p5
            -- the item is a tuple of ints
            have hmm : m ∈ ms := by rw [← hms]; simp
            rw [ems] at hmm
            obtain ⟨k, _, ek⟩ := List.mem_map.mp hmm
            subst ek
            obtain ⟨b, vs, ev, hr, rdv⟩ := p5.rep.2
            subst ev
            rw [ints_rep (allInts_map k) rdv] at hr
            obtain ⟨f'', s'⟩ := hnx (.lst [])
            -- the tuples of the set, as they stand now
            have nDb : ∀ a, a ∈ g ++ fl ++ (D :: fa) → a ∉ fb := fun a ha m => (List.nodup_append.mp s.ok.nd).2.2 a ha a (sb a m) rfl
            have rep5 : RepMs L [] H5 acc xs fa := s.rep.mv ⟨fun a o n e => p5.st a o (ext a o e) fun z => n (List.mem_append_right _ (sb a z)), fun a m _ => absurd m List.not_mem_nil⟩ fun a o ha e => p5.st a o (ext a o e) (nDb a (List.mem_append_right _ (List.mem_cons_of_mem _ ha)))
            have l1 := s.rep.len
            have l2 : acc.length + (msr2.length + 1) = ms.length := by rw [← hms]; simp
            refine ⟨b, k, l, rfl, at5, by rw [hK]; exact hr.sq, fun p hp => by rw [hK]; exact (sI.rd rep5 p hp).sq, by have := sI.le; omega, fun l' c1 c2 => ⟨hlt, ?_⟩⟩
            obtain ⟨f3, s3⟩ := hnx (SetTO X.prog X.w D l')
            exact ⟨enva, f3, acc ++ [M.pure (.tup (k.map .int))], fa ++ fm, xs ++ [V.ref b], msr2, l', s3, hlp3, by rw [← hms]; simp, sI.step l1 c1 c2⟩
          · have ei : i = ds.length := by omega
            subst ei
            refine .inl ⟨wk.stops H2 gH, ?_⟩
            rw [List.drop_length] at hlp
            cases hlp
            have e0 : acc = ms := by rw [← hms]; simp
            subst e0
            obtain ⟨f3, w3, r3⟩ := lc_end p hD b3 s hb1 hb2
            have rdl := sI.rd r3
            have less : ∀ a, a ∈ g ++ f3 → a ∈ g ++ (D :: fa) ++ f3 := fun a ha => sub_fr ha
            have inl : ∀ k, k ∈ l.map (·.2) ↔ k ∈ ts := fun k => by
              constructor
              · intro z
                obtain ⟨pq, hp, ez⟩ := List.mem_map.mp z
                obtain ⟨i, h1, _⟩ := sI.src pq hp
                have := List.mem_of_getElem? h1
                rw [ems] at this
                obtain ⟨j, hj, ej⟩ := List.mem_map.mp this
                simp only [M.pure.injEq, FB.D.tup.injEq] at ej
                rw [← ez, ← int_inj ej]; exact hj
              · intro z
                refine sI.all k ?_
                rw [ems]
                exact List.mem_map_of_mem z
            refine ⟨D, l, dd, 1000000, rfl, s.at_, fun p hp => by rw [hK]; exact (rdl p hp).sq, hd1, fun p hp => ?_, fun L' pp pm nd _ pw np => ?_⟩
            · have := (inl p.2).mp (List.mem_map_of_mem hp)
              exact ⟨(hk _ this).1, (hk _ this).2⟩
            · have hdd : TkS dd 1000000 (dedupT ts) := fun x hx => hk x (dedupT_mem.mp hx)
              have es : L'.map (·.2) = sortT (dedupT ts) := by
                refine sortT_uniq hdd ?_ (List.pairwise_map.mpr pw)
                refine (List.perm_ext_iff_of_nodup nd (dedupT_nodup ts)).mpr fun k => ?_
                rw [dedupT_mem, ← inl k]
                exact (pm.map (·.2)).mem_iff
              have pz := zip_paired (P := fun a (t : List Int) => RdT L (g ++ f3) H2 a (t.map V.int)) (l := L') fun q hq => (rdl q (pm.mem_iff.mp hq)).less less
              rw [es] at pz
              have rd2 := repD_tups pz
              rw [List.map_map] at rd2
              obtain ⟨fm, z⟩ := (w3.tst (env := env)).list mu np rd2
              exact q _ _ _ _ z
      · cases hm3
    · cases hm3
  · cases hm3
theorem snd_sss (mu : Bool) (it : Ex) (tg : Tg) (e : Ex) (hit : SndI L T R it) (he : Snd L T R e) : Snd L T R (.sss mu it tg e) := by
  have hE : ∀ C x, (ck T (.sss mu it tg e)).e C x = true → ∀ X, Cok L T R C X → PE X x (tE L R (.sss mu it tg e)) := by
    intro C x h X c
    match x, h with
    | .Call (.Name n np) [.SetComp elt [⟨t, iter, [], kk⟩] scope pos] [] cp, h =>
      have h : (decide (n = "sorted") && glB C n && decide (kk = 0) && blkB C scope tg.slots && (ck T it).i C t iter && ckTg (blkS C scope) tg t && !isAl e && (ck T e).e (blkS C scope) elt) = true := h
      simp only [Bool.and_eq_true, decide_eq_true_eq, Bool.not_eq_true'] at h
      obtain ⟨⟨⟨⟨⟨⟨⟨hn, hg⟩, h0⟩, h1⟩, h2⟩, h3⟩, h5⟩, h6⟩ := h
      subst h0 hn
      obtain ⟨hg, hg'⟩ := gl_of c hg
      unfold blkB at h1
      simp only [Bool.and_eq_true, decide_eq_true_eq] at h1
      obtain ⟨⟨b1, b2⟩, b3⟩ := h1
      have bo := blkOk_by b1
      rw [← c.N, ← c.sc] at bo
      rw [← c.N] at b2
      obtain ⟨pi, ns⟩ := hit.i C t iter h2 X c
      obtain ⟨k, gd, hro⟩ := c.gd
      refine PE.imp (pe_biA (.b _) (by decide +kernel : bootBuiltins "sorted" = some (.builtin "sorted")) (cr_sortedT c.calm) hg (gd.free _ (by simp [biNames])) (pa_cons (pe_scT c.calm (by have := hro.in1.un; omega) c.nd pi bo (fun s H D cl fp => pg_tg (cok_blk c s H D cl scope fp) h3) (fun s H D cl fp => he.e _ elt h6 _ (cok_blk c s H D cl scope fp)) fun x => folded ns x) pa_nil rfl) rfl (by decide) hg') ?_
      intro σ H Q hq
      rw [b2]
      exact sss_rd mu it tg e h5 b3 c.K σ H Q hq
  refine ⟨hE, fun C x h X c => ?_⟩
  refine pt_plain c (hE C x h X c) rfl ?_
  cases x with
  | Call _ _ _ _ => exact fun _ => rfl
  | _ => cases h
end
end FB

set_option Elab.async false
set_option linter.all false
set_option maxRecDepth 10000
/-! FbSt: statements. -/
namespace FB
open PySem PySem.Spec PyProof.Rows L2 StX
section
variable {L : Lk} {T : Tx} {R : Rt} {C : Sc} {X : Cx}
variable {g f f1 f2 : List Addr} {H H1 H2 H' : Hp} {env env1 env2 : En} {σ σ1 σ2 : L2.St} {qt : Bool} {O O' : List Addr} {as as' : List Nat}
structure TstS (L : Lk) (g f : List Addr) (H : Hp) (σ : L2.St) (as : List Nat) (env' : En) (σ' : L2.St) (H' : Hp) (f' : List Addr) : Prop where
  ok : EnvOk L g H' env' σ' f'
  st : ∀ a o, H a = some o → a ∉ f → H' a = some o
  nf : ∀ a ∈ f', a ∈ f ∨ H a = none
  sig : ∀ j, j ∉ as → σ'[j]? = σ[j]?
  len : σ'.length = σ.length
structure RtS (L : Lk) (g f : List Addr) (H : Hp) (σ : L2.St) (as : List Nat) (m : M) (env' : En) (σ' : L2.St) (v : V) (H' : Hp) (f' fm : List Addr) : Prop where
  ok : EnvOk L (g ++ fm) H' env' σ' f'
  st : ∀ a o, H a = some o → a ∉ f → H' a = some o
  nf : ∀ a ∈ f', a ∈ f ∨ H a = none
  nm : ∀ a ∈ fm, a ∈ f ∨ H a = none
  rep : RepM L (g ++ fm ++ f') H' m v fm
  sig : ∀ j, j ∉ as → σ'[j]? = σ[j]?
  len : σ'.length = σ.length
/-- the ends of a statement, by the evaluator's word -/
def EndS (L : Lk) (g f : List Addr) (H : Hp) (σ : L2.St) (as : List Nat) : Out → Ends → Prop
  | .nx e, D => ∀ σ' H' f', TstS L g f H σ as e σ' H' f' → D.nx σ' H'
  | .rt m e, D => ∀ v σ' H' f' fm, RtS L g f H σ as m e σ' v H' f' fm → D.rt v H'
  | .bk e, D => ∀ σ' H' f', TstS L g f H σ as e σ' H' f' → D.bk σ' H'
  | .ct e, D => ∀ σ' H' f', TstS L g f H σ as e σ' H' f' → D.ct σ' H'
  | _, _ => False
def tSx (L : Lk) (R : Rt) (x : Sx) : TS := fun D σ H => ∃ g f env, EnvOk L g H env σ f ∧ EndS L g f H σ (asg x) (exec R x env) D
theorem nf_tr {f1 : List Addr} (st : ∀ a o, H a = some o → a ∉ f → H1 a = some o) (nf : ∀ a ∈ f1, a ∈ f ∨ H a = none) {c : Addr} (h : c ∈ f1 ∨ H1 c = none) : c ∈ f ∨ H c = none := by
  rcases h with z | z
  · exact nf c z
  · by_cases n : c ∈ f
    · exact .inl n
    · refine .inr ?_
      cases q : H c with
      | none => rfl
      | some o => rw [st c o q n] at z; cases z
theorem st_tr {f1 : List Addr} (nf : ∀ a ∈ f1, a ∈ f ∨ H a = none) {c : Addr} {o : HO} (e : H c = some o) (n : c ∉ f) : c ∉ f1 := fun m => by
  rcases nf c m with z | z
  · exact n z
  · rw [z] at e; cases e
theorem TstS.trans (t : TstS L g f H σ as env1 σ1 H1 f1) (u : TstS L g f1 H1 σ1 as' env2 σ2 H2 f2) : TstS L g f H σ (as ++ as') env2 σ2 H2 f2 :=
  ⟨u.ok, fun a o e n => u.st a o (t.st a o e n) (st_tr t.nf e n), fun a ha => nf_tr t.st t.nf (u.nf a ha), fun j hj => by
    rw [u.sig j fun z => hj (List.mem_append_right _ z), t.sig j fun z => hj (List.mem_append_left _ z)], u.len.trans t.len⟩
theorem TstS.rts {m : M} {v : V} {fm : List Addr} (t : TstS L g f H σ as env1 σ1 H1 f1) (u : RtS L g f1 H1 σ1 as' m env2 σ2 v H2 f2 fm) : RtS L g f H σ (as ++ as') m env2 σ2 v H2 f2 fm :=
  ⟨u.ok, fun a o e n => u.st a o (t.st a o e n) (st_tr t.nf e n), fun a ha => nf_tr t.st t.nf (u.nf a ha), fun a ha => nf_tr t.st t.nf (u.nm a ha), u.rep, fun j hj => by
    rw [u.sig j fun z => hj (List.mem_append_right _ z), t.sig j fun z => hj (List.mem_append_left _ z)], u.len.trans t.len⟩
theorem TstS.mono (t : TstS L g f H σ as env1 σ1 H1 f1) (h : ∀ j, j ∈ as → j ∈ as') : TstS L g f H σ as' env1 σ1 H1 f1 := ⟨t.ok, t.st, t.nf, fun j hj => t.sig j fun z => hj (h j z), t.len⟩
theorem RtS.mono {m : M} {v : V} {fm : List Addr} (t : RtS L g f H σ as m env1 σ1 v H1 f1 fm) (h : ∀ j, j ∈ as → j ∈ as') : RtS L g f H σ as' m env1 σ1 v H1 f1 fm := ⟨t.ok, t.st, t.nf, t.nm, t.rep, fun j hj => t.sig j fun z => hj (h j z), t.len⟩
theorem EndS.mono {o : Out} {D : Ends} (h : EndS L g f H σ as' o D) (s : ∀ j, j ∈ as → j ∈ as') : EndS L g f H σ as o D := by
  cases o with
  | nx e => exact fun σ' H' f' t => h σ' H' f' (t.mono s)
  | rt m e => exact fun v σ' H' f' fm t => h v σ' H' f' fm (t.mono s)
  | bk e => exact fun σ' H' f' t => h σ' H' f' (t.mono s)
  | ct e => exact fun σ' H' f' t => h σ' H' f' (t.mono s)
  | ex _ _ => exact h
  | no => exact h
theorem EndS.trans {o : Out} {D : Ends} (t : TstS L g f H σ as env1 σ1 H1 f1) (h : EndS L g f H σ (as ++ as') o D) : EndS L g f1 H1 σ1 as' o D := by
  cases o with
  | nx e => exact fun σ' H' f' u => h σ' H' f' (t.trans u)
  | rt m e => exact fun v σ' H' f' fm u => h v σ' H' f' fm (t.rts u)
  | bk e => exact fun σ' H' f' u => h σ' H' f' (t.trans u)
  | ct e => exact fun σ' H' f' u => h σ' H' f' (t.trans u)
  | ex _ _ => exact h
  | no => exact h
theorem Tst.ts {qa : Bool} (t : Tst L qa g f H env env1 σ H1 f1) : TstS L g f H σ [] env1 σ H1 f1 := ⟨t.ok, t.st, t.nf, fun _ _ => rfl, rfl⟩
theorem TstS.refl (h : EnvOk L g H env σ f) : TstS L g f H σ [] env σ H f := ⟨h, fun _ _ e _ => e, fun _ z => .inl z, fun _ _ => rfl, rfl⟩
/-- a context in which statements stand -/
structure CokS (L : Lk) (T : Tx) (R : Rt) (C : Sc) (X : Cx) : Prop extends Cok L T R C X where
  po : PassesOwn (model X.prog X.w) X.A X.env X.xe
structure SndS (L : Lk) (T : Tx) (R : Rt) (x : Sx) : Prop where
  s : ∀ C st, (ckS T x).s C st = true → ∀ X, CokS L T R C X → PS X st (tSx L R x)
  b : ∀ C sts, (ckS T x).b C sts = true → ∀ X, CokS L T R C X → PSs X sts (tSx L R x)
theorem PS.imp {st : Stmt} {t u : TS} (h : PS X st t) (i : ∀ D σ H, u D σ H → t D σ H) : PS X st u := ⟨fun pins s σ H D I q => h.run pins s σ H D I (i D σ H q)⟩
theorem PSs.imp {st : List Stmt} {t u : TS} (h : PSs X st t) (i : ∀ D σ H, u D σ H → t D σ H) : PSs X st u := ⟨fun pins s σ H D I q => h.run pins s σ H D I (i D σ H q)⟩
theorem skip_rd (D : Ends) (σ : L2.St) (H : Hp) (h : tSx L R .skip D σ H) : tNext D σ H := by
  obtain ⟨g, f, env, hE, q⟩ := h
  exact q σ H f (TstS.refl hE)
theorem snds_skip : SndS L T R .skip := by
  refine ⟨fun C st h X c => ?_, fun C sts h X c => ?_⟩
  · cases st <;> first | cases h; done | skip
    exact PS.imp ps_pass skip_rd
  · have h : sts.isEmpty = true := h
    cases sts with
    | nil => exact PSs.imp pss_nil skip_rd
    | cons _ _ => cases h
theorem snds_seq (a b : Sx) (ha : SndS L T R a) (hb : SndS L T R b) : SndS L T R (.seq a b) := by
  refine ⟨fun C st h X c => (by cases h), fun C sts h X c => ?_⟩
  cases sts with
  | nil => cases h
  | cons s r =>
    have h : ((ckS T a).s C s && (ckS T b).b C r) = true := h
    rw [Bool.and_eq_true] at h
    refine PSs.imp (pss_cons (ha.s C s h.1 X c) (hb.b C r h.2 X c)) fun D σ H ⟨g, f, env, hE, q⟩ => ⟨g, f, env, hE, ?_⟩
    have q : EndS L g f H σ (asg a ++ asg b) ((exec R a env).andThen (exec R b)) D := q
    cases ho : exec R a env with
    | nx e =>
      rw [ho] at q
      exact fun σ' H' f' t => ⟨g, f', e, t.ok, EndS.trans t q⟩
    | rt m e => rw [ho] at q; exact EndS.mono (o := .rt m e) (D := D) q fun j hj => List.mem_append_left _ hj
    | bk e => rw [ho] at q; exact EndS.mono (o := .bk e) (D := D) q fun j hj => List.mem_append_left _ hj
    | ct e => rw [ho] at q; exact EndS.mono (o := .ct e) (D := D) q fun j hj => List.mem_append_left _ hj
    | ex _ _ => rw [ho] at q; exact q
    | no => rw [ho] at q; exact q
/-- a value into a slot -/
theorem Pst.set {al qa : Bool} {m : M} {v : V} {fm : List Addr} {i : Nat} (p : Pst L false qa g f H env m env1 σ v H1 f1 fm) (hi : i < σ.length) : ∃ f', TstS L g f H σ [i] (env1.set i (some m)) (σ.set i (some v)) H1 f' := by
  obtain ⟨f', s, ok⟩ := EnvOk.put (m := m) (v := v) (i := i) (show EnvOk L (g ++ fm) H1 env1 σ f1 from p.ok) p.rep (by rw [p.okg.len]; exact hi)
  refine ⟨f', ok, p.st, fun a ha => ?_, fun j hj => ?_, by rw [List.length_set]⟩
  · exact (s a ha).elim (p.nm a) (p.nf a)
  · rw [List.getElem?_set_ne]
    exact fun z => hj (z ▸ List.mem_singleton_self _)
theorem set_rd {e : Ex} {i : Nat} (he : isAl e = false) {D : Ends} {σ : L2.St} {H : Hp} (hi : i < σ.length) (h : tSx L R (.set i e) D σ H) : tAsg (tE L R e) (gName i) D σ H := by
  obtain ⟨g, f, env, hE, q⟩ := h
  have q : EndS L g f H σ [i] (((ev R e).e env).bind fun m env => .ok (env.set i (some m)) env).out D := q
  cases hm : (ev R e).e env with
  | ok m env1 =>
    rw [hm] at q
    refine ⟨g, f, env, m, env1, hE, hm, fun v H' f' fm p => ?_⟩
    rw [he] at p
    obtain ⟨f'', t⟩ := p.set (al := false) (i := i) hi
    exact q _ H' f'' t
  | ex _ _ => rw [hm] at q; exact q.elim
  | no => rw [hm] at q; exact q.elim
theorem sw_no {v : Expr} (h : isComp v = false) (t : Option Expr) (l : Nat) (env : Env) : swapsWith v t l env = pure false := by
  cases v <;> first | rfl | cases h
/-- readings hold where the slots are as many as the names -/
theorem PS.len {st : Stmt} {t u : TS} (h : PS X st t) (i : ∀ D σ H, σ.length = X.N.length → u D σ H → t D σ H) : PS X st u := ⟨fun pins s σ H D I q => h.run pins s σ H D I (i D σ H I.len q)⟩
theorem snds_set (i : Nat) (e : Ex) (he : Snd L T R e) (hlc : ∀ mu it tg k x, e = .lc mu it tg k x → SndI L T R it ∧ Snd L T R k ∧ Snd L T R x) : SndS L T R (.set i e) := by
  refine ⟨fun C st h X c => ?_, fun C sts h X c => (by cases h)⟩
  cases st with
  | Assign ts v pos =>
    cases ts with
    | nil => cases h
    | cons t0 ts =>
      cases ts with
      | cons _ _ => cases t0 <;> cases h
      | nil =>
        cases t0 with
        | Name n py =>
          have h : (locB C i n && !isAl e && (ck T e).e C v && (if isComp v then isLc e && swapB C n py v else true)) = true := h
          simp only [Bool.and_eq_true, Bool.not_eq_true'] at h
          obtain ⟨⟨⟨h1, h2⟩, h3⟩, h4⟩ := h
          obtain ⟨n1, n2, n3⟩ := loc_of c.toCok h1
          have hil : i < X.N.length := (List.getElem?_eq_some_iff.mp n1).1
          by_cases hc : isComp v = true
          · rw [if_pos hc, Bool.and_eq_true] at h4
            obtain ⟨l1, l2⟩ := h4
            cases e with
            | lc mu it tg k x =>
              obtain ⟨hit, hk, hx⟩ := hlc mu it tg k x rfl
              match v, h3, l2 with
              | .ListComp elt [⟨t, iter, ifs, kk⟩] scope vpos, h3, l2 =>
                have h : (decide (kk = 0) && blkB C scope tg.slots && (ck T it).i C t iter && ckTg (blkS C scope) tg t && ckIfs ((ck T k).e (blkS C scope)) k ifs && !isAl x && (ck T x).e (blkS C scope) elt) = true := h3
                simp only [Bool.and_eq_true, decide_eq_true_eq, Bool.not_eq_true'] at h
                obtain ⟨⟨⟨⟨⟨⟨k0, k1⟩, k2⟩, k3⟩, k4⟩, k5⟩, k6⟩ := h
                subst k0
                unfold blkB at k1
                simp only [Bool.and_eq_true, decide_eq_true_eq] at k1
                obtain ⟨⟨b1, b2⟩, b3⟩ := k1
                have bo := blkOk_by b1
                rw [← c.N, ← c.sc] at bo
                rw [← c.N] at b2
                obtain ⟨pi, ns⟩ := hit.i C t iter k2 X c.toCok
                have l2' : ((match C.sc.kind with | .function => true | _ => false) && decide (C.sc.names.lookup n = some .local) && (py.line == vpos.line) && !(scope.names.any fun (m, k) => m == n && (k == .local || k == .cell))) = true := l2
                rw [Bool.and_eq_true, Bool.and_eq_true, Bool.and_eq_true, Bool.not_eq_true', decide_eq_true_eq] at l2'
                obtain ⟨⟨⟨s1, s2⟩, s3⟩, s4⟩ := l2'
                have hkind : X.env.scope.kind = .function := by
                  rw [c.sc]
                  split at s1
                  · assumption
                  · cases s1
                have hloc : X.env.scope.names.lookup n = some .local := by rw [c.sc]; exact s2
                refine PS.len (ps_setLc c.calm c.nd n1 hloc (sw_true hkind hloc s3 s4) pi bo (fun s H D cl fp => pg_tg (cok_blk c.toCok s H D cl scope fp) k3) (fun s H D cl fp => pts_ifs (fun x hx => hk.t _ x hx _ (cok_blk c.toCok s H D cl scope fp)) k4) (fun s H D cl fp => hx.e _ elt k6 _ (cok_blk c.toCok s H D cl scope fp)) fun x => folded ns x) ?_
                intro D σ H hl hq
                have := set_rd h2 (by rw [hl]; exact hil) hq
                rw [b2]
                exact lc_rd mu it tg k x k5 b3 σ H _ this
            | _ => cases l1
          · exact PS.len (ps_set c.nd n1 n2 (he.e C v h3 X c.toCok) (sw_no (by simpa using hc) _ _ _) n3) fun D σ H hl hq => set_rd h2 (by rw [hl]; exact hil) hq
        | _ => cases h
  | _ => cases h
theorem snds_ex (e : Ex) (he : Snd L T R e) : SndS L T R (.ex e) := by
  refine ⟨fun C st h X c => ?_, fun C sts h X c => (by cases h)⟩
  cases st <;> first | cases h; done | skip
  rename_i v pos
  have h : (!isComp v && (ck T e).e C v) = true := h
  simp only [Bool.and_eq_true, Bool.not_eq_true'] at h
  refine PS.imp (ps_expr (he.e C v h.2 X c.toCok) (sw_no h.1 _ _ _)) fun D σ H ⟨g, f, env, hE, q⟩ => ?_
  have q : EndS L g f H σ [] (((ev R e).e env).bind fun _ env => .ok env env).out D := q
  cases hm : (ev R e).e env with
  | ok m env1 =>
    rw [hm] at q
    exact ⟨g, f, env, m, env1, hE, hm, fun v H' f' fm p => q σ H' f' p.tst.ts⟩
  | ex _ _ => rw [hm] at q; exact q.elim
  | no => rw [hm] at q; exact q.elim
theorem snds_ret (e : Ex) (he : Snd L T R e) : SndS L T R (.ret e) := by
  refine ⟨fun C st h X c => ?_, fun C sts h X c => (by cases h)⟩
  cases st with
  | Return v pos =>
   cases v with
   | none => cases h
   | some v =>
    have h : (!isAl e && (ck T e).e C v) = true := h
    simp only [Bool.and_eq_true, Bool.not_eq_true'] at h
    refine PS.imp (ps_ret (he.e C v h.2 X c.toCok)) fun D σ H ⟨g, f, env, hE, q⟩ => ?_
    have q : EndS L g f H σ [] (match (ev R e).e env with | .ok m env => .rt m env | .ex x env => .ex x env | .no => .no) D := q
    cases hm : (ev R e).e env with
    | ok m env1 =>
      rw [hm] at q
      refine ⟨g, f, env, m, env1, hE, hm, fun v H' f' fm p => ?_⟩
      rw [h.1] at p
      exact q v σ H' f' fm ⟨p.ok, p.st, p.nf, p.nm, p.rep, fun _ _ => rfl, rfl⟩
    | ex _ _ => rw [hm] at q; exact q.elim
    | no => rw [hm] at q; exact q.elim
  | _ => cases h
theorem snds_ret0 : SndS L T R .ret0 := by
  refine ⟨fun C st h X c => ?_, fun C sts h X c => (by cases h)⟩
  cases st with
  | Return v pos =>
   cases v with
   | some _ => cases h
   | none =>
    refine PS.imp ps_retN fun D σ H ⟨g, f, env, hE, q⟩ => ?_
    exact q .non σ H f [] ⟨by simpa using hE, fun _ _ e _ => e, fun _ z => .inl z, fun _ z => (nomatch z), ⟨rfl, rfl⟩, fun _ _ => rfl, rfl⟩
  | _ => cases h
theorem snds_cont : SndS L T R .cont := by
  refine ⟨fun C st h X c => ?_, fun C sts h X c => (by cases h)⟩
  cases st <;> first | cases h; done | skip
  exact PS.imp ps_continue fun D σ H ⟨g, f, env, hE, q⟩ => q σ H f (TstS.refl hE)
theorem snds_brk : SndS L T R .brk := by
  refine ⟨fun C st h X c => ?_, fun C sts h X c => (by cases h)⟩
  cases st <;> first | cases h; done | skip
  exact PS.imp ps_break fun D σ H ⟨g, f, env, hE, q⟩ => q σ H f (TstS.refl hE)
theorem snds_ite (k : Ex) (a b : Sx) (hk : Snd L T R k) (ha : SndS L T R a) (hb : SndS L T R b) : SndS L T R (.ite k a b) := by
  refine ⟨fun C st h X c => ?_, fun C sts h X c => (by cases h)⟩
  cases st <;> first | cases h; done | skip
  rename_i x p q pos
  have h : ((ck T k).e C x && (ckS T a).b C p && (ckS T b).b C q) = true := h
  simp only [Bool.and_eq_true] at h
  refine PS.imp (ps_if (hk.t C x h.1.1 X c.toCok) (ha.b C p h.1.2 X c) (hb.b C q h.2 X c)) fun D σ H ⟨g, f, env, hE, q⟩ => ?_
  have q : EndS L g f H σ (asg a ++ asg b) (match (ev R k).t env with | .ok true env => exec R a env | .ok false env => exec R b env | .ex x env => .ex x env | .no => .no) D := q
  cases hm : (ev R k).t env with
  | ok v env1 =>
    rw [hm] at q
    refine ⟨g, f, env, v, env1, hE, hm, fun H' f' t => ?_⟩
    cases v with
    | true =>
      rw [if_pos rfl]
      exact ⟨g, f', env1, t.ok, (EndS.trans (as := []) t.ts q).mono fun j hj => List.mem_append_left _ hj⟩
    | false =>
      rw [if_neg (by simp)]
      exact ⟨g, f', env1, t.ok, (EndS.trans (as := []) t.ts q).mono fun j hj => List.mem_append_right _ hj⟩
  | ex _ _ => rw [hm] at q; exact q.elim
  | no => rw [hm] at q; exact q.elim
end
end FB

set_option Elab.async false
set_option linter.all false
set_option maxRecDepth 10000
/-! FbSt2: loops. -/
namespace FB
open PySem PySem.Spec PyProof.Rows L2 StX
section
variable {L : Lk} {T : Tx} {R : Rt} {C : Sc} {X : Cx}
variable {g f f1 f2 : List Addr} {H H1 H2 H' : Hp} {env env1 env2 : En} {σ σ1 σ2 : L2.St} {qt : Bool} {O O' : List Addr} {as as' : List Nat}
theorem EndS.no {D : Ends} : EndS L g f H σ as .no D → False := id
theorem TstS.join (t : TstS L g f H σ as env1 σ1 H1 f1) (u : TstS L g f1 H1 σ1 as env2 σ2 H2 f2) : TstS L g f H σ as env2 σ2 H2 f2 := (t.trans u).mono fun j hj => (List.mem_append.mp hj).elim id id
/-- the end of a body within a loop -/
theorem end_body {o : Out} {D D' : Ends} (h : ∀ e, o = .nx e → EndS L g f H σ as (.nx e) D') (h1 : ∀ e, o = .ct e → EndS L g f H σ as (.ct e) D') (h2 : ∀ e, o = .bk e → EndS L g f H σ as (.bk e) D') (h3 : ∀ m e, o = .rt m e → EndS L g f H σ as (.rt m e) D') (h4 : ∀ x e, o ≠ .ex x e) (h5 : o ≠ .no) :
    EndS L g f H σ as o D' := by
  cases o with
  | nx e => exact h e rfl
  | rt m e => exact h3 m e rfl
  | bk e => exact h2 e rfl
  | ct e => exact h1 e rfl
  | ex x e => exact absurd rfl (h4 x e)
  | no => exact absurd rfl h5
theorem snds_wh (k : Ex) (a : Sx) (hk : Snd L T R k) (ha : SndS L T R a) : SndS L T R (.wh k a) := by
  refine ⟨fun C st h X c => ?_, fun C sts h X c => (by cases h)⟩
  cases st with
  | While x p el pos =>
    cases el with
    | cons _ _ => cases h
    | nil =>
      have h : ((ck T k).e C x && (ckS T a).b C p) = true := h
      simp only [Bool.and_eq_true] at h
      refine PS.imp (ps_while c.po (hk.t C x h.1 X c.toCok) (ha.b C p h.2 X c)) fun D σ H ⟨g, f, env, hE, q⟩ => ?_
      have q : EndS L g f H σ (asg a) (whileC (ev R k).t (exec R a) env) D := q
      unfold whileC at q
      rcases (Or.inl trivial : True ∨ False) with hx | hx
      · generalize 100000 = n0 at q
        refine ⟨fun m σ' H' => ∃ env' f', TstS L g f H σ (asg a) env' σ' H' f' ∧ EndS L g f H σ (asg a) (whileN (ev R k).t (exec R a) m env') D, ⟨n0, env, f, (TstS.refl hE).mono (fun _ z => (nomatch z)), q⟩, ?_⟩
        intro m σ' H' ⟨env', f', t, qm⟩
        cases m with
        | zero => exact qm.elim
        | succ m =>
          have qm : EndS L g f H σ (asg a) (match (ev R k).t env' with
            | .ok true env => (match exec R a env with
              | .nx env => whileN (ev R k).t (exec R a) m env
              | .ct env => whileN (ev R k).t (exec R a) m env
              | .bk env => .nx env
              | o => o)
            | .ok false env => .nx env
            | .ex x env => .ex x env
            | .no => .no) D := qm
          cases hm : (ev R k).t env' with
          | ok v env1 =>
            rw [hm] at qm
            refine ⟨g, f', env', v, env1, t.ok, hm, fun H1 f1 t1 => ?_⟩
            have tt : TstS L g f H σ (asg a) env1 σ' H1 f1 := (t.trans t1.ts).mono fun j hj => by simpa using hj
            cases v with
            | false =>
              simp only [Bool.false_eq_true, if_false]
              exact qm σ' H1 f1 tt
            | true =>
              have qm : EndS L g f H σ (asg a) (match exec R a env1 with
                | .nx env => whileN (ev R k).t (exec R a) m env
                | .ct env => whileN (ev R k).t (exec R a) m env
                | .bk env => .nx env
                | o => o) D := qm
              simp only [if_true]
              refine ⟨fun σ2 H2 => ∃ env' f', TstS L g f H σ (asg a) env' σ2 H2 f' ∧ EndS L g f H σ (asg a) (whileN (ev R k).t (exec R a) m env') D, fun σ2 H2 z => ⟨m, Nat.lt_succ_self m, z⟩, g, f1, env1, tt.ok, ?_⟩
              cases ho : exec R a env1 with
              | nx e => rw [ho] at qm; exact fun σ2 H2 f2 u => ⟨e, f2, tt.join u, qm⟩
              | ct e => rw [ho] at qm; exact fun σ2 H2 f2 u => ⟨e, f2, tt.join u, qm⟩
              | bk e => rw [ho] at qm; exact fun σ2 H2 f2 u => qm σ2 H2 f2 (tt.join u)
              | rt m e =>
                rw [ho] at qm
                exact fun v σ2 H2 f2 fm u => qm v σ2 H2 f2 fm ((tt.rts u).mono fun j hj => (List.mem_append.mp hj).elim id id)
              | ex _ _ => rw [ho] at qm; exact qm.elim
              | no => rw [ho] at qm; exact qm.elim
          | ex _ _ => rw [hm] at qm; exact qm.elim
          | no => rw [hm] at qm; exact qm.elim
      · exact hx.elim
  | _ => cases h
theorem RepLn.sig : ∀ {ln : List (Nat × M)} {fl : List Addr}, RepLn L O H σ ln fl → (∀ q ∈ ln, σ1[q.1]? = σ[q.1]?) → RepLn L O H σ1 ln fl
  | [], _, h, _ => h
  | (i, m) :: r, _, ⟨v, fa, fb, hv, ef, rm, rr⟩, k => ⟨v, fa, fb, by rw [k (i, m) List.mem_cons_self]; exact hv, ef, rm, RepLn.sig rr fun q hq => k q (List.mem_cons_of_mem _ hq)⟩
/-- what was lent to a loop comes back behind it -/
theorem back_end {ln : List (Nat × M)} {fl : List Addr} {o : Out} {D : Ends} (p : PstI L g f H env ln env1 σ H1 f1 fl) (lk : lentOk as ln = true) (q : EndS L g f H σ as (o.backL ln) D) : EndS L (g ++ fl) f1 H1 σ as o D := by
  have n1 : ∀ c, c ∈ f1 ∨ H1 c = none → c ∈ f ∨ H c = none := fun c h => nf_tr p.st p.nf h
  have s1 : ∀ c o, H c = some o → c ∉ f → H1 c = some o ∧ c ∉ f1 := fun c o e n => ⟨p.st c o e n, st_tr p.nf e n⟩
  -- the lent trees, later
  have lent : ∀ {σ' : L2.St} {H' : Hp} {f' fm : List Addr} {env' e' : En}, EnvOk L (g ++ fl ++ fm) H' env' σ' f' → (∀ a o, H1 a = some o → a ∉ f1 → H' a = some o) → (∀ a ∈ f', a ∈ f1 ∨ H1 a = none) → (∀ a ∈ fm, a ∈ f1 ∨ H1 a = none) → (∀ j, j ∉ as → σ'[j]? = σ[j]?) → giveL ln env' = some e' →
      ∃ f3, EnvOk L (g ++ fm) H' e' σ' f3 ∧ (∀ a ∈ f3, a ∈ fl ∨ a ∈ f') := by
    intro σ' H' f' fm env' e' ok st nf nm sig hg
    have pm : (g ++ fm ++ fl).Perm (g ++ fl ++ fm) := by
      rw [List.append_assoc, List.append_assoc]
      exact List.Perm.append_left g List.perm_append_comm
    have ok2 : EnvOk L (g ++ fm ++ fl) H' env' σ' f' := ok.perm pm
    have mv : Mv (g ++ fl ++ f1) (g ++ fm ++ fl ++ f') H1 H' := ⟨fun a o n e => st a o e fun m => n (List.mem_append_right _ m), fun a ha n => by
      simp only [List.mem_append, not_or] at ha n
      rcases ha with ((z | z) | z) | z
      · exact absurd z n.1.1
      · exact (nm a z).elim (fun w => absurd w n.2) id
      · exact absurd z n.1.2
      · exact (nf a z).elim (fun w => absurd w n.2) id⟩
    have dfl : ∀ a ∈ fl, a ∉ f1 := fun a ha m => (List.nodup_append.mp p.ok.nd).2.2 a (List.mem_append_right _ ha) a m rfl
    have rl : RepLn L (g ++ fm ++ fl ++ f') H' σ ln fl := p.rep.mv mv fun a o ha e => st a o e (dfl a ha)
    have rl2 : RepLn L (g ++ fm ++ fl ++ f') H' σ' ln fl := rl.sig fun q hq => sig q.1 (by
      have := List.all_eq_true.mp lk q hq
      simpa using this)
    obtain ⟨f3, s3, e3⟩ := giveL_ok hg ok2 rl2
    exact ⟨f3, e3, s3⟩
  have fin : ∀ {σ' : L2.St} {H' : Hp} {f' : List Addr} {env' e' : En}, TstS L (g ++ fl) f1 H1 σ as env' σ' H' f' → giveL ln env' = some e' → ∃ f3, TstS L g f H σ as e' σ' H' f3 := by
    intro σ' H' f' env' e' t hg
    obtain ⟨f3, e3, s3⟩ := lent (fm := []) (by simpa using t.ok) t.st t.nf (fun _ z => (nomatch z)) t.sig hg
    refine ⟨f3, by simpa using e3, fun a o e n => t.st a o (s1 a o e n).1 (s1 a o e n).2, fun a ha => ?_, t.sig, t.len⟩
    rcases s3 a ha with z | z
    · exact p.nm a z
    · exact n1 a (t.nf a z)
  cases o with
  | nx e =>
    have q : EndS L g f H σ as (match giveL ln e with | some e => Out.nx e | none => .no) D := q
    cases hg : giveL ln e with
    | some e' =>
      rw [hg] at q
      intro σ' H' f' t
      obtain ⟨f3, t3⟩ := fin t hg
      exact q σ' H' f3 t3
    | none => rw [hg] at q; exact q.elim
  | rt m e =>
    have q : EndS L g f H σ as (match giveL ln e with | some e => Out.rt m e | none => .no) D := q
    cases hg : giveL ln e with
    | some e' =>
      rw [hg] at q
      intro v σ' H' f' fm t
      obtain ⟨f3, e3, s3⟩ := lent t.ok t.st t.nf t.nm t.sig hg
      refine q v σ' H' f3 fm ⟨e3, fun a o e n => t.st a o (s1 a o e n).1 (s1 a o e n).2, fun a ha => ?_, fun a ha => n1 a (t.nm a ha), t.rep.mv (Mv.less fun a ha => ?_) fun _ _ _ e => e, t.sig, t.len⟩
      · rcases s3 a ha with z | z
        · exact p.nm a z
        · exact n1 a (t.nf a z)
      · simp only [List.mem_append] at ha ⊢
        rcases ha with (z | z) | z
        · exact .inl (.inl (.inl z))
        · exact .inl (.inr z)
        · rcases s3 a z with w | w
          · exact .inl (.inl (.inr w))
          · exact .inr w
    | none => rw [hg] at q; exact q.elim
  | bk e => exact q.elim
  | ct e => exact q.elim
  | ex x e =>
    have q : EndS L g f H σ as (match giveL ln e with | some e => Out.ex x e | none => .no) D := q
    cases hg : giveL ln e with
    | some e' => rw [hg] at q; exact q.elim
    | none => rw [hg] at q; exact q.elim
  | no => exact q.elim
theorem snds_for (it : Ex) (tg : Tg) (a : Sx) (hi : SndI L T R it) (ha : SndS L T R a) : SndS L T R (.for it tg a) := by
  refine ⟨fun C st h X c => ?_, fun C sts h X c => (by cases h)⟩
  cases st with
  | For t x p el pos =>
    cases el with
    | cons _ _ => cases h
    | nil =>
      have h : ((ck T it).i C t x && ckTg C tg t && (ckS T a).b C p) = true := h
      simp only [Bool.and_eq_true] at h
      obtain ⟨pi, ns⟩ := hi.i C t x h.1.1 X c.toCok
      refine PS.imp (ps_for c.po c.calm pi (pg_tg c.toCok h.1.2) (ha.b C p h.2 X c) fun x => folded ns x) fun D σ H ⟨g, f, env, hE, q⟩ => ?_
      have q : EndS L g f H σ (tg.slots ++ asg a) (match (ev R it).i env with
        | .ok dl env => if lentOk (tg.slots ++ asg a) dl.2 then (forL (fun d env => match bindTg tg d env with
          | some env => exec R a env
          | none => .no) dl.1 env).backL dl.2 else .no
        | .ex x env => .ex x env
        | .no => .no) D := q
      cases hm : (ev R it).i env with
      | ok dl env1 =>
        obtain ⟨ds, ln⟩ := dl
        rw [hm] at q
        have q : EndS L g f H σ (tg.slots ++ asg a) (if lentOk (tg.slots ++ asg a) ln then (forL (fun d env => match bindTg tg d env with
          | some env => exec R a env
          | none => .no) ds env1).backL ln else .no) D := q
        by_cases hl : lentOk (tg.slots ++ asg a) ln = true
        · rw [if_pos hl] at q
          generalize hb : (fun d env => match bindTg tg d env with | some env => exec R a env | none => Out.no : FB.D → En → Out) = body at q
          refine ⟨g, f, env, ds, ln, env1, hE, hm, fun J H1 f1 fl p wd => ?_⟩
          have q1 : EndS L (g ++ fl) f1 H1 σ (tg.slots ++ asg a) (forL body ds env1) D := back_end p hl q
          let G : Hp → Prop := fun H2 => ∃ O2, Mv (g ++ fl ++ f1) O2 H1 H2 ∧ (∀ a o, H1 a = some o → a ∉ f1 → H2 a = some o) ∧ ∀ a ∈ O2, ∃ o, H2 a = some o
          let Y : Nat → Hp → V → Hp → Prop := fun i H2 x H3 => ∀ O2, Mv (g ++ fl ++ f1) O2 H1 H2 → (∀ a o, H1 a = some o → a ∉ f1 → H2 a = some o) → (∀ a ∈ O2, ∃ o, H2 a = some o) → ∃ d, ds[i]? = some d ∧ (∀ a o, H2 a = some o → H3 a = some o) ∧ RepD L O2 H3 d x
          have w : Walk J ds.length G Y := ⟨fun i H2 hi ⟨O2, a, b, c⟩ => (wd O2 H2 a b c).1 i hi, fun H2 ⟨O2, a, b, c⟩ => (wd O2 H2 a b c).2.1, fun i H2 x H3 hi _ y O2 a b c => (wd O2 H2 a b c).2.2 i x H3 hi y⟩
          let Pv : Nat → L2.St → Hp → Prop := fun i σ2 H2 => ∃ env' f', TstS L (g ++ fl) f1 H1 σ (tg.slots ++ asg a) env' σ2 H2 f' ∧ EndS L (g ++ fl) f1 H1 σ (tg.slots ++ asg a) (forL body (ds.drop i) env') D
          have mvT : ∀ {env' : En} {σ2 : L2.St} {H2 : Hp} {f' : List Addr}, TstS L (g ++ fl) f1 H1 σ (tg.slots ++ asg a) env' σ2 H2 f' → Mv (g ++ fl ++ f1) (g ++ fl ++ f') H1 H2 := fun {env' σ2 H2 f'} t => ⟨fun a o n e => t.st a o e fun m => n (List.mem_append_right _ m), fun a ha n => by
            rcases List.mem_append.mp ha with z | z
            · exact absurd (List.mem_append_left _ z) n
            · exact (t.nf a z).elim (fun w => absurd (List.mem_append_right _ w) n) id⟩
          refine for_it w Pv ⟨env1, f1, (TstS.refl p.ok).mono (fun _ z => (nomatch z)), q1⟩ (fun i σ2 H2 _ ⟨env', f', t, _⟩ => ⟨_, mvT t, t.st, t.ok.trf⟩) ?_ ?_
          · intro i x σ2 H2 H3 hi' ⟨env', f', t, qi⟩ y
            obtain ⟨d, hd, ext, rd⟩ := y _ (mvT t) t.st t.ok.trf
            have hdr : ds.drop i = d :: ds.drop (i + 1) := by
              rw [List.drop_eq_getElem_cons hi']
              rw [List.getElem?_eq_getElem hi'] at hd
              rw [Option.some.inj hd]
            rw [hdr] at qi
            have qi : EndS L (g ++ fl) f1 H1 σ (tg.slots ++ asg a) (match body d env' with
              | .nx env => forL body (ds.drop (i + 1)) env
              | .ct env => forL body (ds.drop (i + 1)) env
              | .bk env => .nx env
              | o => o) D := qi
            have ok3 : EnvOk L (g ++ fl) H3 env' σ2 f' := t.ok.same ext
            have hbd : body d env' = (match bindTg tg d env' with | some env => exec R a env | none => .no) := by rw [← hb]
            cases hbt : bindTg tg d env' with
            | none =>
              rw [hbd, hbt] at qi
              exact qi.elim
            | some envb =>
              rw [hbt] at hbd
              have hbd : body d env' = exec R a envb := hbd
              rw [hbd] at qi
              refine ⟨g ++ fl, f', env', d, envb, ok3, rd, hbt, fun σ3 fb okb sb ub lb => ?_⟩
              have t3 : TstS L (g ++ fl) f1 H1 σ (tg.slots ++ asg a) envb σ3 H3 fb := ⟨okb, fun a o e n => ext a o (t.st a o e n), fun a ha => t.nf a (sb a ha), fun j hj => by
                rw [ub j fun z => hj (List.mem_append_left _ z), t.sig j hj], by rw [lb, t.len]⟩
              refine ⟨g ++ fl, fb, envb, okb, ?_⟩
              have up : ∀ {e : En} {σ4 : L2.St} {H4 : Hp} {f4 : List Addr}, TstS L (g ++ fl) fb H3 σ3 (asg a) e σ4 H4 f4 → TstS L (g ++ fl) f1 H1 σ (tg.slots ++ asg a) e σ4 H4 f4 := fun u => (t3.trans u).mono fun j hj => (List.mem_append.mp hj).elim id fun z => List.mem_append_right _ z
              cases ho : exec R a envb with
              | nx e => rw [ho] at qi; exact fun σ4 H4 f4 u => ⟨e, f4, up u, qi⟩
              | ct e => rw [ho] at qi; exact fun σ4 H4 f4 u => ⟨e, f4, up u, qi⟩
              | bk e => rw [ho] at qi; exact fun σ4 H4 f4 u => qi σ4 H4 f4 (up u)
              | rt m e =>
                rw [ho] at qi
                exact fun v σ4 H4 f4 fm u => qi v σ4 H4 f4 fm ((t3.rts u).mono fun j hj => (List.mem_append.mp hj).elim id fun z => List.mem_append_right _ z)
              | ex _ _ => rw [ho] at qi; exact qi.elim
              | no => rw [ho] at qi; exact qi.elim
          · intro σ2 H2 ⟨env', f', t, qi⟩
            rw [List.drop_length] at qi
            exact qi σ2 H2 f' t
        · rw [if_neg hl] at q; exact q.elim
      | ex _ _ => rw [hm] at q; exact q.elim
      | no => rw [hm] at q; exact q.elim
  | _ => cases h
end
end FB

set_option Elab.async false
set_option linter.all false
set_option maxRecDepth 10000
/-! FbFoc: a part of a slot's tree, replaced. -/
namespace FB
open PySem PySem.Spec PyProof.Rows L2 StX
section
variable {L : Lk} {T : Tx} {R : Rt} {C : Sc} {X : Cx}
variable {g f f1 f2 : List Addr} {H H1 H2 H' : Hp} {env env1 env2 : En} {σ σ1 σ2 : L2.St} {qt : Bool} {O O' : List Addr} {as as' : List Nat}
/-- one step of a path through what is owned, by values -/
def StepV (L : Lk) (H : Hp) : PeV → V → V → Prop
  | .fld k, v, w => ∃ a C dx fs, v = .ref a ∧ H a = some (.ins C dx fs) ∧ Cls L.K C ∧ NoAttr L.K C (L.nm k) ∧ fs.lookup (L.nm k) = some w
  | .ix i, v, w => ∃ a vs, v = .ref a ∧ H a = some (.lst vs) ∧ vs[i]? = some w
def PathW (L : Lk) (H : Hp) : List PeV → V → V → Prop
  | [], v, w => v = w
  | p :: q, v, w => ∃ u, StepV L H p v u ∧ PathW L H q u w
theorem StepV.keep {p : PeV} {v w : V} (h : StepV L H p v w) (k : ∀ a o, H a = some o → H' a = some o) : StepV L H' p v w := by
  cases p with
  | fld n => obtain ⟨a, C, dx, fs, e, h1, h2, h3, h4⟩ := h; exact ⟨a, C, dx, fs, e, k _ _ h1, h2, h3, h4⟩
  | ix i => obtain ⟨a, vs, e, h1, h2⟩ := h; exact ⟨a, vs, e, k _ _ h1, h2⟩
theorem PathW.keep : ∀ {q : List PeV} {v w : V}, PathW L H q v w → (∀ a o, H a = some o → H' a = some o) → PathW L H' q v w
  | [], _, _, h, _ => h
  | p :: q, _, _, ⟨u, h1, h2⟩, k => ⟨u, h1.keep k, PathW.keep h2 k⟩
theorem StepV.det {p : PeV} {v w w' : V} (h : StepV L H p v w) (h' : StepV L H p v w') : w = w' := by
  cases p with
  | fld n =>
    obtain ⟨a, C, dx, fs, e, h1, h2, h3, h4⟩ := h
    obtain ⟨a', C', dx', fs', e', h1', h2', h3', h4'⟩ := h'
    rw [e] at e'; cases e'
    rw [h1] at h1'; cases h1'
    rw [h4] at h4'; cases h4'; rfl
  | ix i =>
    obtain ⟨a, vs, e, h1, h2⟩ := h
    obtain ⟨a', vs', e', h1', h2'⟩ := h'
    rw [e] at e'; cases e'
    rw [h1] at h1'; cases h1'
    rw [h2] at h2'; cases h2'; rfl
theorem PathW.det : ∀ {q : List PeV} {v w w' : V}, PathW L H q v w → PathW L H q v w' → w = w'
  | [], _, _, _, h, h' => h.symm.trans h'
  | p :: q, _, _, _, ⟨u, h1, h2⟩, ⟨u', h1', h2'⟩ => by
    rw [h1.det h1'] at h2
    exact PathW.det h2 h2'
theorem PathW.snoc : ∀ {q : List PeV} {p : PeV} {v w : V}, PathW L H (q ++ [p]) v w → ∃ u, PathW L H q v u ∧ StepV L H p u w
  | [], p, v, w, ⟨u, h1, h2⟩ => ⟨v, rfl, by rw [← show u = w from h2]; exact h1⟩
  | s :: q, p, v, w, ⟨u, h1, h2⟩ => by
    obtain ⟨u', h3, h4⟩ := PathW.snoc h2
    exact ⟨u', ⟨u, h1, h3⟩, h4⟩
/-- the reading of a place whose values are known -/
theorem place_w (hE : EnvOk L g H env σ f) (i : Nat) {v0 : V} (h0 : σ[i]? = some (some v0)) : ∀ (r : List Pe) (q : List PeV) (w : V) (Q : VK), pathV env r.reverse = some q → PathW L H q v0 w → Q w H → tP L i r σ H Q
  | [], q, w, Q, h, hw, k => by
    cases h
    rw [← show v0 = w from hw] at k
    exact ⟨v0, h0, k⟩
  | p :: r, q, w, Q, h, hw, k => by
    rw [List.reverse_cons, pathV_app] at h
    obtain ⟨q0, h5, h6⟩ := bindO_ok h
    obtain ⟨v, h7, h8⟩ := mapO_ok h6
    subst h8
    obtain ⟨u, w1, w2⟩ := hw.snoc
    cases p with
    | fld n =>
      cases h7
      obtain ⟨a, C, dx, fs, e, k1, k2, k3, k4⟩ := w2
      exact place_w hE i h0 r q0 u _ h5 w1 ⟨a, C, dx, fs, w, e, k1, k2, k3, k4, k⟩
    | ixc n =>
      cases h7
      obtain ⟨a, vs, e, k1, k2⟩ := w2
      exact place_w hE i h0 r q0 u _ h5 w1 (.inl ⟨a, vs, n, w, e, rfl, .of k1, atI_of k2, k⟩)
    | ixs j =>
      have h2 : (match slot env j with | some (.pure (.int n)) => if 0 ≤ n then some (PeV.ix n.toNat) else none | _ => none) = some v := h7
      split at h2
      · rename_i n hn
        split at h2
        · rename_i hp
          cases h2
          obtain ⟨vj, ej, rj⟩ := hE.slotD hn
          have rj : vj = .int n := rj
          subst rj
          obtain ⟨a, vs, e, k1, k2⟩ := w2
          have en : ((n.toNat : Nat) : Int) = n := Int.toNat_of_nonneg hp
          exact place_w hE i h0 r q0 u _ h5 w1 ⟨_, ej, .inl ⟨a, vs, n, w, e, rfl, .of k1, by rw [← en]; exact atI_of k2, k⟩⟩
        · cases h2
      · cases h2
/-- what the tree around a part asks -/
def Ctx (L : Lk) (O : List Addr) (H : Hp) (m' : M → M) (v0 v : V) (p r : List Addr) : Prop := ∀ O' H' x' f0', Mv O O' H H' → (∀ a o, a ∈ p ∨ a ∈ r → H a = some o → H' a = some o) → RepM L O' H' x' v0 f0' → RepM L O' H' (m' x') v (p ++ f0' ++ r)
theorem focMs : ∀ {ms : List M} {vs : List V} {fm : List Addr} {i : Nat} {m : M}, RepMs L O H ms vs fm → ms[i]? = some m → ∃ v p f0 r, vs[i]? = some v ∧ fm = p ++ f0 ++ r ∧ RepM L O H m v f0 ∧
    ∀ O' H' x' f0', Mv O O' H H' → (∀ a o, a ∈ p ∨ a ∈ r → H a = some o → H' a = some o) → RepM L O' H' x' v f0' → RepMs L O' H' (ms.set i x') vs (p ++ f0' ++ r)
  | [], _, _, _, _, _, h => by simp at h
  | m :: ms, v :: vs, _, 0, m', ⟨f1, f2, e, a, b⟩, h => by
    simp at h
    subst h
    exact ⟨v, [], f1, f2, rfl, by simpa using e, a, fun O' H' x' f0' mv k rx => ⟨f0', f2, by simp, rx, b.mv mv fun c o hc => k c o (.inr hc)⟩⟩
  | m :: ms, v :: vs, _, i + 1, m', ⟨f1, f2, e, a, b⟩, h => by
    obtain ⟨v', p, f0, r, e1, e2, e3, e4⟩ := focMs (i := i) b (by simpa using h)
    refine ⟨v', f1 ++ p, f0, r, by simpa using e1, by rw [e, e2]; simp, e3, fun O' H' x' f0' mv k rx => ⟨f1, p ++ f0' ++ r, by simp, a.mv mv fun c o hc => k c o (.inl (List.mem_append_left _ hc)), ?_⟩⟩
    exact e4 O' H' x' f0' mv (fun c o hc => k c o (hc.imp (List.mem_append_right _) id)) rx
theorem focMf {c k : Nat} : ∀ {fs : List (Nat × M)} {vs : List (Str × V)} {fm : List Addr} {m : M}, RepMf L O H c fs vs fm → fs.lookup k = some m → ∃ v p f0 r, vs.lookup (L.nm k) = some v ∧ NoAttr L.K (L.cls c) (L.nm k) ∧ fm = p ++ f0 ++ r ∧ RepM L O H m v f0 ∧
    ∀ O' H' x' f0', Mv O O' H H' → (∀ a o, a ∈ p ∨ a ∈ r → H a = some o → H' a = some o) → RepM L O' H' x' v f0' → RepMf L O' H' c (setF k x' fs) vs (p ++ f0' ++ r)
  | [], _, _, _, _, h => by simp at h
  | (n, m) :: ms, (j, v) :: vs, _, m', ⟨f1, f2, e, en, a, b⟩, h => by
    rw [List.lookup_cons] at h
    by_cases hk : k = n
    · subst hk
      simp at h
      subst h
      refine ⟨v, [], f1, f2, by rw [List.lookup_cons, en.1]; simp, en.2, by simpa using e, a, fun O' H' x' f0' mv kk rx => ?_⟩
      unfold setF
      rw [if_pos rfl]
      exact ⟨f0', f2, by simp, en, rx, b.mv mv fun c o hc => kk c o (.inr hc)⟩
    · have h1 : (k == n) = false := by simpa using hk
      have h2 : (L.nm k == j) = false := by
        rw [en.1]
        simpa using fun z => hk (L.inj _ _ z)
      rw [h1] at h
      obtain ⟨v', p, f0, r, e1, e2, e3, e4, e5⟩ := focMf b h
      refine ⟨v', f1 ++ p, f0, r, by rw [List.lookup_cons, h2]; exact e1, e2, by rw [e, e3]; simp, e4, fun O' H' x' f0' mv kk rx => ?_⟩
      unfold setF
      rw [if_neg fun z => hk z.symm]
      exact ⟨f1, p ++ f0' ++ r, by simp, en, a.mv mv fun c o hc => kk c o (.inl (List.mem_append_left _ hc)), e5 O' H' x' f0' mv (fun c o hc => kk c o (hc.imp (List.mem_append_right _) id)) rx⟩
/-- the part at a path, and the tree with that part made anew -/
theorem focus {h : M → Option M} : ∀ {q : List PeV} {m m' : M} {v : V} {f : List Addr}, RepM L O H m v f → modP h q m = some m' → ∃ m0 m0' v0 p f0 r, getP q m = some m0 ∧ h m0 = some m0' ∧ PathW L H q v v0 ∧ f = p ++ f0 ++ r ∧ RepM L O H m0 v0 f0 ∧
    ∀ O' H' f0', Mv O O' H H' → (∀ a o, a ∈ p ∨ a ∈ r → H a = some o → H' a = some o) → RepM L O' H' m0' v0 f0' → RepM L O' H' m' v (p ++ f0' ++ r)
  | [], m, m', v, f, r, e => ⟨m, m', v, [], f, [], rfl, e, rfl, by simp, r, fun O' H' f0' _ _ z => by simpa using z⟩
  | .fld k :: q, .ins c fs, m', v, f, ⟨a, dx, vs, g, ev, ef, hh, hc, rf⟩, e => by
    have e : (fs.lookup k).bind (fun m => (modP h q m).map fun m' => M.ins c (setF k m' fs)) = some m' := e
    obtain ⟨m1, h1, h2⟩ := bindO_ok e
    obtain ⟨m1', h3, h4⟩ := mapO_ok h2
    subst h4
    obtain ⟨v1, p, f0, r, e1, e2, e3, e4, e5⟩ := focMf rf h1
    obtain ⟨m0, m0', v0, p', f0', r', k1, k2, k3, k4, k5, k6⟩ := focus e4 h3
    refine ⟨m0, m0', v0, a :: (p ++ p'), f0', r' ++ r, ?_, k2, ⟨v1, ⟨a, _, dx, vs, ev, hh, hc, e2, e1⟩, k3⟩, ?_, k5, fun O' H' fn mv kk rx => ?_⟩
    · show (fs.lookup k).bind (getP q) = some m0
      rw [h1]; exact k1
    · rw [ef, e3, k4]; simp
    · refine ⟨a, dx, vs, p ++ (p' ++ fn ++ r') ++ r, ev, by simp, kk a _ (.inl List.mem_cons_self) hh, hc, ?_⟩
      refine e5 O' H' m1' _ mv (fun c o hc => kk c o ?_) (k6 O' H' fn mv (fun c o hc => kk c o ?_) rx)
      · rcases hc with z | z
        · exact .inl (List.mem_cons_of_mem _ (List.mem_append_left _ z))
        · exact .inr (List.mem_append_right _ z)
      · rcases hc with z | z
        · exact .inl (List.mem_cons_of_mem _ (List.mem_append_right _ z))
        · exact .inr (List.mem_append_left _ z)
  | .ix i :: q, .lst ms, m', v, f, ⟨a, vs, g, ev, ef, hh, rf⟩, e => by
    have e : (ms[i]?).bind (fun m => (modP h q m).map fun m' => M.lst (ms.set i m')) = some m' := e
    obtain ⟨m1, h1, h2⟩ := bindO_ok e
    obtain ⟨m1', h3, h4⟩ := mapO_ok h2
    subst h4
    obtain ⟨v1, p, f0, r, e1, e3, e4, e5⟩ := focMs rf h1
    obtain ⟨m0, m0', v0, p', f0', r', k1, k2, k3, k4, k5, k6⟩ := focus e4 h3
    refine ⟨m0, m0', v0, a :: (p ++ p'), f0', r' ++ r, ?_, k2, ⟨v1, ⟨a, vs, ev, hh, e1⟩, k3⟩, ?_, k5, fun O' H' fn mv kk rx => ?_⟩
    · show (ms[i]?).bind (getP q) = some m0
      rw [h1]; exact k1
    · rw [ef, e3, k4]; simp
    · refine ⟨a, vs, p ++ (p' ++ fn ++ r') ++ r, ev, by simp, kk a _ (.inl List.mem_cons_self) hh, ?_⟩
      refine e5 O' H' m1' _ mv (fun c o hc => kk c o ?_) (k6 O' H' fn mv (fun c o hc => kk c o ?_) rx)
      · rcases hc with z | z
        · exact .inl (List.mem_cons_of_mem _ (List.mem_append_left _ z))
        · exact .inr (List.mem_append_right _ z)
      · rcases hc with z | z
        · exact .inl (List.mem_cons_of_mem _ (List.mem_append_right _ z))
        · exact .inr (List.mem_append_left _ z)
  | .fld _ :: _, .pure _, _, _, _, _, e => by cases e
  | .fld _ :: _, .lst _, _, _, _, _, e => by cases e
  | .ix _ :: _, .pure _, _, _, _, _, e => by cases e
  | .ix _ :: _, .ins _ _, _, _, _, _, e => by cases e
/-- .. of a slot: with a value in hand (its trees fm) that may go into the part, gx taken out, dr dropped -/
theorem mod_ok2 {h : M → Option M} {i : Nat} {ps : List Pe} {env' : En} {fm : List Addr} (ok : EnvOk L (g ++ fm) H env σ f) (e : modPl env i ps h = some env') :
    ∃ q m0 m0' vr v0 f0, pathV env ps = some q ∧ σ[i]? = some (some vr) ∧ getPl env i ps = some m0 ∧ h m0 = some m0' ∧ PathW L H q vr v0 ∧ RepM L (g ++ fm ++ f) H m0 v0 f0 ∧ (∀ a, a ∈ f0 → a ∈ f) ∧ (∀ a ∈ f0, a ∉ g ++ fm) ∧ f0.Nodup ∧
      ∀ H' gx f0' dr, (gx ++ f0' ++ dr).Perm (fm ++ f0) → (∀ a o, a ∉ f0 → H a = some o → H' a = some o) → (∀ a ∈ f0, ∃ o, H' a = some o) → (∀ O', (∀ a, a ∈ O' → a ∈ g ++ fm ++ f) → (∀ a, a ∈ O' → a ∈ f0 → a ∈ gx ∨ a ∈ f0') → RepM L O' H' m0' v0 f0') → ∃ f', EnvOk L (g ++ gx) H' env' σ f' ∧ (∀ a ∈ f', a ∈ f0 → a ∈ gx ∨ a ∈ f0') ∧ ∀ a, a ∈ f' → a ∈ fm ∨ a ∈ f := by
  obtain ⟨m, h1, h2⟩ := bindO_ok e
  obtain ⟨q, h3, h4⟩ := bindO_ok h2
  obtain ⟨m', h5, h6⟩ := mapO_ok h4
  subst h6
  obtain ⟨vr, f1, f2, hv, hf, rm, ok2⟩ := ok.take h1
  obtain ⟨m0, m0', v0, p, f0, r, k1, k2, k3, k4, k5, k6⟩ := focus rm h5
  have hO : ∀ a, a ∈ g ++ fm ++ f1 ++ f2 ↔ a ∈ g ++ fm ++ f := fun a => by
    simp only [List.mem_append]
    have := hf a
    constructor
    · rintro (((z | z) | z) | z)
      · exact .inl (.inl z)
      · exact .inl (.inr z)
      · exact .inr (this.mpr (.inl z))
      · exact .inr (this.mpr (.inr z))
    · rintro ((z | z) | z)
      · exact .inl (.inl (.inl z))
      · exact .inl (.inl (.inr z))
      · rcases this.mp z with w | w
        · exact .inl (.inr w)
        · exact .inr w
  have nd2 := ok2.nd
  rw [k4] at nd2
  have f0f : ∀ a, a ∈ f0 → a ∈ f := fun a ha => (hf a).mpr (.inl (by rw [k4]; simp [ha]))
  refine ⟨q, m0, m0', vr, v0, f0, h3, hv, ?_, k2, k3, k5.mv (Mv.less fun a ha => (hO a).mpr ha) (fun _ _ _ e => e), f0f, fun a ha m => ?_, ?_, ?_⟩
  · show (slot env i).bind _ = _
    rw [h1]
    show (pathV env ps).bind _ = _
    rw [h3]
    exact k1
  · have := (List.nodup_append.mp (List.nodup_append.mp nd2).1).2.2 a m a (by simp [ha])
    exact this rfl
  · have := (List.nodup_append.mp (List.nodup_append.mp nd2).1).2.1
    exact (List.nodup_append.mp (List.nodup_append.mp this).1).2.1
  · intro H' gx f0' dr sp keep tr0 rep'
    have pmAll : (g ++ gx ++ (p ++ f0' ++ r) ++ f2 ++ dr).Perm (g ++ fm ++ (p ++ f0 ++ r) ++ f2) := by
      rw [List.perm_iff_count]
      intro a
      have := sp.count_eq a
      simp only [List.count_append] at this ⊢
      omega
    have nd3 : (g ++ gx ++ (p ++ f0' ++ r) ++ f2).Nodup := (pmAll.nodup_iff.mpr nd2).sublist (List.sublist_append_left _ _)
    have sub : ∀ a, a ∈ g ++ gx ++ (p ++ f0' ++ r) ++ f2 → a ∈ g ++ fm ++ f1 ++ f2 := fun a ha => by
      rw [k4]
      exact pmAll.mem_iff.mp (List.mem_append_left _ ha)
    have trO : ∀ a, a ∈ g ++ fm ++ f1 ++ f2 → ∃ o, H' a = some o := fun a ha => by
      by_cases z : a ∈ f0
      · exact tr0 a z
      · obtain ⟨o, e⟩ := ok.trf a ((hO a).mp ha)
        exact ⟨o, keep a o z e⟩
    have f0O : ∀ a, a ∈ f0 → a ∈ g ++ fm ++ f1 ++ f2 := fun a ha => (hO a).mpr (List.mem_append_right _ (f0f a ha))
    have mv : Mv (g ++ fm ++ f1 ++ f2) (g ++ gx ++ (p ++ f0' ++ r) ++ f2) H H' := ⟨fun a o n e => keep a o (fun z => n (f0O a z)) e, fun a ha n => absurd (sub a ha) n⟩
    have dj0 : ∀ a, a ∈ p ∨ a ∈ r → a ∉ f0 := by
      have h0 := (List.nodup_append.mp (List.nodup_append.mp nd2).1).2.1
      have h1 := List.nodup_append.mp h0
      have h2 := List.nodup_append.mp h1.1
      intro a ha z
      rcases ha with w | w
      · exact h2.2.2 a w a z rfl
      · exact h1.2.2 a (List.mem_append_right _ z) a w rfl
    have dj2 : ∀ a ∈ f2, a ∉ f0 := fun a ha z => (List.nodup_append.mp nd2).2.2 a (by simp [z]) a ha rfl
    have inF : ∀ a, a ∈ g ++ gx ++ (p ++ f0' ++ r) ++ f2 → a ∈ f0 → a ∈ gx ∨ a ∈ f0' := fun a ha z => by
      simp only [List.mem_append] at ha
      rcases ha with ((w | w) | ((w | w) | w)) | w
      · exact absurd rfl ((List.nodup_append.mp (List.nodup_append.mp nd2).1).2.2 a (List.mem_append_left _ w) a (by simp [z]))
      · exact .inl w
      · exact absurd z (dj0 a (.inl w))
      · exact .inr w
      · exact absurd z (dj0 a (.inr w))
      · exact absurd z (dj2 a w)
    have rm' : RepM L (g ++ gx ++ (p ++ f0' ++ r) ++ f2) H' m' vr (p ++ f0' ++ r) := k6 _ H' f0' mv (fun a o ha e => keep a o (dj0 a ha) e) (rep' _ (fun a ha => (hO a).mp (sub a ha)) inF)
    have ok3 : EnvOk L (g ++ gx ++ (p ++ f0' ++ r)) H' (env.set i none) σ f2 := ⟨nd3, fun a ha => trO a (sub a (List.mem_append_left _ ha)), ok2.rep.mv mv fun a o ha e => keep a o (dj2 a ha) e⟩
    have il : i < (env.set i none).length := by
      rw [List.length_set, ok.len]
      exact (List.getElem?_eq_some_iff.mp hv).1
    obtain ⟨f', s, ok4⟩ := ok3.put rm' il
    rw [List.set_set, set_self (i := i) hv] at ok4
    refine ⟨f', ok4, fun a ha z => ?_, fun a ha => ?_⟩
    · refine inF a ?_ z
      rcases s a ha with w | w
      · simp only [List.mem_append] at w ⊢
        rcases w with (w | w) | w <;> simp [w]
      · exact List.mem_append_right _ w
    have hx : a ∈ g ++ gx ++ (p ++ f0' ++ r) ++ f2 ∧ a ∉ g := by
      rcases s a ha with z | z
      · exact ⟨by simp only [List.mem_append] at z ⊢; rcases z with (z | z) | z <;> simp [z], fun w => (List.nodup_append.mp (List.nodup_append.mp nd3).1).2.2 a (List.mem_append_left _ w) a z rfl⟩
      · exact ⟨List.mem_append_right _ z, fun w => (List.nodup_append.mp nd3).2.2 a (by simp [w]) a z rfl⟩
    have hy := (hO a).mp (sub a hx.1)
    simp only [List.mem_append] at hy
    rcases hy with (z | z) | z
    · exact absurd z hx.2
    · exact .inl z
    · exact .inr z
theorem mod_ok {h : M → Option M} {i : Nat} {ps : List Pe} {env' : En} {fm : List Addr} (ok : EnvOk L (g ++ fm) H env σ f) (e : modPl env i ps h = some env') :
    ∃ q m0 m0' vr v0 f0, pathV env ps = some q ∧ σ[i]? = some (some vr) ∧ getPl env i ps = some m0 ∧ h m0 = some m0' ∧ PathW L H q vr v0 ∧ RepM L (g ++ fm ++ f) H m0 v0 f0 ∧ (∀ a, a ∈ f0 → a ∈ f) ∧ (∀ a ∈ f0, a ∉ g ++ fm) ∧ f0.Nodup ∧
      ∀ H' gx f0' dr, (gx ++ f0' ++ dr).Perm (fm ++ f0) → (∀ a o, a ∉ f0 → H a = some o → H' a = some o) → (∀ a ∈ f0, ∃ o, H' a = some o) → RepM L (g ++ fm ++ f) H' m0' v0 f0' → ∃ f', EnvOk L (g ++ gx) H' env' σ f' ∧ ∀ a, a ∈ f' → a ∈ fm ∨ a ∈ f := by
  obtain ⟨q, m0, m0', vr, v0, f0, h1, h2, h3, h4, h5, h6, h7, h8, h9, fin⟩ := mod_ok2 ok e
  refine ⟨q, m0, m0', vr, v0, f0, h1, h2, h3, h4, h5, h6, h7, h8, h9, fun H' gx f0' dr sp keep tr0 rep' => ?_⟩
  obtain ⟨f', k1, _, k2⟩ := fin H' gx f0' dr sp keep tr0 fun O' hO _ => rep'.mv (Mv.less hO) fun _ _ _ e => e
  exact ⟨f', k1, k2⟩
theorem snd_frp (i : Nat) (ps : List Pe) : Snd L T R (.frp i ps) := by
  have hE : ∀ C e, (ck T (.frp i ps)).e C e = true → ∀ X, Cok L T R C X → PE X e (tE L R (.frp i ps)) := by
    intro C e h X c
    have h : ckP T C i ps.reverse e = true := h
    refine PE.imp (pe_place c i _ _ h) fun σ H Q ⟨g, f, env, m, env', hE, hm, q⟩ => ?_
    have hm : (match modPl env i ps (fun m => some (.pure m.frz)), getPl env i ps with
      | some env', some m => (.ok (.pure m.frz) env' : Rs M)
      | _, _ => .no) = .ok m env' := hm
    split at hm
    · rename_i env2 m1 h1 h2
      cases hm
      obtain ⟨qq, m0, m0', vr, v0, f0, k1, k2, k3, k4, k5, k6, k7, k8, k9, fin⟩ := mod_ok2 (fm := []) (by simpa using hE) h1
      rw [h2] at k3
      cases k3
      cases k4
      have fz : ∀ O', (∀ a, a ∈ O' → a ∈ g ++ [] ++ f) → (∀ a, a ∈ O' → a ∉ f0) → RepD L O' H m1.frz v0 := fun O' s n => k6.frz s fun a ha m => n a m ha
      obtain ⟨f', e1, e2, e3⟩ := fin H [] [] f0 (by simp) (fun _ _ _ e => e) (fun a ha => hE.trf a (List.mem_append_right _ (k7 a ha))) fun O' s n => ⟨rfl, fz O' s fun a m z => (n a m z).elim (fun w => nomatch w) fun w => nomatch w⟩
      have e3' : ∀ a ∈ f', a ∈ f := fun a ha => by
        have := e3 a ha
        simpa using this
      refine place_w hE i k2 ps.reverse qq v0 Q (by rw [List.reverse_reverse]; exact k1) k5 (q v0 H f' [] ?_)
      refine Pst.pureD (by simpa using e1) (fun _ _ e _ => e) (fun a ha => .inl (e3' a ha)) (fz _ (fun a ha => ?_) fun a ha z => ?_) fun z => (nomatch z)
      · rcases List.mem_append.mp ha with w | w
        · exact List.mem_append_left _ (List.mem_append_left _ w)
        · exact List.mem_append_right _ (e3' a w)
      · rcases List.mem_append.mp ha with w | w
        · exact k8 a z (by simpa using w)
        · exact (e2 a w z).elim (fun w => nomatch w) fun w => nomatch w
    · cases hm
  exact ⟨hE, fun C e h X c => pt_plain c (hE C e h X c) rfl (it_place h)⟩
end
end FB

set_option Elab.async false
set_option linter.all false
set_option maxRecDepth 10000
/-! FbSt3: places that are written. -/
namespace FB
open PySem PySem.Spec PyProof.Rows L2 StX
section
variable {L : Lk} {T : Tx} {R : Rt} {C : Sc} {X : Cx}
variable {g f f1 f2 : List Addr} {H H1 H2 H' : Hp} {env env1 env2 : En} {σ σ1 σ2 : L2.St} {qt : Bool} {O O' : List Addr} {as as' : List Nat}
/-- one owned object changes -/
theorem upd_mv {a : Addr} {o : HO} (h : a ∈ O) : Mv O O H (upd H a o) := ⟨fun b u n e => by rw [upd_ne fun z => n (by rw [z]; exact h)]; exact e, fun b m n => absurd m n⟩
theorem upd_tr {a : Addr} {o : HO} {f0 : List Addr} (h : ∀ b ∈ f0, ∃ u, H b = some u) : ∀ b ∈ f0, ∃ u, upd H a o b = some u := fun b hb => by
  by_cases z : b = a
  · subst z; exact ⟨_, upd_same⟩
  · obtain ⟨u, e⟩ := h b hb
    exact ⟨u, by rw [upd_ne z]; exact e⟩
theorem noAl {e : Ex} (h : isAl e = false) {g fm : List Addr} : (if isAl e = true then g else g ++ fm) = g ++ fm := by rw [h]; rfl
theorem line_app {fe : Expr} {es : List Expr} {ks : List Keyword} {pos p2 : Pos} {env : Env} : swapsWith (.Call fe es ks pos) none p2.line env = pure false := rfl
theorem snds_app (i : Nat) (ps : List Pe) (e : Ex) (he : Snd L T R e) : SndS L T R (.app i ps e) := by
  refine ⟨fun C st h X c => ?_, fun C sts h X c => (by cases h)⟩
  cases st with
  | Expr v pos =>
    cases v with
    | Call fe es ks cp =>
      cases fe with
      | Attribute o a ap =>
        cases ks with
        | cons _ _ => cases es with
          | nil => cases h
          | cons _ es => cases es <;> cases h
        | nil =>
          cases es with
          | nil => cases h
          | cons x es =>
            cases es with
            | cons _ _ => cases h
            | nil =>
              have h : (decide (a = "append") && ckP T C i ps.reverse o && (ap.endLine == cp.line) && noStar x && !isAl e && (ps.isEmpty || quiet e) && (ck T e).e C x) = true := h
              simp only [Bool.and_eq_true, decide_eq_true_eq, Bool.not_eq_true'] at h
              obtain ⟨⟨⟨⟨⟨⟨h1, h2⟩, h3⟩, h4⟩, h5⟩, h6⟩, h7⟩ := h
              subst h1
              refine PS.imp (ps_expr (pe_bm (T := "list") (id := "list.append") F.plainAttrs_list F.slot_list_append F.type_list_append mt_append (pe_place c.toCok i ps.reverse o h2) (pa_one (he.e C x h7 X c.toCok) h4) (ab_of h2)
                (by rw [star_cons h4]; rfl) h3 (star_cons h4) rfl) line_app) fun D σ H ⟨g, f, env, hE, q⟩ => ?_
              have q : EndS L g f H σ [] (match modPl env i ps keepL with
                | some _ => (((ev R e).e env).bind fun m env => Rs.lift (modPl env i ps (appL m)) env).out
                | none => .no) D := q
              cases hk : modPl env i ps keepL with
              | none => rw [hk] at q; exact q.elim
              | some ek =>
                rw [hk] at q
                have q : EndS L g f H σ [] (((ev R e).e env).bind fun m env => Rs.lift (modPl env i ps (appL m)) env).out D := q
                cases hm : (ev R e).e env with
                | ex _ _ => rw [hm] at q; exact q.elim
                | no => rw [hm] at q; exact q.elim
                | ok m env1 =>
                  rw [hm] at q
                  have q : EndS L g f H σ [] (Rs.lift (modPl env1 i ps (appL m)) env1).out D := q
                  cases hp : modPl env1 i ps (appL m) with
                  | none => rw [hp] at q; exact q.elim
                  | some envz =>
                    rw [hp] at q
                    have q : EndS L g f H σ [] (.nx envz) D := q
                    obtain ⟨qp, m0, m0', vr, v0, f0, w1, w2, w3, w4, w5, w6, w7, w8, w9, _⟩ := mod_ok (fm := []) (by simpa using hE) hk
                    cases m0 with
                    | pure _ => cases w4
                    | ins _ _ => cases w4
                    | lst ms0 =>
                      obtain ⟨a0, vs0, g0, ev0, ef0, eh0, _⟩ := w6
                      subst ev0
                      refine place_w hE i w2 ps.reverse qp _ _ (by rw [List.reverse_reverse]; exact w1) w5 ⟨.inl ⟨rfl, vs0, .of eh0⟩, g, f, env, m, env1, hE, hm, fun y H2 f2 fm p => ?_⟩
                      rw [h5] at p
                      have pok : EnvOk L (g ++ fm) H2 env1 σ f2 := p.ok
                      obtain ⟨qp', m1, m1', vr', v1, fa, u1, u2, u3, u4, u5, u6, u7, u8, u9, fin⟩ := mod_ok pok hp
                      rw [w2] at u2
                      cases u2
                      have same : v1 = .ref a0 := by
                        rcases Bool.or_eq_true _ _ ▸ h6 with z | z
                        · have : ps = [] := by simpa using z
                          subst this
                          cases w1
                          cases u1
                          exact (show vr = v1 from u5).symm.trans (show vr = .ref a0 from w5)
                        · obtain ⟨z1, z2, z3, _⟩ := p.qui z
                          subst z1
                          rw [w1] at u1
                          cases u1
                          exact u5.det (w5.keep z3)
                      subst same
                      cases m1 with
                      | pure _ => cases u4
                      | ins _ _ => cases u4
                      | lst ms =>
                        have u4 : (if ms.length < SL then some (M.lst (ms ++ [m])) else none) = some m1' := u4
                        split at u4
                        · rename_i hz
                          cases u4
                          obtain ⟨a1, vs, gg, ev, ef, eh, rms⟩ := u6
                          cases ev
                          subst ef
                          have na := List.nodup_cons.mp u9
                          have nfm : a0 ∉ g ++ fm := u8 a0 List.mem_cons_self
                          have aO : a0 ∈ g ++ fm ++ f2 := List.mem_append_right _ (u7 a0 List.mem_cons_self)
                          refine ⟨a0, vs, y, rfl, rfl, eh, by rw [PySem.sizeLine_eq, ← rms.len]; exact hz, ?_⟩
                          obtain ⟨f', k1, k2⟩ := fin (upd H2 a0 (.lst (vs ++ [y]))) [] (a0 :: (gg ++ fm)) [] (by
                              rw [List.perm_iff_count]
                              intro b
                              simp only [List.count_append, List.count_cons, List.count_nil]
                              omega)
                            (fun b o n e => by rw [upd_ne fun z => n (by rw [z]; exact List.mem_cons_self)]; exact e)
                            (upd_tr fun b hb => pok.trf b (List.mem_append_right _ (u7 b hb)))
                            ⟨a0, vs ++ [y], gg ++ fm, rfl, rfl, upd_same, RepMs.app (rms.mv (upd_mv aO) fun b o hb e => by rw [upd_ne fun z => na.1 (by rw [← z]; exact hb)]; exact e) ⟨fm, [], by simp, p.rep.mv (upd_mv aO) (fun b o hb e => by rw [upd_ne fun z => nfm (by rw [← z]; exact List.mem_append_right _ hb)]; exact e), rfl⟩⟩
                          refine q σ _ f' ⟨by simpa using k1, fun b o e n => ?_, fun b hb => ?_, fun _ _ => rfl, rfl⟩
                          · have e2 := p.st b o e n
                            have : b ≠ a0 := fun z => by
                              subst z
                              rcases p.nf b (u7 b List.mem_cons_self) with w | w
                              · exact n w
                              · rw [w] at e; cases e
                            rw [upd_ne this]; exact e2
                          · exact (k2 b hb).elim (p.nm b) (p.nf b)
                        · cases u4
      | _ => cases h
    | _ => cases h
  | _ => cases h
end
end FB

set_option Elab.async false
set_option linter.all false
set_option maxRecDepth 10000
/-! FbSt4: fields and items that are written. -/
namespace FB
open PySem PySem.Spec PyProof.Rows L2 StX
section
variable {L : Lk} {T : Tx} {R : Rt} {C : Sc} {X : Cx}
variable {g f f1 f2 : List Addr} {H H1 H2 H' : Hp} {env env1 env2 : En} {σ σ1 σ2 : L2.St} {qt : Bool} {O O' : List Addr} {as as' : List Nat}
theorem repMf_set {c k : Nat} {m : M} {y : V} {fm : List Addr} (na : NoAttr L.K (L.cls c) (L.nm k)) (r : RepM L O H m y fm) : ∀ {fs : List (Nat × M)} {vs : List (Str × V)} {gg : List Addr}, RepMf L O H c fs vs gg →
    ∃ gg' dr, RepMf L O H c (setF k m fs) (putF (L.nm k) y vs) gg' ∧ (gg' ++ dr).Perm (gg ++ fm)
  | [], [], gg, h => by
    have h : gg = [] := h
    subst h
    exact ⟨fm, [], ⟨fm, [], by simp, ⟨rfl, na⟩, r, rfl⟩, by simp⟩
  | (n, m1) :: ms, (j, v) :: vs, gg, ⟨f1, f2, e, en, a, b⟩ => by
    subst e
    unfold setF putF
    by_cases hk : n = k
    · subst hk
      rw [if_pos rfl, if_pos en.1]
      refine ⟨fm ++ f2, f1, ⟨fm, f2, rfl, en, r, b⟩, ?_⟩
      rw [List.perm_iff_count]
      intro z
      simp only [List.count_append]
      omega
    · rw [if_neg hk, if_neg (by rw [en.1]; exact fun z => hk (L.inj _ _ z))]
      obtain ⟨gg', dr, h1, h2⟩ := repMf_set na r b
      refine ⟨f1 ++ gg', dr, ⟨f1, gg', rfl, en, a, h1⟩, ?_⟩
      rw [List.append_assoc, List.append_assoc]
      exact List.Perm.append_left f1 h2
theorem repMs_set {m : M} {y : V} {fm : List Addr} (r : RepM L O H m y fm) : ∀ {ms : List M} {vs : List V} {gg : List Addr} {j : Nat}, RepMs L O H ms vs gg → j < ms.length → ∃ gg' dr, RepMs L O H (ms.set j m) (vs.set j y) gg' ∧ (gg' ++ dr).Perm (gg ++ fm)
  | [], _, _, _, _, h => by simp at h
  | m1 :: ms, v :: vs, gg, 0, ⟨f1, f2, e, a, b⟩, _ => by
    subst e
    refine ⟨fm ++ f2, f1, ⟨fm, f2, rfl, r, b⟩, ?_⟩
    rw [List.perm_iff_count]
    intro z
    simp only [List.count_append]
    omega
  | m1 :: ms, v :: vs, gg, j + 1, ⟨f1, f2, e, a, b⟩, h => by
    subst e
    obtain ⟨gg', dr, h1, h2⟩ := repMs_set (j := j) r b (by simpa using h)
    refine ⟨f1 ++ gg', dr, ⟨f1, gg', rfl, a, h1⟩, ?_⟩
    rw [List.append_assoc, List.append_assoc]
    exact List.Perm.append_left f1 h2
theorem RepMf.len {c : Nat} : ∀ {ms : List (Nat × M)} {vs : List (Str × V)} {f : List Addr}, RepMf L O H c ms vs f → ms.length = vs.length
  | [], [], _, _ => rfl
  | (_, _) :: _, (_, _) :: _, _, ⟨_, _, _, _, _, q⟩ => congrArg Nat.succ q.len
theorem sw_attr {v o : Expr} {a : Str} {p : Pos} {l : Nat} {env : Env} : swapsWith v (some (.Attribute o a p)) l env = pure false := by
  cases v <;> rfl
/-- behind a write into an owned object -/
theorem wr_end {qa : Bool} {m : M} {y : V} {fm fa : List Addr} {a0 : Addr} {ob : HO} {envz : En} {f' : List Addr} (p : Pst L false qa g f H env m env1 σ y H2 f2 fm) (ha : a0 ∈ f2) (k1 : EnvOk L (g ++ []) (upd H2 a0 ob) envz σ f') (k2 : ∀ a, a ∈ f' → a ∈ fm ∨ a ∈ f2) :
    TstS L g f H σ [] envz σ (upd H2 a0 ob) f' := by
  refine ⟨by simpa using k1, fun b o e n => ?_, fun b hb => (k2 b hb).elim (p.nm b) (p.nf b), fun _ _ => rfl, rfl⟩
  have e2 := p.st b o e n
  have : b ≠ a0 := fun z => by
    subst z
    rcases p.nf b ha with w | w
    · exact n w
    · rw [w] at e; cases e
  rw [upd_ne this]; exact e2
theorem snds_setf (i : Nat) (ps : List Pe) (fid : Nat) (e : Ex) (he : Snd L T R e) : SndS L T R (.setf i ps fid e) := by
  refine ⟨fun C st h X c => ?_, fun C sts h X c => (by cases h)⟩
  cases st with
  | Assign ts v pos =>
    cases ts with
    | nil => cases h
    | cons t0 ts =>
      cases ts with
      | cons _ _ => cases t0 <;> cases h
      | nil =>
        cases t0 with
        | Attribute o a ap =>
          have h : (decide (a = T.nm fid) && ckP T C i ps.reverse o && !isAl e && (ck T e).e C v) = true := h
          simp only [Bool.and_eq_true, decide_eq_true_eq, Bool.not_eq_true'] at h
          obtain ⟨⟨⟨h1, h2⟩, h5⟩, h7⟩ := h
          rw [← c.nm] at h1
          subst h1
          obtain ⟨k, gd, hro⟩ := c.gd
          refine PS.imp (ps_fld (pe_place c.toCok i ps.reverse o h2) (he.e C v h7 X c.toCok) sw_attr) fun D σ H ⟨g, f, env, hE, q⟩ => ?_
          have q : EndS L g f H σ [] (((ev R e).e env).bind fun m env => Rs.lift (modPl env i ps (setI R fid m)) env).out D := q
          cases hm : (ev R e).e env with
          | ex _ _ => rw [hm] at q; exact q.elim
          | no => rw [hm] at q; exact q.elim
          | ok m env1 =>
            rw [hm] at q
            have q : EndS L g f H σ [] (Rs.lift (modPl env1 i ps (setI R fid m)) env1).out D := q
            cases hp : modPl env1 i ps (setI R fid m) with
            | none => rw [hp] at q; exact q.elim
            | some envz =>
              rw [hp] at q
              have q : EndS L g f H σ [] (.nx envz) D := q
              refine ⟨g, f, env, m, env1, hE, hm, fun y H2 f2 fm p => ?_⟩
              rw [h5] at p
              have pok : EnvOk L (g ++ fm) H2 env1 σ f2 := p.ok
              obtain ⟨qp', m1, m1', vr', v1, fa, u1, u2, u3, u4, u5, u6, u7, u8, u9, fin⟩ := mod_ok pok hp
              cases m1 with
              | pure _ => cases u4
              | lst _ => cases u4
              | ins ci fs =>
                have u4 : (if fs.length < 100 ∧ R.attr ci fid = true then some (M.ins ci (setF fid m fs)) else none) = some m1' := u4
                split at u4
                · rename_i hz
                  cases u4
                  obtain ⟨a1, dx, vs, gg, ev, ef, eh, kc, rmf⟩ := u6
                  subst ev ef
                  have na := List.nodup_cons.mp u9
                  have nfm : a1 ∉ g ++ fm := u8 a1 List.mem_cons_self
                  have af : a1 ∈ f2 := u7 a1 List.mem_cons_self
                  have aO : a1 ∈ g ++ fm ++ f2 := List.mem_append_right _ af
                  have nat := gd.attr ci fid hz.2
                  have nat' := nat
                  have kc' := kc
                  rw [← c.K] at nat' kc'
                  refine place_w pok i u2 ps.reverse qp' _ _ (by rw [List.reverse_reverse]; exact u1) u5 ⟨a1, _, dx, vs, rfl, eh, kc', nat', by rw [← rmf.len]; omega, ?_⟩
                  obtain ⟨gg', dr, r1, r2⟩ := repMf_set (H := upd H2 a1 (.ins (L.cls ci) dx (putF (L.nm fid) y vs))) nat (p.rep.mv (upd_mv aO) fun b o hb e => by rw [upd_ne fun z => nfm (by rw [← z]; exact List.mem_append_right _ hb)]; exact e)
                    (rmf.mv (upd_mv aO) fun b o hb e => by rw [upd_ne fun z => na.1 (by rw [← z]; exact hb)]; exact e)
                  obtain ⟨f', k1, k2⟩ := fin (upd H2 a1 (.ins (L.cls ci) dx (putF (L.nm fid) y vs))) [] (a1 :: gg') dr (by
                      rw [List.perm_iff_count]
                      intro b
                      have := r2.count_eq b
                      simp only [List.count_append, List.count_cons, List.count_nil] at this ⊢
                      omega)
                    (fun b o n e => by rw [upd_ne fun z => n (by rw [z]; exact List.mem_cons_self)]; exact e)
                    (upd_tr fun b hb => pok.trf b (List.mem_append_right _ (u7 b hb)))
                    ⟨a1, dx, _, gg', rfl, rfl, upd_same, kc, r1⟩
                  exact q σ _ f' (wr_end (fa := []) p af k1 k2)
                · cases u4
        | _ => cases h
  | _ => cases h
end
end FB

set_option Elab.async false
set_option linter.all false
set_option maxRecDepth 10000
/-! FbSt5: items that are written; several names at once; an augmented name. -/
namespace FB
open PySem PySem.Spec PyProof.Rows L2 StX
section
variable {L : Lk} {T : Tx} {R : Rt} {C : Sc} {X : Cx}
variable {g f f1 f2 : List Addr} {H H1 H2 H' : Hp} {env env1 env2 : En} {σ σ1 σ2 : L2.St} {qt : Bool} {O O' : List Addr} {as as' : List Nat}
theorem sub_assign {o y : Expr} {p : Pos} {env : Env} (h : noSlice y = true) : ∀ v, assign (.Subscript o y p) env v = (do
      let ov ← holding [v] (eval o env)
      let iv ← holding [v, ov] (eval y env)
      standAt p
      holding [v, ov, iv] (setItem ov iv v)
      release [v, ov, iv] []) := by
  intro v
  cases y <;> first | rfl | cases h
theorem sws_sub {v o y : Expr} {p : Pos} {l : Nat} {env : Env} : swapsWithSole [.Subscript o y p] v l env = pure false := by
  cases v <;> rfl
theorem sst_sub {v o y : Expr} {p : Pos} {env : Env} : swappedStores [.Subscript o y p] v env = pure none := by
  cases v <;> rfl
theorem snds_setx (i : Nat) (ps : List Pe) (k e : Ex) (hk : Snd L T R k) (he : Snd L T R e) : SndS L T R (.setx i ps k e) := by
  refine ⟨fun C st h X c => ?_, fun C sts h X c => (by cases h)⟩
  cases st with
  | Assign ts v pos =>
    cases ts with
    | nil => cases h
    | cons t0 ts =>
      cases ts with
      | cons _ _ => cases t0 <;> cases h
      | nil =>
        cases t0 with
        | Subscript o y ap =>
          have h : (noSlice y && ckP T C i ps.reverse o && !isAl e && !isAl k && quiet k && (ck T e).e C v && (ck T k).e C y) = true := h
          simp only [Bool.and_eq_true, decide_eq_true_eq, Bool.not_eq_true'] at h
          obtain ⟨⟨⟨⟨⟨⟨h1, h2⟩, h5⟩, h6⟩, h8⟩, h7⟩, h9⟩ := h
          refine PS.imp (ps_asg (he.e C v h7 X c.toCok) (pg_sub (pe_place c.toCok i ps.reverse o h2) (hk.e C y h9 X c.toCok) set_list (sub_assign h1)) sws_sub sst_sub) fun D σ H ⟨g, f, env, hE, q⟩ => ?_
          have q : EndS L g f H σ [] (((ev R e).e env).bind fun m env => match modPl env i ps keepL with
            | some _ => ((ev R k).e env).bind fun x env => Rs.lift (modPl env i ps (setL m x)) env
            | none => .no).out D := q
          cases hm : (ev R e).e env with
          | ex _ _ => rw [hm] at q; exact q.elim
          | no => rw [hm] at q; exact q.elim
          | ok m env1 =>
            rw [hm] at q
            have q : EndS L g f H σ [] (match modPl env1 i ps keepL with
              | some _ => ((ev R k).e env1).bind fun x env => Rs.lift (modPl env i ps (setL m x)) env
              | none => .no).out D := q
            cases hkl : modPl env1 i ps keepL with
            | none => rw [hkl] at q; exact q.elim
            | some ek =>
              rw [hkl] at q
              have q : EndS L g f H σ [] (((ev R k).e env1).bind fun x env => Rs.lift (modPl env i ps (setL m x)) env).out D := q
              cases hx : (ev R k).e env1 with
              | ex _ _ => rw [hx] at q; exact q.elim
              | no => rw [hx] at q; exact q.elim
              | ok x env2 =>
                rw [hx] at q
                have q : EndS L g f H σ [] (Rs.lift (modPl env2 i ps (setL m x)) env2).out D := q
                cases hp : modPl env2 i ps (setL m x) with
                | none => rw [hp] at q; exact q.elim
                | some envz =>
                  rw [hp] at q
                  have qz : EndS L g f H σ [] (.nx envz) D := q
                  clear q
                  refine ⟨g, f, env, m, env1, hE, hm, fun yv H2 f2 fm p => ?_⟩
                  rw [h5] at p
                  have pok : EnvOk L (g ++ fm) H2 env1 σ f2 := p.ok
                  obtain ⟨qp, m0, m0', vr, v0, f0, w1, w2, w3, w4, w5, w6, _⟩ := mod_ok (g := g ++ fm) (fm := []) (by simpa using pok) hkl
                  refine place_w pok i w2 ps.reverse qp _ _ (by rw [List.reverse_reverse]; exact w1) w5 ⟨g ++ fm, f2, env1, x, env2, pok, hx, fun iv H3 f3 fx px => ?_⟩
                  obtain ⟨z1, z2, z3, _⟩ := px.qui h8
                  subst z1 z2
                  have pok3 : EnvOk L (g ++ fm) H3 env2 σ f3 := px.okg
                  obtain ⟨qp', m1, m1', vr', v1, fa, u1, u2, u3, u4, u5, u6, u7, u8, u9, fin⟩ := mod_ok pok3 hp
                  rw [w2] at u2
                  cases u2
                  rw [w1] at u1
                  cases u1
                  have same : v1 = v0 := u5.det (w5.keep z3)
                  subst same
                  cases m1 with
                  | pure _ => cases u4
                  | ins _ _ => cases u4
                  | lst ms =>
                    cases x with
                    | lst _ => cases u4
                    | ins _ _ => cases u4
                    | pure dx =>
                      cases dx with
                      | int j =>
                        have u4 : (ixNat ms.length j).map (fun j => M.lst (ms.set j m)) = some m1' := u4
                        obtain ⟨jn, hj, ej⟩ := mapO_ok u4
                        subst ej
                        obtain ⟨a1, vs, gg, ev, ef, eh, rms⟩ := u6
                        subst ev ef
                        have na := List.nodup_cons.mp u9
                        have nfm : a1 ∉ g ++ fm := u8 a1 List.mem_cons_self
                        have af : a1 ∈ f3 := u7 a1 List.mem_cons_self
                        have aO : a1 ∈ g ++ fm ++ f3 := List.mem_append_right _ af
                        have ri : iv = .int j := px.rep.2
                        have hjl : jn < ms.length := by
                          unfold ixNat at hj
                          split at hj
                          · split at hj
                            · cases hj; omega
                            · cases hj
                          · split at hj
                            · cases hj; omega
                            · cases hj
                        have p3 : Pst L false false g f H env m env2 σ yv H3 f3 fm := by
                          refine ⟨pok3, fun b o e n => z3 b o (p.st b o e n), p.nf, p.nm, p.rep.mv ⟨fun b o _ e => z3 b o e, fun b m n => absurd m n⟩ fun b o _ e => z3 b o e, fun z => (nomatch z), fun z => (nomatch z)⟩
                        refine ⟨a1, vs, j, jn, rfl, ri, eh, by rw [← rms.len, ← ixNat_eq]; exact hj, ?_⟩
                        obtain ⟨gg', dr, r1, r2⟩ := repMs_set (H := upd H3 a1 (.lst (vs.set jn yv))) (p3.rep.mv (upd_mv aO) fun b o hb e => by rw [upd_ne fun z => nfm (by rw [← z]; exact List.mem_append_right _ hb)]; exact e)
                          (rms.mv (upd_mv aO) fun b o hb e => by rw [upd_ne fun z => na.1 (by rw [← z]; exact hb)]; exact e) hjl
                        obtain ⟨f', k1, k2⟩ := fin (upd H3 a1 (.lst (vs.set jn yv))) [] (a1 :: gg') dr (by
                            rw [List.perm_iff_count]
                            intro b
                            have := r2.count_eq b
                            simp only [List.count_append, List.count_cons, List.count_nil] at this ⊢
                            omega)
                          (fun b o n e => by rw [upd_ne fun z => n (by rw [z]; exact List.mem_cons_self)]; exact e)
                          (upd_tr fun b hb => pok3.trf b (List.mem_append_right _ (u7 b hb)))
                          ⟨a1, _, gg', rfl, rfl, upd_same, r1⟩
                        exact qz σ _ f' (wr_end (fa := []) p3 af k1 k2)
                      | _ => cases u4
        | _ => cases h
  | _ => cases h
end
end FB

set_option Elab.async false
set_option linter.all false
set_option maxRecDepth 10000
/-! FbSt6: several names at once; an augmented name. -/
namespace FB
open PySem PySem.Spec PyProof.Rows L2 StX
section
variable {L : Lk} {T : Tx} {R : Rt} {C : Sc} {X : Cx}
variable {g f f1 f2 : List Addr} {H H1 H2 H' : Hp} {env env1 env2 : En} {σ σ1 σ2 : L2.St} {qt : Bool} {O O' : List Addr} {as as' : List Nat}
theorem sws_tup {v : Expr} {es : List Expr} {k : Nat} {p : Pos} {l : Nat} {env : Env} : swapsWithSole [.Tuple es k p] v l env = pure false := by
  cases v <;> rfl
theorem sst_tup {v : Expr} {es : List Expr} {k : Nat} {p : Pos} {env : Env} (h : noTupE v = true) : swappedStores [.Tuple es k p] v env = pure none := by
  cases v <;> first | rfl | cases h
theorem sst_no {v : Expr} {es : List Expr} {k : Nat} {p : Pos} {ev : Env} {C : Sc} (hs : ev.scope = C.sc) (h : (noTupE v || sstNo C es v) = true) : swappedStores [.Tuple es k p] v ev = pure none := by
  rw [Bool.or_eq_true] at h
  rcases h with h | h
  · exact sst_tup h
  · match es, v, h with
    | [.Name n1 p1, .Name n2 p2], .Tuple vs k2 p2', h =>
      have h : (decide (C.sc.names.lookup n1 ≠ some .local) || decide (C.sc.names.lookup n2 ≠ some .local)) = true := h
      rw [Bool.or_eq_true, decide_eq_true_eq, decide_eq_true_eq, ← hs] at h
      have h : ev.kindOf n1 ≠ some .local ∨ ev.kindOf n2 ≠ some .local := h
      have e : ([Expr.Name n1 p1, .Name n2 p2].filterMap fun
          | .Name id pos => if ev.kindOf id == some .local && pos.line == p1.line then some id else none
          | _ => none).length ≠ 2 := by
        rcases h with h | h
        · have : (ev.kindOf n1 == some .local) = false := by simpa using h
          simp only [List.filterMap_cons, List.filterMap_nil, this, Bool.false_and, Bool.false_eq_true, if_false]
          split <;> simp
        · have : (ev.kindOf n2 == some .local) = false := by simpa using h
          simp only [List.filterMap_cons, List.filterMap_nil, this, Bool.false_and, Bool.false_eq_true, if_false]
          split <;> simp
      unfold swappedStores
      dsimp only
      split
      · rfl
      · split
        · rfl
        · refine if_pos ?_
          simp only [List.head?_cons, Option.map_some, Option.getD_some, Expr.pos, Bool.or_eq_true, bne_iff_ne, ne_eq]
          exact .inl e
theorem snds_setT (is : List Nat) (e : Ex) (he : Snd L T R e) : SndS L T R (.setT is e) := by
  refine ⟨fun C st h X c => ?_, fun C sts h X c => (by cases h)⟩
  cases st with
  | Assign ts v pos =>
    cases ts with
    | nil => cases h
    | cons t0 ts =>
      cases ts with
      | cons _ _ => cases t0 <;> cases h
      | nil =>
        cases t0 with
        | Tuple es kk ap =>
          have h : (ckNs C is es && (noTupE v || sstNo C es v) && !isAl e && (ck T e).e C v) = true := h
          simp only [Bool.and_eq_true, Bool.not_eq_true'] at h
          obtain ⟨⟨⟨h1, h2⟩, h5⟩, h7⟩ := h
          refine PS.imp (ps_asg (he.e C v h7 X c.toCok) (pg_tg (tg := .tup is) c.toCok h1) sws_tup (sst_no c.sc h2)) fun D σ H ⟨g, f, env, hE, q⟩ => ?_
          have q : EndS L g f H σ is (((ev R e).e env).bind fun m env => Rs.lift (bindTg (.tup is) m.frz env) env).out D := q
          cases hm : (ev R e).e env with
          | ex _ _ => rw [hm] at q; exact q.elim
          | no => rw [hm] at q; exact q.elim
          | ok m env1 =>
            rw [hm] at q
            have q : EndS L g f H σ is (Rs.lift (bindTg (.tup is) m.frz env1) env1).out D := q
            cases hb : bindTg (.tup is) m.frz env1 with
            | none => rw [hb] at q; exact q.elim
            | some env2 =>
              rw [hb] at q
              have q : EndS L g f H σ is (.nx env2) D := q
              refine ⟨g, f, env, m, env1, hE, hm, fun v H' f' fm p => ?_⟩
              rw [h5] at p
              have pf := p.frz
              refine ⟨g, f', env1, m.frz, env2, p.okg, by simpa using pf.rep.2, hb, fun σ' f'' ok s u l => q σ' H' f'' ⟨ok, p.st, fun a ha => p.nf a (s a ha), u, l⟩⟩
        | _ => cases h
  | _ => cases h
theorem snds_aug (mu : Bool) (o : O2) (i : Nat) (e : Ex) (he : Snd L T R e) : SndS L T R (.aug mu o i e) := by
  refine ⟨fun C st h X c => ?_, fun C sts h X c => (by cases h)⟩
  cases st with
  | AugAssign t0 op v pos =>
    cases t0 with
    | Name n py =>
      have h : (locB C i n && opB op (o2Op o) && !isAl e && (ck T e).e C v) = true := h
      simp only [Bool.and_eq_true, Bool.not_eq_true'] at h
      obtain ⟨⟨⟨h1, h2⟩, h5⟩, h7⟩ := h
      have h2 := opB_eq h2
      obtain ⟨n1, n2, n3⟩ := loc_of c.toCok h1
      -- what stands ahead of the operator
      have pre : ∀ (D : Ends) (σ : L2.St) (H : Hp), tSx L R (.aug mu o i e) D σ H → ∃ g f env d m env1 d', EnvOk L g H env σ f ∧ slot env i = some (.pure d) ∧ (ev R e).e env = .ok m env1 ∧ semA o d m.frz = some d' ∧ EndS L g f H σ [i] (.nx (env1.set i (some (.pure d')))) D := by
        intro D σ H ⟨g, f, env, hE, q⟩
        have q : EndS L g f H σ [i] (match slot env i with
          | some (.pure d) => (((ev R e).e env).bind fun m env => Rs.lift ((semA o d m.frz).map fun d => env.set i (some (.pure d))) env).out
          | _ => .no) D := q
        cases hs : slot env i with
        | none => rw [hs] at q; exact q.elim
        | some m0 =>
          cases m0 with
          | lst _ => rw [hs] at q; exact q.elim
          | ins _ _ => rw [hs] at q; exact q.elim
          | pure d =>
            rw [hs] at q
            have q : EndS L g f H σ [i] (((ev R e).e env).bind fun m env => Rs.lift ((semA o d m.frz).map fun d => env.set i (some (.pure d))) env).out D := q
            cases hm : (ev R e).e env with
            | ex _ _ => rw [hm] at q; exact q.elim
            | no => rw [hm] at q; exact q.elim
            | ok m env1 =>
              rw [hm] at q
              have q : EndS L g f H σ [i] (Rs.lift ((semA o d m.frz).map fun d => env1.set i (some (.pure d))) env1).out D := q
              cases ha : semA o d m.frz with
              | none => rw [ha] at q; exact q.elim
              | some d' =>
                rw [ha] at q
                exact ⟨g, f, env, d, m, env1, d', hE, hs, hm, ha, q⟩
      have post : ∀ {D : Ends} {σ : L2.St} {H : Hp} {g f : List Addr} {env env1 : En} {m : M} {j : Int} {v : V} {H' : Hp} {f' fm : List Addr}, Pst L false (quiet e) g f H env m env1 σ v H' f' fm → i < σ.length → EndS L g f H σ [i] (.nx (env1.set i (some (.pure (.int j))))) D → D.nx (σ.set i (some (.int j))) H' := by
        intro D σ H g f env env1 m j v H' f' fm p hi q
        have pz : Pst L false false g f H env (.pure (.int j)) env1 σ (.int j) H' f' [] := p.tst.off.pure rfl
        obtain ⟨f'', t⟩ := pz.set (al := false) (i := i) hi
        exact q _ H' f'' t
      have hil : i < X.N.length := (List.getElem?_eq_some_iff.mp n1).1
      cases o with
      | add =>
        subst h2
        refine PS.len (ps_aug c.nd n1 n2 (he.e C v h7 X c.toCok) ip_add n3) fun D σ H hl hq => ?_
        obtain ⟨g, f, env, d, m, env1, d', hE, hs, hm, ha, q⟩ := pre D σ H hq
        obtain ⟨x, hx, rx⟩ := hE.slotD hs
        refine ⟨x, hx, g, f, env, m, env1, hE, hm, fun y H' f' fm p => ?_⟩
        rw [h5] at p
        have pf := p.frz.rep.2
        unfold semA at ha
        split at ha
        · cases ha
          rename_i e1
          rw [e1] at pf
          exact ⟨_, _, rx, pf, post p (by rw [hl]; exact hil) q⟩
        · rename_i e1 _; cases e1
        · cases ha
      | sub =>
        subst h2
        refine PS.len (ps_aug c.nd n1 n2 (he.e C v h7 X c.toCok) ip_sub n3) fun D σ H hl hq => ?_
        obtain ⟨g, f, env, d, m, env1, d', hE, hs, hm, ha, q⟩ := pre D σ H hq
        obtain ⟨x, hx, rx⟩ := hE.slotD hs
        refine ⟨x, hx, g, f, env, m, env1, hE, hm, fun y H' f' fm p => ?_⟩
        rw [h5] at p
        have pf := p.frz.rep.2
        unfold semA at ha
        split at ha
        · rename_i e1 _; cases e1
        · cases ha
          rename_i e1
          rw [e1] at pf
          exact ⟨_, _, rx, pf, post p (by rw [hl]; exact hil) q⟩
        · cases ha
      | mul => exact PS.imp ps_never fun D σ H hq => by obtain ⟨_, _, _, _, _, _, _, _, _, _, ha, _⟩ := pre D σ H hq; cases ha
      | fdiv => exact PS.imp ps_never fun D σ H hq => by obtain ⟨_, _, _, _, _, _, _, _, _, _, ha, _⟩ := pre D σ H hq; cases ha
      | mod => exact PS.imp ps_never fun D σ H hq => by obtain ⟨_, _, _, _, _, _, _, _, _, _, ha, _⟩ := pre D σ H hq; cases ha
      | pow => exact PS.imp ps_never fun D σ H hq => by obtain ⟨_, _, _, _, _, _, _, _, _, _, ha, _⟩ := pre D σ H hq; cases ha
    | _ => cases h
  | _ => cases h
end
end FB

set_option Elab.async false
set_option linter.all false
set_option maxRecDepth 10000
/-! FbPop: items taken out of lists. -/
namespace FB
open PySem PySem.Spec PyProof.Rows L2 StX
section
variable {L : Lk} {T : Tx} {R : Rt} {C : Sc} {X : Cx}
variable {g f f1 f2 : List Addr} {H H1 H2 H' : Hp} {env env1 env2 : En} {σ σ1 σ2 : L2.St} {qt : Bool} {O O' : List Addr} {as as' : List Nat}
theorem repMs_erase : ∀ {ms : List M} {vs : List V} {gg : List Addr} {j : Nat} {m : M}, RepMs L O H ms vs gg → ms[j]? = some m → ∃ v fx gg', vs[j]? = some v ∧ RepM L O H m v fx ∧ RepMs L O H (ms.eraseIdx j) (vs.eraseIdx j) gg' ∧ (fx ++ gg').Perm gg
  | [], _, _, _, _, _, h => by simp at h
  | m1 :: ms, v :: vs, gg, 0, m, ⟨f1, f2, e, a, b⟩, h => by
    simp at h
    subst h
    exact ⟨v, f1, f2, rfl, a, b, by rw [e]⟩
  | m1 :: ms, v :: vs, gg, j + 1, m, ⟨f1, f2, e, a, b⟩, h => by
    obtain ⟨w, fx, gg', h1, h2, h3, h4⟩ := repMs_erase (j := j) b (by simpa using h)
    refine ⟨w, fx, f1 ++ gg', by simpa using h1, h2, ⟨f1, gg', rfl, a, h3⟩, ?_⟩
    subst e
    rw [List.perm_iff_count]
    intro z
    have := h4.count_eq z
    simp only [List.count_append] at this ⊢
    omega
/-- the item and what is left of the list -/
theorem pop_ok {i : Nat} {ps : List Pe} {j : Option Int} {envz : En} {x : M} (pok : EnvOk L g H2 env1 σ f2) (hp : modPl env1 i ps (popR j) = some envz) (hx : ((getPl env1 i ps).bind fun m => (popAtP j m).map (·.1)) = some x) :
    ∃ qp vr a vs k y fx, pathV env1 ps = some qp ∧ σ[i]? = some (some vr) ∧ PathW L H2 qp vr (.ref a) ∧ a ∈ f2 ∧ H2 a = some (.lst vs) ∧ ixNat vs.length (j.getD (-1)) = some k ∧ vs[k]? = some y ∧
      ∃ f', EnvOk L (g ++ fx) (upd H2 a (.lst (vs.eraseIdx k))) envz σ f' ∧ (∀ b ∈ f', b ∈ f2) ∧ (∀ b ∈ fx, b ∈ f2) ∧ RepM L (g ++ fx ++ f') (upd H2 a (.lst (vs.eraseIdx k))) x y fx := by
  obtain ⟨qp, m1, m1', vr, v1, fa, u1, u2, u3, u4, u5, u6, u7, u8, u9, fin⟩ := mod_ok (fm := []) (by simpa using pok) hp
  rw [u3] at hx
  have hx : (popAtP j m1).map (·.1) = some x := hx
  cases m1 with
  | pure _ => cases u4
  | ins _ _ => cases u4
  | lst ms =>
    have u4 : (((ixNat ms.length (j.getD (-1))).bind fun k => ms[k]?.map fun x => (x, M.lst (ms.eraseIdx k))).map (·.2)) = some m1' := u4
    have hx : (((ixNat ms.length (j.getD (-1))).bind fun k => ms[k]?.map fun x => (x, M.lst (ms.eraseIdx k))).map (·.1)) = some x := hx
    cases hk : ixNat ms.length (j.getD (-1)) with
    | none => rw [hk] at u4; cases u4
    | some k =>
      rw [hk] at u4 hx
      have u4 : ((ms[k]?.map fun x => (x, M.lst (ms.eraseIdx k))).map (·.2)) = some m1' := u4
      have hx : ((ms[k]?.map fun x => (x, M.lst (ms.eraseIdx k))).map (·.1)) = some x := hx
      cases hm : ms[k]? with
      | none => rw [hm] at u4; cases u4
      | some m =>
        rw [hm] at u4 hx
        cases u4
        cases hx
        obtain ⟨a1, vs, gg, ev, ef, eh, rms⟩ := u6
        subst ev ef
        have na := List.nodup_cons.mp u9
        have af : a1 ∈ f2 := u7 a1 List.mem_cons_self
        have aO : a1 ∈ g ++ [] ++ f2 := List.mem_append_right _ af
        obtain ⟨y, fx, gg', e1, e2, e3, e4⟩ := repMs_erase rms hm
        have pmO : ∀ b, b ∈ fx ∨ b ∈ gg' → b ∈ gg := fun b hb => e4.mem_iff.mp (List.mem_append.mpr hb)
        have un : ∀ b o, b ∈ fx ∨ b ∈ gg' → H2 b = some o → upd H2 a1 (.lst (vs.eraseIdx k)) b = some o := fun b o hb e => by
          rw [upd_ne fun z => na.1 (by rw [← z]; exact pmO b hb)]; exact e
        obtain ⟨f', k1, k2⟩ := fin (upd H2 a1 (.lst (vs.eraseIdx k))) fx (a1 :: gg') [] (by
            rw [List.perm_iff_count]
            intro b
            have := e4.count_eq b
            simp only [List.count_append, List.count_cons, List.count_nil] at this ⊢
            omega)
          (fun b o n e => by rw [upd_ne fun z => n (by rw [z]; exact List.mem_cons_self)]; exact e)
          (upd_tr fun b hb => pok.trf b (List.mem_append_right _ (u7 b hb)))
          ⟨a1, _, gg', rfl, rfl, upd_same, e3.mv (upd_mv aO) fun b o hb e => un b o (.inr hb) e⟩
        have s' : ∀ b ∈ f', b ∈ f2 := fun b hb => (k2 b hb).elim (fun z => nomatch z) id
        have sx : ∀ b ∈ fx, b ∈ f2 := fun b hb => u7 b (List.mem_cons_of_mem _ (pmO b (.inl hb)))
        refine ⟨qp, vr, a1, vs, k, y, fx, u1, u2, u5, af, eh, by rw [← rms.len]; exact hk, e1, f', k1, s', sx, (e2.mv (upd_mv aO) fun b o hb e => un b o (.inl hb) e).mv (Mv.less fun b hb => ?_) fun _ _ _ e => e⟩
        simp only [List.mem_append] at hb ⊢
        rcases hb with (z | z) | z
        · exact .inl (.inl z)
        · exact .inr (sx b z)
        · exact .inr (s' b z)
/-- what a pop hands on -/
theorem pop_pst {x : M} {y : V} {fx f' : List Addr} {a : Addr} {ob : HO} {envz : En} {qa : Bool} (t : Tst L qa g f H env env1 σ H2 f2) (ha : a ∈ f2) (k1 : EnvOk L (g ++ fx) (upd H2 a ob) envz σ f') (s' : ∀ b ∈ f', b ∈ f2) (sx : ∀ b ∈ fx, b ∈ f2) (r : RepM L (g ++ fx ++ f') (upd H2 a ob) x y fx) :
    Pst L false false g f H env x envz σ y (upd H2 a ob) f' fx := by
  refine ⟨k1, fun b o e n => ?_, fun b hb => t.nf b (s' b hb), fun b hb => t.nf b (sx b hb), r, fun z => (nomatch z), fun z => (nomatch z)⟩
  have : b ≠ a := fun z => by
    subst z
    rcases t.nf b ha with w | w
    · exact n w
    · rw [w] at e; cases e
  rw [upd_ne this]; exact t.st b o e n
theorem last_ix {n k : Nat} (h : ixNat n (-1) = some k) : k = n - 1 ∧ 0 < n := by
  unfold ixNat at h
  rw [if_neg (by decide)] at h
  split at h
  · cases h; omega
  · cases h
theorem snd_pop (i : Nat) (ps : List Pe) : Snd L T R (.pop i ps) := by
  have hE : ∀ C e, (ck T (.pop i ps)).e C e = true → ∀ X, Cok L T R C X → PE X e (tE L R (.pop i ps)) := by
    intro C e h X c
    cases e with
    | Call fe es ks cp =>
      cases fe with
      | Attribute o a ap =>
        cases es with
        | cons _ _ => cases ks <;> cases h
        | nil =>
          cases ks with
          | cons _ _ => cases h
          | nil =>
            have h : (decide (a = "pop") && ckP T C i ps.reverse o && (ap.endLine == cp.line)) = true := h
            simp only [Bool.and_eq_true, decide_eq_true_eq] at h
            obtain ⟨⟨h1, h2⟩, h3⟩ := h
            subst h1
            refine PE.imp (pe_bm0 (T := "list") (id := "list.pop") F.plainAttrs_list F.slot_list_pop F.type_list_pop mt_pop (pe_place c i ps.reverse o h2) (ab_of h2) h3) fun σ H Q ⟨g, f, env, m, env', hE, hm, q⟩ => ?_
            have hm : (match modPl env i ps (popR none) with
              | some e => Rs.lift ((getPl env i ps).bind fun m => (popAtP none m).map (·.1)) e
              | none => .no) = Rs.ok m env' := hm
            split at hm
            · rename_i ez hp
              obtain ⟨hx, e1⟩ := lift_ok hm
              subst e1
              obtain ⟨qp, vr, a, vs, k, y, fx, w1, w2, w3, w4, w5, w6, w7, f', w8, w9, w10, w11⟩ := pop_ok hE hp hx
              obtain ⟨ek, hn⟩ := last_ix w6
              have hd : vs.eraseIdx k = vs.dropLast := by rw [ek]; exact PyProof.Rows.Copied.eraseIdx_last vs
              refine place_w hE i w2 ps.reverse qp _ _ (by rw [List.reverse_reverse]; exact w1) w3 ⟨.inl ⟨rfl, vs, .of w5⟩, a, vs, y, rfl, rfl, w5, by rw [← ek]; exact w7, ?_⟩
              rw [← hd]
              exact q y _ f' fx (pop_pst (qa := false) ⟨hE, fun _ _ e _ => e, fun _ z => .inl z, fun z => (nomatch z)⟩ w4 w8 w9 w10 w11)
            · cases hm
      | _ => cases ks <;> cases es <;> cases h
    | _ => cases h
  refine ⟨hE, fun C e h X c => ?_⟩
  refine pt_plain c (hE C e h X c) rfl ?_
  cases e with
  | Call _ _ _ _ => exact fun _ => rfl
  | _ => cases h
theorem snd_popAt (i : Nat) (ps : List Pe) (x : Ex) (hx : Snd L T R x) : Snd L T R (.popAt i ps x) := by
  have hE : ∀ C e, (ck T (.popAt i ps x)).e C e = true → ∀ X, Cok L T R C X → PE X e (tE L R (.popAt i ps x)) := by
    intro C e h X c
    cases e with
    | Call fe es ks cp =>
      cases fe with
      | Attribute o a ap =>
        cases ks with
        | cons _ _ => cases es with
          | nil => cases h
          | cons _ es => cases es <;> cases h
        | nil =>
          cases es with
          | nil => cases h
          | cons ax es =>
            cases es with
            | cons _ _ => cases h
            | nil =>
              have h : (decide (a = "pop") && ckP T C i ps.reverse o && (ap.endLine == cp.line) && noStar ax && !isAl x && (ps.isEmpty || quiet x) && (ck T x).e C ax) = true := h
              simp only [Bool.and_eq_true, decide_eq_true_eq, Bool.not_eq_true'] at h
              obtain ⟨⟨⟨⟨⟨⟨h1, h2⟩, h3⟩, h4⟩, h5⟩, h6⟩, h7⟩ := h
              subst h1
              refine PE.imp (pe_bm (T := "list") (id := "list.pop") F.plainAttrs_list F.slot_list_pop F.type_list_pop mt_popAt (pe_place c i ps.reverse o h2) (pa_one (hx.e C ax h7 X c) h4) (ab_of h2)
                (by rw [star_cons h4]; rfl) h3 (star_cons h4) rfl) fun σ H Q ⟨g, f, env, m, env', hE, hm, q⟩ => ?_
              have hm : (match modPl env i ps keepL with
                | some _ => ((ev R x).e env).bind fun x env => (match x with
                  | .pure (.int j) => if -(2 ^ 60) < j ∧ j < 2 ^ 60 then popPl env i ps (some j) else .no
                  | _ => .no)
                | none => .no) = Rs.ok m env' := hm
              split at hm
              · rename_i ek hk
                obtain ⟨mx, env1, hmx, hm2⟩ := bind_ok hm
                split at hm2
                · rename_i j
                  split at hm2
                  · rename_i hj
                    have hm3 : (match modPl env1 i ps (popR (some j)) with
                      | some e => Rs.lift ((getPl env1 i ps).bind fun m => (popAtP (some j) m).map (·.1)) e
                      | none => .no) = Rs.ok m env' := hm2
                    split at hm3
                    · rename_i ez hp
                      obtain ⟨hxv, e1⟩ := lift_ok hm3
                      subst e1
                      obtain ⟨qp, m0, m0', vr, v0, f0, w1, w2, w3, w4, w5, w6, _⟩ := mod_ok (fm := []) (by simpa using hE) hk
                      cases m0 with
                      | pure _ => cases w4
                      | ins _ _ => cases w4
                      | lst ms0 =>
                        obtain ⟨a0, vs0, g0, ev0, ef0, eh0, _⟩ := w6
                        subst ev0
                        refine place_w hE i w2 ps.reverse qp _ _ (by rw [List.reverse_reverse]; exact w1) w5 ⟨.inl ⟨rfl, vs0, .of eh0⟩, g, f, env, _, env1, hE, hmx, fun yv H2 f2 fm p => ?_⟩
                        rw [h5] at p
                        have pok : EnvOk L g H2 env1 σ f2 := p.okg
                        obtain ⟨qp', vr', a1, vs, k, y, fx, u1, u2, u3, u4, u5, u6, u7, f', u8, u9, u10, u11⟩ := pop_ok pok hp hxv
                        rw [w2] at u2
                        cases u2
                        have same : V.ref a1 = .ref a0 := by
                          rcases Bool.or_eq_true _ _ ▸ h6 with z | z
                          · have : ps = [] := by simpa using z
                            subst this
                            cases w1
                            cases u1
                            exact (show vr = .ref a1 from u3).symm.trans (show vr = .ref a0 from w5)
                          · obtain ⟨z1, z2, z3, _⟩ := p.qui z
                            subst z1
                            rw [w1] at u1
                            cases u1
                            exact u3.det (w5.keep z3)
                        cases same
                        have ry : yv = .int j := p.rep.2
                        obtain ⟨s1, _, _, _⟩ := ixN_seq (show ixN vs.length j = some k by rw [← ixNat_eq]; exact u6)
                        refine ⟨_, vs, j, k, y, rfl, by rw [ry], u5, by omega, by omega, s1, u7, ?_⟩
                        exact q y _ f' fx (pop_pst (p.tst) u4 u8 u9 u10 u11)
                    · cases hm3
                  · cases hm2
                · cases hm2
              · cases hm
      | _ =>
        cases ks <;> cases es <;> first | cases h; done | (rename_i es; cases es <;> cases h)
    | _ => cases h
  refine ⟨hE, fun C e h X c => ?_⟩
  refine pt_plain c (hE C e h X c) rfl ?_
  cases e with
  | Call _ _ _ _ => exact fun _ => rfl
  | _ => cases h
end
end FB

set_option Elab.async false
set_option linter.all false
set_option maxRecDepth 10000
/-! FbPar: two names at once from two values. -/
namespace FB
open PySem PySem.Spec PyProof.Rows L2 StX
section
variable {L : Lk} {T : Tx} {R : Rt} {C : Sc} {X : Cx}
variable {g f f1 f2 : List Addr} {H H1 H2 H' : Hp} {env env1 env2 : En} {σ σ1 σ2 : L2.St} {qt : Bool} {O O' : List Addr} {as as' : List Nat}
theorem sst_par {n1 n2 : Str} {p1 p2 pt pt2 : Pos} {k k2 : Nat} {x y : Expr} {ev : Env} (hb : ev.blockKind = .function) (h1 : ev.kindOf n1 = some .local) (h2 : ev.kindOf n2 = some .local) (hl : (p2.line == p1.line) = true) (hn : n1 ≠ n2)
    (hf : [x, y].all (foldedForSure 8) = false) (hc : [x, y].all (constantsAlone 8) = false) (sx : noStar x = true) (sy : noStar y = true) :
    swappedStores [.Tuple [.Name n1 p1, .Name n2 p2] k pt] (.Tuple [x, y] k2 pt2) ev = pure (some [n1, n2]) := by
  have hl' : p2.line = p1.line := by simpa using hl
  have hd : [n1, n2].eraseDups = [n1, n2] := by
    have : (n2 == n1) = false := by simpa using fun z => hn z.symm
    simp [List.eraseDups, List.eraseDupsBy, List.eraseDupsBy.loop, this]
  unfold swappedStores
  simp only [List.length_cons, List.length_nil, hb, List.any_cons, List.any_nil, List.head?_cons, Option.map_some, Option.getD_some, List.filterMap_cons, List.filterMap_nil, h1, h2, Expr.pos, hl', hf, hc]
  clear hf hc
  simp
  refine (if_neg ?_).trans ?_
  · rintro (h | h)
    · cases x <;> first | (cases h; done) | (cases sx; done)
    · cases y <;> first | (cases h; done) | (cases sy; done)
  · rw [hd]; simp
theorem snds_par (i j : Nat) (a b : Ex) (ha : Snd L T R a) (hb : Snd L T R b) : SndS L T R (.par i j a b) := by
  refine ⟨fun C st h X c => ?_, fun C sts h X c => (by cases h)⟩
  cases st with
  | Assign ts v pos =>
    match ts, v, h with
    | [.Tuple [.Name n1 p1, .Name n2 p2] kt pt], .Tuple [x, y] k2 pt2, h =>
      have h : (decide (i ≠ j) && decide (C.N[i]? = some n1) && decide (C.N[j]? = some n2) && decide (C.sc.names.lookup n1 = some .local) && decide (C.sc.names.lookup n2 = some .local) && (match C.sc.kind with | .function => true | _ => false) &&
        (p2.line == p1.line) && decide (n1 ≠ n2) && !([x, y].all (foldedForSure 8)) && !([x, y].all (constantsAlone 8)) && noStar x && noStar y && !isAl a && !isAl b && (ck T a).e C x && (ck T b).e C y) = true := h
      rw [Bool.and_eq_true, Bool.and_eq_true, Bool.and_eq_true, Bool.and_eq_true, Bool.and_eq_true, Bool.and_eq_true, Bool.and_eq_true, Bool.and_eq_true, Bool.and_eq_true, Bool.and_eq_true, Bool.and_eq_true, Bool.and_eq_true, Bool.and_eq_true, Bool.and_eq_true, Bool.and_eq_true,
        decide_eq_true_eq, decide_eq_true_eq, decide_eq_true_eq, decide_eq_true_eq, decide_eq_true_eq, decide_eq_true_eq, Bool.not_eq_true', Bool.not_eq_true', Bool.not_eq_true', Bool.not_eq_true'] at h
      obtain ⟨⟨⟨⟨⟨⟨⟨⟨⟨⟨⟨⟨⟨⟨⟨hij, hi⟩, hj⟩, l1⟩, l2⟩, hkd⟩, hl⟩, hn⟩, hf⟩, hc⟩, sx⟩, sy⟩, na⟩, nb⟩, ca⟩, cb⟩ := h
      have hkind : X.env.scope.kind = .function := by
        rw [c.sc]
        split at hkd
        · assumption
        · cases hkd
      have hbk : X.env.blockKind = .function := by unfold Env.blockKind; rw [hkind]; rfl
      have k1 : X.env.scope.names.lookup n1 = some .local := by rw [c.sc]; exact l1
      have k2' : X.env.scope.names.lookup n2 = some .local := by rw [c.sc]; exact l2
      rw [← c.N] at hi hj
      refine PS.len (ps_par c.calm c.nd hi hj hij k1 k2' (pa_cons (ha.e C x ca X c.toCok) (pa_one (hb.e C y cb X c.toCok) sy) (star_cons sx)) (sst_par hbk k1 k2' hl hn hf hc sx sy)) fun D σ H hlen ⟨g, f, env, hE, q⟩ => ?_
      have q : EndS L g f H σ [i, j] (((ev R a).e env).bind fun x env => ((ev R b).e env).bind fun y env => .ok ((env.set i (some x)).set j (some y)) env).out D := q
      cases hx : (ev R a).e env with
      | ex _ _ => rw [hx] at q; exact q.elim
      | no => rw [hx] at q; exact q.elim
      | ok mx env1 =>
        rw [hx] at q
        have q : EndS L g f H σ [i, j] (((ev R b).e env1).bind fun y env => .ok ((env.set i (some mx)).set j (some y)) env).out D := q
        cases hy : (ev R b).e env1 with
        | ex _ _ => rw [hy] at q; exact q.elim
        | no => rw [hy] at q; exact q.elim
        | ok my env2 =>
          rw [hy] at q
          have q : EndS L g f H σ [i, j] (.nx ((env2.set i (some mx)).set j (some my))) D := q
          refine ⟨g, f, env, mx, env1, hE, hx, fun v H1 f1 fm1 pa => ?_⟩
          rw [na] at pa
          have oka : EnvOk L (g ++ fm1) H1 env1 σ f1 := pa.ok
          refine ⟨g ++ fm1, f1, env1, my, env2, oka, hy, fun w H2 f2 fm2 pb => ⟨v, w, rfl, ?_⟩⟩
          rw [nb] at pb
          have okb : EnvOk L (g ++ fm1 ++ fm2) H2 env2 σ f2 := pb.ok
          have rx : RepM L (g ++ fm1 ++ fm2 ++ f2) H2 mx v fm1 := pa.rep.mv pb.mvv fun z o hz e => pb.st z o e fun m => (List.nodup_append.mp oka.nd).2.2 z (List.mem_append_right _ hz) z m rfl
          have pm : (g ++ fm2 ++ fm1).Perm (g ++ fm1 ++ fm2) := by
            rw [List.append_assoc, List.append_assoc]
            exact List.Perm.append_left g List.perm_append_comm
          have il : i < σ.length := by rw [hlen]; exact (List.getElem?_eq_some_iff.mp hi).1
          have jl : j < σ.length := by rw [hlen]; exact (List.getElem?_eq_some_iff.mp hj).1
          obtain ⟨f3, s3, ok3⟩ := (okb.perm pm).put (g := g ++ fm2) (f1 := fm1) (m := mx) (v := v) (i := i) (rx.mv (Mv.less fun z hz => by
            rcases List.mem_append.mp hz with w | w
            · exact List.mem_append_left _ (pm.mem_iff.mp w)
            · exact List.mem_append_right _ w) fun _ _ _ e => e) (by rw [okb.len]; exact il)
          have sub3 : ∀ z, z ∈ g ++ fm2 ++ f3 → z ∈ g ++ fm1 ++ fm2 ++ f2 := fun z hz => by
            simp only [List.mem_append] at hz ⊢
            rcases hz with (hz | hz) | hz
            · exact .inl (.inl (.inl hz))
            · exact .inl (.inr hz)
            · exact (s3 z hz).elim (fun w => .inl (.inl (.inr w))) .inr
          obtain ⟨f4, s4, ok4⟩ := ok3.put (g := g) (f1 := fm2) (m := my) (v := w) (i := j) (pb.rep.mv (Mv.less sub3) fun _ _ _ e => e) (by rw [List.length_set, okb.len]; exact jl)
          refine q _ H2 f4 ⟨ok4, fun z o e n => pb.st z o (pa.st z o e n) (st_tr pa.nf e n), fun z hz => ?_, fun z hz => ?_, by rw [List.length_set, List.length_set]⟩
          · rcases s4 z hz with u | u
            · exact nf_tr pa.st pa.nf (pb.nm z u)
            · rcases s3 z u with t | t
              · exact pa.nm z t
              · exact nf_tr pa.st pa.nf (pb.nf z t)
          · have z1 : j ≠ z := fun e => hz (by rw [← e]; simp)
            have z2 : i ≠ z := fun e => hz (by rw [← e]; simp)
            rw [List.getElem?_set_ne z1, List.getElem?_set_ne z2]
  | _ => cases h
end
end FB

set_option Elab.async false
set_option linter.all false
set_option maxRecDepth 10000
/-! FbDun: ==, !=, len, repr of instances by the text's own defs. -/
namespace FB
open PySem PySem.Spec PyProof.Rows L2 StX
section
variable {M : Model} {prog : Program} {w : World} {A : Around} {E : Value → Shared → Prop} {s : Shared} {K : PySem.W.Frag} {x C : Addr} {ox : Obj} {od : Option Obj}
theorem ifBound_objNe {args : List Value} {Q : Option Value → Shared → Prop} (X : K.In s.heap) (I : PySem.W.InstAt s.heap x ox C od) (hs : PySem.W.findIn K (.ref C) "__ne__" = some (some (.builtin "object.__ne__")))
    (h : wpAny M A (call (.builtin "object.__ne__") (.ref x :: args)) (fun v => Q (some v)) E s) : wpAny M A (callSpecialIfBound? (.ref x) "__ne__" args) Q E s := by
  simp only [callSpecialIfBound?, bindSpecialIfBound?]
  refine wpAny_holding (wpAny_bind (wpAny_bind (wpAny_bind (I.type.here ((PySem.W.looks_findIn X hs).here ?_)))))
  refine wpAny_bind (wpAny_askSetting (wpAny_ite ?_))
  have fin : wpAny M A (call (.builtin "object.__ne__") ([.ref x] ++ args) >>= fun v => pure (some v)) Q E s := wpAny_bind (wpAny_mono h (fun v s' h' => wpAny_pure h') fun _ _ h' => h')
  split
  · exact wpAny_bind (wpAny_of_eq (F.cmp_object.ne.bind _) (wpAny_pure (by exact fin)))
  · exact wpAny_tryCatch (wpAny_bind (wpAny_of_eq (F.cmp_object.ne.bind _) (wpAny_pure (by exact fin))))
theorem entry_ne {f : Addr} {b : Value} {Q : Fin → Shared → Prop} (hu : A.units < cLine) (X : K.In s.heap) (I : PySem.W.InstAt s.heap x ox C od) (hs : PySem.W.findIn K (.ref C) "__eq__" = some (some (.ref f))) (hf : PySem.W.isFn K (.ref f) = true)
    (h : wpAny M A (call (.ref f) [.ref x, b]) (fun v s' => ∃ r, v = .bool r ∧ Q (.done (.ret (.bool (!r)))) s') E s) : wpAny M A (Builtin.«object.__ne__» ⟨[.ref x, b], []⟩) Q E s := by
  unfold Builtin.«object.__ne__»
  repeat (first
    | with_reducible refine wpAny_cRoomFor hu ?_
    | (refine wpAny_bind (m := callSpecialIfBound? (.ref x) (Str.ofString "__eq__") [b])
        (PySem.W.ifBound_K X I hs hf (wpAny_mono h (fun r s' hr => by
          obtain ⟨r, rfl, hq⟩ := hr
          repeat (first | exact hq | exact wpAny_pure hq | exact wpAny_truthy_bool hq | (refine wpAny_bind (m := truthy (.bool _)) (wpAny_truthy_bool ?_)) | wp_step)) fun _ _ e => e)))
    | wp_step)
theorem call_objNe {f : Addr} {b : Value} {Q : Value → Shared → Prop} (hu : A.in1.units < cLine) (X : K.In s.heap) (I : PySem.W.InstAt s.heap x ox C od) (hm : PySem.W.mroIn K C (.type "object") = some true) (hs : PySem.W.findIn K (.ref C) "__eq__" = some (some (.ref f))) (hf : PySem.W.isFn K (.ref f) = true)
    (h : wpAny (model prog w) A.in1 (call (.ref f) [.ref x, b]) (fun v s' => ∃ r, v = .bool r ∧ Q (.bool (!r)) s') E s) : wpAny (model prog w) A (call (.builtin "object.__ne__") [.ref x, b]) Q E s :=
  wpAny_call (codeAny_call_builtin F.cmp_object.ne.plain F.cmpEntry_ne (PySem.W.check_slot F.cmpKind_ne F.cmpSplit_ne (I.type.andThen (PySem.W.looks_mroIn X hm)) (F.cmpArgs_ne _ _) (entry_ne (A := A.in1) hu X I hs hf (wpAny_mono h (fun v s' ⟨r, e, q⟩ => ⟨r, e, q⟩) fun _ _ e => e))))
theorem rc_ne {f : Addr} {b tb : Value} {Q : Value → Shared → Prop} (hu : A.in1.units < cLine) (hu0 : A.units < cLine) (X : K.In s.heap) (I : PySem.W.InstAt s.heap x ox C od) (hb : PySem.W.Looks (model prog w) s.heap (typeOf b) tb) (hn : PySem.W.notFirst K C tb = true) (hm : PySem.W.mroIn K C (.type "object") = some true) (hs : PySem.W.findIn K (.ref C) "__eq__" = some (some (.ref f)))
    (hne : PySem.W.findIn K (.ref C) "__ne__" = some (some (.builtin "object.__ne__"))) (hf : PySem.W.isFn K (.ref f) = true)
    (h : wpAny (model prog w) A.in1 (call (.ref f) [.ref x, b]) (fun v s' => ∃ r, v = .bool r ∧ Q (.bool (!r)) s') E s) : wpAny (model prog w) A (richCompare .NotEq (.ref x) b) Q E s := by
  have one : wpAny (model prog w) A (tryCompare (.ref x) (cmpInfo .NotEq).2.1 b) (fun r s' => ∃ v, r = some v ∧ Q v s') E s := by
    unfold tryCompare
    refine wpAny_bind (ifBound_objNe X I hne (call_objNe hu X I hm hs hf (wpAny_mono h (fun v s' ⟨r, e, q⟩ => ⟨r, e, ?_⟩) fun _ _ e => e)))
    exact wpAny_pure ⟨_, rfl, q⟩
  unfold richCompare
  simp only [oneThing_ref]
  refine wpAny_holding (wpAny_bind (wpAny_cRoomFor hu0 ?_))
  refine wpAny_bind (I.type.here (wpAny_bind (hb.here ?_)))
  split
  · rename_i q
    have e : PySem.W.subIn K tb (.ref C) = some false := by
      rcases Bool.or_eq_true_iff.mp hn with e | e
      · rw [beq_iff_eq.mp e] at q; simp at q
      · exact beq_iff_eq.mp e
    refine wpAny_bind ((PySem.W.looks_subIn X e).here ?_)
    simp only [Bool.false_eq_true, if_false]
    refine wpAny_bind (wpAny_mono one (fun r s' z => ?_) fun _ _ e => e)
    obtain ⟨v, rfl, hq⟩ := z
    exact wpAny_pure hq
  · refine wpAny_bind (wpAny_pure ?_)
    simp only [Bool.false_eq_true, if_false]
    refine wpAny_bind (wpAny_mono one (fun r s' z => ?_) fun _ _ e => e)
    obtain ⟨v, rfl, hq⟩ := z
    exact wpAny_pure hq
end
section
variable {L : Lk} {T : Tx} {R : Rt} {C : Sc} {X : Cx}
variable {g f f1 f2 : List Addr} {H H1 H2 H' : Hp} {env env1 env2 : En} {σ : L2.St} {qt : Bool} {O O' : List Addr}
theorem call_in1 {k : Nat} {fa : Addr} {sp : Sp} {pins : List (Addr × Obj)} {s : Shared} {Q : VK} {us : List Value} {vs : List V} {E' : Value → Shared → Prop} (F : FnR X.prog X.w X.K X.mg X.base CX0 k fa sp) (hr : Room (k + 1) X.A) (I : Inv X pins σ H s) (r : Vals vs us) (h : sp vs H Q E0) :
    wpAny (model X.prog X.w) X.A.in1 (call (.ref fa) us) (EP X pins σ Q) E' s := by
  refine wpAny_call (codeAny_mono (F X.A.in1 X.stack s H us vs Q E0 hr.in1 I.env0.in1 r h) fun r s' hq => ?_)
  cases r with
  | error er => exact False.elim ((pass0 (X := X.nox)) pins σ H s er s' (I.wish _) hq)
  | ok fl =>
    cases fl with
    | ret u => exact I.after hq
    | next => exact False.elim hq
    | brk => exact False.elim hq
    | cont => exact False.elim hq
/-- x == y, x != y of two instances of one class -/
def rOwn (neg : Bool) (Cl : Addr) (sp : Sp) : R2 := fun x y H Q => ∃ a b dx dy fs gs, x = .ref a ∧ y = .ref b ∧ H a = some (.ins Cl dx fs) ∧ H b = some (.ins Cl dy gs) ∧ sp [.ref a, .ref b] H (fun v H' => ∃ r, v = .bl r ∧ Q (.bl (if neg then !r else r)) H') E0
theorem op_own_eq {k : Nat} {Cl fa : Addr} {sp : Sp} (F : FnR X.prog X.w X.K X.mg X.base CX0 k fa sp) (hr : Room k X.A) (hs : PySem.W.findIn X.K (.ref Cl) "__eq__" = some (some (.ref fa))) (hf : PySem.W.isFn X.K (.ref fa) = true) : OpR X (compareOp .Eq) (rOwn false Cl sp) := by
  intro pins s σ H x y v u Q I rx ry hq
  obtain ⟨a, b, dx, dy, fs, gs, rfl, rfl, ha, hb, q⟩ := hq
  cases rx
  cases ry
  obtain ⟨mA, J, _⟩ := ins_get I.hok ha
  obtain ⟨mB, J', _⟩ := ins_get I.hok hb
  obtain ⟨od, J, _⟩ := J.look
  obtain ⟨od', J', _⟩ := J'.look
  obtain ⟨m, hF⟩ := I.fr
  show wpAny (model X.prog X.w) X.A (richCompare .Eq (.ref a) (.ref b)) (EP X pins σ Q) X.xe s
  refine PySem.W.cmp_K (op := .Eq) (tb := .ref Cl) (by have := hr.un; omega) hF I.ok.mod.kin J J'.type (by simp [PySem.W.notFirst]) hs hf ?_
  refine wpAny_mono (wpAny_call (run_fnR (us := [.ref a, .ref b]) (vs := [.ref a, .ref b]) F hr pass0 I (.cons rfl (.cons rfl .nil)) q)) (fun w' s' hw => ?_) fun _ _ e => e
  obtain ⟨z, H', I', rz, r, ez, qq⟩ := hw
  subst ez
  cases rz
  exact ⟨.bl r, H', I', rfl, qq⟩
theorem op_own_ne {k : Nat} {Cl fa : Addr} {sp : Sp} (F : FnR X.prog X.w X.K X.mg X.base CX0 k fa sp) (hr : Room (k + 1) X.A) (hs : PySem.W.findIn X.K (.ref Cl) "__eq__" = some (some (.ref fa))) (hf : PySem.W.isFn X.K (.ref fa) = true) (hne : PySem.W.findIn X.K (.ref Cl) "__ne__" = some (some (.builtin "object.__ne__")))
    (hm : PySem.W.mroIn X.K Cl (.type "object") = some true) : OpR X (compareOp .NotEq) (rOwn true Cl sp) := by
  intro pins s σ H x y v u Q I rx ry hq
  obtain ⟨a, b, dx, dy, fs, gs, rfl, rfl, ha, hb, q⟩ := hq
  cases rx
  cases ry
  obtain ⟨mA, J, _⟩ := ins_get I.hok ha
  obtain ⟨mB, J', _⟩ := ins_get I.hok hb
  obtain ⟨od, J, _⟩ := J.look
  obtain ⟨od', J', _⟩ := J'.look
  show wpAny (model X.prog X.w) X.A (richCompare .NotEq (.ref a) (.ref b)) (EP X pins σ Q) X.xe s
  refine rc_ne (tb := .ref Cl) (by have := hr.in1.un; omega) (by have := hr.un; omega) I.kIn J J'.type (by simp [PySem.W.notFirst]) hm hs hne hf ?_
  exact wpAny_mono (call_in1 (us := [.ref a, .ref b]) (vs := [.ref a, .ref b]) F hr I (.cons rfl (.cons rfl .nil)) q) (fun w' s' hw => by
    obtain ⟨z, H', I', rz, r, ez, qq⟩ := hw
    subst ez
    cases rz
    exact ⟨r, rfl, .bl (!r), H', I', rfl, qq⟩) fun _ _ e => e
theorem call_len_own {k : Nat} {Cl fa : Addr} {sp : Sp} (F : FnR X.prog X.w X.K X.mg X.base CX0 k fa sp) (hr : Room (k + 1) X.A) (hs : PySem.W.findIn X.K (.ref Cl) "__len__" = some (some (.ref fa))) (hf : PySem.W.isFn X.K (.ref fa) = true) :
    CallR X (.builtin "len") (fun xs H Q => ∃ a dx fs, xs = [V.ref a] ∧ H a = some (.ins Cl dx fs) ∧ sp [.ref a] H (fun v H' => ∃ n : Int, v = .int n ∧ 0 ≤ n ∧ n < 2 ^ 60 ∧ Q (.int n) H') E0) := by
  intro pins s σ H xs us Q I r h
  obtain ⟨a, dx, fs, rfl, ha, q⟩ := h
  obtain ⟨u, rfl, ru⟩ := vals1 r
  cases ru
  obtain ⟨mA, J, _⟩ := ins_get I.hok ha
  obtain ⟨od, J, _⟩ := J.look
  obtain ⟨m, hF⟩ := I.fr
  refine PySem.W.len_K hF I.ok.mod.kin J hs hf (wpAny_mono (call_in1 (us := [.ref a]) (vs := [.ref a]) F hr I (.cons rfl .nil) q) (fun w' s' hw => ?_) fun _ _ e => e)
  obtain ⟨z, H', I', rz, n, ez, h0, h1, qq⟩ := hw
  subst ez
  obtain ⟨t, rfl⟩ := rz
  exact ⟨⟨h0, by omega⟩, .int n, H', I'.tok _, ⟨_, rfl⟩, qq⟩
theorem call_repr_own {k : Nat} {Cl fa : Addr} {sp : Sp} (F : FnR X.prog X.w X.K X.mg X.base CX0 k fa sp) (hr : Room (k + 1) X.A) (hs : PySem.W.findIn X.K (.ref Cl) "__repr__" = some (some (.ref fa))) (hf : PySem.W.isFn X.K (.ref fa) = true) :
    CallR X (.builtin "repr") (fun xs H Q => ∃ a dx fs, xs = [V.ref a] ∧ H a = some (.ins Cl dx fs) ∧ sp [.ref a] H (fun v H' => ∃ x, v = .str x ∧ Q (.str x) H') E0) := by
  intro pins s σ H xs us Q I r h
  obtain ⟨a, dx, fs, rfl, ha, q⟩ := h
  obtain ⟨u, rfl, ru⟩ := vals1 r
  cases ru
  obtain ⟨mA, J, _⟩ := ins_get I.hok ha
  obtain ⟨od, J, _⟩ := J.look
  obtain ⟨m, hF⟩ := I.fr
  refine PySem.W.repr_K (by have := hr.in1.un; omega) hF I.ok.mod.kin J hs hf (wpAny_mono (call_in1 (us := [.ref a]) (vs := [.ref a]) F hr I (.cons rfl .nil) q) (fun w' s' hw => ?_) fun _ _ e => e)
  obtain ⟨z, H', I', rz, x, ez, qq⟩ := hw
  subst ez
  obtain ⟨t, rfl⟩ := rz
  exact ⟨.str x, H', I', ⟨_, rfl⟩, qq⟩
theorem bool_ok {r : Rs M} {b : Bool} {env' : En} (h : boolR r = .ok b env') : r = .ok (.pure (.bl b)) env' := by
  cases r with
  | ok m env =>
    cases m with
    | pure d => cases d <;> first | (cases h; rfl) | cases h
    | lst _ => cases h
    | ins _ _ => cases h
  | ex _ _ => cases h
  | no => cases h
theorem RepV.inst {c : Nat} {fs : List (Nat × D)} {v : V} (r : RepV L O H (.ins c fs) v) : RepD L O H (.ins c fs) v := by
  cases r with | d h => exact h
theorem insD {c : Nat} {fs : List (Nat × D)} {v : V} (r : RepD L O H (.ins c fs) v) : ∃ a dx vs, v = .ref a ∧ H a = some (.ins (L.cls c) dx vs) := by
  obtain ⟨a, dx, vs, e, _, h, _⟩ := r
  exact ⟨a, dx, vs, e, h⟩
/-- what the callee hands back is a truth value -/
theorem own_bool {call : List M → Cr} {xs : List D} {us : List V} {bb : Bool} {env2 env' : En} {Q : VK} {neg : Bool} {H2 : Hp} (t : Tst L qt g f H env env2 σ H2 f2) (r : RepDs L (g ++ f2) H2 xs us) (h : callV call xs env2 = .ok (.pure (.bl bb)) env')
    (q : ∀ v H' f' fm, Pst L false false g f H env (.pure (.bl (if neg then !bb else bb))) env' σ v H' f' fm → Q v H') : spOf L call us H2 (fun v H' => ∃ r, v = .bl r ∧ Q (.bl (if neg then !r else r)) H') E0 :=
  callV_rd t r h fun v H' f' fm p => ⟨bb, p.rep.2, q _ H' f' [] (p.tst.pure rfl)⟩
/-- what such a comparison is -/
theorem cmpR_of {o : C2} {dx dy : D} {m : M} {env2 env' : En} (ho : isEqC o = true) (hm : cmpR R o dx dy env2 = .ok m env') :
    ∃ ci fs gs fid bb, dx = .ins ci fs ∧ dy = .ins ci gs ∧ R.dun ci 2 = some fid ∧ callV (R.call fid) [.ins ci fs, .ins ci gs] env2 = .ok (.pure (.bl bb)) env' ∧ m = .pure (.bl (if isNeC o then !bb else bb)) := by
  cases o <;> first | cases ho | skip
  all_goals
    cases dx <;> first | cases hm | skip
    cases dy <;> first | cases hm | skip
    rename_i ci fs ci' gs
    unfold cmpR at hm
    cases hd : R.dun ci 2 with
    | none => simp only [hd] at hm; cases hm
    | some fid =>
      simp only [hd] at hm
      by_cases hcc : ci = ci'
      · subst hcc
        rw [if_pos rfl] at hm
        obtain ⟨bb, env3, hb1, hm⟩ := bind_ok hm
        cases hm
        exact ⟨ci, fs, gs, fid, bb, rfl, rfl, hd, bool_ok hb1, rfl⟩
      · rw [if_neg hcc] at hm
        cases hm
theorem cmpd_key (o : C2) (a b : Ex) (ha : Snd L T R a) (hb : Snd L T R b) {x y : Expr} {p : CmpOp} {pos : Pos} (h : (ck T (.cmpd o a b)).e C (.Compare x [p] [y] pos) = true) (c : Cok L T R C X) {σ : L2.St} {H : Hp} {g f : List Addr} {env env' : En} {m : M} {Q : VK}
    (hE : EnvOk L g H env σ f) (hm : (ev R (.cmpd o a b)).e env = .ok m env') (q : ∀ bb v H' f' fm, m = .pure (.bl bb) → Pst L false (quiet (.cmpd o a b)) g f H env m env' σ v H' f' fm → Q v H') :
    ∃ r, OpR X (compareOp p) r ∧ PE X x (tE L R a) ∧ PE X y (tE L R b) ∧ behindInMarks p y = false ∧ tOp r (tE L R a) (tE L R b) σ H Q := by
  have h : (isEqC o && cmB p (c2Op o) && noSet y && !isAl a && !isAl b && (ck T a).e C x && (ck T b).e C y) = true := h
  simp only [Bool.and_eq_true, Bool.not_eq_true'] at h
  obtain ⟨⟨⟨⟨⟨⟨h0, h1⟩, h2⟩, h3⟩, h4⟩, h5⟩, h6⟩ := h
  have h1 := cmB_eq h1
  subst h1
  obtain ⟨k, gd, hro⟩ := c.gd
  obtain ⟨x0, env1, hx, hm⟩ := bind_ok hm
  obtain ⟨y0, env2, hy, hm⟩ := bind_ok hm
  have hab : alOk a b = true := by unfold alOk; rw [h3]; rfl
  split at hm
  · rename_i dx dy
    obtain ⟨ci, fs, gs, fid, bb, e1, e2, hd, hb1, em⟩ := cmpR_of h0 hm
    subst e1 e2 em
    obtain ⟨d1, d2, d3, d4⟩ := gd.dun _ _ _ hd
    have F := gd.run fid
    have hmr := (gd.insT ci).hm
    rw [← c.K] at F d1 d2 d4 hmr
    have fin : ∀ neg, (neg = isNeC o) → tOp (rOwn neg (L.cls ci) (spOf L (R.call fid))) (tE L R a) (tE L R b) σ H Q := fun neg hneg => by
      refine tE_two hab hE hx hy fun va vb H2 f2 t rx ry => ?_
      have rx := (rx _ rfl).inst
      have ry := (ry _ rfl).inst
      obtain ⟨aa, dx, vs, e1, e2⟩ := insD rx
      obtain ⟨ab, dy, ws, e3, e4⟩ := insD ry
      subst e1 e3
      refine ⟨aa, ab, dx, dy, vs, ws, rfl, rfl, e2, e4, own_bool (neg := neg) (xs := [.ins ci fs, .ins ci gs]) t ⟨rx, ry, trivial⟩ hb1 fun v H' f' fm p => ?_⟩
      subst hneg
      refine q _ v H' f' fm rfl ?_
      exact p
    cases o <;> first | cases h0 | skip
    · exact ⟨_, op_own_eq F (hro.mono (Nat.le_succ k)) d1 d2, ha.e C x h5 X c, hb.e C y h6 X c, noSet_bi h2, fin false rfl⟩
    · exact ⟨_, op_own_ne F hro d1 d2 d4 hmr, ha.e C x h5 X c, hb.e C y h6 X c, noSet_bi h2, fin true rfl⟩
  · cases hm
theorem snd_cmpd (o : C2) (a b : Ex) (ha : Snd L T R a) (hb : Snd L T R b) : Snd L T R (.cmpd o a b) := by
  refine ⟨fun C e h X c => ?_, fun C e h X c => ?_⟩
  · cases e with
    | Compare x ps ys pos =>
      match ps, ys, h with
      | [p], [y], h =>
        refine ⟨fun pins s σ H Q I ⟨g, f, env, m, env', hE, hm, q⟩ => ?_⟩
        obtain ⟨r, k1, k2, k3, k4, k5⟩ := cmpd_key o a b ha hb h c hE hm (Q := Q) fun _ v H' f' fm _ p => q v H' f' fm p
        exact (pe_cmpR k1 k2 k3 k4).run pins s σ H Q I k5
    | _ => cases h
  · cases e with
    | Compare x ps ys pos =>
      match ps, ys, h with
      | [p], [y], h =>
        refine ⟨fun pins s σ H Q I ⟨g, f, env, bv, env', hE, hm, q⟩ => ?_⟩
        have hm : ((ev R (.cmpd o a b)).e env).bind (fun x env => Rs.lift ((viewD x).bind truth) env) = .ok bv env' := hm
        obtain ⟨m, env1, hm, hm2⟩ := bind_ok hm
        obtain ⟨hm3, e1⟩ := lift_ok hm2
        subst e1
        obtain ⟨r, k1, k2, k3, k4, k5⟩ := cmpd_key o a b ha hb h c hE hm (Q := fun v H' => ∃ k, v = .bl k ∧ Q k H') fun bb v H' f' fm em p => by
          subst em
          cases hm3
          exact ⟨_, p.rep.2, q H' f' p.tst⟩
        exact (pt_cmpR k1 k2 k3 k4).run pins s σ H Q I k5
    | _ => cases h
theorem snd_bid (b : Bi) (a : Ex) (ha : Snd L T R a) : Snd L T R (.bid b a) := by
  have hE : ∀ C e, (ck T (.bid b a)).e C e = true → ∀ X, Cok L T R C X → PE X e (tE L R (.bid b a)) := by
    intro C e h X c
    cases e with
    | Call fe es ks pos =>
      cases fe with
      | Name n p =>
        match es, ks, h with
        | [x], [], h =>
          have h : (bidN b n && glB C n && noStar x && !isAl a && (ck T a).e C x) = true := h
          simp only [Bool.and_eq_true, Bool.not_eq_true'] at h
          obtain ⟨⟨⟨⟨h1, h2⟩, h3⟩, h4⟩, h5⟩ := h
          obtain ⟨h2, h2'⟩ := gl_of c h2
          obtain ⟨k, gd, hro⟩ := c.gd
          refine ⟨fun pins s σ H Q I ⟨g, f, env, m, env', hE, hm, q⟩ => ?_⟩
          obtain ⟨x0, env1, hx0, hm⟩ := bind_ok hm
          split at hm
          · rename_i d
            cases b <;> first | cases h1 | skip
            · have h1 : n = "len" := of_decide_eq_true h1
              subst h1
              cases d <;> first | cases hm | skip
              rename_i ci fs
              unfold bidR at hm
              cases hd : R.dun ci 1 with
              | none => simp only [hd] at hm; cases hm
              | some fid =>
                simp only [hd] at hm
                obtain ⟨m1, env2, hm1, hm⟩ := bind_ok hm
                split at hm
                · rename_i nn
                  split at hm
                  · rename_i hnn
                    cases hm
                    obtain ⟨d1, d2, d3, d4⟩ := gd.dun _ _ _ hd
                    have F := gd.run fid
                    rw [← c.K] at F d1 d2
                    refine (pe_biA (.b _) PySem.boot_len (call_len_own F hro d1 d2) h2 (gd.free _ (by simp [biNames])) (pa_cons (ha.e C x h5 X c) pa_nil (star_cons h3)) (by show (noStar x && true) = true; rw [h3]; rfl) (by decide) h2').run pins s σ H Q I ?_
                    refine tE_one hE hx0 fun va H1 f1 t r => ?_
                    have r := (r _ rfl).inst
                    obtain ⟨aa, dx, vs, e1, e2⟩ := insD r
                    subst e1
                    exact ⟨aa, dx, vs, rfl, e2, callV_rd (xs := [.ins ci fs]) t ⟨r, trivial⟩ hm1 fun v H' f' fm p => ⟨nn, p.rep.2, hnn.1, hnn.2, q _ H' f' [] (p.tst.pure rfl)⟩⟩
                  · cases hm
                · cases hm
            · have h1 : n = "repr" := of_decide_eq_true h1
              subst h1
              cases d <;> first | cases hm | skip
              rename_i ci fs
              unfold bidR at hm
              cases hd : R.dun ci 3 with
              | none => simp only [hd] at hm; cases hm
              | some fid =>
                simp only [hd] at hm
                obtain ⟨m1, env2, hm1, hm⟩ := bind_ok hm
                split at hm
                · rename_i xx
                  cases hm
                  obtain ⟨d1, d2, d3, d4⟩ := gd.dun _ _ _ hd
                  have F := gd.run fid
                  rw [← c.K] at F d1 d2
                  refine (pe_biA (.b _) (by decide +kernel : bootBuiltins "repr" = some (.builtin "repr")) (call_repr_own F hro d1 d2) h2 (gd.free _ (by simp [biNames])) (pa_cons (ha.e C x h5 X c) pa_nil (star_cons h3)) (by show (noStar x && true) = true; rw [h3]; rfl) (by decide) h2').run pins s σ H Q I ?_
                  refine tE_one hE hx0 fun va H1 f1 t r => ?_
                  have r := (r _ rfl).inst
                  obtain ⟨aa, dx, vs, e1, e2⟩ := insD r
                  subst e1
                  exact ⟨aa, dx, vs, rfl, e2, callV_rd (xs := [.ins ci fs]) t ⟨r, trivial⟩ hm1 fun v H' f' fm p => ⟨mkS xx, p.rep.2, q _ H' f' [] (p.tst.pure rfl)⟩⟩
                · cases hm
          · cases hm
      | _ => cases h
    | _ => cases h
  refine ⟨hE, fun C e h X c => ?_⟩
  refine pt_plain c (hE C e h X c) rfl ?_
  cases e with
  | Call _ _ _ _ => exact fun _ => rfl
  | _ => cases h
end
end FB

set_option Elab.async false
set_option linter.all false
set_option maxRecDepth 10000
/-! FbAll: all forms together. -/
namespace FB
open PySem PySem.Spec PyProof.Rows L2 StX
section
variable {L : Lk} {T : Tx} {R : Rt}
structure Alls (L : Lk) (T : Tx) (R : Rt) (x : Ex) : Prop where
  e : Snd L T R x
  l : SndL L T R x
  i : SndI L T R x
  k : SndK L T R x
theorem k_off {x : Ex} (h : ∀ C ks, (ck T x).k C ks = false) : SndK L T R x := ⟨fun C ks k => (by rw [h] at k; cases k)⟩
theorem e_off {x : Ex} (h : ∀ C e, (ck T x).e C e = false) : Snd L T R x := ⟨fun C e k => (by rw [h] at k; cases k), fun C e k => (by rw [h] at k; cases k)⟩
theorem l_off {x : Ex} (h : ∀ C es, (ck T x).l C es = false) : SndL L T R x := ⟨fun C es k => (by rw [h] at k; cases k)⟩
theorem i_off {x : Ex} (h : ∀ C t e, (ck T x).i C t e = false) : SndI L T R x := ⟨fun C t e k => (by rw [h] at k; cases k), fun _ C t e k => (by rw [h] at k; cases k)⟩
theorem all_plain {x : Ex} (h : Snd L T R x) (hp : plainI x = true) (ha : isAl x = false) (hk : ∀ C tg e, (ck T x).i C tg e = (noSet e && (ck T x).e C e)) (hl : ∀ C es, (ck T x).l C es = false) (hkw : ∀ C ks, (ck T x).k C ks = false := by intros; rfl) : Alls L T R x := ⟨h, l_off hl, sndi_plain h hp ha hk, k_off hkw⟩
theorem all_off {x : Ex} (h : ∀ C e, (ck T x).e C e = false) (hl : ∀ C es, (ck T x).l C es = false) (hi : ∀ C t e, (ck T x).i C t e = false) (hkw : ∀ C ks, (ck T x).k C ks = false := by intros; rfl) : Alls L T R x := ⟨e_off h, l_off hl, i_off hi, k_off hkw⟩
theorem alls : ∀ x : Ex, Alls L T R x
  | .var i => all_plain (snd_var i) rfl rfl (fun _ _ _ => rfl) (fun _ _ => rfl)
  | .mv i => all_plain (snd_mv i) rfl rfl (fun _ _ _ => rfl) (fun _ _ => rfl)
  | .bor i => ⟨e_off fun _ _ => rfl, l_off fun _ _ => rfl, sndi_bor i, k_off fun _ _ => rfl⟩
  | .pl i ps => ⟨snd_pl i ps, l_off fun _ _ => rfl, i_off fun _ _ _ => rfl, k_off fun _ _ => rfl⟩
  | .plv i ps => all_plain (snd_plv i ps) rfl rfl (fun _ _ _ => rfl) (fun _ _ => rfl)
  | .int n => all_plain (snd_int n) rfl rfl (fun _ _ _ => rfl) (fun _ _ => rfl)
  | .str x => all_plain (snd_str x) rfl rfl (fun _ _ _ => rfl) (fun _ _ => rfl)
  | .bl b => all_plain (snd_bl b) rfl rfl (fun _ _ _ => rfl) (fun _ _ => rfl)
  | .non => all_plain snd_non rfl rfl (fun _ _ _ => rfl) (fun _ _ => rfl)
  | .glb g => all_plain (snd_glb g) rfl rfl (fun _ _ _ => rfl) (fun _ _ => rfl)
  | .cls c => all_plain (snd_cls c) rfl rfl (fun _ _ _ => rfl) (fun _ _ => rfl)
  | .op2 mu o a b => all_plain (snd_op2 mu o a b (alls a).e (alls b).e) rfl rfl (fun _ _ _ => rfl) (fun _ _ => rfl)
  | .neg a => all_plain (snd_neg a (alls a).e) rfl rfl (fun _ _ _ => rfl) (fun _ _ => rfl)
  | .not a => all_plain (snd_not a (alls a).e) rfl rfl (fun _ _ _ => rfl) (fun _ _ => rfl)
  | .and a b => all_plain (snd_and a b (alls a).e (alls b).e) rfl rfl (fun _ _ _ => rfl) (fun _ _ => rfl)
  | .or a b => all_plain (snd_or a b (alls a).e (alls b).e) rfl rfl (fun _ _ _ => rfl) (fun _ _ => rfl)
  | .ite c a b => all_plain (snd_ite c a b (alls c).e (alls a).e (alls b).e) rfl rfl (fun _ _ _ => rfl) (fun _ _ => rfl)
  | .cmp o a b => all_plain (snd_cmp o a b (alls a).e (alls b).e) rfl rfl (fun _ _ _ => rfl) (fun _ _ => rfl)
  | .cmpd o a b => all_plain (snd_cmpd o a b (alls a).e (alls b).e) rfl rfl (fun _ _ _ => rfl) (fun _ _ => rfl)
  | .chain o o' a b c => all_plain (snd_chain o o' a b c (alls a).e (alls b).e (alls c).e) rfl rfl (fun _ _ _ => rfl) (fun _ _ => rfl)
  | .bid b a => all_plain (snd_bid b a (alls a).e) rfl rfl (fun _ _ _ => rfl) (fun _ _ => rfl)
  | .bi mu b a => all_plain (snd_bi mu b a (alls a).e) rfl rfl (fun _ _ _ => rfl) (fun _ _ => rfl)
  | .bi2 mu b a c => all_plain (snd_bi2 mu b a c (alls a).e (alls c).e) rfl rfl (fun _ _ _ => rfl) (fun _ _ => rfl)
  | .bm _ _ _ _ => all_off (fun _ _ => rfl) (fun _ _ => rfl) (fun _ _ _ => rfl)
  | .bm2 _ _ _ _ _ => all_off (fun _ _ => rfl) (fun _ _ => rfl) (fun _ _ _ => rfl)
  | .isi c a => all_plain (snd_isi c a (alls a).e) rfl rfl (fun _ _ _ => rfl) (fun _ _ => rfl)
  | .isb k a => all_plain (snd_isb k a (alls a).e) rfl rfl (fun _ _ _ => rfl) (fun _ _ => rfl)
  | .tup es => all_plain (snd_tup es (alls es).l) rfl rfl (fun _ _ _ => rfl) (fun _ _ => rfl)
  | .lst mu es => all_plain (snd_lst mu es (alls es).l) rfl rfl (fun _ _ _ => rfl) (fun _ _ => rfl)
  | .ix a b => all_plain (snd_ix a b (alls a).e (alls b).e) rfl rfl (fun _ _ _ => rfl) (fun _ _ => rfl)
  | .sl mu a b c => all_plain (snd_sl mu a b c (alls a).e (alls b).e (alls c).e) rfl rfl (fun _ _ _ => rfl) (fun _ _ => rfl)
  | .rev _ _ => all_off (fun _ _ => rfl) (fun _ _ => rfl) (fun _ _ _ => rfl)
  | .fld f a => all_plain (snd_fld f a (alls a).e) rfl rfl (fun _ _ _ => rfl) (fun _ _ => rfl)
  | .call f a => all_plain (snd_call f a (alls a).l) rfl rfl (fun _ _ _ => rfl) (fun _ _ => rfl)
  | .meth m r a => all_plain (snd_meth m r a (alls r).e (alls a).l) rfl rfl (fun _ _ _ => rfl) (fun _ _ => rfl)
  | .cmeth _ _ _ => all_off (fun _ _ => rfl) (fun _ _ => rfl) (fun _ _ _ => rfl)
  | .new mu c a => all_plain (snd_new mu c a (alls a).l) rfl rfl (fun _ _ _ => rfl) (fun _ _ => rfl)
  | .lc mu it tg k e => all_plain (snd_lc mu it tg k e (alls it).i (alls k).e (alls e).e) rfl rfl (fun _ _ _ => rfl) (fun _ _ => rfl)
  | .lc2 _ _ _ _ _ _ _ => all_off (fun _ _ => rfl) (fun _ _ => rfl) (fun _ _ _ => rfl)
  | .dc _ _ _ _ _ => all_off (fun _ _ => rfl) (fun _ _ => rfl) (fun _ _ _ => rfl)
  | .fstr _ => all_off (fun _ _ => rfl) (fun _ _ => rfl) (fun _ _ _ => rfl)
  | .pop i ps => all_plain (snd_pop i ps) rfl rfl (fun _ _ _ => rfl) (fun _ _ => rfl)
  | .popAt i ps a => all_plain (snd_popAt i ps a (alls a).e) rfl rfl (fun _ _ _ => rfl) (fun _ _ => rfl)
  | .nil => ⟨e_off fun _ _ => rfl, sndl_nil, i_off fun _ _ _ => rfl, sndk_nil⟩
  | .cons a b => ⟨e_off fun _ _ => rfl, sndl_cons a b (alls a).e (alls b).l, i_off fun _ _ _ => rfl, sndk_cons a b (alls a).e (alls b).k⟩
  | .rng1 a => ⟨e_off fun _ _ => rfl, l_off fun _ _ => rfl, sndi_rng1 a (alls a).e, k_off fun _ _ => rfl⟩
  | .rng2 a b => ⟨e_off fun _ _ => rfl, l_off fun _ _ => rfl, sndi_rng2 a b (alls a).e (alls b).e, k_off fun _ _ => rfl⟩
  | .callk p a b => all_plain (snd_callk p a b (alls a).l (alls b).k) rfl rfl (fun _ _ _ => rfl) (fun _ _ => rfl)
  | .methk m p r a b => all_plain (snd_methk m p r a b (alls r).e (alls a).l (alls b).k) rfl rfl (fun _ _ _ => rfl) (fun _ _ => rfl)
  | .newk _ _ _ _ _ => all_off (fun _ _ => rfl) (fun _ _ => rfl) (fun _ _ _ => rfl)
  | .meths _ _ _ => all_off (fun _ _ => rfl) (fun _ _ => rfl) (fun _ _ _ => rfl)
  | .newv _ _ _ => all_off (fun _ _ => rfl) (fun _ _ => rfl) (fun _ _ _ => rfl)
  | .sss mu it tg e => all_plain (snd_sss mu it tg e (alls it).i (alls e).e) rfl rfl (fun _ _ _ => rfl) (fun _ _ => rfl)
  | .fz a => all_plain (snd_fz a (alls a).e) rfl rfl (fun _ _ _ => rfl) (fun _ _ => rfl)
  | .frp i ps => all_plain (snd_frp i ps) rfl rfl (fun _ _ _ => rfl) (fun _ _ => rfl)
  | .rng3 _ _ _ => all_off (fun _ _ => rfl) (fun _ _ => rfl) (fun _ _ _ => rfl)
  | .zip a b => ⟨e_off fun _ _ => rfl, l_off fun _ _ => rfl, sndi_zip a b (alls a).i (alls b).i, k_off fun _ _ => rfl⟩
  | .enum a => ⟨e_off fun _ _ => rfl, l_off fun _ _ => rfl, sndi_enum a (alls a).i, k_off fun _ _ => rfl⟩
theorem s_off {x : Sx} (h : ∀ C s, (ckS T x).s C s = false) (hb : ∀ C s, (ckS T x).b C s = false) : SndS L T R x := ⟨fun C s k => (by rw [h] at k; cases k), fun C s k => (by rw [hb] at k; cases k)⟩
/-- where an exception is raised the evaluator is stuck -/
theorem snds_raise (e : Ex) : SndS L T R (.raise e) :=
  ⟨fun C st h X c => ⟨fun pins s σ H D I ⟨_, _, _, _, q⟩ => False.elim q⟩, fun C sts h X c => (by cases h)⟩
theorem allS : ∀ x : Sx, SndS L T R x
  | .skip => snds_skip
  | .seq a b => snds_seq a b (allS a) (allS b)
  | .set i e => snds_set i e (alls e).e fun mu it tg k x h => ⟨(alls it).i, (alls k).e, (alls x).e⟩
  | .setT is e => snds_setT is e (alls e).e
  | .aug mu o i e => snds_aug mu o i e (alls e).e
  | .par i j a b => snds_par i j a b (alls a).e (alls b).e
  | .app i ps e => snds_app i ps e (alls e).e
  | .setx i ps k e => snds_setx i ps k e (alls k).e (alls e).e
  | .setf i ps f e => snds_setf i ps f e (alls e).e
  | .clr _ _ => s_off (fun _ _ => rfl) fun _ _ => rfl
  | .ex e => snds_ex e (alls e).e
  | .ret e => snds_ret e (alls e).e
  | .ret0 => snds_ret0
  | .ite c a b => snds_ite c a b (alls c).e (allS a) (allS b)
  | .wh c a => snds_wh c a (alls c).e (allS a)
  | .for it tg a => snds_for it tg a (alls it).i (allS a)
  | .raise e => snds_raise e
  | .cont => snds_cont
  | .brk => snds_brk
end
end FB

set_option Elab.async false
set_option linter.all false
set_option maxRecDepth 10000
/-! FbFn: a def keeps what the evaluator says. -/
namespace FB
open PySem PySem.Spec PyProof.Rows L2 StX
section
variable {L : Lk} {T : Tx} {R : Rt}
variable {g f f1 f2 : List Addr} {H H1 H2 H' : Hp} {env env1 env2 : En} {σ σ1 σ2 : L2.St} {O O' : List Addr}
theorem back_p {as : List Nat} : ∀ {vs : List V} {k : Nat} {env : En} {σ : L2.St} {f : List Addr}, RepO L O H env σ f → vs.length ≤ σ.length → (∀ j v, vs[j]? = some v → k + j ∉ as → σ[j]? = some (some v)) →
    ∃ f', f'.Sublist f ∧ RepO L O H (backP as k (env.take vs.length)) (vs.map some) f'
  | [], k, env, σ, f, r, _, _ => ⟨[], List.nil_sublist _, rfl⟩
  | v :: vs, k, [], [], f, r, l, _ => by simp at l
  | v :: vs, k, none :: es, u :: us, f, r, l, h => by
    obtain ⟨f', s, q⟩ := back_p (as := as) (vs := vs) (k := k + 1) (env := es) (σ := us) r (by simpa using l) fun j w hj hn => by
      have := h (j + 1) w (by simpa using hj) (by rw [show k + (j + 1) = k + 1 + j by omega]; exact hn)
      simpa using this
    refine ⟨f', s, ?_⟩
    show RepO L O H ((if as.contains k then none else none) :: backP as (k + 1) (es.take vs.length)) (some v :: vs.map some) f'
    rw [ite_self]
    exact q
  | v :: vs, k, some m :: es, u :: us, f, ⟨v', f1, f2, e1, e2, r, q⟩, l, h => by
    obtain ⟨f', s, q'⟩ := back_p (as := as) (vs := vs) (k := k + 1) q (by simpa using l) fun j w hj hn => by
      have := h (j + 1) w (by simpa using hj) (by rw [show k + (j + 1) = k + 1 + j by omega]; exact hn)
      simpa using this
    by_cases hk : as.contains k = true
    · refine ⟨f', e2 ▸ (s.trans (List.sublist_append_right f1 f2)), ?_⟩
      show RepO L O H ((if as.contains k then none else some m) :: backP as (k + 1) (es.take vs.length)) (some v :: vs.map some) f'
      rw [if_pos hk]
      exact q'
    · have hv := h 0 v rfl (by simpa using hk)
      have hv : u = some v := by simpa using hv
      rw [e1] at hv
      cases hv
      refine ⟨f1 ++ f', e2 ▸ s.append_left f1, ?_⟩
      show RepO L O H ((if as.contains k then none else some m) :: backP as (k + 1) (es.take vs.length)) (some v :: vs.map some) (f1 ++ f')
      rw [if_neg hk]
      exact ⟨_, f1, f', rfl, rfl, r, q'⟩
theorem repO_app {f : List Addr} {n : Nat} : ∀ {env : En} {σ : L2.St} {f : List Addr}, RepO L O H env σ f → RepO L O H (env ++ List.replicate n none) (σ ++ List.replicate n none) f
  | [], [], f, h => by
    have h : f = [] := h
    subst h
    induction n with
    | zero => rfl
    | succ n ih => exact ih
  | none :: ms, _ :: vs, f, h => repO_app (env := ms) (σ := vs) (f := f) h
  | some m :: ms, u :: vs, f, ⟨v, f1, f2, e, ef, r, q⟩ => ⟨v, f1, f2, e, ef, r, repO_app (f := f) q⟩
/-- the ends of a body -/
theorem body_ends {as : List Nat} {o : Out} {vs : List V} {ms : List M} {n : Nat} {Q : VK} {D : Ends} {σ0 : L2.St} (h0 : σ0 = vs.map some ++ List.replicate n none) (hl : ms.length = vs.length) (hD : D = { nx := fun _ H' => Q .non H', rt := Q })
    {m : M} {ms' : List (Option M)} (ho : (match o with
      | .rt m env => Cr.ok m (backP as 0 (env.take ms.length))
      | .nx env => .ok (.pure .non) (backP as 0 (env.take ms.length))
      | .ex x _ => .ex x
      | _ => .no) = .ok m ms')
    (q : ∀ v H' f' fm, Pst L false false g f H (ms.map some) m ms' (vs.map some) v H' f' fm → Q v H') : EndS L g f H σ0 as o D := by
  subst hD
  have bk : ∀ {env : En} {σ' : L2.St} {f' fm : List Addr} {H' : Hp}, EnvOk L (g ++ fm) H' env σ' f' → (∀ j, j ∉ as → σ'[j]? = σ0[j]?) → σ'.length = σ0.length → ∃ f'', f''.Sublist f' ∧ EnvOk L (g ++ fm) H' (backP as 0 (env.take ms.length)) (vs.map some) f'' := by
    intro env σ' f' fm H' ok sig len
    obtain ⟨f'', s, r⟩ := back_p (as := as) (vs := vs) (k := 0) ok.rep (by rw [len, h0]; simp) fun j v hj hn => by
      rw [sig j (by simpa using hn), h0]
      have hjl : j < vs.length := (List.getElem?_eq_some_iff.mp hj).1
      rw [List.getElem?_append_left (by simpa using hjl)]
      simp [hj]
    rw [hl]
    exact ⟨f'', s, ok.nd.sublist (s.append_left _), ok.tr, r.mv (Mv.less fun a ha => (List.mem_append.mp ha).elim (List.mem_append_left _) fun z => List.mem_append_right _ (s.subset z)) fun _ _ _ e => e⟩
  cases o with
  | nx env =>
    cases ho
    intro σ' H' f' t
    obtain ⟨f'', s, ok⟩ := bk (fm := []) (by simpa using t.ok) t.sig t.len
    exact q .non H' f'' [] (Pst.pureD (by simpa using ok) t.st (fun a ha => t.nf a (s.subset ha)) rfl fun z => (nomatch z))
  | rt m0 env =>
    cases ho
    intro v σ' H' f' fm t
    obtain ⟨f'', s, ok⟩ := bk t.ok t.sig t.len
    exact q v H' f'' fm ⟨ok, t.st, fun a ha => t.nf a (s.subset ha), t.nm, t.rep.mv (Mv.less fun a ha => (List.mem_append.mp ha).elim (List.mem_append_left _) fun z => List.mem_append_right _ (s.subset z)) fun _ _ _ e => e, fun z => (nomatch z), fun z => (nomatch z)⟩
  | bk _ => cases ho
  | ct _ => cases ho
  | ex _ _ => cases ho
  | no => cases ho
end
section
variable {L : Lk} {O : List Addr} {H : Hp}
theorem repO_none : ∀ (us : L2.St), RepO L O H (List.replicate us.length none) us []
  | [] => rfl
  | _ :: us => repO_none us
theorem repO_head {a : Option M} {r : En} {u : Option V} {us us' : L2.St} {f : List Addr} (h : RepO L O H (a :: r) (u :: us) f) : ∃ f'', f''.Sublist f ∧ RepO L O H (a :: List.replicate us'.length none) (u :: us') f'' := by
  cases a with
  | none => exact ⟨[], List.nil_sublist _, repO_none us'⟩
  | some m =>
    obtain ⟨v, f1, f2, eu, ef, rm, _⟩ := h
    exact ⟨f1, ef ▸ List.sublist_append_left _ _, v, f1, [], eu, by simp, rm, repO_none us'⟩
end
/-- what is known of a def of the text -/
structure FnD (L : Lk) (T : Tx) (d : Fn) (N ps : List Str) (scope : Scope) (body : List Stmt) : Prop where
  np : d.np = ps.length
  n : d.n = N.length
  le : ps.length ≤ N.length
  ck : (ckS T d.body).b ⟨N, scope, fun _ => true⟩ body = true
  S : FnScope N ps scope
/-- a def's promise over its parameters -/
def spB (L : Lk) (rb : List M → Cr) : Sp := spOf L rb
theorem body_ok {L : Lk} {T : Tx} {R : Rt} {prog : Program} {w : World} {mg : Str → Option Value} {base : Heap} {kk : Nat} {d : Fn} {fa : Addr} {qual : Str} {body : List Stmt} {scope : Scope} {cdv : Value} {N ps : List Str}
    (F : FnD L T d N ps scope body) (nm : L.nm = T.nm) (G : Gd L T R prog w mg base kk) (A : Around) (outer : List Env) (s : Shared) (H : Hp) (vs : List V) (Q : VK) (E : XK) (hro : Room (kk + 1) (A.deeper (envOfC qual scope s.heap.objs.size fa cdv)))
    {g f : List Addr} {ms : List M} {m : M} {ms' : List (Option M)} (hz : ms.length = d.np) (hE : EnvOk L g H (ms.map some) (vs.map some) f) (hr : runB d (exec R d.body) ms ms.length = .ok m ms')
    (q : ∀ v H' f' fm, Pst L false false g f H (ms.map some) m ms' (vs.map some) v H' f' fm → Q v H') :
    ∃ t, PSs (cxOf CX0 prog w L.K mg base N qual scope fa cdv A outer s H E) body t ∧ t { nx := fun _ H' => Q .non H', rt := Q } (L2.start N vs) H := by
  have hml : ms.length = vs.length := by
    have := hE.len
    simpa using this
  have hvl : vs.length = ps.length := by rw [← hml, hz, F.np]
  have c : CokS L T R ⟨N, scope, fun _ => true⟩ (cxOf CX0 prog w L.K mg base N qual scope fa cdv A outer s H E) :=
    { N := rfl, sc := rfl, fn := rfl, calm := rfl, nd := F.S.nd, K := rfl, nm := nm, gd := ⟨kk, G, hro⟩, po := passes_of (X := cxOf CX0 prog w L.K mg base N qual scope fa cdv A outer s H E) rfl }
  refine ⟨_, (allS d.body).b _ body F.ck _ c, g, f, ms.map some ++ List.replicate (d.n - d.np) none, ⟨hE.nd, hE.tr, ?_⟩, ?_⟩
  · have : L2.start N vs = vs.map some ++ List.replicate (d.n - d.np) none := by
      unfold L2.start
      rw [F.n, F.np, hvl]
    rw [this]
    exact repO_app (f := []) hE.rep
  · refine body_ends (ms := ms) (m := m) (ms' := ms') (n := d.n - d.np) (vs := vs) ?_ hml rfl ?_ q
    · unfold L2.start
      rw [F.n, F.np, hvl]
    · exact hr
theorem runFn_pl {d : Fn} {x : En → Out} {ms : List M} {m : M} {ms' : List (Option M)} (hs : d.star = false) (h : runFn d x ms = .ok m ms') : ms.length = d.np ∧ runB d x ms ms.length = .ok m ms' := by
  unfold runFn at h
  rw [hs] at h
  simp only [Bool.false_eq_true, if_false] at h
  split at h
  · rename_i hz
    exact ⟨hz, h⟩
  · cases h
theorem run_succ {P : Pg} {k fid : Nat} {d : Fn} (hd : P.fn fid = some d) (ms : List M) : run P (k + 1) fid ms = runFn d (exec (P.rt k) d.body) ms := by
  show (match P.fn fid with
    | some d => runFn d (exec (P.rt k) d.body) ms
    | none => .no) = _
  rw [hd]
/-- a def without star parameter keeps what the evaluator says -/
theorem fn_sound {L : Lk} {T : Tx} {P : Pg} {prog : Program} {w : World} {mg : Str → Option Value} {base : Heap} {k kk : Nat} {fid : Nat} {d : Fn} {fa : Addr} {fd : FuncData} {x qual : Str} {params : Arguments} {body : List Stmt} {scope : Scope} {dvs : List V} {kws : List (Str × V)} {N ps : List Str}
    (hd : P.fn fid = some d) (hs : d.star = false) (Fd : FunD L.K x qual params body scope dvs kws fa fd) (F : FnD L T d N ps scope body) (nm : L.nm = T.nm) (G : Gd L T (P.rt k) prog w mg base kk) :
    FnOk prog w L.K mg base CX0 (kk + 2) fa fd ps (spOf L (run P (k + 1) fid)) := by
  refine Fd.ok F.S (fun vs H Q E ⟨g, f, ms, m, ms', hE, hr, q⟩ => ?_) fun cdv A outer s H vs Q E hro ⟨g, f, ms, m, ms', hE, hr, q⟩ => ?_
  · rw [run_succ hd] at hr
    have := hE.len
    simp only [List.length_map] at this
    rw [← this, (runFn_pl hs hr).1, F.np]
  · rw [run_succ hd] at hr
    obtain ⟨h1, h2⟩ := runFn_pl hs hr
    exact body_ok F nm G A outer s H vs Q E hro h1 hE h2 q
/-- .. with one: f(a, *r) -/
theorem fn_star {L : Lk} {T : Tx} {P : Pg} {prog : Program} {w : World} {mg : Str → Option Value} {base : Heap} {k kk : Nat} {fid : Nat} {d : Fn} {fa : Addr} {fd : FuncData} {x qual : Str} {params : Arguments} {body : List Stmt} {scope : Scope} {dvs : List V} {kws : List (Str × V)} {N : List Str} {pa pv : Str}
    (hd : P.fn fid = some d) (hs : d.star = true) (Fd : FunD L.K x qual params body scope [] [] fa fd) (F : FnD L T d N [pa, pv] scope body)
    (hb : ∀ (dV kV doc pm : Value) (an : Option Addr) (cdv ct : Value) (u : Value) (rest : List Value), dV = .none → rest.length ≤ 5 → bindArgs (PySem.W.fnOf x qual params body scope dV kV doc pm an cdv ct) ⟨u :: rest, []⟩ = (newTuple rest >>= fun t => pure [(pa, u), (pv, t)]))
    (nm : L.nm = T.nm) (G : Gd L T (P.rt k) prog w mg base kk) : FnR prog w L.K mg base CX0 (kk + 2) fa (spOf L (run P (k + 1) fid)) := by
  obtain ⟨oc, od, dV, kV, doc, pm, an, cdv, ct, osl, efd, lk, hcd, hD, _⟩ := Fd.ex
  have hdV : dV = .none := by
    rcases hD with ⟨_, e⟩ | ⟨e, _⟩
    · exact e
    · exact absurd rfl e
  rw [efd] at lk
  have hnp : d.np = 2 := F.np
  refine FnR.imp (fn_ofV (k := kk + 1) (nmax := 5) (sp := spOf L fun ps => if ps.length = 2 then runB d (exec (P.rt k) d.body) ps 2 else .no) lk hcd F.S (by rw [PySem.sizeLine_eq]; decide) (fun u rest hl => hb dV kV doc pm an cdv ct u rest hdV hl) (fun _ _ _ _ _ _ _ _ _ _ _ _ z => z) ?_) ?_
  · intro A outer s H vs Q E hro ⟨g, f, ms, m, ms', hE, hr, q⟩
    replace hr : (if ms.length = 2 then runB d (exec (P.rt k) d.body) ms 2 else .no) = .ok m ms' := hr
    split at hr
    · rename_i h2
      exact body_ok F nm G A outer s H vs Q E hro (h2.trans hnp.symm) hE (by rw [h2]; exact hr) q
    · cases hr
  · intro vs H Q E ⟨g, f, ms, m, ms', hE, hr, q⟩
    rw [run_succ hd] at hr
    unfold runFn at hr
    rw [hs] at hr
    simp only [if_true] at hr
    cases ms with
    | nil => cases hr
    | cons m0 rest =>
      cases vs with
      | nil => exact absurd hE.len (by simp)
      | cons v vrest =>
        simp only at hr
        split at hr
        · rename_i hz
          have hlen : rest.length = vrest.length := by
            have := hE.len
            simpa using this
          cases hrb : runB d (exec (P.rt k) d.body) [m0, .pure (.tup (M.frzs rest))] 2 with
          | ex _ => rw [hrb] at hr; cases hr
          | no => rw [hrb] at hr; cases hr
          | ok m1 ms2 =>
            rw [hrb] at hr
            cases hr
            obtain ⟨v', f1, f2, ev, ef, rm, ro⟩ := hE.rep
            cases ev
            subst ef
            refine ⟨v, vrest, rfl, by rw [← hlen]; exact hz.2, fun p np => ?_⟩
            have rms := repO_ms ro
            have nd := hE.nd
            rw [← List.append_assoc] at nd
            have sub : ∀ a, a ∈ g ++ f1 → a ∈ g ++ (f1 ++ f2) := fun a ha => by
              rw [← List.append_assoc]; exact List.mem_append_left _ ha
            have rds : RepDs L (g ++ f1) H (M.frzs rest) vrest := rms.frz sub fun a ha m => (List.nodup_append.mp nd).2.2 a m a ha rfl
            have npO : p ∉ g ++ f1 := fun m => by
              obtain ⟨o, e⟩ := hE.trf p (sub p m)
              rw [np] at e; cases e
            have mvp : Mv (g ++ (f1 ++ f2)) (g ++ f1) H (upd H p (.tup vrest)) := ⟨fun a o _ e => new_same np a o e, fun a m n => absurd (sub a m) n⟩
            have ok2 : EnvOk L g (upd H p (.tup vrest)) [some m0, some (.pure (.tup (M.frzs rest)))] [some v, some (.ref p)] f1 :=
              ⟨(List.nodup_append.mp nd).1, fun a ha => let ⟨o, e⟩ := hE.tr a ha; ⟨o, new_same np a o e⟩, v, f1, [], rfl, by simp, rm.mv mvp fun a o _ e => new_same np a o e, .ref p, [], [], rfl, rfl, ⟨rfl, p, vrest, rfl, .inl ⟨npO, .inl upd_same⟩, rds.new np⟩, rfl⟩
            refine ⟨g, f1, [m0, .pure (.tup (M.frzs rest))], m, ms2, ok2, ?_, fun v2 H' f' fm pp => ?_⟩
            · show (if (2 : Nat) = 2 then _ else _) = _
              rw [if_pos rfl]; exact hrb
            have up : ∀ a o, H a = some o → a ∉ f1 ++ f2 → H' a = some o := fun a o e n => pp.st a o (new_same np a o e) fun z => n (List.mem_append_left _ z)
            have nw : ∀ a, a ∈ f1 ∨ upd H p (.tup vrest) a = none → a ∈ f1 ++ f2 ∨ H a = none := fun a h => by
              rcases h with z | z
              · exact .inl (List.mem_append_left _ z)
              · refine .inr ?_
                cases qq : H a with
                | none => rfl
                | some o => rw [new_same np a o qq] at z; cases z
            have okp : EnvOk L (g ++ fm) H' ms2 [some v, some (.ref p)] f' := pp.ok
            cases ms2 with
            | nil => exact absurd okp.len (by simp)
            | cons a r =>
              obtain ⟨f'', s'', r''⟩ := repO_head (us' := vrest.map some) okp.rep
              refine q v2 H' f'' fm ⟨⟨okp.nd.sublist (s''.append_left _), okp.tr, ?_⟩, up, fun c hc => nw c (pp.nf c (s''.subset hc)), fun c hc => nw c (pp.nm c hc), pp.rep.mv (Mv.less fun c hc => ?_) fun _ _ _ e => e, fun z => (nomatch z), fun z => (nomatch z)⟩
              · have e1 : (vrest.map some).length = rest.length := by simp [hlen]
                rw [e1] at r''
                exact r''.mv (Mv.less fun c hc => (List.mem_append.mp hc).elim (List.mem_append_left _) fun z => List.mem_append_right _ (s''.subset z)) fun _ _ _ e => e
              · exact (List.mem_append.mp hc).elim (List.mem_append_left _) fun z => List.mem_append_right _ (s''.subset z)
        · cases hr
end FB

set_option Elab.async false
set_option linter.all false
set_option maxRecDepth 10000
/-! FbGd: all defs of a text, at every depth. -/
namespace FB
open PySem PySem.Spec PyProof.Rows L2 StX
theorem FnK.of {P : Program} {w : World} {K : PySem.W.Frag} {mg : Str → Option Value} {base : Heap} {k n : Nat} {f : Addr} {fd : FuncData} {ps ks : List Str} {sp : Sp} {bs : List (Sum Nat D)} {g : List Value → List Value → List Value} {gV : List V → List V → List V}
    (F : FnOk P w K mg base CX0 k f fd ps sp) (hb : KBn K fd ps n ks g gV) (hg : ∀ vs zs us, vs.length = n → zs.length = ks.length → fillV (vs ++ zs) bs = some us → gV vs zs = us) :
    FnK P w K mg base k f n ks (fun all H Q E => ∃ us, fillV all bs = some us ∧ sp us H Q E) := by
  intro A outer s H us ws vs zs Q E hr e0 r rz l1 l2 ⟨uu, e, h⟩
  have KX : K.In s.heap := e0.mod.kin.keeps fun b o e => (e0.bs b o e).1
  exact F.run A outer s H ⟨us, ks.zip ws⟩ (g us ws) (gV vs zs) Q E hr e0 (hb.to s us ws KX l1 l2) (hb.rel r rz) (by rw [hg _ _ _ (r.length.trans l1) (rz.length.trans l2) e]; exact h)
/-- what is known of one def, whatever the depth -/
structure DefK (L : Lk) (T : Tx) (P : Pg) (fid : Nat) (d : Fn) : Prop where
  ex : ∃ (x qual : Str) (params : Arguments) (body : List Stmt) (scope : Scope) (dvs : List V) (kws : List (Str × V)) (N ps : List Str) (fd : FuncData),
    FunD L.K x qual params body scope dvs kws (L.fa fid) fd ∧ FnD L T d N ps scope body ∧
    (d.star = true → dvs = [] ∧ kws = [] ∧ ∃ pa pv, ps = [pa, pv] ∧ ∀ (dV kV doc pm : Value) (an : Option Addr) (cdv ct : Value) (u : Value) (rest : List Value), dV = .none → rest.length ≤ 5 →
      bindArgs (PySem.W.fnOf x qual params body scope dV kV doc pm an cdv ct) ⟨u :: rest, []⟩ = (newTuple rest >>= fun t => pure [(pa, u), (pv, t)])) ∧
    (d.star = false → P.pos fid = true → Binds L.K fd ps []) ∧
    ∀ p q, P.kp p = some q → q.fn = fid → d.star = false ∧ ∃ g gV, KBn L.K fd ps (T.kn p) (T.kk p) g gV ∧ ∀ vs zs us, vs.length = T.kn p → zs.length = (T.kk p).length → fillV (vs ++ zs) q.bs = some us → gV vs zs = us
/-- .. of the module, whatever the depth -/
structure Stc (L : Lk) (T : Tx) (P : Pg) (mg : Str → Option Value) : Prop where
  free : ∀ n ∈ biNames, mg n = none
  glob : ∀ g d, P.glob g = some d → ∃ u v, mg (T.gn g) = some u ∧ RelV v u ∧ ∀ O H, RepD L O H d v
  cls : ∀ c, mg (T.cn c) = some (.ref (L.cls c))
  gfn : ∀ f, T.isg f = true → mg (T.fn f) = some (.ref (L.fa f)) ∧ PySem.W.keepIn L.K (.ref (L.fa f)) = true
  meth : ∀ c m f, P.meth c m = some f → Meth L.K (L.cls c) (L.nm m) (L.fa f) ∧ Cls L.K (L.cls c)
  insT : ∀ c, InsT L.K (L.cls c)
  sub : ∀ c c', PySem.W.kitOne L.K (.ref (L.cls c)) (.ref (L.cls c')) = some (P.sub c c')
  subT : ∀ t ∈ tyNames, ∀ c, PySem.W.kitOne L.K (.type t) (.ref (L.cls c)) = some false
  subI : ∀ t ∈ tyNames, ∀ c, PySem.W.kitOne L.K (.ref (L.cls c)) (.type t) = some false
  attr : ∀ c f, P.attr c f = true → NoAttr L.K (L.cls c) (L.nm f)
  prop : ∀ c f g, P.prop c f = some g → Cls L.K (L.cls c) ∧ ∃ p, PropOf L.K (L.cls c) (L.nm f) p (L.fa g)
  con : ∀ c f d, P.con c f = some d → ConOf L c f d
  init : ∀ c f, P.init c = some f → Mk L.K (L.cls c) (L.fa f) ∧ Cls L.K (L.cls c)
  dun : ∀ c j f, P.dun c j = some f → PySem.W.findIn L.K (.ref (L.cls c)) (dnm j) = some (some (.ref (L.fa f))) ∧ PySem.W.isFn L.K (.ref (L.fa f)) = true ∧ Cls L.K (L.cls c) ∧ PySem.W.findIn L.K (.ref (L.cls c)) "__ne__" = some (some (.builtin "object.__ne__"))
  kpf : ∀ p q, P.kp p = some q → q.fn = T.kf p
  defs : ∀ fid d, P.fn fid = some d → DefK L T P fid d
  nm : L.nm = T.nm
theorem sp_no {L : Lk} {call : List M → Cr} (h : ∀ ms, call ms = .no) {vs : List V} {H : Hp} {Q : VK} {E : XK} (s : spOf L call vs H Q E) : False := by
  obtain ⟨_, _, ms, _, _, _, e, _⟩ := s
  rw [h ms] at e
  cases e
theorem gd_at {L : Lk} {T : Tx} {P : Pg} {prog : Program} {w : World} {mg : Str → Option Value} {base : Heap} (S : Stc L T P mg) : ∀ k, Gd L T (P.rt k) prog w mg base (2 * k)
  | 0 => { free := S.free, glob := S.glob, cls := S.cls, gfn := S.gfn, meth := S.meth, insT := S.insT, sub := S.sub, subT := S.subT, subI := S.subI, attr := S.attr, prop := S.prop, con := S.con, init := S.init, dun := S.dun,
           run := fun f A outer s H us vs Q E _ _ _ h => (sp_no (fun ms => by
             show (if P.pos f then Cr.no else .no) = .no
             split <;> rfl) h).elim
           kw := fun p q h => ⟨S.kpf p q h, fun A outer s H us ws vs zs Q E _ _ _ _ _ _ ⟨us', _, h⟩ => (sp_no (fun ms => rfl) h).elim⟩ }
  | k + 1 => by
    have G := gd_at (prog := prog) (w := w) (base := base) S k
    refine { free := S.free, glob := S.glob, cls := S.cls, gfn := S.gfn, meth := S.meth, insT := S.insT, sub := S.sub, subT := S.subT, subI := S.subI, attr := S.attr, prop := S.prop, con := S.con, init := S.init, dun := S.dun, run := fun f => ?_, kw := fun p q h => ⟨S.kpf p q h, ?_⟩ }
    · show FnR prog w L.K mg base CX0 (2 * k + 2) (L.fa f) (spOf L fun ms => if P.pos f then run P (k + 1) f ms else .no)
      by_cases hp : P.pos f = true
      · have e1 : (fun ms => if P.pos f then run P (k + 1) f ms else .no) = run P (k + 1) f := by
          funext ms
          rw [if_pos hp]
        rw [e1]
        cases hd : P.fn f with
        | none =>
          intro A outer s H us vs Q E _ _ _ h
          refine (sp_no (fun ms => ?_) h).elim
          show (match P.fn f with
            | some d => runFn d (exec (P.rt k) d.body) ms
            | none => .no) = _
          rw [hd]
        | some d =>
          obtain ⟨x, qual, params, body, scope, dvs, kws, N, ps, fd, F1, F2, F3, F4, F5⟩ := (S.defs f d hd).ex
          cases hs : d.star with
          | true =>
            obtain ⟨e1, e2, pa, pv, e3, hb⟩ := F3 hs
            subst e1 e2 e3
            exact fn_star (dvs := []) (kws := []) hd hs F1 F2 hb S.nm G
          | false =>
            have ok := fn_sound hd hs F1 F2 S.nm G
            refine (FnOk.raw (ds := []) (dvs := []) ok (F4 hs hp) .nil).imp fun vs H Q E h => ?_
            rw [List.append_nil]
            exact h
      · intro A outer s H us vs Q E _ _ _ h
        refine (sp_no (fun ms => ?_) h).elim
        rw [if_neg hp]
    · show FnK prog w L.K mg base (2 * k + 2) (L.fa q.fn) (T.kn p) (T.kk p) (spK L (run P (k + 1) q.fn) q.bs)
      cases hd : P.fn q.fn with
      | none =>
        intro A outer s H us ws vs zs Q E _ _ _ _ _ _ ⟨us', _, h⟩
        refine (sp_no (fun ms => ?_) h).elim
        show (match P.fn q.fn with
          | some d => runFn d (exec (P.rt k) d.body) ms
          | none => .no) = _
        rw [hd]
      | some d =>
        obtain ⟨x, qual, params, body, scope, dvs, kws, N, ps, fd, F1, F2, F3, F4, F5⟩ := (S.defs q.fn d hd).ex
        obtain ⟨hs, g, gV, hb, hg⟩ := F5 p q h rfl
        exact FnK.of (fn_sound hd hs F1 F2 S.nm G) hb hg
/-- the law's own def -/
theorem law_ok {L : Lk} {T : Tx} {P : Pg} {prog : Program} {w : World} {mg : Str → Option Value} {base : Heap} (S : Stc L T P mg) {k lf : Nat} {d : Fn} (hd : P.fn lf = some d) (hs : d.star = false) {x qual : Str} {params : Arguments} {body : List Stmt} {scope : Scope} {dvs : List V} {kws : List (Str × V)} {N ps : List Str} {fd : FuncData}
    (F1 : FunD L.K x qual params body scope dvs kws (L.fa lf) fd) (F2 : FnD L T d N ps scope body) : FnOk prog w L.K mg base CX0 (2 * k + 2) (L.fa lf) fd ps (spOf L (run P (k + 1) lf)) :=
  fn_sound hd hs F1 F2 S.nm (gd_at S k)
theorem frl_rep {L : Lk} {H : Hp} {a : Addr} {ns : List Int} (h : SqL L.K H a (ns.map V.int)) : RepD L [] H (.frl (ns.map .int)) (.ref a) := by
  refine ⟨a, ns.map V.int, rfl, ?_, repD_ints⟩
  rcases h with h | h
  · exact .inl ⟨List.not_mem_nil, h⟩
  · exact .inr h
/-- what the law's def hands back -/
theorem law_sp {L : Lk} {call : List M → Cr} {H : Hp} {a : Addr} {ns : List Int} {E : XK} (h : SqL L.K H a (ns.map V.int)) {ms : List (Option M)} (hc : call [.pure (.frl (ns.map .int))] = .ok (.pure (.bl true)) ms) : spOf L call [.ref a] H (fun v _ => v = .bl true) E := by
  refine ⟨[], [], [.pure (.frl (ns.map .int))], _, ms, ⟨List.nodup_nil, fun _ z => (nomatch z), ⟨.ref a, [], [], rfl, rfl, ⟨rfl, frl_rep h⟩, rfl⟩⟩, hc, fun v H' f' fm p => p.rep.2⟩
end FB

set_option Elab.async false
set_option linter.all false
set_option maxRecDepth 10000
/-! FbHd: from the head's facts to what is known of a module. -/
namespace FB
open PySem PySem.Spec PyProof.Rows L2 StX
/-- where a def stands: a name of the module, a method, a property's getter -/
inductive At where
  | glo (x : Str) | meth (C m : Str) | prop (C m : Str)
def At.a (K : PySem.W.Frag) : At → Addr
  | .glo x => He.ga K x
  | .meth C m => He.ma K (He.ga K C) m
  | .prop C m => match PySem.W.recIn K (He.ma K (He.ga K C) m) "property" with
    | some (.ref g :: _) => g
    | _ => 0
structure DefF where
  at_ : At
  name : Str
  qual : Str
  st : Stmt
  dvs : List V := []
  kws : List (Str × V) := []
  fn : Fn
  N : List Str
  ps : List Str
  pos : Bool := true
def DefF.val (d : DefF) : He.FnW := some (d.name, d.qual, defArgs d.st, .stmts (defBody d.st), defScope d.st, mainGlobals, [], builtinsNs)
def fnV (K : PySem.W.Frag) (d : DefF) : He.FnW := match K.lookup (d.at_.a K) with
  | some ⟨_, _, .func z, _⟩ => some (z.name, z.qualname, z.params, z.body, z.scope, z.globals, z.closure, z.builtins)
  | _ => none
def DefF.ok (K : PySem.W.Frag) (d : DefF) : Bool := PySem.W.keepIn K (.ref (d.at_.a K)) && (match K.lookup (d.at_.a K) with
  | some ⟨_, _, .func z, _⟩ => PySem.W.codeIn K z.code d.qual && (He.dflB K z.defaults d.dvs && He.kwdB K z.kwdefaults d.kws)
  | _ => false)
abbrev DefF.Fd (d : DefF) (K : PySem.W.Frag) (fd : FuncData) : Prop := FunD K d.name d.qual (defArgs d.st) (defBody d.st) (defScope d.st) d.dvs d.kws (d.at_.a K) fd
theorem DefF.funD {K : PySem.W.Frag} {d : DefF} (e : fnV K d = d.val) (c : d.ok K = true) : ∃ fd, d.Fd K fd := by
  unfold DefF.ok at c
  rw [Bool.and_eq_true] at c
  obtain ⟨kp, c2⟩ := c
  unfold fnV at e
  cases q : K.lookup (d.at_.a K) with
  | none =>
    rw [q] at c2; cases c2
  | some o =>
    obtain ⟨oc, od, dt, osl⟩ := o
    rw [q] at c2 e
    cases dt with
    | func z =>
      obtain ⟨n1, n2, n3, n4, n5, n6, n7, n8, n9, n10, n11, n12, n13, n14, n15⟩ := z
      have e2 : (some (n1, n2, n3, n4, n5, n6, n7, n15) : He.FnW) = some (d.name, d.qual, defArgs d.st, .stmts (defBody d.st), defScope d.st, mainGlobals, [], builtinsNs) := e
      simp only [Option.some.injEq, Prod.mk.injEq] at e2
      obtain ⟨h1, h2, h3, h4, h5, h6, h7, h8⟩ := e2
      subst h1 h2 h3 h4 h5 h6 h7 h8
      have c3 : (PySem.W.codeIn K n13 d.qual && (He.dflB K n8 d.dvs && He.kwdB K n9 d.kws)) = true := c2
      rw [Bool.and_eq_true, Bool.and_eq_true] at c3
      exact ⟨_, ⟨oc, od, n8, n9, n10, n11, n12, n13, n14, osl, rfl, q, c3.1, He.dflB_ok c3.2.1, He.kwdB_ok c3.2.2⟩, kp⟩
    | _ => cases c2
/-! ### names -/
def nmOf (ns : List Str) (i : Nat) : Str := match ns[i]? with
  | some s => s
  | none => mkS (List.replicate (i + 1000) 95)
def nmsOk (ns : List Str) : Bool := decide ns.Nodup && ns.all fun s => decide (s.cps.size < 1000)
theorem nmOf_inj {ns : List Str} (h : nmsOk ns = true) : ∀ a b, nmOf ns a = nmOf ns b → a = b := by
  unfold nmsOk at h
  rw [Bool.and_eq_true, decide_eq_true_eq, List.all_eq_true] at h
  have big : ∀ i, (mkS (List.replicate (i + 1000) 95)).cps.size = i + 1000 := fun i => by simp
  intro a b e
  unfold nmOf at e
  cases ha : ns[a]? with
  | none =>
    rw [ha] at e
    cases hb : ns[b]? with
    | none =>
      rw [hb] at e
      have e2 := congrArg (fun s : Str => s.cps.size) e
      simp only [big] at e2
      omega
    | some s =>
      rw [hb] at e
      have := of_decide_eq_true (h.2 s (List.mem_of_getElem? hb))
      have e2 := congrArg (fun s : Str => s.cps.size) e
      simp only [big] at e2
      omega
  | some s =>
    rw [ha] at e
    cases hb : ns[b]? with
    | none =>
      rw [hb] at e
      have := of_decide_eq_true (h.2 s (List.mem_of_getElem? ha))
      have e2 := congrArg (fun s : Str => s.cps.size) e
      simp only [big] at e2
      omega
    | some s' =>
      rw [hb] at e
      have e : s = s' := e
      subst e
      have la := (List.getElem?_eq_some_iff.mp ha)
      have lb := (List.getElem?_eq_some_iff.mp hb)
      obtain ⟨l1, e1⟩ := la
      obtain ⟨l2, e2⟩ := lb
      have pw := List.pairwise_iff_getElem.mp h.1
      rcases Nat.lt_trichotomy a b with z | z | z
      · exact absurd (e1.trans e2.symm) (pw a b l1 l2 z)
      · exact z
      · exact absurd (e2.trans e1.symm) (pw b a l2 l1 z)
structure Txt where
  nms : List Str
  cns : List Str
  gns : List (Str × D)
  defs : List DefF
  meths : List ((Nat × Nat) × Nat)
  props : List ((Nat × Nat) × Nat)
  duns : List ((Nat × Nat) × Nat)
  cons : List ((Nat × Nat) × D)
  inits : List (Nat × Nat)
  attrs : List (Nat × Nat)
  kps : List (Kp × (Nat × List Str))
def Txt.cn (t : Txt) (c : Nat) : Str := (t.cns[c]?).getD (t.cns.headD "")
def Txt.tx (t : Txt) : Tx where
  nm := nmOf t.nms
  cn := t.cn
  fn := fun f => match (t.defs[f]?).map DefF.at_ with | some (.glo x) => x | _ => ""
  gn := fun g => ((t.gns[g]?).map (·.1)).getD ""
  isg := fun f => match (t.defs[f]?).map DefF.at_ with | some (.glo _) => true | _ => false
  kf := fun p => ((t.kps[p]?).map (·.1.fn)).getD 0
  kn := fun p => ((t.kps[p]?).map (·.2.1)).getD 0
  kk := fun p => ((t.kps[p]?).map (·.2.2)).getD []
def Txt.pg (t : Txt) : Pg where
  fn := fun f => (t.defs[f]?).map (·.fn)
  glob := fun g => (t.gns[g]?).map (·.2)
  meth := fun c m => t.meths.lookup (c, m)
  prop := fun c m => t.props.lookup (c, m)
  con := fun c m => t.cons.lookup (c, m)
  init := fun c => t.inits.lookup c
  dun := fun c j => t.duns.lookup (c, j)
  sub := fun c c' => decide (t.cn c = t.cn c')
  attr := fun c f => t.attrs.contains (c, f)
  kp := fun p => (t.kps[p]?).map (·.1)
  pos := fun f => ((t.defs[f]?).map (·.pos)).getD false
def Txt.fa (t : Txt) (K : PySem.W.Frag) (f : Nat) : Addr := ((t.defs[f]?).map fun d => d.at_.a K).getD 0
def Txt.lk (t : Txt) (K : PySem.W.Frag) (h : nmsOk t.nms = true) : Lk := ⟨K, fun c => He.ga K (t.cn c), t.fa K, nmOf t.nms, nmOf_inj h⟩
/-! ### what is looked at behind the top -/
def eqv (a b : Option (Option Value)) : Bool := decide (a = b)
theorem eqv_ok {a b : Option (Option Value)} (h : eqv a b = true) : a = b := of_decide_eq_true h
def clsB (K : PySem.W.Frag) (C : Addr) : Bool := PySem.W.plainGet K C Str.empty && PySem.W.hasDictIn K C && PySem.W.plainOver K C && eqv (PySem.W.findIn K (.ref C) "__setattr__") (some (some (.builtin "object.__setattr__")))
theorem clsB_ok {K : PySem.W.Frag} {C : Addr} (h : clsB K C = true) : Cls K C := by
  unfold clsB at h
  simp only [Bool.and_eq_true] at h
  exact ⟨h.1.1.1, h.1.1.2, h.1.2, eqv_ok h.2⟩
def insB (K : PySem.W.Frag) (C : Addr) : Bool := eqv (PySem.W.findIn K (.ref C) "__class__") (some (some (.builtin "object.__class__"))) && eqv (PySem.W.specialIn K (.builtin "object.__class__") "__get__") (some (some (.builtin "getset_descriptor.__get__"))) &&
  decide (PySem.W.takesIn K (.builtin "object.__class__") = some true) && decide (PySem.W.mroIn K C (.type "object") = some true)
theorem insB_ok {K : PySem.W.Frag} {C : Addr} (h : insB K C = true) : InsT K C := by
  unfold insB at h
  simp only [Bool.and_eq_true] at h
  exact ⟨eqv_ok h.1.1.1, eqv_ok h.1.1.2, of_decide_eq_true h.1.2, of_decide_eq_true h.2⟩
def methB (K : PySem.W.Frag) (C : Addr) (m : Str) (f : Addr) : Bool := clsB K C && eqv (PySem.W.findIn K (.ref C) m) (some (some (.ref f))) && PySem.W.isFn K (.ref f) && PySem.W.keepIn K (.ref f)
def propB (K : PySem.W.Frag) (C : Addr) (m : Str) (f : Addr) : Bool := clsB K C && eqv (PySem.W.findIn K (.ref C) m) (some (some (.ref (He.ma K C m)))) && eqv (PySem.W.specialIn K (.ref (He.ma K C m)) "__get__") (some (some (.builtin "property.__get__"))) &&
  decide (PySem.W.takesIn K (.ref (He.ma K C m)) = some true) && (match PySem.W.recIn K (He.ma K C m) "property" with
    | some (.ref g :: _) => decide (g = f)
    | _ => false)
theorem propB_ok {K : PySem.W.Frag} {C : Addr} {m : Str} {f : Addr} (h : propB K C m f = true) : Cls K C ∧ ∃ p, PropOf K C m p f := by
  unfold propB at h
  simp only [Bool.and_eq_true] at h
  refine ⟨clsB_ok h.1.1.1.1, He.ma K C m, eqv_ok h.1.1.1.2, eqv_ok h.1.1.2, of_decide_eq_true h.1.2, ?_⟩
  have h2 := h.2
  split at h2
  · rename_i g r e
    have : g = f := of_decide_eq_true h2
    subst this
    exact ⟨r, e⟩
  · cases h2
def mkB (K : PySem.W.Frag) (C f : Addr) : Bool := clsB K C && PySem.W.makesIn K C && eqv (PySem.W.findIn K (.ref C) "__init__") (some (some (.ref f))) && PySem.W.isFn K (.ref f) && PySem.W.keepIn K (.ref C)
def dunB (K : PySem.W.Frag) (C : Addr) (j : Nat) (f : Addr) : Bool := clsB K C && eqv (PySem.W.findIn K (.ref C) (dnm j)) (some (some (.ref f))) && PySem.W.isFn K (.ref f) && eqv (PySem.W.findIn K (.ref C) "__ne__") (some (some (.builtin "object.__ne__")))
/-- a value written in the text -/
def valB (u : Value) : D → Bool
  | .int i => (match u with | .int j _ => decide (j = i) | _ => false)
  | .str x => (match u with | .str y _ => decide (y = mkS x) | _ => false)
  | _ => false
def valV : D → V
  | .int i => .int i
  | .str x => .str (mkS x)
  | _ => .non
theorem valB_ok {u : Value} {d : D} (h : valB u d = true) : RelV (valV d) u ∧ ∀ (L : Lk) O H, RepD L O H d (valV d) := by
  cases d <;> first | cases h | skip
  · cases u <;> first | cases h | skip
    rename_i i j t
    have : j = i := of_decide_eq_true h
    subst this
    exact ⟨⟨t, rfl⟩, fun _ _ _ => rfl⟩
  · cases u <;> first | cases h | skip
    rename_i x y t
    have : y = mkS x := of_decide_eq_true h
    subst this
    exact ⟨⟨t, rfl⟩, fun _ _ _ => rfl⟩
def globB (K : PySem.W.Frag) (x : Str) (d : D) : Bool := match PySem.W.nsIn K mainGlobals x with
  | some (some u) => valB u d
  | _ => false
def conB (K : PySem.W.Frag) (C : Addr) (m : Str) (d : D) : Bool := clsB K C && (match PySem.W.findIn K (.ref C) m with
  | some (some u) => valB u d && eqv (PySem.W.specialIn K u "__get__") (some none)
  | _ => false) && !PySem.W.copiedNames.contains m && PySem.W.readsIn K C (.type "type") && eqv (PySem.W.specialIn K (.ref C) "__getattribute__") (some (some (.builtin "type.__getattribute__"))) && (match PySem.W.findCls K (.ref C) (.type "type") m with
  | some (.val u) => valB u d
  | _ => false)
theorem conB_ok {t : Txt} {K : PySem.W.Frag} {hn : nmsOk t.nms = true} {c m : Nat} {d : D} (h : conB K (He.ga K (t.cn c)) (nmOf t.nms m) d = true) : ConOf (t.lk K hn) c m d := by
  unfold conB at h
  simp only [Bool.and_eq_true, Bool.not_eq_true'] at h
  obtain ⟨⟨⟨⟨⟨h1, h2⟩, h3⟩, h4⟩, h5⟩, h6⟩ := h
  refine ⟨clsB_ok h1, ?_, ?_⟩
  · split at h2
    · rename_i u e
      rw [Bool.and_eq_true] at h2
      obtain ⟨k1, k2⟩ := valB_ok h2.1
      exact ⟨valV d, u, ⟨e, k1, eqv_ok h2.2, h3⟩, fun O H => k2 _ O H⟩
    · cases h2
  · split at h6
    · rename_i u e
      obtain ⟨k1, k2⟩ := valB_ok h6
      exact ⟨.type "type", valV d, u, ⟨h4, eqv_ok h5⟩, ⟨e, k1⟩, fun O H => k2 _ O H⟩
    · cases h6
def okB (t : Txt) (K : PySem.W.Frag) : Bool :=
  biNames.all (fun n => eqv (PySem.W.nsIn K mainGlobals n) (some none)) && t.gns.all (fun p => globB K p.1 p.2) && !t.cns.isEmpty &&
  t.cns.all (fun x => eqv (PySem.W.nsIn K mainGlobals x) (some (some (.ref (He.ga K x)))) && insB K (He.ga K x) && t.cns.all (fun y => decide (PySem.W.kitOne K (.ref (He.ga K x)) (.ref (He.ga K y)) = some (decide (x = y)))) &&
    tyNames.all (fun n => decide (PySem.W.kitOne K (.type n) (.ref (He.ga K x)) = some false) && decide (PySem.W.kitOne K (.ref (He.ga K x)) (.type n) = some false))) &&
  t.defs.all (fun d => match d.at_ with | .glo x => eqv (PySem.W.nsIn K mainGlobals x) (some (some (.ref (He.ga K x)))) && PySem.W.keepIn K (.ref (He.ga K x)) | _ => true) &&
  t.meths.all (fun q => methB K (He.ga K (t.cn q.1.1)) (nmOf t.nms q.1.2) (t.fa K q.2)) && t.props.all (fun q => propB K (He.ga K (t.cn q.1.1)) (nmOf t.nms q.1.2) (t.fa K q.2)) &&
  t.duns.all (fun q => dunB K (He.ga K (t.cn q.1.1)) q.1.2 (t.fa K q.2)) && t.cons.all (fun q => conB K (He.ga K (t.cn q.1.1)) (nmOf t.nms q.1.2) q.2) && t.inits.all (fun q => mkB K (He.ga K (t.cn q.1)) (t.fa K q.2)) &&
  t.attrs.all (fun q => eqv (PySem.W.findIn K (.ref (He.ga K (t.cn q.1))) (nmOf t.nms q.2)) (some none))
theorem look_mem {α β : Type} [BEq α] [LawfulBEq α] {a : α} {b : β} : ∀ {l : List (α × β)}, l.lookup a = some b → (a, b) ∈ l
  | [], h => by simp at h
  | (x, y) :: r, h => by
    rw [List.lookup_cons] at h
    by_cases e : a = x
    · subst e
      simp at h
      subst h
      exact List.mem_cons_self
    · have e2 : (a == x) = false := by simpa using e
      rw [e2] at h
      exact List.mem_cons_of_mem _ (look_mem h)
/-! ### how arguments come to parameters -/
/-- the values that a pattern without defaults takes -/
def pick {α : Type} (vs : List α) : List (Sum Nat D) → List α
  | [] => []
  | .inl i :: r => (match vs[i]? with | some v => [v] | none => []) ++ pick vs r
  | .inr _ :: r => pick vs r
theorem pick_vals {vs : List V} {us : List Value} (h : Vals vs us) : ∀ bs : List (Sum Nat D), Vals (pick vs bs) (pick us bs)
  | [] => .nil
  | .inr _ :: r => pick_vals h r
  | .inl i :: r => by
    unfold pick
    refine Vals.append ?_ (pick_vals h r)
    cases hv : vs[i]? with
    | some v =>
      obtain ⟨u, hu, ru⟩ := h.get hv
      rw [hu]
      exact .cons ru .nil
    | none =>
      have : us[i]? = none := by
        rw [List.getElem?_eq_none_iff] at hv ⊢
        rw [← h.length]; exact hv
      rw [this]
      exact .nil
def noDef : List (Sum Nat D) → Bool
  | [] => true
  | .inl _ :: r => noDef r
  | .inr _ :: _ => false
theorem pick_fill {vs us : List V} : ∀ {bs : List (Sum Nat D)} {us : List V}, noDef bs = true → fillV vs bs = some us → pick vs bs = us
  | [], us, _, h => by cases h; rfl
  | .inl i :: r, us, hd, h => by
    obtain ⟨v, h1, h2⟩ := bindO_ok h
    obtain ⟨us', h3, rfl⟩ := mapO_ok h2
    unfold pick
    rw [h1, pick_fill (us := us') (bs := r) hd h3]; rfl
  | .inr _ :: _, _, hd, _ => by cases hd
abbrev fnO (d : DefF) (dV kV doc pm : Value) (an : Option Addr) (cdv ct : Value) : FuncData := PySem.W.fnOf d.name d.qual (defArgs d.st) (defBody d.st) (defScope d.st) dV kV doc pm an cdv ct
/-- what the text says of one def -/
structure DefB (t : Txt) (d : DefF) : Prop where
  fd : ∀ (L : Lk) , FnD L t.tx d.fn d.N d.ps (defScope d.st) (defBody d.st)
  star : d.fn.star = true → d.dvs = [] ∧ d.kws = [] ∧ ∃ pa pv, d.ps = [pa, pv] ∧ ∀ (dV kV doc pm : Value) (an : Option Addr) (cdv ct : Value) (u : Value) (rest : List Value), dV = .none → rest.length ≤ 5 → bindArgs (fnO d dV kV doc pm an cdv ct) ⟨u :: rest, []⟩ = (newTuple rest >>= fun t => pure [(pa, u), (pv, t)])
  pos : d.fn.star = false → d.pos = true → d.dvs = [] ∧ ∀ (kV doc pm : Value) (an : Option Addr) (cdv ct : Value) (us : List Value), us.length = d.ps.length → bindArgs (fnO d .none kV doc pm an cdv ct) ⟨us, []⟩ = pure (d.ps.zip us)
/-- .. of a pattern without defaults -/
structure PatB (t : Txt) (q : Kp × (Nat × List Str)) (d : DefF) : Prop where
  at_ : t.defs[q.1.fn]? = some d
  star : d.fn.star = false
  dvs : d.dvs = []
  nod : noDef q.1.bs = true
  eq : ∀ (kV doc pm : Value) (an : Option Addr) (cdv ct : Value) (us ws : List Value), us.length = q.2.1 → ws.length = q.2.2.length → bindArgs (fnO d .none kV doc pm an cdv ct) ⟨us, q.2.2.zip ws⟩ = pure (d.ps.zip (pick (us ++ ws) q.1.bs))
theorem defK_of {t : Txt} {K : PySem.W.Frag} (hn : nmsOk t.nms = true) {fid : Nat} {d : DefF} (hd : t.defs[fid]? = some d) {fd : FuncData} (F : d.Fd K fd) (B : DefB t d) (hp : ∀ (p : Nat) q, t.kps[p]? = some q → ∃ d, PatB t q d) : DefK (t.lk K hn) t.tx t.pg fid d.fn := by
  have hfa : (t.lk K hn).fa fid = d.at_.a K := by
    show ((t.defs[fid]?).map fun d => d.at_.a K).getD 0 = _
    rw [hd]; rfl
  refine ⟨d.name, d.qual, defArgs d.st, defBody d.st, defScope d.st, d.dvs, d.kws, d.N, d.ps, fd, by rw [hfa]; exact F, B.fd _, B.star, fun hs hpos => ?_, fun p q hq he => ?_⟩
  · have hpos : ((t.defs[fid]?).map (·.pos)).getD false = true := hpos
    rw [hd] at hpos
    obtain ⟨e, hb⟩ := B.pos hs hpos
    obtain ⟨oc, od, dV, kV, doc, pm, an, cdv, ct, osl, efd, lk, hcd, hD, _⟩ := F.ex
    rcases hD with ⟨_, e2⟩ | ⟨e2, _⟩
    · subst e2
      rw [efd]
      exact Binds.all (hb kV doc pm an cdv ct)
    · exact absurd e e2
  · have hq : (t.kps[p]?).map (·.1) = some q := hq
    obtain ⟨qq, h1, h2⟩ := mapO_ok hq
    obtain ⟨d', P⟩ := hp p qq h1
    subst h2
    have hdd : d' = d := by
      have := P.at_
      rw [he, hd] at this
      exact (Option.some.inj this).symm
    subst hdd
    have ekn : t.tx.kn p = qq.2.1 := by
      show ((t.kps[p]?).map (·.2.1)).getD 0 = _
      rw [h1]; rfl
    have ekk : t.tx.kk p = qq.2.2 := by
      show ((t.kps[p]?).map (·.2.2)).getD [] = _
      rw [h1]; rfl
    obtain ⟨oc, od, dV, kV, doc, pm, an, cdv, ct, osl, efd, lk, hcd, hD, _⟩ := F.ex
    rcases hD with ⟨_, e2⟩ | ⟨e2, _⟩
    · subst e2
      refine ⟨P.star, fun us ws => pick (us ++ ws) qq.1.bs, fun vs zs => pick (vs ++ zs) qq.1.bs, ⟨fun s us ws X l1 l2 => ?_, fun r1 r2 => pick_vals (r1.append r2) _⟩, fun vs zs us _ _ h => pick_fill (us := us) P.nod h⟩
      rw [ekn] at l1
      rw [ekk] at l2 ⊢
      rw [efd]
      exact .of_eq (P.eq kV doc pm an cdv ct us ws l1 l2)
    · exact absurd P.dvs e2
theorem Txt.cn_mem {t : Txt} (h : t.cns.isEmpty = false) (c : Nat) : t.cn c ∈ t.cns := by
  unfold Txt.cn
  cases e : t.cns[c]? with
  | some x => exact List.mem_of_getElem? e
  | none =>
    cases h2 : t.cns with
    | nil => rw [h2] at h; cases h
    | cons a r => exact List.mem_cons_self
theorem stc_of {t : Txt} {K : PySem.W.Frag} {h : Heap} {mg : Str → Option Value} (hn : nmsOk t.nms = true) (X : K.In h) (G : h.Ns mainGlobals mg) (ok : okB t K = true) (hd : ∀ d ∈ t.defs, (∃ fd, d.Fd K fd) ∧ DefB t d) (hp : ∀ (p : Nat) q, t.kps[p]? = some q → ∃ d, PatB t q d) : Stc (t.lk K hn) t.tx t.pg mg := by
  unfold okB at ok
  simp only [Bool.and_eq_true, List.all_eq_true, Bool.not_eq_true'] at ok
  obtain ⟨⟨⟨⟨⟨⟨⟨⟨⟨⟨o1, o2⟩, o3⟩, o4⟩, o5⟩, o6⟩, o7⟩, o8⟩, o9⟩, o10⟩, o11⟩ := ok
  have k1 : ∀ c, mg (t.cn c) = some (.ref (He.ga K (t.cn c))) := fun c => PySem.W.mg_of X G (eqv_ok (o4 _ (t.cn_mem o3 c)).1.1.1)
  have k2 : ∀ c, InsT K (He.ga K (t.cn c)) := fun c => insB_ok (o4 _ (t.cn_mem o3 c)).1.1.2
  have k3 : ∀ c c', PySem.W.kitOne K (.ref (He.ga K (t.cn c))) (.ref (He.ga K (t.cn c'))) = some (decide (t.cn c = t.cn c')) := fun c c' => of_decide_eq_true ((o4 _ (t.cn_mem o3 c)).1.2 _ (t.cn_mem o3 c'))
  have k4 : ∀ n ∈ tyNames, ∀ c, PySem.W.kitOne K (.type n) (.ref (He.ga K (t.cn c))) = some false := fun n hm c => of_decide_eq_true ((o4 _ (t.cn_mem o3 c)).2 n hm).1
  have k5 : ∀ n ∈ tyNames, ∀ c, PySem.W.kitOne K (.ref (He.ga K (t.cn c))) (.type n) = some false := fun n hm c => of_decide_eq_true ((o4 _ (t.cn_mem o3 c)).2 n hm).2
  refine { free := fun n hm => PySem.W.mg_none_of X G (eqv_ok (o1 n hm)), glob := fun g d hg => ?_, cls := k1, gfn := fun f hf => ?_, meth := fun c m f hm => ?_, insT := k2, sub := k3, subT := k4, subI := k5, attr := fun c f hf => ?_, prop := fun c f g hm => ?_, con := fun c f d hm => ?_, init := fun c f hm => ?_, dun := fun c j f hm => ?_, kpf := fun p q hq => ?_, defs := fun fid d hf => ?_, nm := rfl }
  · obtain ⟨q, h1, h2⟩ := mapO_ok (show (t.gns[g]?).map (·.2) = some d from hg)
    have h3 := o2 q (List.mem_of_getElem? h1)
    unfold globB at h3
    split at h3
    · rename_i u e
      obtain ⟨k1, k2⟩ := valB_ok h3
      have e1 : t.tx.gn g = q.1 := by
        show ((t.gns[g]?).map Prod.fst).getD ("" : Str) = _
        rw [h1]; rfl
      rw [e1, ← h2]
      exact ⟨u, valV q.2, PySem.W.mg_of X G e, k1, fun O H => k2 _ O H⟩
    · cases h3
  · have hf : (match (t.defs[f]?).map DefF.at_ with | some (.glo _) => true | _ => false) = true := hf
    split at hf
    · rename_i x e
      obtain ⟨d, h1, h2⟩ := mapO_ok e
      have h3 := o5 d (List.mem_of_getElem? h1)
      rw [h2] at h3
      simp only [Bool.and_eq_true] at h3
      have e1 : t.tx.fn f = x := by
        show (match (t.defs[f]?).map DefF.at_ with | some (.glo x) => x | _ => ("" : Str)) = x
        rw [e]
      have e2 : t.fa K f = He.ga K x := by
        show ((t.defs[f]?).map fun d => d.at_.a K).getD 0 = _
        rw [h1]
        show d.at_.a K = _
        rw [h2]; rfl
      rw [e1]
      show mg x = some (.ref (t.fa K f)) ∧ PySem.W.keepIn K (.ref (t.fa K f)) = true
      rw [e2]
      exact ⟨PySem.W.mg_of X G (eqv_ok h3.1), h3.2⟩
    · cases hf
  · have h3 := o6 _ (look_mem (show t.meths.lookup (c, m) = some f from hm))
    unfold methB at h3
    simp only [Bool.and_eq_true] at h3
    exact ⟨⟨eqv_ok h3.1.1.2, h3.1.2, h3.2⟩, clsB_ok h3.1.1.1⟩
  · have hf : t.attrs.contains (c, f) = true := hf
    exact eqv_ok (o11 (c, f) (by simpa using hf))
  · have h3 := o7 _ (look_mem (show t.props.lookup (c, f) = some g from hm))
    exact propB_ok h3
  · have h3 := o9 _ (look_mem (show t.cons.lookup (c, f) = some d from hm))
    exact conB_ok h3
  · have h3 := o10 _ (look_mem (show t.inits.lookup c = some f from hm))
    unfold mkB at h3
    simp only [Bool.and_eq_true] at h3
    exact ⟨⟨h3.1.1.1.2, eqv_ok h3.1.1.2, h3.1.2, h3.2⟩, clsB_ok h3.1.1.1.1⟩
  · have h3 := o8 _ (look_mem (show t.duns.lookup (c, j) = some f from hm))
    unfold dunB at h3
    simp only [Bool.and_eq_true] at h3
    exact ⟨eqv_ok h3.1.1.2, h3.1.2, clsB_ok h3.1.1.1, eqv_ok h3.2⟩
  · obtain ⟨qq, h1, h2⟩ := mapO_ok (show (t.kps[p]?).map (·.1) = some q from hq)
    show q.fn = ((t.kps[p]?).map (·.1.fn)).getD 0
    rw [h1, ← h2]; rfl
  · obtain ⟨df, h1, h2⟩ := mapO_ok (show (t.defs[fid]?).map (·.fn) = some d from hf)
    obtain ⟨⟨fd, F⟩, B⟩ := hd df (List.mem_of_getElem? h1)
    rw [← h2]
    exact defK_of hn h1 F B hp
/-! ### the hook -/
abbrev AlF : Type := Bool × List He.FnW
def obsF (t : Txt) (K : PySem.W.Frag) : AlF := (okB t K && t.defs.all (·.ok K), t.defs.map (fnV K))
def goodF (t : Txt) : AlF := (true, t.defs.map DefF.val)
def hookF (n : Nat) (t : Txt) : PySem.W.Hook where
  α := AlF
  obs := fun s => obsF t (He.frG s.heap.get? (He.asD s.heap.get? n ++ [cStatics]))
  val := fun _ => goodF t
  says := fun _ h => ∃ K : PySem.W.Frag, K.In h ∧ obsF t K = goodF t
  of := fun _ _ e => ⟨_, He.frG_in, e⟩
  keeps := fun _ _ _ z k => z.elim fun K c => ⟨K, PySem.W.Frag.In.keeps c.1 k, c.2⟩
def lookF (n : Nat) (t : Txt) (s : PySem.W.SharedT) : AlF := obsF t (He.frG (HandSHeadRun.getT s) (He.asD (HandSHeadRun.getT s) n ++ [cStatics]))
theorem lookF_eq (n : Nat) (t : Txt) (s : PySem.W.SharedT) : lookF n t s = (hookF n t).obs s.abs := by
  have e : HandSHeadRun.getT s = s.abs.heap.get? := funext (HandSHeadRun.getT_eq s)
  unfold lookF
  rw [e]
  rfl
theorem saysF {t : Txt} {K : PySem.W.Frag} (h : obsF t K = goodF t) : okB t K = true ∧ ∀ d ∈ t.defs, ∃ fd, d.Fd K fd := by
  have h1 := congrArg Prod.fst h
  have h2 := congrArg Prod.snd h
  have h1 : (okB t K && t.defs.all (·.ok K)) = true := h1
  rw [Bool.and_eq_true, List.all_eq_true] at h1
  refine ⟨h1.1, fun d hd => DefF.funD ?_ (h1.2 d hd)⟩
  have h2 : t.defs.map (fnV K) = t.defs.map DefF.val := h2
  exact List.map_inj_left.mp h2 d hd
end FB

set_option Elab.async false
set_option linter.all false
set_option maxRecDepth 100000
/-! FbEv: steps of the evaluator, for the simplifier. -/
namespace FB.Ev
section
variable {R : Rt} {α β : Type}
theorem bind_c {r r' : Rs α} (f : α → En → Rs β) (h : r = r') : r.bind f = r'.bind f := h ▸ rfl
theorem then_c {r r' : Out} (f : En → Out) (h : r = r') : r.andThen f = r'.andThen f := h ▸ rfl
@[simp] theorem bind_ok (a : α) (env : En) (f : α → En → Rs β) : (Rs.ok a env).bind f = f a env := id rfl
@[simp] theorem lift_some (a : α) (env : En) : Rs.lift (some a) env = .ok a env := id rfl
@[simp] theorem out_ok (e env : En) : (Rs.ok e env).out = .nx e := id rfl
@[simp] theorem then_nx (env : En) (f : En → Out) : (Out.nx env).andThen f = f env := id rfl
@[simp] theorem then_rt (m : M) (env : En) (f : En → Out) : (Out.rt m env).andThen f = .rt m env := id rfl
@[simp] theorem then_ct (env : En) (f : En → Out) : (Out.ct env).andThen f = .ct env := id rfl
@[simp] theorem then_bk (env : En) (f : En → Out) : (Out.bk env).andThen f = .bk env := id rfl
@[simp] theorem viewD_pure (d : D) : viewD (.pure d) = some d := id rfl
@[simp] theorem frz_pure (d : D) : (M.pure d).frz = d := id rfl
@[simp] theorem frz_lst (ms : List M) : (M.lst ms).frz = .lst (M.frzs ms) := id rfl
@[simp] theorem frzs_nil : M.frzs [] = [] := id rfl
@[simp] theorem frzs_cons (m : M) (ms : List M) : M.frzs (m :: ms) = m.frz :: M.frzs ms := id rfl
@[simp] theorem frzs_pure (ds : List D) : M.frzs (ds.map .pure) = ds := by
  induction ds with
  | nil => rfl
  | cons d ds ih => simp only [List.map_cons, M.frzs, ih, frz_pure]
@[simp] theorem slot_zero (a : Option M) (l : En) : slot (a :: l) 0 = a := by simp [slot]
@[simp] theorem slot_succ (a : Option M) (l : En) (n : Nat) : slot (a :: l) (n + 1) = slot l n := by simp [slot]
@[simp] theorem boolR_ok (b : Bool) (env : En) : boolR (.ok (.pure (.bl b)) env) = .ok b env := id rfl
/-! tests, walks: plain nodes -/
theorem of_e (f : En → Rs M) : (Sm.of f).e = f := rfl
theorem of_t (f : En → Rs M) (env : En) : (Sm.of f).t env = (f env).bind fun x env => Rs.lift ((viewD x).bind truth) env := rfl
theorem of_i (f : En → Rs M) (env : En) : (Sm.of f).i env = (f env).bind fun x env => Rs.lift ((asIt x.frz).map fun ds => (ds, [])) env := rfl
def varR : Option M → En → Rs M
  | some (.pure d), env => .ok (.pure d) env
  | _, _ => .no
def plR : Option M → En → Rs M
  | some m, env => .ok m env
  | none, _ => .no
@[simp] theorem varR_p (d : D) (env : En) : varR (some (.pure d)) env = .ok (.pure d) env := id rfl
@[simp] theorem plR_s (m : M) (env : En) : plR (some m) env = .ok m env := id rfl
theorem of_eq {f g : En → Rs M} (h : ∀ env, f env = g env) : Sm.of f = Sm.of g := by rw [funext h]
theorem ev_var (i : Nat) : ev R (.var i) = Sm.of fun env => varR (slot env i) env := of_eq fun env => by cases slot env i with
  | none => rfl
  | some m => cases m <;> rfl
theorem ev_mv (i : Nat) : ev R (.mv i) = Sm.of fun env => plR (slot env i) (env.set i none) := of_eq fun env => by cases slot env i <;> rfl
theorem ev_pl (i : Nat) (ps : List Pe) : ev R (.pl i ps) = Sm.of fun env => plR (getPl env i ps) env := of_eq fun env => by cases getPl env i ps <;> rfl
theorem ev_plv (i : Nat) (ps : List Pe) : ev R (.plv i ps) = Sm.of fun env => varR (getPl env i ps) env := of_eq fun env => by cases getPl env i ps with
  | none => rfl
  | some m => cases m <;> rfl
theorem ev_int (n : Int) : ev R (.int n) = Sm.of fun env => .ok (.pure (.int n)) env := rfl
theorem ev_str (n : List Nat) : ev R (.str n) = Sm.of fun env => .ok (.pure (.str n)) env := rfl
theorem ev_bl (n : Bool) : ev R (.bl n) = Sm.of fun env => .ok (.pure (.bl n)) env := rfl
theorem ev_non : ev R .non = Sm.of fun env => .ok (.pure .non) env := rfl
theorem ev_cls (c : Nat) : ev R (.cls c) = Sm.of fun env => .ok (.pure (.cls c)) env := rfl
theorem ev_glb (g : Nat) : ev R (.glb g) = Sm.of fun env => Rs.lift ((R.glob g).map .pure) env := rfl
theorem ev_op2 (mu : Bool) (o : O2) (a b : Ex) : ev R (.op2 mu o a b) = Sm.of fun env => ((ev R a).e env).bind fun x env => ((ev R b).e env).bind fun y env => Rs.lift ((viewD x).bind fun x => (viewD y).bind fun y => sem2 mu o x y) env := rfl
def notR : M → En → Rs M
  | x, env => Rs.lift (((viewD x).bind truth).map fun b => .pure (.bl (!b))) env
theorem e_not (a : Ex) (env : En) : (ev R (.not a)).e env = ((ev R a).e env).bind fun x env => Rs.lift (((viewD x).bind truth).map fun b => .pure (.bl (!b))) env := rfl
theorem t_not (a : Ex) (env : En) : (ev R (.not a)).t env = ((ev R a).t env).bind fun x env => .ok (!x) env := rfl
theorem e_and (a b : Ex) (env : En) : (ev R (.and a b)).e env = (boolR ((ev R a).e env)).bind fun x env => if x then (ev R b).e env else .ok (.pure (.bl false)) env := rfl
theorem t_and (a b : Ex) (env : En) : (ev R (.and a b)).t env = ((ev R a).t env).bind fun x env => if x then (ev R b).t env else .ok false env := rfl
theorem e_or (a b : Ex) (env : En) : (ev R (.or a b)).e env = (boolR ((ev R a).e env)).bind fun x env => if x then .ok (.pure (.bl true)) env else (ev R b).e env := rfl
theorem t_or (a b : Ex) (env : En) : (ev R (.or a b)).t env = ((ev R a).t env).bind fun x env => if x then .ok true env else (ev R b).t env := rfl
theorem e_ite (c a b : Ex) (env : En) : (ev R (.ite c a b)).e env = ((ev R c).t env).bind fun x env => if x then (ev R a).e env else (ev R b).e env := rfl
theorem t_ite (c a b : Ex) (env : En) : (ev R (.ite c a b)).t env = ((ev R c).t env).bind fun x env => if x then (ev R a).t env else (ev R b).t env := rfl
theorem ev_cmp (o : C2) (a b : Ex) : ev R (.cmp o a b) = Sm.of fun env => ((ev R a).e env).bind fun x env => ((ev R b).e env).bind fun y env => Rs.lift (((viewD x).bind fun x => (viewD y).bind fun y => semC o x y).map fun b => .pure (.bl b)) env := rfl
def cmpdR (R : Rt) (o : C2) : M → M → En → Rs M
  | .pure x, .pure y, env => cmpR R o x y env
  | _, _, _ => .no
@[simp] theorem cmpdR_p (o : C2) (x y : D) (env : En) : cmpdR R o (.pure x) (.pure y) env = cmpR R o x y env := id rfl
theorem ev_cmpd (o : C2) (a b : Ex) : ev R (.cmpd o a b) = Sm.of fun env => ((ev R a).e env).bind fun x env => ((ev R b).e env).bind fun y env => cmpdR R o x y env := of_eq fun env => by
  refine congrArg _ (funext fun x => funext fun e => congrArg _ (funext fun y => funext fun e => ?_))
  cases x <;> cases y <;> rfl
def chainR (R : Rt) (o o' : C2) (c : Ex) : M → M → En → Rs M
  | .pure x, .pure y, env => (match semC o x y with
      | some true => ((ev R c).e env).bind fun z env => (match z with
        | .pure z => (match semC o' y z with
          | some v => .ok (.pure (.bl v)) env
          | none => .no)
        | _ => .no)
      | some false => .ok (.pure (.bl false)) env
      | none => .no)
  | _, _, _ => .no
theorem ev_chain (o o' : C2) (a b c : Ex) : ev R (.chain o o' a b c) = Sm.of fun env => ((ev R a).e env).bind fun x env => ((ev R b).e env).bind fun y env => chainR R o o' c x y env := of_eq fun env => by
  refine congrArg _ (funext fun x => funext fun e => congrArg _ (funext fun y => funext fun e => ?_))
  cases x <;> cases y <;> rfl
def chainZ (o' : C2) (y : D) : M → En → Rs M
  | .pure z, env => (match semC o' y z with
      | some v => .ok (.pure (.bl v)) env
      | none => .no)
  | _, _ => .no
@[simp] theorem chainZ_le (j k : Int) (env : En) : chainZ .le (.int j) (.pure (.int k)) env = .ok (.pure (.bl (decide (j ≤ k)))) env := id rfl
@[simp] theorem chainZ_lt (j k : Int) (env : En) : chainZ .lt (.int j) (.pure (.int k)) env = .ok (.pure (.bl (decide (j < k)))) env := id rfl
def chainT (R : Rt) (o' : C2) (c : Ex) (y : D) (env : En) : Option Bool → Rs M
  | some true => ((ev R c).e env).bind fun z env => chainZ o' y z env
  | some false => .ok (.pure (.bl false)) env
  | none => .no
@[simp] theorem chainT_t (o' : C2) (c : Ex) (y : D) (env : En) : chainT R o' c y env (some true) = ((ev R c).e env).bind fun z env => chainZ o' y z env := id rfl
@[simp] theorem chainT_f (o' : C2) (c : Ex) (y : D) (env : En) : chainT R o' c y env (some false) = .ok (.pure (.bl false)) env := id rfl
@[simp] theorem chainR_p (o o' : C2) (c : Ex) (x y : D) (env : En) : chainR R o o' c (.pure x) (.pure y) env = chainT R o' c y env (semC o x y) := by
  show (match semC o x y with | some true => _ | some false => _ | none => _) = _
  cases semC o x y with
  | none => rfl
  | some v =>
    cases v with
    | false => rfl
    | true =>
      refine congrArg (Rs.bind ((ev R c).e env)) (funext fun z => funext fun e => ?_)
      cases z <;> rfl
def bidRR (R : Rt) (b : Bi) : M → En → Rs M
  | .pure x, env => bidR R b x env
  | _, _ => .no
@[simp] theorem bidRR_p (b : Bi) (x : D) (env : En) : bidRR R b (.pure x) env = bidR R b x env := id rfl
theorem ev_bid (b : Bi) (a : Ex) : ev R (.bid b a) = Sm.of fun env => ((ev R a).e env).bind fun x env => bidRR R b x env := of_eq fun env => by
  refine congrArg _ (funext fun x => funext fun e => ?_)
  cases x <;> rfl
theorem ev_bi (mu : Bool) (b : Bi) (a : Ex) : ev R (.bi mu b a) = Sm.of fun env => ((ev R a).e env).bind fun x env => Rs.lift ((viewD x).bind fun x => semBi mu b [x]) env := rfl
theorem ev_bi2 (mu : Bool) (b : Bi) (a c : Ex) : ev R (.bi2 mu b a c) = Sm.of fun env => ((ev R a).e env).bind fun x env => ((ev R c).e env).bind fun y env => Rs.lift ((viewD x).bind fun x => (viewD y).bind fun y => semBi mu b [x, y]) env := rfl
theorem ev_isi (c : Nat) (a : Ex) : ev R (.isi c a) = Sm.of fun env => ((ev R a).e env).bind fun x env => Rs.lift ((isiM R c x).map fun b => .pure (.bl b)) env := rfl
theorem ev_isb (c : Nat) (a : Ex) : ev R (.isb c a) = Sm.of fun env => ((ev R a).e env).bind fun x env => Rs.lift ((isbM c x).map fun b => .pure (.bl b)) env := rfl
/-- a tuple of these -/
def tupR : Option (List D) → En → Rs M
  | some ds, env => if ds.length ≤ SL then .ok (.pure (.tup ds)) env else .no
  | none, _ => .no
@[simp] theorem tupR_s (ds : List D) (env : En) (h : ds.length ≤ SL) : tupR (some ds) env = .ok (.pure (.tup ds)) env := if_pos h
theorem ev_tup (es : Ex) : ev R (.tup es) = Sm.of fun env => ((ev R es).l env).bind fun as env => tupR (valsOf as) env := of_eq fun env => by
  refine congrArg _ (funext fun x => funext fun e => ?_)
  cases valsOf x <;> rfl
def lstR (mu : Bool) : Option (List M × En) → Rs M
  | some (ms, env) => if ms.length ≤ SL then .ok (if mu then .lst ms else .pure (.lst (M.frzs ms))) env else .no
  | none => .no
@[simp] theorem lstR_t (ms : List M) (env : En) (h : ms.length ≤ SL) : lstR true (some (ms, env)) = .ok (.lst ms) env := if_pos h
@[simp] theorem lstR_f (ms : List M) (env : En) (h : ms.length ≤ SL) : lstR false (some (ms, env)) = .ok (.pure (.lst (M.frzs ms))) env := if_pos h
theorem ev_lst (mu : Bool) (es : Ex) : ev R (.lst mu es) = Sm.of fun env => ((ev R es).l env).bind fun as env => lstR mu (takeA as env) := of_eq fun env => by
  refine congrArg _ (funext fun x => funext fun e => ?_)
  cases h : takeA x e with
  | none => rfl
  | some p => rfl
theorem ev_ix (a b : Ex) : ev R (.ix a b) = Sm.of fun env => ((ev R a).e env).bind fun x env => ((ev R b).e env).bind fun y env => Rs.lift ((viewD x).bind fun x => (viewD y).bind fun y => (semIx x y).map .pure) env := rfl
theorem ev_sl (mu : Bool) (a lo hi : Ex) : ev R (.sl mu a lo hi) = Sm.of fun env => ((ev R a).e env).bind fun x env => (partR lo (ev R lo).e env).bind fun l env => (partR hi (ev R hi).e env).bind fun h env => Rs.lift ((viewD x).bind fun x => semSl mu x l h) env := rfl
/-! calls -/
theorem ev_call (f : Nat) (args : Ex) : ev R (.call f args) = Sm.of fun env => ((ev R args).l env).bind fun as env => callA (R.call f) as env := rfl
def callB (as : List Ar) (env : En) : Cr → Rs M
  | .ok m ms => .ok m (giveA as ms env)
  | .ex x => .ex x env
  | .no => .no
def callC (call : List M → Cr) (as : List Ar) : Option (List M × En) → Rs M
  | some (ms, env) => callB as env (call ms)
  | none => .no
@[simp] theorem callC_s (call : List M → Cr) (as : List Ar) (ms : List M) (env : En) : callC call as (some (ms, env)) = callB as env (call ms) := id rfl
@[simp] theorem callB_ok (as : List Ar) (env : En) (m : M) (ms : List (Option M)) : callB as env (.ok m ms) = .ok m (giveA as ms env) := id rfl
theorem callA_c (call : List M → Cr) (as : List Ar) (env : En) : callA call as env = callC call as (takeA as env) := by
  unfold callA
  cases takeA as env with
  | none => rfl
  | some p => cases h : call p.1 <;> simp [callC, h, callB]
def callW (env : En) : Cr → Rs M
  | .ok m _ => .ok m env
  | .ex x => .ex x env
  | .no => .no
@[simp] theorem callW_ok (env : En) (m : M) (ms : List (Option M)) : callW env (.ok m ms) = .ok m env := id rfl
theorem callV_w (call : List M → Cr) (ds : List D) (env : En) : callV call ds env = callW env (call (ds.map .pure)) := by
  unfold callV
  cases call (ds.map .pure) <;> rfl
@[simp] theorem takeA_nil (env : En) : takeA [] env = some ([], env) := id rfl
@[simp] theorem takeA_val (m : M) (r : List Ar) (env : En) : takeA (.val m :: r) env = (takeA r env).map fun p => (m :: p.1, p.2) := id rfl
@[simp] theorem takeA_bor (i : Nat) (r : List Ar) (env : En) : takeA (.bor i :: r) env = (slot env i).bind fun m => (takeA r (env.set i none)).map fun p => (m :: p.1, p.2) := id rfl
@[simp] theorem giveA_nil (ms : List (Option M)) (env : En) : giveA [] ms env = env := by cases ms <;> rfl
@[simp] theorem giveA_nil2 (as : List Ar) (env : En) : giveA as [] env = env := by cases as with
  | nil => rfl
  | cons a _ => cases a <;> rfl
@[simp] theorem giveA_val (m : M) (r : List Ar) (x : Option M) (ms : List (Option M)) (env : En) : giveA (.val m :: r) (x :: ms) env = giveA r ms env := id rfl
@[simp] theorem giveA_bor (i : Nat) (r : List Ar) (x : Option M) (ms : List (Option M)) (env : En) : giveA (.bor i :: r) (x :: ms) env = giveA r ms (env.set i x) := id rfl
@[simp] theorem valsOf_nil : valsOf [] = some [] := id rfl
@[simp] theorem valsOf_val (m : M) (r : List Ar) : valsOf (.val m :: r) = (valsOf r).map (m.frz :: ·) := id rfl
theorem l_nil (env : En) : (ev R .nil).l env = .ok [] env := rfl
theorem l_cons (e es : Ex) (env : En) : (ev R (.cons e es)).l env = (argOne e (ev R e).e env).bind fun a env => ((ev R es).l env).bind fun as env => .ok (a ++ as) env := rfl
def borR (i : Nat) : Option M → En → Rs (List Ar)
  | some _, env => .ok [.bor i] env
  | none, _ => .no
@[simp] theorem borR_s (i : Nat) (m : M) (env : En) : borR i (some m) env = .ok [.bor i] env := id rfl
theorem argOne_bor (i : Nat) (f : En → Rs M) (env : En) : argOne (.bor i) f env = borR i (slot env i) env := by
  show (match slot env i with | some _ => Rs.ok [Ar.bor i] env | none => .no) = _
  cases slot env i <;> rfl
def isBor : Ex → Bool
  | .bor _ => true
  | _ => false
@[simp] theorem isBor_var (x0 : Nat) : isBor (.var x0) = false := rfl
@[simp] theorem isBor_mv (x0 : Nat) : isBor (.mv x0) = false := rfl
@[simp] theorem isBor_pl (x0 : Nat) (x1 : List Pe) : isBor (.pl x0 x1) = false := rfl
@[simp] theorem isBor_plv (x0 : Nat) (x1 : List Pe) : isBor (.plv x0 x1) = false := rfl
@[simp] theorem isBor_int (x0 : Int) : isBor (.int x0) = false := rfl
@[simp] theorem isBor_str (x0 : List Nat) : isBor (.str x0) = false := rfl
@[simp] theorem isBor_bl (x0 : Bool) : isBor (.bl x0) = false := rfl
@[simp] theorem isBor_glb (x0 : Nat) : isBor (.glb x0) = false := rfl
@[simp] theorem isBor_cls (x0 : Nat) : isBor (.cls x0) = false := rfl
@[simp] theorem isBor_op2 (x0 : Bool) (x1 : O2) (x2 : Ex) (x3 : Ex) : isBor (.op2 x0 x1 x2 x3) = false := rfl
@[simp] theorem isBor_neg (x0 : Ex) : isBor (.neg x0) = false := rfl
@[simp] theorem isBor_not (x0 : Ex) : isBor (.not x0) = false := rfl
@[simp] theorem isBor_and (x0 : Ex) (x1 : Ex) : isBor (.and x0 x1) = false := rfl
@[simp] theorem isBor_or (x0 : Ex) (x1 : Ex) : isBor (.or x0 x1) = false := rfl
@[simp] theorem isBor_ite (x0 : Ex) (x1 : Ex) (x2 : Ex) : isBor (.ite x0 x1 x2) = false := rfl
@[simp] theorem isBor_cmp (x0 : C2) (x1 : Ex) (x2 : Ex) : isBor (.cmp x0 x1 x2) = false := rfl
@[simp] theorem isBor_cmpd (x0 : C2) (x1 : Ex) (x2 : Ex) : isBor (.cmpd x0 x1 x2) = false := rfl
@[simp] theorem isBor_bid (x0 : Bi) (x1 : Ex) : isBor (.bid x0 x1) = false := rfl
@[simp] theorem isBor_bi (x0 : Bool) (x1 : Bi) (x2 : Ex) : isBor (.bi x0 x1 x2) = false := rfl
@[simp] theorem isBor_bi2 (x0 : Bool) (x1 : Bi) (x2 : Ex) (x3 : Ex) : isBor (.bi2 x0 x1 x2 x3) = false := rfl
@[simp] theorem isBor_tup (x0 : Ex) : isBor (.tup x0) = false := rfl
@[simp] theorem isBor_lst (x0 : Bool) (x1 : Ex) : isBor (.lst x0 x1) = false := rfl
@[simp] theorem isBor_ix (x0 : Ex) (x1 : Ex) : isBor (.ix x0 x1) = false := rfl
@[simp] theorem isBor_sl (x0 : Bool) (x1 : Ex) (x2 : Ex) (x3 : Ex) : isBor (.sl x0 x1 x2 x3) = false := rfl
@[simp] theorem isBor_fld (x0 : Nat) (x1 : Ex) : isBor (.fld x0 x1) = false := rfl
@[simp] theorem isBor_call (x0 : Nat) (x1 : Ex) : isBor (.call x0 x1) = false := rfl
@[simp] theorem isBor_meth (x0 : Nat) (x1 : Ex) (x2 : Ex) : isBor (.meth x0 x1 x2) = false := rfl
@[simp] theorem isBor_new (x0 : Bool) (x1 : Nat) (x2 : Ex) : isBor (.new x0 x1 x2) = false := rfl
@[simp] theorem isBor_lc (x0 : Bool) (x1 : Ex) (x2 : Tg) (x3 : Ex) (x4 : Ex) : isBor (.lc x0 x1 x2 x3 x4) = false := rfl
@[simp] theorem isBor_fz (x0 : Ex) : isBor (.fz x0) = false := rfl
@[simp] theorem isBor_frp (x0 : Nat) (x1 : List Pe) : isBor (.frp x0 x1) = false := rfl
@[simp] theorem isBor_callk (x0 : Nat) (x1 : Ex) (x2 : Ex) : isBor (.callk x0 x1 x2) = false := rfl
@[simp] theorem isBor_methk (x0 : Nat) (x1 : Nat) (x2 : Ex) (x3 : Ex) (x4 : Ex) : isBor (.methk x0 x1 x2 x3 x4) = false := rfl
@[simp] theorem isBor_newk (x0 : Bool) (x1 : Nat) (x2 : Nat) (x3 : Ex) (x4 : Ex) : isBor (.newk x0 x1 x2 x3 x4) = false := rfl
@[simp] theorem isBor_sss (x0 : Bool) (x1 : Ex) (x2 : Tg) (x3 : Ex) : isBor (.sss x0 x1 x2 x3) = false := rfl
@[simp] theorem isBor_isb (x0 : Nat) (x1 : Ex) : isBor (.isb x0 x1) = false := rfl
@[simp] theorem isBor_isi (x0 : Nat) (x1 : Ex) : isBor (.isi x0 x1) = false := rfl
@[simp] theorem isBor_rev (x0 : Bool) (x1 : Ex) : isBor (.rev x0 x1) = false := rfl
@[simp] theorem isBor_lc2 (x0 : Bool) (x1 : Ex) (x2 : Tg) (x3 : Ex) (x4 : Tg) (x5 : Ex) (x6 : Ex) : isBor (.lc2 x0 x1 x2 x3 x4 x5 x6) = false := rfl
@[simp] theorem isBor_dc (x0 : Ex) (x1 : Tg) (x2 : Ex) (x3 : Ex) (x4 : Ex) : isBor (.dc x0 x1 x2 x3 x4) = false := rfl
@[simp] theorem isBor_fstr (x0 : Ex) : isBor (.fstr x0) = false := rfl
@[simp] theorem isBor_pop (x0 : Nat) (x1 : List Pe) : isBor (.pop x0 x1) = false := rfl
@[simp] theorem isBor_popAt (x0 : Nat) (x1 : List Pe) (x2 : Ex) : isBor (.popAt x0 x1 x2) = false := rfl
@[simp] theorem isBor_bm (x0 : Bool) (x1 : Bm) (x2 : Ex) (x3 : Ex) : isBor (.bm x0 x1 x2 x3) = false := rfl
@[simp] theorem isBor_chain (x0 : C2) (x1 : C2) (x2 : Ex) (x3 : Ex) (x4 : Ex) : isBor (.chain x0 x1 x2 x3 x4) = false := rfl
@[simp] theorem isBor_meths (x0 : Nat) (x1 : Ex) (x2 : Ex) : isBor (.meths x0 x1 x2) = false := rfl
@[simp] theorem isBor_newv (x0 : Bool) (x1 : Nat) (x2 : Ex) : isBor (.newv x0 x1 x2) = false := rfl
@[simp] theorem isBor_cmeth (x0 : Nat) (x1 : Nat) (x2 : Ex) : isBor (.cmeth x0 x1 x2) = false := rfl
@[simp] theorem isBor_non : isBor .non = false := rfl
theorem argOne_val (e : Ex) (f : En → Rs M) (env : En) (h : isBor e = false) : argOne e f env = (f env).bind fun m env => .ok [.val m] env := by
  cases e <;> first | rfl | cases h
def methR (R : Rt) (a0 : List Ar) (args : Ex) (env : En) : Option Nat → Rs M
  | some f => ((ev R args).l env).bind fun as env => callA (R.call f) (a0 ++ as) env
  | none => .no
@[simp] theorem methR_s (a0 : List Ar) (args : Ex) (env : En) (f : Nat) : methR R a0 args env (some f) = ((ev R args).l env).bind fun as env => callA (R.call f) (a0 ++ as) env := id rfl
theorem ev_meth (m : Nat) (r args : Ex) : ev R (.meth m r args) = Sm.of fun env => (argOne r (ev R r).e env).bind fun a0 env => methR R a0 args env ((headM a0 env).bind fun x => (clsOf x).bind fun c => if lacks m x then R.meth c m else none) := of_eq fun env => by
  refine congrArg _ (funext fun x => funext fun e => ?_)
  cases ((headM x e).bind fun x => (clsOf x).bind fun c => if lacks m x then R.meth c m else none) <;> rfl
@[simp] theorem headM_val (m : M) (env : En) : headM [.val m] env = some m := id rfl
@[simp] theorem headM_bor (i : Nat) (env : En) : headM [.bor i] env = slot env i := id rfl
/-- a new instance out of its __init__ -/
def newC (mu : Bool) (as : List Ar) (env : En) : Cr → Rs M
  | .ok (.pure .non) (some m :: ms) => .ok (if mu then m else .pure m.frz) (giveA as ms env)
  | .ok _ _ => .no
  | .ex x => .ex x env
  | .no => .no
@[simp] theorem newC_ok (mu : Bool) (as : List Ar) (env : En) (m : M) (ms : List (Option M)) : newC mu as env (.ok (.pure .non) (some m :: ms)) = .ok (if mu then m else .pure m.frz) (giveA as ms env) := id rfl
def newB (R : Rt) (mu : Bool) (c f : Nat) (as : List Ar) : Option (List M × En) → Rs M
  | some (ms, env) => newC mu as env (R.call f (.ins c [] :: ms))
  | none => .no
@[simp] theorem newB_s (mu : Bool) (c f : Nat) (as : List Ar) (ms : List M) (env : En) : newB R mu c f as (some (ms, env)) = newC mu as env (R.call f (.ins c [] :: ms)) := id rfl
def newR (R : Rt) (mu : Bool) (c : Nat) (as : List Ar) (env : En) : Option Nat → Rs M
  | some f => newB R mu c f as (takeA as env)
  | none => .no
@[simp] theorem newR_s (mu : Bool) (c f : Nat) (as : List Ar) (env : En) : newR R mu c as env (some f) = newB R mu c f as (takeA as env) := id rfl
theorem ev_new (mu : Bool) (c : Nat) (args : Ex) : ev R (.new mu c args) = Sm.of fun env => ((ev R args).l env).bind fun as env => newR R mu c as env (R.init c) := of_eq fun env => by
  refine congrArg _ (funext fun x => funext fun e => ?_)
  cases R.init c with
  | none => rfl
  | some f =>
    show _ = newB R mu c f x (takeA x e)
    cases h : takeA x e with
    | none => simp [newB, h]
    | some p =>
      obtain ⟨ms1, e1⟩ := p
      simp only [newB_s, h]
      cases h2 : R.call f (.ins c [] :: ms1) with
      | ok m ms =>
        cases m with
        | pure d =>
          cases d <;> rfl
        | _ => rfl
      | ex x => rfl
      | no => rfl
/-! places -/
@[simp] theorem getPl_d (env : En) (i : Nat) (ps : List Pe) : getPl env i ps = (slot env i).bind fun m => (pathV env ps).bind fun q => getP q m := id rfl
@[simp] theorem modPl_d (env : En) (i : Nat) (ps : List Pe) (h : M → Option M) : modPl env i ps h = (slot env i).bind fun m => (pathV env ps).bind fun q => (modP h q m).map fun m' => env.set i (some m') := id rfl
@[simp] theorem pathV_nil (env : En) : pathV env [] = some [] := id rfl
@[simp] theorem pathV_fld (env : En) (f : Nat) (ps : List Pe) : pathV env (.fld f :: ps) = (pathV env ps).map (.fld f :: ·) := id rfl
@[simp] theorem pathV_ixc (env : En) (f : Nat) (ps : List Pe) : pathV env (.ixc f :: ps) = (pathV env ps).map (.ix f :: ·) := id rfl
def pxR : Option M → Option (List PeV) → Option (List PeV)
  | some (.pure (.int n)), o => if 0 ≤ n then o.map (.ix n.toNat :: ·) else none
  | _, _ => none
@[simp] theorem pxR_n (n : Nat) (o : Option (List PeV)) : pxR (some (.pure (.int n))) o = o.map (.ix n :: ·) := by
  show (if (0 : Int) ≤ (n : Int) then o.map (PeV.ix (n : Int).toNat :: ·) else none) = _
  rw [if_pos (Int.natCast_nonneg n)]; rfl
@[simp] theorem pathV_ixs (env : En) (i : Nat) (ps : List Pe) : pathV env (.ixs i :: ps) = pxR (slot env i) (pathV env ps) := by
  show (match slot env i with | some (.pure (.int n)) => _ | _ => _) = _
  cases slot env i with
  | none => rfl
  | some m => cases m with
    | pure d => cases d <;> rfl
    | _ => rfl
@[simp] theorem getP_nil (m : M) : getP [] m = some m := id rfl
@[simp] theorem modP_nil (h : M → Option M) (m : M) : modP h [] m = h m := id rfl
@[simp] theorem getP_fld (c f : Nat) (ps : List PeV) (fs : List (Nat × M)) : getP (.fld f :: ps) (.ins c fs) = (fs.lookup f).bind (getP ps) := id rfl
@[simp] theorem getP_ix (i : Nat) (ps : List PeV) (ms : List M) : getP (.ix i :: ps) (.lst ms) = ms[i]?.bind (getP ps) := id rfl
@[simp] theorem modP_fld (h : M → Option M) (c f : Nat) (ps : List PeV) (fs : List (Nat × M)) : modP h (.fld f :: ps) (.ins c fs) = (fs.lookup f).bind fun m => (modP h ps m).map fun m' => .ins c (setF f m' fs) := id rfl
@[simp] theorem modP_ix (h : M → Option M) (i : Nat) (ps : List PeV) (ms : List M) : modP h (.ix i :: ps) (.lst ms) = ms[i]?.bind fun m => (modP h ps m).map fun m' => .lst (ms.set i m') := id rfl
/-! statements -/
theorem ex_skip (env : En) : exec R .skip env = .nx env := rfl
theorem ex_seq (a b : Sx) (env : En) : exec R (.seq a b) env = (exec R a env).andThen (exec R b) := rfl
theorem ex_set (i : Nat) (e : Ex) (env : En) : exec R (.set i e) env = (((ev R e).e env).bind fun m env => .ok (env.set i (some m)) env).out := rfl
theorem ex_setT (is : List Nat) (e : Ex) (env : En) : exec R (.setT is e) env = (((ev R e).e env).bind fun m env => Rs.lift (bindTg (.tup is) m.frz env) env).out := rfl
theorem ex_par (i j : Nat) (a b : Ex) (env : En) : exec R (.par i j a b) env = (((ev R a).e env).bind fun x env => ((ev R b).e env).bind fun y env => .ok ((env.set i (some x)).set j (some y)) env).out := rfl
/-- an append, an item, as a place's step -/
def appR (R : Rt) (i : Nat) (ps : List Pe) (e : Ex) (env : En) : Option En → Out
  | some _ => (((ev R e).e env).bind fun m env => Rs.lift (modPl env i ps (appL m)) env).out
  | none => .no
@[simp] theorem appR_s (i : Nat) (ps : List Pe) (e : Ex) (env x : En) : appR R i ps e env (some x) = (((ev R e).e env).bind fun m env => Rs.lift (modPl env i ps (appL m)) env).out := id rfl
theorem ex_app (i : Nat) (ps : List Pe) (e : Ex) (env : En) : exec R (.app i ps e) env = appR R i ps e env (modPl env i ps keepL) := by
  show (match modPl env i ps keepL with | some _ => _ | none => _) = _
  cases modPl env i ps keepL <;> rfl
def setxR (R : Rt) (i : Nat) (ps : List Pe) (k : Ex) (m : M) (env : En) : Option En → Rs En
  | some _ => ((ev R k).e env).bind fun x env => Rs.lift (modPl env i ps (setL m x)) env
  | none => .no
@[simp] theorem setxR_s (i : Nat) (ps : List Pe) (k : Ex) (m : M) (env x : En) : setxR R i ps k m env (some x) = ((ev R k).e env).bind fun x env => Rs.lift (modPl env i ps (setL m x)) env := id rfl
theorem ex_setx (i : Nat) (ps : List Pe) (k e : Ex) (env : En) : exec R (.setx i ps k e) env = (((ev R e).e env).bind fun m env => setxR R i ps k m env (modPl env i ps keepL)).out := by
  refine congrArg Rs.out (congrArg _ (funext fun m => funext fun env => ?_))
  cases modPl env i ps keepL <;> rfl
theorem ex_setf (i : Nat) (ps : List Pe) (f : Nat) (e : Ex) (env : En) : exec R (.setf i ps f e) env = (((ev R e).e env).bind fun m env => Rs.lift (modPl env i ps (setI R f m)) env).out := rfl
theorem ex_ex (e : Ex) (env : En) : exec R (.ex e) env = (((ev R e).e env).bind fun _ env => .ok env env).out := rfl
def retO : Rs M → Out
  | .ok m env => .rt m env
  | .ex x env => .ex x env
  | .no => .no
@[simp] theorem retO_ok (m : M) (env : En) : retO (.ok m env) = .rt m env := id rfl
theorem ex_ret (e : Ex) (env : En) : exec R (.ret e) env = retO ((ev R e).e env) := by
  show (match (ev R e).e env with | .ok m env => _ | .ex x env => _ | .no => _) = _
  cases (ev R e).e env <;> rfl
theorem ex_ret0 (env : En) : exec R .ret0 env = .rt (.pure .non) env := rfl
def iteO (R : Rt) (a b : Sx) : Rs Bool → Out
  | .ok true env => exec R a env
  | .ok false env => exec R b env
  | .ex x env => .ex x env
  | .no => .no
@[simp] theorem iteO_ok (a b : Sx) (x : Bool) (env : En) : iteO R a b (.ok x env) = if x then exec R a env else exec R b env := by cases x <;> rfl
theorem ex_ite (c : Ex) (a b : Sx) (env : En) : exec R (.ite c a b) env = iteO R a b ((ev R c).t env) := by
  show (match (ev R c).t env with | .ok true env => _ | .ok false env => _ | .ex x env => _ | .no => _) = _
  cases (ev R c).t env with
  | ok b e => cases b <;> rfl
  | _ => rfl
def turnF (R : Rt) (tg : Tg) (a : Sx) (d : D) (env : En) : Out := match bindTg tg d env with
  | some env => exec R a env
  | none => .no
theorem turnF_s {tg : Tg} {a : Sx} {d : D} {env env1 : En} (h : bindTg tg d env = some env1) : turnF R tg a d env = exec R a env1 := by
  unfold turnF; rw [h]
def forO (R : Rt) (tg : Tg) (a : Sx) : Rs (List D × List (Nat × M)) → Out
  | .ok dl env => if lentOk (tg.slots ++ asg a) dl.2 then (forL (turnF R tg a) dl.1 env).backL dl.2 else .no
  | .ex x env => .ex x env
  | .no => .no
@[simp] theorem forO_ok (tg : Tg) (a : Sx) (ds : List D) (env : En) : forO R tg a (.ok (ds, []) env) = (forL (turnF R tg a) ds env).backL [] := id rfl
theorem ex_for (it : Ex) (tg : Tg) (a : Sx) (env : En) : exec R (.for it tg a) env = forO R tg a ((ev R it).i env) := by
  show (match (ev R it).i env with | .ok dl env => _ | .ex x env => _ | .no => _) = _
  cases (ev R it).i env <;> rfl
@[simp] theorem backL_nx (env : En) : (Out.nx env).backL [] = .nx env := id rfl
@[simp] theorem backL_rt (m : M) (env : En) : (Out.rt m env).backL [] = .rt m env := id rfl
/-! what is walked -/
def rng1R : M → En → Rs (List D × List (Nat × M))
  | .pure (.int n), env => if n < SL ∧ -(2 ^ 60) < n then .ok (rngD 0 n.toNat, []) env else .no
  | _, _ => .no
theorem rng1R_i (n : Int) (env : En) (h : n < SL ∧ -(2 ^ 60) < n) : rng1R (.pure (.int n)) env = .ok (rngD 0 n.toNat, []) env := if_pos h
theorem rng1R_n (n : Nat) (env : En) (h : n < SL) : rng1R (.pure (.int n)) env = .ok (rngD 0 n, []) env := by
  have h1 : (n : Int) < (SL : Int) := by exact_mod_cast h
  have h2 : -(2 ^ 60) < (n : Int) := by omega
  rw [rng1R_i _ _ ⟨h1, h2⟩, Int.toNat_natCast]
theorem i_rng1 (a : Ex) (env : En) : (ev R (.rng1 a)).i env = ((ev R a).e env).bind rng1R := by
  refine congrArg (Rs.bind ((ev R a).e env)) (funext fun x => funext fun e => ?_)
  cases x with
  | pure d => cases d <;> rfl
  | _ => rfl
def rng2R : M → M → En → Rs (List D × List (Nat × M))
  | .pure (.int m), .pure (.int n), env => if -(2 ^ 60) < m ∧ m < 2 ^ 60 ∧ -(2 ^ 60) < n ∧ n < 2 ^ 60 ∧ n - m < SL then .ok (rngD m (n - m).toNat, []) env else .no
  | _, _, _ => .no
theorem rng2R_n (m n : Int) (env : En) (h : -(2 ^ 60) < m ∧ m < 2 ^ 60 ∧ -(2 ^ 60) < n ∧ n < 2 ^ 60 ∧ n - m < SL) : rng2R (.pure (.int m)) (.pure (.int n)) env = .ok (rngD m (n - m).toNat, []) env := if_pos h
theorem i_rng2 (a b : Ex) (env : En) : (ev R (.rng2 a b)).i env = ((ev R a).e env).bind fun x env => ((ev R b).e env).bind fun y env => rng2R x y env := by
  refine congrArg (Rs.bind ((ev R a).e env)) (funext fun x => funext fun e => congrArg (Rs.bind ((ev R b).e e)) (funext fun y => funext fun e => ?_))
  cases x with
  | pure d => cases d <;> cases y with
    | pure d => cases d <;> rfl
    | _ => rfl
  | _ => cases y <;> rfl
theorem i_zip (a b : Ex) (env : En) : (ev R (.zip a b)).i env = ((ev R a).i env).bind fun dl env => ((ev R b).i env).bind fun dl2 env => .ok ((dl.1.zip dl2.1).map fun p => .tup [p.1, p.2], dl.2 ++ dl2.2) env := rfl
theorem i_enum (a : Ex) (env : En) : (ev R (.enum a)).i env = ((ev R a).i env).bind fun dl env => .ok (dl.1.zipIdx.map fun p => .tup [.int p.2, p.1], dl.2) env := rfl
/-! comprehensions -/
def lcEnd (mu : Bool) (ms : List M) : Option En → Rs M
  | some env => if ms.length ≤ SL then .ok (if mu then .lst ms else .pure (.lst (M.frzs ms))) env else .no
  | none => .no
@[simp] theorem lcEnd_t (ms : List M) (env : En) (h : ms.length ≤ SL) : lcEnd true ms (some env) = .ok (.lst ms) env := if_pos h
@[simp] theorem lcEnd_f (ms : List M) (env : En) (h : ms.length ≤ SL) : lcEnd false ms (some env) = .ok (.pure (.lst (M.frzs ms))) env := if_pos h
theorem ev_lc (mu : Bool) (it : Ex) (tg : Tg) (c e : Ex) : ev R (.lc mu it tg c e) = Sm.of fun env => ((ev R it).i env).bind fun dl env1 =>
    (lcLoop (turnR tg (ev R c).t (ev R e).e) dl.1 env1).bind fun ms env2 => lcEnd mu ms ((backE env1 tg.slots env2).bind (giveL dl.2)) := of_eq fun env => by
  refine congrArg _ (funext fun x => funext fun e => congrArg _ (funext fun y => funext fun e => ?_))
  cases (backE _ tg.slots e).bind (giveL x.2) <;> rfl
def sssE (mu : Bool) (o : Option (List (List Int))) : Option En → Rs M
  | some env => (match o with
    | some ts => if tupsOk ts then .ok (mkL mu (tupD (sortT (dedupT ts)))) env else .no
    | none => .no)
  | none => .no
theorem sssE_s (mu : Bool) (ts : List (List Int)) (env : En) (h : tupsOk ts = true) : sssE mu (some ts) (some env) = .ok (mkL mu (tupD (sortT (dedupT ts)))) env := if_pos h
theorem ev_sss (mu : Bool) (it : Ex) (tg : Tg) (e : Ex) : ev R (.sss mu it tg e) = Sm.of fun env => ((ev R it).i env).bind fun dl env1 =>
    (lcLoop (turnR tg (fun env => .ok true env) (ev R e).e) dl.1 env1).bind fun ms env2 => sssE mu (allTups (M.frzs ms)) ((backE env1 tg.slots env2).bind (giveL dl.2)) := of_eq fun env => by
  refine congrArg _ (funext fun x => funext fun e => congrArg _ (funext fun y => funext fun e => ?_))
  cases (backE _ tg.slots e).bind (giveL x.2) <;> rfl
theorem ev_fz (a : Ex) : ev R (.fz a) = Sm.of fun env => ((ev R a).e env).bind fun x env => .ok (.pure x.frz) env := rfl
def frpR : Option En → Option M → Rs M
  | some env, some m => .ok (.pure m.frz) env
  | _, _ => .no
@[simp] theorem frpR_s (env : En) (m : M) : frpR (some env) (some m) = .ok (.pure m.frz) env := id rfl
theorem ev_frp (i : Nat) (ps : List Pe) : ev R (.frp i ps) = Sm.of fun env => frpR (modPl env i ps (fun m => some (.pure m.frz))) (getPl env i ps) := of_eq fun env => by
  cases modPl env i ps (fun m => some (.pure m.frz)) <;> cases getPl env i ps <;> rfl
@[simp] theorem lcLoop_nil (f : D → En → Rs (Option M)) (env : En) : lcLoop f [] env = .ok [] env := id rfl
def lcJ (o : Option M) (ms : List M) (env : En) : Rs (List M) := match o with
  | some m => .ok (m :: ms) env
  | none => .ok ms env
@[simp] theorem lcJ_s (m : M) (ms : List M) (env : En) : lcJ (some m) ms env = .ok (m :: ms) env := id rfl
@[simp] theorem lcJ_n (ms : List M) (env : En) : lcJ none ms env = .ok ms env := id rfl
@[simp] theorem lcLoop_cons (f : D → En → Rs (Option M)) (d : D) (ds : List D) (v : Option M) (l : En) : lcLoop f (d :: ds) (v :: l) = (f d (v :: l)).bind fun o env => (lcLoop f ds env).bind fun ms env => lcJ o ms env := by
  show Rs.bind _ _ = _
  refine congrArg (Rs.bind (f d (v :: l))) (funext fun o => funext fun env => congrArg (Rs.bind (lcLoop f ds env)) (funext fun ms => funext fun e => ?_))
  cases o <;> rfl
def turnI (e : En → Rs M) (b : Bool) (env : En) : Rs (Option M) := if b then (e env).bind fun m env => .ok (some m) env else .ok none env
@[simp] theorem turnI_t (e : En → Rs M) (env : En) : turnI e true env = (e env).bind fun m env => .ok (some m) env := id rfl
@[simp] theorem turnI_f (e : En → Rs M) (env : En) : turnI e false env = .ok none env := id rfl
def turnB (t : En → Rs Bool) (e : En → Rs M) : Option En → Rs (Option M)
  | some env => (t env).bind fun b env => turnI e b env
  | none => .no
@[simp] theorem turnB_s (t : En → Rs Bool) (e : En → Rs M) (env : En) : turnB t e (some env) = (t env).bind fun b env => turnI e b env := id rfl
@[simp] theorem turnR_b (tg : Tg) (t : En → Rs Bool) (e : En → Rs M) (d : D) (v : Option M) (l : En) : turnR tg t e d (v :: l) = turnB t e (bindTg tg d (wipeE (v :: l) tg.slots)) := by
  unfold turnR turnB
  cases bindTg tg d (wipeE (v :: l) tg.slots) <;> rfl
@[simp] theorem slots_one (i : Nat) : (Tg.one i).slots = [i] := id rfl
@[simp] theorem slots_tup (is : List Nat) : (Tg.tup is).slots = is := id rfl
@[simp] theorem bindTg_one (i : Nat) (d : D) (env : En) : bindTg (.one i) d env = some (env.set i (some (.pure d))) := id rfl
@[simp] theorem bindTg_tt (is : List Nat) (ds : List D) (env : En) : bindTg (.tup is) (.tup ds) env = setAll is ds env := id rfl
@[simp] theorem setAll_nil (env : En) : setAll [] [] env = some env := id rfl
@[simp] theorem setAll_cons (i : Nat) (is : List Nat) (d : D) (ds : List D) (env : En) : setAll (i :: is) (d :: ds) env = setAll is ds (env.set i (some (.pure d))) := id rfl
@[simp] theorem wipeE_nil (env : En) : wipeE env [] = env := id rfl
@[simp] theorem wipeE_cons (env : En) (i : Nat) (is : List Nat) : wipeE env (i :: is) = (wipeE env is).set i none := id rfl
@[simp] theorem giveL_nil (env : En) : giveL [] env = some env := id rfl
@[simp] theorem backE_nil (old env : En) : backE old [] env = some env := id rfl
def backO (old : En) (is : List Nat) (env : En) (i : Nat) : Option M → Option En
  | none => backE old is (env.set i none)
  | some (.pure d) => backE old is (env.set i (some (.pure d)))
  | _ => none
@[simp] theorem backO_n (old : En) (is : List Nat) (env : En) (i : Nat) : backO old is env i none = backE old is (env.set i none) := id rfl
@[simp] theorem backO_s (old : En) (is : List Nat) (env : En) (i : Nat) (d : D) : backO old is env i (some (.pure d)) = backE old is (env.set i (some (.pure d))) := id rfl
@[simp] theorem backE_cons (old env : En) (i : Nat) (is : List Nat) : backE old (i :: is) env = backO old is env i (slot old i) := by
  show (match slot old i with | none => _ | some (.pure d) => _ | _ => _) = _
  cases slot old i with
  | none => rfl
  | some m => cases m <;> rfl
@[simp] theorem forL_nil (b : D → En → Out) (env : En) : forL b [] env = .nx env := id rfl
def forK (b : D → En → Out) (ds : List D) : Out → Out
  | .nx env => forL b ds env
  | .ct env => forL b ds env
  | .bk env => .nx env
  | o => o
@[simp] theorem forK_nx (b : D → En → Out) (ds : List D) (env : En) : forK b ds (.nx env) = forL b ds env := id rfl
@[simp] theorem forK_ct (b : D → En → Out) (ds : List D) (env : En) : forK b ds (.ct env) = forL b ds env := id rfl
@[simp] theorem forK_rt (b : D → En → Out) (ds : List D) (m : M) (env : En) : forK b ds (.rt m env) = .rt m env := id rfl
@[simp] theorem forL_cons (b : D → En → Out) (d : D) (ds : List D) (v : Option M) (l : En) : forL b (d :: ds) (v :: l) = forK b ds (b d (v :: l)) := by
  unfold forL
  cases b d (v :: l) <;> rfl
def turnG (R : Rt) (a : Sx) : Option En → Out
  | some env => exec R a env
  | none => .no
@[simp] theorem turnG_s (a : Sx) (env : En) : turnG R a (some env) = exec R a env := id rfl
@[simp] theorem turnF_g (tg : Tg) (a : Sx) (d : D) (v : Option M) (l : En) : turnF R tg a d (v :: l) = turnG R a (bindTg tg d (v :: l)) := by
  unfold turnF turnG
  cases bindTg tg d (v :: l) <;> rfl
@[simp] theorem backO_m (old : En) (is : List Nat) (env : En) (i : Nat) (d : Option D) : backO old is env i (d.map .pure) = backE old is (env.set i (d.map .pure)) := by cases d <;> rfl
/-! fields -/
def fldRR (R : Rt) (f : Nat) : M → En → Rs M
  | .pure d, env => fldR R f d env
  | _, _ => .no
@[simp] theorem fldRR_p (f : Nat) (d : D) (env : En) : fldRR R f (.pure d) env = fldR R f d env := id rfl
theorem se_fld (f : Nat) (e : Ex) (v : Option M) (l : En) (h : isBor e = false) : (ev R (.fld f e)).e (v :: l) = ((ev R e).e (v :: l)).bind fun x env => fldRR R f x env := by
  have : ∀ (g : En → Rs M) (env : En), ((g env).bind fun x env => (match x with | .pure d => fldR R f d env | _ => Rs.no)) = (g env).bind fun x env => fldRR R f x env := fun g env => by
    refine congrArg (Rs.bind (g env)) (funext fun x => funext fun e => ?_)
    cases x <;> rfl
  cases e <;> first | exact this (ev R _).e (v :: l) | rfl | (cases h; done)
@[simp] theorem sf_var (f : Nat) (x0 : Nat) (v : Option M) (l : En) : (ev R (.fld f (.var x0))).e (v :: l) = ((ev R (.var x0)).e (v :: l)).bind fun x env => fldRR R f x env := se_fld f _ v l rfl
@[simp] theorem sf_mv (f : Nat) (x0 : Nat) (v : Option M) (l : En) : (ev R (.fld f (.mv x0))).e (v :: l) = ((ev R (.mv x0)).e (v :: l)).bind fun x env => fldRR R f x env := se_fld f _ v l rfl
@[simp] theorem sf_pl (f : Nat) (x0 : Nat) (x1 : List Pe) (v : Option M) (l : En) : (ev R (.fld f (.pl x0 x1))).e (v :: l) = ((ev R (.pl x0 x1)).e (v :: l)).bind fun x env => fldRR R f x env := se_fld f _ v l rfl
@[simp] theorem sf_plv (f : Nat) (x0 : Nat) (x1 : List Pe) (v : Option M) (l : En) : (ev R (.fld f (.plv x0 x1))).e (v :: l) = ((ev R (.plv x0 x1)).e (v :: l)).bind fun x env => fldRR R f x env := se_fld f _ v l rfl
@[simp] theorem sf_int (f : Nat) (x0 : Int) (v : Option M) (l : En) : (ev R (.fld f (.int x0))).e (v :: l) = ((ev R (.int x0)).e (v :: l)).bind fun x env => fldRR R f x env := se_fld f _ v l rfl
@[simp] theorem sf_str (f : Nat) (x0 : List Nat) (v : Option M) (l : En) : (ev R (.fld f (.str x0))).e (v :: l) = ((ev R (.str x0)).e (v :: l)).bind fun x env => fldRR R f x env := se_fld f _ v l rfl
@[simp] theorem sf_bl (f : Nat) (x0 : Bool) (v : Option M) (l : En) : (ev R (.fld f (.bl x0))).e (v :: l) = ((ev R (.bl x0)).e (v :: l)).bind fun x env => fldRR R f x env := se_fld f _ v l rfl
@[simp] theorem sf_glb (f : Nat) (x0 : Nat) (v : Option M) (l : En) : (ev R (.fld f (.glb x0))).e (v :: l) = ((ev R (.glb x0)).e (v :: l)).bind fun x env => fldRR R f x env := se_fld f _ v l rfl
@[simp] theorem sf_cls (f : Nat) (x0 : Nat) (v : Option M) (l : En) : (ev R (.fld f (.cls x0))).e (v :: l) = ((ev R (.cls x0)).e (v :: l)).bind fun x env => fldRR R f x env := se_fld f _ v l rfl
@[simp] theorem sf_op2 (f : Nat) (x0 : Bool) (x1 : O2) (x2 : Ex) (x3 : Ex) (v : Option M) (l : En) : (ev R (.fld f (.op2 x0 x1 x2 x3))).e (v :: l) = ((ev R (.op2 x0 x1 x2 x3)).e (v :: l)).bind fun x env => fldRR R f x env := se_fld f _ v l rfl
@[simp] theorem sf_neg (f : Nat) (x0 : Ex) (v : Option M) (l : En) : (ev R (.fld f (.neg x0))).e (v :: l) = ((ev R (.neg x0)).e (v :: l)).bind fun x env => fldRR R f x env := se_fld f _ v l rfl
@[simp] theorem sf_not (f : Nat) (x0 : Ex) (v : Option M) (l : En) : (ev R (.fld f (.not x0))).e (v :: l) = ((ev R (.not x0)).e (v :: l)).bind fun x env => fldRR R f x env := se_fld f _ v l rfl
@[simp] theorem sf_and (f : Nat) (x0 : Ex) (x1 : Ex) (v : Option M) (l : En) : (ev R (.fld f (.and x0 x1))).e (v :: l) = ((ev R (.and x0 x1)).e (v :: l)).bind fun x env => fldRR R f x env := se_fld f _ v l rfl
@[simp] theorem sf_or (f : Nat) (x0 : Ex) (x1 : Ex) (v : Option M) (l : En) : (ev R (.fld f (.or x0 x1))).e (v :: l) = ((ev R (.or x0 x1)).e (v :: l)).bind fun x env => fldRR R f x env := se_fld f _ v l rfl
@[simp] theorem sf_ite (f : Nat) (x0 : Ex) (x1 : Ex) (x2 : Ex) (v : Option M) (l : En) : (ev R (.fld f (.ite x0 x1 x2))).e (v :: l) = ((ev R (.ite x0 x1 x2)).e (v :: l)).bind fun x env => fldRR R f x env := se_fld f _ v l rfl
@[simp] theorem sf_cmp (f : Nat) (x0 : C2) (x1 : Ex) (x2 : Ex) (v : Option M) (l : En) : (ev R (.fld f (.cmp x0 x1 x2))).e (v :: l) = ((ev R (.cmp x0 x1 x2)).e (v :: l)).bind fun x env => fldRR R f x env := se_fld f _ v l rfl
@[simp] theorem sf_cmpd (f : Nat) (x0 : C2) (x1 : Ex) (x2 : Ex) (v : Option M) (l : En) : (ev R (.fld f (.cmpd x0 x1 x2))).e (v :: l) = ((ev R (.cmpd x0 x1 x2)).e (v :: l)).bind fun x env => fldRR R f x env := se_fld f _ v l rfl
@[simp] theorem sf_bid (f : Nat) (x0 : Bi) (x1 : Ex) (v : Option M) (l : En) : (ev R (.fld f (.bid x0 x1))).e (v :: l) = ((ev R (.bid x0 x1)).e (v :: l)).bind fun x env => fldRR R f x env := se_fld f _ v l rfl
@[simp] theorem sf_bi (f : Nat) (x0 : Bool) (x1 : Bi) (x2 : Ex) (v : Option M) (l : En) : (ev R (.fld f (.bi x0 x1 x2))).e (v :: l) = ((ev R (.bi x0 x1 x2)).e (v :: l)).bind fun x env => fldRR R f x env := se_fld f _ v l rfl
@[simp] theorem sf_bi2 (f : Nat) (x0 : Bool) (x1 : Bi) (x2 : Ex) (x3 : Ex) (v : Option M) (l : En) : (ev R (.fld f (.bi2 x0 x1 x2 x3))).e (v :: l) = ((ev R (.bi2 x0 x1 x2 x3)).e (v :: l)).bind fun x env => fldRR R f x env := se_fld f _ v l rfl
@[simp] theorem sf_tup (f : Nat) (x0 : Ex) (v : Option M) (l : En) : (ev R (.fld f (.tup x0))).e (v :: l) = ((ev R (.tup x0)).e (v :: l)).bind fun x env => fldRR R f x env := se_fld f _ v l rfl
@[simp] theorem sf_lst (f : Nat) (x0 : Bool) (x1 : Ex) (v : Option M) (l : En) : (ev R (.fld f (.lst x0 x1))).e (v :: l) = ((ev R (.lst x0 x1)).e (v :: l)).bind fun x env => fldRR R f x env := se_fld f _ v l rfl
@[simp] theorem sf_ix (f : Nat) (x0 : Ex) (x1 : Ex) (v : Option M) (l : En) : (ev R (.fld f (.ix x0 x1))).e (v :: l) = ((ev R (.ix x0 x1)).e (v :: l)).bind fun x env => fldRR R f x env := se_fld f _ v l rfl
@[simp] theorem sf_sl (f : Nat) (x0 : Bool) (x1 : Ex) (x2 : Ex) (x3 : Ex) (v : Option M) (l : En) : (ev R (.fld f (.sl x0 x1 x2 x3))).e (v :: l) = ((ev R (.sl x0 x1 x2 x3)).e (v :: l)).bind fun x env => fldRR R f x env := se_fld f _ v l rfl
@[simp] theorem sf_fld (f : Nat) (x0 : Nat) (x1 : Ex) (v : Option M) (l : En) : (ev R (.fld f (.fld x0 x1))).e (v :: l) = ((ev R (.fld x0 x1)).e (v :: l)).bind fun x env => fldRR R f x env := se_fld f _ v l rfl
@[simp] theorem sf_call (f : Nat) (x0 : Nat) (x1 : Ex) (v : Option M) (l : En) : (ev R (.fld f (.call x0 x1))).e (v :: l) = ((ev R (.call x0 x1)).e (v :: l)).bind fun x env => fldRR R f x env := se_fld f _ v l rfl
@[simp] theorem sf_meth (f : Nat) (x0 : Nat) (x1 : Ex) (x2 : Ex) (v : Option M) (l : En) : (ev R (.fld f (.meth x0 x1 x2))).e (v :: l) = ((ev R (.meth x0 x1 x2)).e (v :: l)).bind fun x env => fldRR R f x env := se_fld f _ v l rfl
@[simp] theorem sf_new (f : Nat) (x0 : Bool) (x1 : Nat) (x2 : Ex) (v : Option M) (l : En) : (ev R (.fld f (.new x0 x1 x2))).e (v :: l) = ((ev R (.new x0 x1 x2)).e (v :: l)).bind fun x env => fldRR R f x env := se_fld f _ v l rfl
@[simp] theorem sf_lc (f : Nat) (x0 : Bool) (x1 : Ex) (x2 : Tg) (x3 : Ex) (x4 : Ex) (v : Option M) (l : En) : (ev R (.fld f (.lc x0 x1 x2 x3 x4))).e (v :: l) = ((ev R (.lc x0 x1 x2 x3 x4)).e (v :: l)).bind fun x env => fldRR R f x env := se_fld f _ v l rfl
@[simp] theorem sf_fz (f : Nat) (x0 : Ex) (v : Option M) (l : En) : (ev R (.fld f (.fz x0))).e (v :: l) = ((ev R (.fz x0)).e (v :: l)).bind fun x env => fldRR R f x env := se_fld f _ v l rfl
@[simp] theorem sf_frp (f : Nat) (x0 : Nat) (x1 : List Pe) (v : Option M) (l : En) : (ev R (.fld f (.frp x0 x1))).e (v :: l) = ((ev R (.frp x0 x1)).e (v :: l)).bind fun x env => fldRR R f x env := se_fld f _ v l rfl
@[simp] theorem sf_callk (f : Nat) (x0 : Nat) (x1 : Ex) (x2 : Ex) (v : Option M) (l : En) : (ev R (.fld f (.callk x0 x1 x2))).e (v :: l) = ((ev R (.callk x0 x1 x2)).e (v :: l)).bind fun x env => fldRR R f x env := se_fld f _ v l rfl
@[simp] theorem sf_methk (f : Nat) (x0 : Nat) (x1 : Nat) (x2 : Ex) (x3 : Ex) (x4 : Ex) (v : Option M) (l : En) : (ev R (.fld f (.methk x0 x1 x2 x3 x4))).e (v :: l) = ((ev R (.methk x0 x1 x2 x3 x4)).e (v :: l)).bind fun x env => fldRR R f x env := se_fld f _ v l rfl
@[simp] theorem sf_newk (f : Nat) (x0 : Bool) (x1 : Nat) (x2 : Nat) (x3 : Ex) (x4 : Ex) (v : Option M) (l : En) : (ev R (.fld f (.newk x0 x1 x2 x3 x4))).e (v :: l) = ((ev R (.newk x0 x1 x2 x3 x4)).e (v :: l)).bind fun x env => fldRR R f x env := se_fld f _ v l rfl
@[simp] theorem sf_sss (f : Nat) (x0 : Bool) (x1 : Ex) (x2 : Tg) (x3 : Ex) (v : Option M) (l : En) : (ev R (.fld f (.sss x0 x1 x2 x3))).e (v :: l) = ((ev R (.sss x0 x1 x2 x3)).e (v :: l)).bind fun x env => fldRR R f x env := se_fld f _ v l rfl
@[simp] theorem sf_isb (f : Nat) (x0 : Nat) (x1 : Ex) (v : Option M) (l : En) : (ev R (.fld f (.isb x0 x1))).e (v :: l) = ((ev R (.isb x0 x1)).e (v :: l)).bind fun x env => fldRR R f x env := se_fld f _ v l rfl
@[simp] theorem sf_isi (f : Nat) (x0 : Nat) (x1 : Ex) (v : Option M) (l : En) : (ev R (.fld f (.isi x0 x1))).e (v :: l) = ((ev R (.isi x0 x1)).e (v :: l)).bind fun x env => fldRR R f x env := se_fld f _ v l rfl
@[simp] theorem sf_rev (f : Nat) (x0 : Bool) (x1 : Ex) (v : Option M) (l : En) : (ev R (.fld f (.rev x0 x1))).e (v :: l) = ((ev R (.rev x0 x1)).e (v :: l)).bind fun x env => fldRR R f x env := se_fld f _ v l rfl
@[simp] theorem sf_lc2 (f : Nat) (x0 : Bool) (x1 : Ex) (x2 : Tg) (x3 : Ex) (x4 : Tg) (x5 : Ex) (x6 : Ex) (v : Option M) (l : En) : (ev R (.fld f (.lc2 x0 x1 x2 x3 x4 x5 x6))).e (v :: l) = ((ev R (.lc2 x0 x1 x2 x3 x4 x5 x6)).e (v :: l)).bind fun x env => fldRR R f x env := se_fld f _ v l rfl
@[simp] theorem sf_dc (f : Nat) (x0 : Ex) (x1 : Tg) (x2 : Ex) (x3 : Ex) (x4 : Ex) (v : Option M) (l : En) : (ev R (.fld f (.dc x0 x1 x2 x3 x4))).e (v :: l) = ((ev R (.dc x0 x1 x2 x3 x4)).e (v :: l)).bind fun x env => fldRR R f x env := se_fld f _ v l rfl
@[simp] theorem sf_fstr (f : Nat) (x0 : Ex) (v : Option M) (l : En) : (ev R (.fld f (.fstr x0))).e (v :: l) = ((ev R (.fstr x0)).e (v :: l)).bind fun x env => fldRR R f x env := se_fld f _ v l rfl
@[simp] theorem sf_pop (f : Nat) (x0 : Nat) (x1 : List Pe) (v : Option M) (l : En) : (ev R (.fld f (.pop x0 x1))).e (v :: l) = ((ev R (.pop x0 x1)).e (v :: l)).bind fun x env => fldRR R f x env := se_fld f _ v l rfl
@[simp] theorem sf_popAt (f : Nat) (x0 : Nat) (x1 : List Pe) (x2 : Ex) (v : Option M) (l : En) : (ev R (.fld f (.popAt x0 x1 x2))).e (v :: l) = ((ev R (.popAt x0 x1 x2)).e (v :: l)).bind fun x env => fldRR R f x env := se_fld f _ v l rfl
@[simp] theorem sf_bm (f : Nat) (x0 : Bool) (x1 : Bm) (x2 : Ex) (x3 : Ex) (v : Option M) (l : En) : (ev R (.fld f (.bm x0 x1 x2 x3))).e (v :: l) = ((ev R (.bm x0 x1 x2 x3)).e (v :: l)).bind fun x env => fldRR R f x env := se_fld f _ v l rfl
@[simp] theorem sf_chain (f : Nat) (x0 : C2) (x1 : C2) (x2 : Ex) (x3 : Ex) (x4 : Ex) (v : Option M) (l : En) : (ev R (.fld f (.chain x0 x1 x2 x3 x4))).e (v :: l) = ((ev R (.chain x0 x1 x2 x3 x4)).e (v :: l)).bind fun x env => fldRR R f x env := se_fld f _ v l rfl
@[simp] theorem sf_meths (f : Nat) (x0 : Nat) (x1 : Ex) (x2 : Ex) (v : Option M) (l : En) : (ev R (.fld f (.meths x0 x1 x2))).e (v :: l) = ((ev R (.meths x0 x1 x2)).e (v :: l)).bind fun x env => fldRR R f x env := se_fld f _ v l rfl
@[simp] theorem sf_newv (f : Nat) (x0 : Bool) (x1 : Nat) (x2 : Ex) (v : Option M) (l : En) : (ev R (.fld f (.newv x0 x1 x2))).e (v :: l) = ((ev R (.newv x0 x1 x2)).e (v :: l)).bind fun x env => fldRR R f x env := se_fld f _ v l rfl
@[simp] theorem sf_cmeth (f : Nat) (x0 : Nat) (x1 : Nat) (x2 : Ex) (v : Option M) (l : En) : (ev R (.fld f (.cmeth x0 x1 x2))).e (v :: l) = ((ev R (.cmeth x0 x1 x2)).e (v :: l)).bind fun x env => fldRR R f x env := se_fld f _ v l rfl
@[simp] theorem sf_non (f : Nat) (v : Option M) (l : En) : (ev R (.fld f .non)).e (v :: l) = ((ev R .non).e (v :: l)).bind fun x env => fldRR R f x env := se_fld f _ v l rfl
@[simp] theorem si_fld (f : Nat) (e : Ex) (v : Option M) (l : En) : (ev R (.fld f e)).i (v :: l) = ((ev R (.fld f e)).e (v :: l)).bind fun x env => Rs.lift ((asIt x.frz).map fun ds => (ds, [])) env := id rfl
@[simp] theorem st_fld (f : Nat) (e : Ex) (v : Option M) (l : En) : (ev R (.fld f e)).t (v :: l) = ((ev R (.fld f e)).e (v :: l)).bind fun x env => Rs.lift ((viewD x).bind truth) env := id rfl
/-! a method called by a pattern -/
def kwR (raw : List M → Cr) (env : En) : Option (List D) → Rs M
  | some xs => callV raw xs env
  | none => .no
@[simp] theorem kwR_s (raw : List M → Cr) (env : En) (xs : List D) : kwR raw env (some xs) = callV raw xs env := id rfl
def methkX (R : Rt) (m p : Nat) (args kws : Ex) (x : M) (env : En) : Rs M := match x with
    | .pure (.ins c fs) => (match (if lacks m (.pure (.ins c fs)) then R.meth c m else none), R.kp p with
      | some f, some k => ((ev R args).l env).bind fun as env => ((ev R kws).l env).bind fun as2 env => (match (valsOf (.val (.pure (.ins c fs)) :: (as ++ as2))).bind fun ds => fillK ds k.bs with
        | some xs => if f = k.fn then callV (R.raw f) xs env else .no
        | none => .no)
      | _, _ => .no)
    | _ => .no
theorem methkX_s {m p c : Nat} {args kws : Ex} {fs : List (Nat × D)} {k : Kp} (h : lacks m (.pure (.ins c fs)) = true) (h2 : R.meth c m = some k.fn) (h3 : R.kp p = some k) (env : En) :
    methkX R m p args kws (.pure (.ins c fs)) env = ((ev R args).l env).bind fun as env => ((ev R kws).l env).bind fun as2 env => kwR (R.raw k.fn) env ((valsOf (.val (.pure (.ins c fs)) :: (as ++ as2))).bind fun ds => fillK ds k.bs) := by
  have e : (if lacks m (.pure (.ins c fs)) then R.meth c m else none) = some k.fn := by rw [h, if_pos rfl, h2]
  show (match (if lacks m (.pure (.ins c fs)) then R.meth c m else none), R.kp p with | some f, some k => _ | _, _ => _) = _
  rw [e, h3]
  refine congrArg (Rs.bind ((ev R args).l env)) (funext fun as => funext fun env => congrArg (Rs.bind ((ev R kws).l env)) (funext fun as2 => funext fun env => ?_))
  cases (valsOf (.val (.pure (.ins c fs)) :: (as ++ as2))).bind fun ds => fillK ds k.bs with
  | none => rfl
  | some xs => exact if_pos rfl
@[simp] theorem se_methk (m p : Nat) (r args kws : Ex) (v : Option M) (l : En) : (ev R (.methk m p r args kws)).e (v :: l) = ((ev R r).e (v :: l)).bind fun x env => methkX R m p args kws x env := by
  refine congrArg (Rs.bind ((ev R r).e (v :: l))) (funext fun x => funext fun e => ?_)
  cases x with
  | pure d => cases d <;> rfl
  | _ => rfl
theorem fldR_has {c f : Nat} {fs : List (Nat × D)} {d : D} (h : fs.lookup f = some d) (env : En) : fldR R f (.ins c fs) env = .ok (.pure d) env := by
  show (match fs.lookup f with | some d => _ | none => _) = _
  rw [h]
theorem fldR_prop {c f g : Nat} {fs : List (Nat × D)} (h : fs.lookup f = none) (h2 : R.prop c f = some g) (env : En) : fldR R f (.ins c fs) env = callV (R.call g) [.ins c fs] env := by
  show (match fs.lookup f with | some d => _ | none => _) = _
  rw [h]
  show (match R.prop c f with | some g => _ | none => _) = _
  rw [h2]
theorem fldR_cls {c f : Nat} {d : D} (h : R.con c f = some d) (env : En) : fldR R f (.cls c) env = .ok (.pure d) env := by
  show (match R.con c f with | some d => _ | none => _) = _
  rw [h]
/-! the same, where the slots are in sight -/
@[simp] theorem se_var (i : Nat) (v : Option M) (l : En) : (ev R (.var i)).e (v :: l) = (fun env : En => varR (slot env i) env) (v :: l) := by rw [ev_var]; rfl
@[simp] theorem st_var (i : Nat) (v : Option M) (l : En) : (ev R (.var i)).t (v :: l) = ((ev R (.var i)).e (v :: l)).bind fun x env => Rs.lift ((viewD x).bind truth) env := by rw [ev_var]; rfl
@[simp] theorem si_var (i : Nat) (v : Option M) (l : En) : (ev R (.var i)).i (v :: l) = ((ev R (.var i)).e (v :: l)).bind fun x env => Rs.lift ((asIt x.frz).map fun ds => (ds, [])) env := by rw [ev_var]; rfl
@[simp] theorem se_mv (i : Nat) (v : Option M) (l : En) : (ev R (.mv i)).e (v :: l) = (fun env : En => plR (slot env i) (env.set i none)) (v :: l) := by rw [ev_mv]; rfl
@[simp] theorem st_mv (i : Nat) (v : Option M) (l : En) : (ev R (.mv i)).t (v :: l) = ((ev R (.mv i)).e (v :: l)).bind fun x env => Rs.lift ((viewD x).bind truth) env := by rw [ev_mv]; rfl
@[simp] theorem si_mv (i : Nat) (v : Option M) (l : En) : (ev R (.mv i)).i (v :: l) = ((ev R (.mv i)).e (v :: l)).bind fun x env => Rs.lift ((asIt x.frz).map fun ds => (ds, [])) env := by rw [ev_mv]; rfl
@[simp] theorem se_pl (i : Nat) (ps : List Pe) (v : Option M) (l : En) : (ev R (.pl i ps)).e (v :: l) = (fun env : En => plR (getPl env i ps) env) (v :: l) := by rw [ev_pl]; rfl
@[simp] theorem st_pl (i : Nat) (ps : List Pe) (v : Option M) (l : En) : (ev R (.pl i ps)).t (v :: l) = ((ev R (.pl i ps)).e (v :: l)).bind fun x env => Rs.lift ((viewD x).bind truth) env := by rw [ev_pl]; rfl
@[simp] theorem si_pl (i : Nat) (ps : List Pe) (v : Option M) (l : En) : (ev R (.pl i ps)).i (v :: l) = ((ev R (.pl i ps)).e (v :: l)).bind fun x env => Rs.lift ((asIt x.frz).map fun ds => (ds, [])) env := by rw [ev_pl]; rfl
@[simp] theorem se_plv (i : Nat) (ps : List Pe) (v : Option M) (l : En) : (ev R (.plv i ps)).e (v :: l) = (fun env : En => varR (getPl env i ps) env) (v :: l) := by rw [ev_plv]; rfl
@[simp] theorem st_plv (i : Nat) (ps : List Pe) (v : Option M) (l : En) : (ev R (.plv i ps)).t (v :: l) = ((ev R (.plv i ps)).e (v :: l)).bind fun x env => Rs.lift ((viewD x).bind truth) env := by rw [ev_plv]; rfl
@[simp] theorem si_plv (i : Nat) (ps : List Pe) (v : Option M) (l : En) : (ev R (.plv i ps)).i (v :: l) = ((ev R (.plv i ps)).e (v :: l)).bind fun x env => Rs.lift ((asIt x.frz).map fun ds => (ds, [])) env := by rw [ev_plv]; rfl
@[simp] theorem se_int (n : Int) (v : Option M) (l : En) : (ev R (.int n)).e (v :: l) = (fun env : En => .ok (.pure (.int n)) env) (v :: l) := by rw [ev_int]; rfl
@[simp] theorem st_int (n : Int) (v : Option M) (l : En) : (ev R (.int n)).t (v :: l) = ((ev R (.int n)).e (v :: l)).bind fun x env => Rs.lift ((viewD x).bind truth) env := by rw [ev_int]; rfl
@[simp] theorem si_int (n : Int) (v : Option M) (l : En) : (ev R (.int n)).i (v :: l) = ((ev R (.int n)).e (v :: l)).bind fun x env => Rs.lift ((asIt x.frz).map fun ds => (ds, [])) env := by rw [ev_int]; rfl
@[simp] theorem se_str (n : List Nat) (v : Option M) (l : En) : (ev R (.str n)).e (v :: l) = (fun env : En => .ok (.pure (.str n)) env) (v :: l) := by rw [ev_str]; rfl
@[simp] theorem st_str (n : List Nat) (v : Option M) (l : En) : (ev R (.str n)).t (v :: l) = ((ev R (.str n)).e (v :: l)).bind fun x env => Rs.lift ((viewD x).bind truth) env := by rw [ev_str]; rfl
@[simp] theorem si_str (n : List Nat) (v : Option M) (l : En) : (ev R (.str n)).i (v :: l) = ((ev R (.str n)).e (v :: l)).bind fun x env => Rs.lift ((asIt x.frz).map fun ds => (ds, [])) env := by rw [ev_str]; rfl
@[simp] theorem se_bl (n : Bool) (v : Option M) (l : En) : (ev R (.bl n)).e (v :: l) = (fun env : En => .ok (.pure (.bl n)) env) (v :: l) := by rw [ev_bl]; rfl
@[simp] theorem st_bl (n : Bool) (v : Option M) (l : En) : (ev R (.bl n)).t (v :: l) = ((ev R (.bl n)).e (v :: l)).bind fun x env => Rs.lift ((viewD x).bind truth) env := by rw [ev_bl]; rfl
@[simp] theorem si_bl (n : Bool) (v : Option M) (l : En) : (ev R (.bl n)).i (v :: l) = ((ev R (.bl n)).e (v :: l)).bind fun x env => Rs.lift ((asIt x.frz).map fun ds => (ds, [])) env := by rw [ev_bl]; rfl
@[simp] theorem se_non (v : Option M) (l : En) : (ev R .non).e (v :: l) = (fun env : En => .ok (.pure .non) env) (v :: l) := by rw [ev_non]; rfl
@[simp] theorem st_non (v : Option M) (l : En) : (ev R .non).t (v :: l) = ((ev R .non).e (v :: l)).bind fun x env => Rs.lift ((viewD x).bind truth) env := by rw [ev_non]; rfl
@[simp] theorem si_non (v : Option M) (l : En) : (ev R .non).i (v :: l) = ((ev R .non).e (v :: l)).bind fun x env => Rs.lift ((asIt x.frz).map fun ds => (ds, [])) env := by rw [ev_non]; rfl
@[simp] theorem se_cls (c : Nat) (v : Option M) (l : En) : (ev R (.cls c)).e (v :: l) = (fun env : En => .ok (.pure (.cls c)) env) (v :: l) := by rw [ev_cls]; rfl
@[simp] theorem st_cls (c : Nat) (v : Option M) (l : En) : (ev R (.cls c)).t (v :: l) = ((ev R (.cls c)).e (v :: l)).bind fun x env => Rs.lift ((viewD x).bind truth) env := by rw [ev_cls]; rfl
@[simp] theorem si_cls (c : Nat) (v : Option M) (l : En) : (ev R (.cls c)).i (v :: l) = ((ev R (.cls c)).e (v :: l)).bind fun x env => Rs.lift ((asIt x.frz).map fun ds => (ds, [])) env := by rw [ev_cls]; rfl
@[simp] theorem se_glb (g : Nat) (v : Option M) (l : En) : (ev R (.glb g)).e (v :: l) = (fun env : En => Rs.lift ((R.glob g).map .pure) env) (v :: l) := by rw [ev_glb]; rfl
@[simp] theorem st_glb (g : Nat) (v : Option M) (l : En) : (ev R (.glb g)).t (v :: l) = ((ev R (.glb g)).e (v :: l)).bind fun x env => Rs.lift ((viewD x).bind truth) env := by rw [ev_glb]; rfl
@[simp] theorem si_glb (g : Nat) (v : Option M) (l : En) : (ev R (.glb g)).i (v :: l) = ((ev R (.glb g)).e (v :: l)).bind fun x env => Rs.lift ((asIt x.frz).map fun ds => (ds, [])) env := by rw [ev_glb]; rfl
@[simp] theorem se_op2 (mu : Bool) (o : O2) (a b : Ex) (v : Option M) (l : En) : (ev R (.op2 mu o a b)).e (v :: l) = (fun env : En => ((ev R a).e env).bind fun x env => ((ev R b).e env).bind fun y env => Rs.lift ((viewD x).bind fun x => (viewD y).bind fun y => sem2 mu o x y) env) (v :: l) := by rw [ev_op2]; rfl
@[simp] theorem st_op2 (mu : Bool) (o : O2) (a b : Ex) (v : Option M) (l : En) : (ev R (.op2 mu o a b)).t (v :: l) = ((ev R (.op2 mu o a b)).e (v :: l)).bind fun x env => Rs.lift ((viewD x).bind truth) env := by rw [ev_op2]; rfl
@[simp] theorem si_op2 (mu : Bool) (o : O2) (a b : Ex) (v : Option M) (l : En) : (ev R (.op2 mu o a b)).i (v :: l) = ((ev R (.op2 mu o a b)).e (v :: l)).bind fun x env => Rs.lift ((asIt x.frz).map fun ds => (ds, [])) env := by rw [ev_op2]; rfl
@[simp] theorem s_e_not (a : Ex) (v : Option M) (l : En) : (ev R (.not a)).e (v :: l) = (fun env : En => ((ev R a).e env).bind fun x env => Rs.lift (((viewD x).bind truth).map fun b => .pure (.bl (!b))) env) (v :: l) := by first | exact e_not .. | (apply e_not; assumption)
@[simp] theorem s_t_not (a : Ex) (v : Option M) (l : En) : (ev R (.not a)).t (v :: l) = (fun env : En => ((ev R a).t env).bind fun x env => .ok (!x) env) (v :: l) := by first | exact t_not .. | (apply t_not; assumption)
@[simp] theorem s_e_and (a b : Ex) (v : Option M) (l : En) : (ev R (.and a b)).e (v :: l) = (fun env : En => (boolR ((ev R a).e env)).bind fun x env => if x then (ev R b).e env else .ok (.pure (.bl false)) env) (v :: l) := by first | exact e_and .. | (apply e_and; assumption)
@[simp] theorem s_t_and (a b : Ex) (v : Option M) (l : En) : (ev R (.and a b)).t (v :: l) = (fun env : En => ((ev R a).t env).bind fun x env => if x then (ev R b).t env else .ok false env) (v :: l) := by first | exact t_and .. | (apply t_and; assumption)
@[simp] theorem s_e_or (a b : Ex) (v : Option M) (l : En) : (ev R (.or a b)).e (v :: l) = (fun env : En => (boolR ((ev R a).e env)).bind fun x env => if x then .ok (.pure (.bl true)) env else (ev R b).e env) (v :: l) := by first | exact e_or .. | (apply e_or; assumption)
@[simp] theorem s_t_or (a b : Ex) (v : Option M) (l : En) : (ev R (.or a b)).t (v :: l) = (fun env : En => ((ev R a).t env).bind fun x env => if x then .ok true env else (ev R b).t env) (v :: l) := by first | exact t_or .. | (apply t_or; assumption)
@[simp] theorem s_e_ite (c a b : Ex) (v : Option M) (l : En) : (ev R (.ite c a b)).e (v :: l) = (fun env : En => ((ev R c).t env).bind fun x env => if x then (ev R a).e env else (ev R b).e env) (v :: l) := by first | exact e_ite .. | (apply e_ite; assumption)
@[simp] theorem s_t_ite (c a b : Ex) (v : Option M) (l : En) : (ev R (.ite c a b)).t (v :: l) = (fun env : En => ((ev R c).t env).bind fun x env => if x then (ev R a).t env else (ev R b).t env) (v :: l) := by first | exact t_ite .. | (apply t_ite; assumption)
@[simp] theorem se_cmp (o : C2) (a b : Ex) (v : Option M) (l : En) : (ev R (.cmp o a b)).e (v :: l) = (fun env : En => ((ev R a).e env).bind fun x env => ((ev R b).e env).bind fun y env => Rs.lift (((viewD x).bind fun x => (viewD y).bind fun y => semC o x y).map fun b => .pure (.bl b)) env) (v :: l) := by rw [ev_cmp]; rfl
@[simp] theorem st_cmp (o : C2) (a b : Ex) (v : Option M) (l : En) : (ev R (.cmp o a b)).t (v :: l) = ((ev R (.cmp o a b)).e (v :: l)).bind fun x env => Rs.lift ((viewD x).bind truth) env := by rw [ev_cmp]; rfl
@[simp] theorem si_cmp (o : C2) (a b : Ex) (v : Option M) (l : En) : (ev R (.cmp o a b)).i (v :: l) = ((ev R (.cmp o a b)).e (v :: l)).bind fun x env => Rs.lift ((asIt x.frz).map fun ds => (ds, [])) env := by rw [ev_cmp]; rfl
@[simp] theorem se_cmpd (o : C2) (a b : Ex) (v : Option M) (l : En) : (ev R (.cmpd o a b)).e (v :: l) = (fun env : En => ((ev R a).e env).bind fun x env => ((ev R b).e env).bind fun y env => cmpdR R o x y env) (v :: l) := by rw [ev_cmpd]; rfl
@[simp] theorem st_cmpd (o : C2) (a b : Ex) (v : Option M) (l : En) : (ev R (.cmpd o a b)).t (v :: l) = ((ev R (.cmpd o a b)).e (v :: l)).bind fun x env => Rs.lift ((viewD x).bind truth) env := by rw [ev_cmpd]; rfl
@[simp] theorem si_cmpd (o : C2) (a b : Ex) (v : Option M) (l : En) : (ev R (.cmpd o a b)).i (v :: l) = ((ev R (.cmpd o a b)).e (v :: l)).bind fun x env => Rs.lift ((asIt x.frz).map fun ds => (ds, [])) env := by rw [ev_cmpd]; rfl
@[simp] theorem se_chain (o o' : C2) (a b c : Ex) (v : Option M) (l : En) : (ev R (.chain o o' a b c)).e (v :: l) = (fun env : En => ((ev R a).e env).bind fun x env => ((ev R b).e env).bind fun y env => chainR R o o' c x y env) (v :: l) := by rw [ev_chain]; rfl
@[simp] theorem st_chain (o o' : C2) (a b c : Ex) (v : Option M) (l : En) : (ev R (.chain o o' a b c)).t (v :: l) = ((ev R (.chain o o' a b c)).e (v :: l)).bind fun x env => Rs.lift ((viewD x).bind truth) env := by rw [ev_chain]; rfl
@[simp] theorem si_chain (o o' : C2) (a b c : Ex) (v : Option M) (l : En) : (ev R (.chain o o' a b c)).i (v :: l) = ((ev R (.chain o o' a b c)).e (v :: l)).bind fun x env => Rs.lift ((asIt x.frz).map fun ds => (ds, [])) env := by rw [ev_chain]; rfl
@[simp] theorem se_bid (b : Bi) (a : Ex) (v : Option M) (l : En) : (ev R (.bid b a)).e (v :: l) = (fun env : En => ((ev R a).e env).bind fun x env => bidRR R b x env) (v :: l) := by rw [ev_bid]; rfl
@[simp] theorem st_bid (b : Bi) (a : Ex) (v : Option M) (l : En) : (ev R (.bid b a)).t (v :: l) = ((ev R (.bid b a)).e (v :: l)).bind fun x env => Rs.lift ((viewD x).bind truth) env := by rw [ev_bid]; rfl
@[simp] theorem si_bid (b : Bi) (a : Ex) (v : Option M) (l : En) : (ev R (.bid b a)).i (v :: l) = ((ev R (.bid b a)).e (v :: l)).bind fun x env => Rs.lift ((asIt x.frz).map fun ds => (ds, [])) env := by rw [ev_bid]; rfl
@[simp] theorem se_bi (mu : Bool) (b : Bi) (a : Ex) (v : Option M) (l : En) : (ev R (.bi mu b a)).e (v :: l) = (fun env : En => ((ev R a).e env).bind fun x env => Rs.lift ((viewD x).bind fun x => semBi mu b [x]) env) (v :: l) := by rw [ev_bi]; rfl
@[simp] theorem st_bi (mu : Bool) (b : Bi) (a : Ex) (v : Option M) (l : En) : (ev R (.bi mu b a)).t (v :: l) = ((ev R (.bi mu b a)).e (v :: l)).bind fun x env => Rs.lift ((viewD x).bind truth) env := by rw [ev_bi]; rfl
@[simp] theorem si_bi (mu : Bool) (b : Bi) (a : Ex) (v : Option M) (l : En) : (ev R (.bi mu b a)).i (v :: l) = ((ev R (.bi mu b a)).e (v :: l)).bind fun x env => Rs.lift ((asIt x.frz).map fun ds => (ds, [])) env := by rw [ev_bi]; rfl
@[simp] theorem se_bi2 (mu : Bool) (b : Bi) (a c : Ex) (v : Option M) (l : En) : (ev R (.bi2 mu b a c)).e (v :: l) = (fun env : En => ((ev R a).e env).bind fun x env => ((ev R c).e env).bind fun y env => Rs.lift ((viewD x).bind fun x => (viewD y).bind fun y => semBi mu b [x, y]) env) (v :: l) := by rw [ev_bi2]; rfl
@[simp] theorem st_bi2 (mu : Bool) (b : Bi) (a c : Ex) (v : Option M) (l : En) : (ev R (.bi2 mu b a c)).t (v :: l) = ((ev R (.bi2 mu b a c)).e (v :: l)).bind fun x env => Rs.lift ((viewD x).bind truth) env := by rw [ev_bi2]; rfl
@[simp] theorem si_bi2 (mu : Bool) (b : Bi) (a c : Ex) (v : Option M) (l : En) : (ev R (.bi2 mu b a c)).i (v :: l) = ((ev R (.bi2 mu b a c)).e (v :: l)).bind fun x env => Rs.lift ((asIt x.frz).map fun ds => (ds, [])) env := by rw [ev_bi2]; rfl
@[simp] theorem se_isi (c : Nat) (a : Ex) (v : Option M) (l : En) : (ev R (.isi c a)).e (v :: l) = (fun env : En => ((ev R a).e env).bind fun x env => Rs.lift ((isiM R c x).map fun b => .pure (.bl b)) env) (v :: l) := by rw [ev_isi]; rfl
@[simp] theorem st_isi (c : Nat) (a : Ex) (v : Option M) (l : En) : (ev R (.isi c a)).t (v :: l) = ((ev R (.isi c a)).e (v :: l)).bind fun x env => Rs.lift ((viewD x).bind truth) env := by rw [ev_isi]; rfl
@[simp] theorem si_isi (c : Nat) (a : Ex) (v : Option M) (l : En) : (ev R (.isi c a)).i (v :: l) = ((ev R (.isi c a)).e (v :: l)).bind fun x env => Rs.lift ((asIt x.frz).map fun ds => (ds, [])) env := by rw [ev_isi]; rfl
@[simp] theorem se_isb (c : Nat) (a : Ex) (v : Option M) (l : En) : (ev R (.isb c a)).e (v :: l) = (fun env : En => ((ev R a).e env).bind fun x env => Rs.lift ((isbM c x).map fun b => .pure (.bl b)) env) (v :: l) := by rw [ev_isb]; rfl
@[simp] theorem st_isb (c : Nat) (a : Ex) (v : Option M) (l : En) : (ev R (.isb c a)).t (v :: l) = ((ev R (.isb c a)).e (v :: l)).bind fun x env => Rs.lift ((viewD x).bind truth) env := by rw [ev_isb]; rfl
@[simp] theorem si_isb (c : Nat) (a : Ex) (v : Option M) (l : En) : (ev R (.isb c a)).i (v :: l) = ((ev R (.isb c a)).e (v :: l)).bind fun x env => Rs.lift ((asIt x.frz).map fun ds => (ds, [])) env := by rw [ev_isb]; rfl
@[simp] theorem se_tup (es : Ex) (v : Option M) (l : En) : (ev R (.tup es)).e (v :: l) = (fun env : En => ((ev R es).l env).bind fun as env => tupR (valsOf as) env) (v :: l) := by rw [ev_tup]; rfl
@[simp] theorem st_tup (es : Ex) (v : Option M) (l : En) : (ev R (.tup es)).t (v :: l) = ((ev R (.tup es)).e (v :: l)).bind fun x env => Rs.lift ((viewD x).bind truth) env := by rw [ev_tup]; rfl
@[simp] theorem si_tup (es : Ex) (v : Option M) (l : En) : (ev R (.tup es)).i (v :: l) = ((ev R (.tup es)).e (v :: l)).bind fun x env => Rs.lift ((asIt x.frz).map fun ds => (ds, [])) env := by rw [ev_tup]; rfl
@[simp] theorem se_lst (mu : Bool) (es : Ex) (v : Option M) (l : En) : (ev R (.lst mu es)).e (v :: l) = (fun env : En => ((ev R es).l env).bind fun as env => lstR mu (takeA as env)) (v :: l) := by rw [ev_lst]; rfl
@[simp] theorem st_lst (mu : Bool) (es : Ex) (v : Option M) (l : En) : (ev R (.lst mu es)).t (v :: l) = ((ev R (.lst mu es)).e (v :: l)).bind fun x env => Rs.lift ((viewD x).bind truth) env := by rw [ev_lst]; rfl
@[simp] theorem si_lst (mu : Bool) (es : Ex) (v : Option M) (l : En) : (ev R (.lst mu es)).i (v :: l) = ((ev R (.lst mu es)).e (v :: l)).bind fun x env => Rs.lift ((asIt x.frz).map fun ds => (ds, [])) env := by rw [ev_lst]; rfl
@[simp] theorem se_ix (a b : Ex) (v : Option M) (l : En) : (ev R (.ix a b)).e (v :: l) = (fun env : En => ((ev R a).e env).bind fun x env => ((ev R b).e env).bind fun y env => Rs.lift ((viewD x).bind fun x => (viewD y).bind fun y => (semIx x y).map .pure) env) (v :: l) := by rw [ev_ix]; rfl
@[simp] theorem st_ix (a b : Ex) (v : Option M) (l : En) : (ev R (.ix a b)).t (v :: l) = ((ev R (.ix a b)).e (v :: l)).bind fun x env => Rs.lift ((viewD x).bind truth) env := by rw [ev_ix]; rfl
@[simp] theorem si_ix (a b : Ex) (v : Option M) (l : En) : (ev R (.ix a b)).i (v :: l) = ((ev R (.ix a b)).e (v :: l)).bind fun x env => Rs.lift ((asIt x.frz).map fun ds => (ds, [])) env := by rw [ev_ix]; rfl
@[simp] theorem se_sl (mu : Bool) (a lo hi : Ex) (v : Option M) (l : En) : (ev R (.sl mu a lo hi)).e (v :: l) = (fun env : En => ((ev R a).e env).bind fun x env => (partR lo (ev R lo).e env).bind fun l env => (partR hi (ev R hi).e env).bind fun h env => Rs.lift ((viewD x).bind fun x => semSl mu x l h) env) (v :: l) := by rw [ev_sl]; rfl
@[simp] theorem st_sl (mu : Bool) (a lo hi : Ex) (v : Option M) (l : En) : (ev R (.sl mu a lo hi)).t (v :: l) = ((ev R (.sl mu a lo hi)).e (v :: l)).bind fun x env => Rs.lift ((viewD x).bind truth) env := by rw [ev_sl]; rfl
@[simp] theorem si_sl (mu : Bool) (a lo hi : Ex) (v : Option M) (l : En) : (ev R (.sl mu a lo hi)).i (v :: l) = ((ev R (.sl mu a lo hi)).e (v :: l)).bind fun x env => Rs.lift ((asIt x.frz).map fun ds => (ds, [])) env := by rw [ev_sl]; rfl
@[simp] theorem se_call (f : Nat) (args : Ex) (v : Option M) (l : En) : (ev R (.call f args)).e (v :: l) = (fun env : En => ((ev R args).l env).bind fun as env => callA (R.call f) as env) (v :: l) := by rw [ev_call]; rfl
@[simp] theorem st_call (f : Nat) (args : Ex) (v : Option M) (l : En) : (ev R (.call f args)).t (v :: l) = ((ev R (.call f args)).e (v :: l)).bind fun x env => Rs.lift ((viewD x).bind truth) env := by rw [ev_call]; rfl
@[simp] theorem si_call (f : Nat) (args : Ex) (v : Option M) (l : En) : (ev R (.call f args)).i (v :: l) = ((ev R (.call f args)).e (v :: l)).bind fun x env => Rs.lift ((asIt x.frz).map fun ds => (ds, [])) env := by rw [ev_call]; rfl
@[simp] theorem s_callA_c (call : List M → Cr) (as : List Ar) (v : Option M) (l : En) : callA call as (v :: l) = (fun env : En => callC call as (takeA as env)) (v :: l) := by first | exact callA_c .. | (apply callA_c; assumption)
@[simp] theorem s_callV_w (call : List M → Cr) (ds : List D) (v : Option M) (l : En) : callV call ds (v :: l) = (fun env : En => callW env (call (ds.map .pure))) (v :: l) := by first | exact callV_w .. | (apply callV_w; assumption)
@[simp] theorem s_l_nil (v : Option M) (l : En) : (ev R .nil).l (v :: l) = (fun env : En => .ok [] env) (v :: l) := by first | exact l_nil .. | (apply l_nil; assumption)
@[simp] theorem s_l_cons (e es : Ex) (v : Option M) (l : En) : (ev R (.cons e es)).l (v :: l) = (fun env : En => (argOne e (ev R e).e env).bind fun a env => ((ev R es).l env).bind fun as env => .ok (a ++ as) env) (v :: l) := by first | exact l_cons .. | (apply l_cons; assumption)
@[simp] theorem s_argOne_bor (i : Nat) (f : En → Rs M) (v : Option M) (l : En) : argOne (.bor i) f (v :: l) = (fun env : En => borR i (slot env i) env) (v :: l) := by first | exact argOne_bor .. | (apply argOne_bor; assumption)
@[simp] theorem sa_var (x0 : Nat) (f : En → Rs M) (v : Option M) (l : En) : argOne (.var x0) f (v :: l) = (f (v :: l)).bind fun m env => .ok [.val m] env := argOne_val _ f (v :: l) rfl
@[simp] theorem sa_mv (x0 : Nat) (f : En → Rs M) (v : Option M) (l : En) : argOne (.mv x0) f (v :: l) = (f (v :: l)).bind fun m env => .ok [.val m] env := argOne_val _ f (v :: l) rfl
@[simp] theorem sa_pl (x0 : Nat) (x1 : List Pe) (f : En → Rs M) (v : Option M) (l : En) : argOne (.pl x0 x1) f (v :: l) = (f (v :: l)).bind fun m env => .ok [.val m] env := argOne_val _ f (v :: l) rfl
@[simp] theorem sa_plv (x0 : Nat) (x1 : List Pe) (f : En → Rs M) (v : Option M) (l : En) : argOne (.plv x0 x1) f (v :: l) = (f (v :: l)).bind fun m env => .ok [.val m] env := argOne_val _ f (v :: l) rfl
@[simp] theorem sa_int (x0 : Int) (f : En → Rs M) (v : Option M) (l : En) : argOne (.int x0) f (v :: l) = (f (v :: l)).bind fun m env => .ok [.val m] env := argOne_val _ f (v :: l) rfl
@[simp] theorem sa_str (x0 : List Nat) (f : En → Rs M) (v : Option M) (l : En) : argOne (.str x0) f (v :: l) = (f (v :: l)).bind fun m env => .ok [.val m] env := argOne_val _ f (v :: l) rfl
@[simp] theorem sa_bl (x0 : Bool) (f : En → Rs M) (v : Option M) (l : En) : argOne (.bl x0) f (v :: l) = (f (v :: l)).bind fun m env => .ok [.val m] env := argOne_val _ f (v :: l) rfl
@[simp] theorem sa_glb (x0 : Nat) (f : En → Rs M) (v : Option M) (l : En) : argOne (.glb x0) f (v :: l) = (f (v :: l)).bind fun m env => .ok [.val m] env := argOne_val _ f (v :: l) rfl
@[simp] theorem sa_cls (x0 : Nat) (f : En → Rs M) (v : Option M) (l : En) : argOne (.cls x0) f (v :: l) = (f (v :: l)).bind fun m env => .ok [.val m] env := argOne_val _ f (v :: l) rfl
@[simp] theorem sa_op2 (x0 : Bool) (x1 : O2) (x2 : Ex) (x3 : Ex) (f : En → Rs M) (v : Option M) (l : En) : argOne (.op2 x0 x1 x2 x3) f (v :: l) = (f (v :: l)).bind fun m env => .ok [.val m] env := argOne_val _ f (v :: l) rfl
@[simp] theorem sa_neg (x0 : Ex) (f : En → Rs M) (v : Option M) (l : En) : argOne (.neg x0) f (v :: l) = (f (v :: l)).bind fun m env => .ok [.val m] env := argOne_val _ f (v :: l) rfl
@[simp] theorem sa_not (x0 : Ex) (f : En → Rs M) (v : Option M) (l : En) : argOne (.not x0) f (v :: l) = (f (v :: l)).bind fun m env => .ok [.val m] env := argOne_val _ f (v :: l) rfl
@[simp] theorem sa_and (x0 : Ex) (x1 : Ex) (f : En → Rs M) (v : Option M) (l : En) : argOne (.and x0 x1) f (v :: l) = (f (v :: l)).bind fun m env => .ok [.val m] env := argOne_val _ f (v :: l) rfl
@[simp] theorem sa_or (x0 : Ex) (x1 : Ex) (f : En → Rs M) (v : Option M) (l : En) : argOne (.or x0 x1) f (v :: l) = (f (v :: l)).bind fun m env => .ok [.val m] env := argOne_val _ f (v :: l) rfl
@[simp] theorem sa_ite (x0 : Ex) (x1 : Ex) (x2 : Ex) (f : En → Rs M) (v : Option M) (l : En) : argOne (.ite x0 x1 x2) f (v :: l) = (f (v :: l)).bind fun m env => .ok [.val m] env := argOne_val _ f (v :: l) rfl
@[simp] theorem sa_cmp (x0 : C2) (x1 : Ex) (x2 : Ex) (f : En → Rs M) (v : Option M) (l : En) : argOne (.cmp x0 x1 x2) f (v :: l) = (f (v :: l)).bind fun m env => .ok [.val m] env := argOne_val _ f (v :: l) rfl
@[simp] theorem sa_cmpd (x0 : C2) (x1 : Ex) (x2 : Ex) (f : En → Rs M) (v : Option M) (l : En) : argOne (.cmpd x0 x1 x2) f (v :: l) = (f (v :: l)).bind fun m env => .ok [.val m] env := argOne_val _ f (v :: l) rfl
@[simp] theorem sa_bid (x0 : Bi) (x1 : Ex) (f : En → Rs M) (v : Option M) (l : En) : argOne (.bid x0 x1) f (v :: l) = (f (v :: l)).bind fun m env => .ok [.val m] env := argOne_val _ f (v :: l) rfl
@[simp] theorem sa_bi (x0 : Bool) (x1 : Bi) (x2 : Ex) (f : En → Rs M) (v : Option M) (l : En) : argOne (.bi x0 x1 x2) f (v :: l) = (f (v :: l)).bind fun m env => .ok [.val m] env := argOne_val _ f (v :: l) rfl
@[simp] theorem sa_bi2 (x0 : Bool) (x1 : Bi) (x2 : Ex) (x3 : Ex) (f : En → Rs M) (v : Option M) (l : En) : argOne (.bi2 x0 x1 x2 x3) f (v :: l) = (f (v :: l)).bind fun m env => .ok [.val m] env := argOne_val _ f (v :: l) rfl
@[simp] theorem sa_tup (x0 : Ex) (f : En → Rs M) (v : Option M) (l : En) : argOne (.tup x0) f (v :: l) = (f (v :: l)).bind fun m env => .ok [.val m] env := argOne_val _ f (v :: l) rfl
@[simp] theorem sa_lst (x0 : Bool) (x1 : Ex) (f : En → Rs M) (v : Option M) (l : En) : argOne (.lst x0 x1) f (v :: l) = (f (v :: l)).bind fun m env => .ok [.val m] env := argOne_val _ f (v :: l) rfl
@[simp] theorem sa_ix (x0 : Ex) (x1 : Ex) (f : En → Rs M) (v : Option M) (l : En) : argOne (.ix x0 x1) f (v :: l) = (f (v :: l)).bind fun m env => .ok [.val m] env := argOne_val _ f (v :: l) rfl
@[simp] theorem sa_sl (x0 : Bool) (x1 : Ex) (x2 : Ex) (x3 : Ex) (f : En → Rs M) (v : Option M) (l : En) : argOne (.sl x0 x1 x2 x3) f (v :: l) = (f (v :: l)).bind fun m env => .ok [.val m] env := argOne_val _ f (v :: l) rfl
@[simp] theorem sa_fld (x0 : Nat) (x1 : Ex) (f : En → Rs M) (v : Option M) (l : En) : argOne (.fld x0 x1) f (v :: l) = (f (v :: l)).bind fun m env => .ok [.val m] env := argOne_val _ f (v :: l) rfl
@[simp] theorem sa_call (x0 : Nat) (x1 : Ex) (f : En → Rs M) (v : Option M) (l : En) : argOne (.call x0 x1) f (v :: l) = (f (v :: l)).bind fun m env => .ok [.val m] env := argOne_val _ f (v :: l) rfl
@[simp] theorem sa_meth (x0 : Nat) (x1 : Ex) (x2 : Ex) (f : En → Rs M) (v : Option M) (l : En) : argOne (.meth x0 x1 x2) f (v :: l) = (f (v :: l)).bind fun m env => .ok [.val m] env := argOne_val _ f (v :: l) rfl
@[simp] theorem sa_new (x0 : Bool) (x1 : Nat) (x2 : Ex) (f : En → Rs M) (v : Option M) (l : En) : argOne (.new x0 x1 x2) f (v :: l) = (f (v :: l)).bind fun m env => .ok [.val m] env := argOne_val _ f (v :: l) rfl
@[simp] theorem sa_lc (x0 : Bool) (x1 : Ex) (x2 : Tg) (x3 : Ex) (x4 : Ex) (f : En → Rs M) (v : Option M) (l : En) : argOne (.lc x0 x1 x2 x3 x4) f (v :: l) = (f (v :: l)).bind fun m env => .ok [.val m] env := argOne_val _ f (v :: l) rfl
@[simp] theorem sa_fz (x0 : Ex) (f : En → Rs M) (v : Option M) (l : En) : argOne (.fz x0) f (v :: l) = (f (v :: l)).bind fun m env => .ok [.val m] env := argOne_val _ f (v :: l) rfl
@[simp] theorem sa_frp (x0 : Nat) (x1 : List Pe) (f : En → Rs M) (v : Option M) (l : En) : argOne (.frp x0 x1) f (v :: l) = (f (v :: l)).bind fun m env => .ok [.val m] env := argOne_val _ f (v :: l) rfl
@[simp] theorem sa_callk (x0 : Nat) (x1 : Ex) (x2 : Ex) (f : En → Rs M) (v : Option M) (l : En) : argOne (.callk x0 x1 x2) f (v :: l) = (f (v :: l)).bind fun m env => .ok [.val m] env := argOne_val _ f (v :: l) rfl
@[simp] theorem sa_methk (x0 : Nat) (x1 : Nat) (x2 : Ex) (x3 : Ex) (x4 : Ex) (f : En → Rs M) (v : Option M) (l : En) : argOne (.methk x0 x1 x2 x3 x4) f (v :: l) = (f (v :: l)).bind fun m env => .ok [.val m] env := argOne_val _ f (v :: l) rfl
@[simp] theorem sa_newk (x0 : Bool) (x1 : Nat) (x2 : Nat) (x3 : Ex) (x4 : Ex) (f : En → Rs M) (v : Option M) (l : En) : argOne (.newk x0 x1 x2 x3 x4) f (v :: l) = (f (v :: l)).bind fun m env => .ok [.val m] env := argOne_val _ f (v :: l) rfl
@[simp] theorem sa_sss (x0 : Bool) (x1 : Ex) (x2 : Tg) (x3 : Ex) (f : En → Rs M) (v : Option M) (l : En) : argOne (.sss x0 x1 x2 x3) f (v :: l) = (f (v :: l)).bind fun m env => .ok [.val m] env := argOne_val _ f (v :: l) rfl
@[simp] theorem sa_isb (x0 : Nat) (x1 : Ex) (f : En → Rs M) (v : Option M) (l : En) : argOne (.isb x0 x1) f (v :: l) = (f (v :: l)).bind fun m env => .ok [.val m] env := argOne_val _ f (v :: l) rfl
@[simp] theorem sa_isi (x0 : Nat) (x1 : Ex) (f : En → Rs M) (v : Option M) (l : En) : argOne (.isi x0 x1) f (v :: l) = (f (v :: l)).bind fun m env => .ok [.val m] env := argOne_val _ f (v :: l) rfl
@[simp] theorem sa_rev (x0 : Bool) (x1 : Ex) (f : En → Rs M) (v : Option M) (l : En) : argOne (.rev x0 x1) f (v :: l) = (f (v :: l)).bind fun m env => .ok [.val m] env := argOne_val _ f (v :: l) rfl
@[simp] theorem sa_lc2 (x0 : Bool) (x1 : Ex) (x2 : Tg) (x3 : Ex) (x4 : Tg) (x5 : Ex) (x6 : Ex) (f : En → Rs M) (v : Option M) (l : En) : argOne (.lc2 x0 x1 x2 x3 x4 x5 x6) f (v :: l) = (f (v :: l)).bind fun m env => .ok [.val m] env := argOne_val _ f (v :: l) rfl
@[simp] theorem sa_dc (x0 : Ex) (x1 : Tg) (x2 : Ex) (x3 : Ex) (x4 : Ex) (f : En → Rs M) (v : Option M) (l : En) : argOne (.dc x0 x1 x2 x3 x4) f (v :: l) = (f (v :: l)).bind fun m env => .ok [.val m] env := argOne_val _ f (v :: l) rfl
@[simp] theorem sa_fstr (x0 : Ex) (f : En → Rs M) (v : Option M) (l : En) : argOne (.fstr x0) f (v :: l) = (f (v :: l)).bind fun m env => .ok [.val m] env := argOne_val _ f (v :: l) rfl
@[simp] theorem sa_pop (x0 : Nat) (x1 : List Pe) (f : En → Rs M) (v : Option M) (l : En) : argOne (.pop x0 x1) f (v :: l) = (f (v :: l)).bind fun m env => .ok [.val m] env := argOne_val _ f (v :: l) rfl
@[simp] theorem sa_popAt (x0 : Nat) (x1 : List Pe) (x2 : Ex) (f : En → Rs M) (v : Option M) (l : En) : argOne (.popAt x0 x1 x2) f (v :: l) = (f (v :: l)).bind fun m env => .ok [.val m] env := argOne_val _ f (v :: l) rfl
@[simp] theorem sa_bm (x0 : Bool) (x1 : Bm) (x2 : Ex) (x3 : Ex) (f : En → Rs M) (v : Option M) (l : En) : argOne (.bm x0 x1 x2 x3) f (v :: l) = (f (v :: l)).bind fun m env => .ok [.val m] env := argOne_val _ f (v :: l) rfl
@[simp] theorem sa_chain (x0 : C2) (x1 : C2) (x2 : Ex) (x3 : Ex) (x4 : Ex) (f : En → Rs M) (v : Option M) (l : En) : argOne (.chain x0 x1 x2 x3 x4) f (v :: l) = (f (v :: l)).bind fun m env => .ok [.val m] env := argOne_val _ f (v :: l) rfl
@[simp] theorem sa_meths (x0 : Nat) (x1 : Ex) (x2 : Ex) (f : En → Rs M) (v : Option M) (l : En) : argOne (.meths x0 x1 x2) f (v :: l) = (f (v :: l)).bind fun m env => .ok [.val m] env := argOne_val _ f (v :: l) rfl
@[simp] theorem sa_newv (x0 : Bool) (x1 : Nat) (x2 : Ex) (f : En → Rs M) (v : Option M) (l : En) : argOne (.newv x0 x1 x2) f (v :: l) = (f (v :: l)).bind fun m env => .ok [.val m] env := argOne_val _ f (v :: l) rfl
@[simp] theorem sa_cmeth (x0 : Nat) (x1 : Nat) (x2 : Ex) (f : En → Rs M) (v : Option M) (l : En) : argOne (.cmeth x0 x1 x2) f (v :: l) = (f (v :: l)).bind fun m env => .ok [.val m] env := argOne_val _ f (v :: l) rfl
@[simp] theorem sa_non (f : En → Rs M) (v : Option M) (l : En) : argOne .non f (v :: l) = (f (v :: l)).bind fun m env => .ok [.val m] env := argOne_val _ f (v :: l) rfl
@[simp] theorem se_meth (m : Nat) (r args : Ex) (v : Option M) (l : En) : (ev R (.meth m r args)).e (v :: l) = (fun env : En => (argOne r (ev R r).e env).bind fun a0 env => methR R a0 args env ((headM a0 env).bind fun x => (clsOf x).bind fun c => if lacks m x then R.meth c m else none)) (v :: l) := by rw [ev_meth]; rfl
@[simp] theorem st_meth (m : Nat) (r args : Ex) (v : Option M) (l : En) : (ev R (.meth m r args)).t (v :: l) = ((ev R (.meth m r args)).e (v :: l)).bind fun x env => Rs.lift ((viewD x).bind truth) env := by rw [ev_meth]; rfl
@[simp] theorem si_meth (m : Nat) (r args : Ex) (v : Option M) (l : En) : (ev R (.meth m r args)).i (v :: l) = ((ev R (.meth m r args)).e (v :: l)).bind fun x env => Rs.lift ((asIt x.frz).map fun ds => (ds, [])) env := by rw [ev_meth]; rfl
@[simp] theorem se_new (mu : Bool) (c : Nat) (args : Ex) (v : Option M) (l : En) : (ev R (.new mu c args)).e (v :: l) = (fun env : En => ((ev R args).l env).bind fun as env => newR R mu c as env (R.init c)) (v :: l) := by rw [ev_new]; rfl
@[simp] theorem st_new (mu : Bool) (c : Nat) (args : Ex) (v : Option M) (l : En) : (ev R (.new mu c args)).t (v :: l) = ((ev R (.new mu c args)).e (v :: l)).bind fun x env => Rs.lift ((viewD x).bind truth) env := by rw [ev_new]; rfl
@[simp] theorem si_new (mu : Bool) (c : Nat) (args : Ex) (v : Option M) (l : En) : (ev R (.new mu c args)).i (v :: l) = ((ev R (.new mu c args)).e (v :: l)).bind fun x env => Rs.lift ((asIt x.frz).map fun ds => (ds, [])) env := by rw [ev_new]; rfl
@[simp] theorem s_ex_skip (v : Option M) (l : En) : exec R .skip (v :: l) = (fun env : En => .nx env) (v :: l) := by first | exact ex_skip .. | (apply ex_skip; assumption)
@[simp] theorem s_ex_seq (a b : Sx) (v : Option M) (l : En) : exec R (.seq a b) (v :: l) = (fun env : En => (exec R a env).andThen (exec R b)) (v :: l) := by first | exact ex_seq .. | (apply ex_seq; assumption)
@[simp] theorem s_ex_set (i : Nat) (e : Ex) (v : Option M) (l : En) : exec R (.set i e) (v :: l) = (fun env : En => (((ev R e).e env).bind fun m env => .ok (env.set i (some m)) env).out) (v :: l) := by first | exact ex_set .. | (apply ex_set; assumption)
@[simp] theorem s_ex_setT (is : List Nat) (e : Ex) (v : Option M) (l : En) : exec R (.setT is e) (v :: l) = (fun env : En => (((ev R e).e env).bind fun m env => Rs.lift (bindTg (.tup is) m.frz env) env).out) (v :: l) := by first | exact ex_setT .. | (apply ex_setT; assumption)
@[simp] theorem s_ex_par (i j : Nat) (a b : Ex) (v : Option M) (l : En) : exec R (.par i j a b) (v :: l) = (fun env : En => (((ev R a).e env).bind fun x env => ((ev R b).e env).bind fun y env => .ok ((env.set i (some x)).set j (some y)) env).out) (v :: l) := by first | exact ex_par .. | (apply ex_par; assumption)
@[simp] theorem s_ex_app (i : Nat) (ps : List Pe) (e : Ex) (v : Option M) (l : En) : exec R (.app i ps e) (v :: l) = (fun env : En => appR R i ps e env (modPl env i ps keepL)) (v :: l) := by first | exact ex_app .. | (apply ex_app; assumption)
@[simp] theorem s_ex_setx (i : Nat) (ps : List Pe) (k e : Ex) (v : Option M) (l : En) : exec R (.setx i ps k e) (v :: l) = (fun env : En => (((ev R e).e env).bind fun m env => setxR R i ps k m env (modPl env i ps keepL)).out) (v :: l) := by first | exact ex_setx .. | (apply ex_setx; assumption)
@[simp] theorem s_ex_setf (i : Nat) (ps : List Pe) (f : Nat) (e : Ex) (v : Option M) (l : En) : exec R (.setf i ps f e) (v :: l) = (fun env : En => (((ev R e).e env).bind fun m env => Rs.lift (modPl env i ps (setI R f m)) env).out) (v :: l) := by first | exact ex_setf .. | (apply ex_setf; assumption)
@[simp] theorem s_ex_ex (e : Ex) (v : Option M) (l : En) : exec R (.ex e) (v :: l) = (fun env : En => (((ev R e).e env).bind fun _ env => .ok env env).out) (v :: l) := by first | exact ex_ex .. | (apply ex_ex; assumption)
@[simp] theorem s_ex_ret (e : Ex) (v : Option M) (l : En) : exec R (.ret e) (v :: l) = (fun env : En => retO ((ev R e).e env)) (v :: l) := by first | exact ex_ret .. | (apply ex_ret; assumption)
@[simp] theorem s_ex_ret0 (v : Option M) (l : En) : exec R .ret0 (v :: l) = (fun env : En => .rt (.pure .non) env) (v :: l) := by first | exact ex_ret0 .. | (apply ex_ret0; assumption)
@[simp] theorem s_ex_ite (c : Ex) (a b : Sx) (v : Option M) (l : En) : exec R (.ite c a b) (v :: l) = (fun env : En => iteO R a b ((ev R c).t env)) (v :: l) := by first | exact ex_ite .. | (apply ex_ite; assumption)
@[simp] theorem s_ex_for (it : Ex) (tg : Tg) (a : Sx) (v : Option M) (l : En) : exec R (.for it tg a) (v :: l) = (fun env : En => forO R tg a ((ev R it).i env)) (v :: l) := by first | exact ex_for .. | (apply ex_for; assumption)
@[simp] theorem s_i_rng1 (a : Ex) (v : Option M) (l : En) : (ev R (.rng1 a)).i (v :: l) = (fun env : En => ((ev R a).e env).bind rng1R) (v :: l) := by first | exact i_rng1 .. | (apply i_rng1; assumption)
@[simp] theorem s_i_rng2 (a b : Ex) (v : Option M) (l : En) : (ev R (.rng2 a b)).i (v :: l) = (fun env : En => ((ev R a).e env).bind fun x env => ((ev R b).e env).bind fun y env => rng2R x y env) (v :: l) := by first | exact i_rng2 .. | (apply i_rng2; assumption)
@[simp] theorem s_i_zip (a b : Ex) (v : Option M) (l : En) : (ev R (.zip a b)).i (v :: l) = (fun env : En => ((ev R a).i env).bind fun dl env => ((ev R b).i env).bind fun dl2 env => .ok ((dl.1.zip dl2.1).map fun p => .tup [p.1, p.2], dl.2 ++ dl2.2) env) (v :: l) := by first | exact i_zip .. | (apply i_zip; assumption)
@[simp] theorem s_i_enum (a : Ex) (v : Option M) (l : En) : (ev R (.enum a)).i (v :: l) = (fun env : En => ((ev R a).i env).bind fun dl env => .ok (dl.1.zipIdx.map fun p => .tup [.int p.2, p.1], dl.2) env) (v :: l) := by first | exact i_enum .. | (apply i_enum; assumption)
@[simp] theorem se_lc (mu : Bool) (it : Ex) (tg : Tg) (c e : Ex) (v : Option M) (l : En) : (ev R (.lc mu it tg c e)).e (v :: l) = (fun env : En => ((ev R it).i env).bind fun dl env1 => (lcLoop (turnR tg (ev R c).t (ev R e).e) dl.1 env1).bind fun ms env2 => lcEnd mu ms ((backE env1 tg.slots env2).bind (giveL dl.2))) (v :: l) := by rw [ev_lc]; rfl
@[simp] theorem st_lc (mu : Bool) (it : Ex) (tg : Tg) (c e : Ex) (v : Option M) (l : En) : (ev R (.lc mu it tg c e)).t (v :: l) = ((ev R (.lc mu it tg c e)).e (v :: l)).bind fun x env => Rs.lift ((viewD x).bind truth) env := by rw [ev_lc]; rfl
@[simp] theorem si_lc (mu : Bool) (it : Ex) (tg : Tg) (c e : Ex) (v : Option M) (l : En) : (ev R (.lc mu it tg c e)).i (v :: l) = ((ev R (.lc mu it tg c e)).e (v :: l)).bind fun x env => Rs.lift ((asIt x.frz).map fun ds => (ds, [])) env := by rw [ev_lc]; rfl
@[simp] theorem se_sss (mu : Bool) (it : Ex) (tg : Tg) (e : Ex) (v : Option M) (l : En) : (ev R (.sss mu it tg e)).e (v :: l) = (fun env : En => ((ev R it).i env).bind fun dl env1 => (lcLoop (turnR tg (fun env => .ok true env) (ev R e).e) dl.1 env1).bind fun ms env2 => sssE mu (allTups (M.frzs ms)) ((backE env1 tg.slots env2).bind (giveL dl.2))) (v :: l) := by rw [ev_sss]; rfl
@[simp] theorem st_sss (mu : Bool) (it : Ex) (tg : Tg) (e : Ex) (v : Option M) (l : En) : (ev R (.sss mu it tg e)).t (v :: l) = ((ev R (.sss mu it tg e)).e (v :: l)).bind fun x env => Rs.lift ((viewD x).bind truth) env := by rw [ev_sss]; rfl
@[simp] theorem si_sss (mu : Bool) (it : Ex) (tg : Tg) (e : Ex) (v : Option M) (l : En) : (ev R (.sss mu it tg e)).i (v :: l) = ((ev R (.sss mu it tg e)).e (v :: l)).bind fun x env => Rs.lift ((asIt x.frz).map fun ds => (ds, [])) env := by rw [ev_sss]; rfl
@[simp] theorem se_fz (a : Ex) (v : Option M) (l : En) : (ev R (.fz a)).e (v :: l) = (fun env : En => ((ev R a).e env).bind fun x env => .ok (.pure x.frz) env) (v :: l) := by rw [ev_fz]; rfl
@[simp] theorem st_fz (a : Ex) (v : Option M) (l : En) : (ev R (.fz a)).t (v :: l) = ((ev R (.fz a)).e (v :: l)).bind fun x env => Rs.lift ((viewD x).bind truth) env := by rw [ev_fz]; rfl
@[simp] theorem si_fz (a : Ex) (v : Option M) (l : En) : (ev R (.fz a)).i (v :: l) = ((ev R (.fz a)).e (v :: l)).bind fun x env => Rs.lift ((asIt x.frz).map fun ds => (ds, [])) env := by rw [ev_fz]; rfl
@[simp] theorem se_frp (i : Nat) (ps : List Pe) (v : Option M) (l : En) : (ev R (.frp i ps)).e (v :: l) = (fun env : En => frpR (modPl env i ps (fun m => some (.pure m.frz))) (getPl env i ps)) (v :: l) := by rw [ev_frp]; rfl
@[simp] theorem st_frp (i : Nat) (ps : List Pe) (v : Option M) (l : En) : (ev R (.frp i ps)).t (v :: l) = ((ev R (.frp i ps)).e (v :: l)).bind fun x env => Rs.lift ((viewD x).bind truth) env := by rw [ev_frp]; rfl
@[simp] theorem si_frp (i : Nat) (ps : List Pe) (v : Option M) (l : En) : (ev R (.frp i ps)).i (v :: l) = ((ev R (.frp i ps)).e (v :: l)).bind fun x env => Rs.lift ((asIt x.frz).map fun ds => (ds, [])) env := by rw [ev_frp]; rfl
/-! operators -/
section
variable {mu : Bool} {a b : Int}
@[simp] theorem sem2_add : sem2 mu .add (.int a) (.int b) = some (.pure (.int (a + b))) := id rfl
@[simp] theorem sem2_sub : sem2 mu .sub (.int a) (.int b) = some (.pure (.int (a - b))) := id rfl
@[simp] theorem sem2_mulr (h : b.natAbs < 2 ^ 64) : sem2 mu .mul (.int a) (.int b) = some (.pure (.int (a * b))) := if_pos (.inr h)
@[simp] theorem sem2_mull (h : a.natAbs < 2 ^ 64) : sem2 mu .mul (.int a) (.int b) = some (.pure (.int (a * b))) := if_pos (.inl h)
@[simp] theorem sem2_fdiv (h : 0 < b) (h2 : b < 2 ^ 30) : sem2 mu .fdiv (.int a) (.int b) = some (.pure (.int (a / b))) := if_pos ⟨h, h2⟩
@[simp] theorem sem2_mod (h : 0 < b) : sem2 mu .mod (.int a) (.int b) = some (.pure (.int (a % b))) := if_pos h
theorem sem2_pow (h : 0 ≤ b) (h2 : b ≤ 1000) (h3 : a.natAbs < 2 ^ 64) : sem2 mu .pow (.int a) (.int b) = some (.pure (.int (a ^ b.toNat))) := if_pos ⟨h, h2, h3⟩
@[simp] theorem sem2_addl (xs ys : List D) (h : xs.length + ys.length ≤ SL) : sem2 mu .add (.lst xs) (.lst ys) = some (mkL mu (xs ++ ys)) := if_pos h
@[simp] theorem mkL_f (xs : List D) : mkL false xs = .pure (.lst xs) := id rfl
@[simp] theorem mkL_t (xs : List D) : mkL true xs = .lst (xs.map .pure) := id rfl
theorem allInts_map (xs : List Int) : allInts (xs.map .int) = some xs := by
  induction xs with
  | nil => rfl
  | cons x xs ih => simp [allInts, ih]
theorem allBools_map (xs : List Bool) : allBools (xs.map .bl) = some xs := by
  induction xs with
  | nil => rfl
  | cons x xs ih => simp [allBools, ih]
theorem allTups_map (xs : List (List Int)) : allTups (tupD xs) = some xs := by
  induction xs with
  | nil => rfl
  | cons x xs ih =>
    show ((allInts (x.map .int)).bind fun x => (allTups (tupD xs)).map (x :: ·)) = _
    rw [allInts_map, ih]; rfl
theorem semBi_sortI (xs : List Int) : semBi mu .sorted [.lst (xs.map .int)] = some (mkL mu ((sortI xs).map .int)) := by
  show (match allInts (xs.map .int), allStrs (xs.map .int) with | some ns, _ => some (mkL mu ((sortI ns).map .int)) | none, some ss => _ | none, none => _) = _
  rw [allInts_map]
theorem semBi_all (xs : List Bool) : semBi mu .all [.lst (xs.map .bl)] = some (.pure (.bl (xs.all id))) := by
  show (allBools (xs.map .bl)).map _ = _
  rw [allBools_map]; rfl
@[simp] theorem semC_lt : semC .lt (.int a) (.int b) = some (decide (a < b)) := id rfl
@[simp] theorem semC_le : semC .le (.int a) (.int b) = some (decide (a ≤ b)) := id rfl
@[simp] theorem semC_gt : semC .gt (.int a) (.int b) = some (decide (b < a)) := id rfl
@[simp] theorem semC_ge : semC .ge (.int a) (.int b) = some (decide (b ≤ a)) := id rfl
@[simp] theorem semC_eq : semC .eq (.int a) (.int b) = some (decide (a = b)) := id rfl
@[simp] theorem semC_ne : semC .ne (.int a) (.int b) = some (!decide (a = b)) := id rfl
@[simp] theorem semC_neb (x y : Bool) : semC .ne (.bl x) (.bl y) = some (!(x == y)) := id rfl
@[simp] theorem semC_eqb (x y : Bool) : semC .eq (.bl x) (.bl y) = some (x == y) := id rfl
@[simp] theorem truth_bl (x : Bool) : truth (.bl x) = some x := id rfl
@[simp] theorem semBi_len (xs : List D) : semBi mu .len [.lst xs] = some (.pure (.int xs.length)) := id rfl
@[simp] theorem semBi_lent (xs : List D) : semBi mu .len [.tup xs] = some (.pure (.int xs.length)) := id rfl
@[simp] theorem semBi_int : semBi mu .toInt [.int a] = some (.pure (.int a)) := id rfl
@[simp] theorem semBi_min : semBi mu .min2 [.int a, .int b] = some (.pure (.int (if b < a then b else a))) := id rfl
@[simp] theorem semBi_max : semBi mu .max2 [.int a, .int b] = some (.pure (.int (if a < b then b else a))) := id rfl
@[simp] theorem semBi_list (xs : List D) : semBi false .list [.lst xs] = some (.pure (.lst xs)) := id rfl
@[simp] theorem keepL_lst (ms : List M) : keepL (.lst ms) = some (.lst ms) := id rfl
@[simp] theorem setL_lst (m : M) (j : Int) (ms : List M) : setL m (.pure (.int j)) (.lst ms) = (ixNat ms.length j).map fun j => .lst (ms.set j m) := id rfl
theorem ixNat_of (n : Nat) (i : Int) (h : 0 ≤ i) (h2 : i < n) : ixNat n i = some i.toNat := by
  unfold ixNat
  rw [if_pos h, if_pos h2]
theorem semIx_lst (xs : List D) (n : Nat) (d : D) (h : xs[n]? = some d) : semIx (.lst xs) (.int n) = some d := by
  have : n < xs.length := (List.getElem?_eq_some_iff.mp h).1
  show (ixNat xs.length n).bind _ = _
  rw [ixNat_of _ _ (by omega) (by omega)]
  simpa using h
@[simp] theorem semIx_t0 (x : D) (xs : List D) : semIx (.tup (x :: xs)) (.int 0) = some x := by
  show (ixNat (x :: xs).length 0).bind _ = _
  rw [ixNat_of _ _ (by omega) (by rw [List.length_cons]; omega)]
  rfl
@[simp] theorem semIx_t1 (x y : D) (xs : List D) : semIx (.tup (x :: y :: xs)) (.int 1) = some y := by
  show (ixNat (x :: y :: xs).length 1).bind _ = _
  rw [ixNat_of _ _ (by omega) (by rw [List.length_cons, List.length_cons]; omega)]
  rfl
end
theorem le_SL {n : Nat} (h : n ≤ 1000) : n ≤ SL := Nat.le_trans h (by decide)
theorem lt_SL {n : Nat} (h : n ≤ 1000) : n < SL := Nat.lt_of_le_of_lt h (by decide)
/-- a def's end -/
theorem runFn_rt {f : Fn} {x : En → Out} {ms : List M} {m : M} {env : En} (hs : f.star = false) (hn : ms.length = f.np) (h : x (ms.map some ++ List.replicate (f.n - f.np) none) = .rt m env) : runFn f x ms = .ok m (backP (asg f.body) 0 (env.take ms.length)) := by
  unfold runFn
  rw [hs, if_neg Bool.false_ne_true, if_pos hn]
  unfold runB
  rw [h]
theorem runFn_nx {f : Fn} {x : En → Out} {ms : List M} {env : En} (hs : f.star = false) (hn : ms.length = f.np) (h : x (ms.map some ++ List.replicate (f.n - f.np) none) = .nx env) : runFn f x ms = .ok (.pure .non) (backP (asg f.body) 0 (env.take ms.length)) := by
  unfold runFn
  rw [hs, if_neg Bool.false_ne_true, if_pos hn]
  unfold runB
  rw [h]
theorem runFn_star {f : Fn} {x : En → Out} {m : M} {r : List M} {env : En} (hs : f.star = true) (hn : f.np = 2) (hr : r.length ≤ 5) (h : x (some m :: some (.pure (.tup (M.frzs r))) :: List.replicate (f.n - 2) none) = .nx env) : runFn f x (m :: r) = .ok (.pure .non) ((backP (asg f.body) 0 (env.take 2)).take 1 ++ List.replicate r.length none) := by
  unfold runFn
  rw [hs, if_pos rfl]
  show (if f.np = 2 ∧ r.length ≤ 5 then _ else _) = _
  rw [if_pos ⟨hn, hr⟩]
  unfold runB
  rw [hn]
  have h : x ([m, .pure (.tup (M.frzs r))].map some ++ List.replicate (f.n - 2) none) = .nx env := h
  rw [h]
  rfl
theorem setI_s {c f : Nat} {m : M} {fs : List (Nat × M)} (h : fs.length < 100) (h2 : R.attr c f = true) : setI R f m (.ins c fs) = some (.ins c (setF f m fs)) := if_pos ⟨h, h2⟩
@[simp] theorem appL_lst (m : M) (ms : List M) (h : ms.length < SL) : appL m (.lst ms) = some (.lst (ms ++ [m])) := if_pos h
@[simp] theorem asIt_lst (xs : List D) : asIt (.lst xs) = some xs := id rfl
@[simp] theorem asIt_tup (xs : List D) : asIt (.tup xs) = some xs := id rfl
@[simp] theorem frzf_nil : M.frzf [] = [] := id rfl
@[simp] theorem frzf_cons (n : Nat) (m : M) (r : List (Nat × M)) : M.frzf ((n, m) :: r) = (n, m.frz) :: M.frzf r := id rfl
@[simp] theorem frz_ins (c : Nat) (fs : List (Nat × M)) : (M.ins c fs).frz = .ins c (M.frzf fs) := id rfl
theorem frzs_map {α : Type} (f : α → M) (xs : List α) : M.frzs (xs.map f) = xs.map fun x => (f x).frz := by
  induction xs with
  | nil => rfl
  | cons x xs ih => simp [M.frzs, ih]
theorem frzs_mapl {α : Type} (f : α → D) (xs : List α) : M.frzs (xs.map fun x => .pure (f x)) = xs.map f := by
  rw [frzs_map]; rfl
theorem ints_all (r : List Int) : (r.map D.int).all atomD = true := by
  induction r with
  | nil => rfl
  | cons x r ih => simpa [atomD] using ih
theorem any_eqD (r : List Int) (x : Int) : ((r.map D.int).any fun y => eqD y (.int x)) = decide (x ∈ r) := by
  induction r with
  | nil => simp
  | cons y r ih =>
    rw [List.map_cons, List.any_cons, ih]
    show ((y == x) || decide (x ∈ r)) = _
    by_cases h : y = x
    · subst h; simp
    · have h2 : x ≠ y := fun z => h z.symm
      simp [h, h2]
theorem semC_isin_ints (x : Int) (r : List Int) : semC .isin (.int x) (.lst (r.map .int)) = some (decide (x ∈ r)) := by
  show (if (atomD (.int x) && (r.map D.int).all atomD) || (flatD (.int x) && flatD (.lst (r.map D.int))) then some ((r.map D.int).any fun y => eqD y (.int x)) else none) = _
  rw [ints_all, any_eqD]
  rfl
theorem semC_notin_ints (x : Int) (r : List Int) : semC .notin (.int x) (.lst (r.map .int)) = some (!decide (x ∈ r)) := by
  show (if (atomD (.int x) && (r.map D.int).all atomD) || (flatD (.int x) && flatD (.lst (r.map D.int))) then some (!(r.map D.int).any fun y => eqD y (.int x)) else none) = _
  rw [ints_all, any_eqD]
  rfl
mutual
theorem eqD_refl : ∀ (n : Nat) (d : D), flatN n d = true → eqD d d = true
  | _, .non, _ => rfl
  | _, .bl b, _ => by simp [eqD]
  | _, .int i, _ => by simp [eqD]
  | _, .str x, _ => by simp [eqD]
  | n + 1, .tup xs, h => eqDs_refl n xs h
  | n + 1, .lst xs, h => eqDs_refl n xs h
  | 0, .tup _, h => by cases h
  | 0, .lst _, h => by cases h
  | n, .dic _, h => by cases n <;> cases h
  | n, .ins _ _, h => by cases n <;> cases h
  | n, .cls _, h => by cases n <;> cases h
  | n, .frl _, h => by cases n <;> cases h
theorem eqDs_refl : ∀ (n : Nat) (xs : List D), xs.all (flatN n) = true → eqDs xs xs = true
  | _, [], _ => rfl
  | n, x :: xs, h => by
    rw [List.all_cons, Bool.and_eq_true] at h
    show (eqD x x && eqDs xs xs) = true
    rw [eqD_refl n x h.1, eqDs_refl n xs h.2]; rfl
end
theorem semC_eq_refl {d : D} (h : flatD d = true) : semC .eq d d = some true := by
  have : semC .eq d d = if scalD d d || (flatD d && flatD d) then some (eqD d d) else none := by cases d <;> rfl
  rw [this, h, eqD_refl 60 d h]
  simp
theorem semC_ne_refl {d : D} (h : flatD d = true) : semC .ne d d = some false := by
  have : semC .ne d d = if scalD d d || (flatD d && flatD d) then some (!eqD d d) else none := by cases d <;> rfl
  rw [this, h, eqD_refl 60 d h]
  simp
theorem semC_ne_flat {a b : D} (h : flatD a = true) (h2 : flatD b = true) : semC .ne a b = some (!eqD a b) := by
  have : semC .ne a b = if scalD a b || (flatD a && flatD b) then some (!eqD a b) else none := by cases a <;> cases b <;> rfl
  rw [this, h, h2]
  simp
theorem semC_isin_flat {t xs : List D} (h : flatD (.tup t) = true) (h2 : flatD (.lst xs) = true) : semC .isin (.tup t) (.lst xs) = some (xs.any fun x => eqD x (.tup t)) := by
  have : semC .isin (.tup t) (.lst xs) = if (atomD (.tup t) && xs.all atomD) || (flatD (.tup t) && flatD (.lst xs)) then some (xs.any fun x => eqD x (.tup t)) else none := rfl
  rw [this, h, h2]
  simp
/-- the loop under an invariant: each item counted -/
theorem forL_ind (b : D → En → Out) (P : Nat → En → Prop) : ∀ (ds : List D) (k : Nat) (env : En), P k env →
    (∀ j d env, ds[j]? = some d → P (k + j) env → ∃ env', (b d env = .nx env' ∨ b d env = .ct env') ∧ P (k + j + 1) env') →
    ∃ env', forL b ds env = .nx env' ∧ P (k + ds.length) env' := by
  intro ds
  induction ds with
  | nil => intro k env h _; exact ⟨env, rfl, h⟩
  | cons d ds ih =>
    intro k env h hs
    obtain ⟨env', h1, h2⟩ := hs 0 d env rfl h
    obtain ⟨e2, h3, h4⟩ := ih (k + 1) env' h2 fun j d' env hd hp => by
      have := hs (j + 1) d' env hd (by rw [show k + (j + 1) = k + 1 + j by omega]; exact hp)
      rw [show k + (j + 1) = k + 1 + j by omega] at this
      exact this
    refine ⟨e2, ?_, by rw [List.length_cons, show k + (ds.length + 1) = k + 1 + ds.length by omega]; exact h4⟩
    rcases h1 with h1 | h1 <;> simp only [forL, h1, h3]
theorem lcLoop_ind (f : D → En → Rs (Option M)) (g : D → Option M) (I : En → Prop) : ∀ (ds : List D) (env : En), I env →
    (∀ d env, d ∈ ds → I env → ∃ env', f d env = .ok (g d) env' ∧ I env') →
    ∃ env', lcLoop f ds env = .ok (ds.filterMap g) env' ∧ I env' := by
  intro ds
  induction ds with
  | nil => intro env h _; exact ⟨env, rfl, h⟩
  | cons d ds ih =>
    intro env h hs
    obtain ⟨e1, h1, h2⟩ := hs d env (List.mem_cons_self ..) h
    obtain ⟨e2, h3, h4⟩ := ih e1 h2 fun d' env hd => hs d' env (List.mem_cons_of_mem _ hd)
    refine ⟨e2, ?_, h4⟩
    unfold lcLoop
    rw [h1]
    simp only [bind_ok, h3]
    cases h5 : g d <;> simp [List.filterMap_cons, h5]
end
end FB.Ev

set_option Elab.async false
set_option linter.all false
set_option maxRecDepth 100000
/-! /tmp/scratch/t/K13Pg.lean: the text in the small language. Printed by gen.py. -/
namespace K13
open PySem FB L2
def top (i : Nat) : Stmt := (PySem.Challenge.pw_farblend_k13_edges_that_come_and_go).main.body.getD i (.Pass ⟨0, 0, 0, 0⟩)
def f0 : Fn := ⟨3, 9, false, (.seq (.ite (.not (.call 9 (.cons (.var 1) (.cons (.int 1) (.cons (.fld 0 (.cls 0)) .nil))))) (.seq (.raise .non) .skip) .skip) (.seq (.for (.enum (.var 2)) (.tup [3, 4]) (.seq (.ite (.not (.call 10 (.cons (.var 4) (.cons (.var 1) .nil)))) (.seq (.raise .non) .skip) .skip) .skip)) (.seq (.setf 0 [] 1 (.var 1)) (.seq (.setf 0 [] 2 (.sss false (.var 2) (.one 4) (.tup (.cons (.bi false .min1 (.var 4)) (.cons (.bi false .max1 (.var 4)) .nil))))) (.seq (.setf 0 [] 3 (.lc true (.rng1 (.var 1)) (.one 5) (.bl true) (.lst true .nil))) (.seq (.for (.plv 0 [.fld 2]) (.tup [6, 7]) (.seq (.app 0 [.fld 3, .ixs 6] (.var 7)) (.seq (.ite (.cmp .ne (.var 6) (.var 7)) (.seq (.app 0 [.fld 3, .ixs 7] (.var 6)) .skip) .skip) .skip))) (.seq (.setf 0 [] 3 (.lc false (.frp 0 [.fld 3]) (.one 8) (.bl true) (.bi false .sorted (.var 8)))) .skip)))))))⟩
def d0 : DefF := { at_ := .meth "Net" "__init__", name := "__init__", qual := "Net.__init__", st := inClass (top 12) 1, fn := f0, N := ["self", "nodes", "edges", "at", "edge", "node", "one", "other", "side"], ps := ["self", "nodes", "edges"], pos := true }
def f1 : Fn := ⟨1, 1, false, (.seq (.ret (.fld 1 (.var 0))) .skip)⟩
def d1 : DefF := { at_ := .prop "Net" "nodes", name := "nodes", qual := "Net.nodes", st := inClass (top 12) 2, fn := f1, N := ["self"], ps := ["self"], pos := true }
def f2 : Fn := ⟨1, 1, false, (.seq (.ret (.bi false .list (.fld 2 (.var 0)))) .skip)⟩
def d2 : DefF := { at_ := .meth "Net" "edges", name := "edges", qual := "Net.edges", st := inClass (top 12) 3, fn := f2, N := ["self"], ps := ["self"], pos := true }
def f3 : Fn := ⟨2, 3, true, (.seq (.for (.var 1) (.one 2) (.seq (.ite (.not (.call 9 (.cons (.var 2) (.cons (.int 0) (.cons (.op2 false .sub (.fld 1 (.var 0)) (.int 1)) .nil))))) (.seq (.raise .non) .skip) .skip) .skip)) .skip)⟩
def d3 : DefF := { at_ := .meth "Net" "check_node", name := "check_node", qual := "Net.check_node", st := inClass (top 12) 4, fn := f3, N := ["self", "nodes", "node"], ps := ["self", "nodes"], pos := true }
def f4 : Fn := ⟨2, 2, false, (.seq (.ex (.meth 4 (.var 0) (.cons (.var 1) .nil))) (.seq (.ret (.bi false .list (.ix (.fld 3 (.var 0)) (.var 1)))) .skip))⟩
def d4 : DefF := { at_ := .meth "Net" "near", name := "near", qual := "Net.near", st := inClass (top 12) 6, fn := f4, N := ["self", "node"], ps := ["self", "node"], pos := true }
def f5 : Fn := ⟨3, 3, false, (.seq (.ex (.meth 4 (.var 0) (.cons (.var 1) (.cons (.var 2) .nil)))) (.seq (.ite (.cmp .isin (.var 2) (.ix (.fld 3 (.var 0)) (.var 1))) (.seq (.raise .non) .skip) .skip) (.seq (.ret (.new false 0 (.cons (.fld 1 (.var 0)) (.cons (.op2 false .add (.fld 2 (.var 0)) (.lst false (.cons (.tup (.cons (.var 1) (.cons (.var 2) .nil))) .nil))) .nil)))) .skip)))⟩
def d5 : DefF := { at_ := .meth "Net" "with_edge", name := "with_edge", qual := "Net.with_edge", st := inClass (top 12) 9, fn := f5, N := ["self", "one", "other"], ps := ["self", "one", "other"], pos := true }
def f6 : Fn := ⟨3, 4, false, (.seq (.ex (.meth 4 (.var 0) (.cons (.var 1) (.cons (.var 2) .nil)))) (.seq (.ite (.cmp .notin (.var 2) (.ix (.fld 3 (.var 0)) (.var 1))) (.seq (.raise .non) .skip) .skip) (.seq (.ret (.new false 0 (.cons (.fld 1 (.var 0)) (.cons (.lc false (.fld 2 (.var 0)) (.one 3) (.cmp .ne (.var 3) (.tup (.cons (.bi2 false .min2 (.var 1) (.var 2)) (.cons (.bi2 false .max2 (.var 1) (.var 2)) .nil)))) (.var 3)) .nil)))) .skip)))⟩
def d6 : DefF := { at_ := .meth "Net" "without_edge", name := "without_edge", qual := "Net.without_edge", st := inClass (top 12) 10, fn := f6, N := ["self", "one", "other", "line"], ps := ["self", "one", "other"], pos := true }
def f7 : Fn := ⟨2, 2, false, (.seq (.ret (.and (.isi 0 (.var 1)) (.and (.cmp .eq (.fld 1 (.var 0)) (.fld 1 (.var 1))) (.cmp .eq (.fld 2 (.var 0)) (.fld 2 (.var 1)))))) .skip)⟩
def d7 : DefF := { at_ := .meth "Net" "__eq__", name := "__eq__", qual := "Net.__eq__", st := inClass (top 12) 11, fn := f7, N := ["self", "other"], ps := ["self", "other"], pos := true }
def f8 : Fn := ⟨1, 1, false, (.seq (.ret (.bi false .len (.fld 2 (.var 0)))) .skip)⟩
def d8 : DefF := { at_ := .meth "Net" "__len__", name := "__len__", qual := "Net.__len__", st := inClass (top 12) 12, fn := f8, N := ["self"], ps := ["self"], pos := true }
def f9 : Fn := ⟨3, 3, false, (.seq (.ret (.and (.isb 0 (.var 0)) (.and (.not (.isb 1 (.var 0))) (.chain .le .le (.var 1) (.var 0) (.var 2))))) .skip)⟩
def d9 : DefF := { at_ := .glo "is_number", name := "is_number", qual := "is_number", st := top 9, fn := f9, N := ["value", "least", "most"], ps := ["value", "least", "most"], pos := true }
def f10 : Fn := ⟨2, 3, false, (.seq (.ret (.and (.cmp .eq (.bi false .len (.var 0)) (.int 2)) (.bi false .all (.lc false (.var 0) (.one 2) (.bl true) (.call 9 (.cons (.var 2) (.cons (.int 0) (.cons (.op2 false .sub (.var 1) (.int 1)) .nil)))))))) .skip)⟩
def d10 : DefF := { at_ := .glo "is_edge", name := "is_edge", qual := "is_edge", st := top 11, fn := f10, N := ["edge", "nodes", "node"], ps := ["edge", "nodes"], pos := true }
def f11 : Fn := ⟨2, 6, false, (.seq (.ite (.cmp .lt (.plv 0 [.ixc 2]) (.int 2)) (.seq (.setx 0 [] (.int 1) (.op2 false .add (.plv 0 [.ixc 1]) (.int 1))) (.seq (.set 2 (.op2 false .add (.plv 0 [.ixc 3]) (.op2 false .mul (.plv 0 [.ixc 1]) (.int 8011)))) (.seq (.ite (.cmp .le (.plv 0 [.ixc 1]) (.bi false .len (.plv 0 [.ixc 0]))) (.seq (.set 2 (.ix (.plv 0 [.ixc 0]) (.op2 false .sub (.plv 0 [.ixc 1]) (.int 1)))) .skip) .skip) (.seq (.ite (.or (.cmp .gt (.plv 0 [.ixc 1]) (.bi false .len (.plv 0 [.ixc 0]))) (.cmp .lt (.var 2) (.op2 false .pow (.int 10) (.int 18)))) (.seq (.set 3 (.op2 false .mod (.bi false .toInt (.op2 false .add (.op2 false .add (.op2 false .mul (.var 2) (.int 45751)) (.op2 false .mul (.plv 0 [.ixc 1]) (.int 30271))) (.plv 0 [.ixc 3]))) (.int 2147483587))) (.seq (.set 4 (.op2 false .mod (.bi false .toInt (.op2 false .add (.op2 false .mul (.var 3) (.var 3)) (.op2 false .mul (.plv 0 [.ixc 1]) (.int 17291)))) (.int 1000000009))) (.seq (.ret (.op2 false .mod (.op2 false .fdiv (.op2 false .mod (.bi false .toInt (.op2 false .add (.op2 false .mul (.var 4) (.int 41381)) (.var 3))) (.int 2147483323)) (.int 19)) (.var 1))) .skip))) .skip) (.seq (.setx 0 [] (.int 2) (.var 2)) .skip))))) .skip) (.seq (.set 5 (.op2 false .mod (.bi false .toInt (.plv 0 [.ixc 2])) (.var 1))) (.seq (.setx 0 [] (.int 2) (.op2 false .fdiv (.bi false .toInt (.plv 0 [.ixc 2])) (.var 1))) (.seq (.ret (.var 5)) .skip))))⟩
def d11 : DefF := { at_ := .glo "_law_pull", name := "_law_pull", qual := "_law_pull", st := top 14, fn := f11, N := ["_law_box", "_law_many", "_law_cell", "_law_one_z", "_law_two", "_law_drawn"], ps := ["_law_box", "_law_many"], pos := true }
def f12 : Fn := ⟨2, 3, false, (.seq (.ite (.isb 6 (.var 1)) (.seq (.ite (.or (.cmp .ne (.isb 3 (.var 0)) (.isb 3 (.var 1))) (.cmp .ne (.isb 4 (.var 0)) (.isb 4 (.var 1)))) (.seq (.ret (.bl false)) .skip) .skip) (.seq (.ret (.and (.cmp .eq (.bi false .len (.var 0)) (.bi false .len (.var 1))) (.bi false .all (.lc false (.rng1 (.bi false .len (.var 1))) (.one 2) (.bl true) (.call 12 (.cons (.ix (.var 0) (.var 2)) (.cons (.ix (.var 1) (.var 2)) .nil))))))) .skip)) .skip) (.seq (.ite (.or (.isb 6 (.var 0)) (.cmp .ne (.isb 1 (.var 0)) (.isb 1 (.var 1)))) (.seq (.ret (.bl false)) .skip) .skip) (.seq (.ret (.cmp .eq (.var 0) (.var 1))) .skip)))⟩
def d12 : DefF := { at_ := .glo "_law_like", name := "_law_like", qual := "_law_like", st := top 15, fn := f12, N := ["_law_found", "_law_due", "_law_at"], ps := ["_law_found", "_law_due"], pos := true }
def f13 : Fn := ⟨1, 4, false, (.seq (.set 1 (.lc false (.sl false (.var 0) .non (.int 63)) (.one 2) (.bl true) (.bi false .toInt (.var 2)))) (.seq (.set 3 (.op2 false .add (.int 5745) (.op2 false .mul (.int 101) (.bi false .len (.var 1))))) (.seq (.for (.var 1) (.one 2) (.seq (.set 3 (.op2 false .mod (.bi false .toInt (.op2 false .add (.op2 false .mul (.var 3) (.int 6379)) (.var 2))) (.int 2147483549))) .skip)) (.seq (.ret (.lst true (.cons (.var 1) (.cons (.int 0) (.cons (.int 0) (.cons (.var 3) .nil)))))) .skip))))⟩
def d13 : DefF := { at_ := .glo "_law_open", name := "_law_open", qual := "_law_open", st := top 16, fn := f13, N := ["_law_script", "_law_cells", "_law_cell", "_law_salt"], ps := ["_law_script"], pos := true }
def f14 : Fn := ⟨2, 8, false, (.seq (.par 2 3 (.op2 false .add (.int 1) (.call 11 (.cons (.bor 0) (.cons (.var 1) .nil)))) (.lst true .nil)) (.seq (.par 4 5 (.call 11 (.cons (.bor 0) (.cons (.int 4) .nil))) (.call 11 (.cons (.bor 0) (.cons (.int 3) .nil)))) (.seq (.for (.rng1 (.var 2)) (.one 6) (.seq (.ite (.and (.cmp .eq (.var 5) (.int 0)) (.cmp .eq (.call 11 (.cons (.bor 0) (.cons (.int 4) .nil))) (.int 0))) (.seq (.app 3 [] (.tup (.cons (.var 6) (.cons (.var 6) .nil)))) .skip) .skip) (.seq (.for (.rng2 (.op2 false .add (.var 6) (.int 1)) (.var 2)) (.one 7) (.seq (.ite (.or (.cmp .lt (.call 11 (.cons (.bor 0) (.cons (.int 5) .nil))) (.ix (.lst false (.cons (.int 1) (.cons (.int 2) (.cons (.int 1) (.cons (.int 1) .nil))))) (.var 4))) (.and (.cmp .gt (.var 4) (.int 1)) (.cmp .eq (.var 6) (.op2 false .sub (.var 7) (.int 1))))) (.seq (.app 3 [] (.tup (.cons (.var 6) (.cons (.var 7) .nil)))) .skip) .skip) .skip)) .skip))) (.seq (.ret (.tup (.cons (.var 2) (.cons (.mv 3) .nil)))) .skip))))⟩
def d14 : DefF := { at_ := .glo "_law_net", name := "_law_net", qual := "_law_net", st := top 17, fn := f14, N := ["_law_box", "_law_top", "_law_many", "_law_edges", "_law_way", "_law_loops", "_law_one_z", "_law_other_z"], ps := ["_law_box", "_law_top"], pos := true }
def f15 : Fn := ⟨1, 1, false, (.seq (.ret (.new false 0 (.cons (.ix (.var 0) (.int 0)) (.cons (.ix (.var 0) (.int 1)) .nil)))) .skip)⟩
def d15 : DefF := { at_ := .glo "_law_made_net", name := "_law_made_net", qual := "_law_made_net", st := top 18, fn := f15, N := ["_law_web"], ps := ["_law_web"], pos := true }
def f16 : Fn := ⟨1, 6, false, (.seq (.set 1 (.lc true (.rng1 (.ix (.var 0) (.int 0))) (.one 2) (.bl true) (.lst true .nil))) (.seq (.for (.ix (.var 0) (.int 1)) (.tup [3, 4]) (.seq (.app 1 [.ixs 3] (.var 4)) (.seq (.ite (.cmp .ne (.var 3) (.var 4)) (.seq (.app 1 [.ixs 4] (.var 3)) .skip) .skip) .skip))) (.seq (.ret (.lc false (.frp 1 []) (.one 5) (.bl true) (.bi false .sorted (.var 5)))) .skip)))⟩
def d16 : DefF := { at_ := .glo "_law_sides", name := "_law_sides", qual := "_law_sides", st := top 19, fn := f16, N := ["_law_web", "_law_found", "_law_node", "_law_one_z", "_law_other_z", "_law_side"], ps := ["_law_web"], pos := true }
def f17 : Fn := ⟨1, 13, false, (.seq (.set 1 (.call 13 (.cons (.var 0) .nil))) (.seq (.set 2 (.call 14 (.cons (.bor 1) (.cons (.int 7) .nil)))) (.seq (.set 3 (.call 15 (.cons (.var 2) .nil))) (.seq (.for (.rng1 (.int 10)) (.one 4) (.seq (.par 5 6 (.call 11 (.cons (.bor 1) (.cons (.ix (.var 2) (.int 0)) .nil))) (.call 11 (.cons (.bor 1) (.cons (.ix (.var 2) (.int 0)) .nil)))) (.seq (.setT [7, 8] (.tup (.cons (.tup (.cons (.bi2 false .min2 (.var 5) (.var 6)) (.cons (.bi2 false .max2 (.var 5) (.var 6)) .nil))) (.cons (.meth 5 (.var 3) .nil) .nil)))) (.seq (.ite (.cmp .isin (.var 7) (.ix (.var 2) (.int 1))) (.seq (.par 9 10 (.meth 6 (.var 3) (.cons (.var 5) (.cons (.var 6) .nil))) (.lc false (.ix (.var 2) (.int 1)) (.one 11) (.cmp .ne (.var 11) (.var 7)) (.var 11))) .skip) (.seq (.par 9 10 (.methk 7 0 (.var 3) .nil (.cons (.var 6) (.cons (.var 5) .nil))) (.bi false .sorted (.op2 false .add (.ix (.var 2) (.int 1)) (.lst false (.cons (.var 7) .nil))))) .skip)) (.seq (.ite (.or (.cmp .ne (.meth 5 (.var 3) .nil) (.var 8)) (.not (.call 12 (.cons (.lst false (.cons (.fld 8 (.var 9)) (.cons (.meth 5 (.var 9) .nil) .nil))) (.cons (.lst false (.cons (.ix (.var 2) (.int 0)) (.cons (.var 10) .nil))) .nil))))) (.seq (.ret (.bl false)) .skip) .skip) (.seq (.setT [3, 2] (.tup (.cons (.var 9) (.cons (.tup (.cons (.ix (.var 2) (.int 0)) (.cons (.var 10) .nil))) .nil)))) (.seq (.ite (.or (.cmp .ne (.lc false (.rng1 (.ix (.var 2) (.int 0))) (.one 12) (.bl true) (.meth 9 (.var 3) (.cons (.var 12) .nil))) (.call 16 (.cons (.var 2) .nil))) (.cmpd .ne (.var 3) (.call 15 (.cons (.var 2) .nil)))) (.seq (.ret (.bl false)) .skip) .skip) .skip))))))) (.seq (.ret (.cmp .eq (.bid .len (.var 3)) (.bi false .len (.ix (.var 2) (.int 1))))) .skip)))))⟩
def d17 : DefF := { at_ := .glo "law", name := "law", qual := "law", st := top 20, fn := f17, N := ["_law_script", "_law_box", "_law_web", "_law_made", "_law_turn", "_law_one_z", "_law_other_z", "_law_edge", "_law_kept", "_law_later", "_law_rows", "_law_line", "_law_node"], ps := ["_law_script"], pos := true }
def txt : Txt := { nms := ["MOST", "own_nodes", "lines", "sides", "check_node", "edges", "without_edge", "with_edge", "nodes", "near"], cns := ["Net"], gns := [], defs := [d0, d1, d2, d3, d4, d5, d6, d7, d8, d9, d10, d11, d12, d13, d14, d15, d16, d17], meths := [((0, 5), 2), ((0, 4), 3), ((0, 9), 4), ((0, 7), 5), ((0, 6), 6)], props := [((0, 8), 1)], duns := [((0, 2), 7), ((0, 1), 8)], cons := [((0, 0), .int 120)], inits := [(0, 0)], attrs := [(0, 1), (0, 2), (0, 3)], kps := [(⟨5, [.inl 0, .inl 2, .inl 1]⟩, (1, ["other", "one"]))] }
theorem nms_ok : nmsOk txt.nms = true := by decide +kernel
theorem ck0 : (ckS txt.tx f0.body).b ⟨d0.N, defScope d0.st, fun _ => true⟩ (defBody d0.st) = true := by decide +kernel
theorem b0 : DefB txt d0 := by
  refine ⟨fun L => ⟨rfl, rfl, by decide, ck0, ⟨rfl, rfl, rfl, by decide +kernel, rfl, by decide +kernel, by decide +kernel⟩⟩, ?_, ?_⟩
  · intro h; cases h
  · intro _ hp
    exact ⟨rfl, fun kV doc pm an cdv ct us hl => match us, hl with | [_, _, _], _ => rfl⟩
theorem ck1 : (ckS txt.tx f1.body).b ⟨d1.N, defScope d1.st, fun _ => true⟩ (defBody d1.st) = true := by decide +kernel
theorem b1 : DefB txt d1 := by
  refine ⟨fun L => ⟨rfl, rfl, by decide, ck1, ⟨rfl, rfl, rfl, by decide +kernel, rfl, by decide +kernel, by decide +kernel⟩⟩, ?_, ?_⟩
  · intro h; cases h
  · intro _ hp
    exact ⟨rfl, fun kV doc pm an cdv ct us hl => match us, hl with | [_], _ => rfl⟩
theorem ck2 : (ckS txt.tx f2.body).b ⟨d2.N, defScope d2.st, fun _ => true⟩ (defBody d2.st) = true := by decide +kernel
theorem b2 : DefB txt d2 := by
  refine ⟨fun L => ⟨rfl, rfl, by decide, ck2, ⟨rfl, rfl, rfl, by decide +kernel, rfl, by decide +kernel, by decide +kernel⟩⟩, ?_, ?_⟩
  · intro h; cases h
  · intro _ hp
    exact ⟨rfl, fun kV doc pm an cdv ct us hl => match us, hl with | [_], _ => rfl⟩
theorem ck3 : (ckS txt.tx f3.body).b ⟨d3.N, defScope d3.st, fun _ => true⟩ (defBody d3.st) = true := by decide +kernel
theorem b3 : DefB txt d3 := by
  refine ⟨fun L => ⟨rfl, rfl, by decide, ck3, ⟨rfl, rfl, rfl, by decide +kernel, rfl, by decide +kernel, by decide +kernel⟩⟩, ?_, ?_⟩
  · intro _
    refine ⟨rfl, rfl, "self", "nodes", rfl, fun dV kV doc pm an cdv ct u rest e hl => ?_⟩
    subst e
    match rest, hl with
    | [], _ => rfl
    | [_], _ => rfl
    | [_, _], _ => rfl
    | [_, _, _], _ => rfl
    | [_, _, _, _], _ => rfl
    | [_, _, _, _, _], _ => rfl
    | _ :: _ :: _ :: _ :: _ :: _ :: r, h => exact absurd h (by simp only [List.length_cons]; omega)
  · intro h; cases h
theorem ck4 : (ckS txt.tx f4.body).b ⟨d4.N, defScope d4.st, fun _ => true⟩ (defBody d4.st) = true := by decide +kernel
theorem b4 : DefB txt d4 := by
  refine ⟨fun L => ⟨rfl, rfl, by decide, ck4, ⟨rfl, rfl, rfl, by decide +kernel, rfl, by decide +kernel, by decide +kernel⟩⟩, ?_, ?_⟩
  · intro h; cases h
  · intro _ hp
    exact ⟨rfl, fun kV doc pm an cdv ct us hl => match us, hl with | [_, _], _ => rfl⟩
theorem ck5 : (ckS txt.tx f5.body).b ⟨d5.N, defScope d5.st, fun _ => true⟩ (defBody d5.st) = true := by decide +kernel
theorem b5 : DefB txt d5 := by
  refine ⟨fun L => ⟨rfl, rfl, by decide, ck5, ⟨rfl, rfl, rfl, by decide +kernel, rfl, by decide +kernel, by decide +kernel⟩⟩, ?_, ?_⟩
  · intro h; cases h
  · intro _ hp
    exact ⟨rfl, fun kV doc pm an cdv ct us hl => match us, hl with | [_, _, _], _ => rfl⟩
theorem ck6 : (ckS txt.tx f6.body).b ⟨d6.N, defScope d6.st, fun _ => true⟩ (defBody d6.st) = true := by decide +kernel
theorem b6 : DefB txt d6 := by
  refine ⟨fun L => ⟨rfl, rfl, by decide, ck6, ⟨rfl, rfl, rfl, by decide +kernel, rfl, by decide +kernel, by decide +kernel⟩⟩, ?_, ?_⟩
  · intro h; cases h
  · intro _ hp
    exact ⟨rfl, fun kV doc pm an cdv ct us hl => match us, hl with | [_, _, _], _ => rfl⟩
theorem ck7 : (ckS txt.tx f7.body).b ⟨d7.N, defScope d7.st, fun _ => true⟩ (defBody d7.st) = true := by decide +kernel
theorem b7 : DefB txt d7 := by
  refine ⟨fun L => ⟨rfl, rfl, by decide, ck7, ⟨rfl, rfl, rfl, by decide +kernel, rfl, by decide +kernel, by decide +kernel⟩⟩, ?_, ?_⟩
  · intro h; cases h
  · intro _ hp
    exact ⟨rfl, fun kV doc pm an cdv ct us hl => match us, hl with | [_, _], _ => rfl⟩
theorem ck8 : (ckS txt.tx f8.body).b ⟨d8.N, defScope d8.st, fun _ => true⟩ (defBody d8.st) = true := by decide +kernel
theorem b8 : DefB txt d8 := by
  refine ⟨fun L => ⟨rfl, rfl, by decide, ck8, ⟨rfl, rfl, rfl, by decide +kernel, rfl, by decide +kernel, by decide +kernel⟩⟩, ?_, ?_⟩
  · intro h; cases h
  · intro _ hp
    exact ⟨rfl, fun kV doc pm an cdv ct us hl => match us, hl with | [_], _ => rfl⟩
theorem ck9 : (ckS txt.tx f9.body).b ⟨d9.N, defScope d9.st, fun _ => true⟩ (defBody d9.st) = true := by decide +kernel
theorem b9 : DefB txt d9 := by
  refine ⟨fun L => ⟨rfl, rfl, by decide, ck9, ⟨rfl, rfl, rfl, by decide +kernel, rfl, by decide +kernel, by decide +kernel⟩⟩, ?_, ?_⟩
  · intro h; cases h
  · intro _ hp
    exact ⟨rfl, fun kV doc pm an cdv ct us hl => match us, hl with | [_, _, _], _ => rfl⟩
theorem ck10 : (ckS txt.tx f10.body).b ⟨d10.N, defScope d10.st, fun _ => true⟩ (defBody d10.st) = true := by decide +kernel
theorem b10 : DefB txt d10 := by
  refine ⟨fun L => ⟨rfl, rfl, by decide, ck10, ⟨rfl, rfl, rfl, by decide +kernel, rfl, by decide +kernel, by decide +kernel⟩⟩, ?_, ?_⟩
  · intro h; cases h
  · intro _ hp
    exact ⟨rfl, fun kV doc pm an cdv ct us hl => match us, hl with | [_, _], _ => rfl⟩
theorem ck11 : (ckS txt.tx f11.body).b ⟨d11.N, defScope d11.st, fun _ => true⟩ (defBody d11.st) = true := by decide +kernel
theorem b11 : DefB txt d11 := by
  refine ⟨fun L => ⟨rfl, rfl, by decide, ck11, ⟨rfl, rfl, rfl, by decide +kernel, rfl, by decide +kernel, by decide +kernel⟩⟩, ?_, ?_⟩
  · intro h; cases h
  · intro _ hp
    exact ⟨rfl, fun kV doc pm an cdv ct us hl => match us, hl with | [_, _], _ => rfl⟩
theorem ck12 : (ckS txt.tx f12.body).b ⟨d12.N, defScope d12.st, fun _ => true⟩ (defBody d12.st) = true := by decide +kernel
theorem b12 : DefB txt d12 := by
  refine ⟨fun L => ⟨rfl, rfl, by decide, ck12, ⟨rfl, rfl, rfl, by decide +kernel, rfl, by decide +kernel, by decide +kernel⟩⟩, ?_, ?_⟩
  · intro h; cases h
  · intro _ hp
    exact ⟨rfl, fun kV doc pm an cdv ct us hl => match us, hl with | [_, _], _ => rfl⟩
theorem ck13 : (ckS txt.tx f13.body).b ⟨d13.N, defScope d13.st, fun _ => true⟩ (defBody d13.st) = true := by decide +kernel
theorem b13 : DefB txt d13 := by
  refine ⟨fun L => ⟨rfl, rfl, by decide, ck13, ⟨rfl, rfl, rfl, by decide +kernel, rfl, by decide +kernel, by decide +kernel⟩⟩, ?_, ?_⟩
  · intro h; cases h
  · intro _ hp
    exact ⟨rfl, fun kV doc pm an cdv ct us hl => match us, hl with | [_], _ => rfl⟩
theorem ck14 : (ckS txt.tx f14.body).b ⟨d14.N, defScope d14.st, fun _ => true⟩ (defBody d14.st) = true := by decide +kernel
theorem b14 : DefB txt d14 := by
  refine ⟨fun L => ⟨rfl, rfl, by decide, ck14, ⟨rfl, rfl, rfl, by decide +kernel, rfl, by decide +kernel, by decide +kernel⟩⟩, ?_, ?_⟩
  · intro h; cases h
  · intro _ hp
    exact ⟨rfl, fun kV doc pm an cdv ct us hl => match us, hl with | [_, _], _ => rfl⟩
theorem ck15 : (ckS txt.tx f15.body).b ⟨d15.N, defScope d15.st, fun _ => true⟩ (defBody d15.st) = true := by decide +kernel
theorem b15 : DefB txt d15 := by
  refine ⟨fun L => ⟨rfl, rfl, by decide, ck15, ⟨rfl, rfl, rfl, by decide +kernel, rfl, by decide +kernel, by decide +kernel⟩⟩, ?_, ?_⟩
  · intro h; cases h
  · intro _ hp
    exact ⟨rfl, fun kV doc pm an cdv ct us hl => match us, hl with | [_], _ => rfl⟩
theorem ck16 : (ckS txt.tx f16.body).b ⟨d16.N, defScope d16.st, fun _ => true⟩ (defBody d16.st) = true := by decide +kernel
theorem b16 : DefB txt d16 := by
  refine ⟨fun L => ⟨rfl, rfl, by decide, ck16, ⟨rfl, rfl, rfl, by decide +kernel, rfl, by decide +kernel, by decide +kernel⟩⟩, ?_, ?_⟩
  · intro h; cases h
  · intro _ hp
    exact ⟨rfl, fun kV doc pm an cdv ct us hl => match us, hl with | [_], _ => rfl⟩
theorem ck17 : (ckS txt.tx f17.body).b ⟨d17.N, defScope d17.st, fun _ => true⟩ (defBody d17.st) = true := by decide +kernel
theorem b17 : DefB txt d17 := by
  refine ⟨fun L => ⟨rfl, rfl, by decide, ck17, ⟨rfl, rfl, rfl, by decide +kernel, rfl, by decide +kernel, by decide +kernel⟩⟩, ?_, ?_⟩
  · intro h; cases h
  · intro _ hp
    exact ⟨rfl, fun kV doc pm an cdv ct us hl => match us, hl with | [_], _ => rfl⟩
theorem all_b : ∀ d ∈ txt.defs, DefB txt d := by
  intro d hd
  simp only [txt, List.mem_cons, List.not_mem_nil, or_false] at hd
  rcases hd with rfl | rfl | rfl | rfl | rfl | rfl | rfl | rfl | rfl | rfl | rfl | rfl | rfl | rfl | rfl | rfl | rfl | rfl
  · exact b0
  · exact b1
  · exact b2
  · exact b3
  · exact b4
  · exact b5
  · exact b6
  · exact b7
  · exact b8
  · exact b9
  · exact b10
  · exact b11
  · exact b12
  · exact b13
  · exact b14
  · exact b15
  · exact b16
  · exact b17
theorem pt0 : PatB txt (txt.kps.getD 0 (⟨0, []⟩, (0, []))) d5 := ⟨rfl, rfl, rfl, rfl, fun kV doc pm an cdv ct us ws h1 h2 => match us, ws, h1, h2 with | [_], [_, _], _, _ => rfl⟩
theorem all_p : ∀ (p : Nat) q, txt.kps[p]? = some q → ∃ d, PatB txt q d := by
  intro p q h
  match p, h with
  | 0, h => cases h; exact ⟨_, pt0⟩
  | n + 1, h => simp [txt] at h
end K13

set_option Elab.async false
set_option linter.all false
set_option maxRecDepth 100000
/-! K13B: what the defs compute. -/
namespace K13
open FB FB.Ev
abbrev Rk (k : Nat) : Rt := txt.pg.rt k
theorem call_eq (k f : Nat) (d : Fn) (hp : txt.pg.pos f = true) (hd : txt.pg.fn f = some d) (ms : List M) : (Rk (k + 1)).call f ms = runFn d (exec (Rk k) d.body) ms := by
  show (if txt.pg.pos f then run txt.pg (k + 1) f ms else .no) = _
  rw [if_pos hp]
  show (match txt.pg.fn f with | some d => runFn d (exec (Rk k) d.body) ms | none => .no) = _
  rw [hd]
theorem raw_eq (k f : Nat) (d : Fn) (hd : txt.pg.fn f = some d) (ms : List M) : (Rk (k + 1)).raw f ms = runFn d (exec (Rk k) d.body) ms := by
  show (match txt.pg.fn f with | some d => runFn d (exec (Rk k) d.body) ms | none => .no) = _
  rw [hd]
@[simp] theorem r_con (k : Nat) : (Rk k).con 0 0 = some (.int 120) := id rfl
@[simp] theorem r_init (k : Nat) : (Rk k).init 0 = some 0 := id rfl
@[simp] theorem r_m5 (k : Nat) : (Rk k).meth 0 5 = some 2 := id rfl
@[simp] theorem r_m4 (k : Nat) : (Rk k).meth 0 4 = some 3 := id rfl
@[simp] theorem r_m9 (k : Nat) : (Rk k).meth 0 9 = some 4 := id rfl
@[simp] theorem r_m7 (k : Nat) : (Rk k).meth 0 7 = some 5 := id rfl
@[simp] theorem r_m6 (k : Nat) : (Rk k).meth 0 6 = some 6 := id rfl
@[simp] theorem r_p8 (k : Nat) : (Rk k).prop 0 8 = some 1 := id rfl
@[simp] theorem r_d2 (k : Nat) : (Rk k).dun 0 2 = some 7 := id rfl
@[simp] theorem r_d1 (k : Nat) : (Rk k).dun 0 1 = some 8 := id rfl
@[simp] theorem r_a1 (k : Nat) : (Rk k).attr 0 1 = true := id rfl
@[simp] theorem r_a2 (k : Nat) : (Rk k).attr 0 2 = true := id rfl
@[simp] theorem r_a3 (k : Nat) : (Rk k).attr 0 3 = true := id rfl
@[simp] theorem r_kp (k : Nat) : (Rk k).kp 0 = some ⟨5, [.inl 0, .inl 2, .inl 1]⟩ := id rfl
/-! ### small defs -/
theorem isnum (k : Nat) (v a b : Int) (h1 : a ≤ v) (h2 : v ≤ b) : (Rk (k + 1)).call 9 [.pure (.int v), .pure (.int a), .pure (.int b)] = .ok (.pure (.bl true)) [some (.pure (.int v)), some (.pure (.int a)), some (.pure (.int b))] := by
  rw [call_eq k 9 f9 rfl rfl]
  exact (runFn_rt (env := [some (.pure (.int v)), some (.pure (.int a)), some (.pure (.int b))]) rfl rfl (by simp [-Rs.bind, -Rs.lift, f9, isbM, kindM, h1, h2])).trans rfl
abbrev pT (p : Nat × Nat) : D := .tup [.int p.1, .int p.2]
theorem isedge (k : Nat) (a b n : Nat) (h1 : a < n) (h2 : b < n) : (Rk (k + 2)).call 10 [.pure (pT (a, b)), .pure (.int n)] = .ok (.pure (.bl true)) [some (.pure (pT (a, b))), some (.pure (.int n))] := by
  rw [call_eq (k + 1) 10 f10 rfl rfl]
  have e1 := isnum k a 0 ((n : Int) - 1) (by omega) (by omega)
  have e2 := isnum k b 0 ((n : Int) - 1) (by omega) (by omega)
  have e3 : semBi false .all [.lst [.bl true, .bl true]] = some (.pure (.bl true)) := rfl
  have e4 : ([.pure (.bl true), .pure (.bl true)] : List M).length ≤ SL := by decide
  exact (runFn_rt (env := [some (.pure (pT (a, b))), some (.pure (.int n)), none]) rfl rfl (by simp [-Rs.bind, -Rs.lift, SL, f10, e1, e2, e3])).trans rfl
/-! ### the draws -/
def box (cells : List Int) (pos stock salt : Int) : M := .lst [.pure (.lst (cells.map .int)), .pure (.int pos), .pure (.int stock), .pure (.int salt)]
theorem pull (R : Rt) (cells : List Int) (pos stock salt many : Int) (hp : 0 ≤ pos) (h0 : 0 < many) (h1 : many < 2 ^ 30) :
    ∃ v pos' stock', runFn f11 (exec R f11.body) [box cells pos stock salt, .pure (.int many)] = .ok (.pure (.int v)) [some (box cells pos' stock' salt), some (.pure (.int many))] ∧ 0 ≤ v ∧ v < many ∧ 0 ≤ pos' := by
  suffices h : ∃ v pos' stock' a b c d, exec R f11.body [some (box cells pos stock salt), some (.pure (.int many)), none, none, none, none] = .rt (.pure (.int v)) [some (box cells pos' stock' salt), some (.pure (.int many)), a, b, c, d] ∧ 0 ≤ v ∧ v < many ∧ 0 ≤ pos' by
    obtain ⟨v, p, s, a, b, c, d, h, h2⟩ := h
    exact ⟨v, p, s, by rw [runFn_rt rfl rfl h]; rfl, h2⟩
  have hmod : ∀ n : Int, 0 ≤ n % many ∧ n % many < many := fun n => ⟨Int.emod_nonneg _ (by omega), Int.emod_lt_of_pos _ h0⟩
  have hz : ∀ n : Int, (n % 2147483587).natAbs < 2 ^ 64 := fun n => by
    have := Int.emod_nonneg n (b := 2147483587) (by omega)
    have := Int.emod_lt_of_pos n (b := 2147483587) (by omega)
    omega
  have h1' : many < 1073741824 := by simpa using h1
  have hpow : sem2 false .pow (.int 10) (.int 18) = some (.pure (.int 1000000000000000000)) := by rw [sem2_pow (by decide) (by decide) (by decide)]; rfl
  by_cases hs : stock < 2
  · by_cases hl : pos + 1 ≤ cells.length
    · have hi : ∃ c, semIx (.lst (cells.map .int)) (.int pos) = some (.int c) := by
        have e : pos = (pos.toNat : Int) := by omega
        have hc : pos.toNat < cells.length := by omega
        have := semIx_lst (cells.map .int) pos.toNat (.int cells[pos.toNat]) (by simp [List.getElem?_map, List.getElem?_eq_getElem hc])
        rw [← e] at this
        exact ⟨_, this⟩
      obtain ⟨c, hi⟩ := hi
      have hl2 : ¬ ((cells.length : Int) < pos + 1) := by omega
      by_cases hc : c < 1000000000000000000
      · simp [-Rs.bind, -Rs.lift, f11, box, hs, hl, hl2, hi, hc, hpow, hz, hmod, h0, h1', ixNat]
        exact ⟨_, _, ⟨rfl, rfl⟩, (hmod _).1, (hmod _).2, by omega⟩
      · simp [-Rs.bind, -Rs.lift, f11, box, hs, hl, hl2, hi, hc, hpow, hz, hmod, h0, h1', ixNat]
        exact ⟨_, _, ⟨rfl, rfl⟩, (hmod _).1, (hmod _).2, by omega⟩
    · have hl2 : ((cells.length : Int) < pos + 1) := by omega
      simp [-Rs.bind, -Rs.lift, f11, box, hs, hl, hl2, hpow, hz, hmod, h0, h1', ixNat]
      exact ⟨_, _, ⟨rfl, rfl⟩, (hmod _).1, (hmod _).2, by omega⟩
  · simp [-Rs.bind, -Rs.lift, f11, box, hs, hmod, h0, h1', ixNat, hp]
    exact ⟨_, _, ⟨rfl, rfl⟩, (hmod _).1, (hmod _).2, by omega⟩
theorem pull_c (k : Nat) (cells : List Int) (pos stock salt many : Int) (hp : 0 ≤ pos) (h0 : 0 < many) (h1 : many < 2 ^ 30) :
    ∃ v pos' stock', (Rk (k + 1)).call 11 [box cells pos stock salt, .pure (.int many)] = .ok (.pure (.int v)) [some (box cells pos' stock' salt), some (.pure (.int many))] ∧ 0 ≤ v ∧ v < many ∧ 0 ≤ pos' := by
  rw [call_eq k 11 f11 rfl rfl]
  exact pull _ cells pos stock salt many hp h0 h1
end K13

set_option Elab.async false
set_option linter.all false
set_option maxRecDepth 100000
/-! K13C: the net's methods, the comparison, the script's box. -/
namespace K13
open FB FB.Ev
abbrev pD (L : List (Nat × Nat)) : List D := L.map pT
abbrev rD (r : List Int) : D := .lst (r.map .int)
abbrev sD (S : List (List Int)) : D := .lst (S.map rD)
abbrev nF (n : Nat) (L : List (Nat × Nat)) (S : List (List Int)) : List (Nat × D) := [(1, .int n), (2, .lst (pD L)), (3, sD S)]
abbrev net (n : Nat) (L : List (Nat × Nat)) (S : List (List Int)) : D := .ins 0 (nF n L S)
section
variable (k n : Nat) (L : List (Nat × Nat)) (S : List (List Int))
@[simp] theorem f_nodes (env : En) : fldR (Rk k) 1 (net n L S) env = .ok (.pure (.int n)) env := fldR_has rfl env
@[simp] theorem f_lines (env : En) : fldR (Rk k) 2 (net n L S) env = .ok (.pure (.lst (pD L))) env := fldR_has rfl env
@[simp] theorem f_sides (env : En) : fldR (Rk k) 3 (net n L S) env = .ok (.pure (sD S)) env := fldR_has rfl env
theorem checkn (a b : Nat) (h1 : a < n) (h2 : b < n) : (Rk (k + 2)).call 3 [.pure (net n L S), .pure (.int a), .pure (.int b)] = .ok (.pure .non) [some (.pure (net n L S)), none, none] := by
  rw [call_eq (k + 1) 3 f3 rfl rfl]
  have e1 := isnum k a 0 ((n : Int) - 1) (by omega) (by omega)
  have e2 := isnum k b 0 ((n : Int) - 1) (by omega) (by omega)
  exact (runFn_star (env := [some (.pure (net n L S)), some (.pure (pT (a, b))), some (.pure (.int b))]) rfl rfl (by simp) (by simp [-Rs.bind, -Rs.lift, SL, f3, e1, e2])).trans rfl
theorem checkn1 (a : Nat) (h1 : a < n) : (Rk (k + 2)).call 3 [.pure (net n L S), .pure (.int a)] = .ok (.pure .non) [some (.pure (net n L S)), none] := by
  rw [call_eq (k + 1) 3 f3 rfl rfl]
  have e1 := isnum k a 0 ((n : Int) - 1) (by omega) (by omega)
  exact (runFn_star (env := [some (.pure (net n L S)), some (.pure (.tup [.int a])), some (.pure (.int a))]) rfl rfl (by simp) (by simp [-Rs.bind, -Rs.lift, SL, f3, e1])).trans rfl
theorem l_edges : (Rk (k + 1)).call 2 [.pure (net n L S)] = .ok (.pure (.lst (pD L))) [some (.pure (net n L S))] := by
  rw [call_eq k 2 f2 rfl rfl]
  exact (runFn_rt (env := [some (.pure (net n L S))]) rfl rfl (by simp [-Rs.bind, -Rs.lift, SL, f2])).trans rfl
theorem l_nodes : (Rk (k + 1)).call 1 [.pure (net n L S)] = .ok (.pure (.int n)) [some (.pure (net n L S))] := by
  rw [call_eq k 1 f1 rfl rfl]
  exact (runFn_rt (env := [some (.pure (net n L S))]) rfl rfl (by simp [-Rs.bind, -Rs.lift, SL, f1])).trans rfl
theorem l_len : (Rk (k + 1)).call 8 [.pure (net n L S)] = .ok (.pure (.int L.length)) [some (.pure (net n L S))] := by
  rw [call_eq k 8 f8 rfl rfl]
  exact (runFn_rt (env := [some (.pure (net n L S))]) rfl rfl (by simp [-Rs.bind, -Rs.lift, SL, f8])).trans rfl
theorem flat_pD : flatD (.lst (pD L)) = true := by
  show (L.map pT).all (flatN 59) = true
  rw [List.all_map, List.all_eq_true]
  intro p _; rfl
theorem flat_pT (p : Nat × Nat) : flatD (pT p) = true := rfl
theorem flat_sD : flatD (sD S) = true := by
  show (S.map rD).all (flatN 59) = true
  rw [List.all_map, List.all_eq_true]
  intro r _
  show (r.map D.int).all (flatN 58) = true
  rw [List.all_map, List.all_eq_true]
  intro i _; rfl
theorem l_eq : (Rk (k + 1)).call 7 [.pure (net n L S), .pure (net n L S)] = .ok (.pure (.bl true)) [some (.pure (net n L S)), some (.pure (net n L S))] := by
  rw [call_eq k 7 f7 rfl rfl]
  have e1 : isiM (Rk k) 0 (.pure (net n L S)) = some true := rfl
  exact (runFn_rt (env := [some (.pure (net n L S)), some (.pure (net n L S))]) rfl rfl (by simp [-Rs.bind, -Rs.lift, SL, f7, e1, semC_eq_refl (flat_pD L)])).trans rfl
theorem l_near (i : Nat) (r : List Int) (h : i < n) (hr : S[i]? = some r) : (Rk (k + 3)).call 4 [.pure (net n L S), .pure (.int i)] = .ok (.pure (rD r)) [some (.pure (net n L S)), some (.pure (.int i))] := by
  rw [call_eq (k + 2) 4 f4 rfl rfl]
  have e1 := checkn1 k n L S i h
  have e2 : semIx (sD S) (.int i) = some (rD r) := semIx_lst _ _ _ (by rw [List.getElem?_map, hr]; rfl)
  have e3 : lacks 4 (.pure (net n L S)) = true := rfl
  have e4 : clsOf (.pure (net n L S)) = some 0 := rfl
  exact (runFn_rt (env := [some (.pure (net n L S)), some (.pure (.int i))]) rfl rfl (by simp [-Rs.bind, -Rs.lift, SL, f4, e1, e2, e3, e4])).trans rfl
end
/-! ### the comparison -/
def likeOk (k : Nat) (d : D) : Prop := (Rk k).call 12 [.pure d, .pure d] = .ok (.pure (.bl true)) [some (.pure d), some (.pure d)]
theorem like_int (k : Nat) (i : Int) : likeOk (k + 1) (.int i) := by
  unfold likeOk
  rw [call_eq k 12 f12 rfl rfl]
  exact (runFn_rt (env := [some (.pure (.int i)), some (.pure (.int i)), none]) rfl rfl (by simp [-Rs.bind, -Rs.lift, SL, f12, isbM, kindM])).trans rfl
theorem like_lc (k : Nat) (xs : List D) (a : M) (ha : semIx a.frz = semIx (.lst xs)) (hv : a = .pure a.frz) (h : ∀ x ∈ xs, likeOk k x) : ∀ (is : List Nat) (o : Option D), (∀ i ∈ is, i < xs.length) →
    ∃ o' : Option D, lcLoop (turnR (.one 2) (ev (Rk k) (.bl true)).t (ev (Rk k) (.call 12 (.cons (.ix (.var 0) (.var 2)) (.cons (.ix (.var 1) (.var 2)) .nil)))).e) (is.map fun (i : Nat) => .int i) [some a, some a, o.map .pure] = .ok (is.map fun _ => .pure (.bl true)) [some a, some a, o'.map .pure] := by
  intro is
  induction is with
  | nil => intro o _; exact ⟨o, rfl⟩
  | cons i is ih =>
    intro o hi
    have hl := hi i (List.mem_cons_self ..)
    obtain ⟨o', e⟩ := ih (some (.int i)) fun j hj => hi j (List.mem_cons_of_mem _ hj)
    have e1 : semIx a.frz (.int i) = some xs[i] := by rw [ha]; exact semIx_lst _ _ _ (List.getElem?_eq_getElem hl)
    have e2 : likeOk k xs[i] := h _ (List.getElem_mem hl)
    unfold likeOk at e2
    rw [hv] at e ⊢
    simp only [Option.map_some] at e
    refine ⟨o', ?_⟩
    simp [-Rs.bind, -Rs.lift, SL, e1, e2, e]
theorem like_e1 (xs : List D) (hl : xs.length < 1000) : rng1R (.pure (.int xs.length)) [some (.pure (.lst xs)), some (.pure (.lst xs)), none] = .ok (rngD 0 xs.length, []) [some (.pure (.lst xs)), some (.pure (.lst xs)), none] := rng1R_n _ _ (lt_SL (by omega))
theorem like_e2 (n : Nat) : rngD 0 n = (List.range n).map fun (i : Nat) => .int i := by unfold rngD; simp
theorem like_e3 (n : Nat) : semBi false .all [.lst (M.frzs ((List.range n).map fun _ => .pure (.bl true)))] = some (.pure (.bl true)) := by
  have := semBi_all (mu := false) ((List.range n).map fun _ => true)
  rw [List.map_map] at this
  rw [frzs_mapl (fun _ => D.bl true)]
  refine this.trans ?_
  simp
theorem like_e4 (n : Nat) (hl : n < 1000) : ((List.range n).map fun _ => M.pure (.bl true)).length ≤ SL := by
  rw [List.length_map, List.length_range]
  exact le_SL (Nat.le_of_lt hl)
theorem like_lst (k : Nat) (xs : List D) (hl : xs.length < 1000) (h : ∀ x ∈ xs, likeOk k x) : likeOk (k + 1) (.lst xs) := by
  unfold likeOk
  rw [call_eq k 12 f12 rfl rfl]
  obtain ⟨o', e⟩ := like_lc k xs (.pure (.lst xs)) rfl rfl h (List.range xs.length) none (fun i hi => List.mem_range.mp hi)
  simp only [Option.map_none] at e
  have e1 := like_e1 xs hl
  have e2 := like_e2 xs.length
  have e3 := like_e3 xs.length
  have e5 := lcEnd_f _ [some (.pure (.lst xs)), some (.pure (.lst xs)), none] (like_e4 xs.length hl)
  exact (runFn_rt (env := [some (.pure (.lst xs)), some (.pure (.lst xs)), none]) rfl rfl (by simp [-Rs.bind, -Rs.lift, f12, isbM, kindM, e1, e2, e, e3, e5])).trans rfl
theorem semIx_tl (xs : List D) : semIx (.tup xs) = semIx (.lst xs) := by
  funext i
  cases i <;> rfl
theorem like_tup (k : Nat) (xs : List D) (hl : xs.length < 1000) (h : ∀ x ∈ xs, likeOk k x) : likeOk (k + 1) (.tup xs) := by
  unfold likeOk
  rw [call_eq k 12 f12 rfl rfl]
  obtain ⟨o', e⟩ := like_lc k xs (.pure (.tup xs)) (semIx_tl xs) rfl h (List.range xs.length) none (fun i hi => List.mem_range.mp hi)
  simp only [Option.map_none] at e
  have e1 : rng1R (.pure (.int xs.length)) [some (.pure (.tup xs)), some (.pure (.tup xs)), none] = .ok (rngD 0 xs.length, []) [some (.pure (.tup xs)), some (.pure (.tup xs)), none] := rng1R_n _ _ (lt_SL (by omega))
  have e2 := like_e2 xs.length
  have e3 := like_e3 xs.length
  have e5 := lcEnd_f _ [some (.pure (.tup xs)), some (.pure (.tup xs)), none] (like_e4 xs.length hl)
  exact (runFn_rt (env := [some (.pure (.tup xs)), some (.pure (.tup xs)), none]) rfl rfl (by simp [-Rs.bind, -Rs.lift, f12, isbM, kindM, e1, e2, e, e3, e5])).trans rfl
theorem like_pT (k : Nat) (p : Nat × Nat) : likeOk (k + 2) (pT p) := like_tup (k + 1) _ (by simp) fun x hx => by
  simp only [List.mem_cons, List.not_mem_nil, or_false] at hx
  rcases hx with rfl | rfl <;> exact like_int k _
theorem like_web (k n : Nat) (L : List (Nat × Nat)) (hl : L.length < 1000) : likeOk (k + 4) (.lst [.int n, .lst (pD L)]) := like_lst (k + 3) _ (by simp) fun x hx => by
  simp only [List.mem_cons, List.not_mem_nil, or_false] at hx
  rcases hx with rfl | rfl
  · exact like_int (k + 2) _
  · refine like_lst (k + 2) _ (by simpa using hl) fun x hx => ?_
    obtain ⟨p, _, rfl⟩ := List.mem_map.mp hx
    exact like_pT k p
/-! ### the script's box -/
theorem open_salt (R : Rt) (c : Option M) : ∀ (ns : List Int) (salt : Int) (o a : Option M), ∃ (salt' : Int) (o' : Option M), forL (turnF R (.one 2) (.seq (.set 3 (.op2 false .mod (.bi false .toInt (.op2 false .add (.op2 false .mul (.var 3) (.int 6379)) (.var 2))) (.int 2147483549))) .skip)) (ns.map .int) [a, c, o, some (.pure (.int salt))] = .nx [a, c, o', some (.pure (.int salt'))] := by
  intro ns
  induction ns with
  | nil => intro salt o a; exact ⟨salt, o, rfl⟩
  | cons x xs ih =>
    intro salt o a
    obtain ⟨s', o', e⟩ := ih ((salt * 6379 + x) % 2147483549) (some (.pure (.int x))) a
    exact ⟨s', o', by simp [-Rs.bind, -Rs.lift, e]⟩
theorem open_lc (R : Rt) (a b d : Option M) : ∀ (ns : List Int) (o : Option D), ∃ o' : Option D, lcLoop (turnR (.one 2) (ev R (.bl true)).t (ev R (.bi false .toInt (.var 2))).e) (ns.map .int) [a, b, o.map .pure, d] = .ok (ns.map fun i => .pure (.int i)) [a, b, o'.map .pure, d] := by
  intro ns
  induction ns with
  | nil => intro o; exact ⟨o, rfl⟩
  | cons x xs ih =>
    intro o
    obtain ⟨o', e⟩ := ih (some (.int x))
    simp only [Option.map_some] at e
    exact ⟨o', by simp [-Rs.bind, -Rs.lift, e]⟩
theorem open_c (k : Nat) (ns : List Int) (hl : ns.length ≤ 63) : ∃ salt, (Rk (k + 1)).call 13 [.pure (.frl (ns.map .int))] = .ok (box ns 0 0 salt) [some (.pure (.frl (ns.map .int)))] := by
  rw [call_eq k 13 f13 rfl rfl]
  have e1 : semSl false (.frl (ns.map .int)) none (some 63) = some (.pure (.lst (ns.map .int))) := by
    show some (mkL false (cutL (ns.map D.int) none (some 63))) = _
    have : cutL (ns.map D.int) none (some 63) = ns.map .int := by
      show ((ns.map D.int).drop 0).take (min 63 (ns.map D.int).length - 0) = _
      rw [List.drop_zero]
      exact List.take_of_length_le (by rw [List.length_map]; omega)
    rw [this]; rfl
  have e2 : ∀ f env, partR .non f env = .ok none env := fun _ _ => rfl
  have e3 : ∀ (v : Option M) (l : En), partR (.int 63) (ev (Rk k) (.int 63)).e (v :: l) = .ok (some 63) (v :: l) := fun _ _ => rfl
  obtain ⟨o1, l1⟩ := open_lc (Rk k) (some (.pure (.frl (ns.map .int)))) none none ns none
  simp only [Option.map_none] at l1
  have e5 := lcEnd_f (ns.map fun i => .pure (.int i)) [some (.pure (.frl (ns.map .int))), none, none, none] (le_SL (by simp; omega))
  obtain ⟨salt, o2, l2⟩ := open_salt (Rk k) (some (.pure (.lst (ns.map .int)))) ns (5745 + 101 * ns.length) none (some (.pure (.frl (ns.map .int))))
  have e6 : M.frzs (ns.map fun i => .pure (.int i)) = ns.map .int := frzs_mapl _ _
  exact ⟨salt, (runFn_rt (env := [some (.pure (.frl (ns.map .int))), some (.pure (.lst (ns.map .int))), o2, some (.pure (.int salt))]) rfl rfl (by simp [-Rs.bind, -Rs.lift, f13, box, e1, e2, e3, l1, e5, e6, l2, SL])).trans rfl⟩
end K13

set_option Elab.async false
set_option linter.all false
/-! K13A: pairs in order, rows of neighbours: plain facts. -/
namespace K13
open FB
def nrm (p : Nat × Nat) : Nat × Nat := (min p.1 p.2, max p.1 p.2)
def pI (p : Nat × Nat) : List Int := [p.1, p.2]
def pLt (p q : Nat × Nat) : Bool := decide (p.1 < q.1) || (decide (p.1 = q.1) && decide (p.2 < q.2))
theorem pLt_iff {p q : Nat × Nat} : pLt p q = true ↔ p.1 < q.1 ∨ (p.1 = q.1 ∧ p.2 < q.2) := by
  unfold pLt; simp
def insP (x : Nat × Nat) : List (Nat × Nat) → List (Nat × Nat)
  | [] => [x]
  | y :: r => if pLt y x then y :: insP x r else x :: y :: r
def srtP : List (Nat × Nat) → List (Nat × Nat)
  | [] => []
  | x :: r => insP x (srtP r)
def ddP : List (Nat × Nat) → List (Nat × Nat)
  | [] => []
  | x :: r => if r.contains x then ddP r else x :: ddP r
theorem ltIs_pI (p q : Nat × Nat) : ltIs (pI p) (pI q) = pLt p q := by
  show (decide ((p.1 : Int) < q.1) || (decide ((p.1 : Int) = q.1) && (decide ((p.2 : Int) < q.2) || (decide ((p.2 : Int) = q.2) && false)))) = _
  unfold pLt
  simp [Int.ofNat_lt, Int.natCast_inj]
theorem insT_pI (x : Nat × Nat) (l : List (Nat × Nat)) : insT (pI x) (l.map pI) = (insP x l).map pI := by
  induction l with
  | nil => rfl
  | cons y r ih =>
    rw [List.map_cons]
    unfold insT insP
    rw [ltIs_pI, ih]
    split <;> rfl
theorem sortT_pI (l : List (Nat × Nat)) : sortT (l.map pI) = (srtP l).map pI := by
  induction l with
  | nil => rfl
  | cons y r ih =>
    rw [List.map_cons]
    unfold sortT srtP
    rw [ih, insT_pI]
theorem pI_inj {p q : Nat × Nat} (h : pI p = pI q) : p = q := by
  unfold pI at h
  injection h with h1 h2
  injection h2 with h2 _
  exact Prod.ext (Int.natCast_inj.mp h1) (Int.natCast_inj.mp h2)
theorem contains_pI (x : Nat × Nat) (l : List (Nat × Nat)) : (l.map pI).contains (pI x) = l.contains x := by
  rw [Bool.eq_iff_iff, List.contains_iff_mem, List.contains_iff_mem]
  exact ⟨fun h => by obtain ⟨y, hy, e⟩ := List.mem_map.mp h; exact pI_inj e ▸ hy, List.mem_map_of_mem⟩
theorem dedupT_pI (l : List (Nat × Nat)) : dedupT (l.map pI) = (ddP l).map pI := by
  induction l with
  | nil => rfl
  | cons y r ih =>
    rw [List.map_cons]
    unfold dedupT ddP
    rw [contains_pI, ih]
    split <;> rfl
theorem tupD_pI (l : List (Nat × Nat)) : tupD (l.map pI) = l.map fun p => .tup [.int p.1, .int p.2] := by
  unfold tupD
  rw [List.map_map]; rfl
abbrev Srt (l : List (Nat × Nat)) : Prop := l.Pairwise fun p q => pLt p q = true
theorem Srt.nodup {l : List (Nat × Nat)} (h : Srt l) : l.Nodup := h.imp fun {p q} hpq e => by
  subst e
  rw [pLt_iff] at hpq
  omega
theorem dd_nodup : ∀ {l : List (Nat × Nat)}, l.Nodup → ddP l = l
  | [], _ => rfl
  | x :: r, h => by
    have h := List.nodup_cons.mp h
    have : r.contains x = false := by
      rw [← Bool.not_eq_true, List.contains_iff_mem]; exact h.1
    unfold ddP
    rw [this, dd_nodup h.2]; rfl
theorem insP_low {x : Nat × Nat} {l : List (Nat × Nat)} (h : ∀ q ∈ l, pLt x q = true) : insP x l = x :: l := by
  cases l with
  | nil => rfl
  | cons y r =>
    have h := h y (List.mem_cons_self ..)
    have : pLt y x = false := by
      rw [← Bool.not_eq_true, pLt_iff]
      rw [pLt_iff] at h
      omega
    unfold insP
    rw [this]; rfl
theorem srt_id : ∀ {l : List (Nat × Nat)}, Srt l → srtP l = l
  | [], _ => rfl
  | x :: r, h => by
    have h := List.pairwise_cons.mp h
    unfold srtP
    rw [srt_id h.2, insP_low h.1]
theorem mem_insP {x y : Nat × Nat} {l : List (Nat × Nat)} : y ∈ insP x l ↔ y = x ∨ y ∈ l := by
  induction l with
  | nil => simp [insP]
  | cons z r ih =>
    unfold insP
    split
    · simp only [List.mem_cons, ih]
      constructor
      · rintro (h | h | h)
        · exact .inr (.inl h)
        · exact .inl h
        · exact .inr (.inr h)
      · rintro (h | h | h)
        · exact .inr (.inl h)
        · exact .inl h
        · exact .inr (.inr h)
    · simp only [List.mem_cons]
theorem mem_srt {y : Nat × Nat} {l : List (Nat × Nat)} : y ∈ srtP l ↔ y ∈ l := by
  induction l with
  | nil => simp [srtP]
  | cons z r ih =>
    unfold srtP
    rw [mem_insP, ih, List.mem_cons]
theorem insP_srt {x : Nat × Nat} : ∀ {l : List (Nat × Nat)}, Srt l → x ∉ l → Srt (insP x l)
  | [], _, _ => by simp [insP]
  | y :: r, h, hx => by
    have h := List.pairwise_cons.mp h
    unfold insP
    split
    · rename_i hy
      refine List.pairwise_cons.mpr ⟨fun q hq => ?_, insP_srt h.2 fun m => hx (List.mem_cons_of_mem _ m)⟩
      rcases mem_insP.mp hq with rfl | hq
      · exact hy
      · exact h.1 q hq
    · rename_i hy
      have hne : x ≠ y := fun e => hx (e ▸ List.mem_cons_self ..)
      have hlt : pLt x y = true := by
        rw [pLt_iff] at hy ⊢
        have : ¬ (x.1 = y.1 ∧ x.2 = y.2) := fun e => hne (Prod.ext e.1 e.2)
        omega
      refine List.pairwise_cons.mpr ⟨fun q hq => ?_, List.pairwise_cons.mpr h⟩
      rcases List.mem_cons.mp hq with rfl | hq
      · exact hlt
      · have := h.1 q hq
        rw [pLt_iff] at *
        omega
theorem srt_srt : ∀ {l : List (Nat × Nat)}, l.Nodup → Srt (srtP l)
  | [], _ => List.Pairwise.nil
  | x :: r, h => by
    have h := List.nodup_cons.mp h
    unfold srtP
    exact insP_srt (srt_srt h.2) fun m => h.1 (mem_srt.mp m)
/-- ascending numbers under a bound are few -/
theorem few : ∀ (l : List Nat) (lo hi : Nat), l.Pairwise (· < ·) → (∀ x ∈ l, lo ≤ x ∧ x < hi) → l.length ≤ hi - lo
  | [], _, _, _, _ => Nat.zero_le _
  | x :: r, lo, hi, h, hb => by
    have h := List.pairwise_cons.mp h
    have h1 := hb x (List.mem_cons_self ..)
    have := few r (x + 1) hi h.2 fun y hy => ⟨h.1 y hy, (hb y (List.mem_cons_of_mem _ hy)).2⟩
    rw [List.length_cons]
    omega
/-- a net's edges: ascending pairs of its nodes, the smaller ahead -/
structure Web (n : Nat) (L : List (Nat × Nat)) : Prop where
  srt : Srt L
  ok : ∀ p ∈ L, p.1 ≤ p.2 ∧ p.2 < n
theorem Web.few {n : Nat} {L : List (Nat × Nat)} (h : Web n L) (hn : n ≤ 7) : L.length ≤ 56 := by
  have := K13.few (L.map fun p => p.1 * 8 + p.2) 0 56 (List.pairwise_map.mpr (h.srt.imp_of_mem fun {p q} hp hq e => by
    have h1 := h.ok p hp
    have h2 := h.ok q hq
    rw [pLt_iff] at e
    omega)) fun x hx => by
    obtain ⟨p, hp, rfl⟩ := List.mem_map.mp hx
    have := h.ok p hp
    omega
  rwa [List.length_map] at this
theorem nrm_id {p : Nat × Nat} (h : p.1 ≤ p.2) : nrm p = p := by
  unfold nrm
  exact Prod.ext (by simp; omega) (by simp; omega)
theorem Web.nrm {n : Nat} {L : List (Nat × Nat)} (h : Web n L) : L.map nrm = L := by
  have : L.map K13.nrm = L.map id := List.map_congr_left fun p hp => nrm_id (h.ok p hp).1
  rw [this, List.map_id]
theorem Web.lines {n : Nat} {L : List (Nat × Nat)} (h : Web n L) : srtP (ddP (L.map K13.nrm)) = L := by
  rw [h.nrm, dd_nodup h.srt.nodup, srt_id h.srt]
theorem Web.put {n : Nat} {L : List (Nat × Nat)} (h : Web n L) {e : Nat × Nat} (he : e ∉ L) (h1 : e.1 ≤ e.2) (h2 : e.2 < n) : Web n (srtP (L ++ [e])) := by
  refine ⟨srt_srt ?_, fun p hp => ?_⟩
  · rw [List.nodup_append]
    refine ⟨h.srt.nodup, by simp, fun a ha b hb e2 => ?_⟩
    rw [List.mem_singleton] at hb
    subst hb e2
    exact he ha
  · rw [mem_srt] at hp
    rcases List.mem_append.mp hp with hp | hp
    · exact h.ok p hp
    · rw [List.mem_singleton] at hp
      subst hp
      exact ⟨h1, h2⟩
theorem Web.lines2 {n : Nat} {L : List (Nat × Nat)} (h : Web n L) {e : Nat × Nat} (he : K13.nrm e ∉ L) : srtP (ddP ((L ++ [e]).map K13.nrm)) = srtP (L ++ [K13.nrm e]) := by
  rw [List.map_append, h.nrm, List.map_cons, List.map_nil, dd_nodup]
  rw [List.nodup_append]
  refine ⟨h.srt.nodup, by simp, fun a ha b hb e2 => ?_⟩
  rw [List.mem_singleton] at hb
  subst hb e2
  exact he ha
theorem Web.cut {n : Nat} {L : List (Nat × Nat)} (h : Web n L) (f : Nat × Nat → Bool) : Web n (L.filter f) :=
  ⟨h.srt.sublist List.filter_sublist, fun p hp => h.ok p (List.mem_filter.mp hp).1⟩
/-! ### rows of neighbours -/
def addR (rows : List (List Int)) (a : Nat) (b : Int) : List (List Int) := rows.modify a (· ++ [b])
def stepR (rows : List (List Int)) (p : Nat × Nat) : List (List Int) := if p.1 = p.2 then addR rows p.1 p.2 else addR (addR rows p.1 p.2) p.2 p.1
def rowsOf (n : Nat) (L : List (Nat × Nat)) : List (List Int) := L.foldl stepR (List.replicate n [])
def sidesOf (n : Nat) (L : List (Nat × Nat)) : List (List Int) := (rowsOf n L).map sortI
@[simp] theorem addR_len (rows : List (List Int)) (a : Nat) (b : Int) : (addR rows a b).length = rows.length := by
  unfold addR; simp
theorem stepR_len (rows : List (List Int)) (p : Nat × Nat) : (stepR rows p).length = rows.length := by
  unfold stepR; split <;> simp
theorem fold_len (L : List (Nat × Nat)) : ∀ rows : List (List Int), (L.foldl stepR rows).length = rows.length := by
  induction L with
  | nil => intro rows; rfl
  | cons p L ih => intro rows; rw [List.foldl_cons, ih, stepR_len]
theorem sides_len (n : Nat) (L : List (Nat × Nat)) : (sidesOf n L).length = n := by
  unfold sidesOf rowsOf
  rw [List.length_map, fold_len, List.length_replicate]
def rowAt (rows : List (List Int)) (i : Nat) : List Int := (rows[i]?).getD []
theorem mem_addR {rows : List (List Int)} {a i : Nat} {b x : Int} (ha : a < rows.length) : x ∈ rowAt (addR rows a b) i ↔ x ∈ rowAt rows i ∨ (i = a ∧ x = b) := by
  unfold rowAt addR
  rw [List.getElem?_modify]
  by_cases e : a = i
  · subst e
    rw [List.getElem?_eq_getElem ha]
    simp
  · have e2 : ¬ (i = a) := fun z => e z.symm
    simp [e, e2]
theorem mem_stepR {rows : List (List Int)} {p : Nat × Nat} {i : Nat} {x : Int} (h1 : p.1 < rows.length) (h2 : p.2 < rows.length) : x ∈ rowAt (stepR rows p) i ↔ x ∈ rowAt rows i ∨ ((i = p.1 ∧ x = p.2) ∨ (i = p.2 ∧ x = p.1)) := by
  unfold stepR
  split
  · rename_i e
    rw [mem_addR h1]
    constructor
    · rintro (h | h)
      · exact .inl h
      · exact .inr (.inl h)
    · rintro (h | h | h)
      · exact .inl h
      · exact .inr h
      · exact .inr ⟨by omega, by rw [h.2]; omega⟩
  · rw [mem_addR (by rw [addR_len]; exact h2), mem_addR h1]
    constructor
    · rintro ((h | h) | h)
      · exact .inl h
      · exact .inr (.inl h)
      · exact .inr (.inr h)
    · rintro (h | h | h)
      · exact .inl (.inl h)
      · exact .inl (.inr h)
      · exact .inr h
theorem mem_fold {i : Nat} {x : Int} : ∀ (L : List (Nat × Nat)) (rows : List (List Int)), (∀ p ∈ L, p.1 < rows.length ∧ p.2 < rows.length) →
    (x ∈ rowAt (L.foldl stepR rows) i ↔ x ∈ rowAt rows i ∨ ∃ p ∈ L, (i = p.1 ∧ x = p.2) ∨ (i = p.2 ∧ x = p.1))
  | [], rows, _ => by simp
  | p :: L, rows, h => by
    have h1 := h p (List.mem_cons_self ..)
    rw [List.foldl_cons, mem_fold L _ (fun q hq => by rw [stepR_len]; exact h q (List.mem_cons_of_mem _ hq)), mem_stepR h1.1 h1.2]
    constructor
    · rintro ((z | z) | ⟨q, hq, z⟩)
      · exact .inl z
      · exact .inr ⟨p, List.mem_cons_self .., z⟩
      · exact .inr ⟨q, List.mem_cons_of_mem _ hq, z⟩
    · rintro (z | ⟨q, hq, z⟩)
      · exact .inl (.inl z)
      · rcases List.mem_cons.mp hq with rfl | hq
        · exact .inl (.inr z)
        · exact .inr ⟨q, hq, z⟩
theorem mem_insI {x y : Int} {l : List Int} : y ∈ insI x l ↔ y = x ∨ y ∈ l := by
  induction l with
  | nil => simp [insI]
  | cons z r ih =>
    unfold insI
    split
    · simp only [List.mem_cons]
    · simp only [List.mem_cons, ih]
      constructor
      · rintro (h | h | h)
        · exact .inr (.inl h)
        · exact .inl h
        · exact .inr (.inr h)
      · rintro (h | h | h)
        · exact .inr (.inl h)
        · exact .inl h
        · exact .inr (.inr h)
theorem mem_sortI {y : Int} {l : List Int} : y ∈ sortI l ↔ y ∈ l := by
  induction l with
  | nil => simp [sortI]
  | cons z r ih =>
    unfold sortI
    rw [mem_insI, ih, List.mem_cons]
theorem mem_sides {n : Nat} {L : List (Nat × Nat)} (h : Web n L) {a b : Nat} (ha : a < n) {r : List Int} (hr : (sidesOf n L)[a]? = some r) : (b : Int) ∈ r ↔ nrm (a, b) ∈ L := by
  unfold sidesOf at hr
  rw [List.getElem?_map] at hr
  obtain ⟨r0, h0, rfl⟩ := Option.map_eq_some_iff.mp hr
  rw [mem_sortI]
  have e : r0 = rowAt (rowsOf n L) a := by unfold rowAt; rw [h0]; rfl
  rw [e]
  unfold rowsOf
  rw [mem_fold L _ (fun p hp => by rw [List.length_replicate]; have := h.ok p hp; omega)]
  have e0 : (b : Int) ∉ rowAt (List.replicate n []) a := by
    unfold rowAt
    rw [List.getElem?_replicate, if_pos ha]
    simp
  constructor
  · rintro (z | ⟨p, hp, z | z⟩)
    · exact absurd z e0
    · have h1 := h.ok p hp
      have : nrm (a, b) = p := by
        unfold nrm
        exact Prod.ext (by simp; omega) (by simp; omega)
      rw [this]; exact hp
    · have h1 := h.ok p hp
      have : nrm (a, b) = p := by
        unfold nrm
        exact Prod.ext (by simp; omega) (by simp; omega)
      rw [this]; exact hp
  · intro hp
    refine .inr ⟨_, hp, ?_⟩
    unfold nrm
    by_cases z : a ≤ b
    · exact .inl ⟨by simp; omega, by simp; omega⟩
    · exact .inr ⟨by simp; omega, by simp; omega⟩
theorem tupsOk_pI (l : List (Nat × Nat)) (h : l.length < 64) (h2 : ∀ p ∈ l, p.1 < 1000 ∧ p.2 < 1000) : tupsOk (l.map pI) = true := by
  unfold tupsOk
  rw [List.length_map, decide_eq_true h, Bool.true_and]
  cases l with
  | nil => rfl
  | cons x r =>
    simp only [List.map_cons, Bool.and_eq_true, List.all_eq_true, decide_eq_true_eq]
    refine ⟨Nat.le_succ 1, fun y hy => ?_⟩
    have hy : y ∈ (x :: r).map pI := hy
    obtain ⟨p, hp, rfl⟩ := List.mem_map.mp hy
    have := h2 p hp
    refine ⟨rfl, fun i hi => ?_⟩
    unfold pI at hi
    simp only [List.mem_cons, List.not_mem_nil, or_false] at hi
    rcases hi with rfl | rfl <;> exact ⟨by omega, by omega⟩
end K13

set_option Elab.async false
set_option linter.all false
set_option maxRecDepth 100000
/-! K13D: a net made; rows of neighbours; a net changed. -/
namespace K13
open FB FB.Ev
abbrev gM (r : List Int) : M := .lst (r.map fun x => .pure (.int x))
abbrev rM (rows : List (List Int)) : M := .lst (rows.map gM)
theorem map_modify {α β : Type} (g : α → β) (f : α → α) : ∀ (rows : List α) (i : Nat) (r : α), rows[i]? = some r → (rows.map g).set i (g (f r)) = (rows.modify i f).map g
  | [], _, _, h => by simp at h
  | x :: xs, 0, r, h => by
    have : x = r := by simpa using h
    subst this
    simp
  | x :: xs, i + 1, r, h => by
    have h : xs[i]? = some r := by simpa using h
    simpa using map_modify g f xs i r h
theorem rows_add (rows : List (List Int)) (i : Nat) (j : Int) (r : List Int) (h : rows[i]? = some r) : (rows.map gM).set i (.lst ((r.map fun x => .pure (.int x)) ++ [.pure (.int j)])) = (addR rows i j).map gM := by
  have := map_modify gM (· ++ [j]) rows i r h
  unfold addR
  rw [← this]
  show _ = (rows.map gM).set i (.lst ((r ++ [j]).map fun x => .pure (.int x)))
  rw [List.map_append]; rfl
def bd (rows : List (List Int)) (B : Nat) : Prop := ∀ r ∈ rows, r.length ≤ B
theorem bd_add {rows : List (List Int)} {B : Nat} (h : bd rows B) (i : Nat) (j : Int) : bd (addR rows i j) (B + 1) := by
  intro r hr
  obtain ⟨k, hk⟩ := List.mem_iff_getElem?.mp hr
  unfold addR at hk
  rw [List.getElem?_modify] at hk
  cases e : rows[k]? with
  | none => rw [e] at hk; simp at hk
  | some r0 =>
    have := h r0 (List.mem_of_getElem? e)
    rw [e] at hk
    have hk : (if i = k then r0 ++ [j] else r0) = r := Option.some.inj hk
    subst hk
    by_cases e2 : i = k
    · rw [if_pos e2, List.length_append]
      exact Nat.add_le_add this (Nat.le_refl 1)
    · rw [if_neg e2]
      exact Nat.le_succ_of_le this
theorem bd_step {rows : List (List Int)} {B : Nat} (h : bd rows B) (p : Nat × Nat) : bd (stepR rows p) (B + 2) := by
  unfold stepR
  split
  · intro r hr
    have := bd_add h p.1 p.2 r hr
    omega
  · exact bd_add (bd_add h p.1 p.2) p.2 p.1
section
variable {R : Rt}
theorem app_a (a b s1 s2 s3 s4 s5 s8) (rows : List (List Int)) (i : Nat) (j : Int) (h : i < rows.length) (hb : bd rows 500) :
    exec R (.app 0 [.fld 3, .ixs 6] (.var 7)) [some (.ins 0 [(1, a), (2, b), (3, rM rows)]), s1, s2, s3, s4, s5, some (.pure (.int i)), some (.pure (.int j)), s8] =
      .nx [some (.ins 0 [(1, a), (2, b), (3, rM (addR rows i j))]), s1, s2, s3, s4, s5, some (.pure (.int i)), some (.pure (.int j)), s8] := by
  have hr : rows[i]? = some rows[i] := List.getElem?_eq_getElem h
  have e := rows_add rows i j _ hr
  have hl : (rows[i].map fun x => M.pure (.int x)).length < SL := lt_SL (by rw [List.length_map]; have := hb _ (List.getElem_mem h); omega)
  have e2 := appL_lst (.pure (.int j)) _ hl
  simp [-Rs.bind, -Rs.lift, List.lookup, hr, e2, setF, e]
theorem app_b (a b s1 s2 s3 s4 s5 s8) (rows : List (List Int)) (i : Int) (j : Nat) (h : j < rows.length) (hb : bd rows 500) :
    exec R (.app 0 [.fld 3, .ixs 7] (.var 6)) [some (.ins 0 [(1, a), (2, b), (3, rM rows)]), s1, s2, s3, s4, s5, some (.pure (.int i)), some (.pure (.int j)), s8] =
      .nx [some (.ins 0 [(1, a), (2, b), (3, rM (addR rows j i))]), s1, s2, s3, s4, s5, some (.pure (.int i)), some (.pure (.int j)), s8] := by
  have hr : rows[j]? = some rows[j] := List.getElem?_eq_getElem h
  have e := rows_add rows j i _ hr
  have hl : (rows[j].map fun x => M.pure (.int x)).length < SL := lt_SL (by rw [List.length_map]; have := hb _ (List.getElem_mem h); omega)
  have e2 := appL_lst (.pure (.int i)) _ hl
  simp [-Rs.bind, -Rs.lift, List.lookup, hr, e2, setF, e]
theorem rows_loop (a b s1 s2 s3 s4 s5 s8) : ∀ (L : List (Nat × Nat)) (rows : List (List Int)) (B : Nat) (o6 o7 : Option M), bd rows B → B + 2 * L.length ≤ 400 → (∀ p ∈ L, p.1 < rows.length ∧ p.2 < rows.length) → ∃ o6' o7' : Option M,
    forL (turnF R (.tup [6, 7]) (.seq (.app 0 [.fld 3, .ixs 6] (.var 7)) (.seq (.ite (.cmp .ne (.var 6) (.var 7)) (.seq (.app 0 [.fld 3, .ixs 7] (.var 6)) .skip) .skip) .skip))) (pD L)
      [some (.ins 0 [(1, a), (2, b), (3, rM rows)]), s1, s2, s3, s4, s5, o6, o7, s8] = .nx [some (.ins 0 [(1, a), (2, b), (3, rM (L.foldl stepR rows))]), s1, s2, s3, s4, s5, o6', o7', s8]
  | [], rows, B, o6, o7, _, _, _ => ⟨o6, o7, rfl⟩
  | p :: L, rows, B, o6, o7, hb, hB, hp => by
    rw [List.length_cons] at hB
    have h1 := hp p (List.mem_cons_self ..)
    have hb5 : bd rows 500 := fun r hr => Nat.le_trans (hb r hr) (by omega)
    have e1 := app_a (R := R) a b s1 s2 s3 s4 s5 s8 rows p.1 p.2 h1.1 hb5
    have e2 := app_b (R := R) a b s1 s2 s3 s4 s5 s8 (addR rows p.1 p.2) p.1 p.2 (by rw [addR_len]; exact h1.2) (fun r hr => Nat.le_trans (bd_add hb _ _ r hr) (by omega))
    obtain ⟨o6', o7', e⟩ := rows_loop a b s1 s2 s3 s4 s5 s8 L (stepR rows p) (B + 2) (some (.pure (.int p.1))) (some (.pure (.int p.2))) (bd_step hb p) (by omega) fun q hq => by rw [stepR_len]; exact hp q (List.mem_cons_of_mem _ hq)
    refine ⟨o6', o7', ?_⟩
    rw [List.foldl_cons]
    obtain ⟨i, j⟩ := p
    by_cases z : i = j
    · subst z
      have e0 : stepR rows (i, i) = addR rows i i := if_pos rfl
      rw [e0] at e ⊢
      simp [-Rs.bind, -Rs.lift, -s_ex_app, e1, e]
    · have z2 : ¬ ((i : Int) = (j : Int)) := by omega
      have e0 : stepR rows (i, j) = addR (addR rows i j) j i := if_neg z
      rw [e0] at e ⊢
      simp [-Rs.bind, -Rs.lift, -s_ex_app, e1, e2, z2, z, e]
theorem appw_a (a s2 s5) (rows : List (List Int)) (i : Nat) (j : Int) (h : i < rows.length) (hb : bd rows 500) :
    exec R (.app 1 [.ixs 3] (.var 4)) [a, some (rM rows), s2, some (.pure (.int i)), some (.pure (.int j)), s5] = .nx [a, some (rM (addR rows i j)), s2, some (.pure (.int i)), some (.pure (.int j)), s5] := by
  have hr : rows[i]? = some rows[i] := List.getElem?_eq_getElem h
  have e := rows_add rows i j _ hr
  have hl : (rows[i].map fun x => M.pure (.int x)).length < SL := lt_SL (by rw [List.length_map]; have := hb _ (List.getElem_mem h); omega)
  have e2 := appL_lst (.pure (.int j)) _ hl
  simp [-Rs.bind, -Rs.lift, hr, e2, e]
theorem appw_b (a s2 s5) (rows : List (List Int)) (i : Int) (j : Nat) (h : j < rows.length) (hb : bd rows 500) :
    exec R (.app 1 [.ixs 4] (.var 3)) [a, some (rM rows), s2, some (.pure (.int i)), some (.pure (.int j)), s5] = .nx [a, some (rM (addR rows j i)), s2, some (.pure (.int i)), some (.pure (.int j)), s5] := by
  have hr : rows[j]? = some rows[j] := List.getElem?_eq_getElem h
  have e := rows_add rows j i _ hr
  have hl : (rows[j].map fun x => M.pure (.int x)).length < SL := lt_SL (by rw [List.length_map]; have := hb _ (List.getElem_mem h); omega)
  have e2 := appL_lst (.pure (.int i)) _ hl
  simp [-Rs.bind, -Rs.lift, hr, e2, e]
theorem rows_loopw (a s2 s5) : ∀ (L : List (Nat × Nat)) (rows : List (List Int)) (B : Nat) (o3 o4 : Option M), bd rows B → B + 2 * L.length ≤ 400 → (∀ p ∈ L, p.1 < rows.length ∧ p.2 < rows.length) → ∃ o3' o4' : Option M,
    forL (turnF R (.tup [3, 4]) (.seq (.app 1 [.ixs 3] (.var 4)) (.seq (.ite (.cmp .ne (.var 3) (.var 4)) (.seq (.app 1 [.ixs 4] (.var 3)) .skip) .skip) .skip))) (pD L)
      [a, some (rM rows), s2, o3, o4, s5] = .nx [a, some (rM (L.foldl stepR rows)), s2, o3', o4', s5]
  | [], rows, B, o3, o4, _, _, _ => ⟨o3, o4, rfl⟩
  | p :: L, rows, B, o3, o4, hb, hB, hp => by
    rw [List.length_cons] at hB
    have h1 := hp p (List.mem_cons_self ..)
    have hb5 : bd rows 500 := fun r hr => Nat.le_trans (hb r hr) (by omega)
    have e1 := appw_a (R := R) a s2 s5 rows p.1 p.2 h1.1 hb5
    have e2 := appw_b (R := R) a s2 s5 (addR rows p.1 p.2) p.1 p.2 (by rw [addR_len]; exact h1.2) (fun r hr => Nat.le_trans (bd_add hb _ _ r hr) (by omega))
    obtain ⟨o3', o4', e⟩ := rows_loopw a s2 s5 L (stepR rows p) (B + 2) (some (.pure (.int p.1))) (some (.pure (.int p.2))) (bd_step hb p) (by omega) fun q hq => by rw [stepR_len]; exact hp q (List.mem_cons_of_mem _ hq)
    refine ⟨o3', o4', ?_⟩
    rw [List.foldl_cons]
    obtain ⟨i, j⟩ := p
    by_cases z : i = j
    · subst z
      have e0 : stepR rows (i, i) = addR rows i i := if_pos rfl
      rw [e0] at e ⊢
      simp [-Rs.bind, -Rs.lift, -s_ex_app, e1, e]
    · have z2 : ¬ ((i : Int) = (j : Int)) := by omega
      have e0 : stepR rows (i, j) = addR (addR rows i j) j i := if_neg z
      rw [e0] at e ⊢
      simp [-Rs.bind, -Rs.lift, -s_ex_app, e1, e2, z2, z, e]
/-- as many empty rows -/
theorem lc_empty (i : Nat) (R : Rt) (env : Option D → En) (hc : ∀ o, ∃ v l, env o = v :: l) (hset : ∀ o d, (env o).set i (some (.pure d)) = env (some d)) (hnone : ∀ o, (env o).set i none = env none) : ∀ (ds : List D) (o : Option D), ∃ o' : Option D, lcLoop (turnR (.one i) (ev R (.bl true)).t (ev R (.lst true .nil)).e) ds (env o) = .ok (ds.map fun _ => .lst []) (env o')
  | [], o => ⟨o, rfl⟩
  | d :: ds, o => by
    obtain ⟨o', e⟩ := lc_empty i R env hc hset hnone ds (some d)
    obtain ⟨v1, l1, e1⟩ := hc o
    obtain ⟨v2, l2, e2⟩ := hc (some d)
    refine ⟨o', ?_⟩
    have hs : (v1 :: l1).set i none = env none := by rw [← e1]; exact hnone o
    have hs2 : (env none).set i (some (.pure d)) = v2 :: l2 := by rw [hset, e2]
    rw [e1]
    rw [e2] at e
    simp [-Rs.bind, -Rs.lift, hs, hs2, e, SL]
end
end K13

set_option Elab.async false
set_option linter.all false
set_option maxRecDepth 100000
/-! K13E: Net.__init__, with_edge, without_edge, the law's own sides. -/
namespace K13
open FB FB.Ev
theorem lc_sorted (i : Nat) (R : Rt) (env : Option D → En) (hc : ∀ o, ∃ v l, env o = v :: l) (hset : ∀ o d, (env o).set i (some (.pure d)) = env (some d)) (hnone : ∀ o, (env o).set i none = env none) (hs0 : ∀ d, slot (env (some d)) i = some (.pure d)) : ∀ (rows : List (List Int)) (o : Option D), ∃ o' : Option D, lcLoop (turnR (.one i) (ev R (.bl true)).t (ev R (.bi false .sorted (.var i))).e) (rows.map rD) (env o) = .ok (rows.map fun r => .pure (rD (sortI r))) (env o')
  | [], o => ⟨o, rfl⟩
  | r :: rows, o => by
    obtain ⟨o', e⟩ := lc_sorted i R env hc hset hnone hs0 rows (some (rD r))
    obtain ⟨v1, l1, e1⟩ := hc o
    obtain ⟨v2, l2, e2⟩ := hc (some (rD r))
    refine ⟨o', ?_⟩
    have hs : (v1 :: l1).set i none = env none := by rw [← e1]; exact hnone o
    have hs2 : (env none).set i (some (.pure (rD r))) = v2 :: l2 := by rw [hset, e2]
    have hs3 : slot (v2 :: l2) i = some (.pure (rD r)) := by rw [← e2]; exact hs0 _
    have e3 := semBi_sortI (mu := false) r
    rw [e1]
    rw [e2] at e
    simp [-Rs.bind, -Rs.lift, hs, hs2, hs3, e, e3]
theorem frz_rows (rows : List (List Int)) : M.frzs (rows.map gM) = rows.map rD := by
  rw [frzs_map]
  refine List.map_congr_left fun r _ => ?_
  show D.lst (M.frzs (r.map fun x => .pure (.int x))) = _
  rw [frzs_mapl]
theorem min_p (p : Nat × Nat) : (if p.2 < p.1 then (p.2 : Int) else p.1) = (nrm p).1 := by
  show _ = ((min p.1 p.2 : Nat) : Int)
  split <;> omega
theorem max_p (p : Nat × Nat) : (if p.1 < p.2 then (p.2 : Int) else p.1) = (nrm p).2 := by
  show _ = ((max p.1 p.2 : Nat) : Int)
  split <;> omega
theorem semBi_min1 (a b : Int) : semBi false .min1 [.tup [.int a, .int b]] = some (.pure (.int (if b < a then b else a))) := rfl
theorem semBi_max1 (a b : Int) : semBi false .max1 [.tup [.int a, .int b]] = some (.pure (.int (if a < b then b else a))) := rfl
section
variable {R : Rt}
theorem sss_loop (a b c o3 x y z w : Option M) : ∀ (es : List (Nat × Nat)) (o4 : Option D), ∃ o4' : Option D,
    lcLoop (turnR (.one 4) (fun env => .ok true env) (ev R (.tup (.cons (.bi false .min1 (.var 4)) (.cons (.bi false .max1 (.var 4)) .nil)))).e) (pD es) [a, b, c, o3, o4.map .pure, x, y, z, w] = .ok (es.map fun p => .pure (pT (nrm p))) [a, b, c, o3, o4'.map .pure, x, y, z, w]
  | [], o4 => ⟨o4, rfl⟩
  | p :: es, o4 => by
    obtain ⟨o4', e⟩ := sss_loop a b c o3 x y z w es (some (pT p))
    simp only [Option.map_some] at e
    refine ⟨o4', ?_⟩
    simp [-Rs.bind, -Rs.lift, e, semBi_min1, semBi_max1, SL]
    exact ⟨min_p p, max_p p⟩
end
theorem enum_loop (k n : Nat) (a c : Option M) : ∀ (es : List (Nat × Nat)) (j : Nat) (o3 : Option M) (o4 : Option D), (∀ p ∈ es, p.1 < n ∧ p.2 < n) → ∃ (o3' : Option M) (o4' : Option D),
    forL (turnF (Rk (k + 2)) (.tup [3, 4]) (.seq (.ite (.not (.call 10 (.cons (.var 4) (.cons (.var 1) .nil)))) (.seq (.raise .non) .skip) .skip) .skip)) (((pD es).zipIdx j).map fun p => .tup [.int p.2, p.1])
      [a, some (.pure (.int n)), c, o3, o4.map .pure, none, none, none, none] = .nx [a, some (.pure (.int n)), c, o3', o4'.map .pure, none, none, none, none]
  | [], j, o3, o4, _ => ⟨o3, o4, rfl⟩
  | p :: es, j, o3, o4, h => by
    obtain ⟨o3', o4', e⟩ := enum_loop k n a c es (j + 1) (some (.pure (.int j))) (some (pT p)) fun q hq => h q (List.mem_cons_of_mem _ hq)
    have h1 := h p (List.mem_cons_self ..)
    have e1 := isedge k p.1 p.2 n h1.1 h1.2
    simp only [Option.map_some] at e
    exact ⟨o3', o4', by simp [-Rs.bind, -Rs.lift, e, e1]⟩
theorem init_c (k n : Nat) (es L : List (Nat × Nat)) (h1 : 1 ≤ n) (h2 : n ≤ 7) (hes : ∀ p ∈ es, p.1 < n ∧ p.2 < n) (hl : es.length < 64) (hL : srtP (ddP (es.map nrm)) = L) (hw : Web n L) :
    (Rk (k + 3)).call 0 [.ins 0 [], .pure (.int n), .pure (.lst (pD es))] = .ok (.pure .non) [some (.ins 0 [(1, .pure (.int n)), (2, .pure (.lst (pD L))), (3, .pure (sD (sidesOf n L)))]), some (.pure (.int n)), some (.pure (.lst (pD es)))] := by
  rw [call_eq (k + 2) 0 f0 rfl rfl]
  have e1 := isnum (k + 1) n 1 120 (by omega) (by omega)
  have e2 : ∀ env, fldR (Rk (k + 2)) 0 (.cls 0) env = .ok (.pure (.int 120)) env := fun env => fldR_cls rfl env
  obtain ⟨o3, o4, e3⟩ := enum_loop k n (some (.ins 0 [])) (some (.pure (.lst (pD es)))) es 0 none none hes
  obtain ⟨o5, e4⟩ := sss_loop (R := Rk (k + 2)) (some (.ins 0 [(1, .pure (.int n))])) (some (.pure (.int n))) (some (.pure (.lst (pD es)))) o3 none none none none es o4
  have e5 : allTups (M.frzs (es.map fun p => .pure (pT (nrm p)))) = some ((es.map nrm).map pI) := by
    rw [frzs_mapl, ← allTups_map ((es.map nrm).map pI), tupD_pI, List.map_map]; rfl
  have e6 : tupsOk ((es.map nrm).map pI) = true := tupsOk_pI _ (by rw [List.length_map]; exact hl) fun p hp => by
    obtain ⟨q, hq, rfl⟩ := List.mem_map.mp hp
    have := hes q hq
    unfold nrm
    exact ⟨by simp; omega, by simp; omega⟩
  have e7 : tupD (sortT (dedupT ((es.map nrm).map pI))) = pD L := by
    rw [dedupT_pI, sortT_pI, tupD_pI, hL]
  have e8 := fun env => sssE_s false _ env e6
  rw [e7] at e8
  have e9 := fun env => rng1R_n n env (lt_SL (by omega))
  obtain ⟨o6, e10⟩ := lc_empty 5 (Rk (k + 2)) (fun o => [some (.ins 0 [(1, .pure (.int n)), (2, .pure (.lst (pD L)))]), some (.pure (.int n)), some (.pure (.lst (pD es))), o3, o4.map .pure, o.map .pure, none, none, none]) (fun o => ⟨_, _, rfl⟩) (fun o d => rfl) (fun o => rfl) (rngD 0 n) none
  have e11 : (rngD 0 n).map (fun _ => M.lst []) = (List.replicate n []).map gM := by
    unfold rngD
    rw [List.map_map, List.map_replicate]
    exact List.eq_replicate_iff.mpr ⟨by simp, fun b hb => by obtain ⟨_, _, rfl⟩ := List.mem_map.mp hb; rfl⟩
  rw [e11] at e10
  have e12 := fun env => lcEnd_t ((List.replicate n []).map gM) env (le_SL (by simp; omega))
  have hLn := hw.few h2
  obtain ⟨o7, o8, e13⟩ := rows_loop (R := Rk (k + 2)) (.pure (.int n)) (.pure (.lst (pD L))) (some (.pure (.int n))) (some (.pure (.lst (pD es)))) o3 (o4.map .pure) none none L (List.replicate n []) 0 none none (fun r hr => by rw [(List.mem_replicate.mp hr).2]; exact Nat.le_refl 0) (by omega) (fun p hp => by rw [List.length_replicate]; have := hw.ok p hp; omega)
  have e14 : L.foldl stepR (List.replicate n []) = rowsOf n L := rfl
  rw [e14] at e13
  obtain ⟨o9, e15⟩ := lc_sorted 8 (Rk (k + 2)) (fun o => [some (.ins 0 [(1, .pure (.int n)), (2, .pure (.lst (pD L))), (3, .pure (sD (rowsOf n L)))]), some (.pure (.int n)), some (.pure (.lst (pD es))), o3, o4.map .pure, none, o7, o8, o.map .pure]) (fun o => ⟨_, _, rfl⟩) (fun o d => rfl) (fun o => rfl) (fun d => rfl) (rowsOf n L) none
  have hlr : (rowsOf n L).length = n := by unfold rowsOf; rw [fold_len, List.length_replicate]
  have e16 := fun env => lcEnd_f ((rowsOf n L).map fun r => .pure (rD (sortI r))) env (le_SL (by simp; omega))
  have e17 : M.frzs ((rowsOf n L).map fun r => .pure (rD (sortI r))) = (sidesOf n L).map rD := by
    unfold sidesOf
    rw [frzs_mapl (fun r => rD (sortI r)), List.map_map]; rfl
  have e18 := frz_rows (rowsOf n L)
  have s1 := fun m => setI_s (R := Rk (k + 2)) (c := 0) (f := 1) (m := m) (fs := []) (by decide) rfl
  have s2 := fun m a => setI_s (R := Rk (k + 2)) (c := 0) (f := 2) (m := m) (fs := [(1, a)]) (by simp) rfl
  have s3 := fun m a b => setI_s (R := Rk (k + 2)) (c := 0) (f := 3) (m := m) (fs := [(1, a), (2, b)]) (by simp) rfl
  have s4 := fun m a b c => setI_s (R := Rk (k + 2)) (c := 0) (f := 3) (m := m) (fs := [(1, a), (2, b), (3, c)]) (by simp) rfl
  simp only [Option.map_none] at e3 e4 e10 e13 e15
  exact (runFn_nx (env := [some (.ins 0 [(1, .pure (.int n)), (2, .pure (.lst (pD L))), (3, .pure (sD (sidesOf n L)))]), some (.pure (.int n)), some (.pure (.lst (pD es))), o3, o4.map .pure, none, o7, o8, none]) rfl rfl (by simp [-Rs.bind, -Rs.lift, -List.map_map, -List.map_replicate, f0, e1, e2, e3, e4, e5, e8, e9, e10, e12, e13, e15, e16, e17, e18, s1, s2, s3, s4, setF, List.lookup])).trans rfl
end K13

set_option Elab.async false
set_option linter.all false
set_option maxRecDepth 100000
/-! K13F: nets changed; the law's sides and draws. -/
namespace K13
open FB FB.Ev
theorem eqD_pT (p q : Nat × Nat) : eqD (pT p) (pT q) = decide (p = q) := by
  show (((p.1 : Int) == (q.1 : Int)) && (((p.2 : Int) == (q.2 : Int)) && true)) = _
  rw [Bool.eq_iff_iff, decide_eq_true_eq, Bool.and_true, Bool.and_eq_true, beq_iff_eq, beq_iff_eq]
  constructor
  · rintro ⟨h1, h2⟩
    exact Prod.ext (Int.natCast_inj.mp h1) (Int.natCast_inj.mp h2)
  · rintro rfl
    exact ⟨rfl, rfl⟩
theorem semC_ne_pT (p q : Nat × Nat) : semC .ne (pT p) (pT q) = some (!decide (p = q)) := by
  rw [semC_ne_flat (flat_pT p) (flat_pT q), eqD_pT]
theorem semC_in_pT (p : Nat × Nat) (L : List (Nat × Nat)) : semC .isin (pT p) (.lst (pD L)) = some (decide (p ∈ L)) := by
  rw [semC_isin_flat (flat_pT p) (flat_pD L)]
  refine congrArg some ?_
  rw [Bool.eq_iff_iff, decide_eq_true_eq, List.any_map, List.any_eq_true]
  constructor
  · rintro ⟨q, hq, e⟩
    have e : eqD (pT q) (pT p) = true := e
    rw [eqD_pT, decide_eq_true_eq] at e
    exact e ▸ hq
  · intro h
    exact ⟨p, h, by show eqD (pT p) (pT p) = true; rw [eqD_pT]; simp⟩
theorem lc_cut (i : Nat) (R : Rt) (t : En → Rs Bool) (q : Nat × Nat) (env : Option D → En) (hc : ∀ o, ∃ v l, env o = v :: l) (hset : ∀ o d, (env o).set i (some (.pure d)) = env (some d)) (hnone : ∀ o, (env o).set i none = env none) (hs0 : ∀ d, slot (env (some d)) i = some (.pure d))
    (ht : ∀ p, t (env (some (pT p))) = .ok (!decide (p = q)) (env (some (pT p)))) : ∀ (L : List (Nat × Nat)) (o : Option D), ∃ o' : Option D, lcLoop (turnR (.one i) t (ev R (.var i)).e) (pD L) (env o) = .ok ((L.filter fun p => !decide (p = q)).map fun p => .pure (pT p)) (env o')
  | [], o => ⟨o, rfl⟩
  | p :: L, o => by
    obtain ⟨o', e⟩ := lc_cut i R t q env hc hset hnone hs0 ht L (some (pT p))
    obtain ⟨v1, l1, e1⟩ := hc o
    obtain ⟨v2, l2, e2⟩ := hc (some (pT p))
    have ht := ht p
    have hs : (v1 :: l1).set i none = env none := by rw [← e1]; exact hnone o
    have hs2 : (env none).set i (some (.pure (pT p))) = v2 :: l2 := by rw [hset, e2]
    have hs3 : slot (v2 :: l2) i = some (.pure (pT p)) := by rw [← e2]; exact hs0 _
    refine ⟨o', ?_⟩
    rw [e1]
    rw [e2] at e ht
    by_cases z : p = q
    · have z1 : (!decide (p = q)) = false := by simp [z]
      rw [z1] at ht
      rw [List.filter_cons, if_neg (by rw [z1]; exact Bool.false_ne_true)]
      simp [-Rs.bind, -Rs.lift, hs, hs2, e, ht]
    · have z1 : (!decide (p = q)) = true := by simp [z]
      rw [z1] at ht
      rw [List.filter_cons, if_pos z1]
      simp [-Rs.bind, -Rs.lift, hs, hs2, hs3, e, ht]
theorem made_c (k n : Nat) (L : List (Nat × Nat)) (h1 : 1 ≤ n) (h2 : n ≤ 7) (hw : Web n L) :
    (Rk (k + 4)).call 15 [.pure (.tup [.int n, .lst (pD L)])] = .ok (.pure (net n L (sidesOf n L))) [some (.pure (.tup [.int n, .lst (pD L)]))] := by
  rw [call_eq (k + 3) 15 f15 rfl rfl]
  have hl := hw.few h2
  have e1 := init_c k n L L h1 h2 (fun p hp => by have := hw.ok p hp; omega) (by omega) hw.lines hw
  exact (runFn_rt (env := [some (.pure (.tup [.int n, .lst (pD L)]))]) rfl rfl (by simp [-Rs.bind, -Rs.lift, f15, e1])).trans rfl
theorem with_c (k n : Nat) (L : List (Nat × Nat)) (a b : Nat) (h1 : 1 ≤ n) (h2 : n ≤ 7) (hw : Web n L) (ha : a < n) (hb : b < n) (he : nrm (a, b) ∉ L) :
    (Rk (k + 4)).raw 5 [.pure (net n L (sidesOf n L)), .pure (.int a), .pure (.int b)] = .ok (.pure (net n (srtP (L ++ [nrm (a, b)])) (sidesOf n (srtP (L ++ [nrm (a, b)]))))) [some (.pure (net n L (sidesOf n L))), some (.pure (.int a)), some (.pure (.int b))] := by
  rw [raw_eq (k + 3) 5 f5 rfl]
  have hl := hw.few h2
  have hn : (nrm (a, b)).1 ≤ (nrm (a, b)).2 ∧ (nrm (a, b)).2 < n := by
    unfold nrm
    exact ⟨by simp; omega, by simp; omega⟩
  have hw2 := hw.put he hn.1 hn.2
  have e1 := init_c k n (L ++ [(a, b)]) (srtP (L ++ [nrm (a, b)])) h1 h2 (fun p hp => by
    rcases List.mem_append.mp hp with hp | hp
    · have := hw.ok p hp; omega
    · rw [List.mem_singleton] at hp
      subst hp
      exact ⟨ha, hb⟩) (by simp; omega) (hw.lines2 he) hw2
  obtain ⟨row, hr⟩ : ∃ r, (sidesOf n L)[a]? = some r := ⟨_, List.getElem?_eq_getElem (show a < (sidesOf n L).length by rw [sides_len]; exact ha)⟩
  have e2 := checkn (k + 1) n L (sidesOf n L) a b ha hb
  have e3 : lacks 4 (.pure (net n L (sidesOf n L))) = true := rfl
  have e4 : clsOf (.pure (net n L (sidesOf n L))) = some 0 := rfl
  have e5 : semIx (sD (sidesOf n L)) (.int a) = some (rD row) := semIx_lst _ _ _ (by rw [List.getElem?_map, hr]; rfl)
  have e6 := semC_isin_ints (b : Int) row
  have e7 : ¬ ((b : Int) ∈ row) := fun m => he ((mem_sides hw ha hr).mp m)
  have e8 : (pD L).length + [pT (a, b)].length ≤ SL := le_SL (by simp; omega)
  have e9 := sem2_addl (mu := false) (pD L) [pT (a, b)] e8
  have e10 : pD (L ++ [(a, b)]) = pD L ++ [pT (a, b)] := by simp
  rw [e10] at e1
  exact (runFn_rt (env := [some (.pure (net n L (sidesOf n L))), some (.pure (.int a)), some (.pure (.int b))]) rfl rfl (by simp [-Rs.bind, -Rs.lift, f5, SL, e1, e2, e3, e4, e5, e6, e7, e9])).trans rfl
theorem without_c (k n : Nat) (L : List (Nat × Nat)) (a b : Nat) (h1 : 1 ≤ n) (h2 : n ≤ 7) (hw : Web n L) (ha : a < n) (hb : b < n) (he : nrm (a, b) ∈ L) :
    (Rk (k + 4)).call 6 [.pure (net n L (sidesOf n L)), .pure (.int a), .pure (.int b)] = .ok (.pure (net n (L.filter fun p => !decide (p = nrm (a, b))) (sidesOf n (L.filter fun p => !decide (p = nrm (a, b)))))) [some (.pure (net n L (sidesOf n L))), some (.pure (.int a)), some (.pure (.int b))] := by
  rw [call_eq (k + 3) 6 f6 rfl rfl]
  have hl := hw.few h2
  have hw2 := hw.cut fun p => !decide (p = nrm (a, b))
  have hl2 := hw2.few h2
  have e1 := init_c k n _ _ h1 h2 (fun p hp => by have := hw2.ok p hp; omega) (by omega) hw2.lines hw2
  obtain ⟨row, hr⟩ : ∃ r, (sidesOf n L)[a]? = some r := ⟨_, List.getElem?_eq_getElem (show a < (sidesOf n L).length by rw [sides_len]; exact ha)⟩
  have e2 := checkn (k + 1) n L (sidesOf n L) a b ha hb
  have e3 : lacks 4 (.pure (net n L (sidesOf n L))) = true := rfl
  have e4 : clsOf (.pure (net n L (sidesOf n L))) = some 0 := rfl
  have e5 : semIx (sD (sidesOf n L)) (.int a) = some (rD row) := semIx_lst _ _ _ (by rw [List.getElem?_map, hr]; rfl)
  have e6 := semC_notin_ints (b : Int) row
  have e7 : (b : Int) ∈ row := (mem_sides hw ha hr).mpr he
  have m1 := min_p (a, b)
  have m2 := max_p (a, b)
  simp only at m1 m2
  obtain ⟨o', e8⟩ := lc_cut 3 (Rk (k + 3)) (ev (Rk (k + 3)) (.cmp .ne (.var 3) (.tup (.cons (.bi2 false .min2 (.var 1) (.var 2)) (.cons (.bi2 false .max2 (.var 1) (.var 2)) .nil))))).t (nrm (a, b)) (fun o => [some (.pure (net n L (sidesOf n L))), some (.pure (.int a)), some (.pure (.int b)), o.map .pure]) (fun o => ⟨_, _, rfl⟩) (fun o d => rfl) (fun o => rfl) (fun d => rfl) (fun p => by
    have := semC_ne_pT p (nrm (a, b))
    simp [-Rs.bind, -Rs.lift, SL, m1, m2, this]) L none
  have e9 := fun env => lcEnd_f ((L.filter fun p => !decide (p = nrm (a, b))).map fun p => .pure (pT p)) env (le_SL (by rw [List.length_map]; omega))
  have e10 : M.frzs ((L.filter fun p => !decide (p = nrm (a, b))).map fun p => .pure (pT p)) = pD (L.filter fun p => !decide (p = nrm (a, b))) := frzs_mapl _ _
  simp only [Option.map_none] at e8
  exact (runFn_rt (env := [some (.pure (net n L (sidesOf n L))), some (.pure (.int a)), some (.pure (.int b)), none]) rfl rfl (by simp [-Rs.bind, -Rs.lift, -decide_not, f6, SL, e1, e2, e3, e4, e5, e6, e7, e8, e9, e10])).trans rfl
end K13

set_option Elab.async false
set_option linter.all false
set_option maxRecDepth 100000
/-! K13G: the law's sides and drawn nets. -/
namespace K13
open FB FB.Ev
abbrev wD (n : Nat) (L : List (Nat × Nat)) : D := .tup [.int n, .lst (pD L)]
theorem empties (n : Nat) : (rngD 0 n).map (fun _ => M.lst []) = (List.replicate n []).map gM := by
  unfold rngD
  rw [List.map_map, List.map_replicate]
  exact List.eq_replicate_iff.mpr ⟨by simp, fun b hb => by obtain ⟨_, _, rfl⟩ := List.mem_map.mp hb; rfl⟩
theorem sides_c (k n : Nat) (L : List (Nat × Nat)) (h1 : 1 ≤ n) (h2 : n ≤ 7) (hw : Web n L) :
    (Rk (k + 1)).call 16 [.pure (wD n L)] = .ok (.pure (sD (sidesOf n L))) [some (.pure (wD n L))] := by
  rw [call_eq k 16 f16 rfl rfl]
  have e9 := fun env => rng1R_n n env (lt_SL (by omega))
  obtain ⟨o2, e10⟩ := lc_empty 2 (Rk k) (fun o => [some (.pure (wD n L)), none, o.map .pure, none, none, none]) (fun o => ⟨_, _, rfl⟩) (fun o d => rfl) (fun o => rfl) (rngD 0 n) none
  rw [empties] at e10
  have e12 := fun env => lcEnd_t ((List.replicate n []).map gM) env (le_SL (by simp; omega))
  have hLn := hw.few h2
  obtain ⟨o3, o4, e13⟩ := rows_loopw (R := Rk k) (some (.pure (wD n L))) none none L (List.replicate n []) 0 none none (fun r hr => by rw [(List.mem_replicate.mp hr).2]; exact Nat.le_refl 0) (by omega) (fun p hp => by rw [List.length_replicate]; have := hw.ok p hp; omega)
  have e14 : L.foldl stepR (List.replicate n []) = rowsOf n L := rfl
  rw [e14] at e13
  obtain ⟨o9, e15⟩ := lc_sorted 5 (Rk k) (fun o => [some (.pure (wD n L)), some (.pure (sD (rowsOf n L))), none, o3, o4, o.map .pure]) (fun o => ⟨_, _, rfl⟩) (fun o d => rfl) (fun o => rfl) (fun d => rfl) (rowsOf n L) none
  have hlr : (rowsOf n L).length = n := by unfold rowsOf; rw [fold_len, List.length_replicate]
  have e16 := fun env => lcEnd_f ((rowsOf n L).map fun r => .pure (rD (sortI r))) env (le_SL (by simp; omega))
  have e17 : M.frzs ((rowsOf n L).map fun r => .pure (rD (sortI r))) = (sidesOf n L).map rD := by
    unfold sidesOf
    rw [frzs_mapl (fun r => rD (sortI r)), List.map_map]; rfl
  have e18 := frz_rows (rowsOf n L)
  simp only [Option.map_none] at e10 e13 e15
  exact (runFn_rt (env := [some (.pure (wD n L)), some (.pure (sD (rowsOf n L))), none, o3, o4, none]) rfl rfl (by simp [-Rs.bind, -Rs.lift, -List.map_map, -List.map_replicate, f16, e9, e10, e12, e13, e15, e16, e17, e18])).trans rfl
/-! ### drawn edges -/
structure Pre (n : Nat) (L : List (Nat × Nat)) (i c : Nat) : Prop where
  web : Web n L
  lt : ∀ p ∈ L, pLt p (i, c) = true
theorem Pre.mono {n i c c' : Nat} {L : List (Nat × Nat)} (h : Pre n L i c) (hc : c ≤ c') : Pre n L i c' := ⟨h.web, fun p hp => by
  have := h.lt p hp
  rw [pLt_iff] at *
  simp only at *
  omega⟩
theorem Pre.next {n i c : Nat} {L : List (Nat × Nat)} (h : Pre n L i c) : Pre n L (i + 1) 0 := ⟨h.web, fun p hp => by
  have := h.lt p hp
  rw [pLt_iff] at *
  simp only at *
  omega⟩
theorem Pre.put {n i c : Nat} {L : List (Nat × Nat)} (h : Pre n L i c) (h1 : i ≤ c) (h2 : c < n) : Pre n (L ++ [(i, c)]) i (c + 1) := by
  refine ⟨⟨?_, fun p hp => ?_⟩, fun p hp => ?_⟩
  · refine List.pairwise_append.mpr ⟨h.web.srt, List.pairwise_singleton _ _, fun p hp q hq => ?_⟩
    rw [List.mem_singleton] at hq
    subst hq
    exact h.lt p hp
  · rcases List.mem_append.mp hp with hp | hp
    · exact h.web.ok p hp
    · rw [List.mem_singleton] at hp
      subst hp
      exact ⟨h1, h2⟩
  · rcases List.mem_append.mp hp with hp | hp
    · have := h.lt p hp
      rw [pLt_iff] at *
      simp only at *
      omega
    · rw [List.mem_singleton] at hp
      subst hp
      rw [pLt_iff]
      exact .inr ⟨rfl, Nat.lt_succ_self _⟩
theorem rngD_cons (lo : Int) (m : Nat) : rngD lo (m + 1) = .int lo :: rngD (lo + 1) m := by
  unfold rngD
  rw [List.range_succ_eq_map, List.map_cons, List.map_map]
  refine List.cons_eq_cons.mpr ⟨by simp, List.map_congr_left fun k _ => ?_⟩
  show D.int (lo + ((k + 1 : Nat) : Int)) = D.int (lo + 1 + k)
  refine congrArg D.int ?_
  omega
abbrev eM (L : List (Nat × Nat)) : M := .lst (L.map fun p => .pure (pT p))
theorem eM_add (L : List (Nat × Nat)) (p : Nat × Nat) (h : L.length ≤ 500) : appL (.pure (pT p)) (eM L) = some (eM (L ++ [p])) := by
  rw [appL_lst _ _ (lt_SL (by rw [List.length_map]; omega))]
  show _ = some (M.lst ((L ++ [p]).map fun p => .pure (pT p)))
  rw [List.map_append]; rfl
def body2 : Sx := .seq (.ite (.or (.cmp .lt (.call 11 (.cons (.bor 0) (.cons (.int 5) .nil))) (.ix (.lst false (.cons (.int 1) (.cons (.int 2) (.cons (.int 1) (.cons (.int 1) .nil))))) (.var 4))) (.and (.cmp .gt (.var 4) (.int 1)) (.cmp .eq (.var 6) (.op2 false .sub (.var 7) (.int 1))))) (.seq (.app 3 [] (.tup (.cons (.var 6) (.cons (.var 7) .nil)))) .skip) .skip) .skip
theorem inner (k n : Nat) (h2 : n ≤ 7) (cells : List Int) (salt way loops : Int) (hway : 0 ≤ way ∧ way < 4) (t : Option M) (i : Nat) : ∀ (m c : Nat) (pos stock : Int) (L : List (Nat × Nat)) (o7 : Option M), Pre n L i c → c + m = n → i ≤ c → 0 ≤ pos → ∃ (pos' stock' : Int) (L' : List (Nat × Nat)) (o7' : Option M),
    forL (turnF (Rk (k + 1)) (.one 7) body2) (rngD c m) [some (box cells pos stock salt), t, some (.pure (.int n)), some (eM L), some (.pure (.int way)), some (.pure (.int loops)), some (.pure (.int i)), o7] =
      .nx [some (box cells pos' stock' salt), t, some (.pure (.int n)), some (eM L'), some (.pure (.int way)), some (.pure (.int loops)), some (.pure (.int i)), o7'] ∧ Pre n L' i n ∧ 0 ≤ pos'
  | 0, c, pos, stock, L, o7, hp, hc, _, h0 => ⟨pos, stock, L, o7, rfl, hp.mono (by omega), h0⟩
  | m + 1, c, pos, stock, L, o7, hp, hc, hi, h0 => by
    obtain ⟨v, pos1, st1, e1, hv0, hv1, hp1⟩ := pull_c k cells pos stock salt 5 h0 (by decide) (by decide)
    obtain ⟨w, hw⟩ : ∃ w, semIx (.lst [.int 1, .int 2, .int 1, .int 1]) (.int way) = some (.int w) := by
      have : way = ((0 : Nat) : Int) ∨ way = ((1 : Nat) : Int) ∨ way = ((2 : Nat) : Int) ∨ way = ((3 : Nat) : Int) := by omega
      rcases this with rfl | rfl | rfl | rfl <;> exact ⟨_, semIx_lst _ _ _ rfl⟩
    have ec : ((c : Int) + 1) = ((c + 1 : Nat) : Int) := by omega
    have hl := hp.web.few h2
    have e2 := eM_add L (i, c) (by omega)
    have no : ∃ (pos' stock' : Int) (L' : List (Nat × Nat)) (o7' : Option M), forL (turnF (Rk (k + 1)) (.one 7) body2) (rngD (c + 1 : Nat) m) [some (box cells pos1 st1 salt), t, some (.pure (.int n)), some (eM L), some (.pure (.int way)), some (.pure (.int loops)), some (.pure (.int i)), some (.pure (.int c))] =
      .nx [some (box cells pos' stock' salt), t, some (.pure (.int n)), some (eM L'), some (.pure (.int way)), some (.pure (.int loops)), some (.pure (.int i)), o7'] ∧ Pre n L' i n ∧ 0 ≤ pos' :=
      inner k n h2 cells salt way loops hway t i m (c + 1) pos1 st1 L (some (.pure (.int c))) (hp.mono (by omega)) (by omega) (by omega) hp1
    have yes : ∃ (pos' stock' : Int) (L' : List (Nat × Nat)) (o7' : Option M), forL (turnF (Rk (k + 1)) (.one 7) body2) (rngD (c + 1 : Nat) m) [some (box cells pos1 st1 salt), t, some (.pure (.int n)), some (eM (L ++ [(i, c)])), some (.pure (.int way)), some (.pure (.int loops)), some (.pure (.int i)), some (.pure (.int c))] =
      .nx [some (box cells pos' stock' salt), t, some (.pure (.int n)), some (eM L'), some (.pure (.int way)), some (.pure (.int loops)), some (.pure (.int i)), o7'] ∧ Pre n L' i n ∧ 0 ≤ pos' :=
      inner k n h2 cells salt way loops hway t i m (c + 1) pos1 st1 (L ++ [(i, c)]) (some (.pure (.int c))) (hp.put hi (by omega)) (by omega) (by omega) hp1
    rw [rngD_cons, ec]
    by_cases q1 : v < w
    · obtain ⟨a, b, L', o, e, r⟩ := yes
      refine ⟨a, b, L', o, ?_, r⟩
      rw [← e]
      simp [-Rs.bind, -Rs.lift, -appL_lst, body2, e1, hw, q1, e2, SL]
    · by_cases q2 : 1 < way
      · by_cases q3 : (i : Int) = (c : Int) - 1
        · obtain ⟨a, b, L', o, e, r⟩ := yes
          refine ⟨a, b, L', o, ?_, r⟩
          rw [← e]
          have q3' : semC .eq (.int i) (.int ((c : Int) - 1)) = some true := by rw [semC_eq, decide_eq_true q3]
          simp [-Rs.bind, -Rs.lift, -appL_lst, -semC_eq, body2, e1, hw, q1, q2, q3', e2, SL]
        · obtain ⟨a, b, L', o, e, r⟩ := no
          refine ⟨a, b, L', o, ?_, r⟩
          rw [← e]
          have q3' : semC .eq (.int i) (.int ((c : Int) - 1)) = some false := by rw [semC_eq, decide_eq_false q3]
          simp [-Rs.bind, -Rs.lift, -appL_lst, -semC_eq, body2, e1, hw, q1, q2, q3', e2, SL]
      · obtain ⟨a, b, L', o, e, r⟩ := no
        refine ⟨a, b, L', o, ?_, r⟩
        rw [← e]
        simp [-Rs.bind, -Rs.lift, -appL_lst, body2, e1, hw, q1, q2, e2, SL]
def body1 : Sx := .seq (.ite (.and (.cmp .eq (.var 5) (.int 0)) (.cmp .eq (.call 11 (.cons (.bor 0) (.cons (.int 4) .nil))) (.int 0))) (.seq (.app 3 [] (.tup (.cons (.var 6) (.cons (.var 6) .nil)))) .skip) .skip) (.seq (.for (.rng2 (.op2 false .add (.var 6) (.int 1)) (.var 2)) (.one 7) body2) .skip)
theorem rng2_at (i n : Nat) (hi : i < n) (h : n ≤ 7) (env : En) : rng2R (.pure (.int ((i : Int) + 1))) (.pure (.int n)) env = .ok (rngD ((i : Int) + 1) (n - (i + 1)), []) env := by
  rw [rng2R_n _ _ _ ⟨by omega, by omega, by omega, by omega, by have : ((SL : Nat) : Int) = 16777216 := rfl; omega⟩]
  have e2 : ((n : Int) - ((i : Int) + 1)).toNat = n - (i + 1) := by omega
  rw [e2]
theorem outer (k n : Nat) (h2 : n ≤ 7) (cells : List Int) (salt way loops : Int) (hway : 0 ≤ way ∧ way < 4) (t : Option M) : ∀ (m i : Nat) (pos stock : Int) (L : List (Nat × Nat)) (o6 o7 : Option M), Pre n L i 0 → i + m = n → 0 ≤ pos → ∃ (pos' stock' : Int) (L' : List (Nat × Nat)) (o6' o7' : Option M),
    forL (turnF (Rk (k + 1)) (.one 6) body1) (rngD i m) [some (box cells pos stock salt), t, some (.pure (.int n)), some (eM L), some (.pure (.int way)), some (.pure (.int loops)), o6, o7] =
      .nx [some (box cells pos' stock' salt), t, some (.pure (.int n)), some (eM L'), some (.pure (.int way)), some (.pure (.int loops)), o6', o7'] ∧ Web n L' ∧ 0 ≤ pos'
  | 0, i, pos, stock, L, o6, o7, hp, hc, h0 => ⟨pos, stock, L, o6, o7, rfl, hp.web, h0⟩
  | m + 1, i, pos, stock, L, o6, o7, hp, hc, h0 => by
    obtain ⟨v, pos1, st1, e1, hv0, hv1, hp1⟩ := pull_c k cells pos stock salt 4 h0 (by decide) (by decide)
    have hl := hp.web.few h2
    have e2 := eM_add L (i, i) (by omega)
    have ei : ((i : Int) + 1) = ((i + 1 : Nat) : Int) := by omega
    have er := rng2_at i n (by omega) h2
    -- the rest, from where the inner loop starts
    have rest : ∀ (pos1 st1 : Int) (L1 : List (Nat × Nat)) (o7 : Option M), Pre n L1 i (i + 1) → 0 ≤ pos1 → ∃ (pos2 st2 : Int) (L2 : List (Nat × Nat)) (o72 : Option M) (pos' stock' : Int) (L' : List (Nat × Nat)) (o6' o7' : Option M),
      forL (turnF (Rk (k + 1)) (.one 7) body2) (rngD ((i : Int) + 1) (n - (i + 1))) [some (box cells pos1 st1 salt), t, some (.pure (.int n)), some (eM L1), some (.pure (.int way)), some (.pure (.int loops)), some (.pure (.int i)), o7] =
        .nx [some (box cells pos2 st2 salt), t, some (.pure (.int n)), some (eM L2), some (.pure (.int way)), some (.pure (.int loops)), some (.pure (.int i)), o72] ∧
      forL (turnF (Rk (k + 1)) (.one 6) body1) (rngD ((i : Int) + 1) m) [some (box cells pos2 st2 salt), t, some (.pure (.int n)), some (eM L2), some (.pure (.int way)), some (.pure (.int loops)), some (.pure (.int i)), o72] =
        .nx [some (box cells pos' stock' salt), t, some (.pure (.int n)), some (eM L'), some (.pure (.int way)), some (.pure (.int loops)), o6', o7'] ∧ Web n L' ∧ 0 ≤ pos' := by
      intro pos1 st1 L1 o7 hp1 h01
      obtain ⟨pos2, st2, L2, o72, e3, hp2, h02⟩ := inner k n h2 cells salt way loops hway t i (n - (i + 1)) (i + 1) pos1 st1 L1 o7 hp1 (by omega) (by omega) h01
      obtain ⟨pos', stock', L', o6', o7', e4, hw, h03⟩ := outer k n h2 cells salt way loops hway t m (i + 1) pos2 st2 L2 (some (.pure (.int i))) o72 hp2.next (by omega) h02
      rw [← ei] at e3 e4
      exact ⟨pos2, st2, L2, o72, pos', stock', L', o6', o7', e3, e4, hw, h03⟩
    rw [rngD_cons]
    by_cases q1 : loops = 0
    · have q1 : semC .eq (.int loops) (.int 0) = some true := by rw [semC_eq, decide_eq_true q1]
      by_cases q2 : v = 0
      · have q2 : semC .eq (.int v) (.int 0) = some true := by rw [semC_eq, decide_eq_true q2]
        obtain ⟨pos2, st2, L2, o72, pos', stock', L', o6', o7', e3, e4, r⟩ := rest pos1 st1 (L ++ [(i, i)]) o7 (hp.mono (Nat.zero_le i) |>.put (Nat.le_refl i) (by omega)) hp1
        refine ⟨pos', stock', L', o6', o7', ?_, r⟩
        rw [← e4]
        simp [-Rs.bind, -Rs.lift, -appL_lst, -semC_eq, body1, e1, q1, q2, e2, er, e3, SL]
      · have q2 : semC .eq (.int v) (.int 0) = some false := by rw [semC_eq, decide_eq_false q2]
        obtain ⟨pos2, st2, L2, o72, pos', stock', L', o6', o7', e3, e4, r⟩ := rest pos1 st1 L o7 (hp.mono (Nat.zero_le _)) hp1
        refine ⟨pos', stock', L', o6', o7', ?_, r⟩
        rw [← e4]
        simp [-Rs.bind, -Rs.lift, -appL_lst, -semC_eq, body1, e1, q1, q2, e2, er, e3, SL]
    · have q1 : semC .eq (.int loops) (.int 0) = some false := by rw [semC_eq, decide_eq_false q1]
      obtain ⟨pos2, st2, L2, o72, pos', stock', L', o6', o7', e3, e4, r⟩ := rest pos stock L o7 (hp.mono (Nat.zero_le _)) h0
      refine ⟨pos', stock', L', o6', o7', ?_, r⟩
      rw [← e4]
      simp [-Rs.bind, -Rs.lift, -appL_lst, -semC_eq, body1, q1, er, e3, SL]
theorem net_c (k : Nat) (cells : List Int) (pos stock salt : Int) (h0 : 0 ≤ pos) : ∃ (pos' stock' : Int) (n : Nat) (L : List (Nat × Nat)),
    (Rk (k + 2)).call 14 [box cells pos stock salt, .pure (.int 7)] = .ok (.pure (wD n L)) [some (box cells pos' stock' salt), some (.pure (.int 7))] ∧ 1 ≤ n ∧ n ≤ 7 ∧ Web n L ∧ 0 ≤ pos' := by
  rw [call_eq (k + 1) 14 f14 rfl rfl]
  obtain ⟨v, pos1, st1, e1, hv0, hv1, hp1⟩ := pull_c k cells pos stock salt 7 h0 (by decide) (by decide)
  obtain ⟨way, pos2, st2, e2, hw0, hw1, hp2⟩ := pull_c k cells pos1 st1 salt 4 hp1 (by decide) (by decide)
  obtain ⟨loops, pos3, st3, e3, hl0, hl1, hp3⟩ := pull_c k cells pos2 st2 salt 3 hp2 (by decide) (by decide)
  obtain ⟨n, hn⟩ : ∃ n : Nat, 1 + v = (n : Int) := ⟨(1 + v).toNat, by omega⟩
  have h7 : n ≤ 7 := by omega
  obtain ⟨pos4, st4, L, o6, o7, e4, hw, h04⟩ := outer k n h7 cells salt way loops ⟨hw0, hw1⟩ (some (.pure (.int 7))) n 0 pos3 st3 [] none none ⟨⟨List.Pairwise.nil, fun p hp => by cases hp⟩, fun p hp => by cases hp⟩ (by omega) hp3
  have e5 := fun env => rng1R_n n env (lt_SL (by omega))
  have e6 : rngD 0 n = rngD ((0 : Nat) : Int) n := rfl
  have e7 : M.frzs (L.map fun p => .pure (pT p)) = pD L := frzs_mapl _ _
  have e8 : eM [] = .lst [] := rfl
  rw [← e6, e8] at e4
  refine ⟨pos4, st4, n, L, ?_, by omega, h7, hw, h04⟩
  have hb : f14.body = (.seq (.par 2 3 (.op2 false .add (.int 1) (.call 11 (.cons (.bor 0) (.cons (.var 1) .nil)))) (.lst true .nil)) (.seq (.par 4 5 (.call 11 (.cons (.bor 0) (.cons (.int 4) .nil))) (.call 11 (.cons (.bor 0) (.cons (.int 3) .nil)))) (.seq (.for (.rng1 (.var 2)) (.one 6) body1) (.seq (.ret (.tup (.cons (.var 2) (.cons (.mv 3) .nil)))) .skip)))) := rfl
  exact (runFn_rt (f := f14) (env := [some (box cells pos4 st4 salt), some (.pure (.int 7)), some (.pure (.int n)), none, some (.pure (.int way)), some (.pure (.int loops)), o6, o7]) rfl rfl (by
    rw [hb]
    simp [-Rs.bind, -Rs.lift, f14, e1, e2, e3, hn, e5, e4, e7, SL])).trans rfl
end K13

set_option Elab.async false
set_option linter.all false
set_option maxRecDepth 100000
/-! K13H: the law's turns; the plain statement. -/
namespace K13
open FB FB.Ev
theorem sortP (l : List (Nat × Nat)) (h : l.length < 64) (h2 : ∀ p ∈ l, p.1 < 1000 ∧ p.2 < 1000) (h3 : l ≠ []) : semBi false .sorted [.lst (pD l)] = some (.pure (.lst (pD (srtP l)))) := by
  have e1 : allInts (pD l) = none := by
    cases l with
    | nil => exact absurd rfl h3
    | cons x r => rfl
  have e2 : allStrs (pD l) = none := by
    cases l with
    | nil => exact absurd rfl h3
    | cons x r => rfl
  have e3 : allTups (pD l) = some (l.map pI) := by
    rw [← allTups_map (l.map pI), tupD_pI]
  show (match allInts (pD l), allStrs (pD l) with | some ns, _ => some (mkL false ((sortI ns).map .int)) | none, some ss => _ | none, none => (match allTups (pD l) with | some ts => if tupsOk ts then some (mkL false (tupD (sortT ts))) else none | none => none)) = _
  rw [e1, e2, e3]
  show (if tupsOk (l.map pI) then some (mkL false (tupD (sortT (l.map pI)))) else none) = _
  rw [if_pos (tupsOk_pI l h h2), sortT_pI, tupD_pI]; rfl
section
variable (k n : Nat) (L : List (Nat × Nat)) (S : List (List Int))
theorem ne_c (v : Option M) (l : En) : cmpR (Rk (k + 1)) .ne (net n L S) (net n L S) (v :: l) = .ok (.pure (.bl false)) (v :: l) := by
  show (if 0 = 0 then (boolR (callV ((Rk (k + 1)).call 7) [net n L S, net n L S] (v :: l))).bind fun b env => Rs.ok (M.pure (.bl (!b))) env else .no) = _
  rw [if_pos rfl, callV_w]
  have := l_eq k n L S
  simp [-Rs.bind, -Rs.lift, this]
theorem bidR_len {R : Rt} {c f : Nat} {fs : List (Nat × D)} {i : Int} {env env' : En} (h2 : R.dun c 1 = some f) (h : callV (R.call f) [.ins c fs] env = .ok (.pure (.int i)) env') (hn : 0 ≤ i ∧ i < 2 ^ 60) : bidR R .len (.ins c fs) env = .ok (.pure (.int i)) env' := by
  unfold bidR
  simp only [h2, h, Ev.bind_ok, if_pos hn]
theorem len_c (h : L.length ≤ 56) (v : Option M) (l : En) : bidR (Rk (k + 1)) .len (net n L S) (v :: l) = .ok (.pure (.int L.length)) (v :: l) := by
  have e := l_len k n L S
  have e2 : callV ((Rk (k + 1)).call 8) [net n L S] (v :: l) = .ok (.pure (.int L.length)) (v :: l) := by
    rw [callV_w]
    show callW (v :: l) ((Rk (k + 1)).call 8 [.pure (net n L S)]) = _
    rw [e]; rfl
  exact bidR_len rfl e2 ⟨by omega, by omega⟩
theorem near_loop (hn : S.length = n) (x0 x1 x2 x4 x5 x6 x7 x8 x9 x10 x11 : Option M) : ∀ (m j : Nat) (o : Option D), j + m = n → ∃ o' : Option D,
    lcLoop (turnR (.one 12) (ev (Rk (k + 3)) (.bl true)).t (ev (Rk (k + 3)) (.meth 9 (.var 3) (.cons (.var 12) .nil))).e) (rngD j m) [x0, x1, x2, some (.pure (net n L S)), x4, x5, x6, x7, x8, x9, x10, x11, o.map .pure] =
      .ok ((S.drop j).map fun r => .pure (rD r)) [x0, x1, x2, some (.pure (net n L S)), x4, x5, x6, x7, x8, x9, x10, x11, o'.map .pure]
  | 0, j, o, h => ⟨o, by rw [List.drop_of_length_le (by omega)]; rfl⟩
  | m + 1, j, o, h => by
    have hj : j < S.length := by omega
    have e1 := l_near k n L S j S[j] (by omega) (List.getElem?_eq_getElem hj)
    obtain ⟨o', e⟩ := near_loop hn x0 x1 x2 x4 x5 x6 x7 x8 x9 x10 x11 m (j + 1) (some (.int j)) (by omega)
    have e3 : lacks 9 (.pure (net n L S)) = true := rfl
    have e4 : clsOf (.pure (net n L S)) = some 0 := rfl
    have ej : ((j : Int) + 1) = ((j + 1 : Nat) : Int) := by omega
    simp only [Option.map_some] at e
    rw [← ej] at e
    refine ⟨o', ?_⟩
    rw [rngD_cons]
    simp [-Rs.bind, -Rs.lift, -List.map_drop, e, e1, e3, e4]
    rw [List.drop_eq_getElem_cons hj]; rfl
end
def tail17 : Sx := (.seq (.ite (.or (.cmp .ne (.meth 5 (.var 3) .nil) (.var 8)) (.not (.call 12 (.cons (.lst false (.cons (.fld 8 (.var 9)) (.cons (.meth 5 (.var 9) .nil) .nil))) (.cons (.lst false (.cons (.ix (.var 2) (.int 0)) (.cons (.var 10) .nil))) .nil))))) (.seq (.ret (.bl false)) .skip) .skip) (.seq (.setT [3, 2] (.tup (.cons (.var 9) (.cons (.tup (.cons (.ix (.var 2) (.int 0)) (.cons (.var 10) .nil))) .nil)))) (.seq (.ite (.or (.cmp .ne (.lc false (.rng1 (.ix (.var 2) (.int 0))) (.one 12) (.bl true) (.meth 9 (.var 3) (.cons (.var 12) .nil))) (.call 16 (.cons (.var 2) .nil))) (.cmpd .ne (.var 3) (.call 15 (.cons (.var 2) .nil)))) (.seq (.ret (.bl false)) .skip) .skip) .skip)))
theorem tail_c (k n : Nat) (L L' : List (Nat × Nat)) (h1 : 1 ≤ n) (h2 : n ≤ 7) (hw' : Web n L') (hL : L.length ≤ 56) (x0 x1 x4 x5 x6 x7 : Option M) :
    exec (Rk (k + 4)) tail17 [x0, x1, some (.pure (wD n L)), some (.pure (net n L (sidesOf n L))), x4, x5, x6, x7, some (.pure (.lst (pD L))), some (.pure (net n L' (sidesOf n L'))), some (.pure (.lst (pD L'))), none, none] =
      .nx [x0, x1, some (.pure (wD n L')), some (.pure (net n L' (sidesOf n L'))), x4, x5, x6, x7, some (.pure (.lst (pD L))), some (.pure (net n L' (sidesOf n L'))), some (.pure (.lst (pD L'))), none, none] := by
  have hl' := hw'.few h2
  have e1 := l_edges (k + 3) n L (sidesOf n L)
  have e2 := l_edges (k + 3) n L' (sidesOf n L')
  have e3 := semC_ne_refl (flat_pD L)
  have e4 : ∀ env, fldR (Rk (k + 4)) 8 (net n L' (sidesOf n L')) env = callV ((Rk (k + 4)).call 1) [net n L' (sidesOf n L')] env := fun env => fldR_prop rfl rfl env
  have e5 := l_nodes (k + 3) n L' (sidesOf n L')
  have e6 : (Rk (k + 4)).call 12 [.pure (.lst [.int n, .lst (pD L')]), .pure (.lst [.int n, .lst (pD L')])] = _ := like_web k n L' (by omega)
  have e7 := fun env => rng1R_n n env (lt_SL (by omega))
  obtain ⟨o, e8⟩ := near_loop (k + 1) n L' (sidesOf n L') (sides_len n L') x0 x1 (some (.pure (wD n L'))) x4 x5 x6 x7 (some (.pure (.lst (pD L)))) (some (.pure (net n L' (sidesOf n L')))) (some (.pure (.lst (pD L')))) none n 0 none (by omega)
  have e9 : rngD ((0 : Nat) : Int) n = rngD 0 n := rfl
  rw [e9, List.drop_zero] at e8
  simp only [Option.map_none] at e8
  have e10 := fun env => lcEnd_f ((sidesOf n L').map fun r => .pure (rD r)) env (le_SL (by rw [List.length_map, sides_len]; omega))
  have e11 : M.frzs ((sidesOf n L').map fun r => .pure (rD r)) = (sidesOf n L').map rD := frzs_mapl _ _
  have e12 := sides_c (k + 3) n L' h1 h2 hw'
  have e13 := semC_ne_refl (flat_sD (sidesOf n L'))
  have e14 := made_c k n L' h1 h2 hw'
  have e15 := ne_c (k + 3) n L' (sidesOf n L')
  have c1 : lacks 5 (.pure (net n L (sidesOf n L))) = true := rfl
  have c2 : clsOf (.pure (net n L (sidesOf n L))) = some 0 := rfl
  have c3 : lacks 5 (.pure (net n L' (sidesOf n L'))) = true := rfl
  have c4 : clsOf (.pure (net n L' (sidesOf n L'))) = some 0 := rfl
  simp [-Rs.bind, -Rs.lift, tail17, e1, e2, e3, e4, e5, e6, e7, e8, e10, e11, e12, e13, e14, e15, c1, c2, c3, c4, SL]
def branch17 : Sx := (.ite (.cmp .isin (.var 7) (.ix (.var 2) (.int 1))) (.seq (.par 9 10 (.meth 6 (.var 3) (.cons (.var 5) (.cons (.var 6) .nil))) (.lc false (.ix (.var 2) (.int 1)) (.one 11) (.cmp .ne (.var 11) (.var 7)) (.var 11))) .skip) (.seq (.par 9 10 (.methk 7 0 (.var 3) .nil (.cons (.var 6) (.cons (.var 5) .nil))) (.bi false .sorted (.op2 false .add (.ix (.var 2) (.int 1)) (.lst false (.cons (.var 7) .nil))))) .skip))
theorem branch_c (k n a b : Nat) (L : List (Nat × Nat)) (h1 : 1 ≤ n) (h2 : n ≤ 7) (hw : Web n L) (ha : a < n) (hb : b < n) (x0 x1 x4 x8 x9 x10 : Option M) : ∃ L', Web n L' ∧
    exec (Rk (k + 4)) branch17 [x0, x1, some (.pure (wD n L)), some (.pure (net n L (sidesOf n L))), x4, some (.pure (.int a)), some (.pure (.int b)), some (.pure (pT (nrm (a, b)))), x8, x9, x10, none, none] =
      .nx [x0, x1, some (.pure (wD n L)), some (.pure (net n L (sidesOf n L))), x4, some (.pure (.int a)), some (.pure (.int b)), some (.pure (pT (nrm (a, b)))), x8, some (.pure (net n L' (sidesOf n L'))), some (.pure (.lst (pD L'))), none, none] := by
  have hl := hw.few h2
  have e0 := semC_in_pT (nrm (a, b)) L
  have hn : (nrm (a, b)).1 ≤ (nrm (a, b)).2 ∧ (nrm (a, b)).2 < n := by
    unfold nrm
    exact ⟨by simp; omega, by simp; omega⟩
  by_cases he : nrm (a, b) ∈ L
  · rw [decide_eq_true he] at e0
    have hw2 := hw.cut fun p => !decide (p = nrm (a, b))
    refine ⟨_, hw2, ?_⟩
    have hl2 := hw2.few h2
    have e1 := without_c k n L a b h1 h2 hw ha hb he
    have c1 : lacks 6 (.pure (net n L (sidesOf n L))) = true := rfl
    have c2 : clsOf (.pure (net n L (sidesOf n L))) = some 0 := rfl
    obtain ⟨o', e8⟩ := lc_cut 11 (Rk (k + 4)) (ev (Rk (k + 4)) (.cmp .ne (.var 11) (.var 7))).t (nrm (a, b)) (fun o => [x0, x1, some (.pure (wD n L)), some (.pure (net n L (sidesOf n L))), x4, some (.pure (.int a)), some (.pure (.int b)), some (.pure (pT (nrm (a, b)))), x8, x9, x10, o.map .pure, none]) (fun o => ⟨_, _, rfl⟩) (fun o d => rfl) (fun o => rfl) (fun d => rfl) (fun p => by
      have := semC_ne_pT p (nrm (a, b))
      simp [-Rs.bind, -Rs.lift, SL, this]) L none
    have e9 := fun env => lcEnd_f ((L.filter fun p => !decide (p = nrm (a, b))).map fun p => .pure (pT p)) env (le_SL (by rw [List.length_map]; omega))
    have e10 : M.frzs ((L.filter fun p => !decide (p = nrm (a, b))).map fun p => .pure (pT p)) = pD (L.filter fun p => !decide (p = nrm (a, b))) := frzs_mapl _ _
    simp only [Option.map_none] at e8
    simp [-Rs.bind, -Rs.lift, -decide_not, branch17, e0, e1, c1, c2, e8, e9, e10]
  · rw [decide_eq_false he] at e0
    refine ⟨_, hw.put he hn.1 hn.2, ?_⟩
    have e1 := with_c k n L a b h1 h2 hw ha hb he
    have e2 := fun env => methkX_s (R := Rk (k + 4)) (m := 7) (p := 0) (c := 0) (args := .nil) (kws := .cons (.var 6) (.cons (.var 5) .nil)) (fs := nF n L (sidesOf n L)) (k := ⟨5, [.inl 0, .inl 2, .inl 1]⟩) rfl rfl rfl env
    have e3 : fillK [net n L (sidesOf n L), .int b, .int a] [.inl 0, .inl 2, .inl 1] = some [net n L (sidesOf n L), .int a, .int b] := rfl
    have e8 : (pD L).length + [pT (nrm (a, b))].length ≤ SL := le_SL (by simp; omega)
    have e9 := sem2_addl (mu := false) (pD L) [pT (nrm (a, b))] e8
    have e10 : pD L ++ [pT (nrm (a, b))] = pD (L ++ [nrm (a, b)]) := by simp
    rw [e10] at e9
    have e11 := sortP (L ++ [nrm (a, b)]) (by simp; omega) (fun p hp => by
      rcases List.mem_append.mp hp with hp | hp
      · have := hw.ok p hp; omega
      · rw [List.mem_singleton] at hp
        subst hp
        omega) (by simp)
    simp [-Rs.bind, -Rs.lift, -List.map_append, branch17, e0, e1, e2, e3, e9, e11, SL]
def body17 : Sx := (.seq (.par 5 6 (.call 11 (.cons (.bor 1) (.cons (.ix (.var 2) (.int 0)) .nil))) (.call 11 (.cons (.bor 1) (.cons (.ix (.var 2) (.int 0)) .nil)))) (.seq (.setT [7, 8] (.tup (.cons (.tup (.cons (.bi2 false .min2 (.var 5) (.var 6)) (.cons (.bi2 false .max2 (.var 5) (.var 6)) .nil))) (.cons (.meth 5 (.var 3) .nil) .nil)))) (.seq branch17 tail17)))
theorem turns (k n : Nat) (h1 : 1 ≤ n) (h2 : n ≤ 7) (cells : List Int) (salt : Int) (x0 : Option M) : ∀ (ds : List D) (pos stock : Int) (L : List (Nat × Nat)) (x4 x5 x6 x7 x8 x9 x10 : Option M), Web n L → 0 ≤ pos → ∃ (box' : M) (L' : List (Nat × Nat)) (y4 y5 y6 y7 y8 y9 y10 : Option M), Web n L' ∧
    forL (turnF (Rk (k + 4)) (.one 4) body17) ds [x0, some (box cells pos stock salt), some (.pure (wD n L)), some (.pure (net n L (sidesOf n L))), x4, x5, x6, x7, x8, x9, x10, none, none] =
      .nx [x0, some box', some (.pure (wD n L')), some (.pure (net n L' (sidesOf n L'))), y4, y5, y6, y7, y8, y9, y10, none, none]
  | [], pos, stock, L, x4, x5, x6, x7, x8, x9, x10, hw, h0 => ⟨_, L, x4, x5, x6, x7, x8, x9, x10, hw, rfl⟩
  | d :: ds, pos, stock, L, x4, x5, x6, x7, x8, x9, x10, hw, h0 => by
    have hl := hw.few h2
    obtain ⟨va, pos1, st1, e1, ha0, ha1, hp1⟩ := pull_c (k + 3) cells pos stock salt n h0 (by omega) (by omega)
    obtain ⟨vb, pos2, st2, e2, hb0, hb1, hp2⟩ := pull_c (k + 3) cells pos1 st1 salt n hp1 (by omega) (by omega)
    obtain ⟨a, rfl⟩ : ∃ a : Nat, va = (a : Int) := ⟨va.toNat, by omega⟩
    obtain ⟨b, rfl⟩ : ∃ b : Nat, vb = (b : Int) := ⟨vb.toNat, by omega⟩
    obtain ⟨L', hw', e3⟩ := branch_c k n a b L h1 h2 hw (by omega) (by omega) x0 (some (box cells pos2 st2 salt)) (some (.pure d)) (some (.pure (.lst (pD L)))) x9 x10
    have e4 := tail_c k n L L' h1 h2 hw' hl x0 (some (box cells pos2 st2 salt)) (some (.pure d)) (some (.pure (.int a))) (some (.pure (.int b))) (some (.pure (pT (nrm (a, b)))))
    obtain ⟨box', L'', y4, y5, y6, y7, y8, y9, y10, hw'', e5⟩ := turns k n h1 h2 cells salt x0 ds pos2 st2 L' (some (.pure d)) (some (.pure (.int a))) (some (.pure (.int b))) (some (.pure (pT (nrm (a, b))))) (some (.pure (.lst (pD L)))) (some (.pure (net n L' (sidesOf n L')))) (some (.pure (.lst (pD L')))) hw' hp2
    refine ⟨box', L'', y4, y5, y6, y7, y8, y9, y10, hw'', ?_⟩
    have m1 := min_p (a, b)
    have m2 := max_p (a, b)
    simp only at m1 m2
    have c1 : lacks 5 (.pure (net n L (sidesOf n L))) = true := rfl
    have c2 : clsOf (.pure (net n L (sidesOf n L))) = some 0 := rfl
    have e6 := l_edges (k + 3) n L (sidesOf n L)
    rw [← e5]
    simp [-Rs.bind, -Rs.lift, body17, e1, e2, e3, e4, m1, m2, c1, c2, e6, SL]
theorem plain (ns : List Int) (h : ns.length ≤ 63) : ∃ ms, run txt.pg 5 17 [.pure (.frl (ns.map .int))] = .ok (.pure (.bl true)) ms := by
  obtain ⟨salt, e1⟩ := open_c 3 ns h
  obtain ⟨pos, st, n, L, e2, h1, h2, hw, h0⟩ := net_c 2 ns 0 0 salt (Int.le_refl 0)
  have e3 := made_c 0 n L h1 h2 hw
  obtain ⟨box', L', y4, y5, y6, y7, y8, y9, y10, hw', e4⟩ := turns 0 n h1 h2 ns salt (some (.pure (.frl (ns.map .int)))) (rngD 0 10) pos st L none none none none none none none hw h0
  have e5 := fun env => rng1R_n 10 env (lt_SL (by decide))
  have e6 := fun v l => len_c 3 n L' (sidesOf n L') (hw'.few h2) v l
  have hb : f17.body = (.seq (.set 1 (.call 13 (.cons (.var 0) .nil))) (.seq (.set 2 (.call 14 (.cons (.bor 1) (.cons (.int 7) .nil)))) (.seq (.set 3 (.call 15 (.cons (.var 2) .nil))) (.seq (.for (.rng1 (.int 10)) (.one 4) body17) (.seq (.ret (.cmp .eq (.bid .len (.var 3)) (.bi false .len (.ix (.var 2) (.int 1))))) .skip))))) := rfl
  have e7 : run txt.pg 5 17 [.pure (.frl (ns.map .int))] = runFn f17 (exec (Rk 4) f17.body) [.pure (.frl (ns.map .int))] := rfl
  have e8 : rng1R (.pure (.int 10)) = rng1R (.pure (.int ((10 : Nat) : Int))) := rfl
  rw [e7]
  refine ⟨_, runFn_rt (f := f17) (env := [some (.pure (.frl (ns.map .int))), some box', some (.pure (wD n L')), some (.pure (net n L' (sidesOf n L'))), y4, y5, y6, y7, y8, y9, y10, none, none]) rfl rfl ?_⟩
  rw [hb]
  have e5 : ∀ env, rng1R (.pure (.int 10)) env = .ok (rngD 0 10, []) env := e5
  simp [-Rs.bind, -Rs.lift, f17, e1, e2, e3, e4, e5, e6]
end K13

set_option Elab.async false
set_option linter.all false
set_option maxRecDepth 100000
set_option maxHeartbeats 0
/-! K13Hd: the head; the law's def under it. -/
namespace K13
open PySem PySem.Spec PyProof.Rows L2 FB
abbrev RR : PySem.W.OpenRow := PySem.W.OpenLaw.row PySem.Challenge.rw_farblend_k13_edges_that_come_and_go
def names : List Str := ["_wall", "FarError", "InvalidCount", "InvalidEdge", "InvalidNode", "HasEdge", "LacksEdge", "is_number", "is_edge", "Net", "_law_pull", "_law_like", "_law_open", "_law_net", "_law_made_net", "_law_sides"]
theorem run_eq (w : World) : HandSHeadRun.RunEq RR (PySem.W.view RR.prog [20]) (hookF 5 txt) (lookF 5 txt) 6000 names w := by
  intro os
  kernel_rfl
end K13
open PySem PySem.W PySem.Calls PyProof.Rows
theorem K13.head (K0 : Nat) (hr : L2.Room (2 * K0 + 2) callerA) (plain : ∀ ns : List Int, ns.length ≤ 63 → ∃ ms, FB.run K13.txt.pg (K0 + 1) 17 [.pure (.frl (ns.map .int))] = .ok (.pure (.bl true)) ms) : PySem.Challenge.rw_farblend_k13_edges_that_come_and_go.Holds := by
  w_on; o_law
  refine HandSHeadRun.head_any (r := OpenLaw.row PySem.Challenge.rw_farblend_k13_edges_that_come_and_go) (q := view (OpenLaw.row PySem.Challenge.rw_farblend_k13_edges_that_come_and_go).prog [20]) (H := FB.hookF 5 K13.txt) (ob := FB.lookF 5 K13.txt) (M := 6000) (loose := K13.names) (d := HandSHeadRun.topDef (OpenLaw.row PySem.Challenge.rw_farblend_k13_edges_that_come_and_go).prog 20) (kwd := []) (FB.lookF_eq 5 K13.txt)
    (by kernel_rfl) (fun s => by kernel_rfl) K13.run_eq (by kernel_rfl) (by kernel_rfl) (by kernel_rfl) (by rfl) (by first | assumption | decide +kernel) (by decide +kernel) ⟨rfl, rfl, rfl, rfl, rfl, by decide +kernel⟩ ?hw ?hc
  case hw => w_witness2
  case hc =>
    refine L2.walk_ofE (l := PySem.Challenge.rw_farblend_k13_edges_that_come_and_go) (n := 63) (k := 2 * K0 + 2) (x := "_law_script") (CX := L2.CX0) rfl (by decide) (by kernel_rfl) hr ?F (fun _ _ _ _ z => z)
    intro w mg fa h Y G hmg0
    obtain ⟨K, KX, c⟩ := Y
    have hmg : mg ("law" : PySem.Str) = some (.ref fa) := by
      have e : (HandSHeadRun.topDef (OpenLaw.row PySem.Challenge.rw_farblend_k13_edges_that_come_and_go).prog 20).name = ("law" : PySem.Str) := by kernel_rfl
      rw [← e]
      exact hmg0
    obtain ⟨ok, fds⟩ := FB.saysF c
    have S := FB.stc_of K13.nms_ok KX G ok (fun d hd => ⟨fds d hd, K13.all_b d hd⟩) K13.all_p
    have m17 : K13.d17 ∈ K13.txt.defs := by simp [K13.txt]
    obtain ⟨fd, F⟩ := fds K13.d17 m17
    have B := K13.b17
    have ea : K13.txt.fa K 17 = He.ga K "law" := rfl
    have e0 : mg (K13.txt.tx.fn 17) = some (.ref (K13.txt.fa K 17)) ∧ _ := S.gfn 17 rfl
    have e1 : fa = K13.txt.fa K 17 := by
      have e2 : mg ("law" : PySem.Str) = some (.ref (K13.txt.fa K 17)) := e0.1
      rw [e2] at hmg
      exact (PySem.Value.ref.inj (Option.some.inj hmg)).symm
    subst e1
    obtain ⟨e, hb⟩ := B.pos rfl rfl
    obtain ⟨oc, od, dV, kV, doc, pm, an, cdv, ct, osl, efd, lk, hcd, hD, hrest⟩ := F.ex
    refine ⟨K, fd, FB.spOf (K13.txt.lk K K13.nms_ok) (FB.run K13.txt.pg (K0 + 1) 17), KX, ?_, ?_, ?_⟩
    · rcases hD with ⟨_, e2⟩ | ⟨e2, _⟩
      · subst e2
        intro s v
        rw [efd]
        exact .of_eq (hb kV doc pm an cdv ct [v] rfl)
      · exact absurd rfl e2
    · intro H a ns hl _ hS
      obtain ⟨ms, hp⟩ := plain ns hl
      exact FB.law_sp hS hp
    · intro base hB hG
      exact FB.law_ok S (lf := 17) (d := K13.f17) rfl rfl F (B.fd _)

theorem PySem.Challenge.cw_farblend_k13_edges_that_come_and_go_holds : PySem.Challenge.rw_farblend_k13_edges_that_come_and_go.Holds := by
  exact K13.head 4 ⟨rfl, by decide, by decide⟩ K13.plain
