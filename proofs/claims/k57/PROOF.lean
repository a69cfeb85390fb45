import PyProof.Rows.All
import Wide.All
import OpenK.AllK
import Wide.FinOn
import HandS.ForMost
import HandS.ForExc
import KE.DataCmp
import HandS.HeadHook4
import HandS.TupAny
import HandS.TupMul
import HandS.Style
import HandS.Conv
import HandS.IsInst
import KE.KDictCopyH
import KE.KDictPairs
import KE.GoesEnum
import PyProof.EnumMake
import KE.KeyNested
import KE.SortData
import KE.DataMinMax
import HandS.Deep
import HandS.More
import HandS.SortInts
import HandS.WordsDict
import HandS.RaiseMore
import HandS.Replace
import HandS.Text
import PyProof.Rows.SetFrom
import HandS.CallSlots
import HandS.TryMany
import HandS.ExcOwn
import HandS.Defaults
import HandS.Head0
import HandS.Head1
import HandS.Head2
import HandS.HeadEnd
import HandS.HeadHook1
import HandS.HeadHook2
import HandS.HeadHook3
import PySem.Challenge.RW_rolledclay_k57_whole_rollings_stay_unlik
set_option Elab.async false
set_option linter.all false
set_option maxRecDepth 100000
set_option maxHeartbeats 4000000
/-! Rc1: a small language of its own: values, objects, the answers of runs, its texts and its interpreter. -/
namespace Rc
open PySem

/-- a value: what never changes stands in it whole; loc: a place of the store -/
inductive Val where
  | non
  | bl (b : Bool)
  | int (i : Int)
  | str (s : Str)
  | tup (vs : List Val)
  | lst (vs : List Val)
  | dK (ks : List L2.Key) (vs : List Val)
  | dT (ks : List (List L2.Key)) (vs : List Val)
  | loc (l : Nat)
  | scr (ns : List Int)
  | dN (ks : List (List (List Int)))

/-- an object that may change -/
inductive Ob where
  | lst (vs : List Val)
  | dK (kvs : List (L2.Key × Val))
  | dT (kvs : List (List L2.Key × Val))
  | ins (c : Str) (fs : List (Str × Val))

abbrev Store := List Ob
abbrev Env := List (Option Val)

/-- how a run ends -/
inductive R (α : Type) where
  | ok (a : α) (st : Store)
  | exc (c : Str) (row : Option Int) (st : Store)
  | stuck

abbrev M (α : Type) := Store → R α

@[simp] def ret {α : Type} (a : α) : M α := fun st => .ok a st
@[simp] def stuck {α : Type} : M α := fun _ => .stuck
@[simp] def bnd {α β : Type} (m : M α) (f : α → M β) : M β := fun st =>
  match m st with
  | .ok a st' => f a st'
  | .exc c r st' => .exc c r st'
  | .stuck => .stuck
def ofOpt {α : Type} (o : Option α) : M α := match o with
  | some a => ret a
  | none => stuck

/-! ### reading -/
def lstOf (st : Store) : Val → Option (List Val)
  | .lst xs => some xs
  | .loc l => match st[l]? with
    | some (.lst xs) => some xs
    | _ => none
  | _ => none
def seqOf (st : Store) : Val → Option (List Val)
  | .tup xs => some xs
  | v => lstOf st v

def mapO {α β : Type} (f : α → Option β) : List α → Option (List β)
  | [] => some []
  | v :: vs => (f v).bind fun w => (mapO f vs).map (w :: ·)
/-! ### dicts -/
abbrev Key := L2.Key
def keyOf : Val → Option Key
  | .int i => some (.inl i)
  | .str s => some (.inr s)
  | _ => none
def keyVal : Key → Val
  | .inl i => .int i
  | .inr s => .str s
def keyT : Val → Option (List Key)
  | .tup vs => mapO keyOf vs
  | _ => none
section
variable {κ : Type} [DecidableEq κ]
def look (kvs : List (κ × Val)) (k : κ) : Option Val := (kvs.find? fun kv => decide (kv.1 = k)).map (·.2)
/-- in its place, or at the end -/
def put (kvs : List (κ × Val)) (k : κ) (v : Val) : List (κ × Val) :=
  if (kvs.any fun kv => decide (kv.1 = k)) = true then kvs.map (fun kv => if kv.1 = k then (kv.1, v) else kv) else kvs ++ [(k, v)]
def drp (kvs : List (κ × Val)) (k : κ) : List (κ × Val) := kvs.filter fun kv => decide (kv.1 ≠ k)
end
/-- what stands in an object at w: none where nothing stands, or where it can't be asked -/
def obIx (w : Val) : Option Ob → Option Val
  | some (.lst xs) => match w with
    | .int i => L2.atI xs i
    | _ => none
  | some (.dK kvs) => (keyOf w).bind (look kvs)
  | some (.dT kvs) => (keyT w).bind (look kvs)
  | _ => none

/-- a value as plain data -/
def toD (st : Store) : Nat → Val → Option PyData
  | 0, _ => none
  | n + 1, v => match v with
    | .non => some .none
    | .bl b => some (.bool b)
    | .int i => some (.int i)
    | .str s => if PyData.strOk s = true then some (.str s) else none
    | .tup xs => (mapO (toD st n) xs).map .tuple
    | .lst xs => (mapO (toD st n) xs).map .list
    | .loc l => match st[l]? with
      | some (.lst xs) => (mapO (toD st n) xs).map .list
      | _ => none
    | _ => none

def depthD : Nat := 10
/-- == -/
def veq (st : Store) : Val → Val → Option Bool
  | .int i, .int j => some (decide (i = j))
  | .bl a, .bl b => some (decide (a = b))
  | .str x, .str y => some (decide (x = y))
  | v, w => (toD st depthD v).bind fun d => (toD st depthD w).map fun e => PyData.eqv d e

/-! ### operators -/
/-- what an operation gives: a value, a new list, a new dict -/
inductive Pv where
  | v (v : Val)
  | l (xs : List Val)
  | d (kvs : List (Key × Val))
  | t (kvs : List (List Key × Val))
def mk (new : Bool) : Pv → M Val
  | .v v => ret v
  | .l xs => if new then fun st => .ok (.loc st.length) (st ++ [.lst xs]) else ret (.lst xs)
  | .d kvs => if new then fun st => .ok (.loc st.length) (st ++ [.dK kvs]) else ret (.dK (kvs.map (·.1)) (kvs.map (·.2)))
  | .t kvs => if new then fun st => .ok (.loc st.length) (st ++ [.dT kvs]) else ret (.dT (kvs.map (·.1)) (kvs.map (·.2)))
@[simp] def szOk (n : Nat) : Bool := decide (n ≤ sizeLine)
@[simp] def mulOk (i j : Int) : Bool := (decide (-(2 ^ 64) < i) && decide (i < 2 ^ 64)) || (decide (-(2 ^ 64) < j) && decide (j < 2 ^ 64))
def opAdd (st : Store) : Val → Val → Option Pv
  | .int i, .int j => some (.v (.int (i + j)))
  | .str x, .str y => if szOk (x.length + y.length) then some (.v (.str (x ++ y))) else none
  | .tup xs, .tup ys => if szOk (xs.length + ys.length) then some (.v (.tup (xs ++ ys))) else none
  | v, w => match lstOf st v, lstOf st w with
    | some xs, some ys => if szOk (xs.length + ys.length) then some (.l (xs ++ ys)) else none
    | _, _ => none
def opSub : Val → Val → Option Val
  | .int i, .int j => some (.int (i - j))
  | _, _ => none
def opMul : Val → Val → Option Val
  | .int i, .int j => if mulOk i j then some (.int (i * j)) else none
  | .tup xs, .int k => if decide (0 ≤ k) && decide (k ≤ 1000) && decide (xs.length ≤ 1000) then some (.tup (List.replicate k.toNat xs).flatten) else none
  | _, _ => none
def opMod : Val → Val → Option Val
  | .int i, .int j => if 0 < j then some (.int (i % j)) else none
  | _, _ => none
def opDiv : Val → Val → Option Val
  | .int i, .int j => if decide (0 < j) && decide (j < 1073741824) then some (.int (i / j)) else none
  | _, _ => none
def opPow : Val → Val → Option Val
  | .int i, .int j => if decide (0 ≤ j) && decide (j ≤ 1000000) && decide (i.natAbs < 2 ^ 64) then some (.int (i ^ j.toNat)) else none
  | _, _ => none
/-- a list so many times -/
def repL (xs : List Val) (k : Int) : Option Pv := if decide (0 ≤ k) && decide (k ≤ 1000) && decide (xs.length ≤ 1000) then some (.l (List.replicate k.toNat xs).flatten) else none
def opMulL (st : Store) : Val → Val → Option Pv
  | .lst xs, .int k => repL xs k
  | .loc l, .int k => (lstOf st (.loc l)).bind fun xs => repL xs k
  | v, w => (opMul v w).map .v
@[simp] def binOp (st : Store) : Operator → Val → Val → Option Pv
  | .Add, v, w => opAdd st v w
  | .Sub, v, w => (opSub v w).map .v
  | .Mult, v, w => opMulL st v w
  | .Mod, v, w => (opMod v w).map .v
  | .FloorDiv, v, w => (opDiv v w).map .v
  | .Pow, v, w => (opPow v w).map .v
  | _, _, _ => none
def flat : Val → Bool
  | .non => true
  | .bl _ => true
  | .int _ => true
  | .str _ => true
  | _ => false
/-- == of flat values -/
def eqF : Val → Val → Bool
  | .non, .non => true
  | .bl a, .bl b => a == b
  | .bl a, .int b => (if a then 1 else 0) == b
  | .int a, .bl b => a == (if b then 1 else 0)
  | .int a, .int b => a == b
  | .str a, .str b => a == b
  | _, _ => false
/-- is v among xs, all flat? -/
def inFlat (v : Val) (xs : List Val) : Option Bool := if flat v && xs.all flat then some (xs.any fun y => eqF y v) else none
/-- is v among xs: flat ones, or data -/
def inSeq (st : Store) (v : Val) (xs : List Val) : Option Bool :=
  if flat v && xs.all flat then some (xs.any fun y => eqF y v)
  else if decide (xs.length ≤ 100000) then (toD st depthD v).bind fun d => (mapO (toD st depthD) xs).map fun ds => ds.any fun e => PyData.eqv e d else none
def inStr (t : Str) : Val → Option Bool
  | .str s => some (!(Builtin.Str.occurrences t s 0 t.length 1).isEmpty)
  | _ => none
/-- is v in the object? -/
def obIn (st : Store) (v : Val) : Option Ob → Option Bool
  | some (.lst xs) => inSeq st v xs
  | some (.dK kvs) => (keyOf v).map fun k => (look kvs k).isSome
  | some (.dT kvs) => (keyT v).map fun k => (look kvs k).isSome
  | _ => none
/-- a key that is a tuple of tuples of ints -/
def toInt1 : Val → Option Int
  | .int i => some i
  | _ => none
def keyN1 : Val → Option (List Int)
  | .tup us => mapO toInt1 us
  | _ => none
def keyN : Val → Option (List (List Int))
  | .tup vs => mapO keyN1 vs
  | _ => none
def pairN : Val → Option (List (List Int))
  | .tup [k, _] => keyN k
  | _ => none
/-- each key once -/
def ddN : List (List (List Int)) → List (List (List Int)) → List (List (List Int))
  | acc, [] => acc
  | acc, k :: ks => ddN (if k ∈ acc then acc else acc ++ [k]) ks
/-- a dict by a list of pairs, its keys such tuples -/
def dicN (st : Store) (v : Val) : Option Val := (lstOf st v).bind fun xs => (mapO pairN xs).map fun ks => .dN (ddN [] ks)
def dicNs (st : Store) : List Val → Option Val
  | [v] => dicN st v
  | _ => none
def opIn (st : Store) (v : Val) : Val → Option Bool
  | .str t => inStr t v
  | .tup xs => inFlat v xs
  | .lst xs => inSeq st v xs
  | .loc l => obIn st v st[l]?
  | .dK ks vs => (keyOf v).map fun k => (look (ks.zip vs) k).isSome
  | .dT ks vs => (keyT v).map fun k => (look (ks.zip vs) k).isSome
  | .dN ks => (keyN v).map fun k => decide (k ∈ ks)
  | _ => none
def isNon : Val → Bool
  | .non => true
  | _ => false
/-- no None -/
def notN : PyData → Bool
  | .none => false
  | _ => true
/-- < of data that are alike -/
def ltD (st : Store) (v w : Val) : Option Bool := (toD st depthD v).bind fun d => (toD st depthD w).bind fun e => if (PySem.W.alike d e && notN d) = true then some (PySem.W.dataLt d e) else none
def cmpLt (st : Store) : Val → Val → Option Bool
  | .int i, .int j => some (decide (i < j))
  | v, w => ltD st v w
def cmpLe (st : Store) : Val → Val → Option Bool
  | .int i, .int j => some (decide (i ≤ j))
  | v, w => (ltD st w v).map (!·)
def isOp (v : Val) : Val → Option Bool
  | .non => some (isNon v)
  | _ => none
@[simp] def cmpOp (st : Store) : CmpOp → Val → Val → Option Bool
  | .Eq, v, w => veq st v w
  | .NotEq, v, w => (veq st v w).map (!·)
  | .Lt, v, w => cmpLt st v w
  | .LtE, v, w => cmpLe st v w
  | .Gt, v, w => cmpLt st w v
  | .GtE, v, w => cmpLe st w v
  | .Is, v, w => isOp v w
  | .IsNot, v, w => (isOp v w).map (!·)
  | .In, v, w => opIn st v w
  | .NotIn, v, w => (opIn st v w).map (!·)

/-! ### subscripts -/
def ixOp (st : Store) : Val → Val → Option Val
  | .str z, .int i => if szOk z.length then (L2.atI z.cps.toList i).map fun c => .str ⟨#[c]⟩ else none
  | .tup xs, .int i => L2.atI xs i
  | .lst xs, .int i => L2.atI xs i
  | .loc l, w => obIx w st[l]?
  | .dK ks vs, w => (keyOf w).bind (look (ks.zip vs))
  | .dT ks vs, w => (keyT w).bind (look (ks.zip vs))
  | _, _ => none
def cut {α : Type} (xs : List α) (lo hi : Option Int) : List α := (xs.drop (HT.sIx xs.length 0 lo)).take (HT.sIx xs.length xs.length hi - HT.sIx xs.length 0 lo)
def slOp (st : Store) : Val → Option Int → Option Int → Option Pv
  | .tup xs, lo, hi => some (.v (.tup (cut xs lo hi)))
  | .scr ns, lo, hi => some (.l (cut (ns.map .int) lo hi))
  | v, lo, hi => (lstOf st v).map fun xs => .l (cut xs lo hi)
def revOp (st : Store) : Val → Option Pv
  | .tup xs => some (.v (.tup xs.reverse))
  | v => (lstOf st v).map fun xs => .l xs.reverse

/-! ### built-in functions -/
inductive Bi where
  | len | max | min | all | any | tuple | list | int | sorted | dict | str | minD | sortD
def toInt : Val → Option Int
  | .int i => some i
  | _ => none
def toBl : Val → Option Bool
  | .bl b => some b
  | _ => none
def mini : List Int → Option Int
  | [] => none
  | x :: xs => some (xs.foldl min x)
def maxi : List Int → Option Int
  | [] => none
  | x :: xs => some (xs.foldl max x)
/-- how many things an object has -/
def obLen : Option Ob → Option Nat
  | some (.lst xs) => some xs.length
  | some (.dK kvs) => some kvs.length
  | _ => none
def biLen (st : Store) : List Val → Option Val
  | [.str s] => if szOk s.length then some (.int s.length) else none
  | [.tup xs] => some (.int xs.length)
  | [.lst xs] => some (.int xs.length)
  | [.loc l] => (obLen st[l]?).map fun (n : Nat) => .int (n : Int)
  | _ => none
def biMax (st : Store) : List Val → Option Val
  | [.int i, .int j] => some (.int (if j > i then j else i))
  | [v] => ((seqOf st v).bind fun xs => (mapO toInt xs).bind maxi).map .int
  | _ => none
def biMin (st : Store) : List Val → Option Val
  | [.int i, .int j] => some (.int (if j < i then j else i))
  | [v] => ((seqOf st v).bind fun xs => (mapO toInt xs).bind mini).map .int
  | _ => none
def biAll (st : Store) : List Val → Option Val
  | [v] => ((lstOf st v).bind fun xs => mapO toBl xs).map fun bs => .bl (bs.all id)
  | _ => none
def biAny (st : Store) : List Val → Option Val
  | [v] => ((lstOf st v).bind fun xs => mapO toBl xs).map fun bs => .bl (bs.any id)
  | _ => none
def biInt : List Val → Option Val
  | [.int i] => some (.int i)
  | [.bl b] => some (.int (if b then 1 else 0))
  | _ => none
def biTuple (st : Store) : List Val → Option Val
  | [v] => (seqOf st v).map .tup
  | _ => none
/-- an object's things, as a list -/
def obList : Option Ob → Option (List Val)
  | some (.lst xs) => some xs
  | some (.dK kvs) => some (kvs.map fun kv => keyVal kv.1)
  | _ => none
def biList (st : Store) : List Val → Option Pv
  | [.tup xs] => some (.l xs)
  | [.lst xs] => some (.l xs)
  | [.loc l] => (obList st[l]?).map .l
  | _ => none
/-- ints by size -/
def insI (n : Int) : List Int → List Int
  | [] => [n]
  | m :: ms => if n ≤ m then n :: m :: ms else m :: insI n ms
def srt : List Int → List Int
  | [] => []
  | n :: ns => insI n (srt ns)
def keyInt : Key → Option Int
  | .inl i => some i
  | .inr _ => none
def obSort : Option Ob → Option (List Int)
  | some (.lst xs) => mapO toInt xs
  | some (.dK kvs) => if decide (kvs.length < 64) then mapO (fun kv => keyInt kv.1) kvs else none
  | _ => none
def biSorted (st : Store) : List Val → Option Pv
  | [.lst xs] => (mapO toInt xs).map fun ns => .l ((srt ns).map .int)
  | [.loc l] => (obSort st[l]?).map fun ns => .l ((srt ns).map .int)
  | _ => none
/-! #### data by their order -/
def alkB (ds : List PyData) : Bool := ds.all (fun x => ds.all fun y => PySem.W.alike x y) && ds.all notN
def minQ (x : Val × PyData) (t : List (Val × PyData)) : Val × PyData := t.foldl (fun a y => if PySem.W.dataLt y.2 a.2 then y else a) x
def minZ : List (Val × PyData) → Option Val
  | [] => none
  | x :: t => some (minQ x t).1
def minL (st : Store) (vs : List Val) : Option Val := (mapO (toD st depthD) vs).bind fun ds => if alkB ds = true then minZ (vs.zip ds) else none
def min2 (st : Store) (v w : Val) : Option Val := (toD st depthD v).bind fun d => (toD st depthD w).bind fun e => if alkB [d, e] = true then some (if PySem.W.dataLt e d then w else v) else none
def biMinD (st : Store) : List Val → Option Val
  | [.lst vs] => minL st vs
  | [v, w] => min2 st v w
  | _ => none
def tup1 : PyData → Bool
  | .tuple (_ :: _) => true
  | _ => false
def notT : PyData → Bool
  | .none => false
  | .tuple _ => false
  | _ => true
def srtB (ds : List PyData) : Bool := ds.all tup1 || ds.all notT
def srtZ (z : List (Val × PyData)) : List Val := (z.mergeSort fun a b => !PySem.W.dataLt b.2 a.2).map (·.1)
def srtV (st : Store) (vs : List Val) : Option Pv := (mapO (toD st depthD) vs).bind fun ds => if (alkB ds && srtB ds) = true then some (.l (srtZ (vs.zip ds))) else none
def obSrtV (st : Store) : Option Ob → Option Pv
  | some (.lst xs) => srtV st xs
  | _ => none
def biSortD (st : Store) : List Val → Option Pv
  | [.lst xs] => srtV st xs
  | [.loc l] => obSrtV st st[l]?
  | _ => none
/-- a place and a row -/
def padKB : List Key → Bool
  | [.inl i, .inl j] => decide (0 ≤ i) && decide (i < 6) && decide (0 ≤ j) && decide (j < 3)
  | _ => false
def obDict : Option Ob → Option Pv
  | some (.dK kvs) => some (.d kvs)
  | some (.dT kvs) => if (kvs.map (·.1)).all padKB = true then some (.t kvs) else none
  | _ => none
def pairT : Val → Option (List Key × Val)
  | .tup [k, v] => (keyT k).map fun k => (k, v)
  | _ => none
def mrg : List (List Key × Val) → List (List Key × Val) → List (List Key × Val)
  | acc, [] => acc
  | acc, kv :: kvs => mrg (put acc kv.1 kv.2) kvs
def biDict (st : Store) : List Val → Option Pv
  | [.loc l] => obDict st[l]?
  | [.dK ks vs] => some (.d (ks.zip vs))
  | [.dT ks vs] => if ks.all padKB = true then some (.t (ks.zip vs)) else none
  | [.lst vs] => (mapO pairT vs).map fun kvs => .t (mrg [] kvs)
  | _ => none
def biStr : List Val → Option Val
  | [.int i] => if decide (i.natAbs.log2 < 1920) then some (.str (toString i)) else none
  | [.str x] => some (.str x)
  | _ => none
@[simp] def biOp (st : Store) (b : Bi) (vs : List Val) : Option Pv := match b with
  | .len => (biLen st vs).map .v
  | .max => (biMax st vs).map .v
  | .min => (biMin st vs).map .v
  | .all => (biAll st vs).map .v
  | .any => (biAny st vs).map .v
  | .tuple => (biTuple st vs).map .v
  | .list => biList st vs
  | .int => (biInt vs).map .v
  | .sorted => biSorted st vs
  | .dict => biDict st vs
  | .str => (biStr vs).map .v
  | .minD => (biMinD st vs).map .v
  | .sortD => biSortD st vs

/-- kinds that isinstance is asked for -/
inductive Kd where
  | bool | int | str | tuple | list | dict
  deriving DecidableEq
def kindOf (st : Store) : Val → Option Kd
  | .bl _ => some .bool
  | .int _ => some .int
  | .str _ => some .str
  | .tup _ => some .tuple
  | .lst _ => some .list
  | .dK _ _ => some .dict
  | .dT _ _ => some .dict
  | .loc l => match st[l]? with
    | some (.lst _) => some .list
    | some (.dK _) => some .dict
    | some (.dT _) => some .dict
    | _ => none
  | _ => none
/-- is a value of a kind; None is of none of them -/
def isinOp (st : Store) : Val → Kd → Option Bool
  | .non, _ => some false
  | v, k => (kindOf st v).map fun q => decide (q = k) || (decide (q = .bool) && decide (k = .int))

/-! ### methods of built-in types -/
inductive Mt where
  | append | extend | pop | clear | insert | join | split | sindex | dget | dpop | lindex
  deriving DecidableEq
def mtLst (st : Store) (m : Mt) (vs xs : List Val) : Option (Val × List Val) := match m with
  | .append => match vs with
    | [y] => some (.non, xs ++ [y])
    | _ => none
  | .extend => match vs with
    | [w] => (lstOf st w).map fun zs => (.non, xs ++ zs)
    | _ => none
  | .pop => match vs with
    | [] => xs[xs.length - 1]?.map fun y => (y, xs.dropLast)
    | [.int i] => (seqIndex? i xs.length).bind fun k => if decide (-(2 ^ 63) ≤ i) && decide (i < 2 ^ 63) then xs[k]?.map fun y => (y, xs.eraseIdx k) else none
    | _ => none
  | .clear => match vs with
    | [] => some (.non, [])
    | _ => none
  | .insert => match vs with
    | [.int i, y] => if decide (0 ≤ i) && decide (i < 2 ^ 63) then some (.non, xs.take i.toNat ++ [y] ++ xs.drop i.toNat) else none
    | _ => none
  | _ => none
def obLst : Option Ob → Option (List Val)
  | some (.lst xs) => some xs
  | _ => none
/-- a list at the place l is changed -/
def wrLst (m : Mt) (l : Nat) (vs : List Val) : M Val := fun st => match obLst st[l]? with
  | some xs => match mtLst st m vs xs with
    | some (r, ys) => if szOk ys.length = true then .ok r (st.set l (.lst ys)) else .stuck
    | none => .stuck
  | none => .stuck
def toStr : Val → Option Str
  | .str x => some x
  | _ => none
def joinOp (st : Store) (a : Str) (w : Val) : Option Str := (seqOf st w).bind fun vs => (mapO toStr vs).bind fun ys => if (ys.map (·.length)).sum + ys.length * a.length ≤ 16777216 then some (Txt.join a ys) else none
def mtStr (new : Bool) (m : Mt) (a : Str) (vs : List Val) : M Val := match m with
  | .join => match vs with
    | [w] => fun st => bnd (ofOpt (joinOp st a w)) (fun x => ret (.str x)) st
    | _ => stuck
  | .split => match vs with
    | [.str b] => if !(b.length == 0) && decide (a.length + 2 ≤ sizeLine) then mk new (.l ((Txt.split a b).map .str)) else stuck
    | _ => stuck
  | .sindex => match vs with
    | [.str b] => match Builtin.Str.occurrences a b 0 a.length 1 with
      | i :: _ => ret (.int (i : Nat))
      | [] => stuck
    | _ => stuck
  | _ => stuck
/-- d.get(k, x) -/
def obGet (vs : List Val) : Option Ob → Option Val
  | some (.dK kvs) => match vs with
    | [k, x] => (keyOf k).map fun k => (look kvs k).getD x
    | _ => none
  | some (.dT kvs) => match vs with
    | [k, x] => (keyT k).map fun k => (look kvs k).getD x
    | _ => none
  | _ => none
def getDic (v : Val) (vs : List Val) : M Val := match v with
  | .loc l => fun st => ofOpt (obGet vs st[l]?) st
  | _ => stuck
/-- d.pop(k): the value, and what is left -/
def obPop (vs : List Val) : Option Ob → Option (Val × Ob)
  | some (.dK kvs) => match vs with
    | [k] => (keyOf k).bind fun k => (look kvs k).map fun v => (v, .dK (drp kvs k))
    | _ => none
  | _ => none
def popDic (v : Val) (vs : List Val) : M Val := match v with
  | .loc l => fun st => match obPop vs st[l]? with
    | some r => .ok r.1 (st.set l r.2)
    | none => .stuck
  | _ => stuck
/-- xs.index(y) -/
def idxOp (st : Store) (v y : Val) (xs : List Val) : Option Nat :=
  if flat y && xs.all flat then xs.findIdx? fun z => eqF z y
  else if decide (xs.length ≤ 100000) then (toD st depthD y).bind fun d => (mapO (toD st depthD) xs).bind fun ds => ds.findIdx? fun e => PyData.eqv e d else none
def idxLst (v : Val) (vs : List Val) : M Val := fun st => match lstOf st v with
  | some xs => match vs with
    | [y] => match idxOp st v y xs with
      | some i => .ok (.int (i : Nat)) st
      | none => .stuck
    | _ => .stuck
  | none => .stuck
def mtOp (new : Bool) (m : Mt) (v : Val) (vs : List Val) : M Val := match m with
  | .dget => getDic v vs
  | .dpop => popDic v vs
  | .lindex => idxLst v vs
  | _ => match v with
    | .loc l => wrLst m l vs
    | .str a => mtStr new m a vs
    | _ => stuck
def mtIsStr : Mt → Bool
  | .join => true
  | .split => true
  | .sindex => true
  | _ => false
def mtIsDic : Mt → Bool
  | .dget => true
  | .dpop => true
  | _ => false
def obIsDic : Option Ob → Bool
  | some (.dK _) => true
  | some (.dT _) => true
  | _ => false
def isDic (st : Store) : Val → Bool
  | .loc l => obIsDic st[l]?
  | _ => false
def isStrV : Val → Bool
  | .str _ => true
  | _ => false
/-- has the value the method's type? -/
def tyOk (m : Mt) (st : Store) (v : Val) : Bool := if mtIsStr m = true then isStrV v else if mtIsDic m = true then isDic st v else (lstOf st v).isSome

/-! ### what a call gave, cut back to the store ahead of it -/
/-- what lies behind the place base is taken into the value itself -/
def frz (st : Store) (base : Nat) : Nat → Val → Option Val
  | 0, _ => none
  | n + 1, v => match v with
    | .tup xs => (mapO (frz st base n) xs).map .tup
    | .lst xs => (mapO (frz st base n) xs).map .lst
    | .dK ks vs => (mapO (frz st base n) vs).map (.dK ks)
    | .dT ks vs => (mapO (frz st base n) vs).map (.dT ks)
    | .loc l => if l < base then some (.loc l) else match st[l]? with
      | some (.lst xs) => (mapO (frz st base n) xs).map .lst
      | some (.dK kvs) => (mapO (frz st base n) (kvs.map (·.2))).map (.dK (kvs.map (·.1)))
      | some (.dT kvs) => (mapO (frz st base n) (kvs.map (·.2))).map (.dT (kvs.map (·.1)))
      | _ => none
    | v => some v
mutual
def locLt (n : Nat) : Val → Bool
  | .tup vs => locLtL n vs
  | .lst vs => locLtL n vs
  | .dK _ vs => locLtL n vs
  | .dT _ vs => locLtL n vs
  | .loc l => decide (l < n)
  | _ => true
def locLtL (n : Nat) : List Val → Bool
  | [] => true
  | v :: vs => locLt n v && locLtL n vs
end
def obLt (n : Nat) : Ob → Bool
  | .lst vs => locLtL n vs
  | .dK kvs => locLtL n (kvs.map (·.2))
  | .dT kvs => locLtL n (kvs.map (·.2))
  | .ins _ fs => locLtL n (fs.map (·.2))
/-- may the store be cut back to st's length? -/
def CutOk (st st' : Store) : Prop := st.length ≤ st'.length ∧ (st'.take st.length = st ∨ (st'.take st.length).all (obLt st.length) = true)
open Classical in
noncomputable def cutM (m : M Val) : M Val := fun st => match m st with
  | .ok v st' => if CutOk st st' then match frz st' st.length depthD v with
      | some w => .ok w (st'.take st.length)
      | none => .stuck
    else .stuck
  | .exc c r st' => if CutOk st st' then .exc c r (st'.take st.length) else .stuck
  | .stuck => .stuck

/-- as frz, but for the place x, which must not be met -/
def frzX (st : Store) (base x : Nat) : Nat → Val → Option Val
  | 0, _ => none
  | n + 1, v => match v with
    | .tup xs => (mapO (frzX st base x n) xs).map .tup
    | .lst xs => (mapO (frzX st base x n) xs).map .lst
    | .dK ks vs => (mapO (frzX st base x n) vs).map (.dK ks)
    | .dT ks vs => (mapO (frzX st base x n) vs).map (.dT ks)
    | .loc l => if l = x then none else if l < base then some (.loc l) else match st[l]? with
      | some (.lst xs) => (mapO (frzX st base x n) xs).map .lst
      | some (.dK kvs) => (mapO (frzX st base x n) (kvs.map (·.2))).map (.dK (kvs.map (·.1)))
      | some (.dT kvs) => (mapO (frzX st base x n) (kvs.map (·.2))).map (.dT (kvs.map (·.1)))
      | _ => none
    | v => some v
/-- a list that was laid by a call: its place and what stands there -/
def newLst (base : Nat) (st : Store) : Val → Option (Nat × List Val)
  | .loc l => if l < base then none else match st[l]? with
    | some (.lst xs) => some (l, xs)
    | _ => none
  | _ => none
open Classical in
/-- cut back, but a new list that is told stays one that may be changed -/
noncomputable def keepM (m : M Val) : M Val := fun st => match m st with
  | .ok v st' => if CutOk st st' then match newLst st.length st' v with
      | some q => match mapO (frzX st' st.length q.1 depthD) q.2 with
        | some ys => .ok (.loc st.length) (st'.take st.length ++ [.lst ys])
        | none => .stuck
      | none => match frz st' st.length depthD v with
        | some w => .ok w (st'.take st.length)
        | none => .stuck
    else .stuck
  | .exc c r st' => if CutOk st st' then .exc c r (st'.take st.length) else .stuck
  | .stuck => .stuck

/-! ### the texts -/
/-- a constant of the module -/
inductive Gv where
  | int (i : Int)
  | str (s : Str)
  | tups (ss : List Str)
  deriving DecidableEq
def gvVal : Gv → Val
  | .int i => .int i
  | .str s => .str s
  | .tups ss => .tup (ss.map .str)
inductive Md where
  | raw | cut | keep
/-- what a displayed dict begins with -/
inductive Ini where
  | var (i : Nat)
  | int (i : Int)
  | lst
  | dk
  deriving DecidableEq
/-- a target of names -/
inductive Tg where
  | nm (i : Nat)
  | tup (is : List Nat)
mutual
inductive E where
  | var (i : Nat)
  | int (i : Int)
  | str (s : Str)
  | bl (b : Bool)
  | non
  | glob (x : Str) (g : Gv)
  | bin (new : Bool) (op : Operator) (a b : E)
  | neg (a : E)
  | not (a : E)
  | bop (op : BoolOp) (es : Es)
  | cmp (op : CmpOp) (a b : E)
  | chain (o1 o2 : CmpOp) (a b c : E)
  | ife (c a b : E)
  | tup (es : Es)
  | lst (new : Bool) (es : Es)
  | ix (a b : E)
  | sl (new : Bool) (a : E) (lo hi : Oe)
  | rev (new : Bool) (a : E)
  | call (f : Str) (m : Md) (es : Es)
  | bi (new : Bool) (b : Bi) (es : Es)
  | isin (a : E) (k : Kd)
  | mth (new : Bool) (m : Mt) (o : E) (es : Es)
  | lrange (new : Bool) (a b : E)
  | lrange1 (new : Bool) (a : E)
  | dnew (t : Bool)
  | ddisp (ks : List Key) (is : List Ini)
  | fld (o : E) (f : Str) (k : Nat)
  | meth (c : Str) (m : Str) (f : Str) (md : Md) (o : E) (es : Es)
  | lc (new : Bool) (own : List Nat) (tg : Tg) (it : It) (ifs : Es) (e : E)
  | gin (neg : Bool) (a : E) (x : Str) (ss : List Str)
  | gdin (neg : Bool) (a : E) (x : Str) (kvs : List (Str × Int))
  | gdix (x : Str) (kvs : List (Str × Int)) (a : E)
  | lenset (a : E)
  | ndict (es : Es)
inductive Es where
  | nil
  | cons (e : E) (es : Es)
inductive Oe where
  | none
  | some (e : E)
inductive It where
  | seq (e : E)
  | rng1 (a : E)
  | rng2 (a b : E)
  | enum (e : E)
end

/-- how many unlike ints: each once, in the order in which they are met -/
def ddS : List Int → List Int → List Int
  | acc, [] => acc
  | acc, n :: ns => ddS (if acc.any (· == n) = true then acc else acc ++ [n]) ns
/-- len(set(v)) -/
def lenSet (st : Store) (v : Val) : Option Val := (lstOf st v).bind fun xs => (mapO toInt xs).bind fun ns => if decide (ns.length < 4000) = true then some (.int ((ddS [] ns).length : Nat)) else none
noncomputable def inMd (m : Md) (F : M Val) : M Val := match m with
  | .raw => F
  | .cut => cutM F
  | .keep => keepM F
/-! ### running expressions -/
def wipe (env : Env) : List Nat → Env
  | [] => env
  | v :: vs => (wipe env vs).set v none
def setAll : List Nat → List Val → Env → Option Env
  | [], [], env => some env
  | i :: is, v :: vs, env => setAll is vs (env.set i (some v))
  | _, _, _ => none
def assignTg (tg : Tg) (v : Val) (env : Env) : Option Env := match tg with
  | .nm i => some (env.set i (some v))
  | .tup is => match v with
    | .tup vs => setAll is vs env
    | _ => none
@[simp] def getVar (env : Env) (i : Nat) : M Val := match env[i]? with
  | some (some v) => ret v
  | _ => stuck
/-- a field of an instance: its place and its name -/
def obFld (f : Str) (k : Nat) : Option Ob → Option Val
  | some (.ins _ fs) => match fs[k]? with
    | some p => if p.1 = f then some p.2 else none
    | none => none
  | _ => none
def fldOp (st : Store) (f : Str) (k : Nat) : Val → Option Val
  | .loc l => obFld f k st[l]?
  | _ => none
/-- is it an instance of the class? -/
def obIns (c : Str) : Option Ob → Bool
  | some (.ins d _) => decide (d = c)
  | _ => false
def isIns (st : Store) (c : Str) : Val → Bool
  | .loc l => obIns c st[l]?
  | _ => false
/-- a displayed dict's beginnings, one after another -/
def ini1 (env : Env) (st : Store) : Ini → Option (Val × Store)
  | .var j => match env[j]? with
    | some (some v) => some (v, st)
    | _ => none
  | .int j => some (.int j, st)
  | .lst => some (.loc st.length, st ++ [.lst []])
  | .dk => some (.loc st.length, st ++ [.dK []])
def iniS (env : Env) : List Ini → Store → Option (List Val × Store)
  | [], st => some ([], st)
  | i :: is, st => (ini1 env st i).bind fun q => (iniS env is q.2).map fun r => (q.1 :: r.1, r.2)
def dispV (ks : List Key) (vs : List Val) : M Val := if decide (ks.Nodup) && decide (ks.length = vs.length) && decide (ks.length ≤ 15) then mk true (.d (ks.zip vs)) else stuck
def dispM (ks : List Key) : Option (List Val × Store) → R Val
  | some (vs, st) => dispV ks vs st
  | none => .stuck
/-- the ints lo .. hi - 1 -/
def rangeV (lo hi : Int) : List Val := (List.range (hi - lo).toNat).map fun i => .int (lo + (i : Nat))
def rngRaw (a b : Int) : Bool := decide (-(2 ^ 62) ≤ a) && decide (a < 2 ^ 62) && decide (-(2 ^ 62) ≤ b) && decide (b < 2 ^ 62) && decide ((b - a).toNat ≤ sizeLine)
theorem rngEx : ∃ f : Int → Int → Bool, f = rngRaw := ⟨_, rfl⟩
/-- the same, shut -/
noncomputable def rngOk : Int → Int → Bool := Classical.choose rngEx
theorem rngOk_eq : rngOk = rngRaw := Classical.choose_spec rngEx
/-- what is walked: its items, and the place of the list that must stand still meanwhile -/
structure Items where
  xs : List Val
  at_ : Option Nat
def itemsOf (st : Store) : Val → Option Items
  | .tup xs => some ⟨xs, none⟩
  | .lst xs => some ⟨xs, none⟩
  | .loc l => match st[l]? with
    | some (.lst xs) => some ⟨xs, some l⟩
    | _ => none
  | _ => none
def enumFrom : Nat → List Val → List Val
  | _, [] => []
  | n, v :: vs => .tup [.int n, v] :: enumFrom (n + 1) vs
/-- does the list still hold the same items? -/
@[simp] def Still (it : Items) (st : Store) : Prop := match it.at_ with
  | none => True
  | some l => st[l]? = some (.lst it.xs)
/-- the turns of a comprehension -/
noncomputable def lcLoop (turn : Val → M (Option Val)) (still : Store → Prop) : List Val → List Val → M (List Val)
  | [], acc => ret acc
  | x :: xs, acc => fun st => open Classical in if still st then
      match turn x st with
      | .ok (some y) st' => lcLoop turn still xs (acc ++ [y]) st'
      | .ok none st' => lcLoop turn still xs acc st'
      | .exc c r st' => .exc c r st'
      | .stuck => .stuck
    else .stuck
/-- within a comprehension nothing may be raised -/
@[simp] def noExc {α : Type} (m : M α) : M α := fun st => match m st with
  | .exc _ _ _ => .stuck
  | r => r
/-- the answer behind which and, or ask on -/
@[simp] def goOn : BoolOp → Bool
  | .And => true
  | .Or => false
def asBl : Val → M Bool
  | .bl b => ret b
  | _ => stuck
def asStr : Val → M Str
  | .str x => ret x
  | _ => stuck
def asInt : Val → M Int
  | .int i => ret i
  | _ => stuck
/-- a turn of the comprehension -/
noncomputable def lcTurn (tgt : Tg) (own : List Nat) (mT : Env → M Bool) (mE : Env → M Val) (env : Env) : Val → M (Option Val) := fun x => match assignTg tgt x (wipe env own) with
  | some env' => noExc (bnd (mT env') fun k => if k = true then bnd (mE env') fun y => ret (some y) else ret none)
  | none => stuck
noncomputable def lcRaw (new : Bool) (own : List Nat) (mI : Env → M Items) (tgt : Tg) (mT : Env → M Bool) (mE : Env → M Val) : Env → M Val := fun env =>
  bnd (mI env) fun is => bnd (lcLoop (lcTurn tgt own mT mE env) (Still is) is.xs []) fun ys => fun st => open Classical in if Still is st then mk new (.l ys) st else .stuck
theorem lcEx : ∃ f : Bool → List Nat → (Env → M Items) → Tg → (Env → M Bool) → (Env → M Val) → Env → M Val, f = lcRaw := ⟨_, rfl⟩
/-- the same, shut: nobody is to reckon it by the way -/
noncomputable def lcSem : Bool → List Nat → (Env → M Items) → Tg → (Env → M Bool) → (Env → M Val) → Env → M Val := Classical.choose lcEx
theorem lcSem_eq : lcSem = lcRaw := Classical.choose_spec lcEx
section
variable (C : Str → List Val → M Val)
mutual
noncomputable def evE : E → Env → M Val
  | .var i, env => getVar env i
  | .int i, _ => ret (.int i)
  | .str s, _ => ret (.str s)
  | .bl b, _ => ret (.bl b)
  | .non, _ => ret .non
  | .glob _ g, _ => ret (gvVal g)
  | .bin new op a b, env => bnd (evE a env) fun v => bnd (evE b env) fun w => fun st => bnd (ofOpt (binOp st op v w)) (mk new) st
  | .neg a, env => bnd (bnd (evE a env) asInt) fun i => ret (.int (-i))
  | .not a, env => bnd (bnd (evE a env) asBl) fun b => ret (.bl (!b))
  | .bop op es, env => evB op es env
  | .cmp op a b, env => bnd (evE a env) fun v => bnd (evE b env) fun w => fun st => bnd (ofOpt (cmpOp st op v w)) (fun b => ret (.bl b)) st
  | .chain o1 o2 a b c, env => bnd (evE a env) fun v => bnd (evE b env) fun w => fun st => bnd (ofOpt (cmpOp st o1 v w)) (fun k =>
      if k = true then bnd (evE c env) fun u => fun st => bnd (ofOpt (cmpOp st o2 w u)) (fun b => ret (.bl b)) st else ret (.bl false)) st
  | .ife c a b, env => bnd (bnd (evE c env) asBl) fun k => if k = true then evE a env else evE b env
  | .tup es, env => bnd (evEs es env) fun vs => if szOk vs.length = true then ret (.tup vs) else stuck
  | .lst new es, env => bnd (evEs es env) fun vs => if szOk vs.length = true then mk new (.l vs) else stuck
  | .ix a b, env => bnd (evE a env) fun v => bnd (evE b env) fun w => fun st => bnd (ofOpt (ixOp st v w)) ret st
  | .sl new a lo hi, env => bnd (evE a env) fun v => bnd (evO lo env) fun l => bnd (evO hi env) fun h => fun st => bnd (ofOpt (slOp st v l h)) (mk new) st
  | .rev new a, env => bnd (evE a env) fun v => fun st => bnd (ofOpt (revOp st v)) (mk new) st
  | .call f m es, env => bnd (evEs es env) fun vs => inMd m (C f vs)
  | .bi new b es, env => bnd (evEs es env) fun vs => fun st => bnd (ofOpt (biOp st b vs)) (mk new) st
  | .isin a k, env => bnd (evE a env) fun v => fun st => bnd (ofOpt (isinOp st v k)) (fun b => ret (.bl b)) st
  | .mth new m o es, env => bnd (evE o env) fun v => fun st => if tyOk m st v = true then bnd (evEs es env) (fun vs => mtOp new m v vs) st else .stuck
  | .lrange new a b, env => bnd (bnd (evE a env) asInt) fun i => bnd (bnd (evE b env) asInt) fun j => if rngOk i j = true then mk new (.l (rangeV i j)) else stuck
  | .lrange1 new a, env => bnd (bnd (evE a env) asInt) fun j => if rngOk 0 j = true then mk new (.l (rangeV 0 j)) else stuck
  | .dnew t, _ => if t = true then mk true (.t []) else mk true (.d [])
  | .ddisp ks is, env => fun st => dispM ks (iniS env is st)
  | .fld o f k, env => bnd (evE o env) fun v => fun st => ofOpt (fldOp st f k v) st
  | .meth c _ f md o es, env => bnd (evE o env) fun v => fun st => if isIns st c v = true then bnd (evEs es env) (fun vs => inMd md (C f (v :: vs))) st else .stuck
  | .lc new own tg it ifs e, env => lcSem new own (evI it) tg (evT ifs) (evE e) env
  | .gin neg a _ ss, env => bnd (bnd (evE a env) asStr) fun x => ret (.bl (neg != ss.contains x))
  | .gdin neg a _ kvs, env => bnd (bnd (evE a env) asStr) fun x => ret (.bl (neg != (kvs.lookup x).isSome))
  | .gdix _ kvs a, env => bnd (bnd (evE a env) asStr) fun x => bnd (ofOpt (kvs.lookup x)) fun i => ret (.int i)
  | .lenset a, env => bnd (evE a env) fun v => fun st => bnd (ofOpt (lenSet st v)) ret st
  | .ndict es, env => bnd (evEs es env) fun vs => fun st => bnd (ofOpt (dicNs st vs)) ret st
noncomputable def evEs : Es → Env → M (List Val)
  | .nil, _ => ret []
  | .cons e es, env => bnd (evE e env) fun v => bnd (evEs es env) fun vs => ret (v :: vs)
noncomputable def evO : Oe → Env → M (Option Int)
  | .none, _ => ret none
  | .some e, env => bnd (bnd (evE e env) asInt) fun i => ret (some i)
/-- and, or -/
noncomputable def evB : BoolOp → Es → Env → M Val
  | _, .nil, _ => stuck
  | _, .cons e .nil, env => evE e env
  | op, .cons e (.cons e2 es), env => bnd (bnd (evE e env) asBl) fun k => if k = goOn op then evB op (.cons e2 es) env else ret (.bl k)
/-- a clause's tests: none or one -/
noncomputable def evT : Es → Env → M Bool
  | .nil, _ => ret true
  | .cons e .nil, env => bnd (evE e env) asBl
  | .cons _ (.cons _ _), _ => stuck
noncomputable def evI : It → Env → M Items
  | .seq e, env => bnd (evE e env) fun v => fun st => ofOpt (itemsOf st v) st
  | .rng1 a, env => bnd (bnd (evE a env) asInt) fun j => if rngOk 0 j = true then ret ⟨rangeV 0 j, none⟩ else stuck
  | .rng2 a b, env => bnd (bnd (evE a env) asInt) fun i => bnd (bnd (evE b env) asInt) fun j => if rngOk i j = true then ret ⟨rangeV i j, none⟩ else stuck
  | .enum e, env => bnd (evE e env) fun v => fun st => match itemsOf st v with
    | some is => match is.at_ with
      | none => .ok ⟨enumFrom 0 is.xs, none⟩ st
      | some _ => .stuck
    | none => .stuck
end
end

end Rc
/-! Rc2: how values and stores of the small language stand in the model's heap; what is carried over; the judgements. -/
namespace Rc
open PySem L2

/-! ### standing -/
/-- the addresses of the store's places; those that are reserved (a comprehension's list while it grows) -/
structure Pl where
  ps : List Addr
  rs : List Addr
instance : Membership Addr Pl := ⟨fun ρ a => a ∈ ρ.ps ∨ a ∈ ρ.rs⟩
theorem Pl.mem_iff {ρ : Pl} {a : Addr} : a ∈ ρ ↔ a ∈ ρ.ps ∨ a ∈ ρ.rs := Iff.rfl
def TupAt (K : PySem.W.Frag) (ρ : Pl) (H : Hp) (a : Addr) (ws : List V) : Prop := H a = some (.tup ws) ∧ a ∉ ρ
def KLst (K : PySem.W.Frag) (a : Addr) (xs : List V) : Prop :=
  ∃ (o : Obj) (its : Array Value) (n : Nat), K.lookup a = some o ∧ o.cls = .type "list" ∧ o.dict = none ∧ o.data = .seq its n ∧ its.size ≤ sizeLine ∧ Vals xs its.toList
/-- the script: it stands for good -/
def ScrAt (K : PySem.W.Frag) (ρ : Pl) (H : Hp) (a : Addr) (ns : List Int) : Prop := (Rd H a (.lst (ns.map V.int)) ∧ a ∉ ρ) ∨ KLst K a (ns.map V.int)
theorem ScrAt.sq {K : PySem.W.Frag} {ρ : Pl} {H : Hp} {a : Addr} {ns : List Int} (h : ScrAt K ρ H a ns) : SqL K H a (ns.map V.int) := by
  rcases h with ⟨h, _⟩ | h
  · exact .inl h
  · exact .inr h
theorem TupAt.sq {K : PySem.W.Frag} {ρ : Pl} {H : Hp} {a : Addr} {ws : List V} (h : TupAt K ρ H a ws) : SqT K H a ws := .of h.1
/-! ### dicts whose keys are tuples of tuples of ints -/
abbrev NK := List (List Int)
def hN (k : NK) : Int := reduceHash (Builtin.Tuple.tupleHashOf (k.map fun c => reduceHash (Builtin.Tuple.tupleHashOf (c.map hashInt))))
def entN (x : NK × Addr × Value) : DictEntry := ⟨hN x.1, .ref x.2.1, x.2.2⟩
def DicN (a : Addr) (xs : List (NK × Addr × Value)) : Heap → Prop := fun h => ∃ o es ep, h.get? a = some o ∧ o.ExactDict ∧ o.data = .dict es ep ∧ es.toList = xs.map entN
/-- the tuple of tuples at b -/
def NKAt (K : PySem.W.Frag) (ρ : Pl) (H : Hp) (k : NK) (b : Addr) : Prop := ∃ cs : List Addr, TupAt K ρ H b (cs.map V.ref) ∧ Paired (fun c is => TupAt K ρ H c (is.map V.int)) cs k
structure DnAt (K : PySem.W.Frag) (ρ : Pl) (H : Hp) (a : Addr) (xs : List (NK × Addr × Value)) : Prop where
  at_ : H a = some (.ext (DicN a xs))
  no : a ∉ ρ
  sys : (a == sysModules) = false
  nd : (xs.map (·.1)).Nodup
  keys : ∀ x ∈ xs, NKAt K ρ H x.1 x.2.1
theorem paired_mono {α β : Type} {R S : α → β → Prop} (h : ∀ a b, R a b → S a b) : ∀ {as : List α} {bs : List β}, Paired R as bs → Paired S as bs
  | _, _, .nil => .nil
  | _, _, .cons r t => .cons (h _ _ r) (paired_mono h t)
theorem NKAt.mono {K : PySem.W.Frag} {ρ ρ' : Pl} {H H' : Hp} (e : ∀ a o, H a = some o → a ∉ ρ → H' a = some o ∧ a ∉ ρ') {k : NK} {b : Addr} (h : NKAt K ρ H k b) : NKAt K ρ' H' k b := by
  obtain ⟨cs, h1, h2⟩ := h
  exact ⟨cs, e _ _ h1.1 h1.2, paired_mono (fun c is h => e _ _ h.1 h.2) h2⟩
theorem DnAt.mono {K : PySem.W.Frag} {ρ ρ' : Pl} {H H' : Hp} (e : ∀ a o, H a = some o → a ∉ ρ → H' a = some o ∧ a ∉ ρ') {a : Addr} {xs : List (NK × Addr × Value)} (h : DnAt K ρ H a xs) : DnAt K ρ' H' a xs :=
  ⟨(e _ _ h.at_ h.no).1, (e _ _ h.at_ h.no).2, h.sys, h.nd, fun x hx => (h.keys x hx).mono e⟩
mutual
/-- a value of the small language stands as a value of the layer -/
inductive Rep (K : PySem.W.Frag) (ρ : Pl) (H : Hp) : Val → V → Prop
  | non : Rep K ρ H .non .non
  | bl (b : Bool) : Rep K ρ H (.bl b) (.bl b)
  | int (i : Int) : Rep K ρ H (.int i) (.int i)
  | str (x : Str) : Rep K ρ H (.str x) (.str x)
  | tup {a : Addr} {ws : List V} {vs : List Val} : TupAt K ρ H a ws → RepL K ρ H vs ws → Rep K ρ H (.tup vs) (.ref a)
  | lst {a : Addr} {ws : List V} {vs : List Val} : H a = some (.lst ws) → a ∉ ρ → RepL K ρ H vs ws → Rep K ρ H (.lst vs) (.ref a)
  | dK {a : Addr} {kws : List (Key × V)} {vs : List Val} : H a = some (.dK kws) → a ∉ ρ → RepL K ρ H vs (kws.map (·.2)) → Rep K ρ H (.dK (kws.map (·.1)) vs) (.ref a)
  | dT {a : Addr} {kws : List (List Key × V)} {vs : List Val} : H a = some (.dT kws) → a ∉ ρ → RepL K ρ H vs (kws.map (·.2)) → Rep K ρ H (.dT (kws.map (·.1)) vs) (.ref a)
  | loc {l : Nat} {a : Addr} : ρ.ps[l]? = some a → Rep K ρ H (.loc l) (.ref a)
  | scr {a : Addr} {ns : List Int} : ScrAt K ρ H a ns → Rep K ρ H (.scr ns) (.ref a)
  | dN {a : Addr} {xs : List (NK × Addr × Value)} : DnAt K ρ H a xs → Rep K ρ H (.dN (xs.map (·.1))) (.ref a)
inductive RepL (K : PySem.W.Frag) (ρ : Pl) (H : Hp) : List Val → List V → Prop
  | nil : RepL K ρ H [] []
  | cons {v : Val} {vs : List Val} {w : V} {ws : List V} : Rep K ρ H v w → RepL K ρ H vs ws → RepL K ρ H (v :: vs) (w :: ws)
end

/-- an instance's class and the names of its fields -/
structure InsOk (K : PySem.W.Frag) (c : Str) (gs : List (Str × V)) : Prop where
  cls : Cls K (He.ga K c)
  nd : (gs.map (·.1)).Nodup
  noat : ∀ p ∈ gs, NoAttr K (He.ga K c) p.1
/-- the object o of the small language stands as h, at the address a -/
inductive RelOb (K : PySem.W.Frag) (ρ : Pl) (H : Hp) (a : Addr) : Ob → HO → Prop
  | lst {vs : List Val} {ws : List V} : RepL K ρ H vs ws → RelOb K ρ H a (.lst vs) (.lst ws)
  | dK {kvs : List (Key × Val)} {kws : List (Key × V)} : kvs.map (·.1) = kws.map (·.1) → RepL K ρ H (kvs.map (·.2)) (kws.map (·.2)) → RelOb K ρ H a (.dK kvs) (.dK kws)
  | dT {kvs : List (List Key × Val)} {kws : List (List Key × V)} : kvs.map (·.1) = kws.map (·.1) → RepL K ρ H (kvs.map (·.2)) (kws.map (·.2)) → RelOb K ρ H a (.dT kvs) (.dT kws)
  | ins {c : Str} {dx : Addr} {fs : List (Str × Val)} {gs : List (Str × V)} : InsOk K c gs → H dx = some (.own a) → dx ∉ ρ → fs.map (·.1) = gs.map (·.1) → RepL K ρ H (fs.map (·.2)) (gs.map (·.2)) → RelOb K ρ H a (.ins c fs) (.ins (He.ga K c) dx gs)

structure RelS (K : PySem.W.Frag) (ρ : Pl) (st : Store) (H : Hp) : Prop where
  len : ρ.ps.length = st.length
  nd : ρ.ps.Nodup
  at_ : ∀ (l : Nat) (a : Addr) (o : Ob), ρ.ps[l]? = some a → st[l]? = some o → ∃ h, H a = some h ∧ RelOb K ρ H a o h
  rs : ∀ a ∈ ρ.rs, a ∉ ρ.ps ∧ ∃ o, H a = some o

/-- a later heap: all that stands for good stands as it did -/
structure Ext0 (ρ : Pl) (H : Hp) (ρ' : Pl) (H' : Hp) : Prop where
  keep : ∀ a o, H a = some o → a ∉ ρ → H' a = some o ∧ a ∉ ρ'
  pre : ρ.ps <+: ρ'.ps
/-- .. and what is reserved, too -/
structure Ext (ρ : Pl) (H : Hp) (ρ' : Pl) (H' : Hp) : Prop extends Ext0 ρ H ρ' H' where
  rs : ρ'.rs = ρ.rs
  rk : ∀ a ∈ ρ.rs, H' a = H a

theorem Ext0.refl (ρ : Pl) (H : Hp) : Ext0 ρ H ρ H := ⟨fun _ _ h n => ⟨h, n⟩, List.prefix_refl _⟩
theorem Ext0.trans {ρ ρ1 ρ2 : Pl} {H H1 H2 : Hp} (a : Ext0 ρ H ρ1 H1) (b : Ext0 ρ1 H1 ρ2 H2) : Ext0 ρ H ρ2 H2 :=
  ⟨fun x o h n => b.keep x o (a.keep x o h n).1 (a.keep x o h n).2, a.pre.trans b.pre⟩
theorem Ext.refl (ρ : Pl) (H : Hp) : Ext ρ H ρ H := ⟨.refl _ _, rfl, fun _ _ => rfl⟩
theorem Ext.trans {ρ ρ1 ρ2 : Pl} {H H1 H2 : Hp} (a : Ext ρ H ρ1 H1) (b : Ext ρ1 H1 ρ2 H2) : Ext ρ H ρ2 H2 :=
  ⟨a.toExt0.trans b.toExt0, b.rs.trans a.rs, fun x h => (b.rk x (a.rs ▸ h)).trans (a.rk x h)⟩
theorem Ext0.rd {ρ ρ' : Pl} {H H' : Hp} {a : Addr} {u : HO} (e : Ext0 ρ H ρ' H') (h : Rd H a u) (n : a ∉ ρ) : Rd H' a u ∧ a ∉ ρ' := by
  rcases h with h | ⟨o, h⟩
  · exact ⟨.inl (e.keep a _ h n).1, (e.keep a _ h n).2⟩
  · exact ⟨.inr ⟨o, (e.keep a _ h n).1⟩, (e.keep a _ h n).2⟩
theorem Ext0.tup {K : PySem.W.Frag} {ρ ρ' : Pl} {H H' : Hp} {a : Addr} {ws : List V} (e : Ext0 ρ H ρ' H') (h : TupAt K ρ H a ws) : TupAt K ρ' H' a ws := e.keep _ _ h.1 h.2
theorem Ext0.scr {K : PySem.W.Frag} {ρ ρ' : Pl} {H H' : Hp} {a : Addr} {ns : List Int} (e : Ext0 ρ H ρ' H') (h : ScrAt K ρ H a ns) : ScrAt K ρ' H' a ns := by
  rcases h with ⟨h, n⟩ | h
  · exact .inl (e.rd h n)
  · exact .inr h
theorem Ext0.at_ {ρ ρ' : Pl} {H H' : Hp} {l : Nat} {a : Addr} (e : Ext0 ρ H ρ' H') (h : ρ.ps[l]? = some a) : ρ'.ps[l]? = some a := by
  obtain ⟨t, et⟩ := e.pre
  rw [← et, List.getElem?_append_left (List.getElem?_eq_some_iff.mp h).1]
  exact h
mutual
theorem Rep.ext0 {K : PySem.W.Frag} {ρ ρ' : Pl} {H H' : Hp} (e : Ext0 ρ H ρ' H') : ∀ {v : Val} {w : V}, Rep K ρ H v w → Rep K ρ' H' v w
  | _, _, .non => .non
  | _, _, .bl b => .bl b
  | _, _, .int i => .int i
  | _, _, .str x => .str x
  | _, _, .tup h r => .tup (e.tup h) (RepL.ext0 e r)
  | _, _, .lst h n r => .lst (e.keep _ _ h n).1 (e.keep _ _ h n).2 (RepL.ext0 e r)
  | _, _, .dK h n r => .dK (e.keep _ _ h n).1 (e.keep _ _ h n).2 (RepL.ext0 e r)
  | _, _, .dT h n r => .dT (e.keep _ _ h n).1 (e.keep _ _ h n).2 (RepL.ext0 e r)
  | _, _, .loc h => .loc (e.at_ h)
  | _, _, .scr h => .scr (e.scr h)
  | _, _, .dN h => .dN (h.mono e.keep)
theorem RepL.ext0 {K : PySem.W.Frag} {ρ ρ' : Pl} {H H' : Hp} (e : Ext0 ρ H ρ' H') : ∀ {vs : List Val} {ws : List V}, RepL K ρ H vs ws → RepL K ρ' H' vs ws
  | _, _, .nil => .nil
  | _, _, .cons h r => .cons (Rep.ext0 e h) (RepL.ext0 e r)
end
theorem Rep.ext {K : PySem.W.Frag} {ρ ρ' : Pl} {H H' : Hp} {v : Val} {w : V} (h : Rep K ρ H v w) (e : Ext ρ H ρ' H') : Rep K ρ' H' v w := h.ext0 e.toExt0
theorem RepL.ext {K : PySem.W.Frag} {ρ ρ' : Pl} {H H' : Hp} {v : List Val} {w : List V} (h : RepL K ρ H v w) (e : Ext ρ H ρ' H') : RepL K ρ' H' v w := h.ext0 e.toExt0
theorem RepL.length {K : PySem.W.Frag} {ρ : Pl} {H : Hp} : ∀ {vs : List Val} {ws : List V}, RepL K ρ H vs ws → vs.length = ws.length
  | _, _, .nil => rfl
  | _, _, .cons _ r => by rw [List.length_cons, List.length_cons, r.length]
theorem RepL.append {K : PySem.W.Frag} {ρ : Pl} {H : Hp} : ∀ {vs vs' : List Val} {ws ws' : List V}, RepL K ρ H vs ws → RepL K ρ H vs' ws' → RepL K ρ H (vs ++ vs') (ws ++ ws')
  | _, _, _, _, .nil, s => s
  | _, _, _, _, .cons h r, s => .cons h (r.append s)
theorem RepL.take {K : PySem.W.Frag} {ρ : Pl} {H : Hp} : ∀ {vs : List Val} {ws : List V} (n : Nat), RepL K ρ H vs ws → RepL K ρ H (vs.take n) (ws.take n)
  | _, _, 0, _ => by simp only [List.take_zero]; exact .nil
  | _, _, _ + 1, .nil => .nil
  | _, _, n + 1, .cons h r => .cons h (r.take n)
theorem RepL.drop {K : PySem.W.Frag} {ρ : Pl} {H : Hp} : ∀ {vs : List Val} {ws : List V} (n : Nat), RepL K ρ H vs ws → RepL K ρ H (vs.drop n) (ws.drop n)
  | _, _, 0, r => r
  | _, _, _ + 1, .nil => .nil
  | _, _, n + 1, .cons _ r => r.drop n
theorem RepL.get {K : PySem.W.Frag} {ρ : Pl} {H : Hp} : ∀ {vs : List Val} {ws : List V} {i : Nat} {v : Val}, RepL K ρ H vs ws → vs[i]? = some v → ∃ w, ws[i]? = some w ∧ Rep K ρ H v w
  | _, _, _, _, .nil, e => by simp at e
  | _, _, 0, _, .cons h _, e => by simp at e; subst e; exact ⟨_, rfl, h⟩
  | _, _, i + 1, v, .cons _ r, e => by
    obtain ⟨u, h1, h2⟩ := RepL.get (i := i) (v := v) r (by simpa using e)
    exact ⟨u, by simpa using h1, h2⟩
theorem RepL.getB {K : PySem.W.Frag} {ρ : Pl} {H : Hp} : ∀ {vs : List Val} {ws : List V} {i : Nat} {w : V}, RepL K ρ H vs ws → ws[i]? = some w → ∃ v, vs[i]? = some v ∧ Rep K ρ H v w
  | _, _, _, _, .nil, e => by simp at e
  | _, _, 0, _, .cons h _, e => by simp at e; subst e; exact ⟨_, rfl, h⟩
  | _, _, i + 1, v, .cons _ r, e => by
    obtain ⟨u, h1, h2⟩ := RepL.getB (i := i) (w := v) r (by simpa using e)
    exact ⟨u, by simpa using h1, h2⟩
theorem RepL.set {K : PySem.W.Frag} {ρ : Pl} {H : Hp} {v : Val} {w : V} (h0 : Rep K ρ H v w) : ∀ {vs : List Val} {ws : List V} (i : Nat), RepL K ρ H vs ws → RepL K ρ H (vs.set i v) (ws.set i w)
  | _, _, _, .nil => .nil
  | _, _, 0, .cons _ r => .cons h0 r
  | _, _, i + 1, .cons h r => .cons h (r.set h0 i)
theorem RepL.reverse {K : PySem.W.Frag} {ρ : Pl} {H : Hp} : ∀ {vs : List Val} {ws : List V}, RepL K ρ H vs ws → RepL K ρ H vs.reverse ws.reverse
  | _, _, .nil => .nil
  | _, _, .cons h r => by
    rw [List.reverse_cons, List.reverse_cons]
    exact r.reverse.append (.cons h .nil)
theorem RepL.rep {K : PySem.W.Frag} {ρ : Pl} {H : Hp} {vs : List Val} {ws : List V} (r : RepL K ρ H vs ws) : ∀ n : Nat, RepL K ρ H (List.replicate n vs).flatten (List.replicate n ws).flatten
  | 0 => .nil
  | n + 1 => by
    rw [List.replicate_succ, List.replicate_succ, List.flatten_cons, List.flatten_cons]
    exact r.append (r.rep n)
theorem RelOb.ext0 {K : PySem.W.Frag} {ρ ρ' : Pl} {H H' : Hp} {a : Addr} (e : Ext0 ρ H ρ' H') : ∀ {o : Ob} {h : HO}, RelOb K ρ H a o h → RelOb K ρ' H' a o h
  | _, _, .lst r => .lst (r.ext0 e)
  | _, _, .dK k r => .dK k (r.ext0 e)
  | _, _, .dT k r => .dT k (r.ext0 e)
  | _, _, .ins i d n k r => .ins i (e.keep _ _ d n).1 (e.keep _ _ d n).2 k (r.ext0 e)
theorem RelOb.ext {K : PySem.W.Frag} {ρ ρ' : Pl} {H H' : Hp} {a : Addr} {o : Ob} {h : HO} (r : RelOb K ρ H a o h) (e : Ext ρ H ρ' H') : RelOb K ρ' H' a o h := r.ext0 e.toExt0
/-- every place of the store stands in the heap -/
theorem RelS.some_of {K : PySem.W.Frag} {ρ : Pl} {st : Store} {H : Hp} (r : RelS K ρ st H) {a : Addr} (h : a ∈ ρ) : ∃ o, H a = some o := by
  rcases h with h | h
  · obtain ⟨l, hl, e⟩ := List.getElem_of_mem h
    have hl' : l < st.length := r.len ▸ hl
    obtain ⟨h, e', _⟩ := r.at_ l a st[l] (by rw [List.getElem?_eq_getElem hl, e]) (List.getElem?_eq_getElem hl')
    exact ⟨h, e'⟩
  · exact (r.rs a h).2
theorem RelS.fresh {K : PySem.W.Frag} {ρ : Pl} {st : Store} {H : Hp} (r : RelS K ρ st H) {a : Addr} (h : H a = none) : a ∉ ρ := fun m => by
  obtain ⟨o, e⟩ := r.some_of m
  rw [h] at e; cases e
theorem RelS.ne {K : PySem.W.Frag} {ρ : Pl} {st : Store} {H : Hp} (r : RelS K ρ st H) {a b : Addr} (h : H a = none) (hb : b ∈ ρ) : b ≠ a := fun z => r.fresh h (z ▸ hb)
/-- a new object that stands for good -/
theorem Ext0.laid {ρ : Pl} {H : Hp} {p : Addr} {o : HO} (h : H p = none) : Ext0 ρ H ρ (upd H p o) :=
  ⟨fun a u e n => ⟨by rw [upd_ne (ne_of_none e h)]; exact e, n⟩, List.prefix_refl _⟩
theorem RelS.laid {K : PySem.W.Frag} {ρ : Pl} {st : Store} {H : Hp} {p : Addr} {o : HO} (r : RelS K ρ st H) (h : H p = none) : RelS K ρ st (upd H p o) ∧ Ext ρ H ρ (upd H p o) := by
  have k : ∀ a ∈ ρ, upd H p o a = H a := fun a m => upd_ne (r.ne h m)
  refine ⟨⟨r.len, r.nd, fun l a o e1 e2 => ?_, fun a ha => ⟨(r.rs a ha).1, by rw [k a (.inr ha)]; exact (r.rs a ha).2⟩⟩, .laid h, rfl, fun a ha => k a (.inr ha)⟩
  obtain ⟨u, e3, e4⟩ := r.at_ l a o e1 e2
  exact ⟨u, by rw [k a (.inl (List.mem_of_getElem? e1))]; exact e3, e4.ext0 (.laid h)⟩
/-- a new object that may change: it gets the next place -/
def Pl.push (ρ : Pl) (p : Addr) : Pl := ⟨ρ.ps ++ [p], ρ.rs⟩
theorem Pl.mem_push {ρ : Pl} {a p : Addr} : a ∈ ρ.push p ↔ a ∈ ρ ∨ a = p := by
  show (a ∈ ρ.ps ++ [p] ∨ a ∈ ρ.rs) ↔ (a ∈ ρ.ps ∨ a ∈ ρ.rs) ∨ a = p
  rw [List.mem_append, List.mem_singleton]
  constructor
  · rintro ((h | h) | h)
    · exact .inl (.inl h)
    · exact .inr h
    · exact .inl (.inr h)
  · rintro ((h | h) | h)
    · exact .inl (.inl h)
    · exact .inr h
    · exact .inl (.inr h)
theorem Ext0.newLoc {ρ : Pl} {H : Hp} {p : Addr} {o : HO} (h : H p = none) : Ext0 ρ H (ρ.push p) (upd H p o) :=
  ⟨fun a u e n => ⟨by rw [upd_ne (ne_of_none e h)]; exact e, fun m => by
    rcases Pl.mem_push.mp m with m | m
    · exact n m
    · exact ne_of_none e h m⟩, List.prefix_append _ _⟩
theorem RelS.newLoc {K : PySem.W.Frag} {ρ : Pl} {st : Store} {H : Hp} {p : Addr} {o : Ob} {u : HO} (r : RelS K ρ st H) (h : H p = none) (ro : RelOb K (ρ.push p) (upd H p u) p o u) :
    RelS K (ρ.push p) (st ++ [o]) (upd H p u) ∧ Ext ρ H (ρ.push p) (upd H p u) := by
  have np := r.fresh h
  refine ⟨⟨by simp [Pl.push, r.len], ?_, fun l a q e1 e2 => ?_, fun a ha => ⟨fun m => ?_, ?_⟩⟩, .newLoc h, rfl, fun a ha => upd_ne (r.ne h (.inr ha))⟩
  · show (ρ.ps ++ [p]).Nodup
    rw [List.nodup_append]
    exact ⟨r.nd, by simp, fun a ha b hb => by rw [List.mem_singleton.mp hb]; exact fun z => np (.inl (z ▸ ha))⟩
  · have e1 : (ρ.ps ++ [p])[l]? = some a := e1
    by_cases hl : l < ρ.ps.length
    · rw [List.getElem?_append_left hl] at e1
      rw [List.getElem?_append_left (r.len ▸ hl)] at e2
      obtain ⟨x, e3, e4⟩ := r.at_ l a q e1 e2
      exact ⟨x, by rw [upd_ne (ne_of_none e3 h)]; exact e3, e4.ext0 (.newLoc h)⟩
    · rw [List.getElem?_append_right (Nat.le_of_not_lt hl)] at e1
      rw [List.getElem?_append_right (Nat.le_of_not_lt (r.len ▸ hl))] at e2
      have z : l - ρ.ps.length = 0 := by
        have := (List.getElem?_eq_some_iff.mp e1).1
        simp at this; omega
      rw [z] at e1
      rw [← r.len, z] at e2
      simp at e1 e2
      subst e1; subst e2
      exact ⟨u, upd_same, ro⟩
  · rcases List.mem_append.mp m with m | m
    · exact (r.rs a ha).1 m
    · exact r.ne h (.inr ha) (List.mem_singleton.mp m)
  · rw [upd_ne (r.ne h (.inr ha))]
    exact (r.rs a ha).2
/-- the object at a place is written -/
theorem Ext0.wrote {ρ : Pl} {H : Hp} {a : Addr} {o : HO} (h : a ∈ ρ) : Ext0 ρ H ρ (upd H a o) :=
  ⟨fun b u e n => ⟨by rw [upd_ne (fun (z : b = a) => n (z ▸ h))]; exact e, n⟩, List.prefix_refl _⟩
theorem RelS.wrote {K : PySem.W.Frag} {ρ : Pl} {st : Store} {H : Hp} {l : Nat} {a : Addr} {o : Ob} {u : HO} (r : RelS K ρ st H) (h : ρ.ps[l]? = some a) (ro : RelOb K ρ (upd H a u) a o u) :
    RelS K ρ (st.set l o) (upd H a u) ∧ Ext ρ H ρ (upd H a u) := by
  have hm : a ∈ ρ := .inl (List.mem_of_getElem? h)
  have nr : ∀ b ∈ ρ.rs, b ≠ a := fun b hb z => (r.rs b hb).1 (z ▸ List.mem_of_getElem? h)
  refine ⟨⟨by simp [r.len], r.nd, fun k b q e1 e2 => ?_, fun b hb => ⟨(r.rs b hb).1, by rw [upd_ne (nr b hb)]; exact (r.rs b hb).2⟩⟩, .wrote hm, rfl, fun b hb => upd_ne (nr b hb)⟩
  by_cases hk : k = l
  · subst hk
    rw [h] at e1; cases e1
    have hl : k < st.length := r.len ▸ (List.getElem?_eq_some_iff.mp h).1
    rw [List.getElem?_set_self hl] at e2; cases e2
    exact ⟨u, upd_same, ro⟩
  · rw [List.getElem?_set_ne (Ne.symm hk)] at e2
    obtain ⟨x, e3, e4⟩ := r.at_ k b q e1 e2
    have ne : b ≠ a := fun z => by
      subst z
      obtain ⟨h1, h2⟩ := List.getElem?_eq_some_iff.mp e1
      obtain ⟨h3, h4⟩ := List.getElem?_eq_some_iff.mp h
      exact hk ((List.getElem_inj r.nd).mp (h2.trans h4.symm))
    exact ⟨x, by rw [upd_ne ne]; exact e3, e4.ext0 (.wrote hm)⟩

/-! ### reading lists and tuples -/
section
variable {K : PySem.W.Frag} {ρ : Pl} {st : Store} {H : Hp} {v : Val} {w : V} {xs : List Val}
theorem Rep.lstOf (r : RelS K ρ st H) (h : Rep K ρ H v w) (e : Rc.lstOf st v = some xs) : ∃ a ws, w = .ref a ∧ H a = some (.lst ws) ∧ RepL K ρ H xs ws := by
  cases h with
  | lst h n q => cases e; exact ⟨_, _, rfl, h, q⟩
  | @loc l a h =>
    have e : (match st[l]? with
      | some (.lst xs) => some xs
      | _ => none) = some xs := e
    cases q : st[l]? with
    | none => rw [q] at e; cases e
    | some o =>
      rw [q] at e
      cases o with
      | lst ys =>
        cases e
        obtain ⟨u, e1, e2⟩ := r.at_ l a _ h q
        cases e2 with
        | lst q => exact ⟨_, _, rfl, e1, q⟩
      | _ => cases e
  | _ => cases e
theorem Rep.seqOf (r : RelS K ρ st H) (h : Rep K ρ H v w) (e : Rc.seqOf st v = some xs) : ∃ a ws, w = .ref a ∧ (SqL K H a ws ∨ SqT K H a ws) ∧ RepL K ρ H xs ws := by
  by_cases hv : ∃ ys, v = .tup ys
  · obtain ⟨ys, rfl⟩ := hv
    cases h with
    | tup h q => cases e; exact ⟨_, _, rfl, .inr h.sq, q⟩
  · have e' : Rc.lstOf st v = some xs := by
      cases v <;> first | exact e | exact absurd ⟨_, rfl⟩ hv
    obtain ⟨a, ws, h1, h2, h3⟩ := Rep.lstOf r h e'
    exact ⟨a, ws, h1, .inl (.of h2), h3⟩
end

/-! ### judgements -/
/-- an exception's own dict: with a row, or none -/
def ExcAt (H : Hp) (row : Option Int) (d : Option Addr) : Prop := match row with
  | none => d = none
  | some r => ∃ a, d = some a ∧ H a = some (.xd [("row", .int r)])
/-- what a run's end is to give: Q of what stands for the value; W of what is raised -/
def Post (K : PySem.W.Frag) {α β : Type} (rel : Pl → Hp → α → β → Prop) (W : WX) (σ : L2.St) (ρ : Pl) (H : Hp) (Q : β → Hp → Prop) : R α → Prop
  | .ok v st' => ∀ ρ' w H', Ext ρ H ρ' H' → RelS K ρ' st' H' → rel ρ' H' v w → Q w H'
  | .exc c row st' => ∀ ρ' d H', Ext ρ H ρ' H' → RelS K ρ' st' H' → ExcAt H' row d → W (.ref (He.ga K c)) d σ H'
  | .stuck => False
/-- the slots -/
def RelE (K : PySem.W.Frag) (ρ : Pl) (H : Hp) (env : Env) (σ : L2.St) : Prop := ∀ (i : Nat) (v : Val), env[i]? = some (some v) → ∃ w, σ[i]? = some (some w) ∧ Rep K ρ H v w
theorem RelE.ext {K : PySem.W.Frag} {ρ ρ' : Pl} {H H' : Hp} {env : Env} {σ : L2.St} (r : RelE K ρ H env σ) (e : Ext ρ H ρ' H') : RelE K ρ' H' env σ := fun i v h => by
  obtain ⟨w, h1, h2⟩ := r i v h
  exact ⟨w, h1, h2.ext e⟩
theorem RelE.ext' {K : PySem.W.Frag} {ρ ρ' : Pl} {H H' : Hp} {env : Env} {σ : L2.St} (r : RelE K ρ H env σ) (e : Ext0 ρ H ρ' H') : RelE K ρ' H' env σ := fun i v h => by
  obtain ⟨w, h1, h2⟩ := r i v h
  exact ⟨w, h1, h2.ext0 e⟩
theorem RelE.set {K : PySem.W.Frag} {ρ : Pl} {H : Hp} {env : Env} {σ : L2.St} {v : Val} {w : V} (r : RelE K ρ H env σ) (i : Nat) (hi : i < σ.length) (h : Rep K ρ H v w) : RelE K ρ H (env.set i (some v)) (σ.set i (some w)) := fun j u e => by
  by_cases hj : j = i
  · subst hj
    by_cases hl : j < env.length
    · rw [List.getElem?_set_self hl] at e
      cases e
      exact ⟨w, by rw [List.getElem?_set_self hi], h⟩
    · rw [List.set_eq_of_length_le (Nat.le_of_not_lt hl)] at e
      have := (List.getElem?_eq_some_iff.mp e).1
      exact absurd this hl
  · rw [List.getElem?_set_ne (Ne.symm hj)] at e
    obtain ⟨x, h1, h2⟩ := r j u e
    exact ⟨x, by rw [List.getElem?_set_ne (Ne.symm hj)]; exact h1, h2⟩
theorem RelE.unset {K : PySem.W.Frag} {ρ : Pl} {H : Hp} {env : Env} {σ : L2.St} (r : RelE K ρ H env σ) (i : Nat) : RelE K ρ H (env.set i none) (σ.set i none) := fun j u e => by
  by_cases hj : j = i
  · subst hj
    by_cases hl : j < env.length
    · rw [List.getElem?_set_self hl] at e; cases e
    · rw [List.set_eq_of_length_le (Nat.le_of_not_lt hl)] at e
      have := (List.getElem?_eq_some_iff.mp e).1
      exact absurd this hl
  · rw [List.getElem?_set_ne (Ne.symm hj)] at e
    obtain ⟨x, h1, h2⟩ := r j u e
    exact ⟨x, by rw [List.getElem?_set_ne (Ne.symm hj)]; exact h1, h2⟩
theorem RelE.wipe {K : PySem.W.Frag} {ρ : Pl} {H : Hp} {env : Env} {σ : L2.St} (r : RelE K ρ H env σ) : ∀ vs : List Nat, RelE K ρ H (Rc.wipe env vs) (L2.wipe σ vs)
  | [] => r
  | v :: vs => (r.wipe vs).unset v

section
variable {K : PySem.W.Frag} {α β γ δ : Type} {rel : Pl → Hp → α → β → Prop} {rel2 : Pl → Hp → γ → δ → Prop} {W : WX} {σ : L2.St} {ρ ρ1 : Pl} {H H1 : Hp} {Q : β → Hp → Prop} {Q2 : δ → Hp → Prop}
theorem Post.later {r : R α} (h : Post K rel W σ ρ H Q r) (e : Ext ρ H ρ1 H1) : Post K rel W σ ρ1 H1 Q r := by
  cases r with
  | ok v st => exact fun ρ' w H' e' s q => h ρ' w H' (e.trans e') s q
  | exc c row st => exact fun ρ' d H' e' s q => h ρ' d H' (e.trans e') s q
  | stuck => exact h
theorem Post.bnd {m : M α} {f : α → M γ} {st : Store} (h : Post K rel2 W σ ρ H Q2 (Rc.bnd m f st))
    (k : ∀ a st1 ρ1 b H1, Ext ρ H ρ1 H1 → RelS K ρ1 st1 H1 → rel ρ1 H1 a b → Post K rel2 W σ ρ1 H1 Q2 (f a st1) → Q b H1) : Post K rel W σ ρ H Q (m st) := by
  unfold Rc.bnd at h
  cases e : m st with
  | ok a st1 =>
    rw [e] at h
    exact fun ρ' w H' x s q => k a st1 ρ' w H' x s q (Post.later h x)
  | exc c row st1 =>
    rw [e] at h
    exact h
  | stuck =>
    rw [e] at h
    exact h
/-- the value is there -/
theorem Post.ret {a : α} {b : β} {st : Store} (h : Post K rel W σ ρ H Q (Rc.ret a st)) (s : RelS K ρ st H) (q : rel ρ H a b) : Q b H := h ρ b H (.refl _ _) s q
theorem Post.opt {o : Option α} {f : α → M γ} {st : Store} (h : Post K rel2 W σ ρ H Q2 (Rc.bnd (ofOpt o) f st)) : ∃ a, o = some a ∧ Post K rel2 W σ ρ H Q2 (f a st) := by
  cases o with
  | none => exact h.elim
  | some a => exact ⟨a, rfl, h⟩
end

def tG (K : PySem.W.Frag) {α β : Type} (rel : Pl → Hp → α → β → Prop) (W : WX) (m : Env → M α) : L2.St → Hp → (β → Hp → Prop) → Prop := fun σ H Q =>
  ∃ ρ env st, RelE K ρ H env σ ∧ RelS K ρ st H ∧ Post K rel W σ ρ H Q (m env st)
def relB : Pl → Hp → Bool → Bool → Prop := fun _ _ a b => a = b
def relI : Pl → Hp → Int → Int → Prop := fun _ _ a b => a = b
def relO : Pl → Hp → Option Int → Option Int → Prop := fun _ _ a b => a = b
abbrev tE (K : PySem.W.Frag) (W : WX) (m : Env → M Val) : TE := tG K (Rep K) W m
abbrev tA (K : PySem.W.Frag) (W : WX) (m : Env → M (List Val)) : TA := tG K (RepL K) W m
/-- a test -/
abbrev tT (K : PySem.W.Frag) (W : WX) (m : Env → M Val) : TT := tG K relB W fun env => bnd (m env) asBl

theorem PE.imp {X : Cx} {e : Expr} {t t' : TE} (h : PE X e t) (k : ∀ σ H Q, t' σ H Q → t σ H Q) : PE X e t' := ⟨fun pins s σ H Q I q => h.run pins s σ H Q I (k σ H Q q)⟩
theorem PT.imp {X : Cx} {e : Expr} {t t' : TT} (h : PT X e t) (k : ∀ σ H Q, t' σ H Q → t σ H Q) : PT X e t' := ⟨fun pins s σ H Q I q => h.run pins s σ H Q I (k σ H Q q)⟩
theorem PW.imp {X : Cx} {e : Expr} {t t' : TT} (h : PW X e t) (k : ∀ σ H Q, t' σ H Q → t σ H Q) : PW X e t' := ⟨fun whole pins s σ H Q I q => h.run whole pins s σ H Q I (k σ H Q q)⟩
theorem PA.imp {X : Cx} {e : List Expr} {t t' : TA} (h : PA X e t) (k : ∀ σ H Q, t' σ H Q → t σ H Q) : PA X e t' := ⟨fun pos pins s σ H Q I q => h.run pos pins s σ H Q I (k σ H Q q)⟩
theorem PS.imp {X : Cx} {e : Stmt} {t t' : TS} (h : PS X e t) (k : ∀ D σ H, t' D σ H → t D σ H) : PS X e t' := ⟨fun pins s σ H D I q => h.run pins s σ H D I (k D σ H q)⟩
theorem PSs.imp {X : Cx} {e : List Stmt} {t t' : TS} (h : PSs X e t) (k : ∀ D σ H, t' D σ H → t D σ H) : PSs X e t' := ⟨fun pins s σ H D I q => h.run pins s σ H D I (k D σ H q)⟩
theorem PI.imp {X : Cx} {tg e : Expr} {t t' : TI} (h : PI X tg e t) (k : ∀ σ H Q, t' σ H Q → t σ H Q) : PI X tg e t' := ⟨fun pins s σ H Q I q => h.run pins s σ H Q I (k σ H Q q)⟩
section
variable {K : PySem.W.Frag} {γ δ : Type} {rel2 : Pl → Hp → γ → δ → Prop} {W : WX} {σ : L2.St} {ρ : Pl} {H : Hp} {Q2 : δ → Hp → Prop}
theorem Post.asBl {v : Val} {f : Bool → M γ} {st : Store} (h : Post K rel2 W σ ρ H Q2 (Rc.bnd (asBl v) f st)) : ∃ b, v = .bl b ∧ Post K rel2 W σ ρ H Q2 (f b st) := by
  cases v <;> first | exact h.elim | exact ⟨_, rfl, h⟩
theorem Post.asInt {v : Val} {f : Int → M γ} {st : Store} (h : Post K rel2 W σ ρ H Q2 (Rc.bnd (asInt v) f st)) : ∃ b, v = .int b ∧ Post K rel2 W σ ρ H Q2 (f b st) := by
  cases v <;> first | exact h.elim | exact ⟨_, rfl, h⟩
end
theorem bnd_assoc {α β γ : Type} (m : M α) (f : α → M β) (g : β → M γ) : bnd (bnd m f) g = bnd m fun a => bnd (f a) g := by
  funext st
  unfold bnd
  cases m st <;> rfl
theorem bnd_ret {α : Type} (m : M α) : bnd m ret = m := by
  funext st
  unfold bnd ret
  cases m st <;> rfl
theorem Rep.bl_inv {K : PySem.W.Frag} {ρ : Pl} {H : Hp} {b : Bool} {w : V} (h : Rep K ρ H (.bl b) w) : w = .bl b := by cases h; rfl
theorem Rep.int_inv {K : PySem.W.Frag} {ρ : Pl} {H : Hp} {b : Int} {w : V} (h : Rep K ρ H (.int b) w) : w = .int b := by cases h; rfl
/-- a bool's place among tests: pt_val's reading -/
theorem tT_of {K : PySem.W.Frag} {W : WX} {m : Env → M Val} {σ : L2.St} {H : Hp} {Q : Bool → Hp → Prop} (h : tT K W m σ H Q) : tE K W m σ H fun x H1 => ∃ c, x = .bl c ∧ Q c H1 := by
  obtain ⟨ρ, env, st, rE, rS, p⟩ := h
  refine ⟨ρ, env, st, rE, rS, Post.bnd p fun a st1 ρ1 b H1 x s q p1 => ?_⟩
  rw [← bnd_ret (Rc.asBl a)] at p1
  obtain ⟨c, rfl, p2⟩ := p1.asBl
  exact ⟨c, q.bl_inv, p2.ret s rfl⟩
end Rc
/-! RcE: rules that the layer lacks: dict(d) and dict(pairs) with tuples as keys, enumerate of a tuple. -/
namespace Rc
open PySem L2 PySem.Spec PyProof.Rows

/-! ### keys that stand apart by their hashes -/
/-- the keys of a table of places and rows -/
def padK : List (List Key) := (List.range 6).flatMap fun (i : Nat) => (List.range 3).map fun (j : Nat) => [Sum.inl (i : Int), Sum.inl (j : Int)]
def hsh (k : List Key) : Int := reduceHash (Builtin.Tuple.tupleHashOf (k.map fun
  | .inl i => hashInt i
  | .inr _ => 0))
theorem pad_apart : ∀ a ∈ padK, ∀ b ∈ padK, hsh a = hsh b → a = b := by decide +kernel
theorem pad_ints : ∀ {k : List Key}, k ∈ padK → ∃ i j : Int, k = [.inl i, .inl j] := by
  intro k h
  unfold padK at h
  obtain ⟨i, _, h⟩ := List.mem_flatMap.mp h
  obtain ⟨j, _, rfl⟩ := List.mem_map.mp h
  exact ⟨_, _, rfl⟩
theorem hsh_eq {prog : Program} {w : World} {k : List Key} (h : k ∈ padK) : (tupleKind (mixKind prog w)).hash k = hsh k := by
  obtain ⟨i, j, rfl⟩ := pad_ints h
  rfl
theorem apart_of {prog : Program} {w : World} : ∀ {ks : List (List Key)}, (∀ k ∈ ks, k ∈ padK) → ks.Nodup → (ks.map fun k => (tupleKind (mixKind prog w)).hash k).Nodup
  | [], _, _ => List.nodup_nil
  | k :: ks, h, n => by
    have n' := List.nodup_cons.mp n
    rw [List.map_cons]
    refine List.nodup_cons.mpr ⟨fun m => ?_, apart_of (fun x hx => h x (List.mem_cons_of_mem _ hx)) n'.2⟩
    obtain ⟨x, hx, e⟩ := List.mem_map.mp m
    have hk := h k List.mem_cons_self
    have hx' := h x (List.mem_cons_of_mem _ hx)
    rw [hsh_eq hx', hsh_eq hk] at e
    exact n'.1 (pad_apart x hx' k hk e ▸ hx)
theorem kt_keys {H : Hp} {kvs : List (List Key × V)} {ys : List (List Key × Addr × Value)} (r : KT H kvs ys) : ys.map (·.1) = kvs.map (·.1) := by
  induction r with
  | nil => rfl
  | cons h _ ih => rw [List.map_cons, List.map_cons, ih, h.1]
theorem kt_tups {H : Hp} {kvs : List (List Key × V)} {ys : List (List Key × Addr × Value)} (r : KT H kvs ys) : ∀ y ∈ ys, H y.2.1 = some (.tup (y.1.map kV)) := by
  induction r with
  | nil => intro y hy; exact nomatch hy
  | cons h _ ih =>
    intro y hy
    rcases List.mem_cons.mp hy with rfl | hy
    · rw [← h.1]; exact h.2.1
    · exact ih y hy
section
variable {X : Cx}
/-- dict(d): a copy; the keys are tuples -/
theorem call_dictT (hu : X.A.units + 10 < cLine) : CallR X (.type "dict") (fun xs H Q => ∃ (a : Addr) (kvs : List (List Key × V)), xs = [.ref a] ∧ Rd H a (.dT kvs) ∧ (∀ k ∈ kvs.map (·.1), k ∈ padK) ∧ ∀ p, H p = none → Q (.ref p) (upd H p (.dT kvs))) := by
  intro pins s σ H xs us Q I r q
  obtain ⟨a, kvs, ex, hd, hp, q⟩ := q
  subst ex
  obtain ⟨u, eu, rx⟩ := vals1 r
  subst eu
  cases rx
  obtain ⟨z, lo, ys, rel, dd⟩ := dt_rd I.hok hd
  have hty : ∀ x ∈ ys, s.TypeIs (.ref x.2.1) "tuple" := fun x hx => by
    obtain ⟨_, its, _, o, h1, h2, _⟩ := (show ObjOk X.prog X.w H s.heap x.2.1 (.tup (x.1.map kV)) from I.hok _ _ (kt_tups rel x hx))
    exact ⟨o, h1, h2⟩
  have hnd : (ys.map (·.1)).Nodup := Heap.DictOfH.nodup dd
  have hap : (ys.map fun x => (tupleKind (mixKind X.prog X.w)).hash x.1).Nodup := by
    have := apart_of (prog := X.prog) (w := X.w) (ks := ys.map (·.1)) (by rw [kt_keys rel]; exact hp) hnd
    rw [List.map_map] at this
    exact this
  have hz : ys.length ≤ sizeLine := by rw [← Paired.length rel]; exact z
  refine callType_codes (Q₁ := fun ob s₁ => ob = .ref s.heap.objs.size ∧ s₁ = { s with heap := s.heap.push { cls := .type "dict", data := .dict #[] } }) PySem.F.kt_called_dict (PySem.F.kt_typeCall_dict_1 _) PySem.F.entry_dict_init (kt_code_dict_new _ ⟨rfl, rfl⟩) ?_
  rintro ob s₁ ⟨rfl, rfl⟩
  have hT : Shared.TypeIs { s with heap := s.heap.push { cls := .type "dict", data := .dict #[] } } (.ref s.heap.objs.size) "dict" := ⟨_, Heap.get?_push_size _ rfl, rfl⟩
  refine ⟨hT, PySem.F.args_dict_init_2 _ _, ?_⟩
  unfold Builtin.«dict.__init__»
  refine wpAny_bind ?_
  unfold Builtin.Dict.selfAndRest
  refine wpAny_bind (wpAny_notOrdered_dict hT ?_)
  show wpAny _ _ (pure (s.heap.objs.size, [Value.ref a])) _ _ _
  refine wpAny_pure ?_
  have hne : s.heap.objs.size ≠ a := fun e => by
    have := dd.lt_size
    rw [← e] at this
    exact absurd this (Nat.lt_irrefl _)
  have his : ∀ h' : Heap, (∀ b o, s.heap.get? b = some o → h'.get? b = some o) → ∀ y ∈ ys, (tupleKind (mixKind X.prog X.w)).is h' y.1 y.2.1 := fun h' hk y hy => by
    obtain ⟨o, its, n, e1, e2, e3, e4⟩ := key_of I.hok (kt_tups rel y hy)
    exact ⟨o, its, n, hk _ _ e1, e2, e3, e4⟩
  have dd2 : (s.heap.push { cls := .type "dict", data := .dict #[] }).DictOfH (tupleKind (mixKind X.prog X.w)) a ys := dd.at' (fun o e => Heap.get?_push_of_some _ e) (his _ fun b o e => Heap.get?_push_of_some _ e)
  refine updateFrom_dictH (A := X.A.in1) (knd := tupleKind (mixKind X.prog X.w)) (s := { s with heap := s.heap.push { cls := .type "dict", data := .dict #[] } }) .none (show X.A.units + 1 + 1 < cLine by omega) hne lo (Heap.DictOfH.new s.heap) dd2 (.inr ⟨fun x hx => ?_, hap⟩) (by simpa using hz) fun h' d1 d2 sb => ?_
  · obtain ⟨o, e1, e2⟩ := hty x hx
    exact ⟨o, Heap.get?_push_of_some _ e1, e2⟩
  · rw [storedAllH_nil_of_nodup _ hnd] at d1
    refine ⟨rfl, .ref s.heap.objs.size, upd H s.heap.objs.size (.dT kvs), I.laid (t' := s.toks) (fun b u e => (sb.2 b (Nat.ne_of_lt (Heap.lt_size e))).trans (Heap.get?_push_of_some _ e)) (Nat.le_refl _) ?_, rfl, q _ (I.hok.fresh (Nat.le_refl _))⟩
    obtain ⟨o, es, ep, e1, e2, e3, e4, _, e5⟩ := d1
    have hfr : H s.heap.objs.size = none := I.hok.fresh (Nat.le_refl _)
    refine ⟨z, beq_eq_false_iff_ne.mpr (Nat.ne_of_gt I.big), ys, KT.keeps rel fun b vs e => ?_, o, es, ep, e1, e2, e3, e4, e5⟩
    rw [upd_ne (ne_of_none e hfr)]
    exact e
/-- dict(xs) of a list of pairs (key, value), the keys tuples -/
def mrgT : List (List Key × V) → List (List Key × V) → List (List Key × V)
  | acc, [] => acc
  | acc, kv :: kvs => mrgT (putK acc kv.1 kv.2) kvs
theorem kt_mrg {H : Hp} : ∀ {kvs : List (List Key × V)} {ys : List (List Key × Addr × Value)} {acc : List (List Key × V)} {zs : List (List Key × Addr × Value)}, KT H acc zs → KT H kvs ys → KT H (mrgT acc kvs) (storedAllH zs ys)
  | _, _, _, _, r, .nil => r
  | _, _, _, _, r, .cons (a := p) (b := q) h t => by
    refine kt_mrg (acc := putK _ p.1 p.2) (zs := storedH _ q.1 q.2.1 q.2.2) ?_ t
    rw [← h.1]
    exact KT.put r p.1 h.2.1 h.2.2
theorem mrg_len : ∀ (kvs acc : List (List Key × V)), (mrgT acc kvs).length ≤ acc.length + kvs.length
  | [], acc => Nat.le_refl _
  | kv :: kvs, acc => by
    have h1 := mrg_len kvs (putK acc kv.1 kv.2)
    have h2 : (putK acc kv.1 kv.2).length ≤ acc.length + 1 := by
      unfold putK
      split <;> simp
    rw [List.length_cons]
    show (mrgT (putK acc kv.1 kv.2) kvs).length ≤ _
    omega
theorem pairsT {pins : List (Addr × Obj)} {σ : L2.St} {H : Hp} {s : Shared} (I : L2.Inv X pins σ H s) : ∀ {ps : List Addr} {kvs : List (List Key × V)}, Paired (fun p (kv : List Key × V) => ∃ b, SqT X.K H p [.ref b, kv.2] ∧ H b = some (.tup (kv.1.map kV))) ps kvs →
    ∃ ys : List (List Key × Addr × Value), KT H kvs ys ∧ ys.length = ps.length ∧ ∀ (j : Nat) (y : List Key × Addr × Value), ys[j]? = some y → ∃ (p : Addr), ps[j]? = some p ∧ s.heap.IsTuple p #[.ref y.2.1, y.2.2]
  | _, _, .nil => ⟨[], .nil, rfl, fun j q e => by simp at e⟩
  | _, _, .cons (a := p) (b := kv) h t => by
    obtain ⟨ys, r, hl, hp⟩ := pairsT I t
    obtain ⟨b, h1, h2⟩ := h
    obtain ⟨its, rv, ht, _⟩ := I.tuple h1
    obtain ⟨u, y, ei, ru, ry⟩ := vals2 rv
    subst ei
    cases ru
    refine ⟨(kv.1, b, y) :: ys, .cons ⟨rfl, h2, ry⟩ r, by rw [List.length_cons, List.length_cons, hl], fun j q e => ?_⟩
    cases j with
    | zero =>
      cases (show (kv.1, b, y) = q from Option.some.inj e)
      exact ⟨p, rfl, ht⟩
    | succ j =>
      obtain ⟨p', e1, e2⟩ := hp j q (by simpa using e)
      exact ⟨p', by simpa using e1, e2⟩
theorem call_dictPT (hc : X.calm = true) (hu : X.A.units + 10 < cLine) : CallR X (.type "dict") (fun xs H Q => ∃ (a : Addr) (ps : List Addr) (kvs : List (List Key × V)), xs = [.ref a] ∧ H a = some (.lst (ps.map V.ref)) ∧ Paired (fun p (kv : List Key × V) => ∃ b, SqT X.K H p [.ref b, kv.2] ∧ H b = some (.tup (kv.1.map kV))) ps kvs ∧
    ∀ p, H p = none → Q (.ref p) (upd H p (.dT (mrgT [] kvs)))) := by
  intro pins s σ H xs us Q I r q
  obtain ⟨a, ps, kvs, ex, hl, hps, q⟩ := q
  subst ex
  obtain ⟨u, eu, rx⟩ := vals1 r
  subst eu
  cases rx
  obtain ⟨ys, rel, hlen, hat⟩ := pairsT I hps
  obtain ⟨hz, its, n, rv, ho⟩ := (show ObjOk X.prog X.w H s.heap a (.lst (ps.map V.ref)) from I.hok a _ hl)
  have ei := refs_at rv
  subst ei
  have hzp : ps.length ≤ sizeLine := by simpa using hz
  have hok : PlainSeq "list" s.heap a (ps.map Value.ref).toArray ∧ PairItems s.heap (ps.map Value.ref).toArray (fun j => ps.getD j 0) (ys.map fun y => (Value.ref y.2.1, y.2.2)) := by
    refine ⟨⟨_, n, ho, rfl, rfl, rfl⟩, by simp [hlen], fun j k v e => ?_⟩
    rw [List.getElem?_map] at e
    obtain ⟨y, ey, e'⟩ := Option.map_eq_some_iff.mp e
    cases e'
    obtain ⟨p, e1, e2⟩ := hat j y ey
    have e3 : ps.getD j 0 = p := by rw [List.getD_eq_getElem?_getD, e1]; rfl
    dsimp only
    rw [e3]
    exact ⟨by simp [e1], .inl e2⟩
  have hfr : H s.heap.objs.size = none := I.hok.fresh (Nat.le_refl _)
  refine call_dict_pairsH (knd := tupleKind (mixKind X.prog X.w)) (ps := ys) (PairArg.list a (ps.map Value.ref).toArray (fun j => ps.getD j 0) (ys.map fun y => (Value.ref y.2.1, y.2.2))) (I.ok.hd hc) (show X.A.units + 1 + 1 < cLine by omega) hok ⟨by simp, fun i key v e => ?_⟩ (fun h' hk y hy => ?_) (by simp [hlen, hzp]) fun h' tk dd hk => ?_
  · have e : (ys.map fun y => (Value.ref y.2.1, y.2.2))[i]? = some (key, v) := e
    rw [List.getElem?_map] at e
    obtain ⟨y, ey, e'⟩ := Option.map_eq_some_iff.mp e
    cases e'
    exact ⟨y.1, y.2.1, ey, rfl⟩
  · obtain ⟨o, its, n, e1, e2, e3, e4⟩ := key_of I.hok (kt_tups rel y hy)
    exact ⟨o, its, n, hk _ _ (Nat.ne_of_lt (Heap.lt_size e1)) (by simp) e1, e2, e3, e4⟩
  · refine ⟨.ref s.heap.objs.size, upd H s.heap.objs.size (.dT (mrgT [] kvs)), I.laid (t' := tk) (fun b u e => hk b u (by simp) e) (Nat.le_refl _) ?_, rfl, q _ hfr⟩
    obtain ⟨o, es, ep, e1, e2, e3, e4, _, e5⟩ := dd
    have hml := mrg_len kvs []
    have hkl : kvs.length = ys.length := Paired.length rel
    refine ⟨by simp at hml; omega, beq_eq_false_iff_ne.mpr (Nat.ne_of_gt I.big), _, KT.keeps (kt_mrg (acc := []) (zs := []) .nil rel) fun b vs e => ?_, o, es, ep, e1, e2, e3, e4, e5⟩
    rw [upd_ne (ne_of_none e hfr)]
    exact e
end

/-! ### enumerate(tuple) -/
section
variable {prog : Program} {w : World} {A : Around} {E : Value → Shared → Prop} {s : Shared}
set_option maxHeartbeats 1000000 in
theorem meets_enumT {v : Value} {o : Obj} {Hh : Heap → Prop} (B : Begins v o Hh) :
    Meets (Builtin.«enumerate.__new__» ⟨[.type "enumerate", v], []⟩) (fun _ R s => Hh s.heap ∧
      R (.ok (.ret (.ref (s.heap.push o).objs.size))) { s with heap := (s.heap.push o).push { cls := .type "enumerate", data := .fields #[.none, .bool false, .ref s.heap.objs.size, rawInt 0, .none, .none] } }) :=
  .of_wp fun prog w A R s h => by
    obtain ⟨hp, g, d, tk, os⟩ := s
    obtain ⟨h1, h⟩ := h
    have hsb := sub_enumerate
    have q1 : ∀ {A' : Around} {E : Value → Shared → Prop} {Q : Value → Shared → Prop}, Q (.ref hp.objs.size) ⟨hp.push o, g, d, tk, os⟩ → wpAny (model prog w) A' (pyIter v) Q E ⟨hp, g, d, tk, os⟩ :=
      fun z => B.iter prog w _ _ ⟨hp, g, d, tk, os⟩ _ h1 z
    wp_walk using q1
    refine wpAny_stack_any fun st => wpAny_pure ?_
    split
    · rename_i c _ _ _ _ _
      cases (c == Value.type "enumerate")
      · wp_walk using q1
        exact ⟨_, rfl, h⟩
      · wp_walk using q1
        exact ⟨_, rfl, h⟩
    · wp_walk using q1
      exact ⟨_, rfl, h⟩
theorem call_enumT {v : Value} {o : Obj} {Hh : Heap → Prop} {Q : Value → Shared → Prop} (B : Begins v o Hh) (h1 : Hh s.heap)
    (h : ∀ h', IsEnum h' (s.heap.objs.size + 1) s.heap.objs.size 0 .none → h'.get? s.heap.objs.size = some o →
      (∀ b u, s.heap.get? b = some u → h'.get? b = some u) → Q (.ref (s.heap.objs.size + 1)) { s with heap := h' }) :
    wpAny (model prog w) A (call (.type "enumerate") [v]) Q E s := by
  refine callType_new PySem.F.called_enumerate (by decide) (PySem.F.typeCall_enumerate_1 _) (PySem.F.newCall_enumerate_1 _) (fun ob => PySem.F.args_object_init_2 ob _) PySem.F.entry_enumerate_new
    (meets_enumT B) ⟨h1, ?_⟩
  have hz : (s.heap.push o).objs.size = s.heap.objs.size + 1 := Heap.size_push ..
  show _ ∧ _
  rw [hz]
  have he : IsEnum ((s.heap.push o).push { cls := .type "enumerate", data := .fields #[.none, .bool false, .ref s.heap.objs.size, rawInt 0, .none, .none] }) (s.heap.objs.size + 1) s.heap.objs.size 0 .none := by
    have y := Heap.get?_push_size (s.heap.push o) (o := { cls := .type "enumerate", data := .fields #[.none, .bool false, .ref s.heap.objs.size, rawInt 0, .none, .none] }) rfl
    rw [hz] at y; exact y
  exact ⟨⟨_, he, rfl⟩, h _ he (Heap.get?_push_of_some _ (Heap.get?_push_size _ B.free)) fun b u x => Heap.get?_push_of_some _ (Heap.get?_push_of_some _ x)⟩
end
theorem enumT_end {prog : Program} {w : World} {A : Around} {E : Value → Shared → Prop} {s : Shared} {e it t : Addr} {c : Int} {i : Nat} {old : Value} {items : Array Value} {Q : Option Value → Shared → Prop} (hh : A.handled = none) (he : IsEnum s.heap e it c old) (hit : s.heap.IsTupleIter it t i) (ht : s.heap.IsTuple t items) (hx : items.size ≤ i)
    (hQ : ∀ h', Heap.ExtBut it s.heap h' → Q none { s with heap := h' }) : wpAny (model prog w) A (pyNext (.ref e)) Q E s := by
  have hT : s.TypeIs (.ref e) "enumerate" := ⟨_, he, rfl⟩
  unfold pyNext
  refine wpAny_bind (wpAny_attempt (wpAny_callSpecial?_slot (name := Str.ofString "__next__") hT PySem.F.slot_enumerate_next
    (wpAny_call_entry PySem.F.slot_enumerate_next hT PySem.F.entry_enumerate_next ?_ (PySem.F.args_enumerate_next_1 _))))
  show wpAny _ _ (field (.ref e) 2 >>= _) _ _ _
  refine wpAny_bind (wpAny_field he rfl (x := .ref it) rfl ?_)
  refine wpAny_bind (wpAny_nextOf_tuple_end hh hit ht (Array.getElem?_eq_none hx) fun h' x he' hx' => ?_)
  obtain ⟨o, ho, hc⟩ := hx'
  refine wpAny_bind (wpAny_isInstance (T := "StopIteration") (b := true) ⟨o, ho, hc⟩ isSubtype_stop ?_)
  exact wpAny_pure (hQ _ he')
/-- the tuple at a, each item in a new pair -/
def IteT (K : PySem.W.Frag) (a : Addr) : L2.It :=
  ⟨fun i H => ∃ (xs : List V) (x : V), SqT K H a xs ∧ xs[i]? = some x, fun i H v H' => ∃ T x, v = .ref T ∧ H T = none ∧ H' = upd H T (.tup [.int (i : Nat), x]) ∧ ∀ xs, SqT K H a xs → xs[i]? = some x, fun i H => ∃ xs : List V, SqT K H a xs ∧ xs.length ≤ i⟩
theorem turn_enumT {P : Program} {w : World} {K : PySem.W.Frag} {elts : List Expr} {kk : Nat} {tpos : Pos} (a e it : Addr) :
    Turn P w K (.Tuple elts kk tpos) (IteT K a) [e, it] e (fun i h => (∃ old, IsEnum h e it ((i : Nat) : Int) old) ∧ h.IsTupleIter it a i ∧ e ≠ it ∧ a ≠ it ∧ a ≠ e) where
  mem := by simp
  obj := fun i h st b hb => by
    obtain ⟨⟨old, he⟩, ⟨o, ho, hc, hd⟩, _⟩ := st
    have e' : b = e ∨ b = it := by simpa using hb
    rcases e' with z | z
    · rw [z]; exact ⟨_, he, fun v q => nomatch q⟩
    · rw [z]; exact ⟨o, ho, fun v q => by rw [hd] at q; cases q⟩
  keep := fun i h h' st k => let ⟨⟨old, he⟩, hi, hne⟩ := st; ⟨⟨old, k e (by simp) _ he⟩, hi.at fun o q => k it (by simp) o q, hne⟩
  item := by
    intro X hP hw hK hc i pins s σ H E I hf st hg
    subst hP hw hK
    obtain ⟨⟨old, he⟩, hit, hne, hai, hae⟩ := st
    obtain ⟨xs, x, hq, hx⟩ := hg
    obtain ⟨its, rv, p, hz⟩ := I.tuple hq
    obtain ⟨u, hu, ru⟩ := rv.get hx
    have hel : e < s.heap.objs.size := Heap.lt_size he
    have hil : it < s.heap.objs.size := by obtain ⟨_, q, _⟩ := hit; exact Heap.lt_size q
    have hlt : i < its.toArray.size := by
      have := (List.getElem?_eq_some_iff.mp hu).1
      simpa using this
    refine wpAny_pyNext_enum_itemC (fp := [it, a]) (Draws.tuple (A := X.A.in1) (I.ok.hd hc) it a hai its.toArray) he ⟨hit, p⟩ hlt hne (by simp [hne, Ne.symm hae]) fun v h' tk hv ho hit' hT hsz hk => ?_
    have ev : v = u := by
      have hv : its.toArray[i]? = some v := hv
      rw [List.getElem?_toArray, hu] at hv
      exact (Option.some.inj hv).symm
    subst ev
    refine ⟨_, rfl, wpAny_letOwnedTupleGo_enum (s := { s with heap := h', toks := tk + 1 }) ho fun h'' he' sb => ?_⟩
    have hT2 : h''.get? s.heap.objs.size = some { cls := .type "tuple", data := .seq #[.int i tk, v] } := (sb.2 _ (Nat.ne_of_gt hel)).trans hT
    have new : ObjOk X.prog X.w (upd H s.heap.objs.size (.tup [.int (i : Nat), x])) h'' s.heap.objs.size (.tup [.int (i : Nat), x]) :=
      ⟨by show 2 ≤ sizeLine; decide, [.int i tk, v], .cons ⟨_, rfl⟩ (.cons ru .nil), ⟨_, hT2, rfl, _, rfl⟩⟩
    have I1 : L2.Inv X pins σ (upd H s.heap.objs.size (.tup [.int (i : Nat), x])) { s with heap := h'', toks := tk + 1 } :=
      L2.Inv.turnedNew I (ch := [e, it]) (fun b ob hb q => (sb.2 b (fun z => hb (by simp [z]))).trans (hk b ob (fun z => hb (by simp [z])) (fun z => hb (by simp [z])) q)) hf (Nat.le_refl _) new
    refine ⟨.ref s.heap.objs.size, _, I1, rfl, ⟨_, x, rfl, I.hok.fresh (Nat.le_refl _), rfl, fun ys hy => by rw [L2.Inv.tuple_inj I hy hq]; exact hx⟩, ⟨⟨v, ?_⟩, hit'.1.at fun o q => (sb.2 it (Ne.symm hne)).trans q, hne, hai, hae⟩, fun b hb => ?_⟩
    · have e1 : ((i + 1 : Nat) : Int) = (i : Int) + 1 := by omega
      rw [e1]; exact he'
    · have hb' : b < s.heap.objs.size := by
        have e' : b = e ∨ b = it := by simpa using hb
        rcases e' with z | z
        · rw [z]; exact hel
        · rw [z]; exact hil
      rw [upd_ne (Nat.ne_of_lt hb')]
      exact (hf b hb).1
  done := by
    intro X hP hw hK hc i pins s σ H E I hf st hg
    subst hP hw hK
    obtain ⟨⟨old, he⟩, hit, hne, hai, hae⟩ := st
    obtain ⟨xs, hq, hx⟩ := hg
    obtain ⟨its, rv, p, hz⟩ := I.tuple hq
    obtain ⟨f0, f1, f2, f3, f4, f5⟩ := hf it (by simp)
    have hl := rv.length
    exact enumT_end (I.ok.hd hc) he hit p (by simp; omega) fun h' eb => ⟨rfl, I.turned (t' := s.toks) (fun b o hb q => eb b o hb q) f0 f1 f3 f4 f5⟩
  self := fun A i s Q E st h => let ⟨⟨_, he⟩, _⟩ := st; wpAny_pyIter_enum he h
def iEnum2 (K : PySem.W.Frag) (ta : TA) : TI := fun σ H R => ta σ H fun vs H1 => ∃ a xs, vs = [.ref a] ∧ ((SqT K H1 a xs ∧ (xs.length ≤ sizeLine → R (IteT K a) H1)) ∨ (SqL K H1 a xs ∧ (xs.length ≤ sizeLine → R (Ite K a) H1)))
theorem pi_enum2 {X : Cx} {e : Expr} {ta : TA} {p pos tpos : Pos} {elts : List Expr} {kk : Nat} (hg : Gl X "enumerate") (hm : X.mg "enumerate" = none) (ha : PA X [e] ta) (hs : starEach [e] X.env = [(false, eval e X.env)] := by rfl) :
    PI X (.Tuple elts kk tpos) (.Call (.Name "enumerate" p) [e] [] pos) (iEnum2 X.K ta) := by
  refine ⟨fun pins s σ H R I h => ?_⟩
  refine Call_ (ld_blt I hg hm boot_enumerate (PyProof.Rows.callWith_type1 (thn (ha.run pos pins s σ H _ I h) fun us s1 ⟨vs, H1, I1, r1, q1⟩ => ?_) hs rfl))
  obtain ⟨a, xs, ex, hq⟩ := q1
  subst ex
  cases r1 with
  | cons r rr =>
    cases rr
    cases r
    have fp2 : ∀ b ∈ [s1.heap.objs.size + 1, s1.heap.objs.size], FpOk X pins H1 b := fun b hb => by
      have e' : b = s1.heap.objs.size + 1 ∨ b = s1.heap.objs.size := by simpa using hb
      have hle : s1.heap.objs.size ≤ b := by
        rcases e' with z | z
        · rw [z]; exact Nat.le_add_right _ _
        · rw [z]; exact Nat.le_refl _
      exact I1.fpOk hle (I1.hok.fresh hle)
    rcases hq with ⟨hq, q⟩ | ⟨hq, q⟩
    · obtain ⟨its, rv, p', hz⟩ := I1.tuple hq
      refine call_enumT (begins_tuple a its.toArray) p' fun h' he hit hk => wpAny_pyIter_enum he ?_
      have I2 : L2.Inv X pins σ H1 { s1 with heap := h' } := I1.kept (t' := s1.toks) hk
      have hal : a < s1.heap.objs.size := by obtain ⟨o, z, _⟩ := p'; exact Heap.lt_size z
      exact ⟨_, _, _, _, H1, rfl, I2, turn_enumT a (s1.heap.objs.size + 1) s1.heap.objs.size, ⟨⟨.none, he⟩, ⟨_, hit, rfl, rfl⟩, Nat.succ_ne_self _, Nat.ne_of_lt hal, Nat.ne_of_lt (Nat.lt_succ_of_lt hal)⟩, fp2, q hz⟩
    · obtain ⟨its, rv, p', hz⟩ := I1.list hq
      refine call_enumT (begins_list a its.toArray) p'.isList fun h' he hit hk => wpAny_pyIter_enum he ?_
      have I2 : L2.Inv X pins σ H1 { s1 with heap := h' } := I1.kept (t' := s1.toks) hk
      exact ⟨_, _, _, _, H1, rfl, I2, turn_enum a (s1.heap.objs.size + 1) s1.heap.objs.size, ⟨⟨.none, he⟩, ⟨_, hit, rfl, rfl⟩, Nat.succ_ne_self _⟩, fp2, q hz⟩
end Rc
/-! RcN: dicts whose keys are tuples of tuples of ints: made of a list of pairs, asked. -/
namespace Rc
open PySem L2 PySem.Spec PyProof.Rows
def toN (k : NK) : NestedKey := .tup (k.map fun c => .tup (c.map .num))
theorem hashes_map (w : World) {α : Type} (f : α → NestedKey) : ∀ l : List α, NestedKey.hashes w (l.map f) = l.map fun x => NestedKey.hash w (f x)
  | [] => rfl
  | x :: l => by
    rw [List.map_cons, NestedKey.hashes, hashes_map w f l]
    rfl
theorem hash_toN (w : World) (k : NK) : (toN k).hash w = hN k := by
  unfold toN hN
  rw [NestedKey.hash, hashes_map]
  congr 3
  funext c
  rw [NestedKey.hash, hashes_map]
  rfl
theorem depth_map {α : Type} {f : α → NestedKey} {n : Nat} (h : ∀ x, (f x).depth ≤ n) : ∀ l : List α, NestedKey.depthAll (l.map f) ≤ n
  | [] => Nat.zero_le _
  | x :: l => by
    rw [List.map_cons, NestedKey.depthAll]
    exact Nat.max_le.mpr ⟨h x, depth_map h l⟩
theorem depth_toN (k : NK) : (toN k).depth ≤ 8 := by
  unfold toN
  rw [NestedKey.depth]
  have := depth_map (f := fun c : List Int => NestedKey.tup (c.map .num)) (n := 1) (fun c => by
    rw [NestedKey.depth]
    have := depth_map (f := NestedKey.num) (n := 0) (fun i => Nat.le_refl _) c
    omega) k
  omega
theorem num_inj : ∀ {a b : List Int}, a.map NestedKey.num = b.map NestedKey.num → a = b
  | [], [], _ => rfl
  | [], _ :: _, h => by simp at h
  | _ :: _, [], h => by simp at h
  | x :: a, y :: b, h => by
    rw [List.map_cons, List.map_cons] at h
    injection h with h1 h2
    injection h1 with h1
    rw [h1, num_inj h2]
theorem toN_inj {a b : NK} (h : toN a = toN b) : a = b := by
  unfold toN at h
  injection h with h
  induction a generalizing b with
  | nil => cases b with
    | nil => rfl
    | cons _ _ => simp at h
  | cons x a ih => cases b with
    | nil => simp at h
    | cons y b =>
      rw [List.map_cons, List.map_cons] at h
      injection h with h1 h2
      injection h1 with h1
      rw [num_inj h1, ih h2]
section
variable {X : Cx} {pins : List (Addr × Obj)} {σ : L2.St} {H : Hp} {s : Shared} {ρ : Pl}
theorem nums_at {h : Heap} : ∀ {is : List Int} {its : List Value}, Vals (is.map V.int) its → NestedAll h (is.map .num) its
  | [], _, .nil => .nil
  | i :: is, _, .cons r t => by
    obtain ⟨k, rfl⟩ := r
    exact .cons (.int i k) (nums_at t)
theorem nk_is (I : L2.Inv X pins σ H s) {k : NK} {b : Addr} (h : NKAt X.K ρ H k b) : NestedIs s.heap (toN k) (.ref b) := by
  obtain ⟨cs, h1, h2⟩ := h
  obtain ⟨hsz, its, rv, o, e1, e2, n, e3⟩ := (show ObjOk X.prog X.w H s.heap b (.tup (cs.map V.ref)) from I.hok b _ h1.1)
  clear hsz
  have ei := refs_at rv
  subst ei
  refine .tup e1 e2 e3 ?_
  show NestedAll s.heap _ (cs.map Value.ref)
  clear h1 rv e1 e2 e3
  induction h2 with
  | nil => exact .nil
  | cons r t ih =>
    obtain ⟨_, its, rv, o, e1, e2, n, e3⟩ := (show ObjOk X.prog X.w H s.heap _ (.tup (_ : List V)) from I.hok _ _ r.1)
    exact .cons (.tup e1 e2 e3 (by simpa using nums_at rv)) ih
def liftN (x : NK × Addr × Value) : NestedKey × Addr × Value := (toN x.1, x.2)
theorem dn_of (I : L2.Inv X pins σ H s) {a : Addr} {xs : List (NK × Addr × Value)} (h : DnAt X.K ρ H a xs) : s.heap.DictOfH (nestedKind X.prog X.w) a (xs.map liftN) := by
  obtain ⟨o, es, ep, e1, e2, e3, e4⟩ := (show ObjOk X.prog X.w H s.heap a (.ext (DicN a xs)) from I.hok a _ h.at_).1
  refine ⟨o, es, ep, e1, e2, e3, ?_, fun y hy => ?_, ?_⟩
  · rw [e4, List.map_map]
    refine List.map_congr_left fun x _ => ?_
    show entN x = ⟨(toN x.1).hash X.w, .ref x.2.1, x.2.2⟩
    rw [hash_toN]
    rfl
  · obtain ⟨x, hx, rfl⟩ := List.mem_map.mp hy
    exact ⟨nk_is I (h.keys x hx), depth_toN _⟩
  · rw [List.map_map]
    have nd := h.nd
    have : ((fun x => x.1) ∘ liftN) = fun x : NK × Addr × Value => toN x.1 := rfl
    rw [this]
    have e : (xs.map fun x => toN x.1) = (xs.map (·.1)).map toN := by rw [List.map_map]; rfl
    rw [e]
    exact List.Pairwise.map toN (fun a b hab z => hab (toN_inj z)) nd
theorem at_lift {xs : List (NK × Addr × Value)} {k : NK} : (atKey (xs.map liftN) (toN k)).isSome = decide (k ∈ xs.map (·.1)) := by
  unfold atKey
  rw [Option.isSome_map, Bool.eq_iff_iff, List.find?_isSome, decide_eq_true_eq]
  constructor
  · rintro ⟨y, hy, e⟩
    obtain ⟨x, hx, rfl⟩ := List.mem_map.mp hy
    have : toN x.1 = toN k := of_decide_eq_true e
    rw [← toN_inj this]
    exact List.mem_map.mpr ⟨x, hx, rfl⟩
  · intro h
    obtain ⟨x, hx, rfl⟩ := List.mem_map.mp h
    exact ⟨liftN x, List.mem_map.mpr ⟨x, hx, rfl⟩, decide_eq_true rfl⟩
theorem in_dicN {a b : Addr} {k : NK} {xs : List (NK × Addr × Value)} {Q : Value → Shared → Prop} {E : Value → Shared → Prop} {A : Around} (hu : A.units + 10 < cLine) (I : L2.Inv X pins σ H s) (h : DnAt X.K ρ H a xs) (hk : NKAt X.K ρ H k b) (q : ∀ s', L2.Inv X pins σ H s' → Q (.bool (decide (k ∈ xs.map (·.1)))) s') :
    wpAny (model X.prog X.w) A (compareOp .In (.ref b) (.ref a)) Q E s := by
  refine wpAny_in_heap (knd := nestedKind X.prog X.w) (k := toN k) (show A.units + 1 + 8 < cLine by omega) ⟨nk_is I hk, depth_toN k⟩ h.sys (dn_of I h) ?_
  rw [at_lift]
  exact q _ (I.tok _)
theorem notIn_dicN {a b : Addr} {k : NK} {xs : List (NK × Addr × Value)} {Q : Value → Shared → Prop} {E : Value → Shared → Prop} {A : Around} (hu : A.units + 10 < cLine) (I : L2.Inv X pins σ H s) (h : DnAt X.K ρ H a xs) (hk : NKAt X.K ρ H k b) (q : ∀ s', L2.Inv X pins σ H s' → Q (.bool (!decide (k ∈ xs.map (·.1)))) s') :
    wpAny (model X.prog X.w) A (compareOp .NotIn (.ref b) (.ref a)) Q E s := by
  refine wpAny_notIn_heap (knd := nestedKind X.prog X.w) (k := toN k) (show A.units + 1 + 8 < cLine by omega) ⟨nk_is I hk, depth_toN k⟩ h.sys (dn_of I h) ?_
  rw [at_lift]
  exact q _ (I.tok _)
/-! ### made of a list of pairs -/
theorem at_liftO {xs : List (NK × Addr × Value)} {k : NK} : (atKey (xs.map liftN) (toN k)).isSome = (atKey xs k).isSome := by
  rw [at_lift]
  unfold atKey
  rw [Option.isSome_map, Bool.eq_iff_iff, List.find?_isSome, decide_eq_true_eq]
  constructor
  · intro h
    obtain ⟨x, hx, rfl⟩ := List.mem_map.mp h
    exact ⟨x, hx, decide_eq_true rfl⟩
  · rintro ⟨x, hx, e⟩
    rw [← of_decide_eq_true e]
    exact List.mem_map.mpr ⟨x, hx, rfl⟩
theorem stored_lift {xs : List (NK × Addr × Value)} {k : NK} {a : Addr} {v : Value} : storedH (xs.map liftN) (toN k) a v = (storedH xs k a v).map liftN := by
  unfold storedH
  rw [at_liftO]
  split
  · rw [List.map_map, List.map_map]
    refine List.map_congr_left fun x _ => ?_
    show putAt (toN k) v (liftN x) = liftN (putAt k v x)
    unfold putAt
    by_cases e : x.1 = k
    · rw [if_pos e, if_pos (show (liftN x).1 = toN k by rw [← e]; rfl)]
      rfl
    · rw [if_neg e, if_neg (show ¬ (liftN x).1 = toN k from fun z => e (toN_inj z))]
  · rw [List.map_append]
    rfl
theorem storedAll_lift : ∀ {ys xs : List (NK × Addr × Value)}, storedAllH (xs.map liftN) (ys.map liftN) = (storedAllH xs ys).map liftN
  | [], xs => rfl
  | y :: ys, xs => by
    show storedAllH (storedH (xs.map liftN) (toN y.1) y.2.1 y.2.2) (ys.map liftN) = (storedAllH (storedH xs y.1 y.2.1 y.2.2) ys).map liftN
    rw [stored_lift, storedAll_lift]
theorem stored_keys {xs : List (NK × Addr × Value)} {k : NK} {a : Addr} {v : Value} : (storedH xs k a v).map (·.1) = if k ∈ xs.map (·.1) then xs.map (·.1) else xs.map (·.1) ++ [k] := by
  unfold storedH
  have h : (atKey xs k).isSome = decide (k ∈ xs.map (·.1)) := by rw [← at_liftO, at_lift]
  rw [h]
  by_cases e : k ∈ xs.map (·.1)
  · rw [if_pos (decide_eq_true e), if_pos e, List.map_map]
    refine List.map_congr_left fun x _ => ?_
    show (putAt k v x).1 = x.1
    unfold putAt
    split <;> rfl
  · rw [if_neg (by simpa using e), if_neg e, List.map_append]
    rfl
theorem storedAll_keys : ∀ {ys xs : List (NK × Addr × Value)}, (storedAllH xs ys).map (·.1) = ddN (xs.map (·.1)) (ys.map (·.1))
  | [], xs => rfl
  | y :: ys, xs => by
    show (storedAllH (storedH xs y.1 y.2.1 y.2.2) ys).map (·.1) = ddN (if y.1 ∈ xs.map (·.1) then xs.map (·.1) else xs.map (·.1) ++ [y.1]) (ys.map (·.1))
    rw [storedAll_keys, stored_keys]
theorem stored_all {P : NK → Addr → Prop} {xs : List (NK × Addr × Value)} {k : NK} {a : Addr} {v : Value} (hx : ∀ x ∈ xs, P x.1 x.2.1) (hk : P k a) : ∀ x ∈ storedH xs k a v, P x.1 x.2.1 := by
  unfold storedH
  split
  · intro x h
    obtain ⟨y, hy, rfl⟩ := List.mem_map.mp h
    unfold putAt
    split
    · exact hx y hy
    · exact hx y hy
  · intro x h
    rcases List.mem_append.mp h with h | h
    · exact hx x h
    · rw [List.mem_singleton.mp h]
      exact hk
theorem storedAll_all {P : NK → Addr → Prop} : ∀ {ys xs : List (NK × Addr × Value)}, (∀ x ∈ xs, P x.1 x.2.1) → (∀ y ∈ ys, P y.1 y.2.1) → ∀ x ∈ storedAllH xs ys, P x.1 x.2.1
  | [], xs, hx, _ => hx
  | y :: ys, xs, hx, hy => storedAll_all (ys := ys) (stored_all hx (hy y (List.mem_cons_self ..))) fun z hz => hy z (List.mem_cons_of_mem _ hz)
theorem pairsN (I : L2.Inv X pins σ H s) : ∀ {ps : List Addr} {ks : List NK}, Paired (fun p k => ∃ b v, SqT X.K H p [.ref b, v] ∧ NKAt X.K ρ H k b) ps ks →
    ∃ ys : List (NK × Addr × Value), ys.map (·.1) = ks ∧ (∀ y ∈ ys, NKAt X.K ρ H y.1 y.2.1) ∧ ys.length = ps.length ∧ ∀ (j : Nat) (y : NK × Addr × Value), ys[j]? = some y → ∃ (p : Addr), ps[j]? = some p ∧ s.heap.IsTuple p #[.ref y.2.1, y.2.2]
  | _, _, .nil => ⟨[], rfl, by simp, rfl, fun j q e => by simp at e⟩
  | _, _, .cons (a := p) (b := k) h t => by
    obtain ⟨ys, r, ha, hl, hp⟩ := pairsN I t
    obtain ⟨b, v, h1, h2⟩ := h
    obtain ⟨its, rv, ht, _⟩ := I.tuple h1
    obtain ⟨u, y, ei, ru, ry⟩ := vals2 rv
    subst ei
    cases ru
    refine ⟨(k, b, y) :: ys, by rw [List.map_cons, r], fun z hz => ?_, by rw [List.length_cons, List.length_cons, hl], fun j q e => ?_⟩
    · rcases List.mem_cons.mp hz with rfl | hz
      · exact h2
      · exact ha z hz
    · cases j with
      | zero =>
        cases (show (k, b, y) = q from Option.some.inj e)
        exact ⟨p, rfl, ht⟩
      | succ j =>
        obtain ⟨p', e1, e2⟩ := hp j q (by simpa using e)
        exact ⟨p', by simpa using e1, e2⟩
theorem call_dictN (hc : X.calm = true) (hu : X.A.units + 100 < cLine) : CallR X (.type "dict") (fun xs H Q => ∃ (ρ : Pl) (a : Addr) (ps : List Addr) (ks : List NK), xs = [.ref a] ∧ H a = some (.lst (ps.map V.ref)) ∧ (∀ p, H p = none → p ∉ ρ) ∧ Paired (fun p k => ∃ b v, SqT X.K H p [.ref b, v] ∧ NKAt X.K ρ H k b) ps ks ∧
    ∀ p xs', H p = none → DnAt X.K ρ (upd H p (.ext (DicN p xs'))) p xs' → xs'.map (·.1) = ddN [] ks → Q (.ref p) (upd H p (.ext (DicN p xs')))) := by
  intro pins s σ H xs us Q I r q
  obtain ⟨ρ, a, ps, ks, ex, hl, hρ, hps, q⟩ := q
  subst ex
  obtain ⟨u, eu, rx⟩ := vals1 r
  subst eu
  cases rx
  obtain ⟨ys, eks, hka, hlen, hat⟩ := pairsN I hps
  obtain ⟨hz, its, n, rv, ho⟩ := (show ObjOk X.prog X.w H s.heap a (.lst (ps.map V.ref)) from I.hok a _ hl)
  have ei := refs_at rv
  subst ei
  have hzp : ps.length ≤ sizeLine := by simpa using hz
  have hok : PlainSeq "list" s.heap a (ps.map Value.ref).toArray ∧ PairItems s.heap (ps.map Value.ref).toArray (fun j => ps.getD j 0) (ys.map fun y => (Value.ref y.2.1, y.2.2)) := by
    refine ⟨⟨_, n, ho, rfl, rfl, rfl⟩, by simp [hlen], fun j k v e => ?_⟩
    rw [List.getElem?_map] at e
    obtain ⟨y, ey, e'⟩ := Option.map_eq_some_iff.mp e
    cases e'
    obtain ⟨p, e1, e2⟩ := hat j y ey
    have e3 : ps.getD j 0 = p := by rw [List.getD_eq_getElem?_getD, e1]; rfl
    dsimp only
    rw [e3]
    exact ⟨by simp [e1], .inl e2⟩
  have hfr : H s.heap.objs.size = none := I.hok.fresh (Nat.le_refl _)
  refine call_dict_pairsH (knd := nestedKind X.prog X.w) (ps := ys.map liftN) (PairArg.list a (ps.map Value.ref).toArray (fun j => ps.getD j 0) (ys.map fun y => (Value.ref y.2.1, y.2.2))) (I.ok.hd hc) (show X.A.units + 1 + 1 + 8 < cLine by omega) hok ⟨by simp, fun i key v e => ?_⟩ (fun h' hk y hy => ?_) (by simp [hlen, hzp]) fun h' tk dd hk => ?_
  · have e : (ys.map fun y => (Value.ref y.2.1, y.2.2))[i]? = some (key, v) := e
    rw [List.getElem?_map] at e
    obtain ⟨y, ey, e'⟩ := Option.map_eq_some_iff.mp e
    cases e'
    exact ⟨toN y.1, y.2.1, by rw [List.getElem?_map, ey]; rfl, rfl⟩
  · obtain ⟨z, hz', rfl⟩ := List.mem_map.mp hy
    refine ⟨NestedIs.at (fun b ob vs m hb hc' => ?_) _ _ (nk_is I (hka z hz')), depth_toN _⟩
    exact hk _ _ (Nat.ne_of_lt (Heap.lt_size hb)) (by simp) hb
  · have el : storedAllH ([] : List (NestedKey × Addr × Value)) (ys.map liftN) = (storedAllH [] ys).map liftN := storedAll_lift (xs := [])
    rw [el] at dd
    obtain ⟨o, es, ep, e1, e2, e3, e4, _, e5⟩ := dd
    have e4' : es.toList = (storedAllH [] ys).map entN := by
      rw [e4, List.map_map]
      refine List.map_congr_left fun x _ => ?_
      show (⟨(toN x.1).hash X.w, .ref x.2.1, x.2.2⟩ : DictEntry) = entN x
      rw [hash_toN]
      rfl
    have nd : ((storedAllH [] ys).map (·.1)).Nodup := by
      rw [List.map_map] at e5
      have e6 : ((storedAllH [] ys).map ((fun x => x.1) ∘ liftN)) = ((storedAllH [] ys).map (·.1)).map toN := by rw [List.map_map]; rfl
      rw [e6] at e5
      exact List.Pairwise.imp (fun h z => h (congrArg toN z)) (List.pairwise_map.mp e5)
    have kx : Ext0 ρ H ρ (upd H s.heap.objs.size (.ext (DicN s.heap.objs.size (storedAllH [] ys)))) := Ext0.laid hfr
    refine ⟨.ref s.heap.objs.size, upd H s.heap.objs.size (.ext (DicN s.heap.objs.size (storedAllH [] ys))), I.laid (t' := tk) (fun b u e => hk b u (by simp) e) (Nat.le_refl _) ⟨⟨o, es, ep, e1, e2, e3, e4'⟩, ⟨o, e1⟩, fun h1 h2 p k => ?_⟩, rfl, q _ _ hfr ⟨upd_same, hρ _ hfr, beq_eq_false_iff_ne.mpr (Nat.ne_of_gt I.big), nd, fun x hx => (storedAll_all (P := fun k b => NKAt X.K ρ H k b) (by simp) hka x hx).mono kx.keep⟩ (by rw [storedAll_keys, ← eks]; rfl)⟩
    obtain ⟨o', es', ep', f1, f2, f3, f4⟩ := p
    exact ⟨o', es', ep', k _ f1, f2, f3, f4⟩
end
end Rc
/-! RcM: sorted(xs), min(xs) and min(x, y) of data. -/
namespace PySem
section
variable {prog : Program} {w : World} {A : Around} {E : Value → Shared → Prop} {s : Shared}
/-- min(a, b), compared where H stands -/
theorem call_min_twoH {a b : Value} {Q : Value → Shared → Prop}
    (h : wpAny (model prog w) A.in1 (pyIter (.ref s.heap.objs.size)) (fun it s₂ => ∃ I fp wr G n P St H bt, it = .ref I ∧ WalksS prog w A.in1 I fp wr G n P St ∧ St 0 s₂ ∧ (∀ b ∈ fp, b < s₂.heap.objs.size) ∧ 0 < n ∧
      (∀ b o, H.get? b = some o → b ∉ wr) ∧ (∀ b o, H.get? b = some o → s₂.heap.get? b = some o) ∧ CmpIn prog w A.in1 .Lt H P bt ∧ ∀ v s', P (argBest bt (n - 1)) v → Moved wr G s₂ s' → Q v s') E
      { s with heap := s.heap.push { cls := .type "tuple", data := .seq #[a, b] } }) :
    wpAny (model prog w) A (call (.builtin "min") [a, b]) Q E s := by
  have hname : (toString "min" ++ toString ".loop" : String) = "min.loop" := by decide
  refine call_function_tree F.kind_min F.plain_min F.entry_min (F.args_min2 _ _) ?_
  show wpAny _ A.in1 (Builtin.Builtins.bindParams "min" ["key", "default"] 0 ⟨[], []⟩ >>= _) _ _ s
  refine wpAny_bind (wpAny_of_eq (show Builtin.Builtins.bindParams "min" ["key", "default"] 0 ⟨[], []⟩ = pure [none, none] from rfl) ?_)
  show wpAny _ A.in1 (newTuple [a, b] >>= _) _ _ s
  refine wpAny_bind (wpAny_newObj_type ?_)
  refine wpAny_bind (wpAny_mono h (fun it s₂ h₂ => ?_) fun _ _ e => e)
  obtain ⟨I, fp, wr, G, n, P, St, H, bt, rfl, W, hst, hfp, hn, hw, hkeep, hcmp, hQ⟩ := h₂
  refine wpAny_bind (wpAny_newObj_type ?_)
  have hSf : s₂.heap.objs.size ∉ fp := fun hm => Nat.lt_irrefl _ (hfp _ hm)
  rw [hname]
  refine wpAny_pure ⟨plainId_quiet F.plain_min_loop _, codeAny_min_loop_firstH W H hw bt hcmp s₂.heap.objs.size hSf (fresh_in hkeep) _ hn (fun b o e => Heap.get?_push_of_some _ (hkeep b o e)) (W.frame 0 s₂ _ s₂.toks hst (Nat.le_refl _) fun b _ o e => Heap.get?_push_of_some _ e) (Heap.get?_push_size _ rfl) fun v s' hP hm => ?_⟩
  exact hQ v s' hP (Moved.drop_new (tk := s₂.toks) hm (Nat.le_refl _))
end
end PySem
namespace Rc
open PySem L2 PySem.Spec PyProof.Rows PySem.W
section
variable {X : Cx}
theorem depthAll_le {n : Nat} : ∀ {ds : List PyData}, (∀ d ∈ ds, d.depth ≤ n) → PyData.depthAll ds ≤ n
  | [], _ => by simp [PyData.depthAll]
  | d :: ds, h => by
    rw [PyData.depthAll]
    have h1 := h d (List.mem_cons_self ..)
    have h2 := depthAll_le (ds := ds) fun x hx => h x (List.mem_cons_of_mem _ hx)
    omega
theorem each_vals : ∀ {t : List (V × PyData)} {its : List Value}, Vals (t.map (·.1)) its → EachIs (fun u b => RelV b.1 u) its t
  | [], _, h => by cases h; exact .nil
  | _ :: _, _, h => by
    cases h with
    | cons h1 h2 => exact .cons h1 (each_vals h2)
theorem vals_each : ∀ {t : List (V × PyData)} {its : List Value}, EachIs (fun u b => RelV b.1 u) its t → Vals (t.map (·.1)) its
  | [], _, h => by cases h; exact .nil
  | _ :: _, _, h => by
    cases h with
    | cons h1 h2 => exact .cons h1 (vals_each h2)
theorem each_reads {pins : List (Addr × Obj)} {s : Shared} {σ : L2.St} {H : Hp} (I : Inv X pins σ H s) : ∀ {t : List (V × PyData)} {its : List Value}, (∀ b ∈ t, Dp X.K H b.1 b.2) → EachIs (fun u b => RelV b.1 u) its t → EachIs (fun u b => ∃ as, Reads s.heap u b.2 as) its t
  | [], _, _, h => by cases h; exact .nil
  | b :: t, _, hd, h => by
    cases h with
    | cons h1 h2 => exact .cons (Dp.reads I _ _ _ (hd b (List.mem_cons_self ..)) h1) (each_reads I (fun x hx => hd x (List.mem_cons_of_mem _ hx)) h2)
/-- sorted(xs) of data -/
theorem cr_sortD (hu : X.A.units + 100 < cLine) : CallR X (.builtin "sorted") (fun vs H Q => ∃ (a : Addr) (t : List (V × PyData)), vs = [.ref a] ∧ SqL X.K H a (t.map (·.1)) ∧ (∀ b ∈ t, Dp X.K H b.1 b.2 ∧ b.2.depth ≤ 20) ∧ AllAlike (t.map (·.2)) ∧ Sortable (t.map (·.2)) ∧ ∀ p, H p = none → Q (.ref p) (upd H p (.lst ((t.mergeSort (dataLe false (·.2))).map (·.1))))) := by
  intro pins s σ H vs us Q I r h
  obtain ⟨a, t, rfl, hs, hd, hal, hk, q⟩ := h
  obtain ⟨its, rv, hl, hz⟩ := I.list hs
  rw [Vals.ref1 r]
  have e := each_vals rv
  have er := each_reads I (fun b hb => (hd b hb).1) e
  rw [List.length_map] at hz
  refine sorted_data (enc := fun b : V × PyData => b.2) hl.isList e er hal hk hz (fun b hb => by have := (hd b hb).2; omega) fun out ho eo => ?_
  obtain ⟨ep, he'⟩ := PyProof.Rows.sortedAll_at s.heap its out.toArray
  refine ⟨.ref _, upd H (s.heap.objs.size + 1) (.lst ((t.mergeSort (dataLe false (·.2))).map (·.1))), I.laid (t' := s.toks) (fun _ _ => PyProof.Rows.sortedAll_old) (Nat.le_succ _) ⟨?_, out, ep, vals_each eo, he'⟩, rfl, q _ (I.hok.fresh (Nat.le_succ _))⟩
  rw [List.length_map, List.length_mergeSort]
  exact hz
def minP {α : Type} (k : α → PyData) (x : α) (t : List α) : α := t.foldl (fun a y => if dataLt (k y) (k a) then y else a) x
theorem getD_map' {α β : Type} {f : α → β} {d : α} {l : List α} {i : Nat} : (l.map f).getD i (f d) = f (l.getD i d) := by
  rw [List.getD_eq_getElem?_getD, List.getD_eq_getElem?_getD, List.getElem?_map]
  cases l[i]? <;> rfl
theorem vals_at {t : List (V × PyData)} : ∀ {its : List Value}, Vals (t.map (·.1)) its → ∀ {i : Nat} {v : Value}, its[i]? = some v → ∃ b, t[i]? = some b ∧ RelV b.1 v := by
  induction t with
  | nil => intro its h i v hv; cases h; simp at hv
  | cons b t ih =>
    intro its h i v hv
    cases h with
    | cons h1 h2 =>
      cases i with
      | zero =>
        have := Option.some.inj (show some _ = some v from hv)
        subst this
        exact ⟨b, rfl, h1⟩
      | succ i => exact ih h2 (by simpa using hv)
theorem best_at (x : V × PyData) (t : List (V × PyData)) : (x :: t).getD (argBest (fun i j => dataLt (((x :: t).map (·.2)).getD i .none) (((x :: t).map (·.2)).getD j .none)) t.length) (.non, .none) = minP (·.2) x t := by
  have e := (argBest_fold (fun a b : V × PyData => dataLt a.2 b.2) (.non, .none) x t t.length (Nat.le_refl _)).2
  rw [List.take_length] at e
  have : (fun i j => dataLt (((x :: t).map (·.2)).getD i .none) (((x :: t).map (·.2)).getD j .none)) = fun i j => dataLt ((x :: t).getD i (.non, .none)).2 ((x :: t).getD j (.non, .none)).2 := by
    funext i j
    rw [show (((x :: t).map (·.2)).getD i .none) = ((x :: t).getD i (V.non, PyData.none)).2 from getD_map' (d := (V.non, PyData.none)), show (((x :: t).map (·.2)).getD j .none) = ((x :: t).getD j (V.non, PyData.none)).2 from getD_map' (d := (V.non, PyData.none))]
  rw [this]
  exact e
/-- min(xs) of data -/
theorem cr_minD (hc : X.calm = true) (hu : X.A.units + 100 < cLine) : CallR X (.builtin "min") (fun vs H Q => ∃ (a : Addr) (x : V × PyData) (t : List (V × PyData)), vs = [.ref a] ∧ SqL X.K H a ((x :: t).map (·.1)) ∧ (∀ b ∈ x :: t, Dp X.K H b.1 b.2 ∧ b.2.depth ≤ 20) ∧ AlikeAll ((x :: t).map (·.2)) ∧ Q (minP (·.2) x t).1 H) := by
  intro pins s σ H vs us Q I r h
  obtain ⟨a, x, t, rfl, hs, hd, hal, q⟩ := h
  obtain ⟨its, rv, hl, hz⟩ := I.list hs
  rw [Vals.ref1 r]
  have er := each_reads I (fun b hb => (hd b hb).1) (each_vals rv)
  obtain ⟨as, hr⟩ := each_readsAll (fun b : V × PyData => b.2) er
  have hdep : PyData.depthAll ((x :: t).map (·.2)) ≤ 20 := depthAll_le fun d hm => by
    obtain ⟨b, hb, rfl⟩ := List.mem_map.mp hm
    exact (hd b hb).2
  have hn : its.length = t.length + 1 := by
    have := rv.length
    simp at this
    omega
  refine call_min_walkH (iter_listW (A := X.A.in1) (I.ok.hd hc) hl.isList fun s₂ e W st hfp hw hk => ?_)
  refine ⟨_, _, _, _, _, _, _, s.heap, _, rfl, W, st, hfp, by simp; omega, hw, hk, cmpIn_lt (A := X.A.in1) (vs := its.toArray) (by simpa using hr) hal (by show X.A.units + 1 + _ < _; omega), fun v s' hP m => ?_⟩
  obtain ⟨h', tk, rfl, hk'⟩ := moved_old e rfl m
  have e1 : its.toArray.size - 1 = t.length := by simp; omega
  rw [e1] at hP
  rw [List.getElem?_toArray] at hP
  obtain ⟨b, hb, rb⟩ := vals_at rv hP
  have hb' : (x :: t).getD (argBest (fun i j => dataLt (((x :: t).map (·.2)).getD i .none) (((x :: t).map (·.2)).getD j .none)) t.length) (.non, .none) = b := by
    rw [List.getD_eq_getElem?_getD, hb]
    rfl
  rw [best_at] at hb'
  rw [← hb'] at rb
  exact ⟨_, H, I.kept hk', rb, q⟩
/-- min(x, y) of data -/
theorem cr_min2D (hc : X.calm = true) (hu : X.A.units + 100 < cLine) : CallR X (.builtin "min") (fun vs H Q => ∃ (x y : V × PyData), vs = [x.1, y.1] ∧ (∀ b ∈ [x, y], Dp X.K H b.1 b.2 ∧ b.2.depth ≤ 20) ∧ AlikeAll ([x, y].map (·.2)) ∧ Q (minP (·.2) x [y]).1 H) := by
  intro pins s σ H vs us Q I r h
  obtain ⟨x, y, rfl, hd, hal, q⟩ := h
  obtain ⟨u, w', rfl, r1, r2⟩ := vals2 r
  have rv : Vals ([x, y].map (·.1)) [u, w'] := .cons r1 (.cons r2 .nil)
  have er := each_reads I (fun b hb => (hd b hb).1) (each_vals rv)
  obtain ⟨as, hr⟩ := each_readsAll (fun b : V × PyData => b.2) er
  have hdep : PyData.depthAll ([x, y].map (·.2)) ≤ 20 := depthAll_le fun d hm => by
    obtain ⟨b, hb, rfl⟩ := List.mem_map.mp hm
    exact (hd b hb).2
  have hT : (s.heap.push { cls := .type "tuple", data := .seq #[u, w'] }).IsTuple s.heap.objs.size #[u, w'] := ⟨_, Heap.get?_push_size _ rfl, rfl, 0, rfl⟩
  have hkp : ∀ b o, s.heap.get? b = some o → (s.heap.push { cls := .type "tuple", data := .seq #[u, w'] }).get? b = some o := fun b o e => Heap.get?_push_of_some _ e
  have hr' : ReadsAll (s.heap.push { cls := .type "tuple", data := .seq #[u, w'] }) [u, w'] ([x, y].map (·.2)) as := PyProof.Rows.ReadsAll.keeps hkp hr
  refine call_min_twoH (iter_tupleW (A := X.A.in1) (s := { s with heap := s.heap.push { cls := .type "tuple", data := .seq #[u, w'] } }) (I.ok.hd hc) hT fun s₂ e W st hfp hw hk => ?_)
  refine ⟨_, _, _, _, _, _, _, s.heap.push { cls := .type "tuple", data := .seq #[u, w'] }, _, rfl, W, st, hfp, by simp, hw, hk, cmpIn_lt (A := X.A.in1) (s := { s with heap := s.heap.push { cls := .type "tuple", data := .seq #[u, w'] } }) (vs := #[u, w']) hr' hal (by show X.A.units + 1 + _ < _; omega), fun v s' hP m => ?_⟩
  obtain ⟨h', tk, rfl, hk'⟩ := moved_old (s := { s with heap := s.heap.push { cls := .type "tuple", data := .seq #[u, w'] } }) e rfl m
  have hP : [u, w'][argBest (fun i j => dataLt (([x, y].map (·.2)).getD i .none) (([x, y].map (·.2)).getD j .none)) 1]? = some v := by
    have e : (#[u, w'] : Array Value) = [u, w'].toArray := rfl
    rw [e, List.getElem?_toArray] at hP
    exact hP
  obtain ⟨b, hb, rb⟩ := vals_at (t := [x, y]) rv hP
  have hb' : [x, y].getD (argBest (fun i j => dataLt (([x, y].map (·.2)).getD i .none) (([x, y].map (·.2)).getD j .none)) 1) (.non, .none) = b := by
    rw [List.getD_eq_getElem?_getD, hb]
    rfl
  rw [show (1 : Nat) = [y].length from rfl, best_at] at hb'
  rw [← hb'] at rb
  exact ⟨_, H, I.kept (fun b o e => hk' b o (hkp b o e)), rb, q⟩
end
end Rc
/-! Rc3: the operations of the small language, over the layer's rules. -/
namespace Rc
open PySem L2

section
variable {K : PySem.W.Frag} {W : WX} {σ : L2.St} {ρ : Pl} {H : Hp} {Q : VK} {st : Store}
theorem post_v {new : Bool} {v : Val} {w : V} (p : Post K (Rep K) W σ ρ H Q (mk new (.v v) st)) (s : RelS K ρ st H) (r : Rep K ρ H v w) : Q w H := Post.ret p s r
theorem post_l {new : Bool} {vs : List Val} {ws : List V} (p : Post K (Rep K) W σ ρ H Q (mk new (.l vs) st)) (s : RelS K ρ st H) (r : RepL K ρ H vs ws) : ∀ a, H a = none → Q (.ref a) (upd H a (.lst ws)) := fun a h => by
  cases new with
  | false =>
    have p' : Post K (Rep K) W σ ρ H Q (ret (.lst vs) st) := p
    exact p' ρ (.ref a) _ (s.laid h).2 (s.laid h).1 (.lst upd_same (s.fresh h) (r.ext0 (.laid h)))
  | true =>
    have p' : Post K (Rep K) W σ ρ H Q (.ok (.loc st.length) (st ++ [.lst vs])) := p
    have z := s.newLoc (o := .lst vs) h (.lst (r.ext0 (.newLoc h)))
    refine p' (ρ.push a) (.ref a) _ z.2 z.1 (.loc ?_)
    show (ρ.ps ++ [a])[st.length]? = some a
    rw [← s.len]; simp
theorem post_dK {new : Bool} {kvs : List (Key × Val)} {kws : List (Key × V)} (p : Post K (Rep K) W σ ρ H Q (mk new (.d kvs) st)) (s : RelS K ρ st H) (hk : kvs.map (·.1) = kws.map (·.1)) (r : RepL K ρ H (kvs.map (·.2)) (kws.map (·.2))) : ∀ a, H a = none → Q (.ref a) (upd H a (.dK kws)) := fun a h => by
  cases new with
  | false =>
    have p' : Post K (Rep K) W σ ρ H Q (ret (.dK (kvs.map (·.1)) (kvs.map (·.2))) st) := p
    rw [hk] at p'
    exact p' ρ (.ref a) _ (s.laid h).2 (s.laid h).1 (.dK upd_same (s.fresh h) (r.ext0 (.laid h)))
  | true =>
    have p' : Post K (Rep K) W σ ρ H Q (.ok (.loc st.length) (st ++ [.dK kvs])) := p
    have z := s.newLoc (o := .dK kvs) (u := .dK kws) h (.dK hk (r.ext0 (.newLoc h)))
    refine p' (ρ.push a) (.ref a) _ z.2 z.1 (.loc ?_)
    show (ρ.ps ++ [a])[st.length]? = some a
    rw [← s.len]; simp
theorem post_dT0 (p : Post K (Rep K) W σ ρ H Q (mk true (.t []) st)) (s : RelS K ρ st H) : ∀ a, H a = none → Q (.ref a) (upd H a (.dT [])) := fun a h => by
  have p' : Post K (Rep K) W σ ρ H Q (.ok (.loc st.length) (st ++ [.dT []])) := p
  have z := s.newLoc (o := .dT []) (u := .dT []) h (.dT rfl .nil)
  refine p' (ρ.push a) (.ref a) _ z.2 z.1 (.loc ?_)
  show (ρ.ps ++ [a])[st.length]? = some a
  rw [← s.len]; simp
theorem post_t {vs : List Val} {ws : List V} (p : Post K (Rep K) W σ ρ H Q (ret (.tup vs) st)) (s : RelS K ρ st H) (r : RepL K ρ H vs ws) : ∀ a, H a = none → Q (.ref a) (upd H a (.tup ws)) := fun a h =>
  p ρ (.ref a) _ (s.laid h).2 (s.laid h).1 (.tup ⟨upd_same, s.fresh h⟩ (r.ext0 (.laid h)))
end

/-! ### dicts -/
section
variable {K : PySem.W.Frag} {ρ : Pl} {H : Hp} {κ : Type} [DecidableEq κ]
structure DRel (K : PySem.W.Frag) (ρ : Pl) (H : Hp) (kvs : List (κ × Val)) (kws : List (κ × V)) : Prop where
  keys : kvs.map (·.1) = kws.map (·.1)
  vals : RepL K ρ H (kvs.map (·.2)) (kws.map (·.2))
theorem DRel.ind {P : List (κ × Val) → List (κ × V) → Prop} (h0 : P [] []) (h1 : ∀ k v w kvs kws, Rep K ρ H v w → DRel K ρ H kvs kws → P kvs kws → P ((k, v) :: kvs) ((k, w) :: kws)) : ∀ {kvs : List (κ × Val)} {kws : List (κ × V)}, DRel K ρ H kvs kws → P kvs kws
  | [], [], _ => h0
  | [], _ :: _, h => by have := h.keys; simp at this
  | _ :: _, [], h => by have := h.keys; simp at this
  | (k, v) :: kvs, (j, w) :: kws, h => by
    have hk := h.keys
    simp only [List.map_cons, List.cons.injEq] at hk
    obtain ⟨rfl, hk⟩ := hk
    cases h.vals with
    | cons r q => exact h1 _ _ _ _ _ r ⟨hk, q⟩ (DRel.ind h0 h1 ⟨hk, q⟩)
theorem DRel.nil : DRel K ρ H ([] : List (κ × Val)) [] := ⟨rfl, .nil⟩
theorem DRel.cons {k : κ} {v : Val} {w : V} {kvs : List (κ × Val)} {kws : List (κ × V)} (r : Rep K ρ H v w) (h : DRel K ρ H kvs kws) : DRel K ρ H ((k, v) :: kvs) ((k, w) :: kws) := ⟨by simp [h.keys], .cons r h.vals⟩
theorem DRel.look {kvs : List (κ × Val)} {kws : List (κ × V)} (h : DRel K ρ H kvs kws) (k : κ) : (look kvs k = none ∧ valV kws k = none) ∨ ∃ v w, look kvs k = some v ∧ valV kws k = some w ∧ Rep K ρ H v w := by
  refine DRel.ind (P := fun kvs kws => (Rc.look kvs k = none ∧ valV kws k = none) ∨ ∃ v w, Rc.look kvs k = some v ∧ valV kws k = some w ∧ Rep K ρ H v w) (.inl ⟨rfl, rfl⟩) (fun j v w kvs kws r q ih => ?_) h
  by_cases e : j = k
  · exact .inr ⟨v, w, by simp [Rc.look, e], by simp [valV, e], r⟩
  · rcases ih with ⟨a, b⟩ | ⟨v', w', a, b, r'⟩
    · exact .inl ⟨by simpa [Rc.look, e] using a, by simpa [valV, e] using b⟩
    · exact .inr ⟨v', w', by simpa [Rc.look, e] using a, by simpa [valV, e] using b, r'⟩
theorem DRel.repl {kvs : List (κ × Val)} {kws : List (κ × V)} (h : DRel K ρ H kvs kws) (k : κ) {v : Val} {w : V} (r : Rep K ρ H v w) : DRel K ρ H (kvs.map fun kv => if kv.1 = k then (kv.1, v) else kv) (kws.map fun kv => if kv.1 = k then (kv.1, w) else kv) := by
  refine DRel.ind (P := fun kvs kws => DRel K ρ H (kvs.map fun kv => if kv.1 = k then (kv.1, v) else kv) (kws.map fun kv => if kv.1 = k then (kv.1, w) else kv)) .nil (fun j v' w' kvs kws r' q ih => ?_) h
  rw [List.map_cons, List.map_cons]
  by_cases e : j = k
  · rw [if_pos e, if_pos e]
    exact .cons r ih
  · rw [if_neg e, if_neg e]
    exact .cons r' ih
theorem DRel.snoc {kvs : List (κ × Val)} {kws : List (κ × V)} (h : DRel K ρ H kvs kws) (k : κ) {v : Val} {w : V} (r : Rep K ρ H v w) : DRel K ρ H (kvs ++ [(k, v)]) (kws ++ [(k, w)]) :=
  ⟨by simp [h.keys], by rw [List.map_append, List.map_append]; exact h.vals.append (.cons r .nil)⟩
theorem DRel.any {kvs : List (κ × Val)} {kws : List (κ × V)} (h : DRel K ρ H kvs kws) (k : κ) : (kvs.any fun kv => decide (kv.1 = k)) = kws.any fun kv => decide (kv.1 = k) := by
  have e : ∀ {α : Type} (l : List (κ × α)), (l.any fun kv => decide (kv.1 = k)) = (l.map (·.1)).any fun j => decide (j = k) := fun l => by
    rw [List.any_map]
    rfl
  rw [e, e, h.keys]
theorem DRel.put {kvs : List (κ × Val)} {kws : List (κ × V)} (h : DRel K ρ H kvs kws) (k : κ) {v : Val} {w : V} (r : Rep K ρ H v w) : DRel K ρ H (put kvs k v) (putK kws k w) := by
  unfold Rc.put putK
  rw [h.any k]
  split
  · exact h.repl k r
  · exact h.snoc k r
theorem DRel.drp {kvs : List (κ × Val)} {kws : List (κ × V)} (h : DRel K ρ H kvs kws) (k : κ) : DRel K ρ H (drp kvs k) (dropK kws k) := by
  refine DRel.ind (P := fun kvs kws => DRel K ρ H (Rc.drp kvs k) (dropK kws k)) .nil (fun j v w kvs kws r q ih => ?_) h
  unfold Rc.drp dropK at ih ⊢
  by_cases e : j = k
  · simpa [e] using ih
  · simpa [e] using DRel.cons r ih
theorem DRel.len {kvs : List (κ × Val)} {kws : List (κ × V)} (h : DRel K ρ H kvs kws) : kvs.length = kws.length := by
  have := congrArg List.length h.keys
  simpa using this
omit [DecidableEq κ] in
theorem DRel.ext0 {ρ' : Pl} {H' : Hp} {kvs : List (κ × Val)} {kws : List (κ × V)} (h : DRel K ρ H kvs kws) (e : Ext0 ρ H ρ' H') : DRel K ρ' H' kvs kws := ⟨h.keys, h.vals.ext0 e⟩
omit [DecidableEq κ] in
theorem DRel.zip {vs : List Val} {kws : List (κ × V)} (h : RepL K ρ H vs (kws.map (·.2))) : DRel K ρ H ((kws.map (·.1)).zip vs) kws := by
  have hl := h.length
  rw [List.length_map] at hl
  refine ⟨?_, ?_⟩
  · rw [List.map_fst_zip (by simp [hl])]
  · rw [List.map_snd_zip (by simp [hl])]
    exact h
end
theorem keyOf_rep {K : PySem.W.Frag} {ρ : Pl} {H : Hp} {v : Val} {x : V} {k : Key} (r : Rep K ρ H v x) (e : keyOf v = some k) : x = kV k := by
  cases r <;> cases e <;> rfl
theorem keysT_rep {K : PySem.W.Frag} {ρ : Pl} {H : Hp} : ∀ {vs : List Val} {ws : List V} {k : List Key}, RepL K ρ H vs ws → mapO keyOf vs = some k → ws = k.map kV
  | _, _, _, .nil, e => by cases e; rfl
  | _, _, _, .cons r q, e => by
    unfold mapO at e
    obtain ⟨d, e1, e2⟩ := Option.bind_eq_some_iff.mp e
    obtain ⟨ds, e3, rfl⟩ := Option.map_eq_some_iff.mp e2
    rw [keyOf_rep r e1, keysT_rep q e3]
    rfl
theorem keyT_rep {K : PySem.W.Frag} {ρ : Pl} {H : Hp} {v : Val} {x : V} {k : List Key} (r : Rep K ρ H v x) (e : keyT v = some k) : ∃ b, x = .ref b ∧ H b = some (.tup (k.map kV)) := by
  cases r with
  | @tup a ws vs t q =>
    have e : mapO keyOf vs = some k := e
    refine ⟨a, rfl, ?_⟩
    rw [← keysT_rep q e]
    exact t.1
  | _ => cases e
theorem Rep.keyVal {K : PySem.W.Frag} {ρ : Pl} {H : Hp} (k : Key) : Rep K ρ H (keyVal k) (kV k) := by
  cases k with
  | inl i => exact .int i
  | inr s => exact .str s
/-- an operation of two values, by what it is to give -/
def rOp (K : PySem.W.Frag) (g : Val → Val → M Val) : R2 := fun x y H Q => ∃ (W : WX) (σ : L2.St) (ρ : Pl) (st : Store) (v w : Val), RelS K ρ st H ∧ Rep K ρ H v x ∧ Rep K ρ H w y ∧ Post K (Rep K) W σ ρ H Q (g v w st)
theorem tOp_of {K : PySem.W.Frag} {W : WX} {m1 m2 : Env → M Val} {g : Val → Val → M Val} {σ : L2.St} {H : Hp} {Q : VK} (h : tE K W (fun env => bnd (m1 env) fun v => bnd (m2 env) fun w => g v w) σ H Q) : tOp (rOp K g) (tE K W m1) (tE K W m2) σ H Q := by
  obtain ⟨ρ, env, st, rE, rS, p⟩ := h
  refine ⟨ρ, env, st, rE, rS, Post.bnd p fun v st1 ρ1 x H1 e1 s1 q1 p1 => ?_⟩
  refine ⟨ρ1, env, st1, rE.ext e1, s1, Post.bnd p1 fun w st2 ρ2 y H2 e2 s2 q2 p2 => ?_⟩
  exact ⟨W, σ, ρ2, st2, v, w, s2, q1.ext e2, q2, p2⟩
def rUn (K : PySem.W.Frag) (g : Val → M Val) : V → Hp → VK → Prop := fun x H Q => ∃ (W : WX) (σ : L2.St) (ρ : Pl) (st : Store) (v : Val), RelS K ρ st H ∧ Rep K ρ H v x ∧ Post K (Rep K) W σ ρ H Q (g v st)
theorem tUn_of {K : PySem.W.Frag} {W : WX} {m1 : Env → M Val} {g : Val → M Val} {σ : L2.St} {H : Hp} {Q : VK} (h : tE K W (fun env => bnd (m1 env) g) σ H Q) : tUn (rUn K g) (tE K W m1) σ H Q := by
  obtain ⟨ρ, env, st, rE, rS, p⟩ := h
  refine ⟨ρ, env, st, rE, rS, Post.bnd p fun v st1 ρ1 x H1 e1 s1 q1 p1 => ?_⟩
  exact ⟨W, σ, ρ1, st1, v, s1, q1, p1⟩

section
variable {X : Cx}
/-! ### arithmetic -/
theorem op_add_S {new : Bool} : OpR X (binaryOp .Add) (rOp X.K fun v w st => bnd (ofOpt (opAdd st v w)) (mk new) st) := by
  intro pins s σ H x y v u Q I rx ry h
  obtain ⟨W, σ', ρ, st, a, b, rS, ra, rb, p0⟩ := h
  obtain ⟨pv, e, p⟩ := Post.opt p0
  clear p0
  unfold opAdd at e
  split at e
  · cases e; cases ra; cases rb
    exact op_add pins s σ H _ _ v u Q I rx ry ⟨_, _, rfl, rfl, post_v p rS (.int _)⟩
  · split at e
    · rename_i hz
      cases e; cases ra; cases rb
      exact op_add_str pins s σ H _ _ v u Q I rx ry ⟨_, _, rfl, rfl, of_decide_eq_true hz, post_v p rS (.str _)⟩
    · cases e
  · split at e
    · rename_i xs ys hz
      cases e
      cases ra with
      | @tup a1 ws _ ta qa =>
        cases rb with
        | @tup a2 zs _ tb qb =>
          have l1 := qa.length
          have l2 := qb.length
          have hz' : xs.length + ys.length ≤ sizeLine := of_decide_eq_true hz
          refine op_catA pins s σ H _ _ v u Q I rx ry ⟨a1, a2, ws, zs, rfl, rfl, ta.sq, tb.sq, by omega, fun e => ?_, fun _ e => ?_, fun _ _ => post_t p rS (qa.append qb)⟩
          · subst e
            have : xs = [] := List.eq_nil_of_length_eq_zero l1
            subst this
            exact Post.ret p rS (.tup tb qb)
          · subst e
            have : ys = [] := List.eq_nil_of_length_eq_zero l2
            subst this
            rw [List.append_nil] at p
            exact Post.ret p rS (.tup ta qa)
    · cases e
  · split at e
    · rename_i xs ys e1 e2
      split at e
      · rename_i hz
        cases e
        obtain ⟨a1, ws, rfl, h1, q1⟩ := ra.lstOf rS e1
        obtain ⟨a2, zs, rfl, h2, q2⟩ := rb.lstOf rS e2
        have hz' : xs.length + ys.length ≤ sizeLine := of_decide_eq_true hz
        have l1 := q1.length
        have l2 := q2.length
        exact op_cat pins s σ H _ _ v u Q I rx ry ⟨a1, a2, ws, zs, rfl, rfl, h1, h2, by omega, post_l p rS (q1.append q2)⟩
      · cases e
    · cases e
theorem post_map {K : PySem.W.Frag} {W : WX} {σ : L2.St} {ρ : Pl} {H : Hp} {Q : VK} {st : Store} {new : Bool} {o : Option Val} (p : Post K (Rep K) W σ ρ H Q (bnd (ofOpt (o.map Pv.v)) (mk new) st)) : ∃ v, o = some v ∧ Post K (Rep K) W σ ρ H Q (ret v st) := by
  cases o with
  | none => exact p.elim
  | some v => exact ⟨v, rfl, p⟩
theorem op_sub_S {new : Bool} : OpR X (binaryOp .Sub) (rOp X.K fun v w st => bnd (ofOpt ((opSub v w).map Pv.v)) (mk new) st) := by
  intro pins s σ H x y v u Q I rx ry h
  obtain ⟨W, σ', ρ, st, a, b, rS, ra, rb, p⟩ := h
  obtain ⟨pv, e, p⟩ := post_map p
  unfold opSub at e
  split at e
  · cases e; cases ra; cases rb
    exact op_sub pins s σ H _ _ v u Q I rx ry ⟨_, _, rfl, rfl, Post.ret p rS (.int _)⟩
  · cases e
theorem op_mod_S {new : Bool} : OpR X (binaryOp .Mod) (rOp X.K fun v w st => bnd (ofOpt ((opMod v w).map Pv.v)) (mk new) st) := by
  intro pins s σ H x y v u Q I rx ry h
  obtain ⟨W, σ', ρ, st, a, b, rS, ra, rb, p⟩ := h
  obtain ⟨pv, e, p⟩ := post_map p
  unfold opMod at e
  split at e
  · split at e
    · rename_i hz
      cases e; cases ra; cases rb
      exact op_mod pins s σ H _ _ v u Q I rx ry ⟨_, _, rfl, rfl, hz, Post.ret p rS (.int _)⟩
    · cases e
  · cases e
theorem op_div_S {new : Bool} : OpR X (binaryOp .FloorDiv) (rOp X.K fun v w st => bnd (ofOpt ((opDiv v w).map Pv.v)) (mk new) st) := by
  intro pins s σ H x y v u Q I rx ry h
  obtain ⟨W, σ', ρ, st, a, b, rS, ra, rb, p⟩ := h
  obtain ⟨pv, e, p⟩ := post_map p
  unfold opDiv at e
  split at e
  · split at e
    · rename_i hz
      cases e; cases ra; cases rb
      have hz' := Bool.and_eq_true_iff.mp hz
      exact op_fdiv pins s σ H _ _ v u Q I rx ry ⟨_, _, rfl, rfl, ⟨of_decide_eq_true hz'.1, of_decide_eq_true hz'.2⟩, Post.ret p rS (.int _)⟩
    · cases e
  · cases e
theorem op_pow_S {new : Bool} : OpR X (binaryOp .Pow) (rOp X.K fun v w st => bnd (ofOpt ((opPow v w).map Pv.v)) (mk new) st) := by
  intro pins s σ H x y v u Q I rx ry h
  obtain ⟨W, σ', ρ, st, a, b, rS, ra, rb, p⟩ := h
  obtain ⟨pv, e, p⟩ := post_map p
  unfold opPow at e
  split at e
  · split at e
    · rename_i hz
      cases e; cases ra; cases rb
      have hz' := Bool.and_eq_true_iff.mp hz
      have hz2 := Bool.and_eq_true_iff.mp hz'.1
      exact op_pow pins s σ H _ _ v u Q I rx ry ⟨_, _, rfl, rfl, ⟨of_decide_eq_true hz2.1, of_decide_eq_true hz2.2, of_decide_eq_true hz'.2⟩, Post.ret p rS (.int _)⟩
    · cases e
  · cases e
theorem un_neg_S : UnR X (unaryOp .USub) (rUn X.K fun v => bnd (asInt v) fun i => ret (.int (-i))) := by
  intro pins s σ H x v Q I rx h
  obtain ⟨W, σ', ρ, st, a, rS, ra, p⟩ := h
  obtain ⟨i, rfl, p⟩ := Post.asInt p
  cases ra
  exact un_neg pins s σ H _ v Q I rx ⟨_, rfl, Post.ret p rS (.int _)⟩
end

/-! ### what stands in an object -/
section
variable {K : PySem.W.Frag} {ρ : Pl} {st : Store} {H : Hp} {w : Val} {y : V} {c : Val}
/-- a list, a tuple, a dict: what is asked of it gives c -/
inductive IxIs (K : PySem.W.Frag) (ρ : Pl) (H : Hp) (c : Val) : V → V → Prop
  | seq {a : Addr} {ws : List V} {i : Int} {z : V} : SqL K H a ws → atI ws i = some z → Rep K ρ H c z → IxIs K ρ H c (.ref a) (.int i)
  | tup {a : Addr} {ws : List V} {i : Int} {z : V} : SqT K H a ws → atI ws i = some z → Rep K ρ H c z → IxIs K ρ H c (.ref a) (.int i)
  | dic {a : Addr} {y z : V} : DGet H a y (some z) → Rep K ρ H c z → IxIs K ρ H c (.ref a) y
end
/-! ### data -/
/-- all items have data -/
theorem mapO_dp {K : PySem.W.Frag} {ρ : Pl} {H : Hp} {f : Val → Option PyData} {n : Nat} (h : ∀ {v : Val} {w : V} {d : PyData}, Rep K ρ H v w → f v = some d → Dp K H w d ∧ d.canLay0 = true ∧ d.depth ≤ n) :
    ∀ {vs : List Val} {ws : List V} {ds : List PyData}, RepL K ρ H vs ws → mapO f vs = some ds → DpAll K H ws ds ∧ PyData.canLayAll0 ds = true ∧ PyData.depthAll ds ≤ n
  | _, _, _, .nil, e => by
    cases e
    exact ⟨.nil, rfl, Nat.zero_le _⟩
  | _, _, _, .cons r q, e => by
    unfold mapO at e
    obtain ⟨d, e1, e2⟩ := Option.bind_eq_some_iff.mp e
    obtain ⟨ds, e3, rfl⟩ := Option.map_eq_some_iff.mp e2
    obtain ⟨a1, a2, a3⟩ := h r e1
    obtain ⟨b1, b2, b3⟩ := mapO_dp h q e3
    refine ⟨.cons a1 b1, ?_, ?_⟩
    · show (d.canLay0 && PyData.canLayAll0 ds) = true
      rw [a2, b2]; rfl
    · show max d.depth (PyData.depthAll ds) ≤ n
      omega
/-- a value and its data -/
theorem Rep.dp {K : PySem.W.Frag} {ρ : Pl} {st : Store} {H : Hp} (rS : RelS K ρ st H) : ∀ (n : Nat) {v : Val} {w : V} {d : PyData}, Rep K ρ H v w → toD st n v = some d → Dp K H w d ∧ d.canLay0 = true ∧ d.depth ≤ n
  | 0, _, _, _, _, e => by cases e
  | n + 1, v, w, d, r, e => by
    have ih := fun {v : Val} {w : V} {d : PyData} => Rep.dp rS n (v := v) (w := w) (d := d)
    unfold toD at e
    cases r with
    | non => cases e; exact ⟨.non, rfl, Nat.zero_le _⟩
    | bl b => cases e; exact ⟨.bl b, rfl, Nat.zero_le _⟩
    | int i => cases e; exact ⟨.int i, rfl, Nat.zero_le _⟩
    | str s =>
      dsimp only at e
      split at e
      · rename_i hs
        cases e; exact ⟨.str s, hs, Nat.zero_le _⟩
      · cases e
    | @tup a ws vs t q =>
      obtain ⟨ds, e1, rfl⟩ := Option.map_eq_some_iff.mp e
      obtain ⟨h1, h2, h3⟩ := mapO_dp ih q e1
      exact ⟨.tup t.sq h1, h2, Nat.succ_le_succ h3⟩
    | @lst a ws vs t ne q =>
      obtain ⟨ds, e1, rfl⟩ := Option.map_eq_some_iff.mp e
      obtain ⟨h1, h2, h3⟩ := mapO_dp ih q e1
      exact ⟨.lst (.of t) h1, h2, Nat.succ_le_succ h3⟩
    | @loc l a h =>
      dsimp only at e
      split at e
      · rename_i xs q
        obtain ⟨u, e1, e2⟩ := rS.at_ l a _ h q
        cases e2 with
        | lst q =>
          obtain ⟨ds, e3, rfl⟩ := Option.map_eq_some_iff.mp e
          obtain ⟨h1, h2, h3⟩ := mapO_dp ih q e3
          exact ⟨.lst (.of e1) h1, h2, Nat.succ_le_succ h3⟩
      · cases e
    | dK _ _ _ => cases e
    | dT _ _ _ => cases e
    | scr _ => cases e
    | dN _ => cases e
section
variable {X : Cx}
theorem shaped_of {n : Nat} {d : PyData} (h1 : d.canLay0 = true) (h2 : d.depth ≤ n) (h3 : n ≤ 64) : SeqAt.shaped d = true := by
  unfold SeqAt.shaped
  rw [h1, Bool.true_and]
  exact decide_eq_true (Nat.le_trans h2 h3)
/-- == on values: one of two rules -/
theorem veq_ok {K : PySem.W.Frag} {ρ : Pl} {st : Store} {H : Hp} (rS : RelS K ρ st H) {v w : Val} {x y : V} {b : Bool} (rv : Rep K ρ H v x) (rw' : Rep K ρ H w y) (e : veq st v w = some b) :
    (scal x y = true ∧ decide (x = y) = b) ∨ ∃ d e', Dp K H x d ∧ Dp K H y e' ∧ SeqAt.shaped d = true ∧ SeqAt.shaped e' = true ∧ PyData.eqv d e' = b := by
  unfold veq at e
  split at e
  · cases e; cases rv; cases rw'
    exact .inl ⟨rfl, by simp⟩
  · cases e; cases rv; cases rw'
    exact .inl ⟨rfl, by simp⟩
  · cases e; cases rv; cases rw'
    exact .inl ⟨rfl, by simp⟩
  · obtain ⟨d, e1, e2⟩ := Option.bind_eq_some_iff.mp e
    obtain ⟨e', e3, e4⟩ := Option.map_eq_some_iff.mp e2
    obtain ⟨a1, a2, a3⟩ := rv.dp rS _ e1
    obtain ⟨b1, b2, b3⟩ := rw'.dp rS _ e3
    exact .inr ⟨d, e', a1, b1, shaped_of a2 a3 (by decide), shaped_of b2 b3 (by decide), e4⟩
theorem post_optB {K : PySem.W.Frag} {W : WX} {σ : L2.St} {ρ : Pl} {H : Hp} {Q : VK} {st : Store} {o : Option Bool} (p : Post K (Rep K) W σ ρ H Q (bnd (ofOpt o) (fun b => ret (.bl b)) st)) (rS : RelS K ρ st H) : ∃ b, o = some b ∧ Q (.bl b) H := by
  obtain ⟨b, e, p⟩ := Post.opt p
  exact ⟨b, e, Post.ret p rS (.bl b)⟩
abbrev gCmp (op : CmpOp) : Val → Val → M Val := fun v w st => bnd (ofOpt (cmpOp st op v w)) (fun b => ret (.bl b)) st
theorem flat_of {K : PySem.W.Frag} {ρ : Pl} {H : Hp} {v : Val} {x : V} (r : Rep K ρ H v x) (f : flat v = true) : flatV x = true := by
  cases r <;> first | rfl | cases f
theorem flat_all {K : PySem.W.Frag} {ρ : Pl} {H : Hp} : ∀ {vs : List Val} {xs : List V}, RepL K ρ H vs xs → vs.all flat = true → xs.all flatV = true
  | _, _, .nil, _ => rfl
  | _, _, .cons r q, f => by
    rw [List.all_cons, Bool.and_eq_true] at f
    rw [List.all_cons, flat_of r f.1, flat_all q f.2]; rfl
theorem eqF_of {K : PySem.W.Frag} {ρ : Pl} {H : Hp} {v w : Val} {x y : V} (r : Rep K ρ H v x) (q : Rep K ρ H w y) (f : flat v = true) (g : flat w = true) : eqF v w = eqV x y := by
  cases r <;> cases q <;> first | rfl | cases f | cases g
theorem inV_of {K : PySem.W.Frag} {ρ : Pl} {H : Hp} {w : Val} {y : V} (q : Rep K ρ H w y) (g : flat w = true) : ∀ {vs : List Val} {xs : List V}, RepL K ρ H vs xs → vs.all flat = true → (vs.any fun z => eqF z w) = inV y xs
  | _, _, .nil, _ => rfl
  | _, _, .cons r s, f => by
    rw [List.all_cons, Bool.and_eq_true] at f
    rw [List.any_cons, eqF_of r q f.1 g, inV_of q g s f.2]
    rfl
theorem inSeq_of {K : PySem.W.Frag} {ρ : Pl} {st : Store} {H : Hp} (rS : RelS K ρ st H) {v : Val} {x : V} {vs : List Val} {ws : List V} {b : Bool} (rv : Rep K ρ H v x) (q : RepL K ρ H vs ws) (e : inSeq st v vs = some b) : (flatV x = true ∧ ws.all flatV = true ∧ inV x ws = b) ∨ ∃ d ds, Dp K H x d ∧ DpAll K H ws ds ∧ SeqAt.shaped d = true ∧ PyData.canLayAll0 ds = true ∧ PyData.depthAll ds ≤ depthD ∧ (ds.any fun z => PyData.eqv z d) = b := by
  unfold inSeq at e
  split at e
  · rename_i hf
    cases e
    rw [Bool.and_eq_true] at hf
    exact .inl ⟨flat_of rv hf.1, flat_all q hf.2, (inV_of rv hf.1 q hf.2).symm⟩
  · split at e
    · obtain ⟨d, e1, e2⟩ := Option.bind_eq_some_iff.mp e
      obtain ⟨ds, e3, e4⟩ := Option.map_eq_some_iff.mp e2
      obtain ⟨a1, a2, a3⟩ := rv.dp rS _ e1
      obtain ⟨b1, b2, b3⟩ := mapO_dp (fun r e => Rep.dp rS _ r e) q e3
      exact .inr ⟨d, ds, a1, b1, shaped_of a2 a3 (by decide), b2, b3, e4⟩
    · cases e
/-- what in asks -/
inductive InIs (K : PySem.W.Frag) (H : Hp) (b : Bool) : V → V → Prop
  | str {z t : Str} : (!(Builtin.Str.occurrences t z 0 t.length 1).isEmpty) = b → InIs K H b (.str z) (.str t)
  | flat {x : V} {p : Addr} {ws : List V} : SqL K H p ws ∨ SqT K H p ws → flatV x = true → ws.all flatV = true → inV x ws = b → InIs K H b x (.ref p)
  | data {x : V} {p : Addr} {ds : List PyData} {d : PyData} : Dp K H x d → Dp K H (.ref p) (.list ds) → SeqAt.shaped d = true → SeqAt.shaped (.list ds) = true → (ds.any fun z => PyData.eqv z d) = b → InIs K H b x (.ref p)
  | dic {x : V} {p : Addr} {o : Option V} : DGet H p x o → o.isSome = b → InIs K H b x (.ref p)
  | dn {p q : Addr} {k : NK} {ρ : Pl} {xs : List (NK × Addr × Value)} : DnAt K ρ H p xs → NKAt K ρ H k q → decide (k ∈ xs.map (·.1)) = b → InIs K H b (.ref q) (.ref p)
theorem inL_of {K : PySem.W.Frag} {ρ : Pl} {st : Store} {H : Hp} (rS : RelS K ρ st H) {v : Val} {x : V} {p : Addr} {vs : List Val} {ws : List V} {b : Bool} (rv : Rep K ρ H v x) (hp : H p = some (.lst ws)) (q : RepL K ρ H vs ws) (e : inSeq st v vs = some b) : InIs K H b x (.ref p) := by
  rcases inSeq_of rS rv q e with ⟨h1, h2, h3⟩ | ⟨d, ds, h1, h2, h3, h4, h5, h6⟩
  · exact .flat (.inl (.of hp)) h1 h2 h3
  · exact .data h1 (.lst (.of hp) h2) h3 (shaped_of h4 (Nat.succ_le_succ h5) (by decide)) h6
theorem dkIn {K : PySem.W.Frag} {ρ : Pl} {H : Hp} {a : Addr} {v : Val} {x : V} {kvs : List (Key × Val)} {kws : List (Key × V)} {b : Bool} (rv : Rep K ρ H v x) (h : H a = some (.dK kws)) (d : DRel K ρ H kvs kws) (e : ((keyOf v).map fun k => (look kvs k).isSome) = some b) : InIs K H b x (.ref a) := by
  obtain ⟨k, e1, e2⟩ := Option.map_eq_some_iff.mp e
  have hx := keyOf_rep rv e1
  subst hx
  refine .dic (DGet.k (k := k) h) ?_
  rw [← e2]
  rcases d.look k with ⟨h1, h2⟩ | ⟨v', w', h1, h2, _⟩
  · rw [h1, h2]; rfl
  · rw [h1, h2]; rfl
theorem dtIn {K : PySem.W.Frag} {ρ : Pl} {H : Hp} {a : Addr} {v : Val} {x : V} {kvs : List (List Key × Val)} {kws : List (List Key × V)} {b : Bool} (rv : Rep K ρ H v x) (h : H a = some (.dT kws)) (d : DRel K ρ H kvs kws) (e : ((keyT v).map fun k => (look kvs k).isSome) = some b) : InIs K H b x (.ref a) := by
  obtain ⟨k, e1, e2⟩ := Option.map_eq_some_iff.mp e
  obtain ⟨c, rfl, hc⟩ := keyT_rep rv e1
  refine .dic (DGet.t (k := k) h hc) ?_
  rw [← e2]
  rcases d.look k with ⟨h1, h2⟩ | ⟨v', w', h1, h2, _⟩
  · rw [h1, h2]; rfl
  · rw [h1, h2]; rfl
theorem ints_repN {K : PySem.W.Frag} {ρ : Pl} {H : Hp} : ∀ {vs : List Val} {ws : List V} {ns : List Int}, RepL K ρ H vs ws → mapO toInt1 vs = some ns → ws = ns.map V.int
  | _, _, _, .nil, e => by cases e; rfl
  | _, _, _, .cons r q, e => by
    unfold mapO at e
    obtain ⟨d, e1, e2⟩ := Option.bind_eq_some_iff.mp e
    obtain ⟨ds, e3, rfl⟩ := Option.map_eq_some_iff.mp e2
    rw [ints_repN q e3]
    cases r <;> cases e1
    rfl
theorem keyN1_rep {K : PySem.W.Frag} {ρ : Pl} {H : Hp} {v : Val} {x : V} {is : List Int} (r : Rep K ρ H v x) (e : keyN1 v = some is) : ∃ c, x = .ref c ∧ TupAt K ρ H c (is.map V.int) := by
  unfold keyN1 at e
  split at e
  · cases r with
    | @tup a ws _ t q =>
      have := ints_repN q e
      subst this
      exact ⟨a, rfl, t⟩
  · cases e
theorem keysN_rep {K : PySem.W.Frag} {ρ : Pl} {H : Hp} : ∀ {vs : List Val} {ws : List V} {k : NK}, RepL K ρ H vs ws → mapO keyN1 vs = some k → ∃ cs : List Addr, ws = cs.map V.ref ∧ Paired (fun c is => TupAt K ρ H c (is.map V.int)) cs k
  | _, _, _, .nil, e => by cases e; exact ⟨[], rfl, .nil⟩
  | _, _, _, .cons r q, e => by
    unfold mapO at e
    obtain ⟨d, e1, e2⟩ := Option.bind_eq_some_iff.mp e
    obtain ⟨ds, e3, rfl⟩ := Option.map_eq_some_iff.mp e2
    obtain ⟨cs, rfl, h⟩ := keysN_rep q e3
    obtain ⟨c, rfl, t⟩ := keyN1_rep r e1
    exact ⟨c :: cs, rfl, .cons t h⟩
theorem keyN_rep {K : PySem.W.Frag} {ρ : Pl} {H : Hp} {v : Val} {x : V} {k : NK} (r : Rep K ρ H v x) (e : keyN v = some k) : ∃ b, x = .ref b ∧ NKAt K ρ H k b := by
  unfold keyN at e
  split at e
  · cases r with
    | @tup a ws _ t q =>
      obtain ⟨cs, rfl, h⟩ := keysN_rep q e
      exact ⟨a, rfl, cs, t, h⟩
  · cases e
theorem pairsN_rep {K : PySem.W.Frag} {ρ : Pl} {H : Hp} : ∀ {vs : List Val} {ws : List V} {ks : List NK}, RepL K ρ H vs ws → mapO pairN vs = some ks → ∃ ps : List Addr, ws = ps.map V.ref ∧ Paired (fun p k => ∃ b v, SqT K H p [.ref b, v] ∧ NKAt K ρ H k b) ps ks
  | _, _, _, .nil, e => by cases e; exact ⟨[], rfl, .nil⟩
  | _, _, _, .cons r q, e => by
    unfold mapO at e
    obtain ⟨d, e1, e2⟩ := Option.bind_eq_some_iff.mp e
    obtain ⟨ds, e3, rfl⟩ := Option.map_eq_some_iff.mp e2
    obtain ⟨ps, rfl, h⟩ := pairsN_rep q e3
    unfold pairN at e1
    split at e1
    · cases r with
      | @tup a ws _ t q2 =>
        cases q2 with
        | cons r1 q3 =>
          cases q3 with
          | cons r2 q4 =>
            cases q4
            obtain ⟨b, rfl, hk⟩ := keyN_rep r1 e1
            exact ⟨a :: ps, rfl, .cons ⟨b, _, t.sq, hk⟩ h⟩
    · cases e1
theorem opIn_of {K : PySem.W.Frag} {ρ : Pl} {st : Store} {H : Hp} (rS : RelS K ρ st H) {v w : Val} {x y : V} {b : Bool} (rv : Rep K ρ H v x) (rw' : Rep K ρ H w y) (e : opIn st v w = some b) : InIs K H b x y := by
  unfold opIn at e
  split at e
  · unfold inStr at e
    split at e
    · cases e; cases rv; cases rw'
      exact .str rfl
    · cases e
  · cases rw' with
    | tup t q =>
      unfold inFlat at e
      split at e
      · rename_i hf
        cases e
        rw [Bool.and_eq_true] at hf
        exact .flat (.inr t.sq) (flat_of rv hf.1) (flat_all q hf.2) (inV_of rv hf.1 q hf.2).symm
      · cases e
  · cases rw' with
    | lst t n q => exact inL_of rS rv t q e
  · rename_i l
    cases rw' with
    | @loc _ a h =>
      cases eo : st[l]? with
      | none => rw [eo] at e; cases e
      | some o =>
        rw [eo] at e
        obtain ⟨u, e1, e2⟩ := rS.at_ _ a _ h eo
        cases e2 with
        | lst q => exact inL_of rS rv e1 q e
        | dK hk q => exact dkIn rv e1 ⟨hk, q⟩ e
        | dT hk q => exact dtIn rv e1 ⟨hk, q⟩ e
        | ins _ _ _ _ _ => cases e
  · cases rw' with
    | dK t n q => exact dkIn rv t (.zip q) e
  · cases rw' with
    | dT t n q => exact dtIn rv t (.zip q) e
  · cases rw' with
    | dN h =>
      obtain ⟨k, e1, e2⟩ := Option.map_eq_some_iff.mp e
      obtain ⟨b', rfl, hk⟩ := keyN_rep rv e1
      exact .dn h hk e2
  · cases e
theorem ltD_ok {K : PySem.W.Frag} {ρ : Pl} {st : Store} {H : Hp} (rS : RelS K ρ st H) {v w : Val} {x y : V} {b : Bool} (rv : Rep K ρ H v x) (rw' : Rep K ρ H w y) (e : ltD st v w = some b) :
    ∃ d e', Dp K H x d ∧ Dp K H y e' ∧ PySem.W.alike d e' = true ∧ d ≠ .none ∧ (d.depth ≤ 10 ∧ e'.depth ≤ 10) ∧ PySem.W.dataLt d e' = b := by
  unfold ltD at e
  obtain ⟨d, e1, e2⟩ := Option.bind_eq_some_iff.mp e
  obtain ⟨e', e3, e4⟩ := Option.bind_eq_some_iff.mp e2
  obtain ⟨a1, a2, a3⟩ := rv.dp rS _ e1
  obtain ⟨b1, b2, b3⟩ := rw'.dp rS _ e3
  split at e4
  · rename_i hh
    rw [Bool.and_eq_true] at hh
    cases e4
    exact ⟨d, e', a1, b1, hh.1, fun z => by rw [z] at hh; exact absurd hh.2 (by decide), ⟨a3, b3⟩, rfl⟩
  · cases e4
theorem op_cmp_S (hu100 : X.A.units + 100 < cLine) : ∀ op : CmpOp, OpR X (compareOp op) (rOp X.K (gCmp op)) := by
  intro op pins s σ H x y v u Q I rx ry h
  have hu : X.A.units + 64 < cLine := by omega
  obtain ⟨W, σ', ρ, st, a, b, rS, ra, rb, p⟩ := h
  obtain ⟨c, e, q⟩ := post_optB p rS
  cases op with
  | Eq =>
    rcases veq_ok rS ra rb e with ⟨h1, h2⟩ | ⟨d, e', h1, h2, h3, h4, h5⟩
    · exact op_eq pins s σ H _ _ v u Q I rx ry ⟨h1, by rw [h2]; exact q⟩
    · exact op_eqD hu pins s σ H _ _ v u Q I rx ry ⟨d, e', h1, h2, h3, h4, by rw [h5]; exact q⟩
  | NotEq =>
    obtain ⟨k, e1, rfl⟩ := Option.map_eq_some_iff.mp e
    rcases veq_ok rS ra rb e1 with ⟨h1, h2⟩ | ⟨d, e', h1, h2, h3, h4, h5⟩
    · exact op_ne pins s σ H _ _ v u Q I rx ry ⟨h1, by rw [h2]; exact q⟩
    · exact op_neD hu pins s σ H _ _ v u Q I rx ry ⟨d, e', h1, h2, h3, h4, by rw [h5]; exact q⟩
  | Lt =>
    dsimp only [cmpOp] at e
    unfold cmpLt at e
    split at e
    · cases e; cases ra; cases rb
      exact op_lt pins s σ H _ _ v u Q I rx ry ⟨_, _, rfl, rfl, q⟩
    · obtain ⟨d, e', h1, h2, h3, h4, h5, rfl⟩ := ltD_ok rS ra rb e
      obtain ⟨as, r1⟩ := Dp.reads I _ _ _ h1 rx
      obtain ⟨bs, r2⟩ := Dp.reads I _ _ _ h2 ry
      exact PySem.W.lt_data r1 r2 h3 h4 (by omega) ⟨.bl _, H, I, rfl, q⟩
  | LtE =>
    dsimp only [cmpOp] at e
    unfold cmpLe at e
    split at e
    · cases e; cases ra; cases rb
      exact op_le pins s σ H _ _ v u Q I rx ry ⟨_, _, rfl, rfl, q⟩
    · obtain ⟨k, e1, rfl⟩ := Option.map_eq_some_iff.mp e
      obtain ⟨d, e', h1, h2, h3, h4, h5, rfl⟩ := ltD_ok rS rb ra e1
      obtain ⟨as, r1⟩ := Dp.reads I _ _ _ h2 rx
      obtain ⟨bs, r2⟩ := Dp.reads I _ _ _ h1 ry
      exact PySem.W.le_data r1 r2 (by rw [PySem.W.alike_comm]; exact h3) (PySem.W.ne_none_both h3 h4) (by omega) ⟨.bl _, H, I, rfl, q⟩
  | Gt =>
    dsimp only [cmpOp] at e
    unfold cmpLt at e
    split at e
    · cases e; cases ra; cases rb
      exact op_gt pins s σ H _ _ v u Q I rx ry ⟨_, _, rfl, rfl, q⟩
    · obtain ⟨d, e', h1, h2, h3, h4, h5, rfl⟩ := ltD_ok rS rb ra e
      obtain ⟨as, r1⟩ := Dp.reads I _ _ _ h2 rx
      obtain ⟨bs, r2⟩ := Dp.reads I _ _ _ h1 ry
      exact PySem.W.gt_data r1 r2 (by rw [PySem.W.alike_comm]; exact h3) (PySem.W.ne_none_both h3 h4) (by omega) ⟨.bl _, H, I, rfl, q⟩
  | GtE =>
    dsimp only [cmpOp] at e
    unfold cmpLe at e
    split at e
    · cases e; cases ra; cases rb
      exact op_ge pins s σ H _ _ v u Q I rx ry ⟨_, _, rfl, rfl, q⟩
    · obtain ⟨k, e1, rfl⟩ := Option.map_eq_some_iff.mp e
      obtain ⟨d, e', h1, h2, h3, h4, h5, rfl⟩ := ltD_ok rS ra rb e1
      obtain ⟨as, r1⟩ := Dp.reads I _ _ _ h1 rx
      obtain ⟨bs, r2⟩ := Dp.reads I _ _ _ h2 ry
      exact PySem.W.ge_data r1 r2 h3 h4 (by omega) ⟨.bl _, H, I, rfl, q⟩
  | Is =>
    dsimp only [cmpOp] at e
    unfold isOp at e
    split at e
    · cases e; cases rb
      refine op_isN pins s σ H _ _ v u Q I rx ry ⟨rfl, ?_⟩
      have : decide (x = .non) = isNon a := by cases ra <;> rfl
      rw [this]; exact q
    · cases e
  | IsNot =>
    dsimp only [cmpOp] at e
    obtain ⟨k, e0, rfl⟩ := Option.map_eq_some_iff.mp e
    clear e
    unfold isOp at e0
    split at e0
    · cases e0; cases rb
      refine op_notN pins s σ H _ _ v u Q I rx ry ⟨rfl, ?_⟩
      have : decide (x = .non) = isNon a := by cases ra <;> rfl
      rw [this]; exact q
    · cases e0
  | In =>
    dsimp only [cmpOp] at e
    cases opIn_of rS ra rb e with
    | str h => subst h; exact op_in_str pins s σ H _ _ v u Q I rx ry ⟨_, _, rfl, rfl, q⟩
    | flat h1 f1 f2 h => subst h; exact op_in_seq pins s σ H _ _ v u Q I rx ry ⟨_, _, rfl, h1, f1, f2, q⟩
    | data h1 h2 h3 h4 h => subst h; exact op_inD (by omega) pins s σ H _ _ v u Q I rx ry ⟨_, _, h1, h2, h3, h4, q⟩
    | dic g h =>
      cases ry
      exact d_in (by omega) I g rx fun s' I' => ⟨.bl _, H, I', rfl, by rw [h]; exact q⟩
    | dn h1 h2 h =>
      cases ry
      cases rx
      exact in_dicN (by omega) I h1 h2 fun s' I' => ⟨.bl _, H, I', rfl, by rw [h]; exact q⟩
  | NotIn =>
    dsimp only [cmpOp] at e
    obtain ⟨k, e0, rfl⟩ := Option.map_eq_some_iff.mp e
    cases opIn_of rS ra rb e0 with
    | str h => subst h; exact op_notin_str pins s σ H _ _ v u Q I rx ry ⟨_, _, rfl, rfl, q⟩
    | flat h1 f1 f2 h => subst h; exact op_notIn_seq pins s σ H _ _ v u Q I rx ry ⟨_, _, rfl, h1, f1, f2, q⟩
    | data h1 h2 h3 h4 h => subst h; exact op_notInD (by omega) pins s σ H _ _ v u Q I rx ry ⟨_, _, h1, h2, h3, h4, q⟩
    | dic g h =>
      cases ry
      exact d_notIn (by omega) I g rx fun s' I' => ⟨.bl _, H, I', rfl, by rw [h]; exact q⟩
    | dn h1 h2 h =>
      cases ry
      cases rx
      exact notIn_dicN (by omega) I h1 h2 fun s' I' => ⟨.bl _, H, I', rfl, by rw [h]; exact q⟩

/-! ### subscripts -/
theorem atI_rep {K : PySem.W.Frag} {ρ : Pl} {H : Hp} {vs : List Val} {ws : List V} {i : Int} {v : Val} (r : RepL K ρ H vs ws) (e : atI vs i = some v) : ∃ w, atI ws i = some w ∧ Rep K ρ H v w := by
  unfold atI at e
  obtain ⟨j, e1, e2⟩ := Option.bind_eq_some_iff.mp e
  obtain ⟨w, e3, e4⟩ := r.get e2
  refine ⟨w, ?_, e4⟩
  unfold atI
  rw [← r.length, e1]
  exact e3
theorem dkIx {K : PySem.W.Frag} {ρ : Pl} {H : Hp} {a : Addr} {v c : Val} {x : V} {kvs : List (Key × Val)} {kws : List (Key × V)} (rv : Rep K ρ H v x) (h : H a = some (.dK kws)) (d : DRel K ρ H kvs kws) (e : ((keyOf v).bind (look kvs)) = some c) : IxIs K ρ H c (.ref a) x := by
  obtain ⟨k, e1, e2⟩ := Option.bind_eq_some_iff.mp e
  have hx := keyOf_rep rv e1
  subst hx
  rcases d.look k with ⟨h1, h2⟩ | ⟨v', w', h1, h2, r⟩
  · rw [h1] at e2; cases e2
  · rw [h1] at e2; cases e2
    exact .dic (by rw [← h2]; exact DGet.k h) r
theorem dtIx {K : PySem.W.Frag} {ρ : Pl} {H : Hp} {a : Addr} {v c : Val} {x : V} {kvs : List (List Key × Val)} {kws : List (List Key × V)} (rv : Rep K ρ H v x) (h : H a = some (.dT kws)) (d : DRel K ρ H kvs kws) (e : ((keyT v).bind (look kvs)) = some c) : IxIs K ρ H c (.ref a) x := by
  obtain ⟨k, e1, e2⟩ := Option.bind_eq_some_iff.mp e
  obtain ⟨b, rfl, hb⟩ := keyT_rep rv e1
  rcases d.look k with ⟨h1, h2⟩ | ⟨v', w', h1, h2, r⟩
  · rw [h1] at e2; cases e2
  · rw [h1] at e2; cases e2
    exact .dic (by rw [← h2]; exact DGet.t h hb) r
theorem lIx {K : PySem.W.Frag} {ρ : Pl} {H : Hp} {a : Addr} {v c : Val} {x : V} {vs : List Val} {ws : List V} {i : Int} (rv : Rep K ρ H (.int i) x) (h : H a = some (.lst ws)) (q : RepL K ρ H vs ws) (e : atI vs i = some c) : IxIs K ρ H c (.ref a) x := by
  cases rv
  obtain ⟨w', e2, e3⟩ := atI_rep q e
  exact .seq (.of h) e2 e3
theorem ixOp_of {K : PySem.W.Frag} {ρ : Pl} {st : Store} {H : Hp} (rS : RelS K ρ st H) {v w c : Val} {x y : V} (rv : Rep K ρ H v x) (rw' : Rep K ρ H w y) (e : ixOp st v w = some c) :
    (∃ z i k, x = .str z ∧ y = .int i ∧ z.length ≤ sizeLine ∧ atI z.cps.toList i = some k ∧ c = .str ⟨#[k]⟩) ∨ IxIs K ρ H c x y := by
  unfold ixOp at e
  split at e
  · split at e
    · rename_i hz
      obtain ⟨k, e1, rfl⟩ := Option.map_eq_some_iff.mp e
      cases rv; cases rw'
      exact .inl ⟨_, _, k, rfl, rfl, of_decide_eq_true hz, e1, rfl⟩
    · cases e
  · cases rw'
    cases rv with
    | tup t q =>
      obtain ⟨w', e2, e3⟩ := atI_rep q e
      exact .inr (.tup t.sq e2 e3)
  · cases rv with
    | lst t n q => exact .inr (lIx (v := .non) rw' t q e)
  · rename_i l
    cases rv with
    | @loc _ a h =>
      cases eo : st[l]? with
      | none => rw [eo] at e; cases e
      | some o =>
        rw [eo] at e
        obtain ⟨u, e1, e2⟩ := rS.at_ _ a _ h eo
        cases e2 with
        | lst q =>
          unfold obIx at e
          dsimp only at e
          split at e
          · exact .inr (lIx (v := .non) rw' e1 q e)
          · cases e
        | dK hk q => exact .inr (dkIx rw' e1 ⟨hk, q⟩ e)
        | dT hk q => exact .inr (dtIx rw' e1 ⟨hk, q⟩ e)
        | ins _ _ _ _ _ => cases e
  · cases rv with
    | dK t n q => exact .inr (dkIx rw' t (.zip q) e)
  · cases rv with
    | dT t n q => exact .inr (dtIx rw' t (.zip q) e)
  · cases e
open PyProof.Rows in
/-- d[k], by values -/
theorem ix_dic {a : Addr} {y z : V} {value slice : Expr} {pins : List (Addr × Obj)} {s : Shared} {σ : L2.St} {H : Hp} {u : Value} {Q : VK} (hu : X.A.units + 1 < cLine) (I : Inv X pins σ H s) (g : DGet H a y (some z)) (ry : RelV y u) (q : Q z H)
    (hs : subscripted slice false (.ref a) u = operate [.ref a, u] (getItem (.ref a) u)) : wpAny (model X.prog X.w) X.A (subscriptTail value slice (.ref a) u) (EP X pins σ Q) X.xe s :=
  tail_any (dict_typeIs I g) PySem.F.slot_dict_getitem.lookup (d_getItem hu I g ry fun w' s3 I3 rw' => ⟨z, H, I3, rw', q⟩) hs
theorem ix_S (hu : X.A.units + 100 < cLine) : IxR X (rOp X.K fun v w st => bnd (ofOpt (ixOp st v w)) ret st) := by
  intro value slice pins s σ H x y v u Q I rx ry h hs
  obtain ⟨W, σ', ρ, st, a, b, rS, ra, rb, p0⟩ := h
  obtain ⟨c, e, p⟩ := Post.opt p0
  clear p0
  rcases ixOp_of rS ra rb e with ⟨z, i, k, rfl, rfl, hz, e1, rfl⟩ | h
  · exact ix_str value slice pins s σ H _ _ v u Q I rx ry ⟨_, _, k, rfl, rfl, hz, e1, Post.ret p rS (.str _)⟩ hs
  · cases h with
    | seq h1 h2 r => exact ix_list value slice pins s σ H _ _ v u Q I rx ry ⟨_, _, _, _, rfl, rfl, h1, h2, Post.ret p rS r⟩ hs
    | tup h1 h2 r => exact ix_tup value slice pins s σ H _ _ v u Q I rx ry ⟨_, _, _, _, rfl, rfl, h1, h2, Post.ret p rS r⟩ hs
    | dic g r =>
      cases rx
      exact ix_dic (by omega) I g ry (Post.ret p rS r) hs
/-! ### slices -/
def rSl (K : PySem.W.Frag) (g : Val → Option Int → Option Int → M Val) : V → Option Int → Option Int → Hp → VK → Prop := fun x lo hi H Q => ∃ (W : WX) (σ : L2.St) (ρ : Pl) (st : Store) (v : Val), RelS K ρ st H ∧ Rep K ρ H v x ∧ Post K (Rep K) W σ ρ H Q (g v lo hi st)
theorem cut_rep {K : PySem.W.Frag} {ρ : Pl} {H : Hp} {vs : List Val} {ws : List V} (lo hi : Option Int) (r : RepL K ρ H vs ws) : RepL K ρ H (cut vs lo hi) (cutV ws lo hi) := by
  unfold cut cutV
  rw [← r.length]
  exact (r.drop _).take _
theorem cut_whole {α : Type} {xs : List α} {lo hi : Option Int} (h : HT.sIx xs.length 0 lo = 0 ∧ HT.sIx xs.length xs.length hi = xs.length) : cut xs lo hi = xs := by
  unfold cut
  rw [h.1, h.2]
  simp
theorem repL_ints {K : PySem.W.Frag} {ρ : Pl} {H : Hp} : ∀ ns : List Int, RepL K ρ H (ns.map .int) (ns.map V.int)
  | [] => .nil
  | n :: ns => .cons (.int n) (repL_ints ns)
theorem sl_S {new : Bool} : SlR X (rSl X.K fun v lo hi st => bnd (ofOpt (slOp st v lo hi)) (mk new) st) := by
  intro pins s σ H x v vl vu lo hi sl Q I rx hs pl pu h
  obtain ⟨W, σ', ρ, st, a, rS, ra, p0⟩ := h
  obtain ⟨c, e, p⟩ := Post.opt p0
  clear p0
  unfold slOp at e
  split at e
  · cases e
    cases ra with
    | @tup a1 ws vs ta qa =>
      have hl := qa.length
      refine sl_tupA pins s σ H _ v vl vu lo hi sl Q I rx hs pl pu ⟨a1, ws, rfl, ta.sq, fun h => ?_, fun _ => post_t p rS (cut_rep lo hi qa)⟩
      rw [← hl] at h
      rw [cut_whole h] at p
      exact Post.ret p rS (.tup ta qa)
  · cases e
    cases ra with
    | scr h => exact sl_list pins s σ H _ v vl vu lo hi sl Q I rx hs pl pu ⟨_, _, rfl, h.sq, post_l p rS (cut_rep lo hi (repL_ints _))⟩
  · obtain ⟨xs, e1, rfl⟩ := Option.map_eq_some_iff.mp e
    obtain ⟨a1, ws, rfl, h1, q1⟩ := ra.lstOf rS e1
    exact sl_list pins s σ H _ v vl vu lo hi sl Q I rx hs pl pu ⟨a1, ws, rfl, .of h1, post_l p rS (cut_rep lo hi q1)⟩
/-! ### built-in functions -/
def rCall (K : PySem.W.Frag) (g : List Val → M Val) : List V → Hp → VK → Prop := fun xs H Q => ∃ (W : WX) (σ : L2.St) (ρ : Pl) (st : Store) (vs : List Val), RelS K ρ st H ∧ RepL K ρ H vs xs ∧ Post K (Rep K) W σ ρ H Q (g vs st)
theorem repL_one {K : PySem.W.Frag} {ρ : Pl} {H : Hp} {v : Val} {xs : List V} (r : RepL K ρ H [v] xs) : ∃ x, xs = [x] ∧ Rep K ρ H v x := by
  cases r with
  | cons h q => cases q; exact ⟨_, rfl, h⟩
theorem repL_two {K : PySem.W.Frag} {ρ : Pl} {H : Hp} {v w : Val} {xs : List V} (r : RepL K ρ H [v, w] xs) : ∃ x y, xs = [x, y] ∧ Rep K ρ H v x ∧ Rep K ρ H w y := by
  cases r with
  | cons h q =>
    obtain ⟨y, rfl, h2⟩ := repL_one q
    exact ⟨_, _, rfl, h, h2⟩
theorem mapO_ints {K : PySem.W.Frag} {ρ : Pl} {H : Hp} : ∀ {vs : List Val} {ws : List V} {ns : List Int}, RepL K ρ H vs ws → mapO toInt vs = some ns → ws = ns.map V.int
  | _, _, _, .nil, e => by cases e; rfl
  | _, _, _, .cons r q, e => by
    unfold mapO at e
    obtain ⟨d, e1, e2⟩ := Option.bind_eq_some_iff.mp e
    obtain ⟨ds, e3, rfl⟩ := Option.map_eq_some_iff.mp e2
    cases r <;> cases e1
    rw [mapO_ints q e3]; rfl
theorem mapO_bls {K : PySem.W.Frag} {ρ : Pl} {H : Hp} : ∀ {vs : List Val} {ws : List V} {ns : List Bool}, RepL K ρ H vs ws → mapO toBl vs = some ns → ws = ns.map V.bl
  | _, _, _, .nil, e => by cases e; rfl
  | _, _, _, .cons r q, e => by
    unfold mapO at e
    obtain ⟨d, e1, e2⟩ := Option.bind_eq_some_iff.mp e
    obtain ⟨ds, e3, rfl⟩ := Option.map_eq_some_iff.mp e2
    cases r <;> cases e1
    rw [mapO_bls q e3]; rfl
theorem foldl_max {x m : Int} {xs : List Int} (hm : m ∈ x :: xs) (hle : ∀ y, y ∈ x :: xs → y ≤ m) : xs.foldl max x = m := by
  induction xs generalizing x with
  | nil => simp at hm; exact hm.symm
  | cons y ys ih =>
    rw [List.foldl_cons]
    have hx := hle x (by simp)
    have hy := hle y (by simp)
    refine ih ?_ fun z hz => ?_
    · rcases List.mem_cons.mp hm with e | e
      · subst e
        have : max m y = m := by omega
        rw [this]; simp
      · rcases List.mem_cons.mp e with e | e
        · subst e
          have : max x m = m := by omega
          rw [this]; simp
        · exact List.mem_cons_of_mem _ e
    · rcases List.mem_cons.mp hz with e | e
      · omega
      · exact hle z (by simp [e])
theorem foldl_min {x m : Int} {xs : List Int} (hm : m ∈ x :: xs) (hle : ∀ y, y ∈ x :: xs → m ≤ y) : xs.foldl min x = m := by
  induction xs generalizing x with
  | nil => simp at hm; exact hm.symm
  | cons y ys ih =>
    rw [List.foldl_cons]
    have hx := hle x (by simp)
    have hy := hle y (by simp)
    refine ih ?_ fun z hz => ?_
    · rcases List.mem_cons.mp hm with e | e
      · subst e
        have : min m y = m := by omega
        rw [this]; simp
      · rcases List.mem_cons.mp e with e | e
        · subst e
          have : min x m = m := by omega
          rw [this]; simp
        · exact List.mem_cons_of_mem _ e
    · rcases List.mem_cons.mp hz with e | e
      · omega
      · exact hle z (by simp [e])
theorem bi_len : CallR X (.builtin "len") (rCall X.K fun vs st => bnd (ofOpt (biLen st vs)) ret st) := by
  intro pins s σ H xs us Q I r h
  obtain ⟨W, σ', ρ, st, vs, rS, ra, p0⟩ := h
  obtain ⟨c, e, p⟩ := Post.opt p0
  clear p0
  unfold biLen at e
  split at e
  · split at e
    · rename_i hz
      cases e
      obtain ⟨x, rfl, h1⟩ := repL_one ra
      cases h1
      exact call_len pins s σ H _ us Q I r ⟨_, _, rfl, ⟨of_decide_eq_true hz, rfl⟩, Post.ret p rS (.int _)⟩
    · cases e
  · cases e
    obtain ⟨x, rfl, h1⟩ := repL_one ra
    cases h1 with
    | tup t q =>
      have qq := Post.ret p rS (.int _)
      rw [q.length] at qq
      exact call_len pins s σ H _ us Q I r ⟨_, _, rfl, .inr ⟨_, t.sq, rfl⟩, qq⟩
  · cases e
    obtain ⟨x, rfl, h1⟩ := repL_one ra
    cases h1 with
    | lst t n q =>
      have qq := Post.ret p rS (.int _)
      rw [q.length] at qq
      exact call_len pins s σ H _ us Q I r ⟨_, _, rfl, .inl ⟨_, .of t, rfl⟩, qq⟩
  · obtain ⟨n, e1, rfl⟩ := Option.map_eq_some_iff.mp e
    obtain ⟨x, rfl, h1⟩ := repL_one ra
    cases h1 with
    | @loc _ a h =>
      have qq := Post.ret p rS (.int _)
      unfold obLen at e1
      split at e1
      · rename_i eo
        cases e1
        obtain ⟨u, e3, e4⟩ := rS.at_ _ a _ h eo
        cases e4 with
        | lst q =>
          rw [q.length] at qq
          exact call_len pins s σ H _ us Q I r ⟨_, _, rfl, .inl ⟨_, .of e3, rfl⟩, qq⟩
      · rename_i eo
        cases e1
        obtain ⟨u, e3, e4⟩ := rS.at_ _ a _ h eo
        cases e4 with
        | @dK _ kws hk q =>
          rw [(DRel.mk hk q).len] at qq
          exact call_lenD pins s σ H _ us Q I r ⟨_, _, rfl, e3, qq⟩
      · cases e1
  · cases e
/-! ### max, min of a tuple of ints -/
section
open PySem PyProof.Rows
variable {prog : Program} {w : World} {A : Around} {E : Value → Shared → Prop} {s : Shared} {l : Addr}
theorem it_tup {its : Array Value} {Q : Value → Shared → Prop} (hl : s.heap.IsTuple l its)
    (h : ∀ s2 : Shared, s2 = { s with heap := s.heap.push { cls := .type "tuple_iterator", data := .fields #[.ref l, .int 0 0] } } → (s2.heap.IsTupleIter s.heap.objs.size l 0 ∧ s2.heap.IsTuple l its) →
      (∀ b ∈ [s.heap.objs.size, l], b < s2.heap.objs.size) → l ≠ s.heap.objs.size → Q (.ref s.heap.objs.size) s2) : wpAny (model prog w) A (pyIter (.ref l)) Q E s := by
  have hlt : l < s.heap.objs.size := by
    obtain ⟨_, e, _⟩ := hl
    exact Heap.lt_size e
  refine wpAny_pyIter_tuple hl (h _ rfl ⟨⟨_, Heap.get?_push_size _ rfl, rfl, rfl⟩, ?_⟩ (fun b hb => ?_) (Nat.ne_of_lt hlt))
  · exact hl.at fun o e => Heap.get?_push_of_some _ e
  · show b < (s.heap.push _).objs.size
    rw [Heap.size_push]
    rcases List.mem_cons.mp hb with e1 | hb
    · rw [e1]; exact Nat.lt_succ_self _
    · rcases List.mem_cons.mp hb with e1 | hb
      · rw [e1]; exact Nat.lt_succ_of_lt hlt
      · cases hb
theorem kept_tup {h' : Heap} (hk : ∀ b o, b ∉ [s.heap.objs.size] → (s.heap.push { cls := .type "tuple_iterator", data := .fields #[.ref l, .int 0 0] }).get? b = some o → h'.get? b = some o) : ∀ b o, s.heap.get? b = some o → h'.get? b = some o := fun b o e => by
  refine hk b o (fun hm => ?_) (Heap.get?_push_of_some _ e)
  rcases List.mem_cons.mp hm with e1 | hm
  · exact (Nat.lt_irrefl _ (e1 ▸ Heap.lt_size e)).elim
  · cases hm
theorem max_tup {its : List Value} {ns : List Int} {Q : Value → Shared → Prop} (hh : A.handled = none) (hl : s.heap.IsTuple l its.toArray) (hi : IntsAre its ns) (hne : 0 < ns.length)
    (h : ∀ h' tk M t', (∀ b o, s.heap.get? b = some o → h'.get? b = some o) → M ∈ ns → (∀ a, a ∈ ns → a ≤ M) → Q (.int M t') { s with heap := h', toks := tk }) : wpAny (model prog w) A (call (.builtin "max") [.ref l]) Q E s := by
  obtain ⟨xs, e⟩ := hi.allInts.items
  have hn : numsOf (intItems xs).toList = ns := by rw [← e]; exact hi.numsOf
  rw [nums_intItems] at hn
  subst hn
  rw [e] at hl
  have hsz : 0 < xs.size := by simpa using hne
  refine call_max_walk (it_tup hl fun s2 e st hfp hlI => ?_)
  subst e
  refine ⟨_, _, _, _, _, _, _, rfl, Walks.tuple (A := A.in1) hh _ l hlI (intItems xs), st, hfp, by simpa [intItems] using hsz, CmpOf.ints_gt (numAt xs) (fun _ _ => intItems_at), fun v h' tk hP hk => ?_⟩
  obtain ⟨t, rfl⟩ := intItems_at hP
  obtain ⟨h1, h2⟩ := argBest_gt (numAt xs) ((intItems xs).size - 1)
  have hs2 : (intItems xs).size = xs.size := by simp [intItems]
  refine h h' tk _ t (kept_tup hk) ?_ fun a ha => ?_
  · rw [numAt_eq]; exact PySem.getD_mem (by rw [List.length_map, Array.length_toList]; omega)
  · obtain ⟨j, hj, rfl⟩ := mem_getD ha
    rw [List.length_map, Array.length_toList] at hj
    rw [← numAt_eq]; exact h2 j (by omega)
theorem min_tup {its : List Value} {ns : List Int} {Q : Value → Shared → Prop} (hh : A.handled = none) (hl : s.heap.IsTuple l its.toArray) (hi : IntsAre its ns) (hne : 0 < ns.length)
    (h : ∀ h' tk M t', (∀ b o, s.heap.get? b = some o → h'.get? b = some o) → M ∈ ns → (∀ a, a ∈ ns → M ≤ a) → Q (.int M t') { s with heap := h', toks := tk }) : wpAny (model prog w) A (call (.builtin "min") [.ref l]) Q E s := by
  obtain ⟨xs, e⟩ := hi.allInts.items
  have hn : numsOf (intItems xs).toList = ns := by rw [← e]; exact hi.numsOf
  rw [nums_intItems] at hn
  subst hn
  rw [e] at hl
  have hsz : 0 < xs.size := by simpa using hne
  refine call_min_walk (it_tup hl fun s2 e st hfp hlI => ?_)
  subst e
  refine ⟨_, _, _, _, _, _, _, rfl, Walks.tuple (A := A.in1) hh _ l hlI (intItems xs), st, hfp, by simpa [intItems] using hsz, CmpOf.ints_lt (numAt xs) (fun _ _ => intItems_at), fun v h' tk hP hk => ?_⟩
  obtain ⟨t, rfl⟩ := intItems_at hP
  obtain ⟨h1, h2⟩ := argBest_lt (numAt xs) ((intItems xs).size - 1)
  have hs2 : (intItems xs).size = xs.size := by simp [intItems]
  refine h h' tk _ t (kept_tup hk) ?_ fun a ha => ?_
  · rw [numAt_eq]; exact PySem.getD_mem (by rw [List.length_map, Array.length_toList]; omega)
  · obtain ⟨j, hj, rfl⟩ := mem_getD ha
    rw [List.length_map, Array.length_toList] at hj
    rw [← numAt_eq]; exact h2 j (by omega)
end
theorem bi_max (hc : X.calm = true) : CallR X (.builtin "max") (rCall X.K fun vs st => bnd (ofOpt (biMax st vs)) ret st) := by
  intro pins s σ H xs us Q I r h
  obtain ⟨W, σ', ρ, st, vs, rS, ra, p0⟩ := h
  obtain ⟨c, e, p⟩ := Post.opt p0
  clear p0
  unfold biMax at e
  split at e
  · cases e
    obtain ⟨x, y, rfl, h1, h2⟩ := repL_two ra
    cases h1; cases h2
    exact call_max2 hc pins s σ H _ us Q I r ⟨_, _, rfl, Post.ret p rS (.int _)⟩
  · obtain ⟨m, e1, rfl⟩ := Option.map_eq_some_iff.mp e
    obtain ⟨ys, e2, e3⟩ := Option.bind_eq_some_iff.mp e1
    obtain ⟨ns, e4, e5⟩ := Option.bind_eq_some_iff.mp e3
    obtain ⟨x, rfl, h1⟩ := repL_one ra
    obtain ⟨a, ws, rfl, h2, h3⟩ := h1.seqOf rS e2
    have := mapO_ints h3 e4
    subst this
    cases ns with
    | nil => cases e5
    | cons n ns =>
      cases e5
      rcases h2 with h2 | h2
      · exact cr_max hc pins s σ H _ us Q I r ⟨a, n :: ns, rfl, h2, Nat.succ_pos _, fun m hm hle => by
          rw [← foldl_max hm hle]
          exact Post.ret p rS (.int _)⟩
      · obtain ⟨its, rv, hl, _⟩ := I.tuple h2
        rw [Vals.ref1 r]
        exact max_tup (I.ok.hd hc) hl rv.ints (Nat.succ_pos _) fun h' tk m t' hk hm hle => ⟨.int _, H, I.kept hk, ⟨_, rfl⟩, by
          rw [← foldl_max hm hle]
          exact Post.ret p rS (.int _)⟩
  · cases e
theorem bi_min (hc : X.calm = true) : CallR X (.builtin "min") (rCall X.K fun vs st => bnd (ofOpt (biMin st vs)) ret st) := by
  intro pins s σ H xs us Q I r h
  obtain ⟨W, σ', ρ, st, vs, rS, ra, p0⟩ := h
  obtain ⟨c, e, p⟩ := Post.opt p0
  clear p0
  unfold biMin at e
  split at e
  · cases e
    obtain ⟨x, y, rfl, h1, h2⟩ := repL_two ra
    cases h1; cases h2
    exact call_min2 hc pins s σ H _ us Q I r ⟨_, _, rfl, Post.ret p rS (.int _)⟩
  · obtain ⟨m, e1, rfl⟩ := Option.map_eq_some_iff.mp e
    obtain ⟨ys, e2, e3⟩ := Option.bind_eq_some_iff.mp e1
    obtain ⟨ns, e4, e5⟩ := Option.bind_eq_some_iff.mp e3
    obtain ⟨x, rfl, h1⟩ := repL_one ra
    obtain ⟨a, ws, rfl, h2, h3⟩ := h1.seqOf rS e2
    have := mapO_ints h3 e4
    subst this
    cases ns with
    | nil => cases e5
    | cons n ns =>
      cases e5
      rcases h2 with h2 | h2
      · exact cr_min hc pins s σ H _ us Q I r ⟨a, n :: ns, rfl, h2, Nat.succ_pos _, fun m hm hle => by
          rw [← foldl_min hm hle]
          exact Post.ret p rS (.int _)⟩
      · obtain ⟨its, rv, hl, _⟩ := I.tuple h2
        rw [Vals.ref1 r]
        exact min_tup (I.ok.hd hc) hl rv.ints (Nat.succ_pos _) fun h' tk m t' hk hm hle => ⟨.int _, H, I.kept hk, ⟨_, rfl⟩, by
          rw [← foldl_min hm hle]
          exact Post.ret p rS (.int _)⟩
  · cases e
theorem bi_all (hc : X.calm = true) : CallR X (.builtin "all") (rCall X.K fun vs st => bnd (ofOpt (biAll st vs)) ret st) := by
  intro pins s σ H xs us Q I r h
  obtain ⟨W, σ', ρ, st, vs, rS, ra, p0⟩ := h
  obtain ⟨c, e, p⟩ := Post.opt p0
  clear p0
  unfold biAll at e
  split at e
  · obtain ⟨bs, e1, rfl⟩ := Option.map_eq_some_iff.mp e
    obtain ⟨ys, e2, e3⟩ := Option.bind_eq_some_iff.mp e1
    obtain ⟨x, rfl, h1⟩ := repL_one ra
    obtain ⟨a, ws, rfl, h2, h3⟩ := h1.lstOf rS e2
    have := mapO_bls h3 e3
    subst this
    exact cr_all hc pins s σ H _ us Q I r ⟨a, bs, rfl, .of h2, Post.ret p rS (.bl _)⟩
  · cases e
theorem bi_any (hc : X.calm = true) : CallR X (.builtin "any") (rCall X.K fun vs st => bnd (ofOpt (biAny st vs)) ret st) := by
  intro pins s σ H xs us Q I r h
  obtain ⟨W, σ', ρ, st, vs, rS, ra, p0⟩ := h
  obtain ⟨c, e, p⟩ := Post.opt p0
  clear p0
  unfold biAny at e
  split at e
  · obtain ⟨bs, e1, rfl⟩ := Option.map_eq_some_iff.mp e
    obtain ⟨ys, e2, e3⟩ := Option.bind_eq_some_iff.mp e1
    obtain ⟨x, rfl, h1⟩ := repL_one ra
    obtain ⟨a, ws, rfl, h2, h3⟩ := h1.lstOf rS e2
    have := mapO_bls h3 e3
    subst this
    exact cr_any hc pins s σ H _ us Q I r ⟨a, bs, rfl, .of h2, Post.ret p rS (.bl _)⟩
  · cases e
theorem bi_int : CallR X (.type "int") (rCall X.K fun vs st => bnd (ofOpt (biInt vs)) ret st) := by
  intro pins s σ H xs us Q I r h
  obtain ⟨W, σ', ρ, st, vs, rS, ra, p0⟩ := h
  obtain ⟨c, e, p⟩ := Post.opt p0
  clear p0
  unfold biInt at e
  split at e
  · cases e
    obtain ⟨x, rfl, h1⟩ := repL_one ra
    cases h1
    exact call_int1 pins s σ H _ us Q I r (.inl ⟨_, rfl, Post.ret p rS (.int _)⟩)
  · cases e
    obtain ⟨x, rfl, h1⟩ := repL_one ra
    cases h1
    exact call_int1 pins s σ H _ us Q I r (.inr ⟨_, rfl, Post.ret p rS (.int _)⟩)
  · cases e
theorem bi_tuple : CallR X (.type "tuple") (rCall X.K fun vs st => bnd (ofOpt (biTuple st vs)) ret st) := by
  intro pins s σ H xs us Q I r h
  obtain ⟨W, σ', ρ, st, vs, rS, ra, p0⟩ := h
  obtain ⟨c, e, p⟩ := Post.opt p0
  clear p0
  unfold biTuple at e
  split at e
  · obtain ⟨ys, e1, rfl⟩ := Option.map_eq_some_iff.mp e
    obtain ⟨x, rfl, h1⟩ := repL_one ra
    rename_i v
    by_cases hv : ∃ zs, v = .tup zs
    · obtain ⟨zs, rfl⟩ := hv
      cases e1
      cases h1 with
      | tup ta qa => exact call_tuple_of pins s σ H _ us Q I r ⟨_, _, rfl, .inr ⟨ta.sq, Post.ret p rS (.tup ta qa)⟩⟩
    · have e' : lstOf st v = some ys := by
        cases v <;> first | exact e1 | exact absurd ⟨_, rfl⟩ hv
      obtain ⟨a, ws, rfl, h2, h3⟩ := h1.lstOf rS e'
      exact call_tuple_of pins s σ H _ us Q I r ⟨a, ws, rfl, .inl ⟨.of h2, post_t p rS h3⟩⟩
  · cases e
theorem repL_keys {K : PySem.W.Frag} {ρ : Pl} {H : Hp} : ∀ ks : List Key, RepL K ρ H (ks.map keyVal) (ks.map kV)
  | [] => .nil
  | k :: ks => .cons (Rep.keyVal k) (repL_keys ks)
theorem keys_rep {K : PySem.W.Frag} {ρ : Pl} {H : Hp} {kvs : List (Key × Val)} {kws : List (Key × V)} (d : kvs.map (·.1) = kws.map (·.1)) : RepL K ρ H (kvs.map fun kv => keyVal kv.1) (kws.map fun kv => kV kv.1) := by
  have e1 : (kvs.map fun kv => keyVal kv.1) = (kvs.map (·.1)).map keyVal := by rw [List.map_map]; rfl
  have e2 : (kws.map fun kv => kV kv.1) = (kws.map (·.1)).map kV := by rw [List.map_map]; rfl
  rw [e1, e2, d]
  exact repL_keys _
theorem bi_list {new : Bool} (hc : X.calm = true) : CallR X (.type "list") (rCall X.K fun vs st => bnd (ofOpt (biList st vs)) (mk new) st) := by
  intro pins s σ H xs us Q I r h
  obtain ⟨W, σ', ρ, st, vs, rS, ra, p0⟩ := h
  obtain ⟨c, e, p⟩ := Post.opt p0
  clear p0
  unfold biList at e
  split at e
  · cases e
    obtain ⟨x, rfl, h1⟩ := repL_one ra
    cases h1 with
    | tup t q => exact call_list_of pins s σ H _ us Q I r ⟨_, _, rfl, .inr t.sq, post_l p rS q⟩
  · cases e
    obtain ⟨x, rfl, h1⟩ := repL_one ra
    cases h1 with
    | lst t n q => exact call_list_of pins s σ H _ us Q I r ⟨_, _, rfl, .inl (.of t), post_l p rS q⟩
  · obtain ⟨ys, e1, rfl⟩ := Option.map_eq_some_iff.mp e
    obtain ⟨x, rfl, h1⟩ := repL_one ra
    cases h1 with
    | @loc _ a h =>
      unfold obList at e1
      split at e1
      · rename_i eo
        cases e1
        obtain ⟨u, e3, e4⟩ := rS.at_ _ a _ h eo
        cases e4 with
        | lst q => exact call_list_of pins s σ H _ us Q I r ⟨_, _, rfl, .inl (.of e3), post_l p rS q⟩
      · rename_i eo
        cases e1
        obtain ⟨u, e3, e4⟩ := rS.at_ _ a _ h eo
        cases e4 with
        | dK hk q => exact call_listD hc pins s σ H _ us Q I r ⟨_, _, rfl, .inl e3, post_l p rS (keys_rep hk)⟩
      · cases e1
  · cases e
theorem insI_perm (n : Int) : ∀ l : List Int, (insI n l).Perm (n :: l)
  | [] => .refl _
  | m :: ms => by
    unfold insI
    split
    · exact .refl _
    · exact ((insI_perm n ms).cons m).trans (List.Perm.swap n m ms)
theorem srt_perm : ∀ l : List Int, (srt l).Perm l
  | [] => .refl _
  | n :: ns => (insI_perm n (srt ns)).trans ((srt_perm ns).cons n)
theorem insI_sorted (n : Int) : ∀ {l : List Int}, l.Pairwise (· ≤ ·) → (insI n l).Pairwise (· ≤ ·)
  | [], _ => by simp [insI]
  | m :: ms, h => by
    have h' := List.pairwise_cons.mp h
    unfold insI
    split
    · rename_i hc
      refine List.pairwise_cons.mpr ⟨fun x hx => ?_, h⟩
      rcases List.mem_cons.mp hx with rfl | hx
      · exact hc
      · exact Int.le_trans hc (h'.1 x hx)
    · rename_i hc
      refine List.pairwise_cons.mpr ⟨fun x hx => ?_, insI_sorted n h'.2⟩
      rcases List.mem_cons.mp ((insI_perm n ms).mem_iff.mp hx) with rfl | hx
      · omega
      · exact h'.1 x hx
theorem srt_sorted : ∀ l : List Int, (srt l).Pairwise (· ≤ ·)
  | [] => .nil
  | n :: ns => insI_sorted n (srt_sorted ns)
theorem srt_eq {a b : List Int} (h : a.Perm (srt b)) (ha : a.Pairwise (· ≤ ·)) : a = srt b :=
  h.eq_of_pairwise (fun x y _ _ h1 h2 => Int.le_antisymm h1 h2) ha (srt_sorted b)
theorem sorted_of {a b : List Int} (h : a.Perm b) (ha : a.Pairwise (· ≤ ·)) : a = srt b := srt_eq (h.trans (srt_perm b).symm) ha
theorem mapO_keys : ∀ {kvs : List (Key × Val)} {ns : List Int}, mapO (fun kv => keyInt kv.1) kvs = some ns → kvs.map (·.1) = ns.map Sum.inl
  | [], ns, e => by cases e; rfl
  | (k, v) :: kvs, ns, e => by
    unfold mapO at e
    obtain ⟨d, e1, e2⟩ := Option.bind_eq_some_iff.mp e
    obtain ⟨ds, e3, rfl⟩ := Option.map_eq_some_iff.mp e2
    cases k with
    | inl i => cases e1; rw [List.map_cons, mapO_keys e3]; rfl
    | inr _ => cases e1
theorem dps {K : PySem.W.Frag} {ρ : Pl} {st : Store} {H : Hp} (rS : RelS K ρ st H) : ∀ {vs : List Val} {ws : List V} {ds : List PyData}, RepL K ρ H vs ws → mapO (toD st depthD) vs = some ds → ∃ t : List (Val × V × PyData), t.map (·.1) = vs ∧ t.map (·.2.1) = ws ∧ t.map (·.2.2) = ds ∧ ∀ b ∈ t, Rep K ρ H b.1 b.2.1 ∧ Dp K H b.2.1 b.2.2 ∧ b.2.2.depth ≤ 20
  | _, _, _, .nil, e => by cases e; exact ⟨[], rfl, rfl, rfl, fun b hb => nomatch hb⟩
  | _, _, _, .cons (v := v) (w := w) r q, e => by
    unfold mapO at e
    obtain ⟨d, e1, e2⟩ := Option.bind_eq_some_iff.mp e
    obtain ⟨ds, e3, rfl⟩ := Option.map_eq_some_iff.mp e2
    obtain ⟨t, a1, a2, a3, a4⟩ := dps rS q e3
    obtain ⟨b1, _, b3⟩ := r.dp rS _ e1
    have b3' : d.depth ≤ 10 := b3
    refine ⟨(v, w, d) :: t, by rw [List.map_cons, a1], by rw [List.map_cons, a2], by rw [List.map_cons, a3], fun b hb => ?_⟩
    rcases List.mem_cons.mp hb with rfl | hb
    · exact ⟨r, b1, Nat.le_trans b3' (by decide)⟩
    · exact a4 b hb
theorem alk_of {ds : List PyData} (h : alkB ds = true) : (∀ x ∈ ds, ∀ y ∈ ds, PySem.W.alike x y = true) ∧ ∀ x ∈ ds, x ≠ .none := by
  unfold alkB at h
  rw [Bool.and_eq_true, List.all_eq_true, List.all_eq_true] at h
  refine ⟨fun x hx y hy => List.all_eq_true.mp (h.1 x hx) y hy, fun x hx z => ?_⟩
  have := h.2 x hx
  rw [z] at this
  cases this
theorem srt_of {ds : List PyData} (h : srtB ds = true) : PySem.W.Sortable ds := by
  unfold srtB at h
  rw [Bool.or_eq_true, List.all_eq_true, List.all_eq_true] at h
  rcases h with h | h
  · refine .inl fun d hd => ?_
    have := h d hd
    unfold tup1 at this
    split at this
    · exact ⟨_, _, rfl⟩
    · cases this
  · refine .inr fun d hd => ⟨fun z => ?_, fun xs z => ?_⟩
    · have := h d hd
      rw [z] at this
      cases this
    · have := h d hd
      rw [z] at this
      cases this
theorem min_both : ∀ (t : List (Val × V × PyData)) (b0 : Val × V × PyData), ∃ b ∈ b0 :: t, minQ (b0.1, b0.2.2) (t.map fun b => (b.1, b.2.2)) = (b.1, b.2.2) ∧ minP (·.2) (b0.2.1, b0.2.2) (t.map fun b => (b.2.1, b.2.2)) = (b.2.1, b.2.2)
  | [], b0 => ⟨b0, List.mem_cons_self .., rfl, rfl⟩
  | b1 :: t, b0 => by
    by_cases k : PySem.W.dataLt b1.2.2 b0.2.2 = true
    · obtain ⟨b, hb, e1, e2⟩ := min_both t b1
      refine ⟨b, List.mem_cons_of_mem _ hb, ?_, ?_⟩
      · rw [← e1]
        unfold minQ
        rw [List.map_cons, List.foldl_cons, if_pos k]
      · rw [← e2]
        unfold minP
        rw [List.map_cons, List.foldl_cons, if_pos k]
    · obtain ⟨b, hb, e1, e2⟩ := min_both t b0
      refine ⟨b, ?_, ?_, ?_⟩
      · rcases List.mem_cons.mp hb with rfl | hb
        · exact List.mem_cons_self ..
        · exact List.mem_cons_of_mem _ (List.mem_cons_of_mem _ hb)
      · rw [← e1]
        unfold minQ
        rw [List.map_cons, List.foldl_cons, if_neg k]
      · rw [← e2]
        unfold minP
        rw [List.map_cons, List.foldl_cons, if_neg k]
theorem zip_of (t : List (Val × V × PyData)) : (t.map (·.1)).zip (t.map (·.2.2)) = t.map fun b => (b.1, b.2.2) := by
  induction t with
  | nil => rfl
  | cons b t ih => rw [List.map_cons, List.map_cons, List.zip_cons_cons, ih, List.map_cons]
theorem repL_map {K : PySem.W.Frag} {ρ : Pl} {H : Hp} : ∀ {t : List (Val × V × PyData)}, (∀ b ∈ t, Rep K ρ H b.1 b.2.1) → RepL K ρ H (t.map (·.1)) (t.map (·.2.1))
  | [], _ => .nil
  | b :: t, h => .cons (h b (List.mem_cons_self ..)) (repL_map fun x hx => h x (List.mem_cons_of_mem _ hx))
theorem bi_minD (hc : X.calm = true) (hu : X.A.units + 100 < cLine) : CallR X (.builtin "min") (rCall X.K fun vs st => bnd (ofOpt (biMinD st vs)) ret st) := by
  intro pins s σ H xs us Q I r h
  obtain ⟨W, σ', ρ, st, vs, rS, ra, p0⟩ := h
  obtain ⟨c, e, p⟩ := Post.opt p0
  clear p0
  unfold biMinD at e
  split at e
  · obtain ⟨x, rfl, h1⟩ := repL_one ra
    cases h1 with
    | lst t n q =>
      unfold minL at e
      obtain ⟨ds, e1, e2⟩ := Option.bind_eq_some_iff.mp e
      split at e2
      · rename_i ha
        obtain ⟨tr, a1, a2, a3, a4⟩ := dps rS q e1
        subst a1 a2 a3
        rw [zip_of] at e2
        cases tr with
        | nil => cases e2
        | cons b0 tr =>
          cases e2
          obtain ⟨b, hb, m1, m2⟩ := min_both tr b0
          refine cr_minD hc hu pins s σ H _ us Q I r ⟨_, (b0.2.1, b0.2.2), tr.map fun b => (b.2.1, b.2.2), rfl, ?_, ?_, ?_, ?_⟩
          · have : ((b0.2.1, b0.2.2) :: tr.map fun b => (b.2.1, b.2.2)).map (·.1) = (b0 :: tr).map (·.2.1) := by simp
            rw [this]
            exact .of t
          · intro z hz
            have : z ∈ (b0 :: tr).map fun b => (b.2.1, b.2.2) := hz
            obtain ⟨y, hy, rfl⟩ := List.mem_map.mp this
            exact ⟨(a4 y hy).2.1, (a4 y hy).2.2⟩
          · have : ((b0.2.1, b0.2.2) :: tr.map fun b => (b.2.1, b.2.2)).map (·.2) = (b0 :: tr).map (·.2.2) := by simp
            rw [this]
            exact alk_of ha
          · rw [m2]
            have p' := Post.ret p rS (show Rep X.K ρ H (minQ (b0.1, b0.2.2) (tr.map fun b => (b.1, b.2.2))).1 b.2.1 by rw [m1]; exact (a4 b hb).1)
            exact p'
      · cases e2
  · obtain ⟨x, y, rfl, h1, h2⟩ := repL_two ra
    unfold min2 at e
    obtain ⟨d, e1, e2⟩ := Option.bind_eq_some_iff.mp e
    obtain ⟨d', e3, e4⟩ := Option.bind_eq_some_iff.mp e2
    split at e4
    · rename_i ha
      cases e4
      obtain ⟨b1, _, b3⟩ := h1.dp rS _ e1
      obtain ⟨c1, _, c3⟩ := h2.dp rS _ e3
      have b3' : d.depth ≤ 10 := b3
      have c3' : d'.depth ≤ 10 := c3
      refine cr_min2D hc hu pins s σ H _ us Q I r ⟨(x, d), (y, d'), rfl, ?_, alk_of ha, ?_⟩
      · intro z hz
        rcases List.mem_cons.mp hz with rfl | hz
        · exact ⟨b1, Nat.le_trans b3' (by decide)⟩
        · rw [List.mem_singleton.mp hz]
          exact ⟨c1, Nat.le_trans c3' (by decide)⟩
      · show Q (if PySem.W.dataLt d' d = true then (y, d') else (x, d)).1 H
        by_cases k : PySem.W.dataLt d' d = true
        · rw [if_pos k] at p ⊢
          exact Post.ret p rS h2
        · rw [if_neg k] at p ⊢
          exact Post.ret p rS h1
    · cases e4
  · cases e
theorem bi_sortD {new : Bool} (hu : X.A.units + 100 < cLine) : CallR X (.builtin "sorted") (rCall X.K fun vs st => bnd (ofOpt (biSortD st vs)) (mk new) st) := by
  intro pins s σ H xs us Q I r h
  obtain ⟨W, σ', ρ, st, vs, rS, ra, p0⟩ := h
  obtain ⟨c, e, p⟩ := Post.opt p0
  clear p0
  have fin : ∀ {vs : List Val} {ws : List V} {a : Addr}, srtV st vs = some c → xs = [.ref a] → SqL X.K H a ws → RepL X.K ρ H vs ws → wpAny (model X.prog X.w) X.A (call (.builtin "sorted") us) (EP X pins σ Q) X.xe s := by
    intro vs ws a ec ex ha q
    subst ex
    unfold srtV at ec
    obtain ⟨ds, e1, e2⟩ := Option.bind_eq_some_iff.mp ec
    split at e2
    · rename_i hh
      rw [Bool.and_eq_true] at hh
      obtain ⟨tr, a1, a2, a3, a4⟩ := dps rS q e1
      subst a1 a2 a3
      rw [zip_of] at e2
      cases e2
      have m1 : (tr.mergeSort fun a b => !PySem.W.dataLt b.2.2 a.2.2).map (fun b => (b.1, b.2.2)) = (tr.map fun b => (b.1, b.2.2)).mergeSort fun a b => !PySem.W.dataLt b.2 a.2 := List.map_mergeSort fun a _ b _ => rfl
      have m2 : (tr.mergeSort fun a b => !PySem.W.dataLt b.2.2 a.2.2).map (fun b => (b.2.1, b.2.2)) = (tr.map fun b => (b.2.1, b.2.2)).mergeSort fun a b => !PySem.W.dataLt b.2 a.2 := List.map_mergeSort fun a _ b _ => rfl
      have k1 : srtZ (tr.map fun b => (b.1, b.2.2)) = (tr.mergeSort fun a b => !PySem.W.dataLt b.2.2 a.2.2).map (·.1) := by
        unfold srtZ
        rw [← m1, List.map_map]
        rfl
      have k2 : ((tr.map fun b => (b.2.1, b.2.2)).mergeSort (PySem.W.dataLe false (·.2))).map (·.1) = (tr.mergeSort fun a b => !PySem.W.dataLt b.2.2 a.2.2).map (·.2.1) := by
        have : PySem.W.dataLe false (fun b : V × PyData => b.2) = fun a b => !PySem.W.dataLt b.2 a.2 := rfl
        rw [this, ← m2, List.map_map]
        rfl
      refine cr_sortD hu pins s σ H _ us Q I r ⟨a, tr.map fun b => (b.2.1, b.2.2), rfl, ?_, ?_, ?_, ?_, fun p' hn => ?_⟩
      · rw [List.map_map]
        exact ha
      · intro z hz
        obtain ⟨y, hy, rfl⟩ := List.mem_map.mp hz
        exact ⟨(a4 y hy).2.1, (a4 y hy).2.2⟩
      · rw [List.map_map]
        exact (alk_of hh.1).1
      · rw [List.map_map]
        exact srt_of hh.2
      · rw [k2]
        rw [k1] at p
        refine post_l p rS (repL_map fun b hb => (a4 b ?_).1) p' hn
        exact List.mem_mergeSort.mp hb
    · cases e2
  unfold biSortD at e
  split at e
  · obtain ⟨x, rfl, h1⟩ := repL_one ra
    cases h1 with
    | lst t n q => exact fin e rfl (.of t) q
  · obtain ⟨x, rfl, h1⟩ := repL_one ra
    cases h1 with
    | @loc _ a h =>
      unfold obSrtV at e
      split at e
      · rename_i eo
        obtain ⟨u, e3, e4⟩ := rS.at_ _ a _ h eo
        cases e4 with
        | lst q => exact fin e rfl (.of e3) q
      · cases e
  · cases e
theorem bi_sorted {new : Bool} (hc : X.calm = true) : CallR X (.builtin "sorted") (rCall X.K fun vs st => bnd (ofOpt (biSorted st vs)) (mk new) st) := by
  intro pins s σ H xs us Q I r h
  obtain ⟨W, σ', ρ, st, vs, rS, ra, p0⟩ := h
  obtain ⟨c, e, p⟩ := Post.opt p0
  clear p0
  have fin : ∀ {ns : List Int} {a : Addr}, c = .l ((srt ns).map .int) → xs = [.ref a] → SqL X.K H a (ns.map V.int) → wpAny (model X.prog X.w) X.A (call (.builtin "sorted") us) (EP X pins σ Q) X.xe s := by
    intro ns a ec ex ha
    subst ec ex
    refine cr_sortedI pins s σ H _ us Q I r ⟨a, ns, rfl, ha, fun ns' p' hp hs hn => ?_⟩
    rw [sorted_of hp hs]
    exact post_l p rS (repL_ints _) p' hn
  unfold biSorted at e
  split at e
  · obtain ⟨ns, e1, e2⟩ := Option.map_eq_some_iff.mp e
    obtain ⟨x, rfl, h1⟩ := repL_one ra
    cases h1 with
    | lst t n q =>
      have := mapO_ints q e1
      subst this
      exact fin e2.symm rfl (.of t)
  · obtain ⟨ns, e1, e2⟩ := Option.map_eq_some_iff.mp e
    obtain ⟨x, rfl, h1⟩ := repL_one ra
    cases h1 with
    | @loc _ a h =>
      unfold obSort at e1
      split at e1
      · rename_i eo
        obtain ⟨u, e3, e4⟩ := rS.at_ _ a _ h eo
        cases e4 with
        | lst q =>
          have := mapO_ints q e1
          subst this
          exact fin e2.symm rfl (.of e3)
      · rename_i kvs eo
        split at e1
        · rename_i hl
          obtain ⟨u, e3, e4⟩ := rS.at_ _ a _ h eo
          cases e4 with
          | @dK _ kws hk q =>
            subst e2
            have ek := mapO_keys e1
            refine call_sortedDI hc pins s σ H _ us Q I r ⟨a, kws, ns, rfl, .inl e3, hk ▸ ek, ?_, fun ys p' hp hs hn => ?_⟩
            · have := congrArg List.length ek
              simp only [List.length_map] at this
              have := of_decide_eq_true hl
              omega
            · rw [sorted_of hp hs]
              exact post_l p rS (repL_ints _) p' hn
        · cases e1
      · cases e1
  · cases e
theorem padK_of {k : List Key} (h : padKB k = true) : k ∈ padK := by
  unfold padKB at h
  split at h
  · rename_i i j
    simp only [Bool.and_eq_true, decide_eq_true_eq] at h
    obtain ⟨⟨⟨h1, h2⟩, h3⟩, h4⟩ := h
    obtain ⟨i', rfl⟩ := Int.eq_ofNat_of_zero_le h1
    obtain ⟨j', rfl⟩ := Int.eq_ofNat_of_zero_le h3
    unfold padK
    exact List.mem_flatMap.mpr ⟨i', List.mem_range.mpr (by omega), List.mem_map.mpr ⟨j', List.mem_range.mpr (by omega), rfl⟩⟩
  · cases h
theorem post_dT {K : PySem.W.Frag} {W : WX} {σ : L2.St} {ρ : Pl} {H : Hp} {Q : VK} {st : Store} {new : Bool} {kvs : List (List Key × Val)} {kws : List (List Key × V)} (p : Post K (Rep K) W σ ρ H Q (mk new (.t kvs) st)) (s : RelS K ρ st H) (d : DRel K ρ H kvs kws) : ∀ a, H a = none → Q (.ref a) (upd H a (.dT kws)) := fun a h => by
  have hk := d.keys
  have r := d.vals
  cases new with
  | true =>
    have x0 := Ext0.newLoc (ρ := ρ) (o := .dT kws) h
    have z := s.newLoc (o := .dT kvs) (u := .dT kws) h (.dT hk (r.ext0 x0))
    refine p (ρ.push a) (.ref a) _ z.2 z.1 (.loc ?_)
    show (ρ.ps ++ [a])[st.length]? = some a
    rw [← s.len, List.getElem?_append_right (Nat.le_refl _), Nat.sub_self]
    rfl
  | false =>
    have z := s.laid (o := .dT kws) h
    refine p ρ (.ref a) _ z.2 z.1 ?_
    rw [hk]
    exact .dT upd_same (s.fresh h) (r.ext z.2)
theorem pairs_rep {K : PySem.W.Frag} {ρ : Pl} {H : Hp} : ∀ {vs : List Val} {ws : List V} {kvs : List (List Key × Val)}, RepL K ρ H vs ws → mapO pairT vs = some kvs → ∃ (ps : List Addr) (kws : List (List Key × V)), ws = ps.map V.ref ∧ DRel K ρ H kvs kws ∧ Paired (fun p (kv : List Key × V) => ∃ b, SqT K H p [.ref b, kv.2] ∧ H b = some (.tup (kv.1.map kV))) ps kws
  | _, _, _, .nil, e => by cases e; exact ⟨[], [], rfl, .nil, .nil⟩
  | _, _, _, .cons (v := v) (w := w) r q, e => by
    unfold mapO at e
    obtain ⟨kv, e1, e2⟩ := Option.bind_eq_some_iff.mp e
    obtain ⟨kvs, e3, rfl⟩ := Option.map_eq_some_iff.mp e2
    obtain ⟨ps, kws, rfl, d, pr⟩ := pairs_rep q e3
    unfold pairT at e1
    split at e1
    · obtain ⟨k, e4, rfl⟩ := Option.map_eq_some_iff.mp e1
      cases r with
      | @tup a us _ t q2 =>
        obtain ⟨x, y, rfl, rx, ry⟩ := repL_two q2
        obtain ⟨b, rfl, hb⟩ := keyT_rep rx e4
        exact ⟨a :: ps, (k, y) :: kws, rfl, .cons ry d, .cons ⟨b, t.sq, hb⟩ pr⟩
    · cases e1
theorem mrg_rel {K : PySem.W.Frag} {ρ : Pl} {H : Hp} : ∀ {kvs : List (List Key × Val)} {kws : List (List Key × V)} {acc : List (List Key × Val)} {bcc : List (List Key × V)}, DRel K ρ H acc bcc → DRel K ρ H kvs kws → DRel K ρ H (mrg acc kvs) (mrgT bcc kws)
  | [], kws, acc, bcc, h, d => by
    have := d.len
    cases kws with
    | nil => exact h
    | cons _ _ => simp at this
  | kv :: kvs, kws, acc, bcc, h, d => by
    have hl := d.len
    cases kws with
    | nil => simp at hl
    | cons kw kws =>
      obtain ⟨dk, dv⟩ := d
      have e1 : kv.1 = kw.1 := by simpa using (List.cons.inj (by simpa using dk)).1
      cases dv with
      | cons r q =>
        refine mrg_rel (kvs := kvs) (kws := kws) ?_ ⟨by simpa using (List.cons.inj (by simpa using dk)).2, q⟩
        have := h.put kv.1 r
        rw [e1] at this ⊢
        exact this
theorem bi_dict {new : Bool} (hc : X.calm = true) (hu : X.A.units + 100 < cLine) : CallR X (.type "dict") (rCall X.K fun vs st => bnd (ofOpt (biDict st vs)) (mk new) st) := by
  intro pins s σ H xs us Q I r h
  obtain ⟨W, σ', ρ, st, vs, rS, ra, p0⟩ := h
  obtain ⟨c, e, p⟩ := Post.opt p0
  clear p0
  unfold biDict at e
  split at e
  · obtain ⟨x, rfl, h1⟩ := repL_one ra
    cases h1 with
    | @loc _ a h =>
      unfold obDict at e
      split at e
      · rename_i eo
        cases e
        obtain ⟨u, e3, e4⟩ := rS.at_ _ a _ h eo
        cases e4 with
        | dK hk q => exact call_dictD pins s σ H _ us Q I r ⟨_, _, rfl, .inl e3, post_dK p rS hk q⟩
      · rename_i eo
        split at e
        · rename_i hp
          cases e
          obtain ⟨u, e3, e4⟩ := rS.at_ _ a _ h eo
          cases e4 with
          | dT hk q => exact call_dictT (by omega) pins s σ H _ us Q I r ⟨_, _, rfl, .inl e3, fun k hk' => padK_of (List.all_eq_true.mp hp k (hk ▸ hk')), post_dT p rS ⟨hk, q⟩⟩
        · cases e
      · cases e
  · cases e
    obtain ⟨x, rfl, h1⟩ := repL_one ra
    cases h1 with
    | dK t n q =>
      have d := DRel.zip q
      exact call_dictD pins s σ H _ us Q I r ⟨_, _, rfl, .inl t, post_dK p rS d.keys d.vals⟩
  · split at e
    · rename_i hp
      cases e
      obtain ⟨x, rfl, h1⟩ := repL_one ra
      cases h1 with
      | dT t n q => exact call_dictT (by omega) pins s σ H _ us Q I r ⟨_, _, rfl, .inl t, fun k hk' => padK_of (List.all_eq_true.mp hp k hk'), post_dT p rS (.zip q)⟩
    · cases e
  · obtain ⟨kvs, e1, rfl⟩ := Option.map_eq_some_iff.mp e
    obtain ⟨x, rfl, h1⟩ := repL_one ra
    cases h1 with
    | lst t n q =>
      obtain ⟨ps, kws, rfl, d, pr⟩ := pairs_rep q e1
      exact call_dictPT hc (by omega) pins s σ H _ us Q I r ⟨_, ps, kws, rfl, t, pr, post_dT p rS (mrg_rel .nil d)⟩
  · cases e
/-- dict(pairs), the keys tuples of tuples -/
theorem bi_dicN (hc : X.calm = true) (hu : X.A.units + 100 < cLine) : CallR X (.type "dict") (rCall X.K fun vs st => bnd (ofOpt (dicNs st vs)) ret st) := by
  intro pins s σ H xs us Q I r h
  obtain ⟨W, σ', ρ, st, vs, rS, ra, p0⟩ := h
  obtain ⟨c, e, p⟩ := Post.opt p0
  clear p0
  unfold dicNs at e
  split at e
  · obtain ⟨x, rfl, h1⟩ := repL_one ra
    unfold dicN at e
    obtain ⟨ys, e1, e2⟩ := Option.bind_eq_some_iff.mp e
    obtain ⟨ks, e3, rfl⟩ := Option.map_eq_some_iff.mp e2
    obtain ⟨a, ws, rfl, h2, h3⟩ := h1.lstOf rS e1
    obtain ⟨ps, rfl, h4⟩ := pairsN_rep h3 e3
    refine call_dictN hc hu pins s σ H _ us Q I r ⟨ρ, a, ps, ks, rfl, h2, fun p hp => rS.fresh hp, h4, fun b xs' hb hd hk => ?_⟩
    have z := rS.laid (o := .ext (DicN b xs')) hb
    have p' : Post X.K (Rep X.K) W σ' ρ H Q (.ok (.dN (ddN [] ks)) st) := p
    refine p' ρ _ _ z.2 z.1 ?_
    rw [← hk]
    exact .dN hd
  · cases e
theorem bi_str : CallR X (.type "str") (rCall X.K fun vs st => bnd (ofOpt (biStr vs)) ret st) := by
  intro pins s σ H xs us Q I r h
  obtain ⟨W, σ', ρ, st, vs, rS, ra, p0⟩ := h
  obtain ⟨c, e, p⟩ := Post.opt p0
  clear p0
  unfold biStr at e
  split at e
  · split at e
    · rename_i hz
      cases e
      obtain ⟨x, rfl, h1⟩ := repL_one ra
      cases h1
      exact call_str_int pins s σ H _ us Q I r ⟨_, rfl, of_decide_eq_true hz, Post.ret p rS (.str _)⟩
    · cases e
  · cases e
    obtain ⟨x, rfl, h1⟩ := repL_one ra
    cases h1
    exact SkE.call_str_str pins s σ H _ us Q I r ⟨_, rfl, Post.ret p rS (.str _)⟩
  · cases e
/-! ### isinstance -/
def kdName : Kd → String
  | .bool => "bool"
  | .int => "int"
  | .str => "str"
  | .tuple => "tuple"
  | .list => "list"
  | .dict => "dict"
theorem kit_kd {K : PySem.W.Frag} (q k : Kd) : PySem.W.kitOne K (.type (kdName q)) (.type (kdName k)) = some (decide (q = k) || (decide (q = .bool) && decide (k = .int))) := by
  apply kit_ty
  cases q <;> cases k <;> decide +kernel
theorem kit_non {K : PySem.W.Frag} (k : Kd) : PySem.W.kitOne K (.type "NoneType") (.type (kdName k)) = some false := by
  apply kit_ty
  cases k <;> decide +kernel
theorem kind_ty {K : PySem.W.Frag} {ρ : Pl} {st : Store} {H : Hp} {v : Val} {x : V} {q : Kd} (rS : RelS K ρ st H) (r : Rep K ρ H v x) (e : kindOf st v = some q) : TyX K H x (.type (kdName q)) := by
  cases r with
  | bl b => cases e; exact .base (.bl b)
  | int i => cases e; exact .base (.int i)
  | str s => cases e; exact .base (.str s)
  | tup t _ =>
    cases e
    exact .base (.tup t.1)
  | lst t n _ => cases e; exact .base (.lst t)
  | dK t n _ => cases e; exact .base (.dK t)
  | dT t n _ => cases e; exact .base (.dT t)
  | @loc l a h =>
    unfold kindOf at e
    dsimp only at e
    split at e
    · rename_i xs h1
      cases e
      obtain ⟨u, e1, e2⟩ := rS.at_ l a _ h h1
      cases e2
      exact .base (.lst e1)
    · rename_i xs h1
      cases e
      obtain ⟨u, e1, e2⟩ := rS.at_ l a _ h h1
      cases e2
      exact .base (.dK e1)
    · rename_i xs h1
      cases e
      obtain ⟨u, e1, e2⟩ := rS.at_ l a _ h h1
      cases e2
      exact .base (.dT e1)
    · cases e
  | _ => cases e
theorem isin_S {k : Kd} : CallR X (.builtin "isinstance") (fun xs H Q => ∃ x, xs = [x, .ty (kdName k)] ∧ rUn X.K (fun v st => bnd (ofOpt (isinOp st v k)) (fun b => ret (.bl b)) st) x H Q) := by
  intro pins s σ H xs us Q I r h
  obtain ⟨x, rfl, W, σ', ρ, st, v, rS, ra, p⟩ := h
  obtain ⟨c, e, q⟩ := post_optB p rS
  unfold isinOp at e
  split at e
  · cases e; cases ra
    exact call_isi pins s σ H _ us Q I r ⟨_, _, _, _, false, rfl, .ty _, .base .non, kit_non k, q⟩
  · obtain ⟨kd, e1, rfl⟩ := Option.map_eq_some_iff.mp e
    exact call_isi pins s σ H _ us Q I r ⟨_, _, _, _, _, rfl, .ty _, kind_ty rS ra e1, kit_kd kd k, q⟩
end

/-! ### tuple * int -/
section
open PySem.Spec PyProof.Rows
theorem tuple_mul1 (l : Addr) (items : Array Value) (n : Nat) (dd : Option Addr) (sl : Array (Option Value)) (x : Int) (u : Tok) (c0 : (decide (x < -(2 ^ 63)) || decide (x ≥ 2 ^ 63)) = false) (c1 : (items.isEmpty || x == 1) = true) :
    Meets (Builtin.«tuple.__mul__» ⟨[.ref l, .int x u], []⟩) (fun _ R s => s.heap.get? l = some { cls := .type "tuple", dict := dd, data := .seq items n, slots := sl } ∧
      R (.ok (.ret (Value.ref l))) s) :=
  .of_wp fun prog w A R s h => by
    obtain ⟨hp, g, d, tk, os⟩ := s
    obtain ⟨hl, h⟩ := h
    have f1 := AutoSeq1.idx_int
    wp_walk using wpAny_loadPart' hl
    repeat (first
      | (refine wpAny_ite_false (decide_eq_false (by rw [c0]; exact Bool.false_ne_true)) ?_; wp_walk using wpAny_loadPart' hl)
      | (refine wpAny_ite_true (decide_eq_true c1) ?_; wp_walk using wpAny_loadPart' hl))
    exact ⟨_, rfl, h⟩
theorem tuple_mul0 (l : Addr) (items : Array Value) (n : Nat) (dd : Option Addr) (sl : Array (Option Value)) (x : Int) (u : Tok) (c0 : (decide (x < -(2 ^ 63)) || decide (x ≥ 2 ^ 63)) = false) (c1 : (items.isEmpty || x == 1) = false) (c2 : (decide (x ≤ 0) || items.isEmpty) = true) :
    Meets (Builtin.«tuple.__mul__» ⟨[.ref l, .int x u], []⟩) (fun _ R s => s.heap.get? l = some { cls := .type "tuple", dict := dd, data := .seq items n, slots := sl } ∧
      R (.ok (.ret (Value.ref s.heap.objs.size))) { s with heap := s.heap.push { cls := Value.type "tuple", data := Data.seq #[] }, toks := s.toks }) :=
  .of_wp fun prog w A R s h => by
    obtain ⟨hp, g, d, tk, os⟩ := s
    obtain ⟨hl, h⟩ := h
    have f1 := AutoSeq1.idx_int
    wp_walk using wpAny_loadPart' hl
    repeat (first
      | (refine wpAny_ite_false (decide_eq_false (by rw [c0]; exact Bool.false_ne_true)) ?_; wp_walk using wpAny_loadPart' hl)
      | (refine wpAny_ite_false (decide_eq_false (by rw [c1]; exact Bool.false_ne_true)) ?_; wp_walk using wpAny_loadPart' hl)
      | (refine wpAny_ite_true (decide_eq_true c2) ?_; wp_walk using wpAny_loadPart' hl))
    exact ⟨_, rfl, h⟩

def rRepA (K : PySem.W.Frag) : R2 := fun x y H Q => ∃ l k xs, x = .ref l ∧ y = .int k ∧ SqT K H l xs ∧ 0 ≤ k ∧ k ≤ 1000 ∧ xs.length ≤ 1000 ∧
  (xs = [] ∨ k = 1 → Q (.ref l) H) ∧ (xs ≠ [] → k ≠ 1 → ∀ p, H p = none → Q (.ref p) (upd H p (.tup (List.replicate k.toNat xs).flatten)))
theorem op_repA {X : Cx} : OpR X (binaryOp .Mult) (rRepA X.K) := by
  intro pins s σ H x y v u Q I rx ry h
  obtain ⟨l, k, xs, rfl, rfl, hT, h0, h2, hz, q1, q2⟩ := h
  by_cases hk : 2 ≤ k ∧ xs ≠ []
  · exact op_repT pins s σ H _ _ v u Q I rx ry ⟨l, k, xs, rfl, rfl, hT, hk.2, hk.1, h2, hz, q2 hk.2 (by omega)⟩
  · cases rx
    obtain ⟨t, rfl⟩ := ry
    obtain ⟨its, r, ⟨⟨cls, dd, data, sl⟩, ho, hc, n, hd⟩, hs⟩ := I.tuple hT
    simp only at hc hd
    subst hc hd
    have hle : its.length = xs.length := r.length.symm
    have c0 : (decide (k < -(2 ^ 63)) || decide (k ≥ 2 ^ 63)) = false := by
      rw [decide_eq_false (by omega), decide_eq_false (by omega)] <;> rfl
    by_cases h1 : xs = [] ∨ k = 1
    · have c1 : (its.toArray.isEmpty || k == 1) = true := by
        rcases h1 with h1 | h1
        · subst h1
          have : its = [] := List.eq_nil_of_length_eq_zero hle
          subst this
          rfl
        · subst h1; simp
      refine wpAny_binaryOp_repeat_ref (T := "tuple") (U := "int") (by decide) ⟨_, ho, rfl⟩ (fun s' => typeIs_int s' k t) noFill_tuple_mul PySem.F.fills_int_mul PySem.F.slot_int_rmul repeat_tuple PySem.F.slot_int_index.lookup
        (call_meets PySem.F.slot_int_rmul (typeIs_int s k t) PySem.F.entry_int_rmul (PySem.F.args_int_rmul_2 _ _) (int_rmul_tuple k t l its.toArray n dd sl)
          ⟨ho, rfl, ⟨_, ho, rfl⟩, call_meets PySem.F.slot_tuple_mul ⟨_, ho, rfl⟩ PySem.F.entry_tuple_mul (PySem.F.args_tuple_mul_2 _ _) (tuple_mul1 l its.toArray n dd sl k t c0 c1) ⟨ho, ?_⟩⟩)
      exact ⟨.ref l, H, I, rfl, q1 h1⟩
    · have hx : xs ≠ [] := fun e => h1 (.inl e)
      have hk1 : k ≠ 1 := fun e => h1 (.inr e)
      have hk0 : k = 0 := by
        by_cases h2 : 2 ≤ k
        · exact absurd ⟨h2, hx⟩ hk
        · omega
      subst hk0
      have hi : its.toArray.isEmpty = false := by
        cases its with
        | nil => exact absurd (List.eq_nil_of_length_eq_zero hle.symm) hx
        | cons a b => rfl
      have c1 : (its.toArray.isEmpty || (0 : Int) == 1) = false := by rw [hi]; rfl
      have c2 : (decide ((0 : Int) ≤ 0) || its.toArray.isEmpty) = true := by rw [decide_eq_true (Int.le_refl _)]; rfl
      refine wpAny_binaryOp_repeat_ref (T := "tuple") (U := "int") (by decide) ⟨_, ho, rfl⟩ (fun s' => typeIs_int s' 0 t) noFill_tuple_mul PySem.F.fills_int_mul PySem.F.slot_int_rmul repeat_tuple PySem.F.slot_int_index.lookup
        (call_meets PySem.F.slot_int_rmul (typeIs_int s 0 t) PySem.F.entry_int_rmul (PySem.F.args_int_rmul_2 _ _) (int_rmul_tuple 0 t l its.toArray n dd sl)
          ⟨ho, rfl, ⟨_, ho, rfl⟩, call_meets PySem.F.slot_tuple_mul ⟨_, ho, rfl⟩ PySem.F.entry_tuple_mul (PySem.F.args_tuple_mul_2 _ _) (tuple_mul0 l its.toArray n dd sl 0 t c0 c1 c2) ⟨ho, ?_⟩⟩)
      refine ⟨.ref s.heap.objs.size, _, I.laid (t' := s.toks) (o := .tup []) (fun b ob q => Heap.get?_push_of_some _ q) (Nat.le_refl _) ?_, rfl, q2 hx hk1 _ (I.hok.fresh (Nat.le_refl _))⟩
      exact ⟨Nat.zero_le _, [], .nil, IsTup.new _ _⟩
end
theorem op_mul_S0 {X : Cx} {new : Bool} : OpR X (binaryOp .Mult) (rOp X.K fun v w st => bnd (ofOpt ((opMul v w).map Pv.v)) (mk new) st) := by
  intro pins s σ H x y v u Q I rx ry h
  obtain ⟨W, σ', ρ, st, a, b, rS, ra, rb, p0⟩ := h
  obtain ⟨pv, e, p⟩ := post_map p0
  clear p0
  unfold opMul at e
  split at e
  · split at e
    · rename_i hz
      cases e; cases ra; cases rb
      refine op_mul pins s σ H _ _ v u Q I rx ry ⟨_, _, rfl, rfl, ?_, Post.ret p rS (.int _)⟩
      unfold mulOk at hz
      rcases Bool.or_eq_true_iff.mp hz with hz | hz
      · have := Bool.and_eq_true_iff.mp hz
        exact .inl ⟨of_decide_eq_true this.1, of_decide_eq_true this.2⟩
      · have := Bool.and_eq_true_iff.mp hz
        exact .inr ⟨of_decide_eq_true this.1, of_decide_eq_true this.2⟩
    · cases e
  · split at e
    · rename_i xs k hz
      cases e; cases rb
      simp only [Bool.and_eq_true] at hz
      have z1 := of_decide_eq_true hz.1.1
      have z2 := of_decide_eq_true hz.1.2
      have z3 : xs.length ≤ 1000 := of_decide_eq_true hz.2
      cases ra with
      | @tup a1 ws vs ta qa =>
        have hl := qa.length
        refine op_repA pins s σ H _ _ v u Q I rx ry ⟨a1, k, ws, rfl, rfl, ta.sq, z1, z2, by omega, fun h => ?_, fun _ _ => post_t p rS (qa.rep _)⟩
        have e : (List.replicate k.toNat xs).flatten = xs := by
          rcases h with h | h
          · subst h
            have : xs = [] := List.eq_nil_of_length_eq_zero hl
            subst this
            simp
          · subst h; simp
        rw [e] at p
        exact Post.ret p rS (.tup ta qa)
    · cases e
  · cases e
theorem op_mul_S {X : Cx} {new : Bool} : OpR X (binaryOp .Mult) (rOp X.K fun v w st => bnd (ofOpt (opMulL st v w)) (mk new) st) := by
  intro pins s σ H x y v u Q I rx ry h
  obtain ⟨W, σ', ρ, st, a, b, rS, ra, rb, p0⟩ := h
  have rep : ∀ (xs : List Val) (k : Int), lstOf st a = some xs → b = .int k → Post X.K (Rep X.K) W σ' ρ H Q (bnd (ofOpt (repL xs k)) (mk new) st) → rRep x y H Q := by
    intro xs k e1 eb p1
    subst eb
    obtain ⟨pv, e, p⟩ := Post.opt p1
    unfold repL at e
    split at e
    · rename_i hz
      cases e
      simp only [Bool.and_eq_true] at hz
      have z1 := of_decide_eq_true hz.1.1
      have z2 := of_decide_eq_true hz.1.2
      have z3 : xs.length ≤ 1000 := of_decide_eq_true hz.2
      obtain ⟨a1, ws, rfl, h1, q1⟩ := ra.lstOf rS e1
      cases rb
      have l1 := q1.length
      refine ⟨a1, k, ws, rfl, rfl, h1, by omega, by omega, ?_, post_l p rS (q1.rep _)⟩
      have : ws.length * k.toNat ≤ 1000 * 1000 := Nat.mul_le_mul (by omega) (by omega)
      have hs : (1000 * 1000 : Nat) ≤ sizeLine := by decide
      omega
    · cases e
  have p9 : Post X.K (Rep X.K) W σ' ρ H Q (bnd (ofOpt (opMulL st a b)) (mk new) st) := p0
  clear p0
  unfold opMulL at p9
  split at p9
  · exact op_rep pins s σ H _ _ v u Q I rx ry (rep _ _ rfl rfl p9)
  · rename_i l k
    cases hl : lstOf st (.loc l) with
    | none => rw [hl] at p9; exact p9.elim
    | some xs =>
      rw [hl] at p9
      exact op_rep pins s σ H _ _ v u Q I rx ry (rep xs k hl rfl p9)
  · exact op_mul_S0 pins s σ H x y v u Q I rx ry ⟨W, σ', ρ, st, _, _, rS, ra, rb, p9⟩
end Rc
namespace Rc
open PySem L2 PyProof.Rows HT
/-! ### the turned tuple, the turned list -/
section
variable {prog : Program} {w : World} {A : Around} {E : Value → Shared → Prop} {s : Shared}
theorem adjust_rev (n : Nat) : Builtin.Slice.sliceAdjust none none (-1) (n : Int) = ((n : Int) - 1, -1) := by
  unfold Builtin.Slice.sliceAdjust
  simp
theorem places_rev (n : Nat) : Builtin.Slice.slicePlaces ((n : Int) - 1) (-1) (-1) = n := by
  unfold Builtin.Slice.slicePlaces
  simp
  omega
theorem applied_rev {sl : Addr} {vs : Value} {n : Nat} {Q : Int × Int × Nat → Shared → Prop} (hs : s.heap.IsSliceOf sl .none .none vs) (ps : IsPart vs (some (-1)))
    (h : Q ((n : Int) - 1, -1, n) s) : wpAny (model prog w) A (Builtin.Slice.sliceApplied (.ref sl) (pure (n : Int))) Q E s := by
  obtain ⟨os, hos, hcs, hds⟩ := id hs
  unfold Builtin.Slice.sliceApplied Builtin.Slice.sliceFields
  refine wpAny_bind (wpAny_bind (wpAny_field hos hds (x := .none) rfl (wpAny_bind (wpAny_field hos hds (x := .none) rfl (wpAny_bind (wpAny_field hos hds (x := vs) rfl (wpAny_pure ?_)))))))
  refine wpAny_bind (slicePart_ ps ?_)
  show wpAny _ _ (if ((-1 : Int) == 0) = true then _ else _) _ _ s
  rw [if_neg (by decide)]
  refine wpAny_bind (slicePart_none (wpAny_bind (slicePart_none (wpAny_bind (wpAny_pure ?_)))))
  show wpAny _ _ (match Builtin.Slice.sliceAdjust none none (-1) (n : Int) with | (lo, hi) => pure (lo, (-1 : Int), Builtin.Slice.slicePlaces lo hi (-1))) _ _ s
  rw [adjust_rev n]
  show wpAny _ _ (pure ((n : Int) - 1, (-1 : Int), Builtin.Slice.slicePlaces ((n : Int) - 1) (-1) (-1))) _ _ s
  rw [places_rev]
  exact wpAny_pure h
theorem pick_rev (xs : Array Value) : ((List.range xs.size).filterMap fun (m : Nat) => xs[(((xs.size : Int) - 1) + (m : Int) * (-1)).toNat]?).toArray = xs.toList.reverse.toArray := by
  have e : (fun (m : Nat) => xs[(((xs.size : Int) - 1) + (m : Int) * (-1)).toNat]?) = (fun x => xs[x]?) ∘ fun m => xs.size - 1 - m := by
    funext m
    have : (((xs.size : Int) - 1) + (m : Int) * (-1)).toNat = xs.size - 1 - m := by omega
    rw [this]
    rfl
  rw [e, ← List.filterMap_map, PySem.W.krv_range, List.filterMap_reverse, PySem.W.krv_all]
theorem getItem_tup_rev {t sl : Addr} {items : Array Value} {vs : Value} {Q : Value → Shared → Prop} (ht : IsTup s.heap t items) (hs : s.heap.IsSliceOf sl .none .none vs) (ps : IsPart vs (some (-1)))
    (h : Q (.ref s.heap.objs.size) { s with heap := s.heap.push { cls := .type "tuple", data := .seq items.toList.reverse.toArray } })
    (hsz : items.size ≤ sizeLine) : wpAny (model prog w) A (getItem (.ref t) (.ref sl)) Q E s := by
  have htake : sizeOk (.seq items.toList.reverse.toArray) := by
    show items.toList.reverse.toArray.size ≤ sizeLine
    rw [List.size_toArray, List.length_reverse, Array.length_toList]
    exact hsz
  obtain ⟨os, hos, hcs, hds⟩ := id hs
  have hTs : s.TypeIs (.ref sl) "slice" := ⟨os, hos, hcs⟩
  unfold getItem
  try with_reducible refine wpAny_holding ?_
  first | refine wpAny_bind (wpAny_pure ?_) | skip
  refine wpAny_bind (wpAny_sequenceKey ht.typeIs (by decide) ?_)
  refine wpAny_bind (wpAny_callSpecial?_slot (name := Str.ofString "__getitem__") ht.typeIs PyProof.Rows.slot_tuple_getitem
    (wpAny_call_entry PyProof.Rows.slot_tuple_getitem ht.typeIs entry_tuple_getitem ?_ (args_tuple_getitem _ _)))
  show wpAny _ _ (Builtin.Tuple.tupleItemsOf (.ref t) >>= _) _ _ s
  refine wpAny_bind (tupleItemsOf_ ht ?_)
  refine wpAny_bind (wpAny_typeOf hTs ?_)
  rw [if_pos (by decide)]
  refine wpAny_bind (applied_rev hs ps ?_)
  have hno : ¬ ((((items.size : Int) - 1) == 0 && (-1 : Int) == 1 && items.size == items.size) = true) := by
    intro q
    rw [Bool.and_eq_true, Bool.and_eq_true] at q
    exact absurd q.1.2 (by decide)
  show wpAny _ _ (if (((items.size : Int) - 1) == 0 && (-1 : Int) == 1 && items.size == items.size) = true then _ else _) _ _ s
  rw [if_neg hno, pick_rev]
  first
    | exact wpAny_bind (m := Builtin.Tuple.tupleExact _) (wpAny_newObj_type (wpAny_pure ⟨_, rfl, wpAny_pure h⟩) htake)
    | exact wpAny_bind (m := Builtin.Tuple.tupleExact _) (wpAny_newObj_type (wpAny_bind (wpAny_pure (wpAny_pure ⟨_, rfl, wpAny_pure h⟩))) htake)
    | exact wpAny_bind (wpAny_bind (m := Builtin.Tuple.tupleExact _) (wpAny_newObj_type (wpAny_pure (wpAny_pure ⟨_, rfl, wpAny_pure h⟩)) htake))
    | exact wpAny_bind (wpAny_bind (m := Builtin.Tuple.tupleExact _) (wpAny_newObj_type (wpAny_pure ⟨_, rfl, wpAny_pure h⟩) htake))
end
section
variable {X : Cx}
def tRev (K : PySem.W.Frag) (te : TE) : TE := fun σ H Q => te σ H fun x H1 => ∃ a xs, x = .ref a ∧ ((SqL K H1 a xs ∧ ∀ p, H1 p = none → Q (.ref p) (upd H1 p (.lst xs.reverse))) ∨ (SqT K H1 a xs ∧ ∀ p, H1 p = none → Q (.ref p) (upd H1 p (.tup xs.reverse))))
theorem pe_rev {e : Expr} {te : TE} {k : Nat} {p1 p2 p3 pos : Pos} (he : PE X e te) : PE X (.Subscript e (.Slice none none (some (.UnaryOp .USub (.Constant (.int 1) k p1) p2)) p3) pos) (tRev X.K te) := by
  refine ⟨fun pins s σ H Q I h => ?_⟩
  refine Subscript_ (thn (he.run pins s σ H _ I h) fun v s1 ⟨x, H1, I1, r1, q1⟩ => ?_)
  obtain ⟨a, xs, ex, hx⟩ := q1
  subst ex
  cases r1
  have hst : PO X (some (.UnaryOp .USub (.Constant (.int 1) k p1) p2)) (tPart (tUn (rU fun i => .int (-i)) (tC (.int 1)))) := po_some (pe_un un_neg pe_int)
  refine wpAny_Slice (thn (po_none.run pins s1 σ H1 (fun o H2 => o = none ∧ H2 = H1) I1 ⟨rfl, rfl⟩) fun vl s2 ⟨l, H2, I2, pl, el, e2⟩ => ?_)
  subst el e2
  refine thn (po_none.run pins s2 σ H2 (fun o H3 => o = none ∧ H3 = H2) I2 ⟨rfl, rfl⟩) fun vu s3 ⟨u, H3, I3, pu, eu, e3⟩ => ?_
  subst eu e3
  refine thn (hst.run pins s3 σ H3 (fun o H4 => o = some (-1) ∧ H4 = H3) I3 ⟨1, rfl, -1, rfl, rfl, rfl⟩) fun vs s4 ⟨o, H4, I4, ps, eo, e4⟩ => ?_
  subst eo e4
  have I5 : Inv X pins σ H4 { s4 with heap := s4.heap.push { cls := .type "slice", data := .fields #[vl, vu, vs] } } := I4.kept (t' := s4.toks) fun b ob q => Heap.get?_push_of_some _ q
  show wpAny (model X.prog X.w) X.A (subscriptTail e (.Slice none none (some (.UnaryOp .USub (.Constant (.int 1) k p1) p2)) p3) (.ref a) (.ref s4.heap.objs.size)) (EP X pins σ Q) X.xe { s4 with heap := s4.heap.push { cls := .type "slice", data := .fields #[vl, vu, vs] } }
  rcases hx with ⟨hx, q⟩ | ⟨hx, q⟩
  · obtain ⟨its, r, ht, hz⟩ := I5.list hx
    have hlen := r.length
    refine tail_any (ops := [.ref a, .ref s4.heap.objs.size]) ht.isList.typeIs (PySem.slot_list_getitem.lookup) ?_ (by with_unfolding_all rfl)
    refine wpAny_getItem_list_slice ht.isList (Heap.IsSliceOf.new _ vl vu vs) pl pu ps (by decide) ?_ (by rw [List.size_toArray]; omega)
    rw [PySem.W.krv_pick]
    refine ⟨.ref _, _, I5.laid (t' := s4.toks) (o := .lst xs.reverse) (fun b ob q => Heap.get?_push_of_some _ q) (Nat.le_refl _) ?_, rfl, q _ (I5.hok.fresh (Nat.le_refl _))⟩
    exact ⟨by rw [List.length_reverse]; exact hz, _, 0, r.reverse, Heap.get?_push_size _ rfl⟩
  · obtain ⟨its, r, ht, hz⟩ := I5.tuple hx
    have hlen := r.length
    cases pl
    cases pu
    refine tail_any (ops := [.ref a, .ref s4.heap.objs.size]) ht.typeIs (PyProof.Rows.slot_tuple_getitem.lookup) ?_ (by with_unfolding_all rfl)
    refine getItem_tup_rev ht (Heap.IsSliceOf.new _ _ _ vs) ps ?_ (by rw [List.size_toArray]; omega)
    refine ⟨.ref _, _, I5.laid (t' := s4.toks) (o := .tup xs.reverse) (fun b ob q => Heap.get?_push_of_some _ q) (Nat.le_refl _) ?_, rfl, q _ (I5.hok.fresh (Nat.le_refl _))⟩
    exact ⟨by rw [List.length_reverse]; exact hz, _, r.reverse, IsTup.new _ _⟩
end
/-! ### methods -/
section
variable {X : Cx}
def mtName : Mt → String
  | .append => "append"
  | .extend => "extend"
  | .pop => "pop"
  | .clear => "clear"
  | .insert => "insert"
  | .join => "join"
  | .split => "split"
  | .sindex => "index"
  | .dget => "get"
  | .dpop => "pop"
  | .lindex => "index"
def mtTy (m : Mt) : String := if mtIsStr m = true then "str" else if mtIsDic m = true then "dict" else "list"
def mtId : Mt → String
  | .append => "list.append"
  | .extend => "list.extend"
  | .pop => "list.pop"
  | .clear => "list.clear"
  | .insert => "list.insert"
  | .join => "str.join"
  | .split => "str.split"
  | .sindex => "str.index"
  | .dget => "dict.get"
  | .dpop => "dict.pop"
  | .lindex => "list.index"
def rMt (K : PySem.W.Frag) (g : Val → List Val → M Val) : V → List V → Hp → VK → Prop := fun x xs H Q => ∃ (W : WX) (σ : L2.St) (ρ : Pl) (st : Store) (v : Val) (vs : List Val), RelS K ρ st H ∧ Rep K ρ H v x ∧ RepL K ρ H vs xs ∧ Post K (Rep K) W σ ρ H Q (g v vs st)
theorem RepL.dropLast {K : PySem.W.Frag} {ρ : Pl} {H : Hp} {vs : List Val} {ws : List V} (r : RepL K ρ H vs ws) : RepL K ρ H vs.dropLast ws.dropLast := by
  rw [List.dropLast_eq_take, List.dropLast_eq_take, r.length]
  exact r.take _
theorem RepL.eraseIdx {K : PySem.W.Frag} {ρ : Pl} {H : Hp} : ∀ {vs : List Val} {ws : List V} (k : Nat), RepL K ρ H vs ws → RepL K ρ H (vs.eraseIdx k) (ws.eraseIdx k)
  | _, _, _, .nil => .nil
  | _, _, 0, .cons _ r => r
  | _, _, k + 1, .cons h r => .cons h (r.eraseIdx k)
theorem mapO_strs {K : PySem.W.Frag} {ρ : Pl} {H : Hp} : ∀ {vs : List Val} {ws : List V} {ys : List Str}, RepL K ρ H vs ws → mapO toStr vs = some ys → ws = ys.map V.str
  | _, _, _, .nil, e => by cases e; rfl
  | _, _, _, .cons r q, e => by
    unfold mapO at e
    obtain ⟨d, e1, e2⟩ := Option.bind_eq_some_iff.mp e
    obtain ⟨ds, e3, rfl⟩ := Option.map_eq_some_iff.mp e2
    cases r <;> cases e1
    rw [mapO_strs q e3]; rfl
theorem repL_strs {K : PySem.W.Frag} {ρ : Pl} {H : Hp} : ∀ ys : List Str, RepL K ρ H (ys.map .str) (ys.map V.str)
  | [] => .nil
  | y :: ys => .cons (.str y) (repL_strs ys)
theorem repL_nil {K : PySem.W.Frag} {ρ : Pl} {H : Hp} {xs : List V} (r : RepL K ρ H [] xs) : xs = [] := by
  cases r
  rfl
/-- a list's change, as the heap has it -/
def rWr (m : Mt) : V → List V → Hp → VK → Prop := match m with
  | .append => rAppend
  | .extend => rExtend
  | .pop => fun x xs H Q => rPop x xs H Q ∨ rPopAt x xs H Q
  | .clear => rClear
  | .insert => fun x vs H Q => ∃ (l : Addr) (xs : List V) (i : Int) (y : V), x = .ref l ∧ vs = [.int i, y] ∧ H l = some (.lst xs) ∧ xs.length < sizeLine ∧ 0 ≤ i ∧ i < 2 ^ 63 ∧ Q .non (upd H l (.lst (xs.take i.toNat ++ [y] ++ xs.drop i.toNat)))
  | _ => fun _ _ _ _ => False
theorem wr_ok {m : Mt} : MtR X (mtId m) (rWr m) := by
  cases m with
  | append => exact mt_append
  | extend => exact mt_extend
  | pop => exact fun pins s σ H x xs v us Q I rx rv h => h.elim (mt_pop pins s σ H x xs v us Q I rx rv) (mt_popAt pins s σ H x xs v us Q I rx rv)
  | clear => exact mt_clear
  | insert => exact mt_insert
  | join => exact fun pins s σ H x xs v us Q I rx rv h => h.elim
  | split => exact fun pins s σ H x xs v us Q I rx rv h => h.elim
  | sindex => exact fun pins s σ H x xs v us Q I rx rv h => h.elim
  | dget => exact fun pins s σ H x xs v us Q I rx rv h => h.elim
  | dpop => exact fun pins s σ H x xs v us Q I rx rv h => h.elim
  | lindex => exact fun pins s σ H x xs v us Q I rx rv h => h.elim
theorem wr_S {m : Mt} {K : PySem.W.Frag} {ρ : Pl} {st : Store} {H : Hp} {W : WX} {σ : L2.St} {Q : VK} {l : Nat} {x : V} {vs : List Val} {xs : List V} (rS : RelS K ρ st H) (r1 : Rep K ρ H (.loc l) x) (r2 : RepL K ρ H vs xs) (p : Post K (Rep K) W σ ρ H Q (wrLst m l vs st)) : rWr m x xs H Q := by
  unfold wrLst at p
  cases hob : obLst st[l]? with
  | none => rw [hob] at p; exact p.elim
  | some zs =>
    rw [hob] at p
    dsimp only at p
    have hl : st[l]? = some (.lst zs) := by
      unfold obLst at hob
      split at hob
      · cases hob; assumption
      · cases hob
    cases r1 with
    | @loc _ a h =>
      obtain ⟨u0, e1, e2⟩ := rS.at_ _ a _ h hl
      cases e2 with
      | @lst _ ws qw =>
        cases hm : mtLst st m vs zs with
        | none => rw [hm] at p; exact p.elim
        | some q =>
          obtain ⟨r, ys⟩ := q
          rw [hm] at p
          dsimp only at p
          by_cases hz : szOk ys.length = true
          · rw [if_pos hz] at p
            have hz' : ys.length ≤ sizeLine := of_decide_eq_true hz
            have key : ∀ (r' : V) (ys' : List V), Rep K ρ H r r' → RepL K ρ H ys ys' → Q r' (upd H a (.lst ys')) := by
              intro r' ys' hr hy
              have x0 : Ext0 ρ H ρ (upd H a (.lst ys')) := .wrote (.inl (List.mem_of_getElem? h))
              have z := rS.wrote (o := .lst ys) h (.lst (hy.ext0 x0))
              exact p ρ r' _ z.2 z.1 (hr.ext0 x0)
            have hlen := qw.length
            cases m with
            | append =>
              unfold mtLst at hm
              dsimp only at hm
              split at hm
              · cases hm
                obtain ⟨w, rfl, rw1⟩ := repL_one r2
                rw [List.length_append, List.length_singleton] at hz'
                exact ⟨a, ws, w, rfl, rfl, e1, by omega, key _ _ .non (qw.append (.cons rw1 .nil))⟩
              · cases hm
            | extend =>
              unfold mtLst at hm
              dsimp only at hm
              split at hm
              · obtain ⟨us, e5, e6⟩ := Option.map_eq_some_iff.mp hm
                cases e6
                obtain ⟨w, rfl, rw1⟩ := repL_one r2
                obtain ⟨b, us', rfl, h2, h3⟩ := rw1.lstOf rS e5
                have hl3 := h3.length
                rw [List.length_append] at hz'
                exact ⟨a, b, ws, us', rfl, rfl, e1, h2, by omega, key _ _ .non (qw.append h3)⟩
              · cases hm
            | pop =>
              unfold mtLst at hm
              dsimp only at hm
              split at hm
              · obtain ⟨y, e5, e6⟩ := Option.map_eq_some_iff.mp hm
                cases e6
                have := repL_nil r2
                subst this
                obtain ⟨y', e7, ry⟩ := qw.get e5
                rw [hlen] at e7
                exact .inl ⟨a, ws, y', rfl, rfl, e1, e7, key _ _ ry qw.dropLast⟩
              · obtain ⟨k, e5, e6⟩ := Option.bind_eq_some_iff.mp hm
                split at e6
                · rename_i i hc
                  obtain ⟨y, e7, e8⟩ := Option.map_eq_some_iff.mp e6
                  cases e8
                  obtain ⟨w, rfl, rw1⟩ := repL_one r2
                  cases rw1
                  obtain ⟨y', e9, ry⟩ := qw.get e7
                  rw [hlen] at e5
                  rw [Bool.and_eq_true] at hc
                  exact .inr ⟨a, ws, i, k, y', rfl, rfl, e1, of_decide_eq_true hc.1, of_decide_eq_true hc.2, e5, e9, key _ _ ry (qw.eraseIdx k)⟩
                · cases e6
              · cases hm
            | clear =>
              unfold mtLst at hm
              dsimp only at hm
              split at hm
              · cases hm
                have := repL_nil r2
                subst this
                exact ⟨a, ws, rfl, rfl, e1, key _ _ .non .nil⟩
              · cases hm
            | insert =>
              unfold mtLst at hm
              dsimp only at hm
              split at hm
              · split at hm
                · rename_i i y hc
                  cases hm
                  obtain ⟨w1, w2, rfl, rw1, rw2⟩ := repL_two r2
                  cases rw1
                  rw [Bool.and_eq_true] at hc
                  have h0 := of_decide_eq_true hc.1
                  have h1 := of_decide_eq_true hc.2
                  simp only [List.length_append, List.length_take, List.length_drop, List.length_singleton] at hz'
                  exact ⟨a, ws, i, w2, rfl, rfl, e1, by omega, h0, h1, key _ _ .non (((qw.take _).append (.cons rw2 .nil)).append (qw.drop _))⟩
                · cases hm
              · cases hm
            | join => cases hm
            | split => cases hm
            | sindex => cases hm
            | dget => cases hm
            | dpop => cases hm
            | lindex => cases hm
          · rw [if_neg hz] at p
            exact p.elim
theorem mt_S0 {m : Mt} {new : Bool} (hm : mtIsDic m = false) (hi : m ≠ .lindex) : MtR X (mtId m) (rMt X.K (mtOp new m)) := by
  intro pins s σ H x xs v us Q I rx rv h
  obtain ⟨W, σ', ρ, st, a, vs, rS, r1, r2, p0⟩ := h
  have p : Post X.K (Rep X.K) W σ' ρ H Q ((match a with
    | .loc l => wrLst m l vs
    | .str a => mtStr new m a vs
    | _ => stuck) st) := by
    cases m <;> first | exact absurd rfl hi | exact p0 | (cases hm; done)
  clear p0
  split at p
  · exact wr_ok pins s σ H x xs v us Q I rx rv (wr_S rS r1 r2 p)
  · cases r1
    cases m with
    | join =>
      unfold mtStr at p
      dsimp only at p
      split at p
      · obtain ⟨z, e, p1⟩ := Post.opt p
        unfold joinOp at e
        obtain ⟨ws, e1, e2⟩ := Option.bind_eq_some_iff.mp e
        obtain ⟨ys, e3, e4⟩ := Option.bind_eq_some_iff.mp e2
        split at e4
        · rename_i hz
          cases e4
          obtain ⟨w, rfl, rw1⟩ := repL_one r2
          obtain ⟨b, us', rfl, h2, h3⟩ := rw1.seqOf rS e1
          have := mapO_strs h3 e3
          subst this
          exact mt_join pins s σ H _ _ v us Q I rx rv ⟨_, b, ys, rfl, rfl, h2, hz, Post.ret p1 rS (.str _)⟩
        · cases e4
      · exact p.elim
    | split =>
      unfold mtStr at p
      dsimp only at p
      split at p
      · split at p
        · rename_i b hz
          obtain ⟨w, rfl, rw1⟩ := repL_one r2
          cases rw1
          rw [Bool.and_eq_true, Bool.not_eq_true'] at hz
          exact mt_split pins s σ H _ _ v us Q I rx rv ⟨_, b, rfl, rfl, hz.1, of_decide_eq_true hz.2, post_l p rS (repL_strs _)⟩
        · exact p.elim
      · exact p.elim
    | sindex =>
      unfold mtStr at p
      dsimp only at p
      split at p
      · rename_i b
        cases hz : Builtin.Str.occurrences _ b 0 _ 1 with
        | nil => rw [hz] at p; exact p.elim
        | cons i rest =>
          rw [hz] at p
          obtain ⟨w, rfl, rw1⟩ := repL_one r2
          cases rw1
          exact mt_sindex pins s σ H _ _ v us Q I rx rv ⟨_, b, i, rest, rfl, rfl, hz, Post.ret p rS (.int _)⟩
      · exact p.elim
    | append => exact p.elim
    | extend => exact p.elim
    | pop => exact p.elim
    | clear => exact p.elim
    | insert => exact p.elim
    | dget => cases hm
    | dpop => cases hm
    | lindex => exact absurd rfl hi
  · exact p.elim
theorem idx_at {α : Type} {p : α → Bool} {l : List α} {j : Nat} (h : l.findIdx? p = some j) : ∃ z, l[j]? = some z ∧ p z = true ∧ ∀ m z', m < j → l[m]? = some z' → p z' = false := by
  obtain ⟨hj, h1, h2⟩ := List.findIdx?_eq_some_iff_getElem.mp h
  refine ⟨l[j], List.getElem?_eq_getElem hj, h1, fun m z' hm e => ?_⟩
  have e2 := h2 m hm
  obtain ⟨hl, e3⟩ := List.getElem?_eq_some_iff.mp e
  rw [e3] at e2
  simpa using e2
theorem idx_S {K : PySem.W.Frag} {ρ : Pl} {st : Store} {H : Hp} (rS : RelS K ρ st H) {v y : Val} {w : V} {xs : List Val} {ws : List V} {a : Addr} {j : Nat} {Q : VK} (ry : Rep K ρ H y w) (ha : H a = some (.lst ws)) (q : RepL K ρ H xs ws) (e : idxOp st v y xs = some j) (hQ : Q (.int (j : Nat)) H) : rIndex K (.ref a) [w] H Q ∨ rIndexD K (.ref a) [w] H Q := by
  unfold idxOp at e
  split at e
  · rename_i hf
    rw [Bool.and_eq_true] at hf
    obtain ⟨z, h1, h2, h3⟩ := idx_at e
    obtain ⟨u, hu, ru⟩ := q.get h1
    have fz : ∀ {m : Nat} {z : Val}, xs[m]? = some z → flat z = true := fun h => List.all_eq_true.mp hf.2 _ (List.mem_of_getElem? h)
    refine .inl ⟨a, ws, w, j, u, rfl, rfl, .of ha, flat_of ry hf.1, flat_all q hf.2, hu, ?_, fun m z' hm hz => ?_, hQ⟩
    · rw [← eqF_of ru ry (fz h1) hf.1]; exact h2
    · obtain ⟨z2, hz2, rz2⟩ := q.getB hz
      rw [← eqF_of rz2 ry (fz hz2) hf.1]
      exact h3 m z2 hm hz2
  · split at e
    · obtain ⟨d, e1, e2⟩ := Option.bind_eq_some_iff.mp e
      obtain ⟨ds, e3, e4⟩ := Option.bind_eq_some_iff.mp e2
      obtain ⟨a1, a2, a3⟩ := ry.dp rS _ e1
      obtain ⟨b1, b2, b3⟩ := mapO_dp (fun r e => Rep.dp rS _ r e) q e3
      obtain ⟨z, h1, h2, h3⟩ := idx_at e4
      exact .inr ⟨a, w, d, ds, j, z, rfl, rfl, .lst (.of ha) b1, a1, shaped_of (d := .list ds) b2 (Nat.succ_le_succ b3) (by decide), shaped_of a2 a3 (by decide), h1, h2, h3, hQ⟩
    · cases e
theorem obGet_of {K : PySem.W.Frag} {ρ : Pl} {H : Hp} {a : Addr} {o : Ob} {u : HO} {vs : List Val} {xs : List V} {c : Val} (e1 : H a = some u) (e2 : RelOb K ρ H a o u) (r : RepL K ρ H vs xs) (e : obGet vs (some o) = some c) : ∃ y d ov, xs = [y, d] ∧ DGet H a y ov ∧ Rep K ρ H c (ov.getD d) := by
  cases e2 with
  | lst _ => cases e
  | ins _ _ _ _ _ => cases e
  | @dK kvs kws hk q =>
    unfold obGet at e
    dsimp only at e
    split at e
    · obtain ⟨k, e3, e4⟩ := Option.map_eq_some_iff.mp e
      obtain ⟨x1, x2, rfl, r1, r2⟩ := repL_two r
      have := keyOf_rep r1 e3
      subst this
      refine ⟨_, _, valV kws k, rfl, DGet.k e1, ?_⟩
      rw [← e4]
      rcases (DRel.mk hk q).look k with ⟨h1, h2⟩ | ⟨v', w', h1, h2, r'⟩
      · rw [h1, h2]; exact r2
      · rw [h1, h2]; exact r'
    · cases e
  | @dT kvs kws hk q =>
    unfold obGet at e
    dsimp only at e
    split at e
    · obtain ⟨k, e3, e4⟩ := Option.map_eq_some_iff.mp e
      obtain ⟨x1, x2, rfl, r1, r2⟩ := repL_two r
      obtain ⟨b, rfl, hb⟩ := keyT_rep r1 e3
      refine ⟨_, _, valV kws k, rfl, DGet.t e1 hb, ?_⟩
      rw [← e4]
      rcases (DRel.mk hk q).look k with ⟨h1, h2⟩ | ⟨v', w', h1, h2, r'⟩
      · rw [h1, h2]; exact r2
      · rw [h1, h2]; exact r'
    · cases e
theorem mt_S {m : Mt} {new : Bool} (hu : X.A.units + 100 < cLine) : MtR X (mtId m) (rMt X.K (mtOp new m)) := by
  by_cases hi : m = .lindex
  · subst hi
    intro pins s σ H x xs v us Q I rx rv h
    obtain ⟨W, σ', ρ, st, a, vs, rS, r1, r2, p0⟩ := h
    have p : Post X.K (Rep X.K) W σ' ρ H Q (idxLst a vs st) := p0
    clear p0
    unfold idxLst at p
    split at p
    · rename_i zs hl
      split at p
      · rename_i y
        split at p
        · rename_i j hj
          obtain ⟨w, rfl, ry⟩ := repL_one r2
          obtain ⟨ad, ws, rfl, hA, q⟩ := Rep.lstOf rS r1 hl
          rcases idx_S rS ry hA q hj (p ρ _ H (.refl _ _) rS (.int _)) with z | z
          · exact mt_index pins s σ H _ _ v us Q I rx rv z
          · exact mt_indexD (by omega) pins s σ H _ _ v us Q I rx rv z
        · exact p.elim
      · exact p.elim
    · exact p.elim
  by_cases hm : mtIsDic m = false
  · exact mt_S0 hm hi
  · intro pins s σ H x xs v us Q I rx rv h
    obtain ⟨W, σ', ρ, st, a, vs, rS, r1, r2, p0⟩ := h
    cases m with
    | dget =>
      have p : Post X.K (Rep X.K) W σ' ρ H Q (getDic a vs st) := p0
      clear p0
      unfold getDic at p
      split at p
      · rename_i l
        cases r1 with
        | @loc _ ad h =>
          cases eo : st[l]? with
          | none => rw [eo] at p; exact p.elim
          | some o =>
            rw [eo] at p
            cases eg : obGet vs (some o) with
            | none => rw [eg] at p; exact p.elim
            | some c =>
              rw [eg] at p
              obtain ⟨u, e1, e2⟩ := rS.at_ _ ad _ h eo
              obtain ⟨y, d, ov, rfl, g, rc⟩ := obGet_of e1 e2 r2 eg
              obtain ⟨u1, u2, rfl, ry, rd⟩ := vals2 rv
              cases rx
              exact d_get2 (by omega) I g ry rd fun w' s' I' rw' => ⟨_, H, I', rw', Post.ret p rS rc⟩
      · exact p.elim
    | dpop =>
      have p : Post X.K (Rep X.K) W σ' ρ H Q (popDic a vs st) := p0
      clear p0
      unfold popDic at p
      split at p
      · rename_i l
        cases r1 with
        | @loc _ ad h =>
          cases eo : st[l]? with
          | none => rw [eo] at p; exact p.elim
          | some o =>
            rw [eo] at p
            obtain ⟨u, e1, e2⟩ := rS.at_ _ ad _ h eo
            cases e2 with
            | lst _ => exact p.elim
            | ins _ _ _ _ _ => exact p.elim
            | dT _ _ => exact p.elim
            | @dK kvs kws hk q =>
              cases eg : obPop vs (some (.dK kvs)) with
              | none => rw [eg] at p; exact p.elim
              | some c =>
                rw [eg] at p
                unfold obPop at eg
                dsimp only at eg
                split at eg
                · obtain ⟨k, e3, e4⟩ := Option.bind_eq_some_iff.mp eg
                  obtain ⟨v', e5, rfl⟩ := Option.map_eq_some_iff.mp e4
                  obtain ⟨x1, rfl, r3⟩ := repL_one r2
                  have := keyOf_rep r3 e3
                  subst this
                  obtain ⟨u1, rfl, ry⟩ := vals1 rv
                  cases rx
                  have D := DRel.mk hk q
                  rcases D.look k with ⟨h1, h2⟩ | ⟨v2, w2, h1, h2, r'⟩
                  · rw [h1] at e5; cases e5
                  · rw [h1] at e5; cases e5
                    have x0 : Ext0 ρ H ρ (upd H ad (.dK (dropK kws k))) := .wrote (.inl (List.mem_of_getElem? h))
                    have D' := (D.drp k).ext0 x0
                    have z := rS.wrote (o := .dK (drp kvs k)) h (.dK D'.keys D'.vals)
                    exact d_pop I e1 ry h2 (.inl rfl) fun w' s' I' rw' => ⟨w2, _, I', rw', p ρ w2 _ z.2 z.1 (r'.ext0 x0)⟩
                · cases eg
      · exact p.elim
    | _ => exact absurd rfl hm
theorem ty_S {m : Mt} {K : PySem.W.Frag} {ρ : Pl} {st : Store} {H : Hp} {v : Val} {x : V} (rS : RelS K ρ st H) (r : Rep K ρ H v x) (h : tyOk m st v = true) : tyV K (mtTy m) x H := by
  unfold tyOk at h
  unfold mtTy
  split at h
  · rename_i hm
    rw [if_pos hm]
    cases r with
    | str z => rfl
    | non => cases h
    | bl b => cases h
    | int i => cases h
    | tup _ _ => cases h
    | lst _ _ _ => cases h
    | dK _ _ _ => cases h
    | dT _ _ _ => cases h
    | loc _ => cases h
    | scr _ => cases h
    | dN _ => cases h
  · rename_i hm
    rw [if_neg hm]
    split at h
    · rename_i hd
      rw [if_pos hd]
      unfold isDic at h
      split at h
      · rename_i l
        cases r with
        | @loc _ a hl =>
          unfold obIsDic at h
          split at h
          · rename_i eo
            obtain ⟨u, e1, e2⟩ := rS.at_ _ a _ hl eo
            cases e2 with
            | dK _ _ => exact .inr (.inr (.inl ⟨rfl, .inl ⟨_, e1⟩⟩))
          · rename_i eo
            obtain ⟨u, e1, e2⟩ := rS.at_ _ a _ hl eo
            cases e2 with
            | dT _ _ => exact .inr (.inr (.inl ⟨rfl, .inr ⟨_, e1⟩⟩))
          · cases h
      · cases h
    · rename_i hd
      rw [if_neg hd]
      obtain ⟨zs, e⟩ := Option.isSome_iff_exists.mp h
      obtain ⟨a, ws, rfl, h2, h3⟩ := r.lstOf rS e
      exact .inl ⟨rfl, ws, SqL.of h2⟩
end
end Rc
/-! Rc4: calls cut back, what is walked, comprehensions. -/
namespace Rc
open PySem L2

/-! ### cutting back -/
section
variable {K : PySem.W.Frag} {ρ' : Pl} {H : Hp} {n : Nat}
def Pl.cut (ρ : Pl) (n : Nat) : Pl := ⟨ρ.ps.take n, ρ.rs⟩
theorem Pl.not_cut {ρ : Pl} {a : Addr} (h : a ∉ ρ) : a ∉ ρ.cut n := fun m => by
  rcases m with m | m
  · exact h (.inl (List.mem_of_mem_take m))
  · exact h (.inr m)
theorem TupAt.cut {a : Addr} {ws : List V} (h : TupAt K ρ' H a ws) : TupAt K (ρ'.cut n) H a ws := ⟨h.1, Pl.not_cut h.2⟩
theorem ScrAt.cut {a : Addr} {ns : List Int} (h : ScrAt K ρ' H a ns) : ScrAt K (ρ'.cut n) H a ns := by
  rcases h with ⟨h, m⟩ | h
  · exact .inl ⟨h, Pl.not_cut m⟩
  · exact .inr h
theorem at_cut {l : Nat} {a : Addr} (h : ρ'.ps[l]? = some a) (hl : l < n) : (ρ'.cut n).ps[l]? = some a := by
  show (ρ'.ps.take n)[l]? = some a
  rw [List.getElem?_take_of_lt hl]
  exact h
mutual
theorem Rep.cut : ∀ {v : Val} {w : V}, Rep K ρ' H v w → locLt n v = true → Rep K (ρ'.cut n) H v w
  | _, _, .non, _ => .non
  | _, _, .bl b, _ => .bl b
  | _, _, .int i, _ => .int i
  | _, _, .str x, _ => .str x
  | _, _, .tup h r, l => .tup h.cut (RepL.cut r (by simpa [locLt] using l))
  | _, _, .lst h m r, l => .lst h (Pl.not_cut m) (RepL.cut r (by simpa [locLt] using l))
  | _, _, .dK h m r, l => .dK h (Pl.not_cut m) (RepL.cut r (by simpa [locLt] using l))
  | _, _, .dT h m r, l => .dT h (Pl.not_cut m) (RepL.cut r (by simpa [locLt] using l))
  | _, _, .loc h, l => .loc (at_cut h (by simpa [locLt] using l))
  | _, _, .scr h, _ => .scr h.cut
  | _, _, .dN h, _ => .dN (h.mono fun _ _ e m => ⟨e, Pl.not_cut m⟩)
theorem RepL.cut : ∀ {vs : List Val} {ws : List V}, RepL K ρ' H vs ws → locLtL n vs = true → RepL K (ρ'.cut n) H vs ws
  | _, _, .nil, _ => .nil
  | _, _, .cons h r, l => by
    have l' := Bool.and_eq_true_iff.mp (show (locLt n _ && locLtL n _) = true from l)
    exact .cons (Rep.cut h l'.1) (RepL.cut r l'.2)
end
mutual
theorem Rep.locs {ρ : Pl} : ∀ {v : Val} {w : V}, Rep K ρ H v w → locLt ρ.ps.length v = true
  | _, _, .non => rfl
  | _, _, .bl b => rfl
  | _, _, .int i => rfl
  | _, _, .str x => rfl
  | _, _, .tup h r => by simpa [locLt] using RepL.locs r
  | _, _, .lst h m r => by simpa [locLt] using RepL.locs r
  | _, _, .dK h m r => by simpa [locLt] using RepL.locs r
  | _, _, .dT h m r => by simpa [locLt] using RepL.locs r
  | _, _, .loc h => by simpa [locLt] using (List.getElem?_eq_some_iff.mp h).1
  | _, _, .scr h => rfl
  | _, _, .dN h => rfl
theorem RepL.locs {ρ : Pl} : ∀ {vs : List Val} {ws : List V}, RepL K ρ H vs ws → locLtL ρ.ps.length vs = true
  | _, _, .nil => rfl
  | _, _, .cons h r => by
    show (locLt _ _ && locLtL _ _) = true
    rw [Rep.locs h, RepL.locs r]; rfl
end
theorem RelOb.cut {a : Addr} : ∀ {o : Ob} {h : HO}, RelOb K ρ' H a o h → obLt n o = true → RelOb K (ρ'.cut n) H a o h
  | _, _, .lst r, l => .lst (r.cut l)
  | _, _, .dK k r, l => .dK k (r.cut l)
  | _, _, .dT k r, l => .dT k (r.cut l)
  | _, _, .ins i d m k r, l => .ins i d (Pl.not_cut m) k (r.cut l)
theorem RelOb.locs {ρ : Pl} {a : Addr} : ∀ {o : Ob} {h : HO}, RelOb K ρ H a o h → obLt ρ.ps.length o = true
  | _, _, .lst r => r.locs
  | _, _, .dK k r => r.locs
  | _, _, .dT k r => r.locs
  | _, _, .ins i d m k r => r.locs
theorem mapO_frz {f : Val → Option Val} (h : ∀ {v v' : Val} {w : V}, Rep K ρ' H v w → f v = some v' → Rep K (ρ'.cut n) H v' w) : ∀ {vs vs' : List Val} {ws : List V}, RepL K ρ' H vs ws → mapO f vs = some vs' → RepL K (ρ'.cut n) H vs' ws
  | _, _, _, .nil, e => by cases e; exact .nil
  | _, _, _, .cons r q, e => by
    unfold mapO at e
    obtain ⟨d, e1, e2⟩ := Option.bind_eq_some_iff.mp e
    obtain ⟨ds, e3, rfl⟩ := Option.map_eq_some_iff.mp e2
    exact .cons (h r e1) (mapO_frz h q e3)
theorem frz_rep {st' : Store} (rS : RelS K ρ' st' H) : ∀ (k : Nat) {v v' : Val} {w : V}, Rep K ρ' H v w → frz st' n k v = some v' → Rep K (ρ'.cut n) H v' w
  | 0, _, _, _, _, e => by cases e
  | k + 1, v, v', w, r, e => by
    have ih := fun {v v' : Val} {w : V} => frz_rep rS k (v := v) (v' := v') (w := w)
    unfold frz at e
    cases r with
    | non => cases e; exact .non
    | bl b => cases e; exact .bl b
    | int i => cases e; exact .int i
    | str s => cases e; exact .str s
    | scr h => cases e; exact .scr h.cut
    | dN h => cases e; exact .dN (h.mono fun _ _ e m => ⟨e, Pl.not_cut m⟩)
    | tup t q =>
      obtain ⟨ds, e1, rfl⟩ := Option.map_eq_some_iff.mp e
      exact .tup t.cut (mapO_frz ih q e1)
    | lst t m q =>
      obtain ⟨ds, e1, rfl⟩ := Option.map_eq_some_iff.mp e
      exact .lst t (Pl.not_cut m) (mapO_frz ih q e1)
    | dK t m q =>
      obtain ⟨ds, e1, rfl⟩ := Option.map_eq_some_iff.mp e
      exact .dK t (Pl.not_cut m) (mapO_frz ih q e1)
    | dT t m q =>
      obtain ⟨ds, e1, rfl⟩ := Option.map_eq_some_iff.mp e
      exact .dT t (Pl.not_cut m) (mapO_frz ih q e1)
    | @loc l a h =>
      dsimp only at e
      split at e
      · rename_i hl
        cases e
        exact .loc (at_cut h hl)
      · rename_i hl
        have na : a ∉ ρ'.cut n := fun m => by
          rcases m with m | m
          · obtain ⟨j, ej⟩ := List.getElem?_of_mem (show a ∈ ρ'.ps.take n from m)
            have hj : j < n := by
              have := (List.getElem?_eq_some_iff.mp ej).1
              rw [List.length_take] at this
              omega
            rw [List.getElem?_take_of_lt hj] at ej
            obtain ⟨h1, h2⟩ := List.getElem?_eq_some_iff.mp h
            obtain ⟨h3, h4⟩ := List.getElem?_eq_some_iff.mp ej
            have := (List.getElem_inj rS.nd).mp (h4.trans h2.symm)
            omega
          · exact (rS.rs a m).1 (List.mem_of_getElem? h)
        split at e
        · rename_i xs e0
          obtain ⟨u, e1, e2⟩ := rS.at_ l a _ h e0
          obtain ⟨ds, e3, rfl⟩ := Option.map_eq_some_iff.mp e
          cases e2 with
          | lst q => exact .lst e1 na (mapO_frz ih q e3)
        · rename_i kvs e0
          obtain ⟨u, e1, e2⟩ := rS.at_ l a _ h e0
          obtain ⟨ds, e3, rfl⟩ := Option.map_eq_some_iff.mp e
          cases e2 with
          | dK hk q =>
            rw [hk]
            exact .dK e1 na (mapO_frz ih q e3)
        · rename_i kvs e0
          obtain ⟨u, e1, e2⟩ := rS.at_ l a _ h e0
          obtain ⟨ds, e3, rfl⟩ := Option.map_eq_some_iff.mp e
          cases e2 with
          | dT hk q =>
            rw [hk]
            exact .dT e1 na (mapO_frz ih q e3)
        · cases e
end
section
variable {K : PySem.W.Frag} {ρ ρ' : Pl} {H H' : Hp} {st st' : Store} {W : WX} {σ : L2.St} {Q : VK}
theorem Ext.cut_eq (e : Ext ρ H ρ' H') (rS : RelS K ρ st H) : ρ'.cut st.length = ρ := by
  have h1 : ρ'.ps.take st.length = ρ.ps := by
    rw [← rS.len]
    exact (List.prefix_iff_eq_take.mp e.pre).symm
  show (⟨ρ'.ps.take st.length, ρ'.rs⟩ : Pl) = ρ
  rw [h1, e.rs]
theorem Ext.back (e : Ext ρ H ρ' H') : Ext ρ H ρ H' := ⟨⟨fun a o h n => ⟨(e.keep a o h n).1, n⟩, List.prefix_refl _⟩, rfl, e.rk⟩
theorem RelS.cut (rS : RelS K ρ st H) (e : Ext ρ H ρ' H') (rS' : RelS K ρ' st' H') (c : CutOk st st') : RelS K ρ (st'.take st.length) H' := by
  have ec := e.cut_eq rS
  refine ⟨?_, rS.nd, fun l a o e1 e2 => ?_, fun a ha => ⟨(rS.rs a ha).1, ?_⟩⟩
  · rw [List.length_take, rS.len]
    exact (Nat.min_eq_left c.1).symm
  · have hl : l < st.length := rS.len ▸ (List.getElem?_eq_some_iff.mp e1).1
    have e2' : st'[l]? = some o := by
      rw [List.getElem?_take_of_lt hl] at e2
      exact e2
    obtain ⟨h, e3, e4⟩ := rS'.at_ l a o (e.at_ e1) e2'
    refine ⟨h, e3, ?_⟩
    have lo : obLt st.length o = true := by
      rcases c.2 with c | c
      · rw [c] at e2
        obtain ⟨h0, _, e5⟩ := rS.at_ l a o e1 e2
        rw [← rS.len]
        exact e5.locs
      · exact List.all_eq_true.mp c o (List.mem_of_getElem? e2)
    have := e4.cut (n := st.length) lo
    rw [ec] at this
    exact this
  · rw [e.rk a ha]
    exact (rS.rs a ha).2
theorem Post.cut {m : M Val} (rS : RelS K ρ st H) (p : Post K (Rep K) W σ ρ H Q (cutM m st)) : Post K (Rep K) W σ ρ H Q (m st) := by
  unfold cutM at p
  cases e : m st with
  | ok v st' =>
    rw [e] at p
    dsimp only at p
    split at p
    · rename_i c
      split at p
      · rename_i v' ef
        intro ρ' w H' x s q
        refine p ρ w H' x.back (rS.cut x s c) ?_
        have := frz_rep s _ q ef
        rw [x.cut_eq rS] at this
        exact this
      · exact p.elim
    · exact p.elim
  | exc c row st' =>
    rw [e] at p
    dsimp only at p
    split at p
    · rename_i c
      intro ρ' d H' x s q
      exact p ρ d H' x.back (rS.cut x s c) q
    · exact p.elim
  | stuck =>
    rw [e] at p
    exact p
end

/-! ### cut back, but for one list -/
def Pl.keep (ρ : Pl) (n : Nat) (a : Addr) : Pl := ⟨ρ.ps.take n ++ [a], ρ.rs⟩
theorem Pl.not_keep {ρ : Pl} {n : Nat} {a b : Addr} (h : b ∉ ρ) (ha : a ∈ ρ) : b ∉ ρ.keep n a := fun m => by
  rcases m with m | m
  · rcases List.mem_append.mp m with m | m
    · exact h (.inl (List.mem_of_mem_take m))
    · exact h (List.mem_singleton.mp m ▸ ha)
  · exact h (.inr m)
theorem at_keep {ρ : Pl} {n l : Nat} {a b : Addr} (h : ρ.ps[l]? = some b) (hl : l < n) : (ρ.keep n a).ps[l]? = some b := by
  show (ρ.ps.take n ++ [a])[l]? = some b
  have h1 := (List.getElem?_eq_some_iff.mp h).1
  rw [List.getElem?_append_left (by rw [List.length_take]; omega), List.getElem?_take_of_lt hl]
  exact h
section
variable {K : PySem.W.Frag} {ρ' : Pl} {H : Hp} {n : Nat} {a0 : Addr}
theorem mapO_frzX {f : Val → Option Val} (h : ∀ {v v' : Val} {w : V}, Rep K ρ' H v w → f v = some v' → Rep K (ρ'.keep n a0) H v' w) : ∀ {vs vs' : List Val} {ws : List V}, RepL K ρ' H vs ws → mapO f vs = some vs' → RepL K (ρ'.keep n a0) H vs' ws
  | _, _, _, .nil, e => by cases e; exact .nil
  | _, _, _, .cons r q, e => by
    unfold mapO at e
    obtain ⟨d, e1, e2⟩ := Option.bind_eq_some_iff.mp e
    obtain ⟨ds, e3, rfl⟩ := Option.map_eq_some_iff.mp e2
    exact .cons (h r e1) (mapO_frzX h q e3)
theorem frzX_rep {st' : Store} (rS : RelS K ρ' st' H) {x : Nat} (hx : ρ'.ps[x]? = some a0) : ∀ (k : Nat) {v v' : Val} {w : V}, Rep K ρ' H v w → frzX st' n x k v = some v' → Rep K (ρ'.keep n a0) H v' w
  | 0, _, _, _, _, e => by cases e
  | k + 1, v, v', w, r, e => by
    have ih := fun {v v' : Val} {w : V} => frzX_rep rS hx k (v := v) (v' := v') (w := w)
    have ha0 : a0 ∈ ρ' := .inl (List.mem_of_getElem? hx)
    unfold frzX at e
    cases r with
    | non => cases e; exact .non
    | bl b => cases e; exact .bl b
    | int i => cases e; exact .int i
    | str s => cases e; exact .str s
    | scr h =>
      cases e
      rcases h with ⟨h, m⟩ | h
      · exact .scr (.inl ⟨h, Pl.not_keep m ha0⟩)
      · exact .scr (.inr h)
    | dN h => cases e; exact .dN (h.mono fun _ _ e m => ⟨e, Pl.not_keep m ha0⟩)
    | tup t q =>
      obtain ⟨ds, e1, rfl⟩ := Option.map_eq_some_iff.mp e
      exact .tup ⟨t.1, Pl.not_keep t.2 ha0⟩ (mapO_frzX ih q e1)
    | lst t m q =>
      obtain ⟨ds, e1, rfl⟩ := Option.map_eq_some_iff.mp e
      exact .lst t (Pl.not_keep m ha0) (mapO_frzX ih q e1)
    | dK t m q =>
      obtain ⟨ds, e1, rfl⟩ := Option.map_eq_some_iff.mp e
      exact .dK t (Pl.not_keep m ha0) (mapO_frzX ih q e1)
    | dT t m q =>
      obtain ⟨ds, e1, rfl⟩ := Option.map_eq_some_iff.mp e
      exact .dT t (Pl.not_keep m ha0) (mapO_frzX ih q e1)
    | @loc l a h =>
      dsimp only at e
      split at e
      · cases e
      · rename_i hlx
        split at e
        · rename_i hl
          cases e
          exact .loc (at_keep h hl)
        · rename_i hl
          have na : a ∉ ρ'.keep n a0 := fun m => by
            obtain ⟨h1, h2⟩ := List.getElem?_eq_some_iff.mp h
            rcases m with m | m
            · rcases List.mem_append.mp m with m | m
              · obtain ⟨j, ej⟩ := List.getElem?_of_mem (show a ∈ ρ'.ps.take n from m)
                have hj : j < n := by
                  have := (List.getElem?_eq_some_iff.mp ej).1
                  rw [List.length_take] at this
                  omega
                rw [List.getElem?_take_of_lt hj] at ej
                obtain ⟨h3, h4⟩ := List.getElem?_eq_some_iff.mp ej
                have := (List.getElem_inj rS.nd).mp (h4.trans h2.symm)
                omega
              · obtain ⟨h3, h4⟩ := List.getElem?_eq_some_iff.mp hx
                have := (List.getElem_inj rS.nd).mp (h4.trans ((List.mem_singleton.mp m).symm.trans h2.symm))
                omega
            · exact (rS.rs a m).1 (List.mem_of_getElem? h)
          split at e
          · rename_i xs e0
            obtain ⟨u, e1, e2⟩ := rS.at_ l a _ h e0
            obtain ⟨ds, e3, rfl⟩ := Option.map_eq_some_iff.mp e
            cases e2 with
            | lst q => exact .lst e1 na (mapO_frzX ih q e3)
          · rename_i kvs e0
            obtain ⟨u, e1, e2⟩ := rS.at_ l a _ h e0
            obtain ⟨ds, e3, rfl⟩ := Option.map_eq_some_iff.mp e
            cases e2 with
            | dK hk q =>
              rw [hk]
              exact .dK e1 na (mapO_frzX ih q e3)
          · rename_i kvs e0
            obtain ⟨u, e1, e2⟩ := rS.at_ l a _ h e0
            obtain ⟨ds, e3, rfl⟩ := Option.map_eq_some_iff.mp e
            cases e2 with
            | dT hk q =>
              rw [hk]
              exact .dT e1 na (mapO_frzX ih q e3)
          · cases e
end
section
variable {K : PySem.W.Frag} {ρ' : Pl} {H : Hp} {n : Nat} {a0 : Addr}
mutual
theorem Rep.keepAt (ha : a0 ∈ ρ') : ∀ {v : Val} {w : V}, Rep K ρ' H v w → locLt n v = true → Rep K (ρ'.keep n a0) H v w
  | _, _, .non, _ => .non
  | _, _, .bl b, _ => .bl b
  | _, _, .int i, _ => .int i
  | _, _, .str x, _ => .str x
  | _, _, .tup h r, l => .tup ⟨h.1, Pl.not_keep h.2 ha⟩ (RepL.keepAt ha r (by simpa [locLt] using l))
  | _, _, .lst h m r, l => .lst h (Pl.not_keep m ha) (RepL.keepAt ha r (by simpa [locLt] using l))
  | _, _, .dK h m r, l => .dK h (Pl.not_keep m ha) (RepL.keepAt ha r (by simpa [locLt] using l))
  | _, _, .dT h m r, l => .dT h (Pl.not_keep m ha) (RepL.keepAt ha r (by simpa [locLt] using l))
  | _, _, .loc h, l => .loc (at_keep h (by simpa [locLt] using l))
  | _, _, .scr (.inl h), _ => .scr (.inl ⟨h.1, Pl.not_keep h.2 ha⟩)
  | _, _, .scr (.inr h), _ => .scr (.inr h)
  | _, _, .dN h, _ => .dN (h.mono fun _ _ e m => ⟨e, Pl.not_keep m ha⟩)
theorem RepL.keepAt (ha : a0 ∈ ρ') : ∀ {vs : List Val} {ws : List V}, RepL K ρ' H vs ws → locLtL n vs = true → RepL K (ρ'.keep n a0) H vs ws
  | _, _, .nil, _ => .nil
  | _, _, .cons h r, l => by
    have l' := Bool.and_eq_true_iff.mp (show (locLt n _ && locLtL n _) = true from l)
    exact .cons (Rep.keepAt ha h l'.1) (RepL.keepAt ha r l'.2)
end
theorem RelOb.keepAt {a : Addr} (ha : a0 ∈ ρ') : ∀ {o : Ob} {h : HO}, RelOb K ρ' H a o h → obLt n o = true → RelOb K (ρ'.keep n a0) H a o h
  | _, _, .lst r, l => .lst (r.keepAt ha l)
  | _, _, .dK k r, l => .dK k (r.keepAt ha l)
  | _, _, .dT k r, l => .dT k (r.keepAt ha l)
  | _, _, .ins i d m k r, l => .ins i d (Pl.not_keep m ha) k (r.keepAt ha l)
end
/-- one place more, of an object that stands -/
theorem Ext0.take1 {ρ : Pl} {H : Hp} {a : Addr} (h : H a = none) {H' : Hp} (e : Ext ρ H ρ H') : Ext ρ H (ρ.push a) H' :=
  ⟨⟨fun b o hb n => ⟨(e.keep b o hb n).1, fun m => by
    rcases Pl.mem_push.mp m with m | m
    · exact n m
    · rw [m, h] at hb; cases hb⟩, List.prefix_append _ _⟩, rfl, e.rk⟩
theorem Post.keep {K : PySem.W.Frag} {ρ : Pl} {H : Hp} {st : Store} {W : WX} {σ : L2.St} {Q : VK} {m : M Val} (rS : RelS K ρ st H) (p : Post K (Rep K) W σ ρ H Q (keepM m st)) : Post K (Rep K) W σ ρ H Q (m st) := by
  unfold keepM at p
  cases e : m st with
  | ok v st' =>
    rw [e] at p
    dsimp only at p
    split at p
    · rename_i c
      split at p
      · rename_i q0 eq0
        split at p
        · rename_i ys ey
          intro ρ' w H' x s q
          unfold newLst at eq0
          split at eq0
          · rename_i l
            split at eq0
            · cases eq0
            · rename_i hl
              split at eq0
              · rename_i xs exs
                cases eq0
                cases q with
                | @loc _ a ha =>
                  obtain ⟨u, h1, h2⟩ := s.at_ l a _ ha exs
                  cases h2 with
                  | @lst _ ws qw =>
                    have ek : ρ'.keep st.length a = ρ.push a := by
                      have := x.cut_eq rS
                      unfold Pl.cut at this
                      unfold Pl.keep Pl.push
                      have h3 := congrArg Pl.ps this
                      dsimp only at h3
                      rw [h3, x.rs]
                    have ry : RepL K (ρ.push a) H' ys ws := by
                      rw [← ek]
                      exact mapO_frzX (fun r e => frzX_rep s ha _ r e) qw ey
                    have hna : H a = none := by
                      cases hH : H a with
                      | none => rfl
                      | some o =>
                        have : a ∉ ρ := fun m => by
                          rcases m with m | m
                          · obtain ⟨j, ej⟩ := List.getElem?_of_mem m
                            have hj : j < st.length := rS.len ▸ (List.getElem?_eq_some_iff.mp ej).1
                            have ej' := x.at_ ej
                            obtain ⟨h3, h4⟩ := List.getElem?_eq_some_iff.mp ej'
                            obtain ⟨h5, h6⟩ := List.getElem?_eq_some_iff.mp ha
                            have := (List.getElem_inj s.nd).mp (h4.trans h6.symm)
                            omega
                          · exact (s.rs a (by rw [x.rs]; exact m)).1 (List.mem_of_getElem? ha)
                        exact absurd (Or.inl (List.mem_of_getElem? ha)) (x.keep a o hH this).2
                    have rc := rS.cut x s c
                    have hlen : (st'.take st.length).length = st.length := by
                      rw [List.length_take]
                      exact Nat.min_eq_left c.1
                    have xk := Ext0.take1 hna x.back
                    have rk : RelS K (ρ.push a) (st'.take st.length ++ [.lst ys]) H' := by
                      refine ⟨by simp [Pl.push, rc.len], ?_, fun k b o e1 e2 => ?_, fun b hb => ⟨fun m => ?_, ?_⟩⟩
                      · show (ρ.ps ++ [a]).Nodup
                        rw [List.nodup_append]
                        refine ⟨rS.nd, by simp, fun b hb c' hc => ?_⟩
                        rw [List.mem_singleton.mp hc]
                        exact fun z => by
                          obtain ⟨o, ho⟩ := rS.some_of (.inl hb)
                          rw [z, hna] at ho
                          cases ho
                      · have e1 : (ρ.ps ++ [a])[k]? = some b := e1
                        by_cases hk : k < ρ.ps.length
                        · rw [List.getElem?_append_left hk] at e1
                          rw [List.getElem?_append_left (by rw [hlen, ← rS.len]; exact hk)] at e2
                          have hkl : k < st.length := rS.len ▸ hk
                          have e2' : st'[k]? = some o := by
                            rw [List.getElem?_take_of_lt hkl] at e2
                            exact e2
                          obtain ⟨y, e3, e4⟩ := s.at_ k b o (x.at_ e1) e2'
                          refine ⟨y, e3, ?_⟩
                          have lo : obLt st.length o = true := by
                            rcases c.2 with c | c
                            · rw [c] at e2
                              obtain ⟨h0, _, e5⟩ := rS.at_ k b o e1 e2
                              rw [← rS.len]
                              exact e5.locs
                            · exact List.all_eq_true.mp c o (List.mem_of_getElem? e2)
                          have := e4.keepAt (n := st.length) (.inl (List.mem_of_getElem? ha)) lo
                          rw [ek] at this
                          exact this
                        · rw [List.getElem?_append_right (Nat.le_of_not_lt hk)] at e1
                          rw [List.getElem?_append_right (by rw [hlen, ← rS.len]; exact Nat.le_of_not_lt hk)] at e2
                          have z : k - ρ.ps.length = 0 := by
                            have := (List.getElem?_eq_some_iff.mp e1).1
                            simp at this; omega
                          rw [z] at e1
                          rw [hlen, ← rS.len, z] at e2
                          simp at e1 e2
                          subst e1; subst e2
                          exact ⟨_, h1, .lst ry⟩
                      · rcases List.mem_append.mp m with m | m
                        · exact (rS.rs b hb).1 m
                        · obtain ⟨o, ho⟩ := rS.some_of (.inr hb)
                          rw [List.mem_singleton.mp m, hna] at ho
                          cases ho
                      · rw [x.rk b hb]
                        exact (rS.rs b hb).2
                    refine p (ρ.push a) (.ref a) H' xk rk (.loc ?_)
                    show (ρ.ps ++ [a])[st.length]? = some a
                    rw [← rS.len, List.getElem?_append_right (Nat.le_refl _), Nat.sub_self]
                    rfl
              · cases eq0
          · cases eq0
        · exact p.elim
      · split at p
        · rename_i v' ef
          intro ρ' w H' x s q
          refine p ρ w H' x.back (rS.cut x s c) ?_
          have := frz_rep s _ q ef
          rw [x.cut_eq rS] at this
          exact this
        · exact p.elim
    · exact p.elim
  | exc c row st' =>
    rw [e] at p
    dsimp only at p
    split at p
    · rename_i c
      intro ρ' d H' x s q
      exact p ρ d H' x.back (rS.cut x s c) q
    · exact p.elim
  | stuck =>
    rw [e] at p
    exact p.elim

/-! ### what is walked -/
/-- the iterator J gives the items, while the list stands still -/
def ItOk (K : PySem.W.Frag) (ρ0 : Pl) (H0 : Hp) (is : Items) (J : L2.It) : Prop :=
  ∀ (i : Nat) (ρ1 : Pl) (st1 : Store) (H1 : Hp), Ext0 ρ0 H0 ρ1 H1 → RelS K ρ1 st1 H1 → Still is st1 →
    (∀ v, is.xs[i]? = some v → J.go i H1 ∧ ∀ x H', J.yld i H1 x H' → Ext ρ1 H1 ρ1 H' ∧ RelS K ρ1 st1 H' ∧ Rep K ρ1 H' v x) ∧ (is.xs.length = i → J.stop i H1)
def PostI (K : PySem.W.Frag) (W : WX) (σ : L2.St) (ρ : Pl) (H : Hp) (R : L2.It → Hp → Prop) : Rc.R Items → Prop
  | .ok is st' => is.xs.length ≤ sizeLine → ∀ ρ' J H', Ext ρ H ρ' H' → RelS K ρ' st' H' → ItOk K ρ' H' is J → R J H'
  | .exc c row st' => ∀ ρ' d H', Ext ρ H ρ' H' → RelS K ρ' st' H' → ExcAt H' row d → W (.ref (He.ga K c)) d σ H'
  | .stuck => False
def tI (K : PySem.W.Frag) (W : WX) (m : Env → M Items) : TI := fun σ H R => ∃ ρ env st, RelE K ρ H env σ ∧ RelS K ρ st H ∧ PostI K W σ ρ H R (m env st)
theorem Itt.ok {K : PySem.W.Frag} {ρ : Pl} {H : Hp} {a : Addr} {vs : List Val} {ws : List V} (t : TupAt K ρ H a ws) (q : RepL K ρ H vs ws) : ItOk K ρ H ⟨vs, none⟩ (Itt K a) := by
  intro i ρ1 st1 H1 e s _
  have t1 := (e.tup t).sq
  refine ⟨fun v hv => ?_, fun hi => ⟨ws, t1, by rw [← q.length]; exact Nat.le_of_eq hi⟩⟩
  obtain ⟨w, hw, r⟩ := q.get hv
  refine ⟨⟨ws, w, t1, hw⟩, fun x H' hy => ?_⟩
  obtain ⟨rfl, hx⟩ := hy
  have := hx ws t1
  rw [hw] at this; cases this
  exact ⟨.refl _ _, s, r.ext0 e⟩
theorem Itl.ok {K : PySem.W.Frag} {ρ : Pl} {H : Hp} {a : Addr} {vs : List Val} {ws : List V} (t : H a = some (.lst ws)) (n : a ∉ ρ) (q : RepL K ρ H vs ws) : ItOk K ρ H ⟨vs, none⟩ (Itl K a) := by
  intro i ρ1 st1 H1 e s _
  have t1 : SqL K H1 a ws := .of (e.keep _ _ t n).1
  refine ⟨fun v hv => ?_, fun hi => ⟨ws, t1, by rw [← q.length]; exact Nat.le_of_eq hi⟩⟩
  obtain ⟨w, hw, r⟩ := q.get hv
  refine ⟨⟨ws, w, t1, hw⟩, fun x H' hy => ?_⟩
  obtain ⟨rfl, hx⟩ := hy
  have := hx ws t1
  rw [hw] at this; cases this
  exact ⟨.refl _ _, s, r.ext0 e⟩
theorem Itl.okLoc {K : PySem.W.Frag} {ρ : Pl} {H : Hp} {a : Addr} {l : Nat} {vs : List Val} (h : ρ.ps[l]? = some a) : ItOk K ρ H ⟨vs, some l⟩ (Itl K a) := by
  intro i ρ1 st1 H1 e s c
  have c : st1[l]? = some (.lst vs) := c
  obtain ⟨u, e1, e2⟩ := s.at_ l a _ (e.at_ h) c
  cases e2 with
  | @lst _ ws q =>
    have t1 : SqL K H1 a ws := .of e1
    refine ⟨fun v hv => ?_, fun hi => ⟨ws, t1, by rw [← q.length]; exact Nat.le_of_eq hi⟩⟩
    obtain ⟨w, hw, r⟩ := q.get hv
    refine ⟨⟨ws, w, t1, hw⟩, fun x H' hy => ?_⟩
    obtain ⟨rfl, hx⟩ := hy
    have := hx ws t1
    rw [hw] at this; cases this
    exact ⟨.refl _ _, s, r⟩
theorem Itr.ok {K : PySem.W.Frag} {ρ : Pl} {H : Hp} (lo hi : Int) : ItOk K ρ H ⟨rangeV lo hi, none⟩ (Itr lo (hi - lo).toNat) := by
  intro i ρ1 st1 H1 e s _
  refine ⟨fun v hv => ?_, fun hn => ?_⟩
  · have hv : (rangeV lo hi)[i]? = some v := hv
    unfold rangeV at hv
    rw [List.getElem?_map] at hv
    obtain ⟨j, hj, rfl⟩ := Option.map_eq_some_iff.mp hv
    obtain ⟨hl, hj⟩ := List.getElem?_eq_some_iff.mp hj
    rw [List.getElem_range] at hj
    subst hj
    rw [List.length_range] at hl
    refine ⟨hl, fun x H' hy => ?_⟩
    obtain ⟨rfl, rfl⟩ := hy
    exact ⟨.refl _ _, s, .int _⟩
  · have hn : (rangeV lo hi).length = i := hn
    unfold rangeV at hn
    rw [List.length_map, List.length_range] at hn
    exact Nat.le_of_eq hn
section
variable {X : Cx} {tg : Expr}
/-- a list or a tuple -/
def iSeq (K : PySem.W.Frag) (tl : TE) : TI := fun σ H R => tl σ H fun x H1 => ∃ a, x = .ref a ∧ ((∃ xs, SqL K H1 a xs ∧ (xs.length ≤ sizeLine → R (Itl K a) H1)) ∨ (∃ xs, SqT K H1 a xs ∧ (xs.length ≤ sizeLine → R (Itt K a) H1)))
theorem pi_seq {l : Expr} {tl : TE} (hl : PE X l tl) : PI X tg l (iSeq X.K tl) := by
  refine ⟨fun pins s σ H R I h => ?_⟩
  refine thn (hl.run pins s σ H _ I h) fun v s1 ⟨x, H1, I1, r1, q1⟩ => ?_
  obtain ⟨a, e, q⟩ := q1
  subst e
  cases r1
  rcases q with ⟨xs, hq, q⟩ | ⟨xs, hq, q⟩
  · obtain ⟨its, rv, p, hz⟩ := I1.list hq
    refine wpAny_pyIter_list p.isList ?_
    refine ⟨s1.heap.objs.size, [s1.heap.objs.size], _, _, H1, rfl, I1.kept (t' := s1.toks) fun b o e => Heap.get?_push_of_some _ e, turn_list a _, ⟨_, Heap.get?_push_size _ rfl, rfl, rfl⟩, fun b hb => ?_, q hz⟩
    have e : b = s1.heap.objs.size := by simpa using hb
    subst e
    exact I1.fpOk (Nat.le_refl _) (I1.hok.fresh (Nat.le_refl _))
  · obtain ⟨its, rv, p, hz⟩ := I1.tuple hq
    refine wpAny_pyIter_tuple (show s1.heap.IsTuple a its.toArray from p) ?_
    refine ⟨s1.heap.objs.size, [s1.heap.objs.size], _, _, H1, rfl, I1.kept (t' := s1.toks) fun b o e => Heap.get?_push_of_some _ e, turn_tuple a _, ⟨_, Heap.get?_push_size _ rfl, rfl, rfl⟩, fun b hb => ?_, q hz⟩
    have e : b = s1.heap.objs.size := by simpa using hb
    subst e
    exact I1.fpOk (Nat.le_refl _) (I1.hok.fresh (Nat.le_refl _))
theorem PostI.bnd {K : PySem.W.Frag} {α β : Type} {rel : Pl → Hp → α → β → Prop} {W : WX} {σ : L2.St} {ρ : Pl} {H : Hp} {R' : L2.It → Hp → Prop} {Q : β → Hp → Prop} {m : M α} {f : α → M Items} {st : Store} (h : PostI K W σ ρ H R' (Rc.bnd m f st))
    (k : ∀ a st1 ρ1 b H1, Ext ρ H ρ1 H1 → RelS K ρ1 st1 H1 → rel ρ1 H1 a b → PostI K W σ ρ1 H1 R' (f a st1) → Q b H1) : Post K rel W σ ρ H Q (m st) := by
  unfold Rc.bnd at h
  cases e : m st with
  | ok a st1 =>
    rw [e] at h
    dsimp only at h
    intro ρ' w H' x s q
    refine k a st1 ρ' w H' x s q ?_
    cases e2 : f a st1 with
    | ok is st2 => rw [e2] at h; exact fun hz ρ2 J H2 x2 s2 q2 => h hz ρ2 J H2 (x.trans x2) s2 q2
    | exc c row st2 => rw [e2] at h; exact fun ρ2 d H2 x2 s2 q2 => h ρ2 d H2 (x.trans x2) s2 q2
    | stuck => rw [e2] at h; exact h
  | exc c row st1 =>
    rw [e] at h
    exact h
  | stuck =>
    rw [e] at h
    exact h
theorem sim_seq {W : WX} {l : Expr} {m : Env → M Val} (hl : PE X l (tE X.K W m)) : PI X tg l (tI X.K W fun env => bnd (m env) fun v => fun st => ofOpt (itemsOf st v) st) := by
  refine PI.imp (pi_seq hl) fun σ H R h => ?_
  obtain ⟨ρ, env, st, rE, rS, p⟩ := h
  refine ⟨ρ, env, st, rE, rS, PostI.bnd p fun v st1 ρ1 x H1 e1 s1 q1 p1 => ?_⟩
  cases q1 with
  | tup t q =>
    have hl := q.length
    exact ⟨_, rfl, .inr ⟨_, t.sq, fun hz => p1 (by rw [hl]; exact hz) ρ1 _ H1 (.refl _ _) s1 (Itt.ok t q)⟩⟩
  | lst t n q =>
    have hl := q.length
    exact ⟨_, rfl, .inl ⟨_, .of t, fun hz => p1 (by rw [hl]; exact hz) ρ1 _ H1 (.refl _ _) s1 (Itl.ok t n q)⟩⟩
  | @loc l a h =>
    cases e : st1[l]? with
    | none =>
      have : itemsOf st1 (.loc l) = none := by simp only [itemsOf, e]
      rw [this] at p1
      exact p1.elim
    | some o =>
      cases o with
      | lst vs =>
        have : itemsOf st1 (.loc l) = some ⟨vs, some l⟩ := by simp only [itemsOf, e]
        rw [this] at p1
        obtain ⟨u, e3, e4⟩ := s1.at_ l a _ h e
        cases e4 with
        | lst q =>
          have hl := q.length
          exact ⟨_, rfl, .inl ⟨_, .of e3, fun hz => p1 (by rw [hl]; exact hz) ρ1 _ H1 (.refl _ _) s1 (Itl.okLoc h)⟩⟩
      | _ =>
        have : itemsOf st1 (.loc l) = none := by simp only [itemsOf, e]
        rw [this] at p1
        exact p1.elim
  | _ => exact p1.elim
theorem enum_at : ∀ (vs : List Val) (n i : Nat), (enumFrom n vs)[i]? = (vs[i]?).map fun v => .tup [.int ((n + i : Nat) : Int), v]
  | [], _, _ => by simp [enumFrom]
  | v :: vs, n, 0 => by simp [enumFrom]
  | v :: vs, n, i + 1 => by
    rw [enumFrom, List.getElem?_cons_succ, List.getElem?_cons_succ, enum_at vs (n + 1) i, show n + 1 + i = n + (i + 1) by omega]
theorem enum_len : ∀ (vs : List Val) (n : Nat), (enumFrom n vs).length = vs.length
  | [], _ => rfl
  | v :: vs, n => by rw [enumFrom, List.length_cons, List.length_cons, enum_len vs (n + 1)]
theorem pair_new {K : PySem.W.Frag} {ρ : Pl} {st : Store} {H : Hp} {T : Addr} {v : Val} {w : V} {i : Nat} (s : RelS K ρ st H) (h : H T = none) (r : Rep K ρ H v w) : Ext ρ H ρ (upd H T (.tup [.int (i : Nat), w])) ∧ RelS K ρ st (upd H T (.tup [.int (i : Nat), w])) ∧ Rep K ρ (upd H T (.tup [.int (i : Nat), w])) (.tup [.int ((0 + i : Nat) : Int), v]) (.ref T) := by
  have z := s.laid (o := .tup [.int (i : Nat), w]) h
  refine ⟨z.2, z.1, ?_⟩
  rw [Nat.zero_add]
  exact .tup ⟨upd_same, s.fresh h⟩ (.cons (.int _) (.cons (r.ext z.2) .nil))
theorem IteT.ok {K : PySem.W.Frag} {ρ : Pl} {H : Hp} {a : Addr} {vs : List Val} {ws : List V} (t : TupAt K ρ H a ws) (q : RepL K ρ H vs ws) : ItOk K ρ H ⟨enumFrom 0 vs, none⟩ (IteT K a) := by
  intro i ρ1 st1 H1 e s _
  have t1 := (e.tup t).sq
  refine ⟨fun v hv => ?_, fun hi => ⟨ws, t1, by rw [← q.length, ← enum_len vs 0]; exact Nat.le_of_eq hi⟩⟩
  have hv : (enumFrom 0 vs)[i]? = some v := hv
  rw [enum_at] at hv
  obtain ⟨v0, hv0, rfl⟩ := Option.map_eq_some_iff.mp hv
  obtain ⟨w, hw, r⟩ := q.get hv0
  refine ⟨⟨ws, w, t1, hw⟩, fun x H' hy => ?_⟩
  obtain ⟨T, x', rfl, hT, rfl, hx⟩ := hy
  have := hx ws t1
  rw [hw] at this; cases this
  exact pair_new s hT (r.ext0 e)
theorem Ite.ok {K : PySem.W.Frag} {ρ : Pl} {H : Hp} {a : Addr} {vs : List Val} {ws : List V} (t : H a = some (.lst ws)) (n : a ∉ ρ) (q : RepL K ρ H vs ws) : ItOk K ρ H ⟨enumFrom 0 vs, none⟩ (Ite K a) := by
  intro i ρ1 st1 H1 e s _
  have t1 : SqL K H1 a ws := .of (e.keep _ _ t n).1
  refine ⟨fun v hv => ?_, fun hi => ⟨ws, t1, by rw [← q.length, ← enum_len vs 0]; exact Nat.le_of_eq hi⟩⟩
  have hv : (enumFrom 0 vs)[i]? = some v := hv
  rw [enum_at] at hv
  obtain ⟨v0, hv0, rfl⟩ := Option.map_eq_some_iff.mp hv
  obtain ⟨w, hw, r⟩ := q.get hv0
  refine ⟨⟨ws, w, t1, hw⟩, fun x H' hy => ?_⟩
  obtain ⟨T, x', rfl, hT, rfl, hx⟩ := hy
  have := hx ws t1
  rw [hw] at this; cases this
  exact pair_new s hT (r.ext0 e)
theorem sim_enum {W : WX} {l : Expr} {m : Env → M Val} {p pos tpos : Pos} {elts : List Expr} {kk : Nat} (hg : Gl X "enumerate") (hm : X.mg "enumerate" = none) (hl : PE X l (tE X.K W m)) (hs : starEach [l] X.env = [(false, eval l X.env)]) : PI X (.Tuple elts kk tpos) (.Call (.Name "enumerate" p) [l] [] pos) (tI X.K W fun env => bnd (m env) fun v => fun st => match itemsOf st v with
    | some is => match is.at_ with
      | none => .ok ⟨enumFrom 0 is.xs, none⟩ st
      | some _ => .stuck
    | none => .stuck) := by
  refine PI.imp (pi_enum2 hg hm (pa_cons hl pa_nil hs) hs) fun σ H R h => ?_
  obtain ⟨ρ, env, st, rE, rS, p⟩ := h
  refine ⟨ρ, env, st, rE, rS, PostI.bnd p fun v st1 ρ1 x H1 e1 s1 q1 p1 => ?_⟩
  cases q1 with
  | tup t q =>
    have hl := q.length
    exact ⟨_, _, rfl, .inl ⟨t.sq, fun hz => p1 (by rw [enum_len, hl]; exact hz) ρ1 _ H1 (.refl _ _) s1 (IteT.ok t q)⟩⟩
  | lst t n q =>
    have hl := q.length
    exact ⟨_, _, rfl, .inr ⟨.of t, fun hz => p1 (by rw [enum_len, hl]; exact hz) ρ1 _ H1 (.refl _ _) s1 (Ite.ok t n q)⟩⟩
  | @loc l a h =>
    cases e : st1[l]? with
    | none =>
      have : itemsOf st1 (.loc l) = none := by simp only [itemsOf, e]
      rw [this] at p1
      exact p1.elim
    | some o =>
      cases o with
      | lst vs =>
        have : itemsOf st1 (.loc l) = some ⟨vs, some l⟩ := by simp only [itemsOf, e]
        rw [this] at p1
        exact p1.elim
      | _ =>
        have : itemsOf st1 (.loc l) = none := by simp only [itemsOf, e]
        rw [this] at p1
        exact p1.elim
  | _ => exact p1.elim
theorem rngOk_of {i j : Int} (h : rngOk i j = true) : -(2 ^ 62) ≤ i ∧ i < 2 ^ 62 ∧ -(2 ^ 62) ≤ j ∧ j < 2 ^ 62 ∧ (j - i).toNat ≤ sizeLine := by
  rw [rngOk_eq] at h
  unfold rngRaw at h
  simp only [Bool.and_eq_true] at h
  exact ⟨of_decide_eq_true h.1.1.1.1, of_decide_eq_true h.1.1.1.2, of_decide_eq_true h.1.1.2, of_decide_eq_true h.1.2, of_decide_eq_true h.2⟩
theorem rangeV_length (i j : Int) : (rangeV i j).length = (j - i).toNat := by
  unfold rangeV
  rw [List.length_map, List.length_range]
theorem post_asInt_I {K : PySem.W.Frag} {W : WX} {σ : L2.St} {ρ : Pl} {H : Hp} {R' : L2.It → Hp → Prop} {v : Val} {f : Int → M Items} {st : Store} (h : PostI K W σ ρ H R' (Rc.bnd (asInt v) f st)) : ∃ b, v = .int b ∧ PostI K W σ ρ H R' (f b st) := by
  cases v <;> first | exact h.elim | exact ⟨_, rfl, h⟩
theorem sim_rng1 {W : WX} {a : Expr} {m : Env → M Val} {p pos : Pos} (hg : Gl X "range") (hm : X.mg "range" = none) (ha : PE X a (tE X.K W m)) (hs : starEach [a] X.env = [(false, eval a X.env)]) :
    PI X tg (.Call (.Name "range" p) [a] [] pos) (tI X.K W fun env => bnd (bnd (m env) asInt) fun j => if rngOk 0 j = true then ret ⟨rangeV 0 j, none⟩ else stuck) := by
  refine PI.imp (pi_range1 hg hm (pa_cons ha pa_nil hs) hs) fun σ H R h => ?_
  obtain ⟨ρ, env, st, rE, rS, p⟩ := h
  dsimp only at p
  rw [bnd_assoc] at p
  refine ⟨ρ, env, st, rE, rS, PostI.bnd p fun v st1 ρ1 x H1 e1 s1 q1 p1 => ?_⟩
  obtain ⟨j, rfl, p2⟩ := post_asInt_I p1
  cases q1
  split at p2
  · rename_i hr
    obtain ⟨_, _, h3, h4, h5⟩ := rngOk_of hr
    refine ⟨j, rfl, h3, h4, ?_⟩
    have := p2 (by show (rangeV 0 j).length ≤ _; rw [rangeV_length]; exact h5) ρ1 _ H1 (.refl _ _) s1 (Itr.ok 0 j)
    rw [Int.sub_zero] at this
    exact this
  · exact p2.elim
theorem sim_rng2 {W : WX} {a b : Expr} {m m2 : Env → M Val} {p pos : Pos} (hg : Gl X "range") (hm : X.mg "range" = none) (ha : PE X a (tE X.K W m)) (hb : PE X b (tE X.K W m2)) (hs : starEach [a, b] X.env = [(false, eval a X.env), (false, eval b X.env)]) (hs2 : starEach [b] X.env = [(false, eval b X.env)]) :
    PI X tg (.Call (.Name "range" p) [a, b] [] pos) (tI X.K W fun env => bnd (bnd (m env) asInt) fun i => bnd (bnd (m2 env) asInt) fun j => if rngOk i j = true then ret ⟨rangeV i j, none⟩ else stuck) := by
  refine PI.imp (pi_range2 hg hm (pa_cons ha (pa_cons hb pa_nil hs2) (by rw [hs, hs2])) hs hs2) fun σ H R h => ?_
  obtain ⟨ρ, env, st, rE, rS, p⟩ := h
  dsimp only at p
  rw [bnd_assoc] at p
  refine ⟨ρ, env, st, rE, rS, PostI.bnd p fun v st1 ρ1 x H1 e1 s1 q1 p1 => ?_⟩
  obtain ⟨i, rfl, p1a⟩ := post_asInt_I p1
  cases q1
  rw [bnd_assoc] at p1a
  refine ⟨ρ1, env, st1, rE.ext e1, s1, PostI.bnd p1a fun v st2 ρ2 x H2 e2 s2 q2 p2 => ?_⟩
  obtain ⟨j, rfl, p2a⟩ := post_asInt_I p2
  cases q2
  split at p2a
  · rename_i hr
    obtain ⟨h1, h2, h3, h4, h5⟩ := rngOk_of hr
    exact ⟨i, j, rfl, ⟨h1, h2, h3, h4⟩, p2a (by show (rangeV i j).length ≤ _; rw [rangeV_length]; exact h5) ρ2 _ H2 (.refl _ _) s2 (Itr.ok i j)⟩
  · exact p2a.elim
end

/-! ### targets -/
def gNames : List Nat → TGs
  | [] => gNil
  | i :: is => gCons (gName i) (gNames is)
def gTg (K : PySem.W.Frag) : Tg → TG
  | .nm i => gName i
  | .tup is => gTup K is.length (gNames is)
/-- the slots of a target stand -/
def tgIn (n : Nat) : Tg → Prop
  | .nm i => i < n
  | .tup is => ∀ i ∈ is, i < n
def tgSub (vs : List Nat) : Tg → Prop
  | .nm i => i ∈ vs
  | .tup is => ∀ i ∈ is, i ∈ vs
theorem wipe_out_set (σ : L2.St) : ∀ (us : List Nat) {i : Nat} {x : Option V}, i ∉ us → L2.wipe (σ.set i x) us = (L2.wipe σ us).set i x
  | [], _, _, _ => rfl
  | u :: us, i, x, h => by
    show (L2.wipe (σ.set i x) us).set u none = ((L2.wipe σ us).set u none).set i x
    rw [wipe_out_set σ us fun m => h (by simp [m]), List.set_comm _ _ fun e => h (by simp [e])]
theorem wipe_set (σ : L2.St) : ∀ (us : List Nat) {i : Nat} {x : Option V}, i ∈ us → L2.wipe (σ.set i x) us = L2.wipe σ us
  | u :: us, i, x, h => by
    show (L2.wipe (σ.set i x) us).set u none = (L2.wipe σ us).set u none
    by_cases hu : i ∈ us
    · rw [wipe_set σ us hu]
    · have : i = u := by
        rcases List.mem_cons.mp h with h | h
        · exact h
        · exact absurd h hu
      subst this
      rw [wipe_out_set σ us hu, List.set_set]
  | [], _, _, h => by simp at h
theorem gNames_ok {K : PySem.W.Frag} {ρ : Pl} {H : Hp} {Q : L2.St → Hp → Prop} : ∀ {is : List Nat} {vs : List Val} {ws : List V} {env env' : Env} {σ : L2.St}, setAll is vs env = some env' → RepL K ρ H vs ws → RelE K ρ H env σ → (∀ i ∈ is, i < σ.length) →
    (∀ σ', RelE K ρ H env' σ' → σ'.length = σ.length → (∀ us : List Nat, (∀ i ∈ is, i ∈ us) → L2.wipe σ' us = L2.wipe σ us) → Q σ' H) → gNames is ws σ H Q
  | [], [], _, _, _, _, e, .nil, rE, _, h => by
    cases e
    exact ⟨rfl, h _ rE rfl fun _ _ => rfl⟩
  | i :: is, v :: vs, _, env, env', σ, e, .cons (w := w) (ws := ws) r q, rE, hi, h => by
    refine ⟨w, ws, rfl, ?_⟩
    refine gNames_ok (is := is) (vs := vs) (env := env.set i (some v)) (env' := env') e q (rE.set i (hi i (by simp)) r) (fun j hj => by rw [List.length_set]; exact hi j (by simp [hj])) fun σ' r' l' w' => ?_
    refine h σ' r' (by rw [l', List.length_set]) fun us hu => ?_
    rw [w' us fun j hj => hu j (by simp [hj])]
    exact wipe_set _ us (hu i (by simp))
  | [], _ :: _, _, _, _, _, e, _, _, _, _ => by cases e
  | _ :: _, [], _, _, _, _, e, _, _, _, _ => by cases e
theorem wipe_wipe (σ : L2.St) : ∀ (us vs : List Nat), (∀ i ∈ us, i ∈ vs) → L2.wipe (L2.wipe σ us) vs = L2.wipe σ vs
  | [], _, _ => rfl
  | u :: us, vs, h => by
    show L2.wipe ((L2.wipe σ us).set u none) vs = L2.wipe σ vs
    rw [wipe_set _ vs (h u (by simp))]
    exact wipe_wipe σ us vs fun i hi => h i (by simp [hi])
theorem setAll_len : ∀ {is : List Nat} {vs : List Val} {env env' : Env}, setAll is vs env = some env' → vs.length = is.length
  | [], [], _, _, _ => rfl
  | _ :: is, _ :: vs, _, _, e => by
    rw [List.length_cons, List.length_cons, setAll_len (is := is) (vs := vs) e]
  | [], _ :: _, _, _, e => by cases e
  | _ :: _, [], _, _, e => by cases e
theorem gTg_ok {K : PySem.W.Frag} {ρ : Pl} {H : Hp} {Q : L2.St → Hp → Prop} {tg : Tg} {v : Val} {w : V} {env env' : Env} {σ : L2.St} (e : assignTg tg v env = some env') (r : Rep K ρ H v w) (rE : RelE K ρ H env σ) (hi : tgIn σ.length tg)
    (h : ∀ σ', RelE K ρ H env' σ' → σ'.length = σ.length → (∀ us : List Nat, tgSub us tg → L2.wipe σ' us = L2.wipe σ us) → Q σ' H) : gTg K tg w σ H Q := by
  cases tg with
  | nm i =>
    cases e
    exact h _ (rE.set i hi r) (List.length_set ..) fun us hu => wipe_set σ us hu
  | tup is =>
    unfold assignTg at e
    dsimp only at e
    split at e
    · rename_i vs
      cases r with
      | @tup a ws _ t q =>
        refine ⟨a, ws, rfl, t.sq, ?_, gNames_ok e q rE hi h⟩
        rw [← q.length]
        exact setAll_len e
    · cases e

/-! ### comprehensions -/
def F0 : WX := fun _ _ _ _ => False
theorem RelS.resv {K : PySem.W.Frag} {ρ : Pl} {st : Store} {H : Hp} {D : Addr} {o : HO} (r : RelS K ρ st H) (h : D ∈ ρ.rs) : RelS K ρ st (upd H D o) := by
  have hD := (r.rs D h).1
  refine ⟨r.len, r.nd, fun l a q e1 e2 => ?_, fun a ha => ⟨(r.rs a ha).1, ?_⟩⟩
  · obtain ⟨u, e3, e4⟩ := r.at_ l a q e1 e2
    have : a ≠ D := fun z => hD (z ▸ List.mem_of_getElem? e1)
    exact ⟨u, by rw [upd_ne this]; exact e3, e4.ext0 (.wrote (.inr h))⟩
  · by_cases z : a = D
    · subst z; exact ⟨o, upd_same⟩
    · rw [upd_ne z]; exact (r.rs a ha).2
section
variable {K : PySem.W.Frag} {W : WX} {σ : L2.St} {ρ ρ1 : Pl} {H H1 : Hp} {Q : VK}
theorem lc_done {new : Bool} {is : Items} {st st1 : Store} {D : Addr} {acc : List Val} {wacc : List V} (nD : H1 D = none) (s1 : RelS K ρ1 st1 H1) (e0 : Ext0 ρ1 H1 ρ H) (ers : ρ.rs = D :: ρ1.rs) (rk : ∀ a ∈ ρ1.rs, H a = H1 a) (rS : RelS K ρ st H) (hD : H D = some (.lst wacc)) (q : RepL K ρ H acc wacc)
    (p : Post K (Rep K) W σ ρ1 H1 Q (open Classical in if Still is st then mk new (.l acc) st else .stuck)) : Q (.ref D) H := by
  have hDr : D ∈ ρ.rs := by rw [ers]; simp
  have nDp : D ∉ ρ.ps := (rS.rs D hDr).1
  have nD1 : D ∉ ρ1.rs := fun m => by
    obtain ⟨o, e⟩ := (s1.rs D m).2
    rw [nD] at e; cases e
  split at p
  · cases new with
    | false =>
      have e1 : Ext0 ρ H ⟨ρ.ps, ρ1.rs⟩ H := ⟨fun a o h n => ⟨h, fun m => n (by
        rcases m with m | m
        · exact .inl m
        · exact .inr (by rw [ers]; simp [m]))⟩, List.prefix_refl _⟩
      have p' : Post K (Rep K) W σ ρ1 H1 Q (.ok (.lst acc) st) := p
      refine p' ⟨ρ.ps, ρ1.rs⟩ (.ref D) H ⟨⟨fun a o h n => ?_, e0.pre⟩, rfl, rk⟩ ⟨rS.len, rS.nd, fun l a o h1 h2 => ?_, fun a ha => ?_⟩ (.lst hD (fun m => ?_) (q.ext0 e1))
      · have := e0.keep a o h n
        exact ⟨this.1, (e1.keep a o this.1 this.2).2⟩
      · obtain ⟨u, h3, h4⟩ := rS.at_ l a o h1 h2
        exact ⟨u, h3, h4.ext0 e1⟩
      · exact rS.rs a (by rw [ers]; simp [ha])
      · rcases m with m | m
        · exact nDp m
        · exact nD1 m
    | true =>
      have e1 : Ext0 ρ H ⟨ρ.ps ++ [D], ρ1.rs⟩ H := ⟨fun a o h n => ⟨h, fun m => n (by
        rcases m with m | m
        · rcases List.mem_append.mp m with m | m
          · exact .inl m
          · exact .inr (by rw [List.mem_singleton.mp m]; exact hDr)
        · exact .inr (by rw [ers]; simp [m]))⟩, List.prefix_append _ _⟩
      have p' : Post K (Rep K) W σ ρ1 H1 Q (.ok (.loc st.length) (st ++ [.lst acc])) := p
      refine p' ⟨ρ.ps ++ [D], ρ1.rs⟩ (.ref D) H ⟨⟨fun a o h n => ?_, e0.pre.trans (List.prefix_append _ _)⟩, rfl, rk⟩ ⟨by simp [rS.len], ?_, fun l a o h1 h2 => ?_, fun a ha => ⟨fun m => ?_, ?_⟩⟩ (.loc ?_)
      · have := e0.keep a o h n
        exact ⟨this.1, (e1.keep a o this.1 this.2).2⟩
      · show (ρ.ps ++ [D]).Nodup
        rw [List.nodup_append]
        exact ⟨rS.nd, by simp, fun a ha b hb => by rw [List.mem_singleton.mp hb]; exact fun z => nDp (z ▸ ha)⟩
      · have h1 : (ρ.ps ++ [D])[l]? = some a := h1
        by_cases hl : l < ρ.ps.length
        · rw [List.getElem?_append_left hl] at h1
          rw [List.getElem?_append_left (rS.len ▸ hl)] at h2
          obtain ⟨u, h3, h4⟩ := rS.at_ l a o h1 h2
          exact ⟨u, h3, h4.ext0 e1⟩
        · rw [List.getElem?_append_right (Nat.le_of_not_lt hl)] at h1
          rw [List.getElem?_append_right (Nat.le_of_not_lt (rS.len ▸ hl))] at h2
          have z : l - ρ.ps.length = 0 := by
            have := (List.getElem?_eq_some_iff.mp h1).1
            simp at this; omega
          rw [z] at h1
          rw [← rS.len, z] at h2
          simp at h1 h2
          subst h1; subst h2
          exact ⟨_, hD, .lst (q.ext0 e1)⟩
      · rcases List.mem_append.mp m with m | m
        · exact (rS.rs a (by rw [ers]; simp [ha])).1 m
        · exact nD1 (List.mem_singleton.mp m ▸ ha)
      · exact (rS.rs a (by rw [ers]; simp [ha])).2
      · show (ρ.ps ++ [D])[st.length]? = some D
        rw [← rS.len]; simp
  · exact p.elim
end
end Rc
/-! Rc5: comprehensions, displays, calls: each construct's rule. -/
namespace Rc
open PySem L2
section
variable {X : Cx}
theorem tLc_of {K : PySem.W.Frag} {W : WX} {new : Bool} {own : List Nat} {mI : Env → M Items} {tgt : Tg} {mT : Env → M Bool} {mE : Env → M Val} {σ : L2.St} {H : Hp} {Q : VK} (hin : tgIn σ.length tgt) (hsub : tgSub own tgt)
    (h : tE K W (lcSem new own mI tgt mT mE) σ H Q) : tLc (tI K W mI) (gTg K tgt) (tG K relB F0 mT) (tE K F0 mE) own σ H Q := by
  obtain ⟨ρ, env, st, rE, rS, p⟩ := h
  refine ⟨ρ, env, st, rE, rS, ?_⟩
  rw [lcSem_eq] at p
  unfold lcRaw at p
  unfold Rc.bnd at p
  cases eI : mI env st with
  | stuck => rw [eI] at p; exact p.elim
  | exc c row st' => rw [eI] at p; exact p
  | ok is st1 =>
    rw [eI] at p
    dsimp only at p
    intro hz ρ1 J H1 x1 s1 hJ D nD
    have rE1 := rE.ext x1
    have p1 := Post.later p x1
    clear p
    refine ⟨fun i m H => ∃ ρ' st' acc wacc, m = is.xs.length - i ∧ i ≤ is.xs.length ∧ Ext0 ρ1 H1 ρ' H ∧ ρ'.rs = D :: ρ1.rs ∧ (∀ a ∈ ρ1.rs, H a = H1 a) ∧ RelS K ρ' st' H ∧ H D = some (.lst wacc) ∧ RepL K ρ' H acc wacc ∧ acc.length ≤ i ∧
      Post K (Rep K) W σ ρ1 H1 Q (bnd (lcLoop (lcTurn tgt own mT mE env) (Still is) (is.xs.drop i) acc) (fun ys => fun st => open Classical in if Still is st then mk new (.l ys) st else .stuck) st'), ?_, ?_⟩
    · have nD1 : D ∉ ρ1 := s1.fresh nD
      have e0 : Ext0 ρ1 H1 ⟨ρ1.ps, D :: ρ1.rs⟩ (upd H1 D (.lst [])) := ⟨fun a o h n => ⟨by rw [upd_ne (ne_of_none h nD)]; exact h, fun m => by
        rcases m with m | m
        · exact n (.inl m)
        · rcases List.mem_cons.mp m with m | m
          · exact ne_of_none h nD m
          · exact n (.inr m)⟩, List.prefix_refl _⟩
      refine ⟨_, ⟨ρ1.ps, D :: ρ1.rs⟩, st1, [], [], rfl, Nat.zero_le _, e0, rfl, fun a ha => upd_ne (s1.ne nD (.inr ha)), ⟨s1.len, s1.nd, fun l a o h1 h2 => ?_, fun a ha => ?_⟩, upd_same, .nil, Nat.zero_le _, p1⟩
      · obtain ⟨u, h3, h4⟩ := s1.at_ l a o h1 h2
        exact ⟨u, by rw [upd_ne (ne_of_none h3 nD)]; exact h3, h4.ext0 e0⟩
      · rcases List.mem_cons.mp ha with ha | ha
        · subst ha
          exact ⟨fun m => nD1 (.inl m), _, upd_same⟩
        · exact ⟨(s1.rs a ha).1, by rw [upd_ne (s1.ne nD (.inr ha))]; exact (s1.rs a ha).2⟩
    · intro i m H2 hW
      obtain ⟨ρ', st', acc, wacc, rfl, hi, e0, ers, rk, s2, hD, q, hacc, p2⟩ := hW
      by_cases hlt : i < is.xs.length
      · right
        have hget : is.xs[i]? = some is.xs[i] := List.getElem?_eq_getElem hlt
        rw [List.drop_eq_getElem_cons hlt] at p2
        unfold Rc.bnd lcLoop at p2
        dsimp only at p2
        by_cases hst : Still is st'
        · rw [if_pos hst] at p2
          obtain ⟨hgo, hy⟩ := (hJ i ρ' st' H2 e0 s2 hst).1 _ hget
          refine ⟨hgo, fun H' => ∃ ρ' st' acc wacc, i + 1 ≤ is.xs.length ∧ Ext0 ρ1 H1 ρ' H' ∧ ρ'.rs = D :: ρ1.rs ∧ (∀ a ∈ ρ1.rs, H' a = H1 a) ∧ RelS K ρ' st' H' ∧ H' D = some (.lst wacc) ∧ RepL K ρ' H' acc wacc ∧ acc.length ≤ i + 1 ∧
            Post K (Rep K) W σ ρ1 H1 Q (bnd (lcLoop (lcTurn tgt own mT mE env) (Still is) (is.xs.drop (i + 1)) acc) (fun ys => fun st => open Classical in if Still is st then mk new (.l ys) st else .stuck) st'), fun H' hN => ?_, fun x H3 hyl => ?_⟩
          · obtain ⟨a1, a2, a3, a4, a5, a6, a7, a8, a9, a10, a11, a12, a13⟩ := hN
            exact ⟨is.xs.length - (i + 1), by omega, a1, a2, a3, a4, rfl, a5, a6, a7, a8, a9, a10, a11, a12, a13⟩
          · obtain ⟨x3, s3, r3⟩ := hy x H3 hyl
            -- the target
            cases eA : assignTg tgt is.xs[i] (Rc.wipe env own) with
            | none =>
              have ht : lcTurn tgt own mT mE env is.xs[i] st' = .stuck := by simp only [lcTurn, eA, stuck]
              rw [ht] at p2; exact p2.elim
            | some env' =>
              have e03 : Ext0 ρ1 H1 ρ' H3 := e0.trans x3.toExt0
              refine gTg_ok eA r3 ((rE1.ext' e03).wipe own) (by rw [L2.wipe_length]; exact hin) fun σ2 rE2 l2 w2 => ⟨?_, ?_⟩
              · rw [w2 own hsub, wipe_wipe σ own own fun _ h => h]
              · have hD3 : H3 D = some (.lst wacc) := by rw [x3.rk D (by rw [ers]; simp)]; exact hD
                have rk3 : ∀ a ∈ ρ1.rs, H3 a = H1 a := fun a ha => by rw [x3.rk a (by rw [ers]; simp [ha])]; exact rk a ha
                refine ⟨ρ', env', st', rE2, s3, ?_⟩
                cases eT : mT env' st' with
                | stuck =>
                  have ht : lcTurn tgt own mT mE env is.xs[i] st' = .stuck := by simp only [lcTurn, eA, noExc, Rc.bnd, eT]
                  rw [ht] at p2; exact p2.elim
                | exc c row st4 =>
                  have ht : lcTurn tgt own mT mE env is.xs[i] st' = .stuck := by simp only [lcTurn, eA, noExc, Rc.bnd, eT]
                  rw [ht] at p2; exact p2.elim
                | ok k st4 =>
                  intro ρ4 b H4 x4 s4 hb
                  have hb : k = b := hb
                  subst hb
                  have e04 : Ext0 ρ1 H1 ρ4 H4 := e03.trans x4.toExt0
                  have ers4 : ρ4.rs = D :: ρ1.rs := x4.rs.trans ers
                  have hD4 : H4 D = some (.lst wacc) := by rw [x4.rk D (by rw [ers]; simp)]; exact hD3
                  have rk4 : ∀ a ∈ ρ1.rs, H4 a = H1 a := fun a ha => by rw [x4.rk a (by rw [ers]; simp [ha])]; exact rk3 a ha
                  have q4 := (q.ext x3).ext x4
                  cases k with
                  | false =>
                    have ht : lcTurn tgt own mT mE env is.xs[i] st' = .ok none st4 := by simp only [lcTurn, eA, noExc, Rc.bnd, eT, Rc.ret, Bool.false_eq_true, if_false]
                    rw [ht] at p2
                    exact ⟨ρ4, st4, acc, wacc, hlt, e04, ers4, rk4, s4, hD4, q4, by omega, p2⟩
                  | true =>
                    show tE K F0 mE σ2 H4 _
                    refine ⟨ρ4, env', st4, rE2.ext x4, s4, ?_⟩
                    cases eE : mE env' st4 with
                    | stuck =>
                      have ht : lcTurn tgt own mT mE env is.xs[i] st' = .stuck := by simp only [lcTurn, eA, noExc, Rc.bnd, eT, eE, if_true]
                      rw [ht] at p2; exact p2.elim
                    | exc c row st5 =>
                      have ht : lcTurn tgt own mT mE env is.xs[i] st' = .stuck := by simp only [lcTurn, eA, noExc, Rc.bnd, eT, eE, if_true]
                      rw [ht] at p2; exact p2.elim
                    | ok y st5 =>
                      have ht : lcTurn tgt own mT mE env is.xs[i] st' = .ok (some y) st5 := by simp only [lcTurn, eA, noExc, Rc.bnd, eT, eE, Rc.ret, if_true]
                      rw [ht] at p2
                      intro ρ5 w H5 x5 s5 ry
                      have hDr : D ∈ ρ5.rs := by rw [x5.rs, ers4]; simp
                      have hD5 : H5 D = some (.lst wacc) := by rw [x5.rk D (by rw [ers4]; simp)]; exact hD4
                      have lq := q.length
                      have wr : Ext0 ρ5 H5 ρ5 (upd H5 D (.lst (wacc ++ [w]))) := .wrote (.inr hDr)
                      refine ⟨wacc, hD5, by omega, ρ5, st5, acc ++ [y], wacc ++ [w], hlt, e04.trans (x5.toExt0.trans wr), x5.rs.trans ers4, fun a ha => ?_, s5.resv hDr, upd_same, ((q4.ext x5).append (.cons ry .nil)).ext0 wr, by rw [List.length_append]; simp; omega, p2⟩
                      have hne : a ≠ D := fun z => by
                        obtain ⟨o, eo⟩ := (s1.rs a ha).2
                        rw [z, nD] at eo; cases eo
                      rw [upd_ne hne, x5.rk a (by rw [ers4]; simp [ha])]
                      exact rk4 a ha
        · rw [if_neg hst] at p2
          exact p2.elim
      · have hi' : is.xs.length = i := by omega
        left
        rw [List.drop_eq_nil_of_le (by omega)] at p2
        have p3 : Post K (Rep K) W σ ρ1 H1 Q (open Classical in if Still is st' then mk new (.l acc) st' else .stuck) := p2
        have hst : Still is st' := by
          by_cases h : Still is st'
          · exact h
          · rw [if_neg h] at p3
            exact p3.elim
        exact ⟨(hJ i ρ' st' H2 e0 s2 hst).2 hi', lc_done nD s1 e0 ers rk s2 hD q p3⟩
end
end Rc
/-! Rc6: does a text of the small language say what a text of the model says? Expressions. -/
namespace Rc
open PySem L2

/-! ### the looks -/
/-- what is known of the module: names left to the built-ins, constants, defs with the count of their parameters -/
structure Sig where
  frees : List Str
  globs : List (Str × Gv)
  defs : List (Str × Nat)
  /-- classes with their __init__ -/
  clss : List (Str × Str) := []
  /-- class, method, the def's name -/
  meths : List (Str × Str × Str) := []
  /-- class, field -/
  flds : List (Str × Str) := []
  /-- tuples of texts, dicts of texts and ints: constants of the module -/
  tups : List (Str × List Str) := []
  dics : List (Str × List (Str × Int)) := []
/-- where an expression stands: the scope, the names by slot, the names that may be stored, outside of except suites or not -/
structure Ct where
  sc : Scope
  N : List Str
  stor : List Str
  cal : Bool
def okHead : Expr → Bool
  | .BoolOp .. | .BinOp .. | .UnaryOp .. | .IfExp .. | .Dict .. | .ListComp .. | .Compare .. | .Call .. | .Constant .. | .Attribute .. | .Subscript .. | .Name .. | .List .. | .Tuple .. => true
  | _ => false
def okOp : Operator → Bool
  | .Add => true
  | .Sub => true
  | .Mult => true
  | .Mod => true
  | .FloorDiv => true
  | .Pow => true
  | _ => false
def isVis (sc : Scope) (x : Str) : Bool := match sc.names.lookup x with
  | some .local => true
  | some .cell => true
  | some .free => true
  | _ => false
def isGl (sc : Scope) (x : Str) : Bool := match sc.names.lookup x with
  | some .globalImplicit => true
  | _ => false
def noDbg (x : Str) : Bool := !(x == ("__debug__" : Str)) && !(x == ("__classdict__" : Str)) && !(x == ("__name__" : Str))
def ckName (ct : Ct) (i : Nat) : Expr → Bool
  | .Name x _ => decide (ct.N[i]? = some x) && ct.stor.contains x
  | _ => false
def ckNames (ct : Ct) : List Nat → List Expr → Bool
  | [], [] => true
  | i :: is, e :: es => ckName ct i e && ckNames ct is es
  | _, _ => false
def ckTg (ct : Ct) : Tg → Expr → Bool
  | .nm i, e => ckName ct i e
  | .tup is, .Tuple es _ _ => ct.cal && ckNames ct is es
  | _, _ => false
def tgSubB (own : List Nat) : Tg → Bool
  | .nm i => own.contains i
  | .tup is => is.all own.contains
def biName : Bi → Str
  | .len => "len"
  | .max => "max"
  | .min => "min"
  | .all => "all"
  | .any => "any"
  | .tuple => "tuple"
  | .list => "list"
  | .int => "int"
  | .sorted => "sorted"
  | .dict => "dict"
  | .str => "str"
  | .minD => "min"
  | .sortD => "sorted"
def ownP (N : List Str) (own : List Nat) : List (Str × Nat) := own.map fun i => (N.getD i Str.empty, i)
def storOf (sc : Scope) : List Str := sc.names.filterMap fun p => match p.2 with
  | .local => some p.1
  | .cell => some p.1
  | _ => none
def ctBlk (ct : Ct) (scope : Scope) : Ct := { ct with sc := relS scope ct.sc, stor := storOf scope }
def isRng (x : Str) : Bool := decide (x = ("range" : Str))
mutual
/-- may it stand as a test? -/
def tst : E → Bool
  | .ife _ _ _ => false
  | .not a => tst a
  | .bop _ es => tstAll es
  | _ => true
def tstAll : Es → Bool
  | .nil => true
  | .cons e es => tst e && tstAll es
end
def tst1 : Es → Bool
  | .nil => true
  | .cons e .nil => tst e
  | _ => false
def isOne : Expr → Bool
  | .Constant (.int i) _ _ => decide (i = 1)
  | _ => false
def negOne : Expr → Bool
  | .UnaryOp .USub e _ => isOne e
  | _ => false
/-- [::-1] -/
def revStep : Expr → Bool
  | .Slice none none (some e) _ => negOne e
  | _ => false
/-- a base whose method is plainly looked up -/
def plainBase : Expr → Bool
  | .Name .. | .Constant .. | .Subscript .. | .Attribute .. | .IfExp .. => true
  | .Call (.Attribute ..) _ _ _ => true
  | .Call (.Name ..) (_ :: _) _ _ => true
  | _ => false
def isTupX : Expr → Bool
  | .Tuple .. => true
  | _ => false
/-- enumerate asks for a target that is a tuple -/
def enumOk : It → Expr → Bool
  | .enum _, t => isTupX t
  | _, _ => true
def inOp (neg : Bool) (o : CmpOp) : Bool := decide (o = if neg then .NotIn else .In)
def ckKey : Key → Option Expr → Bool
  | .inl i, some (.Constant (.int j) _ _) => decide (i = j)
  | .inr s, some (.Constant (.str t) _ _) => decide (s = t)
  | _, _ => false
def ckKeys : List Key → List (Option Expr) → Bool
  | [], [] => true
  | k :: ks, e :: es => ckKey k e && ckKeys ks es
  | _, _ => false
def ckIni (ct : Ct) : Ini → Expr → Bool
  | .var i, .Name x _ => decide (ct.N[i]? = some x) && isVis ct.sc x && noDbg x
  | .int i, .Constant (.int j) _ _ => decide (i = j)
  | .lst, .List [] _ => true
  | .dk, .Dict [] [] _ => true
  | _, _ => false
def ckInis (ct : Ct) : List Ini → List Expr → Bool
  | [], [] => true
  | i :: is, e :: es => ckIni ct i e && ckInis ct is es
  | _, _ => false
def nonNil : Es → Bool
  | .nil => false
  | _ => true
section
variable (g : Sig)
mutual
def ckE (ct : Ct) : E → Expr → Bool
  | .var i, .Name x _ => decide (ct.N[i]? = some x) && isVis ct.sc x && noDbg x
  | .int i, .Constant (.int j) _ _ => decide (i = j)
  | .str s, .Constant (.str t) _ _ => decide (s = t)
  | .bl b, .Constant (.bool c) _ _ => decide (b = c)
  | .non, .Constant .none _ _ => true
  | .glob x v, .Name y _ => decide (x = y) && isGl ct.sc x && noDbg x && g.globs.any fun p => decide (p.1 = x) && decide (p.2 = v)
  | .bin _ op a b, .BinOp l o r _ => decide (op = o) && okOp op && okHead l && ckE ct a l && okHead r && ckE ct b r
  | .neg a, .UnaryOp .USub e _ => okHead e && ckE ct a e
  | .not a, .UnaryOp .Not e _ => okHead e && ckE ct a e
  | .bop op es, .BoolOp o xs _ => decide (op = o) && ckEs ct es xs
  | .cmp op a b, .Compare l [o] [r] _ => decide (op = o) && okHead l && ckE ct a l && okHead r && ckE ct b r
  | .chain o1 o2 a b c, .Compare l [p1, p2] [m, r] _ => decide (o1 = p1) && decide (o2 = p2) && okHead l && ckE ct a l && okHead m && ckE ct b m && okHead r && ckE ct c r
  | .ife c a b, .IfExp t l r _ => okHead t && ckE ct c t && tst c && okHead l && ckE ct a l && okHead r && ckE ct b r
  | .tup es, .Tuple xs _ _ => ckEs ct es xs
  | .lst _ es, .List xs _ => ckEs ct es xs
  | .ix a b, .Subscript l r _ => okHead l && ckE ct a l && okHead r && ckE ct b r
  | .sl _ a lo hi, .Subscript l (.Slice x y none _) _ => okHead l && ckE ct a l && ckO ct lo x && ckO ct hi y
  | .rev _ a, .Subscript l r _ => okHead l && ckE ct a l && revStep r
  | .mth _ m o es, .Call (.Attribute ob x ap) xs [] cp => ct.cal && decide (x = (mtName m : Str)) && plainBase ob && okHead ob && ckE ct o ob && (ap.endLine == cp.line) && decide (xs.length < 30) && ckEs ct es xs
  | .call f _ es, .Call (.Name x _) xs [] _ => ct.cal && decide (f = x) && isGl ct.sc x && noDbg x && ((g.defs.any fun p => decide (p.1 = f)) || (g.clss.any fun p => decide (p.1 = f))) && nonNil es && ckEs ct es xs
  | .bi _ b es, .Call (.Name x _) xs [] _ => ct.cal && decide (biName b = x) && isGl ct.sc x && noDbg x && g.frees.contains x && nonNil es && ckEs ct es xs
  | .isin a k, .Call (.Name x _) [e, .Name y _] [] _ => decide (x = ("isinstance" : Str)) && isGl ct.sc x && g.frees.contains x && decide (y = (kdName k : Str)) && isGl ct.sc y && noDbg y && g.frees.contains y && okHead e && ckE ct a e
  | .lrange _ a b, .Call (.Name x _) [.Call (.Name y _) [e1, e2] [] _] [] _ => ct.cal && decide (x = ("list" : Str)) && isGl ct.sc x && g.frees.contains x && decide (y = ("range" : Str)) && isGl ct.sc y && g.frees.contains y && okHead e1 && ckE ct a e1 && okHead e2 && ckE ct b e2
  | .lrange1 _ a, .Call (.Name x _) [.Call (.Name y _) [e1] [] _] [] _ => ct.cal && decide (x = ("list" : Str)) && isGl ct.sc x && g.frees.contains x && decide (y = ("range" : Str)) && isGl ct.sc y && g.frees.contains y && okHead e1 && ckE ct a e1
  | .dnew _, .Dict [] [] _ => true
  | .ddisp ks is, .Dict keys values _ => ckKeys ks keys && ckInis ct is values && decide (keys.length = values.length) && !keys.isEmpty && decide (keys.length ≤ 15)
  | .fld o f _, .Attribute ob x _ => decide (f = x) && plainBase ob && okHead ob && ckE ct o ob
  | .meth c m f _ o es, .Call (.Attribute ob x ap) xs [] cp => ct.cal && decide (m = x) && (g.meths.any fun p => decide (p = (c, m, f))) && plainBase ob && okHead ob && ckE ct o ob && (ap.endLine == cp.line) && decide (xs.length < 30) && ckEs ct es xs
  | .gin neg a x ss, .Compare l [o] [.Name y _] _ => inOp neg o && okHead l && ckE ct a l && decide (x = y) && isGl ct.sc x && noDbg x && (g.tups.any fun p => decide (p.1 = x) && decide (p.2 = ss))
  | .gdin neg a x ss, .Compare l [o] [.Name y _] _ => inOp neg o && okHead l && ckE ct a l && decide (x = y) && isGl ct.sc x && noDbg x && (g.dics.any fun p => decide (p.1 = x) && decide (p.2 = ss))
  | .gdix x ss a, .Subscript (.Name y _) r _ => okHead r && ckE ct a r && decide (x = y) && isGl ct.sc x && noDbg x && (g.dics.any fun p => decide (p.1 = x) && decide (p.2 = ss))
  | .lenset a, .Call (.Name x _) [.Call (.Name y _) [e1] [] _] [] _ => ct.cal && decide (x = ("len" : Str)) && isGl ct.sc x && g.frees.contains x && decide (y = ("set" : Str)) && isGl ct.sc y && g.frees.contains y && okHead e1 && ckE ct a e1
  | .ndict es, .Call (.Name x _) xs [] _ => ct.cal && decide (x = ("dict" : Str)) && isGl ct.sc x && g.frees.contains x && nonNil es && ckEs ct es xs
  | .lc _ own tg it ifs e, .ListComp elt [⟨t, iter, fs, k⟩] scope _ => enumOk it t && ct.cal && decide (k = 0) && blkC ct.N ct.sc scope (ownP ct.N own) && tgSubB own tg && ckTg (ctBlk ct scope) tg t && ckI ct it iter && ckEs (ctBlk ct scope) ifs fs && tst1 ifs && okHead elt && ckE (ctBlk ct scope) e elt
  | _, _ => false
def ckEs (ct : Ct) : Es → List Expr → Bool
  | .nil, [] => true
  | .cons e es, x :: xs => okHead x && ckE ct e x && ckEs ct es xs
  | _, _ => false
def ckO (ct : Ct) : Oe → Option Expr → Bool
  | .none, none => true
  | .some e, some x => okHead x && ckE ct e x
  | _, _ => false
def ckI (ct : Ct) : It → Expr → Bool
  | .seq e, x => okHead x && ckE ct e x
  | .rng1 a, .Call (.Name y _) [e] [] _ => isRng y && isGl ct.sc y && g.frees.contains y && okHead e && ckE ct a e
  | .rng2 a b, .Call (.Name y _) [e1, e2] [] _ => isRng y && isGl ct.sc y && g.frees.contains y && okHead e1 && ckE ct a e1 && okHead e2 && ckE ct b e2
  | .enum a, .Call (.Name y _) [e] [] _ => decide (y = ("enumerate" : Str)) && isGl ct.sc y && g.frees.contains y && okHead e && ckE ct a e
  | _, _ => false
end
end

/-! ### what a look at the head tells -/
theorem isOne_of : ∀ {e : Expr}, isOne e = true → ∃ k p, e = .Constant (.int 1) k p := by
  intro e h
  unfold isOne at h
  split at h
  · rw [of_decide_eq_true h]
    exact ⟨_, _, rfl⟩
  · cases h
theorem negOne_of {e : Expr} (h : negOne e = true) : ∃ k p1 p2, e = .UnaryOp .USub (.Constant (.int 1) k p1) p2 := by
  unfold negOne at h
  split at h
  · obtain ⟨k, p, rfl⟩ := isOne_of h
    exact ⟨_, _, _, rfl⟩
  · cases h
theorem revStep_of {e : Expr} (h : revStep e = true) : ∃ k p1 p2 p3, e = .Slice none none (some (.UnaryOp .USub (.Constant (.int 1) k p1) p2)) p3 := by
  unfold revStep at h
  split at h
  · obtain ⟨k, p1, p2, rfl⟩ := negOne_of h
    exact ⟨_, _, _, _, rfl⟩
  · cases h
theorem isTupX_of {e : Expr} (h : isTupX e = true) : ∃ es k p, e = .Tuple es k p := by
  cases e <;> first | exact ⟨_, _, _, rfl⟩ | cases h
theorem head_base {e : Expr} (h : plainBase e = true) (x : Str) (env : PySem.Env) (w : Sem Value) : attributeBase e x env w = w := by
  unfold plainBase at h
  split at h <;> first | rfl | cases h
theorem head_set {e : Expr} (h : okHead e = true) (env : PySem.Env) (x : Value) : foldedSetIterable e env x = pure x := by
  cases e <;> first | rfl | cases h
theorem head_star {e : Expr} (h : okHead e = true) (es : List Expr) (env : PySem.Env) : starEach (e :: es) env = (false, eval e env) :: starEach es env := by
  cases e <;> first | rfl | cases h
theorem head_mark {e : Expr} (h : okHead e = true) (op : CmpOp) : behindInMarks op e = false := by
  cases e <;> first | rfl | cases h
theorem head_ix {e : Expr} (h : okHead e = true) : PlainIx e := by
  intro o i
  cases e <;> first | rfl | cases h
end Rc
/-! Rc7: what the looks let by runs as the small language says. Expressions. -/
namespace Rc
open PySem L2

/-- what a def of the module keeps: it ends as the small language's call does -/
def spF (K : PySem.W.Frag) (F : List Val → M Val) : Sp := fun vs H Q E => ∃ (ρ : Pl) (st : Store) (args : List Val), RelS K ρ st H ∧ RepL K ρ H args vs ∧ Post K (Rep K) (fun c d _ H => E c d H) [] ρ H Q (F args st)
abbrev spOf (K : PySem.W.Frag) (C : Str → List Val → M Val) (f : Str) : Sp := spF K (C f)
/-- C(..): a new instance, then __init__ -/
def mkNew (c : Str) (F : List Val → M Val) (args : List Val) : M Val := fun st => match F (.loc st.length :: args) (st ++ [.ins c []]) with
  | .ok v st' => if isNon v = true then .ok (.loc st.length) st' else .stuck
  | .exc e r st' => .exc e r st'
  | .stuck => .stuck
def DefOk (X : Cx) (n : Nat) (C : Str → List Val → M Val) (f : Str) : Prop :=
  ∃ (fa : Addr) (fd : FuncData) (ps : List Str), FnOk X.prog X.w X.K X.mg X.base (L2.CX X.prog X.w) (2 * n) fa fd ps (spOf X.K C f) ∧ X.mg f = some (.ref fa) ∧ PySem.W.keepIn X.K (.ref fa) = true ∧ Binds X.K fd ps []
def ClsOk (X : Cx) (n : Nat) (C : Str → List Val → M Val) (c : Str) : Prop :=
  ∃ (fi : Addr) (fd : FuncData) (ps : List Str) (F : List Val → M Val), Cls X.K (He.ga X.K c) ∧ Mk X.K (He.ga X.K c) fi ∧ FnOk X.prog X.w X.K X.mg X.base (L2.CX X.prog X.w) (2 * n) fi fd ps (spF X.K F) ∧ X.mg c = some (.ref (He.ga X.K c)) ∧ Binds X.K fd ps [] ∧ C c = mkNew c F
def MethOk (X : Cx) (n : Nat) (C : Str → List Val → M Val) (q : Str × Str × Str) : Prop :=
  ∃ (fa : Addr) (fd : FuncData) (ps : List Str), Meth X.K (He.ga X.K q.1) q.2.1 fa ∧ FnOk X.prog X.w X.K X.mg X.base (L2.CX X.prog X.w) (2 * n) fa fd ps (spOf X.K C q.2.2) ∧ Binds X.K fd ps []
def GlobOk (X : Cx) (x : Str) (v : Gv) : Prop := ∃ u w, X.mg x = some u ∧ RelV w u ∧ ∀ ρ H, Rep X.K ρ H (gvVal v) w
/-- a tuple of texts, a dict of texts and ints: they stand in the module for good -/
def TupsOk (X : Cx) (x : Str) (ss : List Str) : Prop := ∃ a, X.mg x = some (.ref a) ∧ ∀ H, SqT X.K H a (ss.map V.str)
def DicsOk (X : Cx) (x : Str) (kvs : List (Str × Int)) : Prop := ∃ a es n, X.mg x = some (.ref a) ∧ KDict X.K X.w a es n ∧ ∀ z, match kvs.lookup z with
  | some i => ∃ t, PySem.W.nsIn X.K a z = some (some (.int i t))
  | none => PySem.W.nsIn X.K a z = some none
structure Good (X : Cx) (g : Sig) (ct : Ct) (n : Nat) (C : Str → List Val → M Val) (W : WX) : Prop where
  sc : X.env.scope = ct.sc
  N : X.N = ct.N
  nd : X.N.Nodup
  stor : ∀ x ∈ ct.stor, Loc ct.sc x ∧ (X.fn x = true ∨ ct.sc.names.lookup x = some .local)
  calm : ct.cal = true → X.calm = true
  room : ct.cal = true → Room (2 * n + 1) X.A
  units : X.A.units + 100 < cLine
  takes : Takes X W
  frees : ∀ x ∈ g.frees, X.mg x = none
  globs : ∀ p ∈ g.globs, GlobOk X p.1 p.2
  defs : ∀ p ∈ g.defs, DefOk X n C p.1
  clss : ∀ p ∈ g.clss, ClsOk X n C p.1
  meths : ∀ p ∈ g.meths, MethOk X n C p
  flds : ∀ p ∈ g.flds, NoAttr X.K (He.ga X.K p.1) p.2
  tups : ∀ p ∈ g.tups, TupsOk X p.1 p.2
  dics : ∀ p ∈ g.dics, DicsOk X p.1 p.2

section
variable {X : Cx} {W : WX} {g : Sig} {ct : Ct} {n : Nat} {C : Str → List Val → M Val}
theorem Good.gl (G : Good X g ct n C W) {x : Str} (h : isGl ct.sc x = true) : Gl X x := by
  unfold isGl at h
  rw [← G.sc] at h
  show X.env.scope.names.lookup x = some .globalImplicit
  split at h
  · assumption
  · cases h
theorem Good.vis (G : Good X g ct n C W) {x : Str} (h : isVis ct.sc x = true) : Vis X.env.scope x := by
  unfold isVis at h
  rw [← G.sc] at h
  split at h
  · exact .inl (by assumption)
  · exact .inr (.inl (by assumption))
  · exact .inr (.inr (by assumption))
  · cases h
theorem dbg1 {x : Str} (h : noDbg x = true) : (x == ("__debug__" : Str)) = false ∧ (x == ("__classdict__" : Str)) = false ∧ x ≠ "__name__" := by
  unfold noDbg at h
  simp only [Bool.and_eq_true, Bool.not_eq_true'] at h
  exact ⟨h.1.1, h.1.2, fun e => by rw [e] at h; simp at h⟩
theorem Good.free (G : Good X g ct n C W) {x : Str} (h : g.frees.contains x = true) : X.mg x = none := G.frees x (List.contains_iff_mem.mp h)

/-! ### rules by constructs -/
theorem pe_no {e : Expr} {t : TE} (h : ∀ σ H Q, ¬ t σ H Q) : PE X e t := ⟨fun _ _ σ H Q _ q => (h σ H Q q).elim⟩
theorem sim_var {i : Nat} {x : Str} {pos : Pos} (hN : X.N[i]? = some x) (hv : Vis X.env.scope x) (hd : noDbg x = true) : PE X (.Name x pos) (tE X.K W fun env => getVar env i) := by
  refine PE.imp (pe_var hN hv (dbg1 hd).1 (dbg1 hd).2.1) fun σ H Q h => ?_
  obtain ⟨ρ, env, st, rE, rS, p⟩ := h
  have p : Post X.K (Rep X.K) W σ ρ H Q (getVar env i st) := p
  unfold getVar at p
  cases e : env[i]? with
  | none => rw [e] at p; exact p.elim
  | some o =>
    rw [e] at p
    cases o with
    | none => exact p.elim
    | some v =>
      obtain ⟨w, h1, h2⟩ := rE i v e
      exact ⟨w, h1, Post.ret p rS h2⟩
theorem sim_c {e : Expr} {v : Val} {w : V} (h : PE X e (tC w)) (r : ∀ ρ H, Rep X.K ρ H v w) : PE X e (tE X.K W fun _ => ret v) := by
  refine PE.imp h fun σ H Q h => ?_
  obtain ⟨ρ, env, st, rE, rS, p⟩ := h
  exact Post.ret p rS (r _ _)
theorem sim_bin {op : Operator} {new : Bool} {a b : Expr} {m1 m2 : Env → M Val} {pos : Pos} (ho : okOp op = true) (ha : PE X a (tE X.K W m1)) (hb : PE X b (tE X.K W m2)) :
    PE X (.BinOp a op b pos) (tE X.K W fun env => bnd (m1 env) fun v => bnd (m2 env) fun w => fun st => bnd (ofOpt (binOp st op v w)) (mk new) st) := by
  cases op with
  | Add => exact PE.imp (pe_op op_add_S ha hb) fun σ H Q h => tOp_of h
  | Sub => exact PE.imp (pe_op op_sub_S ha hb) fun σ H Q h => tOp_of h
  | Mult => exact PE.imp (pe_op op_mul_S ha hb) fun σ H Q h => tOp_of h
  | Mod => exact PE.imp (pe_op op_mod_S ha hb) fun σ H Q h => tOp_of h
  | FloorDiv => exact PE.imp (pe_op op_div_S ha hb) fun σ H Q h => tOp_of h
  | Pow => exact PE.imp (pe_op op_pow_S ha hb) fun σ H Q h => tOp_of h
  | _ => cases ho
theorem sim_neg {a : Expr} {m : Env → M Val} {pos : Pos} (ha : PE X a (tE X.K W m)) : PE X (.UnaryOp .USub a pos) (tE X.K W fun env => bnd (bnd (m env) asInt) fun i => ret (.int (-i))) := by
  refine PE.imp (pe_un un_neg_S ha) fun σ H Q h => tUn_of (g := fun v => bnd (asInt v) fun i => ret (.int (-i))) ?_
  simp only [bnd_assoc] at h
  exact h
/-- a value that is asked for True or False, and what goes on -/
theorem tT_bnd {K : PySem.W.Frag} {m : Env → M Val} {γ δ : Type} {rel : Pl → Hp → γ → δ → Prop} {f : Env → Bool → M γ} {σ : L2.St} {H : Hp} {Q : δ → Hp → Prop} {R : Bool → Hp → Prop} (h : tG K rel W (fun env => bnd (bnd (m env) asBl) (f env)) σ H Q)
    (k : ∀ b H1, tG K rel W (fun env => f env b) σ H1 Q → R b H1) : tT K W m σ H R := by
  obtain ⟨ρ, env, st, rE, rS, p⟩ := h
  refine ⟨ρ, env, st, rE, rS, Post.bnd p fun b st1 ρ1 c H1 e1 s1 q1 p1 => ?_⟩
  have q1 : b = c := q1
  subst q1
  exact k b H1 ⟨ρ1, env, st1, rE.ext e1, s1, p1⟩
theorem tE_ret {K : PySem.W.Frag} {v : Val} {w : V} {σ : L2.St} {H : Hp} {Q : VK} (h : tE K W (fun _ => ret v) σ H Q) (r : ∀ ρ, Rep K ρ H v w) : Q w H := by
  obtain ⟨ρ, env, st, rE, rS, p⟩ := h
  exact Post.ret p rS (r _)
theorem tT_ret {K : PySem.W.Frag} {b : Bool} {σ : L2.St} {H : Hp} {Q : Bool → Hp → Prop} (h : tT K W (fun _ => ret (.bl b)) σ H Q) : Q b H := by
  obtain ⟨ρ, env, st, rE, rS, p⟩ := h
  exact p ρ b H (.refl _ _) rS rfl
theorem sim_not {a : Expr} {m : Env → M Val} {pos : Pos} (ha : PE X a (tE X.K W m)) : PE X (.UnaryOp .Not a pos) (tE X.K W fun env => bnd (bnd (m env) asBl) fun b => ret (.bl (!b))) := by
  refine PE.imp (pe_not ha) fun σ H Q h => ?_
  refine tT_of (tT_bnd h fun b H1 h1 => ?_)
  exact tE_ret h1 fun _ => .bl _
theorem sim_notT {a : Expr} {m : Env → M Val} {pos : Pos} (ha : PT X a (tT X.K W m)) : PT X (.UnaryOp .Not a pos) (tT X.K W fun env => bnd (bnd (m env) asBl) fun b => ret (.bl (!b))) := by
  refine PT.imp (pt_not ha) fun σ H Q h => ?_
  refine tT_bnd (rel := relB) (f := fun _ b => bnd (ret (.bl (!b))) asBl) ?_ fun b H1 h1 => tT_ret h1
  unfold tT at h
  simp only [bnd_assoc] at h ⊢
  exact h
theorem sim_cmp {op : CmpOp} {a b : Expr} {m1 m2 : Env → M Val} {pos : Pos} (hu : X.A.units + 100 < cLine) (ha : PE X a (tE X.K W m1)) (hb : PE X b (tE X.K W m2)) (hm : behindInMarks op b = false) :
    PE X (.Compare a [op] [b] pos) (tE X.K W fun env => bnd (m1 env) fun v => bnd (m2 env) fun w => gCmp op v w) ∧ PT X (.Compare a [op] [b] pos) (tT X.K W fun env => bnd (m1 env) fun v => bnd (m2 env) fun w => gCmp op v w) :=
  ⟨PE.imp (pe_cmpR (op_cmp_S hu op) ha hb hm) fun σ H Q h => tOp_of h, PT.imp (pt_cmpR (op_cmp_S hu op) ha hb hm) fun σ H Q h => tOp_of (tT_of h)⟩
theorem sim_chain {o1 o2 : CmpOp} {a b c : Expr} {m1 m2 m3 : Env → M Val} {pos : Pos} (hu : X.A.units + 100 < cLine) (ha : PE X a (tE X.K W m1)) (hb : PE X b (tE X.K W m2)) (hc : PE X c (tE X.K W m3)) (hm : behindInMarks o2 c = false) :
    PE X (.Compare a [o1, o2] [b, c] pos) (tE X.K W fun env => bnd (m1 env) fun v => bnd (m2 env) fun w => fun st => bnd (ofOpt (cmpOp st o1 v w)) (fun k =>
      if k = true then bnd (m3 env) fun u => fun st => bnd (ofOpt (cmpOp st o2 w u)) (fun b => ret (.bl b)) st else ret (.bl false)) st) ∧
    PT X (.Compare a [o1, o2] [b, c] pos) (tT X.K W fun env => bnd (m1 env) fun v => bnd (m2 env) fun w => fun st => bnd (ofOpt (cmpOp st o1 v w)) (fun k =>
      if k = true then bnd (m3 env) fun u => fun st => bnd (ofOpt (cmpOp st o2 w u)) (fun b => ret (.bl b)) st else ret (.bl false)) st) := by
  have key : ∀ σ H Q, tE X.K W (fun env => bnd (m1 env) fun v => bnd (m2 env) fun w => fun st => bnd (ofOpt (cmpOp st o1 v w)) (fun k =>
      if k = true then bnd (m3 env) fun u => fun st => bnd (ofOpt (cmpOp st o2 w u)) (fun b => ret (.bl b)) st else ret (.bl false)) st) σ H Q → tChain (rOp X.K (gCmp o1)) (rOp X.K (gCmp o2)) (tE X.K W m1) (tE X.K W m2) (tE X.K W m3) σ H Q := by
    intro σ H Q h
    obtain ⟨ρ, env, st, rE, rS, p⟩ := h
    refine ⟨ρ, env, st, rE, rS, Post.bnd p fun v st1 ρ1 x H1 e1 s1 q1 p1 => ?_⟩
    refine ⟨ρ1, env, st1, rE.ext e1, s1, Post.bnd p1 fun w st2 ρ2 y H2 e2 s2 q2 p2 => ?_⟩
    obtain ⟨k, ek, p3⟩ := Post.opt p2
    refine ⟨W, σ, ρ2, st2, v, w, s2, q1.ext e2, q2, ?_⟩
    show Post X.K (Rep X.K) W σ ρ2 H2 _ (bnd (ofOpt (cmpOp st2 o1 v w)) (fun b => ret (.bl b)) st2)
    rw [ek]
    intro ρ3 z H3 e3 s3 q3
    cases q3
    refine ⟨k, rfl, ?_⟩
    cases k with
    | false => exact Post.ret (Post.later p3 e3) s3 (.bl false)
    | true =>
      show tE X.K W m3 σ H3 _
      refine ⟨ρ3, env, st2, ((rE.ext e1).ext e2).ext e3, s3, Post.bnd (Post.later p3 e3) fun u st4 ρ4 z H4 e4 s4 q4 p4 => ?_⟩
      exact ⟨W, σ, ρ4, st4, w, u, s4, (q2.ext e3).ext e4, q4, p4⟩
  have hl : lastMarks [o1, o2] [b, c] = false := hm
  exact ⟨PE.imp (pe_chain (op_cmp_S hu o1) (op_cmp_S hu o2) ha hb hc hl) key, PT.imp (pt_chain (op_cmp_S hu o1) (op_cmp_S hu o2) ha hb hc hl) fun σ H Q h => key σ H _ (tT_of h)⟩
theorem sim_ife {c a b : Expr} {mc ma mb : Env → M Val} {pos : Pos} (hc : PT X c (tT X.K W mc)) (ha : PE X a (tE X.K W ma)) (hb : PE X b (tE X.K W mb)) :
    PE X (.IfExp c a b pos) (tE X.K W fun env => bnd (bnd (mc env) asBl) fun k => if k = true then ma env else mb env) := by
  refine PE.imp (pe_ifExp hc ha hb) fun σ H Q h => ?_
  refine tT_bnd h fun k H1 h1 => ?_
  cases k <;> exact h1
/-! ### argument lists -/
theorem sim_nil : PA X [] (tA X.K W fun _ => ret []) := by
  refine PA.imp pa_nil fun σ H Q h => ?_
  obtain ⟨ρ, env, st, rE, rS, p⟩ := h
  exact p ρ [] H (.refl _ _) rS .nil
theorem sim_cons {e : Expr} {es : List Expr} {m : Env → M Val} {ms : Env → M (List Val)} (he : PE X e (tE X.K W m)) (hs : PA X es (tA X.K W ms)) (hst : starEach (e :: es) X.env = (false, eval e X.env) :: starEach es X.env) :
    PA X (e :: es) (tA X.K W fun env => bnd (m env) fun v => bnd (ms env) fun vs => ret (v :: vs)) := by
  refine PA.imp (pa_cons he hs hst) fun σ H Q h => ?_
  obtain ⟨ρ, env, st, rE, rS, p⟩ := h
  refine ⟨ρ, env, st, rE, rS, Post.bnd p fun v st1 ρ1 x H1 e1 s1 q1 p1 => ?_⟩
  refine ⟨ρ1, env, st1, rE.ext e1, s1, Post.bnd p1 fun vs st2 ρ2 xs H2 e2 s2 q2 p2 => ?_⟩
  exact p2 ρ2 _ H2 (.refl _ _) s2 (.cons (q1.ext e2) q2)
theorem sim_tup {es : List Expr} {ms : Env → M (List Val)} {k : Nat} {pos : Pos} (h : PA X es (tA X.K W ms)) : PE X (.Tuple es k pos) (tE X.K W fun env => bnd (ms env) fun vs => if szOk vs.length = true then ret (.tup vs) else stuck) := by
  refine PE.imp (pe_tup h) fun σ H Q h => ?_
  obtain ⟨ρ, env, st, rE, rS, p⟩ := h
  refine ⟨ρ, env, st, rE, rS, Post.bnd p fun vs st1 ρ1 xs H1 e1 s1 q1 p1 => ?_⟩
  split at p1
  · rename_i hz
    exact ⟨by rw [← q1.length]; exact of_decide_eq_true hz, post_t p1 s1 q1⟩
  · exact p1.elim
theorem sim_lst {es : List Expr} {ms : Env → M (List Val)} {new : Bool} {pos : Pos} (h : PA X es (tA X.K W ms)) : PE X (.List es pos) (tE X.K W fun env => bnd (ms env) fun vs => if szOk vs.length = true then mk new (.l vs) else stuck) := by
  refine PE.imp (pe_lst h) fun σ H Q h => ?_
  obtain ⟨ρ, env, st, rE, rS, p⟩ := h
  refine ⟨ρ, env, st, rE, rS, Post.bnd p fun vs st1 ρ1 xs H1 e1 s1 q1 p1 => ?_⟩
  split at p1
  · rename_i hz
    exact ⟨by rw [← q1.length]; exact of_decide_eq_true hz, post_l p1 s1 q1⟩
  · exact p1.elim
theorem sim_ix {a b : Expr} {m1 m2 : Env → M Val} {pos : Pos} (hu : X.A.units + 100 < cLine) (ha : PE X a (tE X.K W m1)) (hb : PE X b (tE X.K W m2)) (hs : PlainIx b) :
    PE X (.Subscript a b pos) (tE X.K W fun env => bnd (m1 env) fun v => bnd (m2 env) fun w => fun st => bnd (ofOpt (ixOp st v w)) ret st) :=
  PE.imp (pe_ix (ix_S hu) ha hb hs) fun σ H Q h => tOp_of h
theorem sim_sl {a : Expr} {lo hi : Option Expr} {new : Bool} {m : Env → M Val} {ml mh : Env → M (Option Int)} {pos p2 : Pos} (ha : PE X a (tE X.K W m)) (hl : PO X lo (tG X.K relO W ml)) (hh : PO X hi (tG X.K relO W mh)) :
    PE X (.Subscript a (.Slice lo hi none p2) pos) (tE X.K W fun env => bnd (m env) fun v => bnd (ml env) fun l => bnd (mh env) fun h => fun st => bnd (ofOpt (slOp st v l h)) (mk new) st) := by
  refine PE.imp (pe_slice (sl_S (new := new)) ha hl hh) fun σ H Q h => ?_
  obtain ⟨ρ, env, st, rE, rS, p⟩ := h
  refine ⟨ρ, env, st, rE, rS, Post.bnd p fun v st1 ρ1 x H1 e1 s1 q1 p1 => ?_⟩
  refine ⟨ρ1, env, st1, rE.ext e1, s1, Post.bnd p1 fun l st2 ρ2 l' H2 e2 s2 q2 p2 => ?_⟩
  have q2 : l = l' := q2
  subst q2
  refine ⟨ρ2, env, st2, (rE.ext e1).ext e2, s2, Post.bnd p2 fun u st3 ρ3 u' H3 e3 s3 q3 p3 => ?_⟩
  have q3 : u = u' := q3
  subst q3
  exact ⟨W, σ, ρ3, st3, v, s3, (q1.ext e2).ext e3, p3⟩
theorem sim_rev {a : Expr} {new : Bool} {m : Env → M Val} {k : Nat} {p1 p2 p3 pos : Pos} (ha : PE X a (tE X.K W m)) :
    PE X (.Subscript a (.Slice none none (some (.UnaryOp .USub (.Constant (.int 1) k p1) p2)) p3) pos) (tE X.K W fun env => bnd (m env) fun v => fun st => bnd (ofOpt (revOp st v)) (mk new) st) := by
  refine PE.imp (pe_rev ha) fun σ H Q h => ?_
  obtain ⟨ρ, env, st, rE, rS, p⟩ := h
  refine ⟨ρ, env, st, rE, rS, Post.bnd p fun v st1 ρ1 x H1 e1 s1 q1 p1 => ?_⟩
  obtain ⟨c, e, p2⟩ := Post.opt p1
  clear p1
  unfold revOp at e
  split at e
  · cases e
    cases q1 with
    | @tup a1 ws vs ta qa => exact ⟨a1, ws, rfl, .inr ⟨ta.sq, post_t p2 s1 qa.reverse⟩⟩
  · obtain ⟨xs, e1, rfl⟩ := Option.map_eq_some_iff.mp e
    obtain ⟨a1, ws, rfl, h1, q2⟩ := q1.lstOf s1 e1
    exact ⟨a1, ws, rfl, .inl ⟨.of h1, post_l p2 s1 q2.reverse⟩⟩
theorem sim_oNone : PO X none (tG X.K relO W fun _ => ret none) := by
  refine ⟨fun pins s σ H Q I h => po_none.run pins s σ H Q I ?_⟩
  obtain ⟨ρ, env, st, rE, rS, p⟩ := h
  exact p ρ none H (.refl _ _) rS rfl
theorem sim_oSome {e : Expr} {m : Env → M Val} (he : PE X e (tE X.K W m)) : PO X (some e) (tG X.K relO W fun env => bnd (bnd (m env) asInt) fun i => ret (some i)) := by
  refine ⟨fun pins s σ H Q I h => (po_some he).run pins s σ H Q I ?_⟩
  obtain ⟨ρ, env, st, rE, rS, p⟩ := h
  dsimp only at p
  rw [bnd_assoc] at p
  refine ⟨ρ, env, st, rE, rS, Post.bnd p fun v st1 ρ1 x H1 e1 s1 q1 p1 => ?_⟩
  obtain ⟨i, rfl, p2⟩ := Post.asInt p1
  cases q1
  exact ⟨i, rfl, p2 ρ1 (some i) H1 (.refl _ _) s1 rfl⟩
/-! ### calls -/
theorem noStar {pos : Pos} : ∀ {es : List Expr}, (∀ e ∈ es, okHead e = true) → (backTo pos (starEach es X.env)).any (·.1) = false
  | [], _ => rfl
  | e :: es, h => by
    rw [head_star (h e (by simp))]
    show (false || (backTo pos (starEach es X.env)).any (·.1)) = false
    rw [noStar fun x hx => h x (by simp [hx])]; rfl
theorem tA_bnd {K : PySem.W.Frag} {ms : Env → M (List Val)} {f : List Val → M Val} {σ : L2.St} {H : Hp} {Q : VK} {R : List V → Hp → Prop} (h : tE K W (fun env => bnd (ms env) f) σ H Q)
    (k : ∀ ρ st vs xs H1, RelS K ρ st H1 → RepL K ρ H1 vs xs → Post K (Rep K) W σ ρ H1 Q (f vs st) → R xs H1) : tA K W ms σ H R := by
  obtain ⟨ρ, env, st, rE, rS, p⟩ := h
  exact ⟨ρ, env, st, rE, rS, Post.bnd p fun vs st1 ρ1 xs H1 e1 s1 q1 p1 => k ρ1 st1 vs xs H1 s1 q1 p1⟩
theorem sim_call {f : Str} {m : Md} {es : List Expr} {ms : Env → M (List Val)} {p pos : Pos} (D : DefOk X n C f) (hr : Room (2 * n + 1) X.A) (hg : Gl X f) (hd : noDbg f = true) (tk : Takes X W) (ha : PA X es (tA X.K W ms)) (hok : ∀ e ∈ es, okHead e = true) (hne : es ≠ []) :
    PE X (.Call (.Name f p) es [] pos) (tE X.K W fun env => bnd (ms env) fun vs => inMd m (C f vs)) := by
  obtain ⟨fa, fd, ps, F, hm, hk, hb⟩ := D
  have key : ∀ σ H Q, tE X.K W (fun env => bnd (ms env) fun vs => inMd m (C f vs)) σ H Q → tCallS (spOf X.K C f) (WE W) (tA X.K W ms) σ H Q := by
    intro σ H Q h
    refine tA_bnd h fun ρ st vs xs H1 rS q p => ?_
    refine ⟨ρ, st, vs, rS, q, ?_⟩
    cases m with
    | raw => exact p
    | cut => exact Post.cut rS p
    | keep => exact Post.keep rS p
  cases es with
  | nil =>
    exact absurd rfl hne
  | cons e es =>
    refine PE.imp (pe_callS F (hr.mono (Nat.le_succ _)) hg hm hk hb (fun σ => passAt tk σ) ha (dbg1 hd).1 (head_star (hok e (by simp)) es X.env) (noStar fun x hx => hok x (by simp [hx]))) key

theorem sim_bi {b : Bi} {new : Bool} {es : List Expr} {ms : Env → M (List Val)} {p pos : Pos} (hu : X.A.units + 100 < cLine) (hc : X.calm = true) (hg : Gl X (biName b)) (hm : X.mg (biName b) = none) (ha : PA X es (tA X.K W ms)) (hok : ∀ e ∈ es, okHead e = true) (hne : es ≠ []) :
    PE X (.Call (.Name (biName b) p) es [] pos) (tE X.K W fun env => bnd (ms env) fun vs => fun st => bnd (ofOpt (biOp st b vs)) (mk new) st) := by
  cases es with
  | nil => exact absurd rfl hne
  | cons e es =>
    have hst := head_star (hok e (by simp)) es X.env
    have hns : (backTo pos (starEach es X.env)).any (·.1) = false := noStar fun x hx => hok x (by simp [hx])
    have fin : ∀ {o : Store → List Val → Option Val} {σ : L2.St} {H : Hp} {Q : VK}, tE X.K W (fun env => bnd (ms env) fun vs => fun st => bnd (ofOpt ((o st vs).map Pv.v)) (mk new) st) σ H Q → tCB (rCall X.K fun vs st => bnd (ofOpt (o st vs)) ret st) (tA X.K W ms) σ H Q := by
      intro o σ H Q h
      refine tA_bnd h fun ρ st vs xs H1 rS q p => ⟨W, σ, ρ, st, vs, rS, q, ?_⟩
      show Post X.K (Rep X.K) W σ ρ H1 Q (bnd (ofOpt (o st vs)) ret st)
      cases e : o st vs with
      | none => rw [e] at p; exact p
      | some v => rw [e] at p; exact p
    cases b with
    | len => exact PE.imp (pe_callB bi_len hg hm PySem.boot_len ha (by decide) (by decide) hst hns) fun σ H Q h => fin (o := biLen) h
    | max => exact PE.imp (pe_callB (bi_max hc) hg hm (by decide +kernel) ha (by decide) (by decide) hst hns) fun σ H Q h => fin (o := biMax) h
    | min => exact PE.imp (pe_callB (bi_min hc) hg hm (by decide +kernel) ha (by decide) (by decide) hst hns) fun σ H Q h => fin (o := biMin) h
    | all => exact PE.imp (pe_callB (bi_all hc) hg hm (by decide +kernel) ha (by decide) (by decide) hst hns) fun σ H Q h => fin (o := biAll) h
    | any => exact PE.imp (pe_callB (bi_any hc) hg hm (by decide +kernel) ha (by decide) (by decide) hst hns) fun σ H Q h => fin (o := biAny) h
    | tuple => exact PE.imp (pe_callTy bi_tuple hg hm (by decide +kernel) ha (by decide) (by decide) hst hns) fun σ H Q h => fin (o := biTuple) h
    | int => exact PE.imp (pe_callTy bi_int hg hm (by decide +kernel) ha (by decide) (by decide) hst hns) fun σ H Q h => fin (o := fun _ => biInt) h
    | list =>
      refine PE.imp (pe_callTy (bi_list (new := new) hc) hg hm (by decide +kernel) ha (by decide) (by decide) hst hns) fun σ H Q h => ?_
      exact tA_bnd h fun ρ st vs xs H1 rS q p => ⟨W, σ, ρ, st, vs, rS, q, p⟩
    | sorted =>
      refine PE.imp (pe_callB (bi_sorted (new := new) hc) hg hm (by decide +kernel) ha (by decide) (by decide) hst hns) fun σ H Q h => ?_
      exact tA_bnd h fun ρ st vs xs H1 rS q p => ⟨W, σ, ρ, st, vs, rS, q, p⟩
    | dict =>
      refine PE.imp (pe_callTy (bi_dict (new := new) hc hu) hg hm (by decide +kernel) ha (by decide) (by decide) hst hns) fun σ H Q h => ?_
      exact tA_bnd h fun ρ st vs xs H1 rS q p => ⟨W, σ, ρ, st, vs, rS, q, p⟩
    | minD => exact PE.imp (pe_callB (bi_minD hc hu) hg hm (by decide +kernel) ha (by decide) (by decide) hst hns) fun σ H Q h => fin (o := biMinD) h
    | sortD =>
      refine PE.imp (pe_callB (bi_sortD (new := new) hu) hg hm (by decide +kernel) ha (by decide) (by decide) hst hns) fun σ H Q h => ?_
      exact tA_bnd h fun ρ st vs xs H1 rS q p => ⟨W, σ, ρ, st, vs, rS, q, p⟩
    | str => exact PE.imp (pe_callTy bi_str hg hm (by decide +kernel) ha (by decide) (by decide) hst hns) fun σ H Q h => fin (o := fun _ => biStr) h
theorem allStar {pos : Pos} : ∀ {es : List Expr}, (∀ e ∈ es, okHead e = true) → (backTo pos (starEach es X.env)).all (fun x => !x.1) = true
  | [], _ => rfl
  | e :: es, h => by
    rw [head_star (h e (by simp))]
    show (true && (backTo pos (starEach es X.env)).all (fun x => !x.1)) = true
    rw [allStar fun x hx => h x (by simp [hx])]; rfl
theorem sim_mth {m : Mt} {new : Bool} {o : Expr} {es : List Expr} {mo : Env → M Val} {ms : Env → M (List Val)} {apos cpos : Pos} (hu : X.A.units + 100 < cLine) (ho : PE X o (tE X.K W mo)) (hb : plainBase o = true) (ha : PA X es (tA X.K W ms)) (hok : ∀ e ∈ es, okHead e = true) (hline : (apos.endLine == cpos.line) = true) (hlen : es.length < 30) (hnil : es = [] → ∀ env, ms env = ret []) :
    PE X (.Call (.Attribute o (mtName m : Str) apos) es [] cpos) (tE X.K W fun env => bnd (mo env) fun v => fun st => if tyOk m st v = true then bnd (ms env) (fun vs => mtOp new m v vs) st else .stuck) := by
  have facts : PlainAttrs (mtTy m) ∧ Slot (mtTy m) (mtName m : Str) (mtId m) ∧ typeOf (.builtin (mtId m)) = pure (.type "method_descriptor") := by
    cases m with
    | append => exact ⟨PySem.F.plainAttrs_list, PySem.F.slot_list_append, PySem.F.type_list_append⟩
    | extend => exact ⟨PySem.F.plainAttrs_list, PySem.F.slot_list_extend, PySem.F.type_list_extend⟩
    | pop => exact ⟨PySem.F.plainAttrs_list, PySem.F.slot_list_pop, PySem.F.type_list_pop⟩
    | clear => exact ⟨PySem.F.plainAttrs_list, PySem.F.slot_list_clear, PySem.F.type_list_clear⟩
    | insert => exact ⟨PySem.F.plainAttrs_list, PySem.F.slot_list_insert, PySem.F.type_list_insert⟩
    | join => exact ⟨PySem.F.plainAttrs_str, PySem.F.slot_str_join, PySem.F.type_str_join⟩
    | split => exact ⟨PySem.F.plainAttrs_str, PySem.F.slot_str_split, PySem.F.type_str_split⟩
    | sindex => exact ⟨PySem.F.plainAttrs_str, PySem.F.slot_str_index, PySem.F.type_str_index⟩
    | dget => exact ⟨PySem.F.plainAttrs_dict, PySem.F.slot_dict_get, PySem.F.type_dict_get⟩
    | dpop => exact ⟨PySem.F.plainAttrs_dict, PySem.F.slot_dict_pop, PySem.F.type_dict_pop⟩
    | lindex => exact ⟨PySem.F.plainAttrs_list, PySem.F.slot_list_index, PySem.F.type_list_index⟩
  have hbase := head_base hb (mtName m : Str) X.env (eval o X.env)
  cases es with
  | nil =>
    refine PE.imp (pe_bm0 facts.1 facts.2.1 facts.2.2 (mt_S (new := new) hu) ho hbase hline) fun σ H Q h => ?_
    obtain ⟨ρ, env, st, rE, rS, p⟩ := h
    refine ⟨ρ, env, st, rE, rS, Post.bnd p fun v st1 ρ1 x H1 e1 s1 q1 p1 => ?_⟩
    split at p1
    · rename_i ht
      refine ⟨ty_S s1 q1 ht, ?_⟩
      rw [hnil rfl env] at p1
      exact ⟨W, σ, ρ1, st1, v, [], s1, q1, .nil, p1⟩
    · exact p1.elim
  | cons e es =>
    have hst := head_star (hok e (by simp)) es X.env
    have hns : (backTo cpos (starEach es X.env)).any (·.1) = false := noStar fun x hx => hok x (by simp [hx])
    have hfew : ((backTo cpos (starEach (e :: es) X.env)).all (fun x => !x.1) && (backToKw cpos (keywordEach [] X.env)).all (fun x => x.1.isSome) && decide ((e :: es).length + ([] : List Keyword).length + (if ([] : List Keyword).isEmpty then 0 else 1) < 30)) = true := by
      rw [allStar hok]
      show (true && true && decide (es.length + 1 < 30)) = true
      rw [decide_eq_true (show es.length + 1 < 30 from hlen)]
      rfl
    refine PE.imp (pe_bm facts.1 facts.2.1 facts.2.2 (mt_S (new := new) hu) ho ha hbase hfew hline hst hns) fun σ H Q h => ?_
    obtain ⟨ρ, env, st, rE, rS, p⟩ := h
    refine ⟨ρ, env, st, rE, rS, Post.bnd p fun v st1 ρ1 x H1 e1 s1 q1 p1 => ?_⟩
    split at p1
    · rename_i ht
      refine ⟨ty_S s1 q1 ht, ?_⟩
      exact ⟨ρ1, env, st1, rE.ext e1, s1, Post.bnd p1 fun vs st2 ρ2 xs H2 e2 s2 q2 p2 => ⟨W, σ, ρ2, st2, v, vs, s2, q1.ext e2, q2, p2⟩⟩
    · exact p1.elim
theorem kd_boot (k : Kd) : bootBuiltins (kdName k : Str) = some (.type (kdName k)) := by
  cases k <;> decide +kernel
theorem sim_isin {k : Kd} {e : Expr} {m : Env → M Val} {p q pos : Pos} (hg : Gl X "isinstance") (hm : X.mg "isinstance" = none) (hgk : Gl X (kdName k : Str)) (hmk : X.mg (kdName k : Str) = none) (hd : noDbg (kdName k : Str) = true) (he : PE X e (tE X.K W m)) (hok : okHead e = true) :
    PE X (.Call (.Name "isinstance" p) [e, .Name (kdName k : Str) q] [] pos) (tE X.K W fun env => bnd (m env) fun v => fun st => bnd (ofOpt (isinOp st v k)) (fun b => ret (.bl b)) st) := by
  have hk : PE X (.Name (kdName k : Str) q) (tC (.ty (kdName k))) := pe_bltn hgk hmk (kd_boot k) rfl (dbg1 hd).2.2 (dbg1 hd).1
  have hst := head_star hok [.Name (kdName k : Str) q] X.env
  refine PE.imp (pe_callB (isin_S (k := k)) hg hm (by decide +kernel) (pa_cons he (pa_cons hk pa_nil rfl) hst) (by decide) (by decide) hst rfl) fun σ H Q h => ?_
  obtain ⟨ρ, env, st, rE, rS, p⟩ := h
  refine ⟨ρ, env, st, rE, rS, Post.bnd p fun v st1 ρ1 x H1 e1 s1 q1 p1 => ?_⟩
  exact ⟨x, rfl, W, σ, ρ1, st1, v, s1, q1, p1⟩
theorem Post.asStr {K : PySem.W.Frag} {W : WX} {σ : L2.St} {ρ : Pl} {H : Hp} {Q : VK} {v : Val} {f : Str → M Val} {st : Store} (h : Post K (Rep K) W σ ρ H Q (Rc.bnd (Rc.asStr v) f st)) : ∃ b, v = .str b ∧ Post K (Rep K) W σ ρ H Q (f b st) := by
  cases v <;> first | exact h.elim | exact ⟨_, rfl, h⟩
theorem inV_strs (z : Str) : ∀ ss : List Str, inV (.str z) (ss.map V.str) = ss.contains z
  | [] => rfl
  | y :: ss => by
    have ih := inV_strs z ss
    unfold inV at ih ⊢
    rw [List.map_cons, List.any_cons, ih, List.contains_cons]
    congr 1
    show (y == z) = (z == y)
    rw [Bool.eq_iff_iff, beq_iff_eq, beq_iff_eq]
    exact ⟨Eq.symm, Eq.symm⟩
theorem flat_strs (ss : List Str) : (ss.map V.str).all flatV = true := by
  rw [List.all_map]
  exact List.all_eq_true.mpr fun _ _ => rfl
theorem inOp_of {neg : Bool} {o : CmpOp} (h : inOp neg o = true) : o = if neg then .NotIn else .In := of_decide_eq_true h
theorem sim_gin {neg : Bool} {o : CmpOp} {l : Expr} {x : Str} {ss : List Str} {m : Env → M Val} {p pos : Pos} (ho : inOp neg o = true) (T : TupsOk X x ss) (hg : Gl X x) (hd : noDbg x = true) (hl : PE X l (tE X.K W m)) :
    PE X (.Compare l [o] [.Name x p] pos) (tE X.K W fun env => bnd (bnd (m env) Rc.asStr) fun z => ret (.bl (neg != ss.contains z))) ∧ PT X (.Compare l [o] [.Name x p] pos) (tT X.K W fun env => bnd (bnd (m env) Rc.asStr) fun z => ret (.bl (neg != ss.contains z))) := by
  obtain ⟨a, hm, hS⟩ := T
  have ho := inOp_of ho
  have hx : PE X (.Name x p) (tC (.ref a)) := pe_glob hg hm rfl (dbg1 hd).1
  have key : ∀ σ H Q, tE X.K W (fun env => bnd (bnd (m env) Rc.asStr) fun z => ret (.bl (neg != ss.contains z))) σ H Q → tOp (rIn X.K neg) (tE X.K W m) (tC (.ref a)) σ H Q := by
    intro σ H Q h
    obtain ⟨ρ, env, st, rE, rS, p⟩ := h
    dsimp only at p
    rw [bnd_assoc] at p
    refine ⟨ρ, env, st, rE, rS, Post.bnd p fun v st1 ρ1 y H1 e1 s1 q1 p1 => ?_⟩
    obtain ⟨z, rfl, p1a⟩ := Post.asStr p1
    cases q1
    refine ⟨a, _, rfl, .inr (hS H1), rfl, flat_strs ss, ?_⟩
    have := Post.ret p1a s1 (.bl _)
    rw [inV_strs]
    cases neg <;> simpa using this
  cases neg with
  | false =>
    subst ho
    exact ⟨PE.imp (pe_cmpR op_in_seq hl hx rfl) key, PT.imp (pt_cmpR op_in_seq hl hx rfl) fun σ H Q h => key σ H _ (tT_of h)⟩
  | true =>
    subst ho
    exact ⟨PE.imp (pe_cmpR op_notIn_seq hl hx rfl) key, PT.imp (pt_cmpR op_notIn_seq hl hx rfl) fun σ H Q h => key σ H _ (tT_of h)⟩
theorem sim_gdin {neg : Bool} {o : CmpOp} {l : Expr} {x : Str} {kvs : List (Str × Int)} {m : Env → M Val} {p pos : Pos} (ho : inOp neg o = true) (T : DicsOk X x kvs) (hg : Gl X x) (hd : noDbg x = true) (hl : PE X l (tE X.K W m)) :
    PE X (.Compare l [o] [.Name x p] pos) (tE X.K W fun env => bnd (bnd (m env) Rc.asStr) fun z => ret (.bl (neg != (kvs.lookup z).isSome))) ∧ PT X (.Compare l [o] [.Name x p] pos) (tT X.K W fun env => bnd (bnd (m env) Rc.asStr) fun z => ret (.bl (neg != (kvs.lookup z).isSome))) := by
  obtain ⟨a, es, n, hm, hK, hv⟩ := T
  have ho := inOp_of ho
  have hx : PE X (.Name x p) (tC (.ref a)) := pe_glob hg hm rfl (dbg1 hd).1
  have key : ∀ σ H Q, tE X.K W (fun env => bnd (bnd (m env) Rc.asStr) fun z => ret (.bl (neg != (kvs.lookup z).isSome))) σ H Q → tOp (fun x y H Q => ∃ (z : Str) (r : Option Value), x = .str z ∧ y = .ref a ∧ PySem.W.nsIn X.K a z = some r ∧ Q (.bl (neg != r.isSome)) H) (tE X.K W m) (tC (.ref a)) σ H Q := by
    intro σ H Q h
    obtain ⟨ρ, env, st, rE, rS, p⟩ := h
    dsimp only at p
    rw [bnd_assoc] at p
    refine ⟨ρ, env, st, rE, rS, Post.bnd p fun v st1 ρ1 y H1 e1 s1 q1 p1 => ?_⟩
    obtain ⟨z, rfl, p1a⟩ := Post.asStr p1
    cases q1
    have hq := Post.ret p1a s1 (.bl _)
    have hz := hv z
    cases e : kvs.lookup z with
    | none =>
      rw [e] at hz hq
      exact ⟨z, none, rfl, rfl, hz, hq⟩
    | some i =>
      rw [e] at hz hq
      obtain ⟨t, hz⟩ := hz
      exact ⟨z, _, rfl, rfl, hz, hq⟩
  have imp : ∀ {f g : Option Value → Bool}, (∀ r, f r = g r) → ∀ {H : Hp} {Q : VK} {x y : V}, (∃ (z : Str) (r : Option Value), x = .str z ∧ y = .ref a ∧ PySem.W.nsIn X.K a z = some r ∧ Q (.bl (f r)) H) → ∃ (z : Str) (r : Option Value), x = .str z ∧ y = .ref a ∧ PySem.W.nsIn X.K a z = some r ∧ Q (.bl (g r)) H := by
    rintro f g hfg H Q x y ⟨z, r, h1, h2, h3, h4⟩
    exact ⟨z, r, h1, h2, h3, by rw [← hfg]; exact h4⟩
  cases neg with
  | false =>
    subst ho
    exact ⟨PE.imp (pe_cmpR (r := fun x y H Q => ∃ (z : Str) (r : Option Value), x = .str z ∧ y = .ref a ∧ PySem.W.nsIn X.K a z = some r ∧ Q (.bl (false != r.isSome)) H) (fun pins s σ H x y v u Q I rx ry h => op_in_kd hK pins s σ H x y v u Q I rx ry (imp (fun r => by simp) h)) hl hx rfl) key, PT.imp (pt_cmpR (r := fun x y H Q => ∃ (z : Str) (r : Option Value), x = .str z ∧ y = .ref a ∧ PySem.W.nsIn X.K a z = some r ∧ Q (.bl (false != r.isSome)) H) (fun pins s σ H x y v u Q I rx ry h => op_in_kd hK pins s σ H x y v u Q I rx ry (imp (fun r => by simp) h)) hl hx rfl) fun σ H Q h => key σ H _ (tT_of h)⟩
  | true =>
    subst ho
    exact ⟨PE.imp (pe_cmpR (r := fun x y H Q => ∃ (z : Str) (r : Option Value), x = .str z ∧ y = .ref a ∧ PySem.W.nsIn X.K a z = some r ∧ Q (.bl (true != r.isSome)) H) (fun pins s σ H x y v u Q I rx ry h => op_notIn_kd hK pins s σ H x y v u Q I rx ry (imp (fun r => by simp) h)) hl hx rfl) key, PT.imp (pt_cmpR (r := fun x y H Q => ∃ (z : Str) (r : Option Value), x = .str z ∧ y = .ref a ∧ PySem.W.nsIn X.K a z = some r ∧ Q (.bl (true != r.isSome)) H) (fun pins s σ H x y v u Q I rx ry h => op_notIn_kd hK pins s σ H x y v u Q I rx ry (imp (fun r => by simp) h)) hl hx rfl) fun σ H Q h => key σ H _ (tT_of h)⟩
theorem sim_gdix {l : Expr} {x : Str} {kvs : List (Str × Int)} {m : Env → M Val} {p pos : Pos} (T : DicsOk X x kvs) (hg : Gl X x) (hd : noDbg x = true) (hl : PE X l (tE X.K W m)) (hs : PlainIx l) :
    PE X (.Subscript (.Name x p) l pos) (tE X.K W fun env => bnd (bnd (m env) Rc.asStr) fun z => bnd (ofOpt (kvs.lookup z)) fun i => ret (.int i)) := by
  obtain ⟨a, es, n, hm, hK, hv⟩ := T
  have hx : PE X (.Name x p) (tC (.ref a)) := pe_glob hg hm rfl (dbg1 hd).1
  have hix : IxR X (fun x y H Q => ∃ (z : Str) (u0 : Value) (v0 : V), x = .ref a ∧ y = .str z ∧ PySem.W.nsIn X.K a z = some (some u0) ∧ RelV v0 u0 ∧ Q v0 H) := by
    intro value slice pins s σ H x y v u Q I rx ry h hs
    obtain ⟨z, u0, v0, rfl, rfl, h3, h4, h5⟩ := h
    cases rx
    exact PyProof.Rows.tail_any (kd_type hK I) PySem.F.slot_dict_getitem.lookup (op_item_kd hK pins s σ H (.ref a) (.str z) _ u Q I rfl ry ⟨z, u0, v0, rfl, rfl, h3, h4, h5⟩) hs
  refine PE.imp (pe_ix hix hx hl hs) fun σ H Q h => ?_
  obtain ⟨ρ, env, st, rE, rS, p⟩ := h
  dsimp only at p
  rw [bnd_assoc] at p
  refine ⟨ρ, env, st, rE, rS, Post.bnd p fun v st1 ρ1 y H1 e1 s1 q1 p1 => ?_⟩
  obtain ⟨z, rfl, p1a⟩ := Post.asStr p1
  cases q1
  obtain ⟨i, ei, p2⟩ := Post.opt p1a
  have hz := hv z
  rw [ei] at hz
  obtain ⟨t, hz⟩ := hz
  exact ⟨z, _, .int i, rfl, rfl, hz, ⟨t, rfl⟩, Post.ret p2 s1 (.int i)⟩
theorem rg_rep {K : PySem.W.Frag} {ρ : Pl} {H : Hp} (i j : Int) : RepL K ρ H (rangeV i j) (rgV i j) := by
  unfold rangeV rgV
  generalize List.range (j - i).toNat = l
  induction l with
  | nil => exact .nil
  | cons a l ih => exact .cons (.int _) ih
theorem sim_lrange {new : Bool} {a b : Expr} {m1 m2 : Env → M Val} {p q pos pos2 : Pos} (hc : X.calm = true) (hg : Gl X "list") (hm : X.mg "list" = none) (hgr : Gl X "range") (hmr : X.mg "range" = none) (ha : PE X a (tE X.K W m1)) (hb : PE X b (tE X.K W m2)) (oa : okHead a = true) (ob : okHead b = true) :
    PE X (.Call (.Name "list" p) [.Call (.Name "range" q) [a, b] [] pos2] [] pos) (tE X.K W fun env => bnd (bnd (m1 env) asInt) fun i => bnd (bnd (m2 env) asInt) fun j => if rngOk i j = true then mk new (.l (rangeV i j)) else stuck) := by
  have hr : PRg X (.Call (.Name "range" q) [a, b] [] pos2) (tRg2 (tE X.K W m1) (tE X.K W m2)) := prg_2 hgr hmr ha hb (head_star oa [b] X.env) (head_star ob [] X.env) (noStar fun x hx => by simp at hx; subst hx; exact ob)
  refine PE.imp (pe_listRg hc hg hm hr rfl) fun σ H Q h => ?_
  obtain ⟨ρ, env, st, rE, rS, p⟩ := h
  dsimp only at p
  rw [bnd_assoc] at p
  refine ⟨ρ, env, st, rE, rS, Post.bnd p fun v st1 ρ1 x H1 e1 s1 q1 p1 => ?_⟩
  obtain ⟨i, rfl, p1a⟩ := Post.asInt p1
  cases q1
  rw [bnd_assoc] at p1a
  refine ⟨ρ1, env, st1, rE.ext e1, s1, Post.bnd p1a fun v st2 ρ2 x H2 e2 s2 q2 p2 => ?_⟩
  obtain ⟨j, rfl, p2a⟩ := Post.asInt p2
  cases q2
  split at p2a
  · rename_i hr
    obtain ⟨h1, h2, h3, h4, h5⟩ := rngOk_of hr
    exact ⟨i, j, rfl, rfl, ⟨h1, h2, h3, h4, h5⟩, post_l p2a s2 (rg_rep i j)⟩
  · exact p2a.elim
theorem sim_lrange1 {new : Bool} {a : Expr} {m1 : Env → M Val} {p q pos pos2 : Pos} (hc : X.calm = true) (hg : Gl X "list") (hm : X.mg "list" = none) (hgr : Gl X "range") (hmr : X.mg "range" = none) (ha : PE X a (tE X.K W m1)) (oa : okHead a = true) :
    PE X (.Call (.Name "list" p) [.Call (.Name "range" q) [a] [] pos2] [] pos) (tE X.K W fun env => bnd (bnd (m1 env) asInt) fun j => if rngOk 0 j = true then mk new (.l (rangeV 0 j)) else stuck) := by
  have hr : PRg X (.Call (.Name "range" q) [a] [] pos2) (tRg1 (tE X.K W m1)) := prg_1 hgr hmr ha (head_star oa [] X.env)
  refine PE.imp (pe_listRg hc hg hm hr rfl) fun σ H Q h => ?_
  obtain ⟨ρ, env, st, rE, rS, p⟩ := h
  dsimp only at p
  rw [bnd_assoc] at p
  refine ⟨ρ, env, st, rE, rS, Post.bnd p fun v st1 ρ1 x H1 e1 s1 q1 p1 => ?_⟩
  obtain ⟨i, rfl, p1a⟩ := Post.asInt p1
  cases q1
  split at p1a
  · rename_i hr
    obtain ⟨h1, h2, h3, h4, h5⟩ := rngOk_of hr
    exact ⟨i, rfl, ⟨h1, h2, h3, h4, h5⟩, post_l p1a s1 (rg_rep 0 i)⟩
  · exact p1a.elim
/-! ### len(set(xs)) -/
theorem dd_fold : ∀ (ns acc : List Int), ns.foldl PyProof.Rows.step_dedup acc = ddS acc ns
  | [], acc => rfl
  | n :: ns, acc => by
    rw [List.foldl_cons, ddS, dd_fold ns]
    unfold PyProof.Rows.step_dedup
    rfl
theorem dd_met (ns : List Int) : PyProof.Rows.firstMet (fun i => ns.getD i 0) ns.length = ddS [] ns := by
  unfold PyProof.Rows.firstMet
  have e : (List.range ns.length).map (fun i => ns.getD i 0) = ns := by
    refine List.ext_getElem (by simp) fun i h1 h2 => ?_
    simp [List.getElem?_eq_getElem h2]
  rw [e, dd_fold]
def tLenSetI (K : PySem.W.Frag) (ta : TE) : TE := fun σ H Q => ta σ H fun x H1 => ∃ (l : Addr) (ns : List Int), x = .ref l ∧ SqL K H1 l (ns.map V.int) ∧ ns.length < 4000 ∧ Q (.int ((ddS [] ns).length : Nat)) H1
open PySem.Spec PyProof.Rows in
theorem pe_lenSetI {X : Cx} {a : Expr} {ta : TE} {p p2 q pos : Pos} (hc : X.calm = true) (hg : Gl X "len") (hm : X.mg "len" = none) (hg2 : Gl X "set") (hm2 : X.mg "set" = none) (ha : PE X a ta)
    (na : starEach [a] X.env = (false, eval a X.env) :: starEach [] X.env) : PE X (.Call (.Name "len" p) [.Call (.Name "set" p2) [a] [] q] [] pos) (tLenSetI X.K ta) := by
  refine ⟨fun pins s σ H Q I h => ?_⟩
  refine Call_ (ld_blt I hg hm boot_len ?_)
  refine PyProof.Rows.callWith_builtin1 (PyProof.Rows.args_cons ?_ rfl) rfl rfl
  refine Call_ (ld_blt I hg2 hm2 boot_set ?_)
  refine PyProof.Rows.callWith_type1 (PyProof.Rows.args_cons (thn (ha.run pins s σ H _ I h) fun v s1 ⟨x, H1, I1, r1, q1⟩ => PyProof.Rows.args_nil ?_) na) na rfl
  obtain ⟨l, ns, rfl, hq, h1, q1⟩ := q1
  cases r1
  obtain ⟨its, r, pl, hz⟩ := I1.list hq
  have hsz : its.toArray.size = ns.length := by rw [List.size_toArray, ← r.length, List.length_map]
  refine call_set_list (I1.ok.hd hc) pl.isList (by simpa using r.ints) (by rw [hsz]; show _ < 4096; omega) fun h' tk hS hk => ?_
  rw [hsz] at hS
  refine PyProof.Rows.args_nil ?_
  obtain ⟨o, es, ep, t, ho, hex, hd, _, _, _, hf, hn⟩ := hS
  have hle := PyProof.Rows.firstMet_length_le (fun i => ns.getD i 0) ns.length
  have I2 : Inv X pins σ H1 { s1 with heap := h', toks := tk } := I1.kept fun b o e => hk b o (Heap.lt_size e) e
  exact call_len_set ho hex hd hf (by rw [hn]; omega) ⟨.int _, H1, I2.tok _, ⟨_, by rw [hn, dd_met]⟩, q1⟩
theorem sim_lenset {a : Expr} {m1 : Env → M Val} {p q pos pos2 : Pos} (hc : X.calm = true) (hg : Gl X "len") (hm : X.mg "len" = none) (hgr : Gl X "set") (hmr : X.mg "set" = none) (ha : PE X a (tE X.K W m1)) (oa : okHead a = true) :
    PE X (.Call (.Name "len" p) [.Call (.Name "set" q) [a] [] pos2] [] pos) (tE X.K W fun env => bnd (m1 env) fun v => fun st => bnd (ofOpt (lenSet st v)) ret st) := by
  refine PE.imp (pe_lenSetI hc hg hm hgr hmr ha (head_star oa [] X.env)) fun σ H Q h => ?_
  obtain ⟨ρ, env, st, rE, rS, p⟩ := h
  refine ⟨ρ, env, st, rE, rS, Post.bnd p fun v st1 ρ1 x H1 e1 s1 q1 p1 => ?_⟩
  obtain ⟨c, ec, p2⟩ := Post.opt p1
  unfold lenSet at ec
  obtain ⟨ys, e2, e3⟩ := Option.bind_eq_some_iff.mp ec
  obtain ⟨ns, e4, e5⟩ := Option.bind_eq_some_iff.mp e3
  obtain ⟨b, ws, rfl, h2, h3⟩ := q1.lstOf s1 e2
  have := mapO_ints h3 e4
  subst this
  split at e5
  · rename_i hl
    cases e5
    exact ⟨b, ns, rfl, .of h2, of_decide_eq_true hl, Post.ret p2 s1 (.int _)⟩
  · cases e5
theorem sim_ndict {es : List Expr} {ms : Env → M (List Val)} {p pos : Pos} (hu : X.A.units + 100 < cLine) (hc : X.calm = true) (hg : Gl X "dict") (hm : X.mg "dict" = none) (ha : PA X es (tA X.K W ms)) (hok : ∀ e ∈ es, okHead e = true) (hne : es ≠ []) :
    PE X (.Call (.Name "dict" p) es [] pos) (tE X.K W fun env => bnd (ms env) fun vs => fun st => bnd (ofOpt (dicNs st vs)) ret st) := by
  cases es with
  | nil => exact absurd rfl hne
  | cons e es =>
    have hst := head_star (hok e (by simp)) es X.env
    have hns : (backTo pos (starEach es X.env)).any (·.1) = false := noStar fun x hx => hok x (by simp [hx])
    refine PE.imp (pe_callTy (bi_dicN hc hu) hg hm (by decide +kernel) ha (by decide) (by decide) hst hns) fun σ H Q h => ?_
    exact tA_bnd h fun ρ st vs xs H1 rS q p => ⟨W, σ, ρ, st, vs, rS, q, p⟩
/-! ### dicts, instances -/
theorem sim_dnew {b : Bool} {pos : Pos} : PE X (.Dict [] [] pos) (tE X.K W fun _ => if b = true then mk true (.t []) else mk true (.d [])) := by
  cases b with
  | true =>
    refine PE.imp pe_dnewT fun σ H Q h => ?_
    obtain ⟨ρ, env, st, rE, rS, p⟩ := h
    exact post_dT0 p rS
  | false =>
    refine PE.imp pe_dnewK fun σ H Q h => ?_
    obtain ⟨ρ, env, st, rE, rS, p⟩ := h
    exact post_dK (new := true) (kvs := []) (kws := []) (show Post X.K (Rep X.K) W σ ρ H Q (mk true (.d []) st) from p) rS rfl .nil
theorem lookup_of_nodup {fs : List (Str × V)} (nd : (fs.map (·.1)).Nodup) : ∀ {k : Nat} {f : Str} {v : V}, fs[k]? = some (f, v) → fs.lookup f = some v := by
  induction fs with
  | nil => intro k f v h; simp at h
  | cons p fs ih =>
    intro k f v h
    obtain ⟨g, w⟩ := p
    rw [List.map_cons, List.nodup_cons] at nd
    rw [List.lookup_cons]
    cases k with
    | zero =>
      simp at h
      obtain ⟨rfl, rfl⟩ := h
      simp
    | succ k =>
      have h : fs[k]? = some (f, v) := by simpa using h
      have hne : f ≠ g := fun e => nd.1 (by
        subst e
        exact List.mem_map.mpr ⟨_, List.mem_of_getElem? h, rfl⟩)
      have : (f == g) = false := by simpa using hne
      rw [this]
      exact ih nd.2 h
theorem fld_at {K : PySem.W.Frag} {ρ : Pl} {H : Hp} {fs : List (Str × Val)} {gs : List (Str × V)} (hk : fs.map (·.1) = gs.map (·.1)) (q : RepL K ρ H (fs.map (·.2)) (gs.map (·.2))) {k : Nat} {f : Str} {v : Val} (e : fs[k]? = some (f, v)) : ∃ w, gs[k]? = some (f, w) ∧ Rep K ρ H v w := by
  have e1 : (fs.map (·.1))[k]? = some f := by rw [List.getElem?_map, e]; rfl
  have e2 : (fs.map (·.2))[k]? = some v := by rw [List.getElem?_map, e]; rfl
  rw [hk] at e1
  obtain ⟨w, e3, r⟩ := q.get e2
  rw [List.getElem?_map] at e1 e3
  obtain ⟨p, e4, e5⟩ := Option.map_eq_some_iff.mp e1
  obtain ⟨p', e6, e7⟩ := Option.map_eq_some_iff.mp e3
  rw [e4] at e6
  cases e6
  obtain ⟨a, b⟩ := p
  cases e5
  cases e7
  exact ⟨b, e4, r⟩
theorem sim_fld {o : Expr} {f : Str} {k : Nat} {mo : Env → M Val} {pos : Pos} (ho : PE X o (tE X.K W mo)) (hb : plainBase o = true) : PE X (.Attribute o f pos) (tE X.K W fun env => bnd (mo env) fun v => fun st => ofOpt (fldOp st f k v) st) := by
  refine PE.imp (pe_fld ho (head_base hb f X.env _)) fun σ H Q h => ?_
  obtain ⟨ρ, env, st, rE, rS, p⟩ := h
  refine ⟨ρ, env, st, rE, rS, Post.bnd p fun v st1 ρ1 x H1 e1 s1 q1 p1 => ?_⟩
  unfold fldOp at p1
  split at p1
  · rename_i l
    cases q1 with
    | @loc _ a hl =>
      cases eo : st1[l]? with
      | none => rw [eo] at p1; exact p1.elim
      | some ob =>
        rw [eo] at p1
        obtain ⟨u, e2, e3⟩ := s1.at_ _ a _ hl eo
        cases e3 with
        | lst _ => exact p1.elim
        | dK _ _ => exact p1.elim
        | dT _ _ => exact p1.elim
        | @ins c dx fs gs io hd hn hk q =>
          unfold obFld at p1
          dsimp only at p1
          cases ef : fs[k]? with
          | none => rw [ef] at p1; exact p1.elim
          | some pr =>
            rw [ef] at p1
            dsimp only at p1
            split at p1
            · rename_i hf
              obtain ⟨f', v'⟩ := pr
              dsimp only at hf
              subst hf
              obtain ⟨w, e4, r⟩ := fld_at hk q ef
              exact ⟨a, _, dx, gs, w, rfl, e2, io.cls, io.noat _ (List.mem_of_getElem? e4), lookup_of_nodup io.nd e4, Post.ret p1 s1 r⟩
            · exact p1.elim
  · exact p1.elim
/-- o.m(..), the call behind the look-up -/
theorem meth_wp {prog : Program} {w : World} {A : Around} {E : Value → Shared → Prop} {s : Shared} {env : PySem.Env} {o : Expr} {name : Str} {apos pos : Pos} {args : List Expr} {Q : Value → Shared → Prop}
    (hbase : attributeBase o name env (eval o env) = eval o env)
    (hfew : methodCallForm (args.length + ([] : List Keyword).length) (backTo pos (starEach args env)) (backToKw pos (keywordEach [] env)) = true)
    (hline : (apos.endLine == pos.line) = true)
    (h : wpAny (model prog w) A (eval o env) (fun ov s₁ => wpAny (model prog w) A (getMethod ov name (do return (← importBound o env).getD true)) (fun fx s₂ => wpAny (model prog w) A (callWith pos fx.1 fx.2 (backTo pos (starEach args env)) (backToKw pos (keywordEach [] env))) Q E s₂) E s₁) E s) :
    wpAny (model prog w) A (eval (.Call (.Attribute o name apos) args [] pos) env) Q E s := by
  rw [arm_eval_Call, hbase]
  refine wpAny_bind (wpAny_mono h (fun ov s₁ h₁ => ?_) fun _ _ e => e)
  refine wpAny_bind (wpAny_standAt ?_)
  have hpos : methodCallPos true o env apos pos = pure pos := by unfold methodCallPos; simp [hline]
  unfold methodCall
  rw [hfew]
  refine wpAny_bind (wpAny_holding (wpAny_mono h₁ (fun fx s₂ h₂ => ?_) fun _ _ e => e))
  exact wpAny_bind (wpAny_of_eq hpos h₂)
theorem no_meth {K : PySem.W.Frag} {c m : Str} {fa : Addr} {gs : List (Str × V)} (io : InsOk K c gs) (hm : Meth K (He.ga K c) m fa) : gs.lookup m = none := by
  cases e : gs.lookup m with
  | none => rfl
  | some v =>
    have : ∃ p ∈ gs, p.1 = m := by
      clear io
      induction gs with
      | nil => simp at e
      | cons p gs ih =>
        obtain ⟨g, w⟩ := p
        rw [List.lookup_cons] at e
        by_cases hg : m = g
        · exact ⟨_, List.mem_cons_self .., hg.symm⟩
        · have : (m == g) = false := by simpa using hg
          rw [this] at e
          obtain ⟨p, hp, he⟩ := ih e
          exact ⟨p, List.mem_cons_of_mem _ hp, he⟩
    obtain ⟨p, hp, rfl⟩ := this
    have h1 : PySem.W.findIn K (.ref (He.ga K c)) p.1 = some none := io.noat p hp
    rw [hm.at_] at h1
    cases h1
theorem sim_meth {c m f : Str} {md : Md} {o : Expr} {es : List Expr} {mo : Env → M Val} {ms : Env → M (List Val)} {apos pos : Pos} (D : MethOk X n C (c, m, f)) (hr : Room (2 * n + 1) X.A) (tk : Takes X W) (ho : PE X o (tE X.K W mo)) (hb : plainBase o = true) (ha : PA X es (tA X.K W ms)) (hok : ∀ e ∈ es, okHead e = true) (hline : (apos.endLine == pos.line) = true) (hlen : es.length < 30) (hnil : es = [] → ∀ env, ms env = ret []) :
    PE X (.Call (.Attribute o m apos) es [] pos) (tE X.K W fun env => bnd (mo env) fun v => fun st => if isIns st c v = true then bnd (ms env) (fun vs => inMd md (C f (v :: vs))) st else .stuck) := by
  obtain ⟨fa, fd, ps, hm, F, hbd⟩ := D
  refine ⟨fun pins s σ H Q I h => ?_⟩
  have hfew : methodCallForm (es.length + ([] : List Keyword).length) (backTo pos (starEach es X.env)) (backToKw pos (keywordEach [] X.env)) = true := by
    unfold methodCallForm
    rw [allStar hok]
    show (true && true && decide (es.length < 30)) = true
    rw [decide_eq_true hlen]
    rfl
  have key : tE X.K W mo σ H fun x H1 => ∃ a dx gs, x = .ref a ∧ H1 a = some (.ins (He.ga X.K c) dx gs) ∧ InsOk X.K c gs ∧ ∃ ρ1 env st1 v, RelE X.K ρ1 H1 env σ ∧ RelS X.K ρ1 st1 H1 ∧ Rep X.K ρ1 H1 v x ∧ Post X.K (Rep X.K) W σ ρ1 H1 Q (bnd (ms env) (fun vs => inMd md (C f (v :: vs))) st1) := by
    obtain ⟨ρ, env, st, rE, rS, p⟩ := h
    refine ⟨ρ, env, st, rE, rS, Post.bnd p fun v st1 ρ1 x H1 e1 s1 q1 p1 => ?_⟩
    by_cases hi : isIns st1 c v = true
    · rw [if_pos hi] at p1
      have q0 := q1
      unfold isIns at hi
      split at hi
      · rename_i l
        cases q1 with
        | @loc _ a hl =>
          unfold obIns at hi
          split at hi
          · rename_i c' fs eo
            have := of_decide_eq_true hi
            subst this
            obtain ⟨u, e2, e3⟩ := s1.at_ _ a _ hl eo
            cases e3 with
            | @ins _ dx _ gs io hd hn hk q => exact ⟨a, dx, gs, rfl, e2, io, ρ1, env, st1, _, rE.ext e1, s1, q0, p1⟩
          · cases hi
      · cases hi
    · rw [if_neg hi] at p1
      exact p1.elim
  refine meth_wp (head_base hb m X.env _) hfew hline (thn (ho.run pins s σ H _ I key) fun u s1 ⟨x, H1, I1, rx, a, dx, gs, ex, ea, io, ρ1, env, st1, v, rE, rS, rv, p⟩ => ?_)
  subst ex
  obtain rfl : u = Value.ref a := rx
  refine getmeth_ok I1 ea io.cls hm (no_meth io hm) ?_
  have call : ∀ ρ2 st2 vs xs H2 s2 us, RelS X.K ρ2 st2 H2 → RepL X.K ρ2 H2 vs xs → Rep X.K ρ2 H2 v (.ref a) → Inv X pins σ H2 s2 → Vals xs us → Post X.K (Rep X.K) W σ ρ2 H2 Q ((inMd md (C f (v :: vs))) st2) → wpAny (model X.prog X.w) X.A (call (.ref fa) (Value.ref a :: us)) (EP X pins σ Q) X.xe s2 := by
    intro ρ2 st2 vs xs H2 s2 us s2' q2 rv2 I2 rr p2
    refine run_fnSD (us := .ref a :: us) (vs := .ref a :: xs) (ds := []) (dvs := []) (E := WE W) F (hr.mono (Nat.le_succ _)) hbd .nil (passAt tk σ) I2 (.cons rfl rr) ?_
    refine ⟨ρ2, st2, v :: vs, s2', by rw [List.append_nil]; exact .cons rv2 q2, ?_⟩
    cases md with
    | raw => exact p2
    | cut => exact Post.cut s2' p2
    | keep => exact Post.keep s2' p2
  cases es with
  | nil =>
    rw [hnil rfl env] at p
    exact PySem.W.callWith_K0 (first := [.ref a]) I1.kIn hm.kp (call ρ1 st1 [] [] H1 s1 [] rS .nil rv I1 .nil p)
  | cons e es =>
    have q : tA X.K W ms σ H1 fun xs H2 => ∃ ρ2 st2 vs, RelS X.K ρ2 st2 H2 ∧ RepL X.K ρ2 H2 vs xs ∧ Rep X.K ρ2 H2 v (.ref a) ∧ Post X.K (Rep X.K) W σ ρ2 H2 Q ((inMd md (C f (v :: vs))) st2) := ⟨ρ1, env, st1, rE, rS, Post.bnd p fun vs st2 ρ2 xs H2 e2 s2 q2 p2 => ⟨ρ2, st2, vs, s2, q2, rv.ext e2, p2⟩⟩
    refine PySem.W.callWith_K (first := [.ref a]) (h₀ := X.base) I.ok.mod.kin hm.kp (thn (ha.run pos pins s1 σ H1 _ I1 q) fun us s2 ⟨xs, H2, I2, rr, ρ2, st2, vs, s2', q2, rv2, p2⟩ => ⟨I2.kIn, ?_⟩) (head_star (hok e (by simp)) es X.env) (noStar fun x hx => hok x (by simp [hx]))
    exact call ρ2 st2 vs xs H2 s2 us s2' q2 rv2 I2 rr p2
theorem run_makeS {pins : List (Addr × Obj)} {σ : L2.St} {H : Hp} {s : Shared} {Q : VK} {us : List Value} {vs : List V} {Ca fi : Addr} {fd : FuncData} {ps : List Str} {sp : Sp} {k : Nat} {E : XK} {CX : CXT} (M : Mk X.K Ca fi) (F : FnOk X.prog X.w X.K X.mg X.base CX k fi fd ps sp) (hr : Room (k + 1) X.A) (hb : Binds X.K fd ps [])
    (hx : PassesAt CX X σ E) (I : Inv X pins σ H s) (r : Vals vs us)
    (h : ∀ x dx, H x = none → H dx = none → dx ≠ x → sp (.ref x :: vs) (upd (upd H dx (.own x)) x (.ins Ca dx [])) (fun v H2 => v = .non ∧ Q (.ref x) H2) E) :
    wpAny (model X.prog X.w) X.A (call (.ref Ca) us) (EP X pins σ Q) X.xe s := by
  have hq := h (s.heap.objs.size + 1) s.heap.objs.size (I.hok.fresh (Nat.le_succ _)) (I.hok.fresh (Nat.le_refl _)) (Nat.ne_of_lt (Nat.lt_succ_self _))
  have I2 := Inv.made (C := Ca) I
  have r2 : Vals (V.ref (s.heap.objs.size + 1) :: vs) (Value.ref (s.heap.objs.size + 1) :: us) := .cons rfl r
  have hl : (Value.ref (s.heap.objs.size + 1) :: us ++ []).length = ps.length := by
    have e := r2.length
    rw [F.len _ _ _ _ hq] at e
    rw [List.append_nil]
    exact e.symm
  refine wpAny_call (make_map (f := fi) I.kIn M.makes M.init (beq_iff_eq.mp M.fn) (codeAny_mono (F.run _ X.stack _ _ ⟨Value.ref (s.heap.objs.size + 1) :: us, []⟩ (Value.ref (s.heap.objs.size + 1) :: us) _ _ E (hr.make Ca us [])
    (I2.env0.make Ca us []) (by have := hb _ (Value.ref (s.heap.objs.size + 1) :: us) I2.kIn hl; rw [List.append_nil] at this; exact this) r2 hq) fun r s' hq' => ?_))
  cases r with
  | error e => exact hx pins _ _ e s' I2 hq'
  | ok fl =>
    cases fl with
    | ret u =>
      obtain ⟨v, H', I3, rv, ev, q3⟩ := I2.after hq'
      subst ev
      exact ⟨rv, ⟨V.ref (s.heap.objs.size + 1), H', I3, rfl, q3⟩⟩
    | next => exact False.elim hq'
    | brk => exact False.elim hq'
    | cont => exact False.elim hq'
theorem sim_new {f : Str} {m : Md} {es : List Expr} {ms : Env → M (List Val)} {p pos : Pos} (D : ClsOk X n C f) (hr : Room (2 * n + 1) X.A) (hg : Gl X f) (hd : noDbg f = true) (tk : Takes X W) (ha : PA X es (tA X.K W ms)) (hok : ∀ e ∈ es, okHead e = true) (hne : es ≠ []) :
    PE X (.Call (.Name f p) es [] pos) (tE X.K W fun env => bnd (ms env) fun vs => inMd m (C f vs)) := by
  obtain ⟨fi, fd, ps, F, hcl, M, G, hm, hb, eC⟩ := D
  cases es with
  | nil => exact absurd rfl hne
  | cons e es =>
    refine ⟨fun pins s σ H Q I h => ?_⟩
    have q : tA X.K W ms σ H fun xs H2 => ∃ ρ2 st2 vs, RelS X.K ρ2 st2 H2 ∧ RepL X.K ρ2 H2 vs xs ∧ Post X.K (Rep X.K) W σ ρ2 H2 Q (mkNew f F vs st2) := by
      refine tA_bnd h fun ρ st vs xs H1 rS q p => ⟨ρ, st, vs, rS, q, ?_⟩
      rw [← eC]
      cases m with
      | raw => exact p
      | cut => exact Post.cut rS p
      | keep => exact Post.keep rS p
    refine wpAny_Call_Name_kw (ld_glob I hg hm ?_ (dbg1 hd).1)
    refine PySem.W.callWith_K (h₀ := X.base) I.ok.mod.kin M.kp (thn (ha.run pos pins s σ H _ I q) fun us s1 ⟨xs, H1, I1, rr, ρ2, st2, vs, rS, q2, p2⟩ => ⟨I1.kIn, ?_⟩) (head_star (hok e (by simp)) es X.env) (noStar fun x hx => hok x (by simp [hx]))
    refine run_makeS (E := WE W σ) M G hr hb (passAt tk σ) I1 rr fun x dx hx hdx hne => ?_
    have z1 := rS.laid (o := .own x) hdx
    have hx' : upd H1 dx (.own x) x = none := by rw [upd_ne (Ne.symm hne)]; exact hx
    have nx : dx ≠ x := hne
    have edx : upd (upd H1 dx (.own x)) x (.ins (He.ga X.K f) dx []) dx = some (.own x) := by rw [upd_ne nx, upd_same]
    have ndx : dx ∉ ρ2.push x := fun mm => by
      rcases Pl.mem_push.mp mm with mm | mm
      · exact rS.fresh hdx mm
      · exact nx mm
    have z2 := z1.1.newLoc (o := .ins f []) (u := .ins (He.ga X.K f) dx []) hx' (.ins ⟨hcl, List.nodup_nil, fun p hp => by simp at hp⟩ edx ndx rfl .nil)
    have hat : (ρ2.push x).ps[st2.length]? = some x := by
      show (ρ2.ps ++ [x])[st2.length]? = some x
      rw [← rS.len]; simp
    refine ⟨ρ2.push x, st2 ++ [.ins f []], .loc st2.length :: vs, z2.1, .cons (.loc hat) (q2.ext (z1.2.trans z2.2)), ?_⟩
    unfold mkNew at p2
    cases eF : F (.loc st2.length :: vs) (st2 ++ [.ins f []]) with
    | ok v st' =>
      rw [eF] at p2
      dsimp only at p2
      split at p2
      · rename_i hn
        intro ρ' w H' e' s' r'
        have hv : v = .non := by cases v <;> first | rfl | cases hn
        subst hv
        cases r'
        refine ⟨rfl, p2 ρ' (.ref x) H' ((z1.2.trans z2.2).trans e') s' (.loc (e'.toExt0.at_ hat))⟩
      · exact p2.elim
    | exc c r st' =>
      rw [eF] at p2
      exact fun ρ' d H' e' s' hd => p2 ρ' d H' ((z1.2.trans z2.2).trans e') s' hd
    | stuck => rw [eF] at p2; exact p2.elim
/-! ### displayed dicts -/
theorem merge_fresh : ∀ (more acc : List (Key × V)), ((acc ++ more).map (·.1)).Nodup → mergeK acc more = acc ++ more
  | [], acc, _ => by simp [mergeK]
  | p :: more, acc, h => by
    have hn : (acc.any fun kv => decide (kv.1 = p.1)) = false := by
      rw [List.any_eq_false]
      intro kv hkv
      simp only [decide_eq_true_eq]
      intro e
      rw [List.map_append, List.nodup_append] at h
      exact h.2.2 kv.1 (List.mem_map.mpr ⟨kv, hkv, rfl⟩) p.1 (by simp) e
    have e1 : putK acc p.1 p.2 = acc ++ [p] := by
      unfold putK
      rw [hn]
      rfl
    show mergeK (putK acc p.1 p.2) more = _
    rw [e1, merge_fresh more (acc ++ [p]) (by simpa using h)]
    simp
def iniT : Ini → TE
  | .var i => tVar i
  | .int j => tC (.int j)
  | .lst => tLst tNil
  | .dk => tDNewK
def iniTs : List Key → List Ini → List (TE × TE)
  | k :: ks, i :: is => (tC (kV k), iniT i) :: iniTs ks is
  | _, _ => []
theorem inis_pps {ct : Ct} (hN : X.N = ct.N) (hs : X.env.scope = ct.sc) (hv : ∀ x, isVis ct.sc x = true → Vis X.env.scope x) {pos : Pos} : ∀ {ks : List Key} {is : List Ini} {keys : List (Option Expr)} {vals : List Expr}, ckKeys ks keys = true → ckInis ct is vals = true → keys.length = vals.length → PPs X pos keys vals (iniTs ks is)
  | [], _, [], [], _, _, _ => pps_nil
  | k :: ks, i :: is, e :: keys, v :: vals, h1, h2, h3 => by
    have a := Bool.and_eq_true_iff.mp (show (ckKey k e && ckKeys ks keys) = true from h1)
    have b := Bool.and_eq_true_iff.mp (show (ckIni ct i v && ckInis ct is vals) = true from h2)
    have ih := inis_pps hN hs hv (pos := pos) a.2 b.2 (by simpa using h3)
    have hk : ∃ e', e = some e' ∧ PE X e' (tC (kV k)) := by
      have ak := a.1
      unfold ckKey at ak
      split at ak
      · have := of_decide_eq_true ak
        subst this
        exact ⟨_, rfl, pe_int⟩
      · have := of_decide_eq_true ak
        subst this
        exact ⟨_, rfl, pe_str⟩
      · cases ak
    have hi : PE X v (iniT i) := by
      have bk := b.1
      unfold ckIni at bk
      split at bk
      · simp only [Bool.and_eq_true] at bk
        exact pe_var (by rw [hN]; exact of_decide_eq_true bk.1.1) (hv _ bk.1.2) (dbg1 bk.2).1 (dbg1 bk.2).2.1
      · have := of_decide_eq_true bk
        subst this
        exact pe_int
      · exact pe_lst pa_nil
      · exact pe_dnewK
      · cases bk
    obtain ⟨e', rfl, hk⟩ := hk
    exact pps_cons hk hi ih
  | [], _, _ :: _, _, h1, _, _ => by simp [ckKeys] at h1
  | _ :: _, _, [], _, h1, _, _ => by simp [ckKeys] at h1
  | _ :: _, [], _ :: _, _ :: _, _, h2, _ => by simp [ckInis] at h2
  | _ :: _, _, _ :: _, [], _, _, h3 => by simp at h3
  | [], _, [], _ :: _, _, _, h3 => by simp at h3
theorem ini_ok {K : PySem.W.Frag} {σ : L2.St} {env : Env} {i : Ini} {ρ : Pl} {st st1 : Store} {H : Hp} {v : Val} {Q : VK} (rE : RelE K ρ H env σ) (rS : RelS K ρ st H) (e : ini1 env st i = some (v, st1)) (hq : ∀ ρ1 H1 x, Ext ρ H ρ1 H1 → RelS K ρ1 st1 H1 → Rep K ρ1 H1 v x → Q x H1) : iniT i σ H Q := by
  cases i with
  | var j =>
    unfold ini1 at e
    dsimp only at e
    split at e
    · rename_i v' ej
      cases e
      obtain ⟨w, h1, h2⟩ := rE j v ej
      exact ⟨w, h1, hq ρ H w (.refl _ _) rS h2⟩
    · cases e
  | int j => cases e; exact hq ρ H _ (.refl _ _) rS (.int j)
  | lst =>
    cases e
    exact ⟨Nat.zero_le _, fun p hp => post_l (W := fun _ _ _ _ => False) (σ := σ) (new := true) (vs := []) (st := st) (fun ρ' w H' x s r => hq ρ' H' w x s r) rS .nil p hp⟩
  | dk =>
    cases e
    exact fun p hp => post_dK (W := fun _ _ _ _ => False) (σ := σ) (new := true) (kvs := []) (kws := []) (st := st) (fun ρ' w H' x s r => hq ρ' H' w x s r) rS rfl .nil p hp
theorem inis_ok {K : PySem.W.Frag} {σ : L2.St} {env : Env} : ∀ {ks : List Key} {is : List Ini} {ρ : Pl} {st st2 : Store} {H : Hp} {vs : List Val} {R : List (V × V) → Hp → Prop}, ks.length = is.length → RelE K ρ H env σ → RelS K ρ st H → iniS env is st = some (vs, st2) →
    (∀ ρ2 H2 xs, Ext ρ H ρ2 H2 → RelS K ρ2 st2 H2 → RepL K ρ2 H2 vs xs → R (List.zip (ks.map kV) xs) H2) → tPairs (iniTs ks is) σ H R
  | [], [], ρ, st, st2, H, vs, R, _, rE, rS, e, h => by
    cases e
    exact h ρ H [] (.refl _ _) rS .nil
  | k :: ks, i :: is, ρ, st, st2, H, vs, R, hl, rE, rS, e, h => by
    unfold iniS at e
    obtain ⟨⟨v, st1⟩, e1, e2⟩ := Option.bind_eq_some_iff.mp e
    obtain ⟨⟨vs', st'⟩, e3, e4⟩ := Option.map_eq_some_iff.mp e2
    cases e4
    refine ini_ok rE rS e1 fun ρ1 H1 x e1 s1 r1 => ?_
    refine inis_ok (by simpa using hl) (rE.ext e1) s1 e3 fun ρ2 H2 xs e2 s2 r2 => ?_
    exact h ρ2 H2 (x :: xs) (e1.trans e2) s2 (.cons (r1.ext e2) r2)
  | [], _ :: _, _, _, _, _, _, _, hl, _, _, _, _ => by simp at hl
  | _ :: _, [], _, _, _, _, _, _, hl, _, _, _, _ => by simp at hl
theorem zip_keys : ∀ {ks : List Key} {xs : List V}, List.zip (ks.map kV) xs = (ks.zip xs).map fun kv => (kV kv.1, kv.2)
  | [], _ => by simp
  | _ :: _, [] => by simp
  | k :: ks, x :: xs => by
    rw [List.map_cons, List.zip_cons_cons, List.zip_cons_cons, List.map_cons, zip_keys]
theorem ckKeys_len : ∀ {ks : List Key} {keys : List (Option Expr)}, ckKeys ks keys = true → ks.length = keys.length ∧ keys.all (·.isSome) = true
  | [], [], _ => ⟨rfl, rfl⟩
  | k :: ks, e :: es, h => by
    have a := Bool.and_eq_true_iff.mp (show (ckKey k e && ckKeys ks es) = true from h)
    obtain ⟨h1, h2⟩ := ckKeys_len a.2
    refine ⟨by simp [h1], ?_⟩
    rw [List.all_cons, h2, Bool.and_true]
    have ak := a.1
    unfold ckKey at ak
    split at ak
    · rfl
    · rfl
    · cases ak
  | [], _ :: _, h => by simp [ckKeys] at h
  | _ :: _, [], h => by simp [ckKeys] at h
theorem ckInis_len {ct : Ct} : ∀ {is : List Ini} {vals : List Expr}, ckInis ct is vals = true → is.length = vals.length
  | [], [], _ => rfl
  | k :: ks, e :: es, h => by
    have a := Bool.and_eq_true_iff.mp (show (ckIni ct k e && ckInis ct ks es) = true from h)
    simp [ckInis_len a.2]
  | [], _ :: _, h => by simp [ckInis] at h
  | _ :: _, [], h => by simp [ckInis] at h
theorem sim_ddisp {ct : Ct} (hN : X.N = ct.N) (hs : X.env.scope = ct.sc) (hv : ∀ x, isVis ct.sc x = true → Vis X.env.scope x) {pos : Pos} {ks : List Key} {is : List Ini} {keys : List (Option Expr)} {vals : List Expr} (h1 : ckKeys ks keys = true) (h2 : ckInis ct is vals = true) (h3 : keys.length = vals.length) (h4 : keys ≠ []) (h5 : keys.length ≤ 15) :
    PE X (.Dict keys vals pos) (tE X.K W fun env => fun st => dispM ks (iniS env is st)) := by
  obtain ⟨kl, ka⟩ := ckKeys_len h1
  have il := ckInis_len h2
  refine PE.imp (pe_disp (inis_pps hN hs hv h1 h2 h3) ka h3 h4 h5) fun σ H Q h => ?_
  obtain ⟨ρ, env, st, rE, rS, p⟩ := h
  intro D nD
  dsimp only at p
  cases ei : iniS env is st with
  | none => rw [ei] at p; exact p.elim
  | some q =>
    obtain ⟨vs, st2⟩ := q
    rw [ei] at p
    unfold dispM dispV at p
    dsimp only at p
    split at p
    · rename_i hc
      simp only [Bool.and_eq_true, decide_eq_true_eq] at hc
      obtain ⟨⟨nd, hlen⟩, h15⟩ := hc
      have nD1 : D ∉ ρ := rS.fresh nD
      have e0 : Ext0 ρ H ⟨ρ.ps, D :: ρ.rs⟩ (upd H D (.dK [])) := ⟨fun a o h n => ⟨by rw [upd_ne (ne_of_none h nD)]; exact h, fun m => by
        rcases m with m | m
        · exact n (.inl m)
        · rcases List.mem_cons.mp m with m | m
          · exact ne_of_none h nD m
          · exact n (.inr m)⟩, List.prefix_refl _⟩
      have rS1 : RelS X.K ⟨ρ.ps, D :: ρ.rs⟩ st (upd H D (.dK [])) := by
        refine ⟨rS.len, rS.nd, fun l a o h1 h2 => ?_, fun a ha => ?_⟩
        · obtain ⟨u, h3, h4⟩ := rS.at_ l a o h1 h2
          exact ⟨u, by rw [upd_ne (ne_of_none h3 nD)]; exact h3, h4.ext0 e0⟩
        · rcases List.mem_cons.mp ha with ha | ha
          · subst ha
            exact ⟨fun m => nD1 (.inl m), _, upd_same⟩
          · exact ⟨(rS.rs a ha).1, by rw [upd_ne (rS.ne nD (.inr ha))]; exact (rS.rs a ha).2⟩
      refine inis_ok (by omega) (rE.ext' e0) rS1 ei fun ρ2 H2 xs e2 s2 r2 => ?_
      have hDr : D ∈ ρ2.rs := by rw [e2.rs]; simp
      have hD2 : H2 D = some (.dK []) := by rw [e2.rk D (by simp)]; exact upd_same
      have nDp : D ∉ ρ2.ps := (s2.rs D hDr).1
      have nDo : D ∉ ρ.rs := fun m => nD1 (.inr m)
      have hxl := r2.length
      have ekx : ((ks.zip xs).map (·.1)) = ks := List.map_fst_zip (by omega)
      have exx : ((ks.zip xs).map (·.2)) = xs := List.map_snd_zip (by omega)
      have ekv : ((ks.zip vs).map (·.1)) = ks := List.map_fst_zip (by omega)
      have exv : ((ks.zip vs).map (·.2)) = vs := List.map_snd_zip (by omega)
      refine ⟨hD2, ks.zip xs, zip_keys, by rw [List.length_zip]; omega, ?_⟩
      rw [merge_fresh (ks.zip xs) [] (by rw [List.nil_append, ekx]; exact nd), List.nil_append]
      generalize hH3 : upd H2 D (.dK (ks.zip xs)) = H3
      have hD3 : H3 D = some (.dK (ks.zip xs)) := by rw [← hH3]; exact upd_same
      have ne3 : ∀ a, a ≠ D → H3 a = H2 a := fun a ha => by rw [← hH3]; exact upd_ne ha
      have e3 : Ext0 ρ2 H2 ⟨ρ2.ps ++ [D], ρ.rs⟩ H3 := ⟨fun a o h n => ⟨by rw [ne3 a fun z => n (.inr (z ▸ hDr))]; exact h, fun m => n (by
        rcases m with m | m
        · rcases List.mem_append.mp m with m | m
          · exact .inl m
          · exact .inr (by rw [List.mem_singleton.mp m]; exact hDr)
        · exact .inr (by rw [e2.rs]; simp [m]))⟩, List.prefix_append _ _⟩
      have p' : Post X.K (Rep X.K) W σ ρ H Q (.ok (.loc st2.length) (st2 ++ [.dK (ks.zip vs)])) := p
      have e03 : Ext0 ρ H ⟨ρ2.ps ++ [D], ρ.rs⟩ H3 := e0.trans (e2.toExt0.trans e3)
      refine p' ⟨ρ2.ps ++ [D], ρ.rs⟩ (.ref D) H3 ⟨e03, rfl, fun a ha => ?_⟩ ⟨by simp [s2.len], ?_, fun l a o h1 h2 => ?_, fun a ha => ⟨fun m => ?_, ?_⟩⟩ (.loc ?_)
      · rw [ne3 a fun z => nDo (z ▸ ha), e2.rk a (by simp [ha]), upd_ne (show a ≠ D from fun z => nDo (z ▸ ha))]
      · show (ρ2.ps ++ [D]).Nodup
        rw [List.nodup_append]
        exact ⟨s2.nd, by simp, fun a ha b hb => by rw [List.mem_singleton.mp hb]; exact fun z => nDp (z ▸ ha)⟩
      · have h1 : (ρ2.ps ++ [D])[l]? = some a := h1
        by_cases hl : l < ρ2.ps.length
        · rw [List.getElem?_append_left hl] at h1
          rw [List.getElem?_append_left (s2.len ▸ hl)] at h2
          obtain ⟨u, h3, h4⟩ := s2.at_ l a o h1 h2
          exact ⟨u, by rw [ne3 a fun z => nDp (z ▸ List.mem_of_getElem? h1)]; exact h3, h4.ext0 e3⟩
        · rw [List.getElem?_append_right (Nat.le_of_not_lt hl)] at h1
          rw [List.getElem?_append_right (Nat.le_of_not_lt (s2.len ▸ hl))] at h2
          have z : l - ρ2.ps.length = 0 := by
            have := (List.getElem?_eq_some_iff.mp h1).1
            simp at this; omega
          rw [z] at h1
          rw [← s2.len, z] at h2
          simp at h1 h2
          subst h1; subst h2
          refine ⟨_, hD3, .dK (by rw [ekx, ekv]) ?_⟩
          rw [exx, exv]
          exact r2.ext0 e3
      · rcases List.mem_append.mp m with m | m
        · exact (s2.rs a (by rw [e2.rs]; simp [ha])).1 m
        · exact nDo (List.mem_singleton.mp m ▸ ha)
      · rw [ne3 a fun z => nDo (z ▸ ha)]
        exact (s2.rs a (by rw [e2.rs]; simp [ha])).2
      · show (ρ2.ps ++ [D])[st2.length]? = some D
        rw [← s2.len]; simp
    · exact p.elim
/-! ### targets, tests -/
theorem Good.name (G : Good X g ct n C W) {i : Nat} {e : Expr} (h : ckName ct i e = true) : PG X e (gName i) := by
  unfold ckName at h
  split at h
  · rename_i x pos
    rw [Bool.and_eq_true] at h
    have h1 : X.N[i]? = some x := by rw [G.N]; exact of_decide_eq_true h.1
    obtain ⟨h2, h3⟩ := G.stor x (List.contains_iff_mem.mp h.2)
    rw [← G.sc] at h2 h3
    exact pg_name G.nd h1 h2 h3
  · cases h
theorem name_at {i : Nat} {e : Expr} {es : List Expr} (h : ckName ct i e = true) (env : PySem.Env) : assignEach (e :: es) env = (false, assign e env) :: assignEach es env := by
  unfold ckName at h
  split at h
  · rfl
  · cases h
theorem Good.names (G : Good X g ct n C W) : ∀ {is : List Nat} {es : List Expr}, ckNames ct is es = true → PGs X es (gNames is) ∧ (assignEach es X.env).length = is.length ∧ (assignEach es X.env).findIdx? (·.1) = none
  | [], [], _ => ⟨pgs_nil, rfl, rfl⟩
  | i :: is, e :: es, h => by
    have h' := Bool.and_eq_true_iff.mp (show (ckName ct i e && ckNames ct is es) = true from h)
    obtain ⟨h1, h2, h3⟩ := G.names h'.2
    have ha := name_at (es := es) h'.1 X.env
    refine ⟨pgs_cons (G.name h'.1) h1 (by rw [ha]; rfl), by rw [ha, List.length_cons, h2]; rfl, ?_⟩
    rw [ha, List.findIdx?_cons]
    simp [h3]
  | [], _ :: _, h => by cases h
  | _ :: _, [], h => by cases h
theorem Good.tg (G : Good X g ct n C W) {tg : Tg} {e : Expr} (h : ckTg ct tg e = true) : PG X e (gTg X.K tg) := by
  unfold ckTg at h
  split at h
  · exact G.name h
  · rename_i is es k pos
    rw [Bool.and_eq_true] at h
    obtain ⟨h1, h2, h3⟩ := G.names h.2
    exact pg_tup (G.calm h.1) h1 h2 h3
  · cases h
theorem ckName_lt {i : Nat} {e : Expr} (h : ckName ct i e = true) : i < ct.N.length := by
  unfold ckName at h
  split at h
  · rw [Bool.and_eq_true] at h
    exact (List.getElem?_eq_some_iff.mp (of_decide_eq_true h.1)).1
  · cases h
theorem ckNames_lt : ∀ {is : List Nat} {es : List Expr}, ckNames ct is es = true → ∀ i ∈ is, i < ct.N.length
  | [], _, _, i, hi => by simp at hi
  | j :: is, e :: es, h, i, hi => by
    have h' := Bool.and_eq_true_iff.mp (show (ckName ct j e && ckNames ct is es) = true from h)
    rcases List.mem_cons.mp hi with hi | hi
    · subst hi; exact ckName_lt h'.1
    · exact ckNames_lt h'.2 i hi
  | _ :: _, [], h, _, _ => by cases h
theorem ckTg_in {tg : Tg} {e : Expr} (h : ckTg ct tg e = true) : tgIn ct.N.length tg := by
  unfold ckTg at h
  split at h
  · exact ckName_lt h
  · rw [Bool.and_eq_true] at h
    exact ckNames_lt h.2
  · cases h
theorem tgSub_of {own : List Nat} {tg : Tg} (h : tgSubB own tg = true) : tgSub own tg := by
  cases tg with
  | nm i => exact List.contains_iff_mem.mp h
  | tup is => exact fun i hi => List.contains_iff_mem.mp (List.all_eq_true.mp h i hi)
theorem ownP_snd (N : List Str) : ∀ own : List Nat, (ownP N own).map (·.2) = own := fun own => by
  unfold ownP
  rw [List.map_map]
  exact (List.map_congr_left fun _ _ => rfl).trans (List.map_id _)
/-- a comprehension's block -/
theorem Good.blk (G : Good X g ct n C W) {scope : Scope} (uq : ∀ y ∈ scope.names, scope.names.lookup y.1 = some y.2) (s : Shared) (H : Hp) (cl : List (Str × Addr)) (c : Addr) (fp : List Addr) : Good (X.blk s H scope (compEnvC scope cl c X.env) fp) g (ctBlk ct scope) n C F0 where
  sc := by
    show relabel scope X.env = relS scope ct.sc
    rw [← G.sc]; rfl
  N := G.N
  nd := G.nd
  stor := fun x hx => by
    have hx : x ∈ storOf scope := hx
    unfold storOf at hx
    obtain ⟨p, hp, he⟩ := List.mem_filterMap.mp hx
    have hl := uq p hp
    split at he
    · rename_i hk
      cases he
      rw [hk] at hl
      have := lookup_relS_keep (sc := ct.sc) (k := .local) (by decide) hl
      exact ⟨.inl this, .inr this⟩
    · rename_i hk
      cases he
      rw [hk] at hl
      have := lookup_relS_keep (sc := ct.sc) (k := .cell) (by decide) hl
      refine ⟨.inr this, .inl ?_⟩
      show (scope.names.lookup p.1 == some .cell) = true
      rw [hl]; rfl
    · cases he
  calm := G.calm
  room := G.room
  units := G.units
  takes := takes0
  frees := G.frees
  globs := G.globs
  defs := G.defs
  clss := G.clss
  meths := G.meths
  flds := G.flds
  tups := G.tups
  dics := G.dics
end
end Rc
/-! Rc8: expressions, by induction. -/
namespace Rc
open PySem L2
section
variable {g : Sig} {n : Nat} {C : Str → List Val → M Val}
theorem ptOf {X : Cx} {W : WX} {e : Expr} {m : Env → M Val} (h : PE X e (tE X.K W m)) (he : ∀ whole, isTrue e X.env whole = (do let v ← whole; standAt e.pos; holding [v] (truthy v)) := by intro _; rfl) : PT X e (tT X.K W m) :=
  PT.imp (pt_val h he) fun _ _ _ h => tT_of h
theorem both {a b : Bool} (h : (a && b) = true) : a = true ∧ b = true := Bool.and_eq_true_iff.mp h
theorem ckEs_ok {ct : Ct} : ∀ {es : Es} {xs : List Expr}, ckEs g ct es xs = true → ∀ x ∈ xs, okHead x = true
  | .nil, [], _, x, hx => by simp at hx
  | .cons e es, y :: ys, h, x, hx => by
    simp only [ckEs, Bool.and_eq_true] at h
    rcases List.mem_cons.mp hx with hx | hx
    · subst hx; exact h.1.1
    · exact ckEs_ok h.2 x hx
  | .nil, _ :: _, h, _, _ => by simp [ckEs] at h
  | .cons _ _, [], h, _, _ => by simp [ckEs] at h
theorem esNil {ct : Ct} {es : Es} {xs : List Expr} (h : ckEs g ct es xs = true) (hn : xs = []) (env : Env) : evEs C es env = ret [] := by
  cases es with
  | nil => unfold evEs; rfl
  | cons e es =>
    subst hn
    simp [ckEs] at h
theorem nonNil_of {ct : Ct} {es : Es} {xs : List Expr} (h : ckEs g ct es xs = true) (hn : nonNil es = true) : xs ≠ [] := by
  cases es with
  | nil => simp [nonNil] at hn
  | cons e es =>
    cases xs with
    | nil => simp [ckEs] at h
    | cons x xs => exact List.cons_ne_nil _ _
mutual
theorem soundE : ∀ (e : E) (ex : Expr) {X : Cx} {ct : Ct} {W : WX}, Good X g ct n C W → ckE g ct e ex = true → PE X ex (tE X.K W (evE C e)) ∧ (tst e = true → PT X ex (tT X.K W (evE C e)))
  | .var i, ex, X, ct, W, G, h => by
    cases ex
    case Name x pos =>
      simp only [ckE, Bool.and_eq_true] at h
      have p : PE X (.Name x pos) (tE X.K W (evE C (.var i))) := sim_var (by rw [G.N]; exact of_decide_eq_true h.1.1) (G.vis h.1.2) h.2
      exact ⟨p, fun _ => ptOf p⟩
    all_goals simp [ckE] at h
  | .int i, ex, X, ct, W, G, h => by
    cases ex
    case Constant c k pos =>
      cases c
      case int j =>
        simp only [ckE] at h
        have := of_decide_eq_true h
        subst this
        have p : PE X (.Constant (.int i) k pos) (tE X.K W (evE C (.int i))) := sim_c pe_int fun _ _ => .int i
        exact ⟨p, fun _ => ptOf p⟩
      all_goals simp [ckE] at h
    all_goals simp [ckE] at h
  | .str i, ex, X, ct, W, G, h => by
    cases ex
    case Constant c k pos =>
      cases c
      case str j =>
        simp only [ckE] at h
        have := of_decide_eq_true h
        subst this
        have p : PE X (.Constant (.str i) k pos) (tE X.K W (evE C (.str i))) := sim_c pe_str fun _ _ => .str i
        exact ⟨p, fun _ => ptOf p⟩
      all_goals simp [ckE] at h
    all_goals simp [ckE] at h
  | .bl i, ex, X, ct, W, G, h => by
    cases ex
    case Constant c k pos =>
      cases c
      case bool j =>
        simp only [ckE] at h
        have := of_decide_eq_true h
        subst this
        have p : PE X (.Constant (.bool i) k pos) (tE X.K W (evE C (.bl i))) := sim_c pe_bl fun _ _ => .bl i
        exact ⟨p, fun _ => ptOf p⟩
      all_goals simp [ckE] at h
    all_goals simp [ckE] at h
  | .non, ex, X, ct, W, G, h => by
    cases ex
    case Constant c k pos =>
      cases c
      case none =>
        have p : PE X (.Constant .none k pos) (tE X.K W (evE C .non)) := sim_c pe_non fun _ _ => .non
        exact ⟨p, fun _ => ptOf p⟩
      all_goals simp [ckE] at h
    all_goals simp [ckE] at h
  | .glob y v, ex, X, ct, W, G, h => by
    cases ex
    case Name x pos =>
      simp only [ckE, Bool.and_eq_true] at h
      have := of_decide_eq_true h.1.1.1
      subst this
      obtain ⟨q, hq, hq2⟩ := List.any_eq_true.mp h.2
      have h2 := Bool.and_eq_true_iff.mp hq2
      have e1 := of_decide_eq_true h2.1
      have e2 := of_decide_eq_true h2.2
      obtain ⟨u, w, hm, hr, hp⟩ := G.globs q hq
      rw [e1] at hm
      rw [e2] at hp
      have p : PE X (.Name y pos) (tE X.K W (evE C (.glob y v))) := sim_c (pe_glob (G.gl h.1.1.2) hm hr (dbg1 h.1.2).1) hp
      exact ⟨p, fun _ => ptOf p⟩
    all_goals simp [ckE] at h
  | .bin new op a b, ex, X, ct, W, G, h => by
    cases ex
    case BinOp l o r pos =>
      simp only [ckE, Bool.and_eq_true] at h
      obtain ⟨⟨⟨⟨⟨h1, h2⟩, h3⟩, h4⟩, h5⟩, h6⟩ := h
      have := of_decide_eq_true h1
      subst this
      have p : PE X (.BinOp l op r pos) (tE X.K W (evE C (.bin new op a b))) := sim_bin h2 (soundE a l G h4).1 (soundE b r G h6).1
      exact ⟨p, fun _ => ptOf p⟩
    all_goals simp [ckE] at h
  | .neg a, ex, X, ct, W, G, h => by
    cases ex
    case UnaryOp o e pos =>
      cases o
      case USub =>
        simp only [ckE, Bool.and_eq_true] at h
        have p : PE X (.UnaryOp .USub e pos) (tE X.K W (evE C (.neg a))) := sim_neg (soundE a e G h.2).1
        exact ⟨p, fun _ => ptOf p⟩
      all_goals simp [ckE] at h
    all_goals simp [ckE] at h
  | .not a, ex, X, ct, W, G, h => by
    cases ex
    case UnaryOp o e pos =>
      cases o
      case Not =>
        simp only [ckE, Bool.and_eq_true] at h
        exact ⟨sim_not (soundE a e G h.2).1, fun ht => sim_notT ((soundE a e G h.2).2 (by simpa [tst] using ht))⟩
      all_goals simp [ckE] at h
    all_goals simp [ckE] at h
  | .bop op es, ex, X, ct, W, G, h => by
    cases ex
    case BoolOp o xs pos =>
      simp only [ckE, Bool.and_eq_true] at h
      have := of_decide_eq_true h.1
      subst this
      have := soundB op es xs pos G h.2
      exact ⟨this.1, fun ht => (this.2 (by simpa [tst] using ht)).pt⟩
    all_goals simp [ckE] at h
  | .cmp op a b, ex, X, ct, W, G, h => by
    cases ex
    case Compare l os rs pos =>
      match os, rs, h with
      | [o], [r], h =>
        simp only [ckE, Bool.and_eq_true] at h
        obtain ⟨⟨⟨⟨h1, h2⟩, h3⟩, h4⟩, h5⟩ := h
        have := of_decide_eq_true h1
        subst this
        have q := sim_cmp (op := op) (pos := pos) G.units (soundE a l G h3).1 (soundE b r G h5).1 (head_mark h4 op)
        exact ⟨q.1, fun _ => q.2⟩
      | [], _, h => simp [ckE] at h
      | _ :: _ :: _, [], h => simp [ckE] at h
      | _ :: _ :: _, _ :: _, h => simp [ckE] at h
      | [_], [], h => simp [ckE] at h
      | [_], _ :: _ :: _, h => simp [ckE] at h
    all_goals simp [ckE] at h
  | .chain o1 o2 a b c, ex, X, ct, W, G, h => by
    cases ex
    case Compare l os rs pos =>
      match os, rs, h with
      | [p1, p2], [m, r], h =>
        simp only [ckE, Bool.and_eq_true] at h
        obtain ⟨⟨⟨⟨⟨⟨⟨h1, h2⟩, h3⟩, h4⟩, h5⟩, h6⟩, h7⟩, h8⟩ := h
        have := of_decide_eq_true h1
        subst this
        have := of_decide_eq_true h2
        subst this
        have q := sim_chain (o1 := o1) (o2 := o2) (pos := pos) G.units (soundE a l G h4).1 (soundE b m G h6).1 (soundE c r G h8).1 (head_mark h7 o2)
        exact ⟨q.1, fun _ => q.2⟩
      | [], _, h => simp [ckE] at h
      | [_], _, h => simp [ckE] at h
      | _ :: _ :: _ :: _, _, h => simp [ckE] at h
      | [_, _], [], h => simp [ckE] at h
      | [_, _], [_], h => simp [ckE] at h
      | [_, _], _ :: _ :: _ :: _, h => simp [ckE] at h
    all_goals simp [ckE] at h
  | .ife c a b, ex, X, ct, W, G, h => by
    cases ex
    case IfExp t l r pos =>
      simp only [ckE, Bool.and_eq_true] at h
      obtain ⟨⟨⟨⟨⟨⟨h1, h2⟩, h3⟩, h4⟩, h5⟩, h6⟩, h7⟩ := h
      exact ⟨sim_ife ((soundE c t G h2).2 h3) (soundE a l G h5).1 (soundE b r G h7).1, fun ht => by simp [tst] at ht⟩
    all_goals simp [ckE] at h
  | .tup es, ex, X, ct, W, G, h => by
    cases ex
    case Tuple xs k pos =>
      simp only [ckE] at h
      have p : PE X (.Tuple xs k pos) (tE X.K W (evE C (.tup es))) := sim_tup (soundEs es xs G h)
      exact ⟨p, fun _ => ptOf p⟩
    all_goals simp [ckE] at h
  | .lst new es, ex, X, ct, W, G, h => by
    cases ex
    case List xs pos =>
      simp only [ckE] at h
      have p : PE X (.List xs pos) (tE X.K W (evE C (.lst new es))) := sim_lst (soundEs es xs G h)
      exact ⟨p, fun _ => ptOf p⟩
    all_goals simp [ckE] at h
  | .ix a b, ex, X, ct, W, G, h => by
    cases ex
    case Subscript l r pos =>
      simp only [ckE, Bool.and_eq_true] at h
      have p : PE X (.Subscript l r pos) (tE X.K W (evE C (.ix a b))) := sim_ix G.units (soundE a l G h.1.1.2).1 (soundE b r G h.2).1 (head_ix h.1.2)
      exact ⟨p, fun _ => ptOf p⟩
    all_goals simp [ckE] at h
  | .sl new a lo hi, ex, X, ct, W, G, h => by
    cases ex
    case Subscript l r pos =>
      match r, h with
      | .Slice x y none p2, h =>
        simp only [ckE, Bool.and_eq_true] at h
        have p : PE X (.Subscript l (.Slice x y none p2) pos) (tE X.K W (evE C (.sl new a lo hi))) := sim_sl (soundE a l G h.1.1.2).1 (soundO lo x G h.1.2) (soundO hi y G h.2)
        exact ⟨p, fun _ => ptOf p⟩
      | .Slice x y (some _) p2, h => simp [ckE] at h
      | .BoolOp .., h | .NamedExpr .., h | .BinOp .., h | .UnaryOp .., h | .Lambda .., h | .IfExp .., h | .Dict .., h | .Set .., h | .ListComp .., h | .SetComp .., h | .DictComp .., h | .GeneratorExp .., h | .Await .., h | .Yield .., h | .YieldFrom .., h | .Compare .., h | .Call .., h | .FormattedValue .., h | .JoinedStr .., h | .Constant .., h | .Attribute .., h | .Subscript .., h | .Starred .., h | .Name .., h | .List .., h | .Tuple .., h => simp [ckE] at h
    all_goals simp [ckE] at h
  | .rev new a, ex, X, ct, W, G, h => by
    cases ex
    case Subscript l r pos =>
      simp only [ckE, Bool.and_eq_true] at h
      obtain ⟨k, p1, p2, p3, rfl⟩ := revStep_of h.2
      have p : PE X (.Subscript l (.Slice none none (some (.UnaryOp .USub (.Constant (.int 1) k p1) p2)) p3) pos) (tE X.K W (evE C (.rev new a))) := sim_rev (soundE a l G h.1.2).1
      exact ⟨p, fun _ => ptOf p⟩
    all_goals simp [ckE] at h
  | .mth new m o es, ex, X, ct, W, G, h => by
    cases ex
    case Call fn xs kws pos =>
      cases fn
      case Attribute ob x ap =>
        cases kws with
        | nil =>
          simp only [ckE, Bool.and_eq_true] at h
          obtain ⟨⟨⟨⟨⟨⟨⟨h1, h2⟩, h3⟩, h4⟩, h5⟩, h6⟩, h7⟩, h8⟩ := h
          have := of_decide_eq_true h2
          subst this
          have p : PE X (.Call (.Attribute ob (mtName m : Str) ap) xs [] pos) (tE X.K W (evE C (.mth new m o es))) := sim_mth G.units (soundE o ob G h5).1 h3 (soundEs es xs G h8) (ckEs_ok h8) h6 (of_decide_eq_true h7) (esNil h8)
          exact ⟨p, fun _ => ptOf p⟩
        | cons _ _ => simp [ckE] at h
      all_goals simp [ckE] at h
    all_goals simp [ckE] at h
  | .call f m es, ex, X, ct, W, G, h => by
    cases ex
    case Call fn xs kws pos =>
      cases fn
      case Name x p0 =>
        cases kws with
        | nil =>
          simp only [ckE, Bool.and_eq_true] at h
          obtain ⟨⟨⟨⟨⟨⟨h1, h2⟩, h3⟩, h4⟩, h5⟩, h6⟩, h7⟩ := h
          have := of_decide_eq_true h2
          subst this
          have p : PE X (.Call (.Name f p0) xs [] pos) (tE X.K W (evE C (.call f m es))) := by
            rcases Bool.or_eq_true_iff.mp h5 with h5 | h5
            · obtain ⟨q, hq, hq2⟩ := List.any_eq_true.mp h5
              have e1 := of_decide_eq_true hq2
              have D := G.defs q hq
              rw [e1] at D
              exact sim_call D (G.room h1) (G.gl h3) h4 G.takes (soundEs es xs G h7) (ckEs_ok h7) (nonNil_of h7 h6)
            · obtain ⟨q, hq, hq2⟩ := List.any_eq_true.mp h5
              have e1 := of_decide_eq_true hq2
              have D := G.clss q hq
              rw [e1] at D
              exact sim_new D (G.room h1) (G.gl h3) h4 G.takes (soundEs es xs G h7) (ckEs_ok h7) (nonNil_of h7 h6)
          exact ⟨p, fun _ => ptOf p⟩
        | cons _ _ => simp [ckE] at h
      all_goals simp [ckE] at h
    all_goals simp [ckE] at h
  | .bi new b es, ex, X, ct, W, G, h => by
    cases ex
    case Call fn xs kws pos =>
      cases fn
      case Name x p0 =>
        cases kws with
        | nil =>
          simp only [ckE, Bool.and_eq_true] at h
          obtain ⟨⟨⟨⟨⟨⟨h1, h2⟩, h3⟩, h4⟩, h5⟩, h6⟩, h7⟩ := h
          have := of_decide_eq_true h2
          subst this
          have p : PE X (.Call (.Name (biName b) p0) xs [] pos) (tE X.K W (evE C (.bi new b es))) := sim_bi G.units (G.calm h1) (G.gl h3) (G.free h5) (soundEs es xs G h7) (ckEs_ok h7) (nonNil_of h7 h6)
          exact ⟨p, fun _ => ptOf p⟩
        | cons _ _ => simp [ckE] at h
      all_goals simp [ckE] at h
    all_goals simp [ckE] at h
  | .isin a k, ex, X, ct, W, G, h => by
    cases ex
    case Call fn xs kws pos =>
      cases fn
      case Name x p0 =>
        cases kws with
        | nil =>
          match xs, h with
          | [e, y], h =>
            cases y
            case Name y q0 =>
              simp only [ckE, Bool.and_eq_true] at h
              obtain ⟨⟨⟨⟨⟨⟨⟨⟨h1, h2⟩, h3⟩, h4⟩, h5⟩, h6⟩, h7⟩, h8⟩, h9⟩ := h
              have := of_decide_eq_true h1
              subst this
              have := of_decide_eq_true h4
              subst this
              have p : PE X (.Call (.Name "isinstance" p0) [e, .Name (kdName k : Str) q0] [] pos) (tE X.K W (evE C (.isin a k))) := sim_isin (G.gl h2) (G.free h3) (G.gl h5) (G.free h7) h6 (soundE a e G h9).1 h8
              exact ⟨p, fun _ => ptOf p⟩
            all_goals simp [ckE] at h
          | [], h => simp [ckE] at h
          | [_], h => simp [ckE] at h
          | _ :: _ :: _ :: _, h => simp [ckE] at h
        | cons _ _ => simp [ckE] at h
      all_goals simp [ckE] at h
    all_goals simp [ckE] at h
  | .lrange new a b, ex, X, ct, W, G, h => by
    cases ex
    case Call fn xs kws pos =>
      cases fn
      case Name x p0 =>
        cases kws with
        | nil =>
          match xs, h with
          | [r], h =>
            cases r
            case Call fn2 ys kws2 pos2 =>
              cases fn2
              case Name y q0 =>
                cases kws2 with
                | nil =>
                  match ys, h with
                  | [e1, e2], h =>
                    simp only [ckE, Bool.and_eq_true] at h
                    obtain ⟨⟨⟨⟨⟨⟨⟨⟨⟨⟨h1, h2⟩, h3⟩, h4⟩, h5⟩, h6⟩, h7⟩, h8⟩, h9⟩, h10⟩, h11⟩ := h
                    have := of_decide_eq_true h2
                    subst this
                    have := of_decide_eq_true h5
                    subst this
                    have p : PE X (.Call (.Name "list" p0) [.Call (.Name "range" q0) [e1, e2] [] pos2] [] pos) (tE X.K W (evE C (.lrange new a b))) := sim_lrange (G.calm h1) (G.gl h3) (G.free h4) (G.gl h6) (G.free h7) (soundE a e1 G h9).1 (soundE b e2 G h11).1 h8 h10
                    exact ⟨p, fun _ => ptOf p⟩
                  | [], h => simp [ckE] at h
                  | [_], h => simp [ckE] at h
                  | _ :: _ :: _ :: _, h => simp [ckE] at h
                | cons _ _ => simp [ckE] at h
              all_goals simp [ckE] at h
            all_goals simp [ckE] at h
          | [], h => simp [ckE] at h
          | _ :: _ :: _, h => simp [ckE] at h
        | cons _ _ => simp [ckE] at h
      all_goals simp [ckE] at h
    all_goals simp [ckE] at h
  | .lrange1 new a, ex, X, ct, W, G, h => by
    cases ex
    case Call fn xs kws pos =>
      cases fn
      case Name x p0 =>
        cases kws with
        | nil =>
          match xs, h with
          | [r], h =>
            cases r
            case Call fn2 ys kws2 pos2 =>
              cases fn2
              case Name y q0 =>
                cases kws2 with
                | nil =>
                  match ys, h with
                  | [e1], h =>
                    simp only [ckE, Bool.and_eq_true] at h
                    obtain ⟨⟨⟨⟨⟨⟨⟨⟨h1, h2⟩, h3⟩, h4⟩, h5⟩, h6⟩, h7⟩, h8⟩, h9⟩ := h
                    have := of_decide_eq_true h2
                    subst this
                    have := of_decide_eq_true h5
                    subst this
                    have p : PE X (.Call (.Name "list" p0) [.Call (.Name "range" q0) [e1] [] pos2] [] pos) (tE X.K W (evE C (.lrange1 new a))) := sim_lrange1 (G.calm h1) (G.gl h3) (G.free h4) (G.gl h6) (G.free h7) (soundE a e1 G h9).1 h8
                    exact ⟨p, fun _ => ptOf p⟩
                  | [], h => simp [ckE] at h
                  | _ :: _ :: _, h => simp [ckE] at h
                | cons _ _ => simp [ckE] at h
              all_goals simp [ckE] at h
            all_goals simp [ckE] at h
          | [], h => simp [ckE] at h
          | _ :: _ :: _, h => simp [ckE] at h
        | cons _ _ => simp [ckE] at h
      all_goals simp [ckE] at h
    all_goals simp [ckE] at h
  | .lenset a, ex, X, ct, W, G, h => by
    cases ex
    case Call fn xs kws pos =>
      cases fn
      case Name x p0 =>
        cases kws with
        | nil =>
          match xs, h with
          | [r], h =>
            cases r
            case Call fn2 ys kws2 pos2 =>
              cases fn2
              case Name y q0 =>
                cases kws2 with
                | nil =>
                  match ys, h with
                  | [e1], h =>
                    simp only [ckE, Bool.and_eq_true] at h
                    obtain ⟨⟨⟨⟨⟨⟨⟨⟨h1, h2⟩, h3⟩, h4⟩, h5⟩, h6⟩, h7⟩, h8⟩, h9⟩ := h
                    have := of_decide_eq_true h2
                    subst this
                    have := of_decide_eq_true h5
                    subst this
                    have p : PE X (.Call (.Name "len" p0) [.Call (.Name "set" q0) [e1] [] pos2] [] pos) (tE X.K W (evE C (.lenset a))) := sim_lenset (G.calm h1) (G.gl h3) (G.free h4) (G.gl h6) (G.free h7) (soundE a e1 G h9).1 h8
                    exact ⟨p, fun _ => ptOf p⟩
                  | [], h => simp [ckE] at h
                  | _ :: _ :: _, h => simp [ckE] at h
                | cons _ _ => simp [ckE] at h
              all_goals simp [ckE] at h
            all_goals simp [ckE] at h
          | [], h => simp [ckE] at h
          | _ :: _ :: _, h => simp [ckE] at h
        | cons _ _ => simp [ckE] at h
      all_goals simp [ckE] at h
    all_goals simp [ckE] at h
  | .ndict es, ex, X, ct, W, G, h => by
    cases ex
    case Call fn xs kws pos =>
      cases fn
      case Name x p0 =>
        cases kws with
        | nil =>
          simp only [ckE, Bool.and_eq_true] at h
          obtain ⟨⟨⟨⟨⟨h1, h2⟩, h3⟩, h4⟩, h5⟩, h6⟩ := h
          have := of_decide_eq_true h2
          subst this
          have p : PE X (.Call (.Name "dict" p0) xs [] pos) (tE X.K W (evE C (.ndict es))) := sim_ndict G.units (G.calm h1) (G.gl h3) (G.free h4) (soundEs es xs G h6) (ckEs_ok h6) (nonNil_of h6 h5)
          exact ⟨p, fun _ => ptOf p⟩
        | cons _ _ => simp [ckE] at h
      all_goals simp [ckE] at h
    all_goals simp [ckE] at h
  | .dnew b, ex, X, ct, W, G, h => by
    cases ex
    case Dict ks vs pos =>
      match ks, vs, h with
      | [], [], h =>
        have p : PE X (.Dict [] [] pos) (tE X.K W (evE C (.dnew b))) := by
          have e : evE C (.dnew b) = fun _ => if b = true then mk true (.t []) else mk true (.d []) := by
            funext env
            rw [evE]
          rw [e]
          exact sim_dnew
        exact ⟨p, fun _ => ptOf p⟩
      | _ :: _, _, h => simp [ckE] at h
      | [], _ :: _, h => simp [ckE] at h
    all_goals simp [ckE] at h
  | .ddisp ks is, ex, X, ct, W, G, h => by
    cases ex
    case Dict keys vals pos =>
      simp only [ckE, Bool.and_eq_true] at h
      obtain ⟨⟨⟨⟨h1, h2⟩, h3⟩, h4⟩, h5⟩ := h
      have p : PE X (.Dict keys vals pos) (tE X.K W (evE C (.ddisp ks is))) := by
        have e : evE C (.ddisp ks is) = fun env => fun st => dispM ks (iniS env is st) := by
          funext env
          rw [evE]
        rw [e]
        refine sim_ddisp G.N G.sc (fun x hx => G.vis hx) h1 h2 (of_decide_eq_true h3) (fun z => ?_) (of_decide_eq_true h5)
        subst z
        simp at h4
      exact ⟨p, fun _ => ptOf p⟩
    all_goals simp [ckE] at h
  | .fld o f k, ex, X, ct, W, G, h => by
    cases ex
    case Attribute ob x pos =>
      simp only [ckE, Bool.and_eq_true] at h
      obtain ⟨⟨⟨h1, h2⟩, h3⟩, h4⟩ := h
      have := of_decide_eq_true h1
      subst this
      have p : PE X (.Attribute ob f pos) (tE X.K W (evE C (.fld o f k))) := sim_fld (soundE o ob G h4).1 h2
      exact ⟨p, fun _ => ptOf p⟩
    all_goals simp [ckE] at h
  | .meth c m f md o es, ex, X, ct, W, G, h => by
    cases ex
    case Call fn xs kws pos =>
      cases fn
      case Attribute ob x ap =>
        cases kws with
        | nil =>
          simp only [ckE, Bool.and_eq_true] at h
          obtain ⟨⟨⟨⟨⟨⟨⟨⟨h1, h2⟩, h3⟩, h4⟩, h5⟩, h6⟩, h7⟩, h8⟩, h9⟩ := h
          have := of_decide_eq_true h2
          subst this
          obtain ⟨q, hq, hq2⟩ := List.any_eq_true.mp h3
          have e1 := of_decide_eq_true hq2
          subst e1
          have p : PE X (.Call (.Attribute ob m ap) xs [] pos) (tE X.K W (evE C (.meth c m f md o es))) := sim_meth (G.meths _ hq) (G.room h1) G.takes (soundE o ob G h6).1 h4 (soundEs es xs G h9) (ckEs_ok h9) h7 (of_decide_eq_true h8) (esNil h9)
          exact ⟨p, fun _ => ptOf p⟩
        | cons _ _ => simp [ckE] at h
      all_goals simp [ckE] at h
    all_goals simp [ckE] at h
  | .lc new own tg it ifs e, ex, X, ct, W, G, h => by
    cases ex
    case ListComp elt gens scope pos =>
      match gens, h with
      | [⟨t, iter, fs, k⟩], h =>
        simp only [ckE, Bool.and_eq_true] at h
        obtain ⟨⟨⟨⟨⟨⟨⟨⟨⟨⟨h0, h1⟩, h2⟩, h3⟩, h4⟩, h5⟩, h6⟩, h7⟩, h8⟩, h9⟩, h10⟩ := h
        have := of_decide_eq_true h2
        subst this
        have bk : BlkOk X.N X.env.scope scope (ownP ct.N own) := by
          rw [G.N, G.sc]
          exact blkOk_by h3
        have hi := soundI it iter (tg := t) h0 G h6
        have e1 : ∀ (s : Shared) (H : Hp) (c : Addr) (cl : List (Str × Addr)) (fp : List Addr), PG (X.blk s H scope (compEnvC scope cl c X.env) fp) t (gTg X.K tg) := fun s H c cl fp => (G.blk bk.uniq s H cl c fp).tg h5
        have e2 : ∀ (s : Shared) (H : Hp) (c : Addr) (cl : List (Str × Addr)) (fp : List Addr), PTs (X.blk s H scope (compEnvC scope cl c X.env) fp) fs (tG X.K relB F0 (evT C ifs)) := fun s H c cl fp => soundT ifs fs (G.blk bk.uniq s H cl c fp) h7 h8
        have e3 : ∀ (s : Shared) (H : Hp) (c : Addr) (cl : List (Str × Addr)) (fp : List Addr), PE (X.blk s H scope (compEnvC scope cl c X.env) fp) elt (tE X.K F0 (evE C e)) := fun s H c cl fp => (soundE e elt (G.blk bk.uniq s H cl c fp) h10).1
        have p : PE X (.ListComp elt [⟨t, iter, fs, 0⟩] scope pos) (tE X.K W (evE C (.lc new own tg it ifs e))) := by
          refine ⟨fun pins s σ H Q I q => ?_⟩
          refine (pe_lc (G.calm h1) G.nd hi.1 bk e1 e2 e3 hi.2).run pins s σ H Q I ?_
          rw [ownP_snd]
          refine tLc_of ?_ (tgSub_of h4) q
          rw [I.len, G.N]
          exact (show tgIn (ctBlk ct scope).N.length tg from ckTg_in h5)
        exact ⟨p, fun _ => ptOf p⟩
      | [], h => simp [ckE] at h
      | _ :: _ :: _, h => simp [ckE] at h
    all_goals simp [ckE] at h
  | .gin neg a x ss, ex, X, ct, W, G, h => by
    cases ex
    case Compare l ops rs pos =>
      match ops, rs, h with
      | [o], [r], h =>
        cases r
        case Name y p0 =>
          simp only [ckE, Bool.and_eq_true] at h
          obtain ⟨⟨⟨⟨⟨⟨h1, h2⟩, h3⟩, h4⟩, h5⟩, h6⟩, h7⟩ := h
          have := of_decide_eq_true h4
          subst this
          obtain ⟨q, hq, hq2⟩ := List.any_eq_true.mp h7
          have h8 := Bool.and_eq_true_iff.mp hq2
          have T := G.tups q hq
          rw [of_decide_eq_true h8.1, of_decide_eq_true h8.2] at T
          have p := sim_gin (p := p0) (pos := pos) h1 T (G.gl h5) h6 (soundE a l G h3).1
          exact ⟨p.1, fun _ => p.2⟩
        all_goals simp [ckE] at h
      | [], _, h => simp [ckE] at h
      | _ :: _ :: _, _, h => simp [ckE] at h
      | [o], [], h => simp [ckE] at h
      | [o], _ :: _ :: _, h => simp [ckE] at h
    all_goals simp [ckE] at h
  | .gdin neg a x ss, ex, X, ct, W, G, h => by
    cases ex
    case Compare l ops rs pos =>
      match ops, rs, h with
      | [o], [r], h =>
        cases r
        case Name y p0 =>
          simp only [ckE, Bool.and_eq_true] at h
          obtain ⟨⟨⟨⟨⟨⟨h1, h2⟩, h3⟩, h4⟩, h5⟩, h6⟩, h7⟩ := h
          have := of_decide_eq_true h4
          subst this
          obtain ⟨q, hq, hq2⟩ := List.any_eq_true.mp h7
          have h8 := Bool.and_eq_true_iff.mp hq2
          have T := G.dics q hq
          rw [of_decide_eq_true h8.1, of_decide_eq_true h8.2] at T
          have p := sim_gdin (p := p0) (pos := pos) h1 T (G.gl h5) h6 (soundE a l G h3).1
          exact ⟨p.1, fun _ => p.2⟩
        all_goals simp [ckE] at h
      | [], _, h => simp [ckE] at h
      | _ :: _ :: _, _, h => simp [ckE] at h
      | [o], [], h => simp [ckE] at h
      | [o], _ :: _ :: _, h => simp [ckE] at h
    all_goals simp [ckE] at h
  | .gdix x ss a, ex, X, ct, W, G, h => by
    cases ex
    case Subscript l r pos =>
      cases l
      case Name y p0 =>
        simp only [ckE, Bool.and_eq_true] at h
        obtain ⟨⟨⟨⟨⟨h2, h3⟩, h4⟩, h5⟩, h6⟩, h7⟩ := h
        have := of_decide_eq_true h4
        subst this
        obtain ⟨q, hq, hq2⟩ := List.any_eq_true.mp h7
        have h8 := Bool.and_eq_true_iff.mp hq2
        have T := G.dics q hq
        rw [of_decide_eq_true h8.1, of_decide_eq_true h8.2] at T
        have p : PE X (.Subscript (.Name x p0) r pos) (tE X.K W (evE C (.gdix x ss a))) := sim_gdix T (G.gl h5) h6 (soundE a r G h3).1 (head_ix h2)
        exact ⟨p, fun _ => ptOf p⟩
      all_goals simp [ckE] at h
    all_goals simp [ckE] at h
theorem soundEs : ∀ (es : Es) (xs : List Expr) {X : Cx} {ct : Ct} {W : WX}, Good X g ct n C W → ckEs g ct es xs = true → PA X xs (tA X.K W (evEs C es))
  | .nil, [], X, ct, W, G, h => sim_nil
  | .cons e es, x :: xs, X, ct, W, G, h => by
    simp only [ckEs, Bool.and_eq_true] at h
    exact sim_cons (soundE e x G h.1.2).1 (soundEs es xs G h.2) (head_star h.1.1 xs X.env)
  | .nil, _ :: _, X, ct, W, G, h => by simp [ckEs] at h
  | .cons _ _, [], X, ct, W, G, h => by simp [ckEs] at h
theorem soundO : ∀ (o : Oe) (x : Option Expr) {X : Cx} {ct : Ct} {W : WX}, Good X g ct n C W → ckO g ct o x = true → PO X x (tG X.K relO W (evO C o))
  | .none, none, X, ct, W, G, h => sim_oNone
  | .some e, some x, X, ct, W, G, h => by
    simp only [ckO, Bool.and_eq_true] at h
    exact sim_oSome (soundE e x G h.2).1
  | .none, some _, X, ct, W, G, h => by simp [ckO] at h
  | .some _, none, X, ct, W, G, h => by simp [ckO] at h
theorem soundB : ∀ (op : BoolOp) (es : Es) (xs : List Expr) (pos : Pos) {X : Cx} {ct : Ct} {W : WX}, Good X g ct n C W → ckEs g ct es xs = true → PE X (.BoolOp op xs pos) (tE X.K W (evB C op es)) ∧ (tstAll es = true → PW X (.BoolOp op xs pos) (tT X.K W (evB C op es)))
  | op, .nil, xs, pos, X, ct, W, G, h => by
    have no : ∀ σ H Q, ¬ tE X.K W (evB C op .nil) σ H Q := fun σ H Q q => by
      obtain ⟨ρ, env, st, rE, rS, p⟩ := q
      exact p.elim
    refine ⟨pe_no no, fun _ => ⟨fun _ _ _ σ H Q _ q => ?_⟩⟩
    obtain ⟨ρ, env, st, rE, rS, p⟩ := q
    exact p.elim
  | op, .cons e .nil, xs, pos, X, ct, W, G, h => by
    match xs, h with
    | [x], h =>
      simp only [ckEs, Bool.and_eq_true] at h
      have s := soundE e x G h.1.2
      refine ⟨pe_one s.1, fun ht => ?_⟩
      have ht' : tst e = true := by simpa [tstAll] using ht
      cases op with
      | And => exact pw_and1 (s.2 ht')
      | Or => exact pw_or1 (s.2 ht')
    | [], h => simp [ckEs] at h
    | _ :: _ :: _, h => simp [ckEs] at h
  | op, .cons e (.cons e2 es), xs, pos, X, ct, W, G, h => by
    match xs, h with
    | [], h => simp [ckEs] at h
    | [_], h => simp [ckEs] at h
    | x :: y :: xs, h =>
      simp only [ckEs, Bool.and_eq_true] at h
      have s := soundE e x G h.1.2
      have r := soundB op (.cons e2 es) (y :: xs) pos G (by simp only [ckEs, Bool.and_eq_true]; exact h.2)
      have eB : evB C op (.cons e (.cons e2 es)) = fun env => bnd (bnd (evE C e env) asBl) fun k => if k = goOn op then evB C op (.cons e2 es) env else ret (.bl k) := by
        funext env
        rw [evB]
      rw [eB]
      refine ⟨?_, fun ht => ?_⟩
      · cases op with
        | And =>
          refine PE.imp (pe_and s.1 r.1) fun σ H Q q => ?_
          refine tT_of (tT_bnd q fun b H1 h1 => ?_)
          cases b with
          | true => exact h1
          | false => exact tE_ret h1 fun _ => .bl _
        | Or =>
          refine PE.imp (pe_or s.1 r.1) fun σ H Q q => ?_
          refine tT_of (tT_bnd q fun b H1 h1 => ?_)
          cases b with
          | false => exact h1
          | true => exact tE_ret h1 fun _ => .bl _
      · have ht' : tst e = true ∧ tstAll (.cons e2 es) = true := by
          simpa [tstAll] using ht
        have q1 : ∀ {σ : L2.St} {H : Hp} {Q : Bool → Hp → Prop}, tT X.K W (fun env => bnd (bnd (evE C e env) asBl) fun k => if k = goOn op then evB C op (.cons e2 es) env else ret (.bl k)) σ H Q → tG X.K relB W (fun env => bnd (bnd (evE C e env) asBl) fun k => bnd (if k = goOn op then evB C op (.cons e2 es) env else ret (.bl k)) asBl) σ H Q := fun q => by
          have e3 : (fun env => bnd (bnd (bnd (evE C e env) asBl) fun k => if k = goOn op then evB C op (.cons e2 es) env else ret (.bl k)) asBl) = fun env => bnd (bnd (evE C e env) asBl) fun k => bnd (if k = goOn op then evB C op (.cons e2 es) env else ret (.bl k)) asBl := by
            funext env
            rw [bnd_assoc]
          rw [← e3]
          exact q
        cases op with
        | And =>
          refine PW.imp (pw_and (s.2 ht'.1) (r.2 ht'.2)) fun σ H Q q => ?_
          refine tT_bnd (q1 q) fun b H1 h1 => ?_
          cases b with
          | true => exact h1
          | false => exact tT_ret h1
        | Or =>
          refine PW.imp (pw_or (s.2 ht'.1) (r.2 ht'.2)) fun σ H Q q => ?_
          refine tT_bnd (q1 q) fun b H1 h1 => ?_
          cases b with
          | false => exact h1
          | true => exact tT_ret h1
theorem soundT : ∀ (es : Es) (xs : List Expr) {X : Cx} {ct : Ct} {W : WX}, Good X g ct n C W → ckEs g ct es xs = true → tst1 es = true → PTs X xs (tG X.K relB W (evT C es))
  | .nil, [], X, ct, W, G, h, ht => by
    refine ⟨fun pins s σ H Q I q => pts_nil.run pins s σ H Q I ?_⟩
    obtain ⟨ρ, env, st, rE, rS, p⟩ := q
    exact p ρ true H (.refl _ _) rS rfl
  | .cons e .nil, [x], X, ct, W, G, h, ht => by
    simp only [ckEs, Bool.and_eq_true] at h
    exact pts_one ((soundE e x G h.1.2).2 ht)
  | .nil, _ :: _, X, ct, W, G, h, ht => by simp [ckEs] at h
  | .cons _ .nil, [], X, ct, W, G, h, ht => by simp [ckEs] at h
  | .cons _ .nil, _ :: _ :: _, X, ct, W, G, h, ht => by simp [ckEs] at h
  | .cons _ (.cons _ _), _, X, ct, W, G, h, ht => by simp [tst1] at ht
theorem soundI : ∀ (it : It) (x : Expr) {tg : Expr} {X : Cx} {ct : Ct} {W : WX}, enumOk it tg = true → Good X g ct n C W → ckI g ct it x = true → PI X tg x (tI X.K W (evI C it)) ∧ ∀ v, foldedSetIterable x X.env v = pure v
  | .seq e, x, tg, X, ct, W, _, G, h => by
    simp only [ckI, Bool.and_eq_true] at h
    exact ⟨sim_seq (soundE e x G h.2).1, head_set h.1 X.env⟩
  | .rng1 a, x, tg, X, ct, W, _, G, h => by
    cases x
    case Call fn xs kws pos =>
      cases fn
      case Name y q0 =>
        match xs, kws, h with
        | [e], [], h =>
          simp only [ckI, Bool.and_eq_true] at h
          obtain ⟨⟨⟨⟨h1, h2⟩, h3⟩, h4⟩, h5⟩ := h
          have := of_decide_eq_true h1
          subst this
          exact ⟨sim_rng1 (G.gl h2) (G.free h3) (soundE a e G h5).1 (head_star h4 [] X.env), fun _ => rfl⟩
        | [_], _ :: _, h => simp [ckI] at h
        | [], _, h => simp [ckI] at h
        | _ :: _ :: _, _, h => simp [ckI] at h
      all_goals simp [ckI] at h
    all_goals simp [ckI] at h
  | .rng2 a b, x, tg, X, ct, W, _, G, h => by
    cases x
    case Call fn xs kws pos =>
      cases fn
      case Name y q0 =>
        match xs, kws, h with
        | [e1, e2], [], h =>
          simp only [ckI, Bool.and_eq_true] at h
          obtain ⟨⟨⟨⟨⟨⟨h1, h2⟩, h3⟩, h4⟩, h5⟩, h6⟩, h7⟩ := h
          have := of_decide_eq_true h1
          subst this
          have st2 := head_star h6 [] X.env
          exact ⟨sim_rng2 (G.gl h2) (G.free h3) (soundE a e1 G h5).1 (soundE b e2 G h7).1 (by rw [head_star h4 [e2] X.env, st2]; rfl) st2, fun _ => rfl⟩
        | [_, _], _ :: _, h => simp [ckI] at h
        | [], _, h => simp [ckI] at h
        | [_], _, h => simp [ckI] at h
        | _ :: _ :: _ :: _, _, h => simp [ckI] at h
      all_goals simp [ckI] at h
    all_goals simp [ckI] at h
  | .enum a, x, tg, X, ct, W, ht, G, h => by
    obtain ⟨es, kk, tp, rfl⟩ := isTupX_of ht
    cases x
    case Call fn xs kws pos =>
      cases fn
      case Name y q0 =>
        match xs, kws, h with
        | [e], [], h =>
          simp only [ckI, Bool.and_eq_true] at h
          obtain ⟨⟨⟨⟨h1, h2⟩, h3⟩, h4⟩, h5⟩ := h
          have := of_decide_eq_true h1
          subst this
          exact ⟨sim_enum (G.gl h2) (G.free h3) (soundE a e G h5).1 (head_star h4 [] X.env), fun _ => rfl⟩
        | [_], _ :: _, h => simp [ckI] at h
        | [], _, h => simp [ckI] at h
        | _ :: _ :: _, _, h => simp [ckI] at h
      all_goals simp [ckI] at h
    all_goals simp [ckI] at h
end
end
end Rc
/-! Rc9: statements: how they run, the looks, and that what is let by runs so. -/
namespace Rc
open PySem L2

/-! ### texts and runs -/
mutual
inductive S where
  | asg (tg : Tg) (e : E)
  | par (i j : Nat) (a b : E)
  | sset (o i e : E)
  | fset (c : Str) (o : E) (f : Str) (k : Nat) (e : E)
  | faug (c : Str) (o : E) (f : Str) (k : Nat) (i : Int)
  | expr (e : E)
  | ret (e : E)
  | retN
  | iff (c : E) (a b : Ss)
  | forS (tg : Tg) (it : It) (body : Ss)
  | pass
  | raiseS (c : Str) (m : Str)
  | tryS (body : Ss) (hs : Hs)
inductive Ss where
  | nil
  | cons (s : S) (ss : Ss)
  | two (s t : S) (ss : Ss)
inductive Hs where
  | nil
  | cons (c : Str) (b : Ss) (hs : Hs)
end
inductive Fl where
  | nx (env : Env)
  | rt (v : Val)
inductive RS where
  | ok (f : Fl) (st : Store)
  | exc (c : Str) (row : Option Int) (env : Env) (st : Store)
  | stuck
@[simp] def lift {α : Type} (env : Env) (m : M α) (k : α → Store → RS) : Store → RS := fun st => match m st with
  | .ok a st' => k a st'
  | .exc c r st' => .exc c r env st'
  | .stuck => .stuck
@[simp] def optS {α : Type} (o : Option α) (k : α → RS) : RS := match o with
  | some a => k a
  | none => .stuck
/-- o[i] = v -/
def setAt (st : Store) (l : Nat) (w : Val) (v : Val) : Option Ob → Option Store
  | some (.lst xs) => match w with
    | .int k => (L2.ixN xs.length k).map fun j => st.set l (.lst (xs.set j v))
    | _ => none
  | some (.dK kvs) => if decide (kvs.length < 100000) then (keyOf w).map fun k => st.set l (.dK (put kvs k v)) else none
  | some (.dT kvs) => if decide (kvs.length < 100000) then (keyT w).map fun k => st.set l (.dT (put kvs k v)) else none
  | _ => none
def setOp (st : Store) : Val → Val → Val → Option Store
  | .loc l, w, v => setAt st l w v st[l]?
  | _, _, _ => none
/-- o.f = v, in its place or as the next one -/
def putFld (f : Str) (k : Nat) (v : Val) (fs : List (Str × Val)) : Option (List (Str × Val)) := match fs[k]? with
  | some p => if p.1 = f ∧ fs.length < 100 then some (fs.set k (f, v)) else none
  | none => if decide (k = fs.length) && decide (k < 100) && fs.all (fun p => !decide (p.1 = f)) then some (fs ++ [(f, v)]) else none
def fsetAt (st : Store) (c : Str) (l : Nat) (f : Str) (k : Nat) (v : Val) : Option Ob → Option Store
  | some (.ins d fs) => if d = c then (putFld f k v fs).map fun gs => st.set l (.ins d gs) else none
  | _ => none
def fsetOp (st : Store) (c f : Str) (k : Nat) : Val → Val → Option Store
  | .loc l, v => fsetAt st c l f k v st[l]?
  | _, _ => none
def faugOp (st : Store) (c f : Str) (k : Nat) (i : Int) (o : Val) : Option Store := (fldOp st f k o).bind fun v => (toInt v).bind fun j => fsetOp st c f k o (.int (j + i))
noncomputable def forRaw (body : Env → Store → RS) (tg : Tg) (still : Store → Prop) : List Val → Env → Store → RS
  | [], env, st => open Classical in if still st then .ok (.nx env) st else .stuck
  | x :: xs, env, st => open Classical in if still st then match assignTg tg x env with
      | some env' => match body env' st with
        | .ok (.nx env2) st2 => forRaw body tg still xs env2 st2
        | r => r
      | none => .stuck
    else .stuck
theorem forEx : ∃ f : (Env → Store → RS) → Tg → (Store → Prop) → List Val → Env → Store → RS, f = forRaw := ⟨_, rfl⟩
noncomputable def forLoop : (Env → Store → RS) → Tg → (Store → Prop) → List Val → Env → Store → RS := Classical.choose forEx
theorem forLoop_eq : forLoop = forRaw := Classical.choose_spec forEx
theorem forLoop_nil {body : Env → Store → RS} {tg : Tg} {still : Store → Prop} {env : Env} {st : Store} (h : still st) : forLoop body tg still [] env st = .ok (.nx env) st := by
  rw [forLoop_eq]
  unfold forRaw
  rw [if_pos h]
theorem forLoop_cons {body : Env → Store → RS} {tg : Tg} {still : Store → Prop} {x : Val} {zs : List Val} {env env' : Env} {st : Store} (h : still st) (e : assignTg tg x env = some env') : forLoop body tg still (x :: zs) env st = match body env' st with
    | .ok (.nx env2) st2 => forLoop body tg still zs env2 st2
    | r => r := by
  rw [forLoop_eq]
  conv => lhs; unfold forRaw
  rw [if_pos h, e]
/-- names, where the store is cut back: what cannot be told is not known -/
def frzE (st : Store) (base : Nat) (env : Env) : Env := env.map fun o => o.bind (frz st base depthD)
open Classical in
noncomputable def cutE (st st' : Store) (env : Env) (k : Env → Store → RS) : RS := if CutOk st st' then k (frzE st' st.length env) (st'.take st.length) else .stuck
/-- is the class c one that the clause h takes? -/
def subOf (c h : Str) : Bool := decide (c = h) || decide (h = ("ClayError" : Str))
section
variable (C : Str → List Val → M Val) (xs : List Str)
mutual
noncomputable def exS : S → Env → Store → RS
  | .asg tg e, env => lift env (evE C e env) fun v st => optS (assignTg tg v env) fun env' => .ok (.nx env') st
  | .sset o i e, env => lift env (evE C e env) fun v => lift env (evE C o env) fun ov => lift env (evE C i env) fun iv st => optS (setOp st ov iv v) fun st' => .ok (.nx env) st'
  | .par i j a b, env => lift env (evE C a env) fun v => lift env (evE C b env) fun w st => .ok (.nx ((env.set i (some v)).set j (some w))) st
  | .fset c o f k e, env => lift env (evE C e env) fun v => lift env (evE C o env) fun ov st => optS (fsetOp st c f k ov v) fun st' => .ok (.nx env) st'
  | .faug c o f k i, env => lift env (evE C o env) fun ov st => optS (faugOp st c f k i ov) fun st' => .ok (.nx env) st'
  | .expr e, env => lift env (evE C e env) fun _ st => .ok (.nx env) st
  | .ret e, env => lift env (evE C e env) fun v st => .ok (.rt v) st
  | .retN, _ => fun st => .ok (.rt .non) st
  | .iff c a b, env => lift env (bnd (evE C c env) asBl) fun k => if k = true then exSs a env else exSs b env
  | .forS tg it body, env => lift env (evI C it env) fun is => forLoop (exSs body) tg (Still is) is.xs env
  | .pass, env => fun st => .ok (.nx env) st
  | .raiseS c _, env => fun st => .exc c none env st
  | .tryS body hs, env => fun st => match exSs body env st with
    | .exc c row env' st' => if xs.contains c = true then exHs c row hs env' st' else .stuck
    | r => r
noncomputable def exSs : Ss → Env → Store → RS
  | .nil, env => fun st => .ok (.nx env) st
  | .cons s ss, env => fun st => match exS s env st with
    | .ok (.nx env') st' => exSs ss env' st'
    | r => r
  | .two s t ss, env => fun st => match exS s env st with
    | .ok (.nx env1) st1 => (match exS t env1 st1 with
      | .ok (.nx env2) st2 => cutE st st2 env2 (exSs ss)
      | _ => .stuck)
    | _ => .stuck
/-- the clauses, one after the other -/
@[simp] noncomputable def exHs (c : Str) (row : Option Int) : Hs → Env → Store → RS
  | .nil, env => fun st => .exc c row env st
  | .cons h b hs, env => fun st => if subOf c h = true then (match exSs b env st with
    | .exc _ _ _ _ => .stuck
    | r => r) else exHs c row hs env st
end
end
/-- a def: its parameters' count, its names' count, its body -/
structure Df where
  ps : Nat
  ns : Nat
  body : Ss
@[simp] def startEnv (n : Nat) (args : List Val) : Env := args.map some ++ List.replicate (n - args.length) none
@[simp] noncomputable def runDf (C : Str → List Val → M Val) (xs : List Str) (d : Df) (args : List Val) : M Val := fun st =>
  if args.length = d.ps then match exSs C xs d.body (startEnv d.ns args) st with
    | .ok (.rt v) st' => .ok v st'
    | .ok (.nx _) st' => .ok .non st'
    | .exc c row _ st' => .exc c row st'
    | .stuck => .stuck
  else .stuck
noncomputable def callF (defs : List (Str × Df)) (inits : List (Str × Str)) (xs : List Str) : Nat → Str → List Val → M Val
  | 0 => fun f => match inits.lookup f with
    | some _ => mkNew f fun _ => stuck
    | none => fun _ => stuck
  | n + 1 => fun f => match inits.lookup f with
    | some g => mkNew f (callF defs inits xs n g)
    | none => match defs.lookup f with
      | some d => runDf (callF defs inits xs n) xs d
      | none => fun _ => stuck

/-! ### the looks -/
structure SigS extends Sig where
  excs : List Str
def ckHdl (c : Str) : Expr → Bool
  | .Name x _ => decide (x = c)
  | _ => false
/-- a comprehension that is stored to a name at once -/
def swapB (ct : Ct) (scope : Scope) (y : Str) (py pos : Pos) : Bool :=
  decide (ct.sc.names.lookup y = some .local) && (py.line == pos.line) && !(scope.names.any fun p => p.1 == y && (p.2 == .local || p.2 == .cell))
def plainVal : Expr → Bool
  | .ListComp .. | .Tuple .. => false
  | _ => true
/-- X('m') -/
def ckMade (ct : Ct) (xs : List Str) (c m : Str) : Expr → Bool
  | .Call (.Name x _) [.Constant (.str m') _ _] [] _ => ct.cal && decide (c = x) && decide (m = m') && isGl ct.sc x && noDbg x && xs.contains x
  | _ => false
theorem ckMade_of {ct : Ct} {xs : List Str} {c m : Str} {e : Expr} (h : ckMade ct xs c m e = true) : ∃ p j p2 pos, e = .Call (.Name c p) [.Constant (.str m) j p2] [] pos ∧ ct.cal = true ∧ isGl ct.sc c = true ∧ noDbg c = true ∧ c ∈ xs := by
  unfold ckMade at h
  split at h
  · simp only [Bool.and_eq_true] at h
    obtain ⟨⟨⟨⟨⟨h1, h2⟩, h3⟩, h4⟩, h5⟩, h6⟩ := h
    have := of_decide_eq_true h2
    subst this
    have := of_decide_eq_true h3
    subst this
    exact ⟨_, _, _, _, rfl, h1, h4, h5, List.contains_iff_mem.mp h6⟩
  · cases h
def ckRaise (g : SigS) (ct : Ct) (c m : Str) : Option Expr → Option Expr → Bool
  | some e, none => ckMade ct g.excs c m e
  | _, _ => false
def ckInt (i : Int) : Expr → Bool
  | .Constant (.int j) _ _ => decide (i = j)
  | _ => false
def parOk (y z : Str) (py pz : Pos) (v w : Expr) : Bool := !(y == z) && (pz.line == py.line) && !(foldedForSure 8 v && foldedForSure 8 w) && !(constantsAlone 8 v && constantsAlone 8 w)
/-- a plain local name -/
def ckLoc (ct : Ct) (i : Nat) : Expr → Bool
  | .Name x _ => decide (ct.N[i]? = some x) && decide (ct.sc.names.lookup x = some .local)
  | _ => false
section
variable (g : SigS)
mutual
def ckS (ct : Ct) : S → Stmt → Bool
  | .asg (.nm i) e, .Assign [.Name y py] v _ => ckName ct i (.Name y py) && okHead v && ckE g.toSig ct e v
  | .asg (.tup is) e, .Assign [.Tuple ts k p] v _ => ckTg ct (.tup is) (.Tuple ts k p) && okHead v && plainVal v && ckE g.toSig ct e v
  | .sset o i e, .Assign [.Subscript a b _] v _ => okHead v && ckE g.toSig ct e v && okHead a && ckE g.toSig ct o a && okHead b && ckE g.toSig ct i b
  | .par i j a b, .Assign [.Tuple [.Name y py, .Name z pz] k p] (.Tuple [v, w] _ _) _ => ct.cal && ckLoc ct i (.Name y py) && ckLoc ct j (.Name z pz) && decide (i ≠ j) && parOk y z py pz v w && okHead v && ckE g.toSig ct a v && okHead w && ckE g.toSig ct b w
  | .fset c o f _ e, .Assign [.Attribute ob x _] v _ => decide (f = x) && g.flds.contains (c, f) && okHead v && ckE g.toSig ct e v && okHead ob && ckE g.toSig ct o ob
  | .faug c o f _ i, .AugAssign (.Attribute ob x _) op v _ => decide (op = .Add) && decide (f = x) && g.flds.contains (c, f) && ckInt i v && okHead ob && ckE g.toSig ct o ob
  | .expr e, .Expr v _ => okHead v && plainVal v && ckE g.toSig ct e v
  | .ret e, .Return (some v) _ => okHead v && ckE g.toSig ct e v
  | .retN, .Return none _ => true
  | .iff c a b, .If t x y _ => okHead t && tst c && ckE g.toSig ct c t && ckSs ct a x && ckSs ct b y
  | .forS tg it body, .For t x b [] _ => enumOk it t && ct.cal && ckTg ct tg t && ckI g.toSig ct it x && ckSs ct body b
  | .pass, .Pass _ => true
  | .raiseS c m, .Raise ex cause _ => ckRaise g ct c m ex cause
  | .tryS body hs, .Try b (h :: hds) [] [] _ => ct.cal && ckSs ct body b && ckHs ct hs (h :: hds)
  | _, _ => false
def ckSs (ct : Ct) : Ss → List Stmt → Bool
  | .nil, [] => true
  | .cons s ss, x :: xs => ckS ct s x && ckSs ct ss xs
  | .two s t ss, x :: y :: xs => ckS ct s x && ckS ct t y && ckSs ct ss xs
  | _, _ => false
def ckHs (ct : Ct) : Hs → List ExceptHandler → Bool
  | .nil, [] => true
  | .cons c b hs, .ExceptHandler (some (.Name x _)) none (y :: ys) _ :: hds => decide (x = c) && isGl ct.sc x && noDbg x && g.excs.contains x && ckSs { ct with cal := false } b (y :: ys) && ckHs ct hs hds
  | _, _ => false
end
end
end Rc
/-! Rc10: statements, by induction. -/
namespace Rc
open PySem L2

def PostS (K : PySem.W.Frag) (W : WX) (D : Ends) (n : Nat) (ρ : Pl) (H : Hp) : RS → Prop
  | .ok (.nx env') st' => ∀ ρ' σ' H', Ext ρ H ρ' H' → RelS K ρ' st' H' → RelE K ρ' H' env' σ' → σ'.length = n → D.nx σ' H'
  | .ok (.rt v) st' => ∀ ρ' w H', Ext ρ H ρ' H' → RelS K ρ' st' H' → Rep K ρ' H' v w → D.rt w H'
  | .exc c row env' st' => ∀ ρ' d σ' H', Ext ρ H ρ' H' → RelS K ρ' st' H' → RelE K ρ' H' env' σ' → σ'.length = n → ExcAt H' row d → W (.ref (He.ga K c)) d σ' H'
  | .stuck => False
def tS (K : PySem.W.Frag) (W : WX) (n : Nat) (m : Env → Store → RS) : TS := fun D σ H => σ.length = n ∧ ∃ ρ env st, RelE K ρ H env σ ∧ RelS K ρ st H ∧ PostS K W D n ρ H (m env st)
theorem PostS.later {K : PySem.W.Frag} {W : WX} {D : Ends} {n : Nat} {ρ ρ1 : Pl} {H H1 : Hp} {r : RS} (h : PostS K W D n ρ H r) (e : Ext ρ H ρ1 H1) : PostS K W D n ρ1 H1 r := by
  cases r with
  | ok f st =>
    cases f with
    | nx env => exact fun ρ' σ' H' e' => h ρ' σ' H' (e.trans e')
    | rt v => exact fun ρ' w H' e' => h ρ' w H' (e.trans e')
  | exc c row env st => exact fun ρ' d σ' H' e' => h ρ' d σ' H' (e.trans e')
  | stuck => exact h
/-- a run of an expression, then the rest of the statement -/
theorem PostS.lift {K : PySem.W.Frag} {α β : Type} {rel : Pl → Hp → α → β → Prop} {W : WX} {D : Ends} {σ : L2.St} {ρ : Pl} {H : Hp} {env : Env} {m : M α} {k : α → Store → RS} {st : Store} {Q : β → Hp → Prop} (rE : RelE K ρ H env σ)
    (h : PostS K W D σ.length ρ H (Rc.lift env m k st)) (f : ∀ a st1 ρ1 b H1, Ext ρ H ρ1 H1 → RelS K ρ1 st1 H1 → rel ρ1 H1 a b → PostS K W D σ.length ρ1 H1 (k a st1) → Q b H1) : Post K rel W σ ρ H Q (m st) := by
  unfold Rc.lift at h
  cases e : m st with
  | ok a st1 =>
    rw [e] at h
    exact fun ρ' w H' x s q => f a st1 ρ' w H' x s q (PostS.later h x)
  | exc c row st1 =>
    rw [e] at h
    exact fun ρ' d H' x s q => h ρ' d σ H' x s (rE.ext x) rfl q
  | stuck =>
    rw [e] at h
    exact h
theorem PostS.liftI {K : PySem.W.Frag} {W : WX} {D : Ends} {σ : L2.St} {ρ : Pl} {H : Hp} {env : Env} {m : M Items} {k : Items → Store → RS} {st : Store} {R' : L2.It → Hp → Prop} (rE : RelE K ρ H env σ)
    (h : PostS K W D σ.length ρ H (Rc.lift env m k st)) (f : ∀ is st1 ρ1 J H1, is.xs.length ≤ sizeLine → Ext ρ H ρ1 H1 → RelS K ρ1 st1 H1 → ItOk K ρ1 H1 is J → PostS K W D σ.length ρ1 H1 (k is st1) → R' J H1) : PostI K W σ ρ H R' (m st) := by
  unfold Rc.lift at h
  cases e : m st with
  | ok a st1 =>
    rw [e] at h
    exact fun hz ρ' J H' x s q => f a st1 ρ' J H' hz x s q (PostS.later h x)
  | exc c row st1 =>
    rw [e] at h
    exact fun ρ' d H' x s q => h ρ' d σ H' x s (rE.ext x) rfl q
  | stuck =>
    rw [e] at h
    exact h
theorem PostS.opt {K : PySem.W.Frag} {α : Type} {W : WX} {D : Ends} {n : Nat} {ρ : Pl} {H : Hp} {o : Option α} {k : α → RS} (h : PostS K W D n ρ H (optS o k)) : ∃ a, o = some a ∧ PostS K W D n ρ H (k a) := by
  cases o with
  | none => exact h.elim
  | some a => exact ⟨a, rfl, h⟩
theorem PS.impL {X : Cx} {e : Stmt} {t t' : TS} (h : PS X e t) (k : ∀ D σ H, t' D σ H → t D σ H) : PS X e t' := ⟨fun pins s σ H D I q => h.run pins s σ H D I (k D σ H q)⟩

structure GoodS (X : Cx) (g : SigS) (ct : Ct) (n : Nat) (C : Str → List Val → M Val) (W : WX) : Prop extends Good X g.toSig ct n C W where
  kind : X.env.scope.kind = .function
  own : PassesOwn (model X.prog X.w) X.A X.env X.xe
  stk : X.stack = X.env :: X.outer
  frm : X.env.frame = some X.env.locals
  exm : ∀ c ∈ g.excs, ∀ h ∈ g.excs, PySem.W.exmOne X.K (.ref (He.ga X.K c)) (.ref (He.ga X.K h)) = some (subOf c h)
  exc : ∀ c ∈ g.excs, X.mg c = some (.ref (He.ga X.K c)) ∧ ∀ (X' : Cx), X'.K = X.K → X'.mg = X.mg → Gl X' c → (c == ("__debug__" : Str)) = false → ∀ (m : Str) (j : Nat) (p p2 pos : Pos), PMk X' (.Call (.Name c p) [.Constant (.str m) j p2] [] pos) (fun _ H Q => Q (.ref (He.ga X.K c)) none H)
section
variable {g : SigS} {n : Nat} {C : Str → List Val → M Val} {X : Cx} {ct : Ct} {W : WX}
theorem GoodS.tr (G : GoodS X g ct n C W) {W' : WX} (pn : List (Addr × Obj)) (xe : Value → Shared → Prop) (tk : Takes (X.tr pn xe) W') (po : PassesOwn (model X.prog X.w) X.A X.env xe) : GoodS (X.tr pn xe) g ct n C W' where
  sc := G.sc
  N := G.N
  nd := G.nd
  stor := G.stor
  calm := G.calm
  room := G.room
  units := G.units
  takes := tk
  frees := G.frees
  globs := G.globs
  defs := G.defs
  clss := G.clss
  meths := G.meths
  flds := G.flds
  tups := G.tups
  dics := G.dics
  kind := G.kind
  own := po
  stk := G.stk
  frm := G.frm
  exm := G.exm
  exc := G.exc
theorem GoodS.suite (G : GoodS X g ct n C W) (a : Addr) (pn : List (Addr × Obj)) : GoodS (X.suite a pn) g { ct with cal := false } n C F0 where
  sc := G.sc
  N := G.N
  nd := G.nd
  stor := G.stor
  calm := fun h => by cases h
  room := fun h => by cases h
  units := G.units
  takes := takes0
  frees := G.frees
  globs := G.globs
  defs := G.defs
  clss := G.clss
  meths := G.meths
  flds := G.flds
  tups := G.tups
  dics := G.dics
  kind := G.kind
  own := PassesOwn.never
  stk := G.stk
  frm := G.frm
  exm := G.exm
  exc := G.exc
end
/-! ### rules -/
/-- every clause's class is known -/
def hsIn (xs : List Str) : Hs → Prop
  | .nil => True
  | .cons c _ hs => c ∈ xs ∧ hsIn xs hs
section
variable {g : SigS} {n : Nat} {C : Str → List Val → M Val} {X : Cx} {ct : Ct} {W : WX}
theorem sim_asg {tg : Tg} {st : Stmt} {m : Env → M Val} (h : PS X st (tAsg (tE X.K W m) (gTg X.K tg))) (hi : tgIn X.N.length tg) :
    PS X st (tS X.K W X.N.length fun env => lift env (m env) fun v st => optS (assignTg tg v env) fun env' => .ok (.nx env') st) := by
  refine PS.impL h fun D σ H q => ?_
  obtain ⟨hl, ρ, env, st, rE, rS, p⟩ := q
  rw [← hl] at p hi
  refine ⟨ρ, env, st, rE, rS, PostS.lift rE p fun v st1 ρ1 x H1 e1 s1 q1 p1 => ?_⟩
  obtain ⟨env', ea, p2⟩ := PostS.opt p1
  exact gTg_ok ea q1 (rE.ext e1) hi fun σ' rE' l' _ => p2 ρ1 σ' H1 (.refl _ _) s1 rE' l'
theorem set_S (hu : X.A.units + 100 < cLine) : PSet X (fun o i v H Q => ∃ (ρ : Pl) (st : Store) (ov iv vv : Val) (st' : Store), RelS X.K ρ st H ∧ Rep X.K ρ H ov o ∧ Rep X.K ρ H iv i ∧ Rep X.K ρ H vv v ∧ setOp st ov iv vv = some st' ∧ ∀ ρ' H', Ext ρ H ρ' H' → RelS X.K ρ' st' H' → Q H') := by
  intro pins s σ H o i v ov iv u Q I ro ri rv h
  obtain ⟨ρ, st, vo, vi, vv, st', rS, r1, r2, r3, e, q⟩ := h
  unfold setOp at e
  split at e
  · rename_i l
    cases r1 with
    | @loc _ a h =>
      have hm : a ∈ ρ := .inl (List.mem_of_getElem? h)
      unfold setAt at e
      split at e
      · rename_i xs hl
        split at e
        · obtain ⟨j, ej, rfl⟩ := Option.map_eq_some_iff.mp e
          cases r2
          obtain ⟨u0, e1, e2⟩ := rS.at_ _ a _ h hl
          cases e2 with
          | @lst _ ws qw =>
            have z := rS.wrote (o := .lst (xs.set j vv)) h (.lst ((qw.set r3 j).ext0 (.wrote hm)))
            exact set_list pins s σ H _ _ _ ov iv u Q I ro ri rv ⟨a, ws, _, j, rfl, rfl, e1, by rw [← qw.length]; exact ej, q ρ _ z.2 z.1⟩
        · cases e
      · rename_i kvs hl
        split at e
        · rename_i hz
          have hz := of_decide_eq_true hz
          obtain ⟨k, ek, rfl⟩ := Option.map_eq_some_iff.mp e
          obtain ⟨u0, e1, e2⟩ := rS.at_ _ a _ h hl
          cases e2 with
          | @dK _ kws hk qw =>
            have hy := keyOf_rep r2 ek
            subst hy
            have D := DRel.mk hk qw
            have D' := (D.put k r3).ext0 (Ext0.wrote (o := .dK (putK kws k v)) hm)
            have z := rS.wrote (o := .dK (put kvs k vv)) h (.dK D'.keys D'.vals)
            cases ro
            have hl2 := D.len
            exact d_setItem (by omega) I (DPut.k (k := k) e1 (by show _ < 16777216; omega)) ri rv fun s' I' => ⟨_, I', q ρ _ z.2 z.1⟩
        · cases e
      · rename_i kvs hl
        split at e
        · rename_i hz
          have hz := of_decide_eq_true hz
          obtain ⟨k, ek, rfl⟩ := Option.map_eq_some_iff.mp e
          obtain ⟨u0, e1, e2⟩ := rS.at_ _ a _ h hl
          cases e2 with
          | @dT _ kws hk qw =>
            obtain ⟨b, rfl, hb⟩ := keyT_rep r2 ek
            have D := DRel.mk hk qw
            have D' := (D.put k r3).ext0 (Ext0.wrote (o := .dT (putK kws k v)) hm)
            have z := rS.wrote (o := .dT (put kvs k vv)) h (.dT D'.keys D'.vals)
            cases ro
            have hl2 := D.len
            exact d_setItem (by omega) I (DPut.t (k := k) e1 hb (by show _ < 16777216; omega)) ri rv fun s' I' => ⟨_, I', q ρ _ z.2 z.1⟩
        · cases e
      · cases e
  · cases e
theorem putF_set : ∀ {gs : List (Str × V)} {k : Nat} {f : Str} {w v : V}, (gs.map (·.1)).Nodup → gs[k]? = some (f, w) → putF f v gs = gs.set k (f, v)
  | [], k, f, w, v, _, h => by simp at h
  | (g, x) :: gs, 0, f, w, v, _, h => by
    simp at h
    obtain ⟨rfl, rfl⟩ := h
    show (if g = g then _ else _) = _
    rw [if_pos rfl]
    rfl
  | (g, x) :: gs, k + 1, f, w, v, nd, h => by
    rw [List.map_cons, List.nodup_cons] at nd
    have h : gs[k]? = some (f, w) := by simpa using h
    have hne : ¬ g = f := fun e => nd.1 (by
      subst e
      exact List.mem_map.mpr ⟨_, List.mem_of_getElem? h, rfl⟩)
    show (if g = f then _ else _) = _
    rw [if_neg hne, putF_set nd.2 h]
    rfl
theorem putF_new : ∀ {gs : List (Str × V)} {f : Str} {v : V}, (∀ p ∈ gs, ¬ p.1 = f) → putF f v gs = gs ++ [(f, v)]
  | [], f, v, _ => rfl
  | (g, x) :: gs, f, v, h => by
    show (if g = f then _ else _) = _
    rw [if_neg (h (g, x) (by simp)), putF_new fun p hp => h p (by simp [hp])]
    rfl
/-- a field is written -/
theorem fset_S {K : PySem.W.Frag} {ρ : Pl} {st st' : Store} {H : Hp} {c f : Str} {k : Nat} {ov vv : Val} {x y : V} (rS : RelS K ρ st H) (ro : Rep K ρ H ov x) (rv : Rep K ρ H vv y) (hf : NoAttr K (He.ga K c) f) (e : fsetOp st c f k ov vv = some st') :
    ∃ a dx gs, x = .ref a ∧ H a = some (.ins (He.ga K c) dx gs) ∧ Cls K (He.ga K c) ∧ gs.length < 1000 ∧ RelS K ρ st' (upd H a (.ins (He.ga K c) dx (putF f y gs))) ∧ Ext ρ H ρ (upd H a (.ins (He.ga K c) dx (putF f y gs))) := by
  unfold fsetOp at e
  split at e
  · rename_i l
    cases ro with
    | @loc _ a h =>
      have hm : a ∈ ρ := .inl (List.mem_of_getElem? h)
      unfold fsetAt at e
      split at e
      · rename_i d fs eo
        split at e
        · rename_i hc
          subst hc
          obtain ⟨gs', ep, rfl⟩ := Option.map_eq_some_iff.mp e
          obtain ⟨u, e1, e2⟩ := rS.at_ _ a _ h eo
          cases e2 with
          | @ins _ dx _ gs io hd hn hk q =>
            have hlen : fs.length = gs.length := by
              have := congrArg List.length hk
              simpa using this
            have wr : ∀ {o : HO}, Ext0 ρ H ρ (upd H a o) := .wrote hm
            have hdx : ∀ {o : HO}, upd H a o dx = some (.own a) := by
              intro o
              rw [upd_ne (show dx ≠ a from fun z => hn (z ▸ hm))]
              exact hd
            unfold putFld at ep
            cases ef : fs[k]? with
            | some pr =>
              rw [ef] at ep
              dsimp only at ep
              split at ep
              · rename_i hpf
                cases ep
                obtain ⟨f', v'⟩ := pr
                obtain ⟨hpf, h100⟩ := hpf
                dsimp only at hpf
                subst hpf
                obtain ⟨w, e4, r⟩ := fld_at hk q ef
                have hk2 := (List.getElem?_eq_some_iff.mp e4).1
                have es : putF f' y gs = gs.set k (f', y) := putF_set io.nd e4
                have kn : ((gs.set k (f', y)).map (·.1)) = gs.map (·.1) := by
                  rw [List.map_set]
                  refine List.ext_getElem? fun i => ?_
                  by_cases hi : i = k
                  · subst hi
                    rw [List.getElem?_set_self (by rw [List.length_map]; exact hk2), List.getElem?_map, e4]
                    rfl
                  · rw [List.getElem?_set_ne (Ne.symm hi)]
                have io' : InsOk K d (gs.set k (f', y)) := ⟨io.cls, by rw [kn]; exact io.nd, fun p hp => by
                  rcases List.mem_or_eq_of_mem_set hp with hp | hp
                  · exact io.noat p hp
                  · subst hp; exact hf⟩
                have kf : ((fs.set k (f', vv)).map (·.1)) = (gs.set k (f', y)).map (·.1) := by
                  rw [kn, ← hk, List.map_set]
                  refine List.ext_getElem? fun i => ?_
                  by_cases hi : i = k
                  · subst hi
                    rw [List.getElem?_set_self (by rw [List.length_map]; omega), List.getElem?_map, ef]
                    rfl
                  · rw [List.getElem?_set_ne (Ne.symm hi)]
                have z := rS.wrote (o := .ins d (fs.set k (f', vv))) (u := .ins (He.ga K d) dx (putF f' y gs)) h (by
                  rw [es]
                  refine .ins io' hdx hn kf ?_
                  rw [List.map_set, List.map_set]
                  exact ((q.set rv k).ext0 wr))
                exact ⟨a, dx, gs, rfl, e1, io.cls, by omega, z.1, z.2⟩
              · cases ep
            | none =>
              rw [ef] at ep
              dsimp only at ep
              split at ep
              · rename_i hcc
                cases ep
                simp only [Bool.and_eq_true, decide_eq_true_eq, List.all_eq_true, Bool.not_eq_true', decide_eq_false_iff_not] at hcc
                obtain ⟨⟨hk1, hk2⟩, hall⟩ := hcc
                have hng : ∀ p ∈ gs, ¬ p.1 = f := fun p hp z => by
                  have : p.1 ∈ fs.map (·.1) := by rw [hk]; exact List.mem_map.mpr ⟨p, hp, rfl⟩
                  obtain ⟨p', hp', e'⟩ := List.mem_map.mp this
                  exact hall p' hp' (e'.trans z)
                have es : putF f y gs = gs ++ [(f, y)] := putF_new hng
                have io' : InsOk K d (gs ++ [(f, y)]) := ⟨io.cls, by
                  rw [List.map_append, List.nodup_append]
                  refine ⟨io.nd, by simp, fun x hx b hb => ?_⟩
                  obtain ⟨p, hp, rfl⟩ := List.mem_map.mp hx
                  simp at hb
                  subst hb
                  exact hng p hp, fun p hp => by
                  rcases List.mem_append.mp hp with hp | hp
                  · exact io.noat p hp
                  · rw [List.mem_singleton.mp hp]; exact hf⟩
                have z := rS.wrote (o := .ins d (fs ++ [(f, vv)])) (u := .ins (He.ga K d) dx (putF f y gs)) h (by
                  rw [es]
                  refine .ins io' hdx hn (by simp [hk]) ?_
                  rw [List.map_append, List.map_append]
                  exact (q.append (.cons rv .nil)).ext0 wr)
                exact ⟨a, dx, gs, rfl, e1, io.cls, by omega, z.1, z.2⟩
              · cases ep
        · cases e
      · cases e
  · cases e
theorem sim_fset {c f : Str} {k : Nat} {o v : Expr} {mo mv : Env → M Val} {pos p2 : Pos} (hv : PE X v (tE X.K W mv)) (ho : PE X o (tE X.K W mo)) (hf : NoAttr X.K (He.ga X.K c) f) (hsw : swapsWith v (some (.Attribute o f p2)) pos.line X.env = pure false) :
    PS X (.Assign [.Attribute o f p2] v pos) (tS X.K W X.N.length fun env => lift env (mv env) fun v => lift env (mo env) fun ov st => optS (fsetOp st c f k ov v) fun st' => .ok (.nx env) st') := by
  refine PS.impL (ps_fld ho hv hsw) fun D σ H q => ?_
  obtain ⟨hl, ρ, env, st, rE, rS, p⟩ := q
  rw [← hl] at p
  refine ⟨ρ, env, st, rE, rS, PostS.lift rE p fun vv st1 ρ1 x H1 e1 s1 q1 p1 => ?_⟩
  refine ⟨ρ1, env, st1, rE.ext e1, s1, PostS.lift (rE.ext e1) p1 fun vo st2 ρ2 y H2 e2 s2 q2 p2 => ?_⟩
  obtain ⟨st', es, p4⟩ := PostS.opt p2
  obtain ⟨a, dx, gs, rfl, ea, hcl, hlt, rS', x'⟩ := fset_S s2 q2 (q1.ext e2) hf es
  exact ⟨a, _, dx, gs, rfl, ea, hcl, hf, hlt, p4 ρ2 σ _ x' rS' (((rE.ext e1).ext e2).ext x') rfl⟩
theorem sim_faug {c f : Str} {k : Nat} {i : Int} {o : Expr} {mo : Env → M Val} {pos tpos p1 : Pos} {j : Nat} (ho : PE X o (tE X.K W mo)) (hf : NoAttr X.K (He.ga X.K c) f) :
    PS X (.AugAssign (.Attribute o f tpos) .Add (.Constant (.int i) j p1) pos) (tS X.K W X.N.length fun env => lift env (mo env) fun ov st => optS (faugOp st c f k i ov) fun st' => .ok (.nx env) st') := by
  refine PS.impL (ps_fldaug ho (pe_int (i := i)) in_add) fun D σ H q => ?_
  obtain ⟨hl, ρ, env, st, rE, rS, p⟩ := q
  rw [← hl] at p
  refine ⟨ρ, env, st, rE, rS, PostS.lift rE p fun vo st1 ρ1 x H1 e1 s1 q1 p1 => ?_⟩
  obtain ⟨st', es0, p4⟩ := PostS.opt p1
  unfold faugOp at es0
  obtain ⟨v, ev, es1⟩ := Option.bind_eq_some_iff.mp es0
  obtain ⟨n, en, es⟩ := Option.bind_eq_some_iff.mp es1
  clear es0 es1 p1
  have hv : v = .int n := by cases v <;> cases en; rfl
  subst hv
  obtain ⟨a, dx, gs, rfl, ea, hcl, hlt, rS', x'⟩ := fset_S s1 q1 (.int (n + i)) hf es
  clear es
  have hlk : gs.lookup f = some (.int n) := by
    unfold fldOp at ev
    split at ev
    · rename_i l
      cases q1 with
      | @loc _ _ h =>
        cases eo : st1[l]? with
        | none => rw [eo] at ev; cases ev
        | some ob =>
          rw [eo] at ev
          obtain ⟨u, e2, e3⟩ := s1.at_ _ a _ h eo
          cases e3 with
          | lst _ => cases ev
          | dK _ _ => cases ev
          | dT _ _ => cases ev
          | @ins _ _ fs gs' io hd hn hk q =>
            rw [ea] at e2
            injection e2 with e2
            injection e2 with e5 e6 e7
            subst e7
            unfold obFld at ev
            dsimp only at ev
            cases ef : fs[k]? with
            | none => rw [ef] at ev; cases ev
            | some pr =>
              rw [ef] at ev
              dsimp only at ev
              split at ev
              · rename_i hpf
                obtain ⟨f', v'⟩ := pr
                dsimp only at hpf
                subst hpf
                cases ev
                obtain ⟨w, e4, r⟩ := fld_at hk q ef
                cases r
                exact lookup_of_nodup io.nd e4
              · cases ev
    · cases ev
  exact ⟨a, _, dx, gs, .int n, rfl, ea, hcl, hf, hlk, n, i, rfl, rfl, dx, gs, ea, hlt, p4 ρ1 σ _ x' rS' ((rE.ext e1).ext x') rfl⟩
theorem sim_par {i j : Nat} {a b : Expr} {m1 m2 : Env → M Val} {st0 : Stmt} (h : PS X st0 (tPar i j (tCons (tE X.K W m1) (tCons (tE X.K W m2) tNil)))) (hi : i < X.N.length) (hj : j < X.N.length) :
    PS X st0 (tS X.K W X.N.length fun env => lift env (m1 env) fun v => lift env (m2 env) fun w st => .ok (.nx ((env.set i (some v)).set j (some w))) st) := by
  refine PS.impL h fun D σ H q => ?_
  obtain ⟨hl, ρ, env, st, rE, rS, p⟩ := q
  rw [← hl] at p hi hj
  refine ⟨ρ, env, st, rE, rS, PostS.lift rE p fun v st1 ρ1 x H1 e1 s1 q1 p1 => ?_⟩
  refine ⟨ρ1, env, st1, rE.ext e1, s1, PostS.lift (rE.ext e1) p1 fun w st2 ρ2 y H2 e2 s2 q2 p2 => ?_⟩
  refine ⟨x, y, rfl, p2 ρ2 _ H2 (.refl _ _) s2 ?_ (by simp)⟩
  exact (((rE.ext e1).ext e2).set i hi (q1.ext e2)).set j (by simpa using hj) q2
theorem sim_sset {o i v : Expr} {mo mi mv : Env → M Val} {pos p2 : Pos} (hu : X.A.units + 100 < cLine) (hv : PE X v (tE X.K W mv)) (ho : PE X o (tE X.K W mo)) (hi : PE X i (tE X.K W mi)) (hx : PlainIx i) (hsw : swapsWithSole [.Subscript o i p2] v pos.line X.env = pure false)
    (ha : ∀ v, assign (.Subscript o i p2) X.env v = (do
      let ov ← holding [v] (eval o X.env)
      let iv ← holding [v, ov] (eval i X.env)
      standAt p2
      holding [v, ov, iv] (setItem ov iv v)
      release [v, ov, iv] [])) :
    PS X (.Assign [.Subscript o i p2] v pos) (tS X.K W X.N.length fun env => lift env (mv env) fun v => lift env (mo env) fun ov => lift env (mi env) fun iv st => optS (setOp st ov iv v) fun st' => .ok (.nx env) st') := by
  refine PS.impL (ps_asg hv (pg_sub ho hi (set_S hu) ha) hsw rfl rfl) fun D σ H q => ?_
  obtain ⟨hl, ρ, env, st, rE, rS, p⟩ := q
  rw [← hl] at p
  refine ⟨ρ, env, st, rE, rS, PostS.lift rE p fun vv st1 ρ1 x H1 e1 s1 q1 p1 => ?_⟩
  refine ⟨ρ1, env, st1, rE.ext e1, s1, PostS.lift (rE.ext e1) p1 fun vo st2 ρ2 y H2 e2 s2 q2 p2 => ?_⟩
  refine ⟨ρ2, env, st2, (rE.ext e1).ext e2, s2, PostS.lift ((rE.ext e1).ext e2) p2 fun vi st3 ρ3 z H3 e3 s3 q3 p3 => ?_⟩
  obtain ⟨st', es, p4⟩ := PostS.opt p3
  exact ⟨ρ3, st3, vo, vi, vv, st', s3, q2.ext e3, q3, (q1.ext e2).ext e3, es, fun ρ' H' x s => p4 ρ' σ H' x s ((((rE.ext e1).ext e2).ext e3).ext x) rfl⟩
theorem sim_expr {v : Expr} {m : Env → M Val} {pos : Pos} (hv : PE X v (tE X.K W m)) (hs : swapsWith v none pos.line X.env = pure false) : PS X (.Expr v pos) (tS X.K W X.N.length fun env => lift env (m env) fun _ st => .ok (.nx env) st) := by
  refine PS.impL (ps_expr hv hs) fun D σ H q => ?_
  obtain ⟨hl, ρ, env, st, rE, rS, p⟩ := q
  rw [← hl] at p
  refine ⟨ρ, env, st, rE, rS, PostS.lift rE p fun vv st1 ρ1 x H1 e1 s1 q1 p1 => ?_⟩
  exact p1 ρ1 σ H1 (.refl _ _) s1 (rE.ext e1) rfl
theorem sim_ret {v : Expr} {m : Env → M Val} {pos : Pos} (hv : PE X v (tE X.K W m)) : PS X (.Return (some v) pos) (tS X.K W X.N.length fun env => lift env (m env) fun v st => .ok (.rt v) st) := by
  refine PS.impL (ps_ret hv) fun D σ H q => ?_
  obtain ⟨hl, ρ, env, st, rE, rS, p⟩ := q
  rw [← hl] at p
  refine ⟨ρ, env, st, rE, rS, PostS.lift rE p fun vv st1 ρ1 x H1 e1 s1 q1 p1 => ?_⟩
  exact p1 ρ1 x H1 (.refl _ _) s1 q1
theorem sim_if {c : Expr} {a b : List Stmt} {mc : Env → M Val} {ma mb : Env → Store → RS} {pos : Pos} (hc : PT X c (tT X.K W mc)) (ha : PSs X a (tS X.K W X.N.length ma)) (hb : PSs X b (tS X.K W X.N.length mb)) :
    PS X (.If c a b pos) (tS X.K W X.N.length fun env => lift env (bnd (mc env) asBl) fun k => if k = true then ma env else mb env) := by
  refine PS.impL (ps_if hc ha hb) fun D σ H q => ?_
  obtain ⟨hl, ρ, env, st, rE, rS, p⟩ := q
  have hl' := hl
  rw [← hl] at p
  refine ⟨ρ, env, st, rE, rS, PostS.lift rE p fun k st1 ρ1 k' H1 e1 s1 q1 p1 => ?_⟩
  have q1 : k = k' := q1
  subst q1
  rw [hl] at p1
  cases k with
  | true => exact ⟨hl', ρ1, env, st1, rE.ext e1, s1, p1⟩
  | false => exact ⟨hl', ρ1, env, st1, rE.ext e1, s1, p1⟩
theorem sim_pass {pos : Pos} : PS X (.Pass pos) (tS X.K W X.N.length fun env => fun st => .ok (.nx env) st) := by
  refine PS.impL ps_pass fun D σ H q => ?_
  obtain ⟨hl, ρ, env, st, rE, rS, p⟩ := q
  exact p ρ σ H (.refl _ _) rS rE hl
theorem sim_ssNil : PSs X [] (tS X.K W X.N.length fun env => fun st => .ok (.nx env) st) := by
  refine PSs.imp pss_nil fun D σ H q => ?_
  obtain ⟨hl, ρ, env, st, rE, rS, p⟩ := q
  exact p ρ σ H (.refl _ _) rS rE hl
theorem sim_ssCons {s : Stmt} {ss : List Stmt} {m ms : Env → Store → RS} (h1 : PS X s (tS X.K W X.N.length m)) (h2 : PSs X ss (tS X.K W X.N.length ms)) : PSs X (s :: ss) (tS X.K W X.N.length fun env => fun st => match m env st with
    | .ok (.nx env') st' => ms env' st'
    | r => r) := by
  refine PSs.imp (pss_cons h1 h2) fun D σ H q => ?_
  obtain ⟨hl, ρ, env, st, rE, rS, p⟩ := q
  refine ⟨hl, ρ, env, st, rE, rS, ?_⟩
  dsimp only at p
  cases e : m env st with
  | ok f st1 =>
    rw [e] at p
    cases f with
    | nx env1 => exact fun ρ1 σ1 H1 e1 s1 rE1 l1 => ⟨l1, ρ1, env1, st1, rE1, s1, PostS.later p e1⟩
    | rt v => exact p
  | exc c row env1 st1 => rw [e] at p; exact p
  | stuck => rw [e] at p; exact p
theorem RelE.cut {K : PySem.W.Frag} {ρ ρ' : Pl} {H H' : Hp} {st st' : Store} {env : Env} {σ : L2.St} (rS : RelS K ρ st H) (e : Ext ρ H ρ' H') (rS' : RelS K ρ' st' H') (r : RelE K ρ' H' env σ) : RelE K ρ H' (frzE st' st.length env) σ := fun i v h => by
  unfold frzE at h
  rw [List.getElem?_map] at h
  obtain ⟨o, h1, h2⟩ := Option.map_eq_some_iff.mp h
  obtain ⟨v0, rfl, h3⟩ := Option.bind_eq_some_iff.mp h2
  obtain ⟨w, h4, h5⟩ := r i v0 h1
  have := frz_rep rS' _ h5 h3
  rw [e.cut_eq rS] at this
  exact ⟨w, h4, this⟩
theorem sim_ssTwo {s t : Stmt} {ss : List Stmt} {m1 m2 ms : Env → Store → RS} (h1 : PS X s (tS X.K W X.N.length m1)) (h2 : PS X t (tS X.K W X.N.length m2)) (h3 : PSs X ss (tS X.K W X.N.length ms)) : PSs X (s :: t :: ss) (tS X.K W X.N.length fun env => fun st => match m1 env st with
    | .ok (.nx env1) st1 => (match m2 env1 st1 with
      | .ok (.nx env2) st2 => cutE st st2 env2 ms
      | _ => .stuck)
    | _ => .stuck) := by
  refine PSs.imp (pss_cons h1 (pss_cons h2 h3)) fun D σ H q => ?_
  obtain ⟨hl, ρ, env, st, rE, rS, p⟩ := q
  refine ⟨hl, ρ, env, st, rE, rS, ?_⟩
  dsimp only at p
  cases e : m1 env st with
  | ok f st1 =>
    rw [e] at p
    cases f with
    | nx env1 =>
      intro ρ1 σ1 H1 e1 s1 rE1 l1
      refine ⟨l1, ρ1, env1, st1, rE1, s1, ?_⟩
      dsimp only at p
      cases e' : m2 env1 st1 with
      | ok f st2 =>
        rw [e'] at p
        cases f with
        | nx env2 =>
          intro ρ2 σ2 H2 e2 s2 rE2 l2
          dsimp only at p
          unfold cutE at p
          split at p
          · rename_i hc
            have ee := e1.trans e2
            exact ⟨l2, ρ, _, _, RelE.cut rS ee s2 rE2, rS.cut ee s2 hc, PostS.later p ee.back⟩
          · exact p.elim
        | rt v => exact p.elim
      | exc c row env2 st2 => rw [e'] at p; exact p.elim
      | stuck => rw [e'] at p; exact p.elim
    | rt v => exact p.elim
  | exc c row env1 st1 => rw [e] at p; exact p.elim
  | stuck => rw [e] at p; exact p.elim
theorem sim_for {tgE iterE : Expr} {body : List Stmt} {tg : Tg} {mI : Env → M Items} {mb : Env → Store → RS} {pos : Pos} (hp : PassesOwn (model X.prog X.w) X.A X.env X.xe) (hc : X.calm = true) (hi : PI X tgE iterE (tI X.K W mI)) (hg : PG X tgE (gTg X.K tg)) (hb : PSs X body (tS X.K W X.N.length mb))
    (hs : ∀ x, foldedSetIterable iterE X.env x = pure x) (hin : tgIn X.N.length tg) :
    PS X (.For tgE iterE body [] pos) (tS X.K W X.N.length fun env => lift env (mI env) fun is => forLoop mb tg (Still is) is.xs env) := by
  refine PS.impL (ps_for hp hc hi hg hb hs) fun D σ H q => ?_
  obtain ⟨hl, ρ, env, st, rE, rS, p⟩ := q
  rw [← hl] at p
  refine ⟨ρ, env, st, rE, rS, PostS.liftI rE p fun is st1 ρ1 J H1 hz e1 s1 hJ p1 => ?_⟩
  rw [hl] at p1
  refine ⟨fun i m σ H => m = is.xs.length - i ∧ i ≤ is.xs.length ∧ σ.length = X.N.length ∧ ∃ ρ' env' st', Ext ρ1 H1 ρ' H ∧ RelE X.K ρ' H env' σ ∧ RelS X.K ρ' st' H ∧ PostS X.K W D X.N.length ρ' H (forLoop mb tg (Still is) (is.xs.drop i) env' st'), ⟨_, rfl, Nat.zero_le _, hl, ρ1, env, st1, .refl _ _, rE.ext e1, s1, p1⟩, fun i m σ2 H2 hW => ?_⟩
  obtain ⟨rfl, hi2, hl2, ρ2, env2, st2, e2, rE2, s2, p2⟩ := hW
  by_cases hlt : i < is.xs.length
  · right
    have hget : is.xs[i]? = some is.xs[i] := List.getElem?_eq_getElem hlt
    rw [List.drop_eq_getElem_cons hlt] at p2
    rw [forLoop_eq] at p2
    unfold forRaw at p2
    try rw [← forLoop_eq] at p2
    by_cases hst : Still is st2
    · rw [if_pos hst] at p2
      obtain ⟨hgo, hy⟩ := (hJ i ρ2 st2 H2 e2.toExt0 s2 hst).1 _ hget
      refine ⟨hgo, fun σ' H' => i + 1 ≤ is.xs.length ∧ σ'.length = X.N.length ∧ ∃ ρ' env' st', Ext ρ1 H1 ρ' H' ∧ RelE X.K ρ' H' env' σ' ∧ RelS X.K ρ' st' H' ∧ PostS X.K W D X.N.length ρ' H' (forLoop mb tg (Still is) (is.xs.drop (i + 1)) env' st'), fun σ' H' hN => ?_, fun x H3 hyl => ?_⟩
      · obtain ⟨a1, a2, a3⟩ := hN
        exact ⟨is.xs.length - (i + 1), by omega, rfl, a1, a2, a3⟩
      · obtain ⟨x3, s3, r3⟩ := hy x H3 hyl
        cases eA : assignTg tg is.xs[i] env2 with
        | none => rw [eA] at p2; exact p2.elim
        | some env3 =>
          rw [eA] at p2
          dsimp only at p2
          refine gTg_ok eA r3 (rE2.ext x3) (by rw [hl2]; exact hin) fun σ3 rE3 l3 _ => ⟨by rw [l3, hl2], ρ2, env3, st2, rE3, s3, ?_⟩
          cases eB : mb env3 st2 with
          | ok f st4 =>
            rw [eB] at p2
            cases f with
            | nx env4 => exact fun ρ4 σ4 H4 e4 s4 rE4 l4 => ⟨hlt, l4, ρ4, env4, st4, e2.trans (x3.trans e4), rE4, s4, PostS.later p2 (x3.trans e4)⟩
            | rt v => exact fun ρ4 w H4 e4 s4 q4 => p2 ρ4 w H4 (x3.trans e4) s4 q4
          | exc c row env4 st4 => rw [eB] at p2; exact fun ρ4 d σ4 H4 e4 => p2 ρ4 d σ4 H4 (x3.trans e4)
          | stuck => rw [eB] at p2; exact p2.elim
    · rw [if_neg hst] at p2
      exact p2.elim
  · left
    rw [List.drop_eq_nil_of_le (by omega)] at p2
    rw [forLoop_eq] at p2
    unfold forRaw at p2
    try rw [← forLoop_eq] at p2
    by_cases hst : Still is st2
    · rw [if_pos hst] at p2
      exact ⟨(hJ i ρ2 st2 H2 e2.toExt0 s2 hst).2 (by omega), p2 ρ2 σ2 H2 (.refl _ _) s2 rE2 hl2⟩
    · rw [if_neg hst] at p2
      exact p2.elim
theorem sim_raise {c m : Str} {p p2 pos pos2 : Pos} {j : Nat} (hc : X.calm = true) (tk : Takes X W) (mk : PMk X (.Call (.Name c p) [.Constant (.str m) j p2] [] pos2) (fun _ H Q => Q (.ref (He.ga X.K c)) none H)) :
    PS X (.Raise (some (.Call (.Name c p) [.Constant (.str m) j p2] [] pos2)) none pos) (tS X.K W X.N.length fun env => fun st => .exc c none env st) := by
  refine PS.impL (ps_raise hc tk mk) fun D σ H q => ?_
  obtain ⟨hl, ρ, env, st, rE, rS, p⟩ := q
  exact p ρ none σ H (.refl _ _) rS rE hl rfl
/-- the clauses of a try: their classes and what their suites do -/
def hsT (K : PySem.W.Frag) (n : Nat) (C : Str → List Val → M Val) (xs : List Str) : Hs → List (Value × (Addr → Value → Option Addr → TS))
  | .nil => []
  | .cons c b hs => (.ref (He.ga K c), fun _ _ _ => tS K F0 n (exSs C xs b)) :: hsT K n C xs hs
theorem wMany_of {K : PySem.W.Frag} {Wout : WX} {D : Ends} {n : Nat} {xs : List Str} {c : Str} {row : Option Int} {env : Env} {st : Store} (hex : ∀ h ∈ xs, PySem.W.exmOne K (.ref (He.ga K c)) (.ref (He.ga K h)) = some (subOf c h)) : ∀ {hs : Hs} {ρ : Pl} {H : Hp} {d : Option Addr} {σ : L2.St}, hsIn xs hs → σ.length = n → RelE K ρ H env σ → RelS K ρ st H → ExcAt H row d →
    PostS K Wout D n ρ H (exHs C xs c row hs env st) → wMany K Wout D (hsT K n C xs hs) (.ref (He.ga K c)) d σ H
  | .nil, ρ, H, d, σ, _, hl, rE, rS, hd, p => p ρ d σ H (.refl _ _) rS rE hl hd
  | .cons h b hs, ρ, H, d, σ, hin, hl, rE, rS, hd, p => by
    unfold exHs at p
    refine ⟨subOf c h, hex h hin.1, fun e a na => ?_, fun e => ?_⟩
    · rw [e] at p
      refine ⟨hl, ρ, env, st, rE, rS, ?_⟩
      rw [if_pos rfl] at p
      cases eB : exSs C xs b env st with
      | ok f st1 => rw [eB] at p; cases f <;> exact p
      | exc c1 r1 e1 st1 => rw [eB] at p; exact p.elim
      | stuck => rw [eB] at p; exact p
    · rw [e] at p
      rw [if_neg (by decide)] at p
      exact wMany_of hex hin.2 hl rE rS hd p
theorem sim_try {body : List Stmt} {h0 : ExceptHandler} {hds : List ExceptHandler} {mb : Env → Store → RS} {hs : Hs} {xs : List Str} {pos : Pos} (G : GoodS X g ct n C W) (hx : xs = g.excs) (hin : hsIn xs hs)
    (hb : ∀ (W' : WX) (pn : List (Addr × Obj)) (xe : Value → Shared → Prop), Takes (X.tr pn xe) W' → PassesOwn (model X.prog X.w) X.A X.env xe → PSs (X.tr pn xe) body (tS X.K W' X.N.length mb))
    (hh : HdsOk X (h0 :: hds) (hsT X.K X.N.length C xs hs)) :
    PS X (.Try body (h0 :: hds) [] [] pos) (tS X.K W X.N.length fun env => fun st => match mb env st with
      | .exc c row env' st' => if xs.contains c = true then exHs C xs c row hs env' st' else .stuck
      | r => r) := by
  refine PS.impL (ps_try_many G.stk G.frm G.takes hb hh) fun D σ H q => ?_
  obtain ⟨hl, ρ, env, st, rE, rS, p⟩ := q
  refine ⟨hl, ρ, env, st, rE, rS, ?_⟩
  dsimp only at p
  cases e : mb env st with
  | ok f st1 => rw [e] at p; cases f <;> exact p
  | stuck => rw [e] at p; exact p
  | exc c row env1 st1 =>
    rw [e] at p
    dsimp only at p
    by_cases hc : xs.contains c = true
    · rw [if_pos hc] at p
      intro ρ1 d σ1 H1 e1 s1 rE1 l1 hd
      subst hx
      exact wMany_of (fun h hh => G.exm c (List.contains_iff_mem.mp hc) h hh) hin l1 rE1 s1 hd (PostS.later p e1)
    · rw [if_neg hc] at p
      exact p.elim
end
/-! ### the induction -/
section
variable {g : SigS} {n : Nat} {C : Str → List Val → M Val}
def isLc : Expr → Bool
  | .ListComp .. => true
  | _ => false
def isTup : Expr → Bool
  | .Tuple .. => true
  | _ => false
theorem swNo {v : Expr} {t : Option Expr} {l : Nat} {env : PySem.Env} (h : okHead v = true) (h2 : isLc v = false) : swapsWith v t l env = pure false := by
  cases v with
  | ListComp a b c d => exact absurd h2 (by simp [isLc])
  | _ => first | rfl | (exact absurd h (by simp [okHead]))
theorem swSole {t v : Expr} {l : Nat} {env : PySem.Env} : swapsWithSole [t] v l env = swapsWith v (some t) l env := by
  unfold swapsWithSole
  rfl
theorem plain_lc {v : Expr} (h : plainVal v = true) : isLc v = false ∧ isTup v = false := by
  cases v <;> first | exact ⟨rfl, rfl⟩ | (exact absurd h (by simp [plainVal]))
theorem lc_of {v : Expr} (h : isLc v = true) : ∃ a b c d, v = .ListComp a b c d := by
  cases v <;> first | exact ⟨_, _, _, _, rfl⟩ | (exact absurd h (by simp [isLc]))
def swB (env : PySem.Env) (scope : Scope) (y : Str) (py pos : Pos) : Bool := env.kindOf y == some .local && py.line == pos.line && !(scope.names.any fun (n, k) => n == y && (k == .local || k == .cell))
theorem swEq {elt : Expr} {gs : List Comprehension} {scope : Scope} {pos py : Pos} {y : Str} {l : Nat} {env : PySem.Env} (hk : env.scope.kind = .function) : swapsWith (.ListComp elt gs scope pos) (some (.Name y py)) l env = pure (swB env scope y py pos) := by
  have hb : env.blockKind = .function := by unfold Env.blockKind; rw [hk]; rfl
  unfold swapsWith swB
  simp only [hb, Expr.pos]
  rfl
/-- a comprehension stored at once -/
theorem sound_setLc {X : Cx} {ct : Ct} {W : WX} (G : Good X g.toSig ct n C W) {new : Bool} {own : List Nat} {tg : Tg} {it : It} {ifs : Es} {e : E} {elt : Expr} {gens : List Comprehension} {scope : Scope} {pos py spos : Pos} {i : Nat} {y : Str} (hk : X.env.scope.kind = .function) (hy : X.N[i]? = some y)
    (hsw : swB X.env scope y py pos = true) (h : ckE g.toSig ct (.lc new own tg it ifs e) (.ListComp elt gens scope pos) = true) : PS X (.Assign [.Name y py] (.ListComp elt gens scope pos) spos) (tAsg (tE X.K W (evE C (.lc new own tg it ifs e))) (gName i)) := by
  match gens, h with
  | [⟨t, iter, fs, k⟩], h =>
    simp only [ckE, Bool.and_eq_true] at h
    obtain ⟨⟨⟨⟨⟨⟨⟨⟨⟨⟨h0, h1⟩, h2⟩, h3⟩, h4⟩, h5⟩, h6⟩, h7⟩, h8⟩, h9⟩, h10⟩ := h
    have := of_decide_eq_true h2
    subst this
    have bk : BlkOk X.N X.env.scope scope (ownP ct.N own) := by
      rw [G.N, G.sc]
      exact blkOk_by h3
    have hi := soundI it iter (tg := t) h0 G h6
    have e1 : ∀ (s : Shared) (H : Hp) (c : Addr) (cl : List (Str × Addr)) (fp : List Addr), PG (X.blk s H scope (compEnvC scope cl c X.env) fp) t (gTg X.K tg) := fun s H c cl fp => (G.blk bk.uniq s H cl c fp).tg h5
    have e2 : ∀ (s : Shared) (H : Hp) (c : Addr) (cl : List (Str × Addr)) (fp : List Addr), PTs (X.blk s H scope (compEnvC scope cl c X.env) fp) fs (tG X.K relB F0 (evT C ifs)) := fun s H c cl fp => soundT ifs fs (G.blk bk.uniq s H cl c fp) h7 h8
    have e3 : ∀ (s : Shared) (H : Hp) (c : Addr) (cl : List (Str × Addr)) (fp : List Addr), PE (X.blk s H scope (compEnvC scope cl c X.env) fp) elt (tE X.K F0 (evE C e)) := fun s H c cl fp => (soundE e elt (G.blk bk.uniq s H cl c fp) h10).1
    have hloc : X.env.scope.names.lookup y = some .local := by
      unfold swB at hsw
      simp only [Bool.and_eq_true] at hsw
      exact eq_of_beq hsw.1.1
    refine ⟨fun pins s σ H D I q => ?_⟩
    refine (ps_setLc (G.calm h1) G.nd hy hloc (by rw [swEq hk, hsw]) hi.1 bk e1 e2 e3 hi.2).run pins s σ H D I ?_
    rw [ownP_snd]
    refine tLc_of ?_ (tgSub_of h4) q
    rw [I.len, G.N]
    exact (show tgIn (ctBlk ct scope).N.length tg from ckTg_in h5)
  | [], h => simp [ckE] at h
  | _ :: _ :: _, h => simp [ckE] at h
theorem isLc_E {ct : Ct} {e : E} {a : Expr} {b : List Comprehension} {c : Scope} {d : Pos} (h : ckE g.toSig ct e (.ListComp a b c d) = true) : ∃ new own tg it ifs e', e = .lc new own tg it ifs e' := by
  cases e <;> first | exact ⟨_, _, _, _, _, _, rfl⟩ | simp [ckE] at h
theorem asg_nm {X : Cx} {ct : Ct} {W : WX} (G : Good X g.toSig ct n C W) {i : Nat} {e : E} {y : Str} {py spos : Pos} {v : Expr} (hk : X.env.scope.kind = .function) (h1 : ckName ct i (.Name y py) = true) (h2 : okHead v = true) (h3 : ckE g.toSig ct e v = true) :
    PS X (.Assign [.Name y py] v spos) (tAsg (tE X.K W (evE C e)) (gTg X.K (.nm i))) := by
  by_cases hl : isLc v = true
  · obtain ⟨a, b, c, d, rfl⟩ := lc_of hl
    obtain ⟨new, own, tg, it, ifs, e', rfl⟩ := isLc_E h3
    cases hs : swB X.env c y py d with
    | true =>
      refine sound_setLc G hk ?_ hs h3
      unfold ckName at h1
      rw [Bool.and_eq_true] at h1
      rw [G.N]
      exact of_decide_eq_true h1.1
    | false => exact ps_asg (soundE _ _ G h3).1 (G.name h1) (by rw [swSole, swEq hk, hs]) rfl rfl
  · have hl' : isLc v = false := by simpa using hl
    refine ps_asg (soundE _ _ G h3).1 (G.name h1) (by rw [swSole]; exact swNo h2 hl') ?_ rfl
    cases v <;> first | rfl | (exact absurd h2 (by simp [okHead]))
end
end Rc
/-! Rc11: statements: the induction; defs; the whole text. -/
namespace Rc
open PySem L2
section
variable {g : SigS} {n : Nat} {C : Str → List Val → M Val}
/-- what a look at a clause tells -/
theorem ckHs_cons {ct : Ct} {c : Str} {b : Ss} {hs : Hs} {hds : List ExceptHandler} (h : ckHs g ct (.cons c b hs) hds = true) : ∃ p0 y ys p1 hds', hds = .ExceptHandler (some (.Name c p0)) none (y :: ys) p1 :: hds' ∧ isGl ct.sc c = true ∧ noDbg c = true ∧ c ∈ g.excs ∧ ckSs g { ct with cal := false } b (y :: ys) = true ∧ ckHs g ct hs hds' = true := by
  rcases hds with _ | ⟨⟨ty, nm, bd, p1⟩, hds'⟩
  · simp [ckHs] at h
  · rcases ty with _ | ty
    · simp [ckHs] at h
    · cases ty
      case Name x p0 =>
        rcases nm with _ | nm
        · rcases bd with _ | ⟨y, ys⟩
          · simp [ckHs] at h
          · simp only [ckHs, Bool.and_eq_true] at h
            obtain ⟨⟨⟨⟨⟨h1, h2⟩, h3⟩, h4⟩, h5⟩, h6⟩ := h
            have := of_decide_eq_true h1
            subst this
            exact ⟨p0, y, ys, p1, hds', rfl, h2, h3, List.contains_iff_mem.mp h4, h5, h6⟩
        · simp [ckHs] at h
      all_goals simp [ckHs] at h
theorem ckHs_in {ct : Ct} : ∀ {hs : Hs} {hds : List ExceptHandler}, ckHs g ct hs hds = true → hsIn g.excs hs
  | .nil, _, _ => trivial
  | .cons c b hs, hds, h => by
    obtain ⟨_, _, _, _, _, _, _, _, h4, _, h6⟩ := ckHs_cons h
    exact ⟨h4, ckHs_in h6⟩
theorem sub_at {o i : Expr} {p : Pos} {env : PySem.Env} (h : okHead i = true) (v : Value) : assign (.Subscript o i p) env v = (do
      let ov ← holding [v] (eval o env)
      let iv ← holding [v, ov] (eval i env)
      standAt p
      holding [v, ov, iv] (setItem ov iv v)
      release [v, ov, iv] []) := by
  cases i <;> first | rfl | (exact absurd h (by simp [okHead]))
theorem ckInt_of {i : Int} {e : Expr} (h : ckInt i e = true) : ∃ j p, e = .Constant (.int i) j p := by
  unfold ckInt at h
  split at h
  · have := of_decide_eq_true h
    subst this
    exact ⟨_, _, rfl⟩
  · cases h
theorem swapped_par {y z : Str} {py pz p p2 : Pos} {k k2 : Nat} {v w : Expr} {env : PySem.Env} (hk : env.scope.kind = .function) (hy : env.scope.names.lookup y = some .local) (hz : env.scope.names.lookup z = some .local) (h1 : okHead v = true) (h2 : okHead w = true) (h : parOk y z py pz v w = true) :
    swappedStores [.Tuple [.Name y py, .Name z pz] k p] (.Tuple [v, w] k2 p2) env = pure (some [y, z]) := by
  unfold parOk at h
  simp only [Bool.and_eq_true, Bool.not_eq_true'] at h
  obtain ⟨⟨⟨a1, a2⟩, a3⟩, a4⟩ := h
  have hb : env.blockKind = .function := by unfold Env.blockKind; rw [hk]; rfl
  have ky : env.kindOf y = some .local := hy
  have kz : env.kindOf z = some .local := hz
  have e3 : ([v, w].all (foldedForSure 8)) = false := by simpa using a3
  have e4 : ([v, w].all (constantsAlone 8)) = false := by simpa using a4
  have hne : ¬ z = y := fun e => by subst e; simp at a1
  have hs : ([v, w].any fun | .Starred .. => true | _ => false) = false := by
    cases v <;> first | (cases w <;> first | rfl | (simp [okHead] at h2; done)) | (simp [okHead] at h1; done)
  have ef : ([Expr.Name y py, Expr.Name z pz].filterMap fun
    | .Name id pos => if env.kindOf id == some .local && pos.line == (([Expr.Name y py, Expr.Name z pz].head?.map (·.pos.line)).getD 0) then some id else none
    | _ => none) = [y, z] := by
    simp only [List.filterMap_cons, ky, kz]
    have : (pz.line == (([Expr.Name y py, Expr.Name z pz].head?.map (·.pos.line)).getD 0)) = true := a2
    rw [this]
    have : (py.line == (([Expr.Name y py, Expr.Name z pz].head?.map (·.pos.line)).getD 0)) = true := by
      show (py.line == py.line) = true
      simp
    rw [this]
    simp
  have ed : [y, z].eraseDups = [y, z] := by simp [List.eraseDups_cons, hne]
  have key : ∀ (b1 b2 : Bool) (F : List Str), b1 = false → b2 = false → F = [y, z] → (if b1 = true then pure none else if b2 = true then pure none else if (F.length != [Expr.Name y py, Expr.Name z pz].length || F.eraseDups.length != F.length) = true then pure none else if [v, w].all (foldedForSure 8) = true then pure none else if [v, w].all (constantsAlone 8) = true then (unsupported "assign.tuple-of-constant-expressions:order-of-the-stores" >>= fun (_ : PUnit) => pure (some F)) else pure (some F) : Sem (Option (List Str))) = pure (some [y, z]) := by
    intro b1 b2 F h1 h2 h3
    subst h1 h2 h3
    rw [ed, e3, e4]
    rfl
  exact key _ _ _ (by rw [hb]; rfl) hs ef
mutual
theorem soundS : ∀ (s : S) (st : Stmt) {X : Cx} {ct : Ct} {W : WX}, GoodS X g ct n C W → ckS g ct s st = true → PS X st (tS X.K W X.N.length (exS C g.excs s))
  | .asg (.nm i) e, st, X, ct, W, G, h => by
    cases st
    case Assign ts v pos =>
      rcases ts with _ | ⟨t, _ | ⟨t2, ts⟩⟩
      · simp [ckS] at h
      · cases t
        case Name y py =>
          simp only [ckS, Bool.and_eq_true] at h
          refine sim_asg (asg_nm G.toGood G.kind h.1.1 h.1.2 h.2) ?_
          rw [G.N]
          exact ckName_lt h.1.1
        all_goals simp [ckS] at h
      · cases t <;> simp [ckS] at h
    all_goals simp [ckS] at h
  | .asg (.tup is) e, st, X, ct, W, G, h => by
    cases st
    case Assign ts v pos =>
      rcases ts with _ | ⟨t, _ | ⟨t2, ts⟩⟩
      · simp [ckS] at h
      · cases t
        case Tuple es k p =>
          simp only [ckS, Bool.and_eq_true] at h
          obtain ⟨⟨⟨h1, h2⟩, h3⟩, h4⟩ := h
          have pl := plain_lc h3
          refine sim_asg (ps_asg (soundE e v G.toGood h4).1 (G.tg h1) (by rw [swSole]; exact swNo h2 pl.1) ?_ rfl) ?_
          · cases v with
            | Tuple a b c => exact absurd pl.2 (by simp [isTup])
            | _ => first | rfl | (exact absurd h2 (by simp [okHead]))
          · rw [G.N]
            exact ckTg_in h1
        all_goals simp [ckS] at h
      · cases t <;> simp [ckS] at h
    all_goals simp [ckS] at h
  | .par i j a b, st, X, ct, W, G, h => by
    cases st
    case Assign ts v pos =>
      match ts, v, h with
      | [.Tuple [.Name y py, .Name z pz] k p], .Tuple [v, w] k2 p2, h =>
        simp only [ckS, Bool.and_eq_true] at h
        obtain ⟨⟨⟨⟨⟨⟨⟨⟨h1, h2⟩, h3⟩, h4⟩, h5⟩, h6⟩, h7⟩, h8⟩, h9⟩ := h
        have a2 := Bool.and_eq_true_iff.mp (show (decide (ct.N[i]? = some y) && decide (ct.sc.names.lookup y = some .local)) = true from h2)
        have a3 := Bool.and_eq_true_iff.mp (show (decide (ct.N[j]? = some z) && decide (ct.sc.names.lookup z = some .local)) = true from h3)
        have n2 : X.N[i]? = some y := by rw [G.N]; exact of_decide_eq_true a2.1
        have n3 : X.N[j]? = some z := by rw [G.N]; exact of_decide_eq_true a3.1
        have l2 : X.env.scope.names.lookup y = some .local := by rw [G.sc]; exact of_decide_eq_true a2.2
        have l3 : X.env.scope.names.lookup z = some .local := by rw [G.sc]; exact of_decide_eq_true a3.2
        exact sim_par (a := v) (b := w) (ps_par (G.calm h1) G.nd n2 n3 (of_decide_eq_true h4) l2 l3 (pa_cons (soundE a v G.toGood h7).1 (pa_cons (soundE b w G.toGood h9).1 pa_nil (head_star h8 [] X.env)) (head_star h6 [w] X.env)) (swapped_par G.kind l2 l3 h6 h8 h5) rfl) (List.getElem?_eq_some_iff.mp n2).1 (List.getElem?_eq_some_iff.mp n3).1
    all_goals simp [ckS] at h
  | .fset c o f k e, st, X, ct, W, G, h => by
    cases st
    case Assign ts v pos =>
      rcases ts with _ | ⟨t, _ | ⟨t2, ts⟩⟩
      · simp [ckS] at h
      · cases t
        case Attribute ob x p =>
          simp only [ckS, Bool.and_eq_true] at h
          obtain ⟨⟨⟨⟨⟨h1, h2⟩, h3⟩, h4⟩, h5⟩, h6⟩ := h
          have := of_decide_eq_true h1
          subst this
          refine sim_fset (soundE e v G.toGood h4).1 (soundE o ob G.toGood h6).1 (G.flds _ (List.contains_iff_mem.mp h2)) ?_
          cases v <;> first | rfl | (exact absurd h3 (by simp [okHead]))
        all_goals simp [ckS] at h
      · cases t <;> simp [ckS] at h
    all_goals simp [ckS] at h
  | .faug c o f k i, st, X, ct, W, G, h => by
    cases st
    case AugAssign tg op v pos =>
      cases tg
      case Attribute ob x p =>
        simp only [ckS, Bool.and_eq_true] at h
        obtain ⟨⟨⟨⟨⟨h1, h2⟩, h3⟩, h4⟩, h5⟩, h6⟩ := h
        have := of_decide_eq_true h1
        subst this
        have := of_decide_eq_true h2
        subst this
        obtain ⟨j, p1, rfl⟩ := ckInt_of h4
        exact sim_faug (soundE o ob G.toGood h6).1 (G.flds _ (List.contains_iff_mem.mp h3))
      all_goals simp [ckS] at h
    all_goals simp [ckS] at h
  | .sset o i e, st, X, ct, W, G, h => by
    cases st
    case Assign ts v pos =>
      rcases ts with _ | ⟨t, _ | ⟨t2, ts⟩⟩
      · simp [ckS] at h
      · cases t
        case Subscript a b p =>
          simp only [ckS, Bool.and_eq_true] at h
          obtain ⟨⟨⟨⟨⟨h1, h2⟩, h3⟩, h4⟩, h5⟩, h6⟩ := h
          refine sim_sset G.units (soundE e v G.toGood h2).1 (soundE o a G.toGood h4).1 (soundE i b G.toGood h6).1 (head_ix h5) ?_ (sub_at h5)
          rw [swSole]
          cases v <;> first | rfl | (exact absurd h1 (by simp [okHead]))
        all_goals simp [ckS] at h
      · cases t <;> simp [ckS] at h
    all_goals simp [ckS] at h
  | .expr e, st, X, ct, W, G, h => by
    cases st
    case Expr v pos =>
      simp only [ckS, Bool.and_eq_true] at h
      exact sim_expr (soundE e v G.toGood h.2).1 (swNo h.1.1 (plain_lc h.1.2).1)
    all_goals simp [ckS] at h
  | .ret e, st, X, ct, W, G, h => by
    cases st
    case Return v pos =>
      cases v with
      | none => simp [ckS] at h
      | some v =>
        simp only [ckS, Bool.and_eq_true] at h
        exact sim_ret (soundE e v G.toGood h.2).1
    all_goals simp [ckS] at h
  | .retN, st, X, ct, W, G, h => by
    cases st
    case Return v pos =>
      cases v with
      | none =>
        refine PS.impL ps_retN fun D σ H q => ?_
        obtain ⟨hl, ρ, env, st, rE, rS, p⟩ := q
        exact p ρ .non H (.refl _ _) rS .non
      | some v => simp [ckS] at h
    all_goals simp [ckS] at h
  | .iff c a b, st, X, ct, W, G, h => by
    cases st
    case If t x y pos =>
      simp only [ckS, Bool.and_eq_true] at h
      obtain ⟨⟨⟨⟨h1, h2⟩, h3⟩, h4⟩, h5⟩ := h
      exact sim_if ((soundE c t G.toGood h3).2 h2) (soundSs a x G h4) (soundSs b y G h5)
    all_goals simp [ckS] at h
  | .forS tg it body, st, X, ct, W, G, h => by
    cases st
    case For t x b oe pos =>
      cases oe with
      | nil =>
        simp only [ckS, Bool.and_eq_true] at h
        obtain ⟨⟨⟨⟨h0, h1⟩, h2⟩, h3⟩, h4⟩ := h
        have hi := soundI it x (tg := t) h0 G.toGood h3
        refine sim_for G.own (G.calm h1) hi.1 (G.tg h2) (soundSs body b G h4) hi.2 ?_
        rw [G.N]
        exact ckTg_in h2
      | cons _ _ => simp [ckS] at h
    all_goals simp [ckS] at h
  | .pass, st, X, ct, W, G, h => by
    cases st
    case Pass pos => exact sim_pass
    all_goals simp [ckS] at h
  | .raiseS c m, st, X, ct, W, G, h => by
    cases st
    case Raise ex cause pos =>
      simp only [ckS] at h
      unfold ckRaise at h
      split at h
      · obtain ⟨p, j, p2, pos2, rfl, h1, h4, h5, h6⟩ := ckMade_of h
        exact sim_raise (G.calm h1) G.takes ((G.exc c h6).2 X rfl rfl (G.gl h4) (dbg1 h5).1 m j p p2 _)
      · cases h
    all_goals simp [ckS] at h
  | .tryS body hs, st, X, ct, W, G, h => by
    cases st
    case Try b hds oe fb pos =>
      rcases hds with _ | ⟨h0, hds⟩
      · simp [ckS] at h
      · rcases oe with _ | ⟨o1, oe⟩
        · rcases fb with _ | ⟨f1, fb⟩
          · simp only [ckS, Bool.and_eq_true] at h
            obtain ⟨⟨h1, h2⟩, h3⟩ := h
            exact sim_try G rfl (ckHs_in h3) (fun W' pn xe tk po => soundSs body b (G.tr pn xe tk po) h2) (soundHs hs (h0 :: hds) G h3)
          · simp [ckS] at h
        · simp [ckS] at h
    all_goals simp [ckS] at h
theorem soundSs : ∀ (ss : Ss) (sts : List Stmt) {X : Cx} {ct : Ct} {W : WX}, GoodS X g ct n C W → ckSs g ct ss sts = true → PSs X sts (tS X.K W X.N.length (exSs C g.excs ss))
  | .nil, [], X, ct, W, G, h => sim_ssNil
  | .cons s ss, x :: xs, X, ct, W, G, h => by
    simp only [ckSs, Bool.and_eq_true] at h
    exact sim_ssCons (soundS s x G h.1) (soundSs ss xs G h.2)
  | .two s t ss, x :: y :: xs, X, ct, W, G, h => by
    simp only [ckSs, Bool.and_eq_true] at h
    exact sim_ssTwo (soundS s x G h.1.1) (soundS t y G h.1.2) (soundSs ss xs G h.2)
  | .nil, _ :: _, X, ct, W, G, h => by simp [ckSs] at h
  | .cons _ _, [], X, ct, W, G, h => by simp [ckSs] at h
  | .two _ _ _, [], X, ct, W, G, h => by simp [ckSs] at h
  | .two _ _ _, [_], X, ct, W, G, h => by simp [ckSs] at h
theorem soundHs : ∀ (hs : Hs) (hds : List ExceptHandler) {X : Cx} {ct : Ct} {W : WX}, GoodS X g ct n C W → ckHs g ct hs hds = true → HdsOk X hds (hsT X.K X.N.length C g.excs hs)
  | .nil, [], X, ct, W, G, h => .nil
  | .nil, _ :: _, X, ct, W, G, h => by simp [ckHs] at h
  | .cons c b hs, hds, X, ct, W, G, h => by
    obtain ⟨p0, y, ys, p1, hds', rfl, h2, h3, h4, h5, h6⟩ := ckHs_cons h
    exact .cons ⟨G.gl h2, (dbg1 h3).1, .inl (G.exc c h4).1⟩ (fun a oe cls d pn hz hd => soundSs b (y :: ys) (G.suite a ((a, oe) :: pn)) h5) (soundHs hs hds' G h6)
end
end
end Rc
/-! Rc12: how arguments bind, whatever the count of parameters. -/
namespace Rc
open PySem L2
theorem zip_lookup {α : Type} : ∀ {ps : List Str} {us : List α} {x : Str}, us.length = ps.length → x ∈ ps → ∃ u, (ps.zip us).lookup x = some u
  | [], _, _, _, h => by simp at h
  | p :: ps, [], _, e, _ => by simp at e
  | p :: ps, u :: us, x, e, h => by
    rw [List.zip_cons_cons, List.lookup_cons]
    by_cases hx : x = p
    · subst hx; simp
    · have : (x == p) = false := by simpa using hx
      rw [this]
      exact zip_lookup (by simpa using e) (by simpa [hx] using h)
theorem mem_of_lookup {α : Type} {x : Str} {u : α} : ∀ {l : List (Str × α)}, l.lookup x = some u → (x, u) ∈ l
  | [], h => by simp at h
  | (y, v) :: l, h => by
    rw [List.lookup_cons] at h
    by_cases hx : x = y
    · subst hx
      simp at h
      subst h
      simp
    · have : (x == y) = false := by simpa using hx
      rw [this] at h
      exact List.mem_cons_of_mem _ (mem_of_lookup h)
theorem fm_congr {α β : Type} {f h : α → Option β} : ∀ (l : List α), (∀ x ∈ l, f x = h x) → l.filterMap f = l.filterMap h
  | [], _ => rfl
  | a :: l, e => by
    rw [List.filterMap_cons, List.filterMap_cons, e a (by simp), fm_congr l fun x hx => e x (by simp [hx])]
theorem zip_filterMap {α : Type} : ∀ (ps : List Str) (us : List α), ps.Nodup → us.length = ps.length → ps.filterMap (fun n => ((ps.zip us).lookup n).map (n, ·)) = ps.zip us
  | [], _, _, _ => by simp
  | p :: ps, [], _, e => by simp at e
  | p :: ps, u :: us, nd, e => by
    have nd' := List.nodup_cons.mp nd
    rw [List.zip_cons_cons, List.filterMap_cons]
    have h0 : (((p, u) :: ps.zip us).lookup p) = some u := by rw [List.lookup_cons]; simp
    rw [h0]
    show (p, u) :: _ = _
    congr 1
    refine Eq.trans (fm_congr ps fun x hx => ?_) (zip_filterMap ps us nd'.2 (by simpa using e))
    have : (x == p) = false := by
      have : x ≠ p := fun z => nd'.1 (z ▸ hx)
      simpa using this
    rw [List.lookup_cons, this]
/-- plain parameters alone -/
structure PlainPs (a : Arguments) (ps : List Str) : Prop where
  po : a.posonlyargs = []
  va : a.vararg = none
  kw : a.kwonlyargs = []
  kwa : a.kwarg = none
  ar : a.args.map (·.arg) = ps
theorem bind_gen {x qual : Str} {params : Arguments} {body : List Stmt} {scope : Scope} {ps : List Str} (pl : PlainPs params ps) (nd : ps.Nodup) (kV doc pm : Value) (an : Option Addr) (cdv ct : Value) (us : List Value) (hl : us.length = ps.length) :
    bindArgs (PySem.W.fnOf x qual params body scope .none kV doc pm an cdv ct) ⟨us, []⟩ = pure (ps.zip us) := by
  have h1 : (ps.take (ps.length - 0)).filter (fun n => ((ps.zip us).lookup n).isNone) = [] := by
    rw [Nat.sub_zero, List.take_length, List.filter_eq_nil_iff]
    intro y hy
    obtain ⟨u, e⟩ := zip_lookup hl hy
    rw [e]; simp
  have h2 := zip_filterMap ps us nd hl
  have hd : seqItems? Value.none = pure none := rfl
  unfold bindArgs
  simp only [PySem.W.fnOf, pl.po, pl.va, pl.kw, pl.kwa, pl.ar, List.map_nil, List.nil_append, List.append_nil, hl]
  simp [hd, h1, h2]
  intro y hy hno
  obtain ⟨u, e⟩ := zip_lookup hl hy
  exact absurd (mem_of_lookup e) (hno u)

/-! ### the defs of a text -/
/-- a def's text: its name, its class if it is a method, its parameters, all its names by slot, the model's own text -/
structure Tx where
  nm : Str
  qual : Str
  cls : Option Str
  ps : List Str
  N : List Str
  args : Arguments
  body : List Stmt
  sc : Scope
def atOf (t : Tx) : Str × Option Str := match t.cls with
  | none => (t.nm, none)
  | some c => (c, some t.nm)
def plainB (a : Arguments) (ps : List Str) : Bool := a.posonlyargs.isEmpty && a.vararg.isNone && a.kwonlyargs.isEmpty && a.kwarg.isNone && decide (a.args.map (·.arg) = ps)
theorem plainB_of {a : Arguments} {ps : List Str} (h : plainB a ps = true) : PlainPs a ps := by
  unfold plainB at h
  simp only [Bool.and_eq_true] at h
  obtain ⟨⟨⟨⟨h1, h2⟩, h3⟩, h4⟩, h5⟩ := h
  exact ⟨List.isEmpty_iff.mp h1, Option.isNone_iff_eq_none.mp h2, List.isEmpty_iff.mp h3, Option.isNone_iff_eq_none.mp h4, of_decide_eq_true h5⟩
def isFnKind : ScopeKind → Bool
  | .function => true
  | _ => false
def isFree : NameKind → Bool
  | .free => true
  | _ => false
def locB (sc : Scope) (x : Str) : Bool := match sc.names.lookup x with
  | some .local => true
  | some .cell => true
  | _ => false
def scopeB (N ps : List Str) (sc : Scope) : Bool := isFnKind sc.kind && !sc.isCoroutine && !sc.isGenerator && decide N.Nodup && decide (N.take ps.length = ps) && ps.all (locB sc) && sc.names.all fun y => !isFree y.2
theorem scopeB_of {N ps : List Str} {sc : Scope} (h : scopeB N ps sc = true) : FnScope N ps sc := by
  unfold scopeB at h
  simp only [Bool.and_eq_true] at h
  obtain ⟨⟨⟨⟨⟨⟨h1, h2⟩, h3⟩, h4⟩, h5⟩, h6⟩, h7⟩ := h
  refine ⟨?_, by simpa using h2, by simpa using h3, of_decide_eq_true h4, of_decide_eq_true h5, fun x hx => ?_, fun y hy => ?_⟩
  · cases e : sc.kind <;> rw [e] at h1 <;> first | rfl | cases h1
  · have := List.all_eq_true.mp h6 x hx
    unfold locB at this
    split at this
    · exact .inl (by assumption)
    · exact .inr (by assumption)
    · cases this
  · have := List.all_eq_true.mp h7 y hy
    intro e
    rw [e] at this
    simp [isFree] at this
/-- the names that a def may store -/
def storB (sc : Scope) (stor : List Str) : Bool := stor.all (locB sc)
def ctOf (t : Tx) : Ct := ⟨t.sc, t.N, t.N.filter (locB t.sc), true⟩
/-- does the small language's def say what the text says? -/
def ckDf (g : SigS) (t : Tx) (d : Df) : Bool := plainB t.args t.ps && scopeB t.N t.ps t.sc && decide (d.ps = t.ps.length) && decide (d.ns = t.N.length) && ckSs g (ctOf t) d.body t.body
theorem startEnv_rel {K : PySem.W.Frag} {ρ : Pl} {H : Hp} {args : List Val} {vs : List V} {N : List Str} (q : RepL K ρ H args vs) : RelE K ρ H (startEnv N.length args) (L2.start N vs) := by
  intro i v e
  unfold startEnv at e
  unfold L2.start
  by_cases hi : i < args.length
  · rw [List.getElem?_append_left (by simpa using hi), List.getElem?_map] at e
    obtain ⟨a, ea, eb⟩ := Option.map_eq_some_iff.mp e
    cases eb
    obtain ⟨w, ew, r⟩ := q.get ea
    refine ⟨w, ?_, r⟩
    rw [List.getElem?_append_left (by rw [List.length_map, ← q.length]; exact hi), List.getElem?_map, ew]
    rfl
  · rw [List.getElem?_append_right (by rw [List.length_map]; omega)] at e
    rw [List.getElem?_replicate] at e
    split at e <;> cases e
theorem start_length {N : List Str} {vs : List V} (h : vs.length ≤ N.length) : (L2.start N vs).length = N.length := by
  unfold L2.start
  rw [List.length_append, List.length_map, List.length_replicate]
  omega
/-- what is known of the module behind its top: the defs' function objects, constants, names left free, the exceptions, the classes -/
structure ModOk (P : Program) (w : World) (K : PySem.W.Frag) (mg : Str → Option Value) (g : SigS) (ts : List Tx) : Prop where
  frees : ∀ x ∈ g.frees, mg x = none
  globs : ∀ p ∈ g.globs, ∃ u v, mg p.1 = some u ∧ RelV v u ∧ ∀ ρ H, Rep K ρ H (gvVal p.2) v
  defs : ∀ t ∈ ts, ∃ fd, FunD K t.nm t.qual t.args t.body t.sc [] [] (He.fAd K (atOf t)) fd
  glo : ∀ t ∈ ts, t.cls = none → mg t.nm = some (.ref (He.ga K t.nm))
  exm : ∀ c ∈ g.excs, ∀ h ∈ g.excs, PySem.W.exmOne K (.ref (He.ga K c)) (.ref (He.ga K h)) = some (subOf c h)
  exc : ∀ c ∈ g.excs, mg c = some (.ref (He.ga K c)) ∧ ∀ (X' : Cx), X'.K = K → X'.mg = mg → Gl X' c → (c == ("__debug__" : Str)) = false → ∀ (m : Str) (j : Nat) (p p2 pos : Pos), PMk X' (.Call (.Name c p) [.Constant (.str m) j p2] [] pos) (fun _ H Q => Q (.ref (He.ga K c)) none H)
  clss : ∀ p ∈ g.clss, Cls K (He.ga K p.1) ∧ Mk K (He.ga K p.1) (He.ma K (He.ga K p.1) "__init__") ∧ mg p.1 = some (.ref (He.ga K p.1))
  meths : ∀ p ∈ g.meths, Meth K (He.ga K p.1) p.2.1 (He.ma K (He.ga K p.1) p.2.1)
  flds : ∀ p ∈ g.flds, NoAttr K (He.ga K p.1) p.2
  tups : ∀ p ∈ g.tups, ∃ a, mg p.1 = some (.ref a) ∧ ∀ H, SqT K H a (p.2.map V.str)
  dics : ∀ p ∈ g.dics, ∃ a es n, mg p.1 = some (.ref a) ∧ KDict K w a es n ∧ ∀ z, match p.2.lookup z with
    | some i => ∃ t, PySem.W.nsIn K a z = some (some (.int i t))
    | none => PySem.W.nsIn K a z = some none
/-- all methods, each __init__ among them -/
def allM (g : SigS) : List (Str × Str × Str) := g.meths ++ g.clss.map fun p => (p.1, ("__init__" : Str), p.2)
/-- the small language's program beside the texts: each def named in g has its text and is let by -/
def ckAll (g : SigS) (ts : List Tx) (defs : List (Str × Df)) : Bool := (g.defs.all fun p => (g.clss.lookup p.1).isNone && ts.any fun t => t.cls.isNone && decide (t.nm = p.1) && (match defs.lookup p.1 with
  | some d => ckDf g t d
  | none => false)) && ((allM g).all fun p => (g.clss.lookup p.2.2).isNone && ts.any fun t => decide (t.cls = some p.1) && decide (t.nm = p.2.1) && (match defs.lookup p.2.2 with
  | some d => ckDf g t d
  | none => false)) && decide ((g.clss.map (·.1)).Nodup)
section
variable {P : Program} {w : World} {K : PySem.W.Frag} {mg : Str → Option Value} {base : Heap} {g : SigS} {ts : List Tx} {defs : List (Str × Df)}
theorem ckAll_of (ck : ckAll g ts defs = true) {p : Str × Nat} (hp : p ∈ g.defs) : g.clss.lookup p.1 = none ∧ ∃ t ∈ ts, ∃ d, t.cls = none ∧ t.nm = p.1 ∧ defs.lookup p.1 = some d ∧ ckDf g t d = true := by
  unfold ckAll at ck
  simp only [Bool.and_eq_true] at ck
  have hq := Bool.and_eq_true_iff.mp (List.all_eq_true.mp ck.1.1 p hp)
  obtain ⟨t, ht, hc⟩ := List.any_eq_true.mp hq.2
  rw [Bool.and_eq_true, Bool.and_eq_true] at hc
  cases e : defs.lookup p.1 with
  | none => rw [e] at hc; exact absurd hc.2 (by simp)
  | some d => rw [e] at hc; exact ⟨Option.isNone_iff_eq_none.mp hq.1, t, ht, d, Option.isNone_iff_eq_none.mp hc.1.1, of_decide_eq_true hc.1.2, rfl, hc.2⟩
theorem ckAll_m (ck : ckAll g ts defs = true) {p : Str × Str × Str} (hp : p ∈ allM g) : g.clss.lookup p.2.2 = none ∧ ∃ t ∈ ts, ∃ d, t.cls = some p.1 ∧ t.nm = p.2.1 ∧ defs.lookup p.2.2 = some d ∧ ckDf g t d = true := by
  unfold ckAll at ck
  simp only [Bool.and_eq_true] at ck
  have hq := Bool.and_eq_true_iff.mp (List.all_eq_true.mp ck.1.2 p hp)
  obtain ⟨t, ht, hc⟩ := List.any_eq_true.mp hq.2
  rw [Bool.and_eq_true, Bool.and_eq_true] at hc
  cases e : defs.lookup p.2.2 with
  | none => rw [e] at hc; exact absurd hc.2 (by simp)
  | some d => rw [e] at hc; exact ⟨Option.isNone_iff_eq_none.mp hq.1, t, ht, d, of_decide_eq_true hc.1.1, of_decide_eq_true hc.1.2, rfl, hc.2⟩
theorem lookup_mem {α : Type} : ∀ {l : List (Str × α)}, (l.map (·.1)).Nodup → ∀ {p : Str × α}, p ∈ l → l.lookup p.1 = some p.2
  | [], _, p, h => by simp at h
  | (x, a) :: l, nd, p, h => by
    rw [List.map_cons, List.nodup_cons] at nd
    rw [List.lookup_cons]
    rcases List.mem_cons.mp h with rfl | h
    · simp
    · have hne : p.1 ≠ x := fun e => nd.1 (by rw [← e]; exact List.mem_map.mpr ⟨p, h, rfl⟩)
      have : (p.1 == x) = false := by simpa using hne
      rw [this]
      exact lookup_mem nd.2 h
theorem ckAll_c (ck : ckAll g ts defs = true) {p : Str × Str} (hp : p ∈ g.clss) : g.clss.lookup p.1 = some p.2 := by
  unfold ckAll at ck
  simp only [Bool.and_eq_true] at ck
  exact lookup_mem (of_decide_eq_true ck.2) hp
theorem binds_of {t : Tx} {d : Df} {fa : Addr} {fd : FuncData} (hk : ckDf g t d = true) (F : FunD K t.nm t.qual t.args t.body t.sc [] [] fa fd) : Binds K fd t.ps [] := by
  unfold ckDf at hk
  simp only [Bool.and_eq_true] at hk
  refine F.bindsN (bind_gen (plainB_of hk.1.1.1.1) ?_)
  have S := scopeB_of hk.1.1.1.2
  rw [← S.pre]
  exact S.nd.sublist (List.take_sublist _ _)
/-- what the defs keep at a depth -/
structure LevOk (P : Program) (w : World) (K : PySem.W.Frag) (mg : Str → Option Value) (base : Heap) (g : SigS) (defs : List (Str × Df)) (n : Nat) : Prop where
  d : ∀ p ∈ g.defs, ∃ (fa : Addr) (fd : FuncData) (ps : List Str), FnOk P w K mg base (L2.CX P w) (2 * n) fa fd ps (spOf K (callF defs g.clss g.excs n) p.1) ∧ mg p.1 = some (.ref fa) ∧ PySem.W.keepIn K (.ref fa) = true ∧ Binds K fd ps []
  m : ∀ p ∈ allM g, ∃ (fd : FuncData) (ps : List Str), FnOk P w K mg base (L2.CX P w) (2 * n) (He.ma K (He.ga K p.1) p.2.1) fd ps (spOf K (callF defs g.clss g.excs n) p.2.2) ∧ Binds K fd ps []
  c : ∀ p ∈ g.clss, ∃ (fd : FuncData) (ps : List Str) (F : List Val → M Val), FnOk P w K mg base (L2.CX P w) (2 * n) (He.ma K (He.ga K p.1) "__init__") fd ps (spF K F) ∧ Binds K fd ps [] ∧ callF defs g.clss g.excs n p.1 = mkNew p.1 F
/-- a def whose text is let by keeps its promise, if those that it calls keep theirs -/
theorem fnOk_step (M : ModOk P w K mg g ts) {n : Nat} {f : Str} {t : Tx} {d : Df} {fa : Addr} {fd : FuncData} (F : FunD K t.nm t.qual t.args t.body t.sc [] [] fa fd) (ei : g.clss.lookup f = none) (e : defs.lookup f = some d) (hk : ckDf g t d = true)
    (ih : LevOk P w K mg base g defs n) :
    FnOk P w K mg base (L2.CX P w) (2 * (n + 1)) fa fd t.ps (spOf K (callF defs g.clss g.excs (n + 1)) f) := by
  unfold ckDf at hk
  simp only [Bool.and_eq_true] at hk
  obtain ⟨⟨⟨⟨k1, k2⟩, k3⟩, k4⟩, k5⟩ := hk
  have S := scopeB_of k2
  have k3 := of_decide_eq_true k3
  have k4 := of_decide_eq_true k4
  have eC : callF defs g.clss g.excs (n + 1) f = runDf (callF defs g.clss g.excs n) g.excs d := by
    show (match g.clss.lookup f with
      | some h => mkNew f (callF defs g.clss g.excs n h)
      | none => match defs.lookup f with
        | some d => runDf (callF defs g.clss g.excs n) g.excs d
        | none => fun _ => stuck) = _
    rw [ei, e]
  have lenOk : ∀ vs H Q E, spOf K (callF defs g.clss g.excs (n + 1)) f vs H Q E → vs.length = t.ps.length := fun vs H Q E h => by
    obtain ⟨ρ, st, ar, rS, q, pp⟩ := h
    rw [eC] at pp
    unfold runDf at pp
    split at pp
    · rename_i hl
      rw [← q.length, hl, k3]
    · exact pp.elim
  show FnOk P w K mg base (L2.CX P w) (2 * n + 1 + 1) fa fd t.ps _
  refine F.ok S lenOk fun cdv A outer s H vs Q E hr h => ?_
  have hlen := lenOk vs H Q E h
  obtain ⟨ρ, st, ar, rS, q, pp⟩ := h
  rw [eC] at pp
  unfold runDf at pp
  split at pp
  · rename_i hl
    have G : GoodS (cxOf (L2.CX P w) P w K mg base t.N t.qual t.sc fa cdv A outer s H E) g (ctOf t) n (callF defs g.clss g.excs n) (fun cls d _ H => E cls d H) := {
      sc := rfl
      N := rfl
      nd := S.nd
      stor := fun x hx => by
        have hx : x ∈ t.N.filter (locB t.sc) := hx
        have := (List.mem_filter.mp hx).2
        unfold locB at this
        split at this
        · exact ⟨.inl (by assumption), .inl rfl⟩
        · exact ⟨.inr (by assumption), .inl rfl⟩
        · cases this
      calm := fun _ => rfl
      room := fun _ => hr
      units := Nat.lt_of_le_of_lt (Nat.add_le_add_left (show 100 ≤ 16 * (2 * n + 1) + 200 by omega) _) (by have := hr.un; rw [Nat.add_assoc] at this; exact this)
      takes := takes_of rfl rfl rfl rfl
      frees := M.frees
      globs := M.globs
      defs := ih.d
      clss := fun p hp => by
        obtain ⟨fd, ps, F, h1, h2, h3⟩ := ih.c p hp
        obtain ⟨m1, m2, m3⟩ := M.clss p hp
        exact ⟨_, fd, ps, F, m1, m2, h1, m3, h2, h3⟩
      meths := fun p hp => by
        obtain ⟨fd, ps, h1, h2⟩ := ih.m p (List.mem_append_left _ hp)
        exact ⟨_, fd, ps, M.meths p hp, h1, h2⟩
      flds := M.flds
      tups := M.tups
      dics := M.dics
      kind := S.kind
      own := passes_of rfl
      stk := rfl
      frm := rfl
      exm := M.exm
      exc := M.exc }
    refine ⟨_, soundSs d.body t.body G k5, ?_⟩
    have hN : vs.length ≤ t.N.length := by
      rw [hlen]
      have := congrArg List.length S.pre
      rw [List.length_take] at this
      omega
    refine ⟨start_length hN, ρ, startEnv t.N.length ar, st, startEnv_rel q, rS, ?_⟩
    rw [k4] at pp
    cases eR : exSs (callF defs g.clss g.excs n) g.excs d.body (startEnv t.N.length ar) st with
    | ok f st' =>
      rw [eR] at pp
      cases f with
      | nx env' => exact fun ρ' σ' H' x s _ _ => pp ρ' .non H' x s .non
      | rt v => exact pp
    | exc c row env' st' =>
      rw [eR] at pp
      exact fun ρ' d σ' H' x s _ _ z => pp ρ' d H' x s z
    | stuck => rw [eR] at pp; exact pp
  · exact pp.elim
theorem stuckOk {fa : Addr} {fd : FuncData} {ps : List Str} {k : Nat} {F : List Val → M Val} (h : ∀ ar st, F ar st = .stuck) : FnOk P w K mg base (L2.CX P w) k fa fd ps (spF K F) := by
  refine ⟨fun vs H Q E q => ?_, fun A outer s H args us vs Q E hr e0 hb r q => ?_⟩
  · obtain ⟨ρ, st, ar, rS, _, p⟩ := q
    rw [h] at p
    exact p.elim
  · obtain ⟨ρ, st, ar, rS, _, p⟩ := q
    rw [h] at p
    exact p.elim
theorem levOk (M : ModOk P w K mg g ts) (ck : ckAll g ts defs = true) : ∀ (n : Nat), LevOk P w K mg base g defs n
  | 0 => by
    have e0 : ∀ f, g.clss.lookup f = none → ∀ ar st, callF defs g.clss g.excs 0 f ar st = .stuck := fun f hf ar st => by
      show (match g.clss.lookup f with
        | some _ => mkNew f fun _ => stuck
        | none => fun _ => stuck) ar st = _
      rw [hf]
      rfl
    refine ⟨fun p hp => ?_, fun p hp => ?_, fun p hp => ?_⟩
    · obtain ⟨hi, t, ht, d, hc, en, e, hk⟩ := ckAll_of ck hp
      obtain ⟨fd, F⟩ := M.defs t ht
      have hm := M.glo t ht hc
      rw [en] at hm
      have ea : He.fAd K (atOf t) = He.ga K p.1 := by
        unfold atOf
        rw [hc, en]
        rfl
      rw [ea] at F
      exact ⟨_, fd, t.ps, stuckOk (e0 _ hi), hm, F.kp, binds_of hk F⟩
    · obtain ⟨hi, t, ht, d, hc, en, e, hk⟩ := ckAll_m ck hp
      obtain ⟨fd, F⟩ := M.defs t ht
      exact ⟨fd, t.ps, stuckOk (e0 _ hi), binds_of hk F⟩
    · have hpm : (p.1, ("__init__" : Str), p.2) ∈ allM g := List.mem_append_right _ (List.mem_map.mpr ⟨p, hp, rfl⟩)
      obtain ⟨hi, t, ht, d, hc, en, e, hk⟩ := ckAll_m ck hpm
      obtain ⟨fd, F⟩ := M.defs t ht
      refine ⟨fd, t.ps, fun _ => stuck, stuckOk fun _ _ => rfl, binds_of hk F, ?_⟩
      show (match g.clss.lookup p.1 with
        | some _ => mkNew p.1 fun _ => stuck
        | none => fun _ => stuck) = _
      rw [ckAll_c ck hp]
  | n + 1 => by
    have ih := levOk M ck n
    have mm : ∀ p ∈ allM g, ∃ (fd : FuncData) (ps : List Str), FnOk P w K mg base (L2.CX P w) (2 * (n + 1)) (He.ma K (He.ga K p.1) p.2.1) fd ps (spOf K (callF defs g.clss g.excs (n + 1)) p.2.2) ∧ Binds K fd ps [] := fun p hp => by
      obtain ⟨hi, t, ht, d, hc, en, e, hk⟩ := ckAll_m ck hp
      obtain ⟨fd, F⟩ := M.defs t ht
      have ea : He.fAd K (atOf t) = He.ma K (He.ga K p.1) p.2.1 := by
        unfold atOf
        rw [hc, en]
        rfl
      rw [ea] at F
      exact ⟨fd, t.ps, fnOk_step M F hi e hk ih, binds_of hk F⟩
    refine ⟨fun p hp => ?_, mm, fun p hp => ?_⟩
    · obtain ⟨hi, t, ht, d, hc, en, e, hk⟩ := ckAll_of ck hp
      obtain ⟨fd, F⟩ := M.defs t ht
      have hm := M.glo t ht hc
      rw [en] at hm
      have ea : He.fAd K (atOf t) = He.ga K p.1 := by
        unfold atOf
        rw [hc, en]
        rfl
      rw [ea] at F
      exact ⟨_, fd, t.ps, fnOk_step M F hi e hk ih, hm, F.kp, binds_of hk F⟩
    · have hpm : (p.1, ("__init__" : Str), p.2) ∈ allM g := List.mem_append_right _ (List.mem_map.mpr ⟨p, hp, rfl⟩)
      obtain ⟨fd, ps, h1, h2⟩ := ih.m _ hpm
      refine ⟨fd, ps, callF defs g.clss g.excs n p.2, h1.mono (by omega), h2, ?_⟩
      show (match g.clss.lookup p.1 with
        | some h => mkNew p.1 (callF defs g.clss g.excs n h)
        | none => match defs.lookup p.1 with
          | some d => runDf (callF defs g.clss g.excs n) g.excs d
          | none => fun _ => stuck) = _
      rw [ckAll_c ck hp]
end
end Rc
/-! Rc13: from the head's facts to the law. -/
namespace Rc
open PySem L2
def gvFa (p : Str × Gv) : List He.Fa := match p.2 with
  | .int i => [.int p.1 i]
  | .str s => [.str p.1 s]
  | .tups _ => []
def gvPlain : Gv → Bool
  | .tups _ => false
  | _ => true
/-- the facts that are asked of the head -/
def faOf (g : SigS) (ts : List Tx) : List He.Fa :=
  (ts.filter (·.cls.isNone)).map (fun t => .glo t.nm) ++ g.frees.map .free ++ g.globs.flatMap gvFa ++ g.excs.map .glo ++ g.excs.map .exc ++ (g.excs.flatMap fun c => g.excs.map fun h => .exm c h (subOf c h)) ++ g.clss.map (fun p => .cls p.1) ++ g.clss.map (fun p => .mkr p.1) ++ g.clss.map (fun p => .glo p.1) ++ g.meths.map (fun p => .meth p.1 p.2.1) ++ g.flds.map (fun p => .noat p.1 p.2)
def ddOf (t : Tx) : He.DefD := ⟨atOf t, t.nm, t.qual, t.args, t.body, t.sc, [], []⟩
/-! ### tuples and dicts of the module -/
def entB : List DictEntry → List (Str × Int) → Bool
  | [], [] => true
  | e :: es, p :: ps => (match e.key with
    | .str x _ => decide (x = p.1)
    | _ => false) && (match e.val with
    | .int j _ => decide (j = p.2)
    | _ => false) && entB es ps
  | _, _ => false
def dicB (K : PySem.W.Frag) (a : Addr) (kvs : List (Str × Int)) : Bool := match K.lookup a with
  | some ⟨_, _, .dict es _, _⟩ => entB es.toList kvs
  | _ => false
theorem entB_of : ∀ {es : List DictEntry} {kvs : List (Str × Int)}, entB es kvs = true → es.any (·.refKey) = false ∧ ∀ z : Str, match kvs.lookup z with
    | some i => ∃ e t, es.find? (fun e => e.key.isStr z) = some e ∧ e.val = .int i t
    | none => es.find? (fun e => e.key.isStr z) = none
  | [], [], _ => ⟨rfl, fun z => rfl⟩
  | [], _ :: _, h => by cases h
  | _ :: _, [], h => by cases h
  | e :: es, p :: ps, h => by
    unfold entB at h
    simp only [Bool.and_eq_true] at h
    obtain ⟨⟨h1, h2⟩, h3⟩ := h
    obtain ⟨i1, i2⟩ := entB_of h3
    cases ek : e.key with
    | str x t =>
      rw [ek] at h1
      have hx := of_decide_eq_true h1
      cases ev : e.val with
      | int j u =>
        rw [ev] at h2
        have hj := of_decide_eq_true h2
        refine ⟨?_, fun z => ?_⟩
        · rw [List.any_cons, i1]
          unfold DictEntry.refKey
          rw [ek]
          rfl
        · rw [List.lookup_cons]
          by_cases hz : z = p.1
          · have : (z == p.1) = true := by simpa using hz
            rw [this]
            refine ⟨e, u, ?_, by rw [ev, hj]⟩
            rw [List.find?_cons_of_pos]
            rw [ek]
            show (x == z) = true
            simp [hx, hz]
          · have : (z == p.1) = false := by simpa using hz
            rw [this]
            have e2 : (e :: es).find? (fun e => e.key.isStr z) = es.find? fun e => e.key.isStr z := by
              rw [List.find?_cons_of_neg]
              rw [ek]
              show ¬ (x == z) = true
              intro hh
              have := beq_iff_eq.mp hh
              exact hz (by rw [← this, hx])
            rw [e2]
            exact i2 z
      | _ => rw [ev] at h2; cases h2
    | _ => rw [ek] at h1; cases h1
theorem dicB_of {K : PySem.W.Frag} {a : Addr} {kvs : List (Str × Int)} (h : dicB K a kvs = true) : ∀ z : Str, match kvs.lookup z with
    | some i => ∃ t, PySem.W.nsIn K a z = some (some (.int i t))
    | none => PySem.W.nsIn K a z = some none := by
  intro z
  unfold dicB at h
  split at h
  · rename_i es n sl hl
    obtain ⟨h1, h2⟩ := entB_of h
    have hz := h2 z
    have en : PySem.W.nsIn K a z = (match es.toList.find? (fun e => e.key.isStr z) with
      | some e => some (some e.val)
      | none => if es.toList.any (·.refKey) then none else some none) := by
      unfold PySem.W.nsIn
      rw [hl]
      all_goals rfl
    rw [en, h1]
    cases e : kvs.lookup z with
    | none =>
      rw [e] at hz
      rw [hz]
      rfl
    | some i =>
      rw [e] at hz
      obtain ⟨q, t, e1, e2⟩ := hz
      rw [e1]
      exact ⟨t, congrArg (fun z => some (some z)) e2⟩
  · cases h
/-- what else is asked of the head -/
def exOf (g : SigS) (K : PySem.W.Frag) : Bool := (g.tups.all fun p => (He.Fa.glo p.1).ok K && He.tupB K p.1 (p.2.map He.Dv.str)) && (g.dics.all fun p => (He.Fa.glo p.1).ok K && dicB K (He.ga K p.1) p.2)
def tabsOf (g : SigS) : List He.Tab := g.dics.map fun p => ((fun K => He.ga K p.1), p.2.map (·.1))
theorem strs_dv (K : PySem.W.Frag) : ∀ ss : List Str, (ss.map He.Dv.str).map (He.Dv.v K) = ss.map V.str
  | [] => rfl
  | s :: ss => by rw [List.map_cons, List.map_cons, List.map_cons, strs_dv K ss]; rfl
theorem modOk_of {P : Program} {w : World} {K : PySem.W.Frag} {h : Heap} {mg : Str → Option Value} {g : SigS} {ts : List Tx} (X : K.In h) (G : h.Ns mainGlobals mg) (hp : g.globs.all (fun p => gvPlain p.2) = true) (cc : He.SaysX (faOf g ts) (ts.map ddOf) (tabsOf g) [] (exOf g) w h K) : ModOk P w K mg g ts := by
  have c := cc.t.d
  have cm := cc.more
  unfold exOf at cm
  rw [Bool.and_eq_true] at cm
  have fact : ∀ f ∈ faOf g ts, f.ok K = true := fun f hf => He.SaysD.facts c hf
  have mem : ∀ f, (f ∈ (ts.filter (·.cls.isNone)).map (fun t => He.Fa.glo t.nm) ∨ f ∈ g.frees.map He.Fa.free ∨ f ∈ g.globs.flatMap gvFa ∨ f ∈ g.excs.map He.Fa.glo ∨ f ∈ g.excs.map He.Fa.exc ∨ (f ∈ g.excs.flatMap fun c => g.excs.map fun h => He.Fa.exm c h (subOf c h)) ∨ f ∈ g.clss.map (fun p => He.Fa.cls p.1) ∨ f ∈ g.clss.map (fun p => He.Fa.mkr p.1) ∨ f ∈ g.clss.map (fun p => He.Fa.glo p.1) ∨ f ∈ g.meths.map (fun p => He.Fa.meth p.1 p.2.1) ∨ f ∈ g.flds.map (fun p => He.Fa.noat p.1 p.2)) → f.ok K = true := fun f hf => fact f (by
    unfold faOf
    simp only [List.mem_append]
    rcases hf with h | h | h | h | h | h | h | h | h | h | h <;> simp only [h, true_or, or_true])
  have glo : ∀ x ∈ g.excs, mg x = some (.ref (He.ga K x)) := fun x hx => He.glo_ok X G (mem (.glo x) (by
    right; right; right; left
    exact List.mem_map.mpr ⟨x, hx, rfl⟩))
  refine ⟨fun x hx => He.free_ok X G (mem (.free x) ?_), fun p hp' => ?_, fun t ht => ?_, fun t ht hc => ?_, fun a ha b hb => He.exm_ok (mem (.exm a b (subOf a b)) ?_), fun x hx => ⟨glo x hx, ?_⟩, fun p hp => ⟨?_, ?_, ?_⟩, fun p hp => ?_, fun p hp => ?_, fun p hp => ?_, fun p hp => ?_⟩
  · right; left
    exact List.mem_map.mpr ⟨x, hx, rfl⟩
  · have hpl := List.all_eq_true.mp hp p hp'
    have mem2 : ∀ f ∈ gvFa p, f.ok K = true := fun f hf => mem f (by
      right; right; left
      exact List.mem_flatMap.mpr ⟨p, hp', hf⟩)
    obtain ⟨x, v⟩ := p
    cases v with
    | int i =>
      obtain ⟨t, e⟩ := He.int_ok X G (mem2 (.int x i) (by simp [gvFa]))
      exact ⟨_, .int i, e, ⟨t, rfl⟩, fun _ _ => .int i⟩
    | str s =>
      obtain ⟨t, e⟩ := He.str_ok X G (mem2 (.str x s) (by simp [gvFa]))
      exact ⟨_, .str s, e, ⟨t, rfl⟩, fun _ _ => .str s⟩
    | tups ss => simp [gvPlain] at hpl
  · exact He.SaysD.defs c (d := ddOf t) (List.mem_map.mpr ⟨t, ht, rfl⟩)
  · refine He.glo_ok X G (mem (.glo t.nm) ?_)
    left
    exact List.mem_map.mpr ⟨t, List.mem_filter.mpr ⟨ht, by rw [hc]; rfl⟩, rfl⟩
  · right; right; right; right; right; left
    exact List.mem_flatMap.mpr ⟨a, ha, List.mem_map.mpr ⟨b, hb, rfl⟩⟩
  · intro X' eK em hg hd m j p p2 pos
    have ex := He.exc_ok (mem (.exc x) (by
      right; right; right; right; left
      exact List.mem_map.mpr ⟨x, hx, rfl⟩))
    subst eK
    subst em
    exact pmk_own PySem.F.excBase_ValueError ex.1 (glo x hx) ex.2.1 (raises_own ex.2.2.1 ex.2.2.2) hg hd
  · exact He.cls_ok (mem (.cls p.1) (by
      iterate 6 right
      left
      exact List.mem_map.mpr ⟨p, hp, rfl⟩))
  · exact He.mkr_ok (mem (.mkr p.1) (by
      iterate 7 right
      left
      exact List.mem_map.mpr ⟨p, hp, rfl⟩))
  · exact He.glo_ok X G (mem (.glo p.1) (by
      iterate 8 right
      left
      exact List.mem_map.mpr ⟨p, hp, rfl⟩))
  · exact He.meth_ok (mem (.meth p.1 p.2.1) (by
      iterate 9 right
      left
      exact List.mem_map.mpr ⟨p, hp, rfl⟩))
  · exact He.noat_ok (mem (.noat p.1 p.2) (by
      iterate 10 right
      exact List.mem_map.mpr ⟨p, hp, rfl⟩))
  · have := List.all_eq_true.mp cm.1 p hp
    rw [Bool.and_eq_true] at this
    refine ⟨_, He.glo_ok X G this.1, fun H => ?_⟩
    have t := He.tupB_ok this.2 H
    rw [strs_dv] at t
    exact t
  · have := List.all_eq_true.mp cm.2 p hp
    rw [Bool.and_eq_true] at this
    obtain ⟨i, hi, e⟩ := List.mem_iff_getElem.mp hp
    obtain ⟨es, n, kd⟩ := cc.t.tab i (t := ((fun K => He.ga K p.1), p.2.map (·.1))) (by
      unfold tabsOf
      rw [List.getElem?_map, List.getElem?_eq_getElem hi, e]
      rfl)
    exact ⟨_, es, n, He.glo_ok X G this.1, kd, dicB_of this.2⟩
/-- a law's end, where what an exception leaves hangs on the world -/
theorem walk_ofW {l : PySem.W.OpenLaw} {n k : Nat} {q : Program} {loose : List Str} {XP : (Str → Option Value) → Heap → Prop} {YP : World → Heap → Prop} {d : DefRec} {CX : World → CXT} {x : Str}
    (hn : l.most = some n) (hn2 : n ≤ sizeLine) (hdf : d.params.defaults = []) (hr : Room k callerA)
    (F : ∀ (w : World) (mg : Str → Option Value) (fa : Addr) (h : Heap), YP w h → h.Ns mainGlobals mg → mg d.name = some (.ref fa) →
      ∃ (K : PySem.W.Frag) (fd : FuncData) (sp : Sp), K.In h ∧ (∀ (s : Shared) (u : Value), BindsTo s fd ⟨[u], []⟩ [(x, u)]) ∧
        (∀ (H : Hp) (a : Addr) (ns : List Int), ns.length ≤ n → SqL K H a (ns.map V.int) → sp [.ref a] H (fun v _ => v = .bl true) fun _ _ _ => False) ∧
        ∀ base : Heap, K.In base → base.Ns mainGlobals mg → FnOk l.prog w K mg base (CX w) k fa fd [x] sp)
    (hCX : ∀ (w : World) (H : Hp) (s : Shared) (e : Value) (s' : Shared), CX w [] H s (fun _ _ _ => False) e s' → False) :
    PySem.W.WalkO q loose XP YP l.row.toRowW d [] (fun f vs => PySem.call f vs) := by
  refine Att.attach_call hn hdf fun w s0 s1 mg mb fa o pm cd doc a vs ns G Y ho hd hcd hmg hobj hints hlen hg => ?_
  obtain ⟨K, fd, sp, KX, hb, hsp, hF⟩ := F w mg fa _ Y G.T.g hmg
  exact law_call KX G.T.g G.T.b G.T.builtins G.T.nolimit hg hobj hints (Nat.le_trans hlen hn2) hr hF hb (fun H hO hS => hsp H a ns hlen hS) fun H e s' => hCX w H s1 e s'
/-- the law, where the small language's run says True at every script -/
theorem law_of {P : Program} {w : World} {K : PySem.W.Frag} {h : Heap} {mg : Str → Option Value} {g : SigS} {ts : List Tx} {defs : List (Str × Df)} {k : Nat} {x : Str} {fa : Addr} (X : K.In h) (G : h.Ns mainGlobals mg) (hp : g.globs.all (fun p => gvPlain p.2) = true) (c : He.SaysX (faOf g ts) (ts.map ddOf) (tabsOf g) [] (exOf g) w h K)
    (ck : ckAll g ts defs = true) (hps : (ts.all fun t => !(t.cls.isNone && decide (t.nm = ("law" : Str))) || decide (t.ps = [x])) = true) (hd : (g.defs.any fun p => decide (p.1 = ("law" : Str))) = true) (hfa : mg ("law" : Str) = some (.ref fa))
    (run : ∀ ns : List Int, ns.length ≤ 63 → ∃ st, callF defs g.clss g.excs (k + 1) "law" [.scr ns] [] = .ok (.bl true) st) :
    ∃ (K : PySem.W.Frag) (fd : FuncData) (sp : Sp), K.In h ∧ (∀ (s : Shared) (u : Value), BindsTo s fd ⟨[u], []⟩ [(x, u)]) ∧
        (∀ (H : Hp) (a : Addr) (ns : List Int), ns.length ≤ 63 → SqL K H a (ns.map V.int) → sp [.ref a] H (fun v _ => v = .bl true) fun _ _ _ => False) ∧
        ∀ base : Heap, K.In base → base.Ns mainGlobals mg → FnOk P w K mg base (L2.CX P w) (2 * (k + 1)) fa fd [x] sp := by
  have M : ModOk P w K mg g ts := modOk_of X G hp c
  obtain ⟨p, hpd, hpn⟩ := List.any_eq_true.mp hd
  have en := of_decide_eq_true hpn
  obtain ⟨hi, t, ht, d, tc, tn, e, hk⟩ := ckAll_of ck hpd
  have ps : t.ps = [x] := by
    have := List.all_eq_true.mp hps t ht
    rw [tn, en, tc] at this
    simpa using this
  obtain ⟨fd, F⟩ := M.defs t ht
  have hm := M.glo t ht tc
  have ea : He.fAd K (atOf t) = He.ga K t.nm := by
    unfold atOf
    rw [tc]
    rfl
  rw [tn, en, hfa] at hm
  have ef : fa = He.ga K t.nm := by
    rw [tn, en]
    injection hm with hm
    injection hm
  rw [ea, ← ef] at F
  have hk0 := hk
  unfold ckDf at hk0
  simp only [Bool.and_eq_true] at hk0
  have bd : ∀ (s : Shared) (u : Value), BindsTo s fd ⟨[u], []⟩ [(x, u)] := fun s u => by
    have := FunD.bindsA (ps := t.ps) F (bind_gen (plainB_of hk0.1.1.1.1) (by rw [ps]; simp)) s [u] (by rw [ps]; rfl)
    rw [ps] at this
    exact this
  refine ⟨K, fd, spOf K (callF defs g.clss g.excs (k + 1)) "law", X, bd, fun H a ns hl hS => ?_, fun base _ _ => ?_⟩
  · obtain ⟨st, e⟩ := run ns hl
    refine ⟨⟨[], []⟩, [], [.scr ns], ⟨rfl, List.nodup_nil, fun l a o h => by simp at h, fun a h => by simp at h⟩, .cons (.scr ?_) .nil, ?_⟩
    · rcases hS with hS | hS
      · exact .inl ⟨hS, fun m => by rcases m with m | m <;> simp at m⟩
      · exact .inr hS
    · rw [e]
      intro ρ' w' H' _ _ q
      cases q
      rfl
  · rw [en] at hi e
    have := fnOk_step (base := base) (n := k) (f := "law") M F hi e hk (levOk M ck k)
    rw [ps] at this
    exact this
end Rc
/-! RcH: the Hook over a given list of places. -/
namespace Rc
open PySem He
def obsL (as : List Addr) (fa : List Fa) (fn : List DefD) (ts : List Tab) (ex : PySem.W.Frag → Bool) (g : Addr → Option Obj) : AlX := (obsT fa fn ts (frT g as), ex (frT g as))
def hookL (as : List Addr) (fa : List Fa) (fn : List DefD) (ts : List Tab) (ex : PySem.W.Frag → Bool) : PySem.W.Hook where
  α := AlX
  obs := fun s => obsL as fa fn ts ex s.heap.get?
  val := fun w => valX fn ts w
  says := fun w h => ∃ K : PySem.W.Frag, K.In h ∧ SaysX fa fn ts [] ex w h K
  of := fun _ _ e => ⟨_, frT_in, ⟨congrArg (fun z : AlX => z.1) e, congrArg (fun z : AlX => z.2) e, fun _ hp => (by cases hp), fun _ hp => (by cases hp), fun _ hp => (by cases hp)⟩⟩
  keeps := fun _ _ _ ⟨K, hK, c⟩ k => ⟨K, PySem.W.Frag.In.keeps hK k, ⟨c.t, c.more, c.hd, c.out, fun p hp => k _ _ (c.empty p hp)⟩⟩
theorem obsL_eq {as : List Addr} {fa : List Fa} {fn : List DefD} {ts : List Tab} {ex : PySem.W.Frag → Bool} {g : Addr → Option Obj} {s : Shared} (h : ∀ a, g a = s.heap.get? a) : obsL as fa fn ts ex g = (hookL as fa fn ts ex).obs s := by
  have e : g = s.heap.get? := funext h
  rw [e] <;> rfl
end Rc
namespace Rc
open PySem He
section
variable {α β γ σ : Type}
theorem join2 {o : Option σ} {f : σ → α} {g : σ → β} {a : α} {b : β} (h1 : o.map f = some a) (h2 : o.map g = some b) : o.map (fun s => (f s, g s)) = some (a, b) := by
  cases o with
  | none => cases h1
  | some s =>
    cases Option.some.inj h1
    cases Option.some.inj h2
    rfl
theorem join_and {o : Option σ} {f g : σ → Bool} (h1 : o.map f = some true) (h2 : o.map g = some true) : o.map (fun s => f s && g s) = some true := by
  cases o with
  | none => cases h1
  | some s =>
    have e1 : f s = true := Option.some.inj h1
    have e2 : g s = true := Option.some.inj h2
    show some (f s && g s) = _
    rw [e1, e2]
    rfl
end
/-- what is looked at, in parts -/
theorem obs_parts {σ : Type} {o : Option σ} {g : σ → Addr → Option Obj} {as : List Addr} {fa : List Fa} {fn : List DefD} {ts : List Tab} {ex : PySem.W.Frag → Bool} {w : World}
    (h1 : o.map (fun s => fa.all fun f => f.ok (frT (g s) as)) = some true) (h2 : o.map (fun s => fn.all fun d => d.ok (frT (g s) as)) = some true) (h3 : o.map (fun s => fn.map fun d => fnW (frT (g s) as) d.at_) = some (fn.map DefD.val))
    (h4 : o.map (fun s => (ts.map fun t => dicW (frT (g s) as) (t.1 (frT (g s) as)), ex (frT (g s) as))) = some (ts.map fun t => some (keysIn w.params t.2), true)) :
    o.map (fun s => obsL as fa fn ts ex (g s)) = some (valX fn ts w) := by
  cases o with
  | none => cases h1
  | some s =>
    have e1 : (fa.all fun f => f.ok (frT (g s) as)) = true := Option.some.inj h1
    have e2 : (fn.all fun d => d.ok (frT (g s) as)) = true := Option.some.inj h2
    have e3 : (fn.map fun d => fnW (frT (g s) as) d.at_) = fn.map DefD.val := Option.some.inj h3
    have e4 : (ts.map fun t => dicW (frT (g s) as) (t.1 (frT (g s) as)), ex (frT (g s) as)) = (ts.map fun t => some (keysIn w.params t.2), true) := Option.some.inj h4
    obtain ⟨e5, e6⟩ := Prod.mk.inj e4
    show some ((((fa.all fun f => f.ok (frT (g s) as)) && fn.all fun d => d.ok (frT (g s) as), fn.map fun d => fnW (frT (g s) as) d.at_), ts.map fun t => dicW (frT (g s) as) (t.1 (frT (g s) as))), ex (frT (g s) as)) = _
    rw [e1, e2, e3, e5, e6]
    rfl
theorem all_app {α : Type} {σ : Type} {o : Option σ} {k : σ → α → Bool} {a b : List α} (h1 : o.map (fun s => a.all (k s)) = some true) (h2 : o.map (fun s => b.all (k s)) = some true) : o.map (fun s => (a ++ b).all (k s)) = some true := by
  cases o with
  | none => cases h1
  | some s =>
    have e1 : a.all (k s) = true := Option.some.inj h1
    have e2 : b.all (k s) = true := Option.some.inj h2
    show some ((a ++ b).all (k s)) = _
    rw [List.all_append, e1, e2]
    rfl
end Rc
namespace L_k57
open PySem L2 Rc
def top (i : Nat) : Stmt := PySem.Challenge.pw_rolledclay_k57_whole_rollings_stay_unlik.main.body.getD i (.Pass ⟨0, 0, 0, 0⟩)
def clsBody : Stmt → List Stmt
  | .ClassDef _ _ _ b _ _ _ _ _ _ _ => b
  | _ => []
def mth (i j : Nat) : Stmt := (clsBody (top i)).getD j (.Pass ⟨0, 0, 0, 0⟩)
def t_good_cell : Tx := ⟨"good_cell", "good_cell", none, [("cell" : Str)], [("cell" : Str)], defArgs (top 21), defBody (top 21), defScope (top 21)⟩
def t_good_strip : Tx := ⟨"good_strip", "good_strip", none, [("strip" : Str)], [("strip" : Str), ("column" : Str), ("cell" : Str)], defArgs (top 25), defBody (top 25), defScope (top 25)⟩
def t_need_strip : Tx := ⟨"need_strip", "need_strip", none, [("strip" : Str)], [("strip" : Str)], defArgs (top 26), defBody (top 26), defScope (top 26)⟩
def t_about : Tx := ⟨"about", "about", none, [("strip" : Str)], [("strip" : Str), ("column" : Str)], defArgs (top 27), defBody (top 27), defScope (top 27)⟩
def t_parts : Tx := ⟨"parts", "parts", none, [("strip" : Str), ("at" : Str)], [("strip" : Str), ("at" : Str)], defArgs (top 28), defBody (top 28), defScope (top 28)⟩
def t_good_seal : Tx := ⟨"good_seal", "good_seal", none, [("seal" : Str)], [("seal" : Str), ("column" : Str)], defArgs (top 31), defBody (top 31), defScope (top 31)⟩
def t_print_of : Tx := ⟨"print_of", "print_of", none, [("seal" : Str), ("start" : Str), ("many" : Str)], [("seal" : Str), ("start" : Str), ("many" : Str), ("k" : Str)], defArgs (top 32), defBody (top 32), defScope (top 32)⟩
def t_need_height : Tx := ⟨"need_height", "need_height", none, [("height" : Str)], [("height" : Str)], defArgs (top 36), defBody (top 36), defScope (top 36)⟩
def t_need_cell : Tx := ⟨"need_cell", "need_cell", none, [("rows" : Str), ("column" : Str), ("row" : Str)], [("rows" : Str), ("column" : Str), ("row" : Str)], defArgs (top 37), defBody (top 37), defScope (top 37)⟩
def t_with_cell : Tx := ⟨"with_cell", "with_cell", none, [("rows" : Str), ("column" : Str), ("row" : Str), ("cell" : Str)], [("rows" : Str), ("column" : Str), ("row" : Str), ("cell" : Str), ("changed" : Str)], defArgs (top 38), defBody (top 38), defScope (top 38)⟩
def t_look_deed : Tx := ⟨"look_deed", "look_deed", none, [("deed" : Str)], [("deed" : Str)], defArgs (top 42), defBody (top 42), defScope (top 42)⟩
def t_done_in : Tx := ⟨"done_in", "done_in", none, [("shop" : Str), ("deed" : Str)], [("shop" : Str), ("deed" : Str), ("word" : Str)], defArgs (top 43), defBody (top 43), defScope (top 43)⟩
def t__law_open : Tx := ⟨"_law_open", "_law_open", none, [("_law_script" : Str)], [("_law_script" : Str)], defArgs (top 46), defBody (top 46), defScope (top 46)⟩
def t__law_pull : Tx := ⟨"_law_pull", "_law_pull", none, [("_law_draw" : Str), ("_law_total_of" : Str)], [("_law_draw" : Str), ("_law_total_of" : Str), ("_law_seed" : Str), ("_law_cell" : Str), ("_law_got" : Str)], defArgs (top 47), defBody (top 47), defScope (top 47)⟩
def t__law_far : Tx := ⟨"_law_far", "_law_far", none, [("_law_draw" : Str)], [("_law_draw" : Str), ("_law_number" : Str)], defArgs (top 48), defBody (top 48), defScope (top 48)⟩
def t__law_near : Tx := ⟨"_law_near", "_law_near", none, [("_law_draw" : Str), ("_law_total_of" : Str)], [("_law_draw" : Str), ("_law_total_of" : Str)], defArgs (top 49), defBody (top 49), defScope (top 49)⟩
def t__law_num : Tx := ⟨"_law_num", "_law_num", none, [("_law_found" : Str)], [("_law_found" : Str)], defArgs (top 50), defBody (top 50), defScope (top 50)⟩
def t__law_like : Tx := ⟨"_law_like", "_law_like", none, [("_law_found" : Str), ("_law_due" : Str)], [("_law_found" : Str), ("_law_due" : Str), ("_law_k" : Str)], defArgs (top 51), defBody (top 51), defScope (top 51)⟩
def t__law_number_of : Tx := ⟨"_law_number_of", "_law_number_of", none, [("_law_draw" : Str), ("_law_numbers" : Str)], [("_law_draw" : Str), ("_law_numbers" : Str)], defArgs (top 52), defBody (top 52), defScope (top 52)⟩
def t__law_turned : Tx := ⟨"_law_turned", "_law_turned", none, [("_law_strip" : Str)], [("_law_strip" : Str), ("_law_column" : Str), ("_law_cell" : Str)], defArgs (top 53), defBody (top 53), defScope (top 53)⟩
def t__law_strip_ok : Tx := ⟨"_law_strip_ok", "_law_strip_ok", none, [("_law_strip" : Str)], [("_law_strip" : Str), ("_law_high" : Str), ("_law_column" : Str), ("_law_cell" : Str)], defArgs (top 54), defBody (top 54), defScope (top 54)⟩
def t__law_seal_ok : Tx := ⟨"_law_seal_ok", "_law_seal_ok", none, [("_law_seal_here" : Str)], [("_law_seal_here" : Str), ("_law_column" : Str)], defArgs (top 55), defBody (top 55), defScope (top 55)⟩
def t__law_seal : Tx := ⟨"_law_seal", "_law_seal", none, [("_law_draw" : Str), ("_law_high" : Str), ("_law_most" : Str)], [("_law_draw" : Str), ("_law_high" : Str), ("_law_most" : Str), ("_law_top" : Str), ("_law_size" : Str), ("_law_k" : Str), ("_law_row" : Str)], defArgs (top 56), defBody (top 56), defScope (top 56)⟩
def t__law_print : Tx := ⟨"_law_print", "_law_print", none, [("_law_seal_here" : Str), ("_law_start" : Str), ("_law_many" : Str)], [("_law_seal_here" : Str), ("_law_start" : Str), ("_law_many" : Str), ("_law_strip" : Str), ("_law_at" : Str), ("_law_step" : Str)], defArgs (top 57), defBody (top 57), defScope (top 57)⟩
def t__law_changed : Tx := ⟨"_law_changed", "_law_changed", none, [("_law_strip" : Str), ("_law_k" : Str), ("_law_row" : Str), ("_law_cell" : Str)], [("_law_strip" : Str), ("_law_k" : Str), ("_law_row" : Str), ("_law_cell" : Str), ("_law_column" : Str)], defArgs (top 58), defBody (top 58), defScope (top 58)⟩
def t__law_shop : Tx := ⟨"_law_shop", "_law_shop", none, [("_law_high" : Str)], [("_law_high" : Str)], defArgs (top 59), defBody (top 59), defScope (top 59)⟩
def t__law_s_copy : Tx := ⟨"_law_s_copy", "_law_s_copy", none, [("_law_m" : Str)], [("_law_m" : Str), ("_law_other" : Str)], defArgs (top 60), defBody (top 60), defScope (top 60)⟩
def t__law_s_cells : Tx := ⟨"_law_s_cells", "_law_s_cells", none, [("_law_m" : Str), ("_law_number" : Str)], [("_law_m" : Str), ("_law_number" : Str), ("_law_roll" : Str), ("_law_at" : Str), ("_law_cells" : Str)], defArgs (top 61), defBody (top 61), defScope (top 61)⟩
def t__law_s_cut : Tx := ⟨"_law_s_cut", "_law_s_cut", none, [("_law_m" : Str), ("_law_seal_here" : Str)], [("_law_m" : Str), ("_law_seal_here" : Str)], defArgs (top 62), defBody (top 62), defScope (top 62)⟩
def t__law_s_chip : Tx := ⟨"_law_s_chip", "_law_s_chip", none, [("_law_m" : Str), ("_law_seal_here" : Str), ("_law_column" : Str), ("_law_row" : Str)], [("_law_m" : Str), ("_law_seal_here" : Str), ("_law_column" : Str), ("_law_row" : Str), ("_law_old" : Str)], defArgs (top 63), defBody (top 63), defScope (top 63)⟩
def t__law_s_roll : Tx := ⟨"_law_s_roll", "_law_s_roll", none, [("_law_m" : Str), ("_law_seal_here" : Str), ("_law_start" : Str), ("_law_wide" : Str)], [("_law_m" : Str), ("_law_seal_here" : Str), ("_law_start" : Str), ("_law_wide" : Str), ("_law_strip" : Str), ("_law_roll" : Str), ("_law_number" : Str), ("_law_at" : Str)], defArgs (top 64), defBody (top 64), defScope (top 64)⟩
def t__law_s_turn : Tx := ⟨"_law_s_turn", "_law_s_turn", none, [("_law_m" : Str), ("_law_number" : Str)], [("_law_m" : Str), ("_law_number" : Str), ("_law_way" : Str), ("_law_row" : Str), ("_law_roll" : Str), ("_law_at" : Str), ("_law_cells" : Str)], defArgs (top 65), defBody (top 65), defScope (top 65)⟩
def t__law_s_wear : Tx := ⟨"_law_s_wear", "_law_s_wear", none, [("_law_m" : Str), ("_law_number" : Str), ("_law_column" : Str), ("_law_spot" : Str)], [("_law_m" : Str), ("_law_number" : Str), ("_law_column" : Str), ("_law_spot" : Str), ("_law_worn" : Str), ("_law_way" : Str), ("_law_row" : Str), ("_law_roll" : Str), ("_law_at" : Str), ("_law_cells" : Str)], defArgs (top 66), defBody (top 66), defScope (top 66)⟩
def t__law_s_snap : Tx := ⟨"_law_s_snap", "_law_s_snap", none, [("_law_m" : Str), ("_law_number" : Str), ("_law_at" : Str)], [("_law_m" : Str), ("_law_number" : Str), ("_law_at" : Str), ("_law_fresh" : Str), ("_law_way" : Str), ("_law_row" : Str)], defArgs (top 67), defBody (top 67), defScope (top 67)⟩
def t__law_s_join : Tx := ⟨"_law_s_join", "_law_s_join", none, [("_law_m" : Str), ("_law_one" : Str), ("_law_other" : Str)], [("_law_m" : Str), ("_law_one" : Str), ("_law_other" : Str), ("_law_way" : Str), ("_law_left" : Str), ("_law_side" : Str), ("_law_right" : Str)], defArgs (top 68), defBody (top 68), defScope (top 68)⟩
def t__law_s_do : Tx := ⟨"_law_s_do", "_law_s_do", none, [("_law_m" : Str), ("_law_deed_here" : Str)], [("_law_m" : Str), ("_law_deed_here" : Str), ("_law_word" : Str), ("_law_strip" : Str)], defArgs (top 69), defBody (top 69), defScope (top 69)⟩
def t__law_same_end : Tx := ⟨"_law_same_end", "_law_same_end", none, [("_law_found" : Str), ("_law_due" : Str)], [("_law_found" : Str), ("_law_due" : Str)], defArgs (top 70), defBody (top 70), defScope (top 70)⟩
def t__law_two_pieces : Tx := ⟨"_law_two_pieces", "_law_two_pieces", none, [("_law_draw" : Str), ("_law_m" : Str)], [("_law_draw" : Str), ("_law_m" : Str), ("_law_numbers" : Str), ("_law_one" : Str), ("_law_other" : Str)], defArgs (top 71), defBody (top 71), defScope (top 71)⟩
def t__law_deed : Tx := ⟨"_law_deed", "_law_deed", none, [("_law_draw" : Str), ("_law_m" : Str)], [("_law_draw" : Str), ("_law_m" : Str), ("_law_turn" : Str), ("_law_numbers" : Str), ("_law_seal_here" : Str), ("_law_number" : Str), ("_law_wide" : Str), ("_law_size" : Str), ("_law_start" : Str), ("_law_pair" : Str)], defArgs (top 72), defBody (top 72), defScope (top 72)⟩
def t__law_journal_do : Tx := ⟨"_law_journal_do", "_law_journal_do", none, [("_law_journal" : Str), ("_law_deed_here" : Str)], [("_law_journal" : Str), ("_law_deed_here" : Str)], defArgs (top 73), defBody (top 73), defScope (top 73)⟩
def t__law_odd_columns : Tx := ⟨"_law_odd_columns", "_law_odd_columns", none, [("_law_draw" : Str), ("_law_columns" : Str)], [("_law_draw" : Str), ("_law_columns" : Str), ("_law_taller" : Str), ("_law_odds" : Str), ("_law_column" : Str)], defArgs (top 74), defBody (top 74), defScope (top 74)⟩
def t__law_no_pieces : Tx := ⟨"_law_no_pieces", "_law_no_pieces", none, [("_law_shop_here" : Str), ("_law_one" : Str), ("_law_other" : Str)], [("_law_shop_here" : Str), ("_law_one" : Str), ("_law_other" : Str)], defArgs (top 75), defBody (top 75), defScope (top 75)⟩
def t__law_apart : Tx := ⟨"_law_apart", "_law_apart", none, [("_law_shop_here" : Str), ("_law_first" : Str), ("_law_second" : Str), ("_law_at" : Str), ("_law_flip" : Str)], [("_law_shop_here" : Str), ("_law_first" : Str), ("_law_second" : Str), ("_law_at" : Str), ("_law_flip" : Str), ("_law_strips" : Str), ("_law_parts_of" : Str), ("_law_rows" : Str), ("_law_row" : Str), ("_law_due" : Str), ("_law_number" : Str), ("_law_left" : Str), ("_law_right" : Str), ("_law_strip" : Str)], defArgs (top 76), defBody (top 76), defScope (top 76)⟩
def t_law : Tx := ⟨"law", "law", none, [("_law_script" : Str)], [("_law_script" : Str), ("_law_draw" : Str), ("_law_high" : Str), ("_law_journal" : Str), ("_law_m" : Str), ("_law_turn" : Str), ("_law_size" : Str), ("_law_wide" : Str), ("_law_roll" : Str), ("_law_at" : Str), ("_law_first" : Str), ("_law_flip" : Str), ("_law_shop_here" : Str), ("_law_shops" : Str), ("_law_one" : Str), ("_law_second" : Str), ("_law_deed_here" : Str)], defArgs (top 77), defBody (top 77), defScope (top 77)⟩
def t_Shop___init__ : Tx := ⟨"__init__", "Shop.__init__", some "Shop", [("self" : Str), ("height" : Str)], [("self" : Str), ("height" : Str)], defArgs (mth 39 0), defBody (mth 39 0), defScope (mth 39 0)⟩
def t_Shop_need_seal : Tx := ⟨"need_seal", "Shop.need_seal", some "Shop", [("self" : Str), ("seal" : Str)], [("self" : Str), ("seal" : Str)], defArgs (mth 39 1), defBody (mth 39 1), defScope (mth 39 1)⟩
def t_Shop_need_strip : Tx := ⟨"need_strip", "Shop.need_strip", some "Shop", [("self" : Str), ("number" : Str)], [("self" : Str), ("number" : Str)], defArgs (mth 39 2), defBody (mth 39 2), defScope (mth 39 2)⟩
def t_Shop_add : Tx := ⟨"add", "Shop.add", some "Shop", [("self" : Str), ("thing" : Str)], [("self" : Str), ("thing" : Str)], defArgs (mth 39 3), defBody (mth 39 3), defScope (mth 39 3)⟩
def t_Shop_cut : Tx := ⟨"cut", "Shop.cut", some "Shop", [("self" : Str), ("seal" : Str)], [("self" : Str), ("seal" : Str)], defArgs (mth 39 4), defBody (mth 39 4), defScope (mth 39 4)⟩
def t_Shop_chip : Tx := ⟨"chip", "Shop.chip", some "Shop", [("self" : Str), ("seal" : Str), ("column" : Str), ("row" : Str)], [("self" : Str), ("seal" : Str), ("column" : Str), ("row" : Str), ("sign" : Str)], defArgs (mth 39 5), defBody (mth 39 5), defScope (mth 39 5)⟩
def t_Shop_roll : Tx := ⟨"roll", "Shop.roll", some "Shop", [("self" : Str), ("seal" : Str), ("start" : Str), ("many" : Str)], [("self" : Str), ("seal" : Str), ("start" : Str), ("many" : Str), ("whence" : Str), ("number" : Str)], defArgs (mth 39 6), defBody (mth 39 6), defScope (mth 39 6)⟩
def t_Shop_turn : Tx := ⟨"turn", "Shop.turn", some "Shop", [("self" : Str), ("number" : Str)], [("self" : Str), ("number" : Str), ("rows" : Str), ("whence" : Str), ("first" : Str), ("way" : Str)], defArgs (mth 39 7), defBody (mth 39 7), defScope (mth 39 7)⟩
def t_Shop_wear : Tx := ⟨"wear", "Shop.wear", some "Shop", [("self" : Str), ("number" : Str), ("column" : Str), ("row" : Str)], [("self" : Str), ("number" : Str), ("column" : Str), ("row" : Str), ("sign" : Str), ("rows" : Str), ("whence" : Str), ("first" : Str), ("way" : Str)], defArgs (mth 39 8), defBody (mth 39 8), defScope (mth 39 8)⟩
def t_Shop_snap : Tx := ⟨"snap", "Shop.snap", some "Shop", [("self" : Str), ("number" : Str), ("at" : Str)], [("self" : Str), ("number" : Str), ("at" : Str), ("rows" : Str), ("whence" : Str), ("first" : Str), ("way" : Str), ("left" : Str), ("right" : Str), ("fresh" : Str)], defArgs (mth 39 9), defBody (mth 39 9), defScope (mth 39 9)⟩
def t_Shop_join : Tx := ⟨"join", "Shop.join", some "Shop", [("self" : Str), ("one" : Str), ("other" : Str)], [("self" : Str), ("one" : Str), ("other" : Str), ("left" : Str), ("whence" : Str), ("first" : Str), ("way" : Str), ("right" : Str), ("source" : Str), ("start" : Str), ("turned" : Str)], defArgs (mth 39 10), defBody (mth 39 10), defScope (mth 39 10)⟩
def t_Shop_lose : Tx := ⟨"lose", "Shop.lose", some "Shop", [("self" : Str), ("number" : Str)], [("self" : Str), ("number" : Str)], defArgs (mth 39 11), defBody (mth 39 11), defScope (mth 39 11)⟩
def t_Shop_seal : Tx := ⟨"seal", "Shop.seal", some "Shop", [("self" : Str), ("number" : Str)], [("self" : Str), ("number" : Str)], defArgs (mth 39 13), defBody (mth 39 13), defScope (mth 39 13)⟩
def t_Shop_strip : Tx := ⟨"strip", "Shop.strip", some "Shop", [("self" : Str), ("number" : Str)], [("self" : Str), ("number" : Str)], defArgs (mth 39 15), defBody (mth 39 15), defScope (mth 39 15)⟩
def t_Shop_twin : Tx := ⟨"twin", "Shop.twin", some "Shop", [("self" : Str)], [("self" : Str), ("other" : Str)], defArgs (mth 39 18), defBody (mth 39 18), defScope (mth 39 18)⟩
def t_Journal___init__ : Tx := ⟨"__init__", "Journal.__init__", some "Journal", [("self" : Str), ("height" : Str)], [("self" : Str), ("height" : Str)], defArgs (mth 44 0), defBody (mth 44 0), defScope (mth 44 0)⟩
def t_Journal_done_now : Tx := ⟨"done_now", "Journal.done_now", some "Journal", [("self" : Str), ("deed" : Str)], [("self" : Str), ("deed" : Str), ("ahead" : Str), ("answer" : Str)], defArgs (mth 44 1), defBody (mth 44 1), defScope (mth 44 1)⟩
def t_Journal_do : Tx := ⟨"do", "Journal.do", some "Journal", [("self" : Str), ("deed" : Str)], [("self" : Str), ("deed" : Str), ("answer" : Str)], defArgs (mth 44 2), defBody (mth 44 2), defScope (mth 44 2)⟩
def t_Journal_back : Tx := ⟨"back", "Journal.back", some "Journal", [("self" : Str)], [("self" : Str)], defArgs (mth 44 3), defBody (mth 44 3), defScope (mth 44 3)⟩
def t_Journal_shop : Tx := ⟨"shop", "Journal.shop", some "Journal", [("self" : Str)], [("self" : Str)], defArgs (mth 44 6), defBody (mth 44 6), defScope (mth 44 6)⟩
def tsA : List Tx := [t_good_cell, t_good_strip, t_need_strip, t_about, t_parts, t_good_seal, t_print_of, t_need_height, t_need_cell, t_with_cell, t_look_deed, t_done_in, t__law_open, t__law_pull, t__law_far, t__law_near, t__law_num, t__law_like, t__law_number_of, t__law_turned, t__law_strip_ok, t__law_seal_ok, t__law_seal, t__law_print, t__law_changed, t__law_shop, t__law_s_copy, t__law_s_cells, t__law_s_cut, t__law_s_chip, t__law_s_roll, t__law_s_turn]
def tsB : List Tx := [t__law_s_wear, t__law_s_snap, t__law_s_join, t__law_s_do, t__law_same_end, t__law_two_pieces, t__law_deed, t__law_journal_do, t__law_odd_columns, t__law_no_pieces, t__law_apart, t_law, t_Shop___init__, t_Shop_need_seal, t_Shop_need_strip, t_Shop_add, t_Shop_cut, t_Shop_chip, t_Shop_roll, t_Shop_turn, t_Shop_wear, t_Shop_snap, t_Shop_join, t_Shop_lose, t_Shop_seal, t_Shop_strip, t_Shop_twin, t_Journal___init__, t_Journal_done_now, t_Journal_do, t_Journal_back, t_Journal_shop]
def ts : List Tx := tsA ++ tsB
def sg : SigS := { frees := [("all" : Str), ("any" : Str), ("bool" : Str), ("dict" : Str), ("int" : Str), ("isinstance" : Str), ("len" : Str), ("list" : Str), ("max" : Str), ("min" : Str), ("range" : Str), ("sorted" : Str), ("str" : Str), ("tuple" : Str)], globs := [(("GONE" : Str), (.int (-1))), (("LAST_SIGN" : Str), (.int 9)), (("MOST_COLUMNS" : Str), (.int 6)), (("MOST_ROLLED" : Str), (.int 40)), (("MOST_ROWS" : Str), (.int 3)), (("MOST_SEALS" : Str), (.int 6)), (("MOST_WIDE" : Str), (.int 12))], defs := [(("good_cell" : Str), 1), (("good_strip" : Str), 1), (("need_strip" : Str), 1), (("about" : Str), 1), (("parts" : Str), 2), (("good_seal" : Str), 1), (("print_of" : Str), 3), (("need_height" : Str), 1), (("need_cell" : Str), 3), (("with_cell" : Str), 4), (("look_deed" : Str), 1), (("done_in" : Str), 2), (("_law_open" : Str), 1), (("_law_pull" : Str), 2), (("_law_far" : Str), 1), (("_law_near" : Str), 2), (("_law_num" : Str), 1), (("_law_like" : Str), 2), (("_law_number_of" : Str), 2), (("_law_turned" : Str), 1), (("_law_strip_ok" : Str), 1), (("_law_seal_ok" : Str), 1), (("_law_seal" : Str), 3), (("_law_print" : Str), 3), (("_law_changed" : Str), 4), (("_law_shop" : Str), 1), (("_law_s_copy" : Str), 1), (("_law_s_cells" : Str), 2), (("_law_s_cut" : Str), 2), (("_law_s_chip" : Str), 4), (("_law_s_roll" : Str), 4), (("_law_s_turn" : Str), 2), (("_law_s_wear" : Str), 4), (("_law_s_snap" : Str), 3), (("_law_s_join" : Str), 3), (("_law_s_do" : Str), 2), (("_law_same_end" : Str), 2), (("_law_two_pieces" : Str), 2), (("_law_deed" : Str), 2), (("_law_journal_do" : Str), 2), (("_law_odd_columns" : Str), 2), (("_law_no_pieces" : Str), 3), (("_law_apart" : Str), 5), (("law" : Str), 1)], clss := [(("Journal" : Str), ("Journal.__init__" : Str)), (("Shop" : Str), ("Shop.__init__" : Str))], meths := [(("Journal" : Str), ("back" : Str), ("Journal.back" : Str)), (("Journal" : Str), ("do" : Str), ("Journal.do" : Str)), (("Journal" : Str), ("done_now" : Str), ("Journal.done_now" : Str)), (("Journal" : Str), ("shop" : Str), ("Journal.shop" : Str)), (("Shop" : Str), ("add" : Str), ("Shop.add" : Str)), (("Shop" : Str), ("chip" : Str), ("Shop.chip" : Str)), (("Shop" : Str), ("cut" : Str), ("Shop.cut" : Str)), (("Shop" : Str), ("join" : Str), ("Shop.join" : Str)), (("Shop" : Str), ("lose" : Str), ("Shop.lose" : Str)), (("Shop" : Str), ("need_seal" : Str), ("Shop.need_seal" : Str)), (("Shop" : Str), ("need_strip" : Str), ("Shop.need_strip" : Str)), (("Shop" : Str), ("roll" : Str), ("Shop.roll" : Str)), (("Shop" : Str), ("seal" : Str), ("Shop.seal" : Str)), (("Shop" : Str), ("snap" : Str), ("Shop.snap" : Str)), (("Shop" : Str), ("strip" : Str), ("Shop.strip" : Str)), (("Shop" : Str), ("turn" : Str), ("Shop.turn" : Str)), (("Shop" : Str), ("twin" : Str), ("Shop.twin" : Str)), (("Shop" : Str), ("wear" : Str), ("Shop.wear" : Str))], flds := [(("Journal" : Str), ("earlier" : Str)), (("Journal" : Str), ("high" : Str)), (("Journal" : Str), ("present" : Str)), (("Journal" : Str), ("rows" : Str)), (("Journal" : Str), ("undone" : Str)), (("Shop" : Str), ("given" : Str)), (("Shop" : Str), ("height" : Str)), (("Shop" : Str), ("rack" : Str)), (("Shop" : Str), ("shelf" : Str)), (("Shop" : Str), ("turns" : Str))], tups := [], dics := [(("LENGTHS" : Str), [(("cut" : Str), 2), (("chip" : Str), 4), (("roll" : Str), 4), (("turn" : Str), 2), (("wear" : Str), 4), (("snap" : Str), 3), (("join" : Str), 3), (("lose" : Str), 2)])], excs := [("ClayError" : Str), ("BadStrip" : Str), ("BadSeal" : Str), ("BadStart" : Str), ("BadWidth" : Str), ("BadHeight" : Str), ("SameOne" : Str), ("Full" : Str), ("NoSeal" : Str), ("NoCell" : Str), ("Bare" : Str), ("NoStrip" : Str), ("Lost" : Str), ("NotPieces" : Str), ("BadDeed" : Str), ("Nothing" : Str)] }
abbrev R : PySem.W.OpenRow := PySem.W.OpenLaw.row PySem.Challenge.rw_rolledclay_k57_whole_rollings_stay_unlik
abbrev hk : PySem.W.Hook := Rc.hookL (List.range 1500) (faOf sg ts) (ts.map ddOf) (tabsOf sg) (exOf sg)
def ob (s : PySem.W.SharedT) : He.AlX := Rc.obsL (List.range 1500) (faOf sg ts) (ts.map ddOf) (tabsOf sg) (exOf sg) (HandSHeadRun.getT s)
theorem ob_eq (s : PySem.W.SharedT) : ob s = hk.obs s.abs := Rc.obsL_eq (HandSHeadRun.getT_eq s)
def nm0 : List PySem.Str := [("GONE" : Str), ("LAST_SIGN" : Str), ("MOST_ROWS" : Str), ("MOST_WIDE" : Str), ("MOST_COLUMNS" : Str), ("MOST_SEALS" : Str), ("MOST_ROLLED" : Str), ("LENGTHS" : Str), ("ClayError" : Str), ("BadStrip" : Str), ("BadSeal" : Str), ("BadStart" : Str), ("BadWidth" : Str), ("BadHeight" : Str), ("SameOne" : Str), ("Full" : Str), ("NoSeal" : Str), ("NoCell" : Str), ("Bare" : Str), ("NoStrip" : Str), ("Lost" : Str), ("NotPieces" : Str), ("BadDeed" : Str), ("Nothing" : Str), ("Shop" : Str), ("Journal" : Str), ("_wall" : Str), ("good_cell" : Str), ("good_strip" : Str), ("need_strip" : Str)]
def nm1 : List PySem.Str := [("about" : Str), ("parts" : Str), ("good_seal" : Str), ("print_of" : Str), ("need_height" : Str), ("need_cell" : Str), ("with_cell" : Str), ("look_deed" : Str), ("done_in" : Str), ("_law_open" : Str), ("_law_pull" : Str), ("_law_far" : Str), ("_law_near" : Str), ("_law_num" : Str), ("_law_like" : Str), ("_law_number_of" : Str), ("_law_turned" : Str), ("_law_strip_ok" : Str), ("_law_seal_ok" : Str), ("_law_seal" : Str), ("_law_print" : Str), ("_law_changed" : Str), ("_law_shop" : Str), ("_law_s_copy" : Str), ("_law_s_cells" : Str), ("_law_s_cut" : Str), ("_law_s_chip" : Str), ("_law_s_roll" : Str), ("_law_s_turn" : Str), ("_law_s_wear" : Str)]
def nm2 : List PySem.Str := [("_law_s_snap" : Str), ("_law_s_join" : Str), ("_law_s_do" : Str), ("_law_same_end" : Str), ("_law_two_pieces" : Str), ("_law_deed" : Str), ("_law_journal_do" : Str), ("_law_odd_columns" : Str), ("_law_no_pieces" : Str), ("_law_apart" : Str)]
def nms : List PySem.Str := nm0 ++ nm1 ++ nm2
def r1P (w : World) : Prop := ∀ os : PySem.OsState, (HandSHeadRun.endF (HandSHeadRun.stepQ (HandSHeadRun.denQ HandSHeadRun.tabQ) R.prog w) 100000 R.prog w os).map (fun s => HandSHeadRun.looksF R.prog (PySem.W.boot_heap w.params) s.abs) = some (true)
theorem r1f (w : World) : r1P (w.withFollow "special-get-raises" false) := by
  intro os
  kernel_rfl
theorem r1t (w : World) : r1P (w.withFollow "special-get-raises" true) := by
  intro os
  kernel_rfl
theorem r1 (w : World) : ∀ os : PySem.OsState, (HandSHeadRun.endF (HandSHeadRun.stepQ (HandSHeadRun.denQ HandSHeadRun.tabQ) R.prog w) 100000 R.prog w os).map (fun s => HandSHeadRun.looksF R.prog (PySem.W.boot_heap w.params) s.abs) = some (true) := PySem.W.byRow2 "special-get-raises" (P := r1P) r1f r1t w
def r2P (w : World) : Prop := ∀ os : PySem.OsState, (HandSHeadRun.endF (HandSHeadRun.stepQ (HandSHeadRun.denQ HandSHeadRun.tabQ) R.prog w) 100000 R.prog w os).map (fun s => HandSHeadRun.seenQ (PySem.W.view R.prog [77]) nms (PySem.importedModules R.prog.main.body) (fun s => PySem.W.xlAt (PySem.W.view R.prog [77]) [] s && PySem.W.recOk R.toRowW.records s) s.abs) = some (PySem.W.openGood (PySem.W.view R.prog [77]) nms)
theorem r2f (w : World) : r2P (w.withFollow "special-get-raises" false) := by
  intro os
  kernel_rfl
theorem r2t (w : World) : r2P (w.withFollow "special-get-raises" true) := by
  intro os
  kernel_rfl
theorem r2 (w : World) : ∀ os : PySem.OsState, (HandSHeadRun.endF (HandSHeadRun.stepQ (HandSHeadRun.denQ HandSHeadRun.tabQ) R.prog w) 100000 R.prog w os).map (fun s => HandSHeadRun.seenQ (PySem.W.view R.prog [77]) nms (PySem.importedModules R.prog.main.body) (fun s => PySem.W.xlAt (PySem.W.view R.prog [77]) [] s && PySem.W.recOk R.toRowW.records s) s.abs) = some (PySem.W.openGood (PySem.W.view R.prog [77]) nms) := PySem.W.byRow2 "special-get-raises" (P := r2P) r2f r2t w
def r3P (w : World) : Prop := ∀ os : PySem.OsState, (HandSHeadRun.endF (HandSHeadRun.stepQ (HandSHeadRun.denQ HandSHeadRun.tabQ) R.prog w) 100000 R.prog w os).map (fun s => (faOf sg ts).all fun f => f.ok (He.frT (HandSHeadRun.getT s) (List.range 1500))) = some (true)
theorem r3f (w : World) : r3P (w.withFollow "special-get-raises" false) := by
  intro os
  kernel_rfl
theorem r3t (w : World) : r3P (w.withFollow "special-get-raises" true) := by
  intro os
  kernel_rfl
theorem r3 (w : World) : ∀ os : PySem.OsState, (HandSHeadRun.endF (HandSHeadRun.stepQ (HandSHeadRun.denQ HandSHeadRun.tabQ) R.prog w) 100000 R.prog w os).map (fun s => (faOf sg ts).all fun f => f.ok (He.frT (HandSHeadRun.getT s) (List.range 1500))) = some (true) := PySem.W.byRow2 "special-get-raises" (P := r3P) r3f r3t w
def r4P (w : World) : Prop := ∀ os : PySem.OsState, (HandSHeadRun.endF (HandSHeadRun.stepQ (HandSHeadRun.denQ HandSHeadRun.tabQ) R.prog w) 100000 R.prog w os).map (fun s => (tsA.map ddOf).all fun f => f.ok (He.frT (HandSHeadRun.getT s) (List.range 1500))) = some (true)
theorem r4f (w : World) : r4P (w.withFollow "special-get-raises" false) := by
  intro os
  kernel_rfl
theorem r4t (w : World) : r4P (w.withFollow "special-get-raises" true) := by
  intro os
  kernel_rfl
theorem r4 (w : World) : ∀ os : PySem.OsState, (HandSHeadRun.endF (HandSHeadRun.stepQ (HandSHeadRun.denQ HandSHeadRun.tabQ) R.prog w) 100000 R.prog w os).map (fun s => (tsA.map ddOf).all fun f => f.ok (He.frT (HandSHeadRun.getT s) (List.range 1500))) = some (true) := PySem.W.byRow2 "special-get-raises" (P := r4P) r4f r4t w
def r5P (w : World) : Prop := ∀ os : PySem.OsState, (HandSHeadRun.endF (HandSHeadRun.stepQ (HandSHeadRun.denQ HandSHeadRun.tabQ) R.prog w) 100000 R.prog w os).map (fun s => (tsB.map ddOf).all fun f => f.ok (He.frT (HandSHeadRun.getT s) (List.range 1500))) = some (true)
theorem r5f (w : World) : r5P (w.withFollow "special-get-raises" false) := by
  intro os
  kernel_rfl
theorem r5t (w : World) : r5P (w.withFollow "special-get-raises" true) := by
  intro os
  kernel_rfl
theorem r5 (w : World) : ∀ os : PySem.OsState, (HandSHeadRun.endF (HandSHeadRun.stepQ (HandSHeadRun.denQ HandSHeadRun.tabQ) R.prog w) 100000 R.prog w os).map (fun s => (tsB.map ddOf).all fun f => f.ok (He.frT (HandSHeadRun.getT s) (List.range 1500))) = some (true) := PySem.W.byRow2 "special-get-raises" (P := r5P) r5f r5t w
def r6P (w : World) : Prop := ∀ os : PySem.OsState, (HandSHeadRun.endF (HandSHeadRun.stepQ (HandSHeadRun.denQ HandSHeadRun.tabQ) R.prog w) 100000 R.prog w os).map (fun s => (ts.map ddOf).map fun d => He.fnW (He.frT (HandSHeadRun.getT s) (List.range 1500)) d.at_) = some ((ts.map ddOf).map He.DefD.val)
theorem r6f (w : World) : r6P (w.withFollow "special-get-raises" false) := by
  intro os
  kernel_rfl
theorem r6t (w : World) : r6P (w.withFollow "special-get-raises" true) := by
  intro os
  kernel_rfl
theorem r6 (w : World) : ∀ os : PySem.OsState, (HandSHeadRun.endF (HandSHeadRun.stepQ (HandSHeadRun.denQ HandSHeadRun.tabQ) R.prog w) 100000 R.prog w os).map (fun s => (ts.map ddOf).map fun d => He.fnW (He.frT (HandSHeadRun.getT s) (List.range 1500)) d.at_) = some ((ts.map ddOf).map He.DefD.val) := PySem.W.byRow2 "special-get-raises" (P := r6P) r6f r6t w
def r7P (w : World) : Prop := ∀ os : PySem.OsState, (HandSHeadRun.endF (HandSHeadRun.stepQ (HandSHeadRun.denQ HandSHeadRun.tabQ) R.prog w) 100000 R.prog w os).map (fun s => ((tabsOf sg).map fun t => He.dicW (He.frT (HandSHeadRun.getT s) (List.range 1500)) (t.1 (He.frT (HandSHeadRun.getT s) (List.range 1500))), exOf sg (He.frT (HandSHeadRun.getT s) (List.range 1500)))) = some (((tabsOf sg).map fun t => some (He.keysIn w.params t.2), true))
theorem r7f (w : World) : r7P (w.withFollow "special-get-raises" false) := by
  intro os
  kernel_rfl
theorem r7t (w : World) : r7P (w.withFollow "special-get-raises" true) := by
  intro os
  kernel_rfl
theorem r7 (w : World) : ∀ os : PySem.OsState, (HandSHeadRun.endF (HandSHeadRun.stepQ (HandSHeadRun.denQ HandSHeadRun.tabQ) R.prog w) 100000 R.prog w os).map (fun s => ((tabsOf sg).map fun t => He.dicW (He.frT (HandSHeadRun.getT s) (List.range 1500)) (t.1 (He.frT (HandSHeadRun.getT s) (List.range 1500))), exOf sg (He.frT (HandSHeadRun.getT s) (List.range 1500)))) = some (((tabsOf sg).map fun t => some (He.keysIn w.params t.2), true)) := PySem.W.byRow2 "special-get-raises" (P := r7P) r7f r7t w
theorem run (w : World) : HandSHeadRun.RunEq R (PySem.W.view R.prog [77]) hk ob 100000 nms w := by
  intro os
  have h45 := Rc.all_app (k := fun s (f : He.DefD) => f.ok (He.frT (HandSHeadRun.getT s) (List.range 1500))) (r4 w os) (r5 w os)
  rw [← List.map_append, show tsA ++ tsB = ts from rfl] at h45
  exact Rc.join2 (r1 w os) (Rc.join2 (r2 w os) (Rc.obs_parts (r3 w os) h45 (r6 w os) (r7 w os)))
end L_k57
/-! Re: equations by which runs of the small language are reckoned. -/
namespace Rc
open PySem
section
variable {st : Store} {i j k : Int} {x y : Str} {b c : Bool} {vs ws : List Val} {v w : Val} {l m : Nat} {n : Nat}
@[simp] theorem e_ofS {α : Type} (a : α) : ofOpt (some a) = ret a := (rfl)
@[simp] theorem e_ofN {α : Type} : ofOpt (none : Option α) = stuck := (rfl)
@[simp] theorem e_asBl : asBl (.bl b) = ret b := (rfl)
@[simp] theorem e_asInt : asInt (.int i) = ret i := (rfl)
@[simp] theorem e_gvi : gvVal (.int i) = .int i := (rfl)
@[simp] theorem e_gvs : gvVal (.str x) = .str x := (rfl)
@[simp] theorem e_gvt {ss : List Str} : gvVal (.tups ss) = .tup (ss.map .str) := (rfl)
@[simp] theorem e_mkv {new : Bool} : mk new (.v v) = ret v := by cases new <;> exact (rfl)
@[simp] theorem e_mkf : mk false (.l vs) = ret (.lst vs) := (rfl)
@[simp] theorem e_mkt : mk true (.l vs) st = .ok (.loc st.length) (st ++ [.lst vs]) := (rfl)
@[simp] theorem e_mkd {kvs : List (Key × Val)} : mk true (.d kvs) st = .ok (.loc st.length) (st ++ [.dK kvs]) := (rfl)
@[simp] theorem e_mkdf {kvs : List (Key × Val)} : mk false (.d kvs) = ret (.dK (kvs.map (·.1)) (kvs.map (·.2))) := (rfl)
@[simp] theorem e_mkdt {kvs : List (List Key × Val)} : mk true (.t kvs) st = .ok (.loc st.length) (st ++ [.dT kvs]) := (rfl)
@[simp] theorem e_add : opAdd st (.int i) (.int j) = some (.v (.int (i + j))) := (rfl)
@[simp] theorem e_addS : opAdd st (.str x) (.str y) = if szOk (x.length + y.length) then some (.v (.str (x ++ y))) else none := (rfl)
@[simp] theorem e_addT : opAdd st (.tup vs) (.tup ws) = if szOk (vs.length + ws.length) then some (.v (.tup (vs ++ ws))) else none := (rfl)
@[simp] theorem e_addL : opAdd st (.lst vs) (.lst ws) = if szOk (vs.length + ws.length) then some (.l (vs ++ ws)) else none := (rfl)
@[simp] theorem e_sub : opSub (.int i) (.int j) = some (.int (i - j)) := (rfl)
@[simp] theorem e_mul : opMul (.int i) (.int j) = if mulOk i j then some (.int (i * j)) else none := (rfl)
@[simp] theorem e_mulL1 : opMulL st (.int i) w = (opMul (.int i) w).map Pv.v := by cases w <;> rfl
@[simp] theorem e_mulL2 : opMulL st (.tup vs) w = (opMul (.tup vs) w).map Pv.v := by cases w <;> rfl
@[simp] theorem e_mulL3 : opMulL st (.lst vs) (.int k) = if decide (0 ≤ k) && decide (k ≤ 1000) && decide (vs.length ≤ 1000) then some (Pv.l (List.replicate k.toNat vs).flatten) else none := (rfl)
@[simp] theorem e_mulT : opMul (.tup vs) (.int k) = if decide (0 ≤ k) && decide (k ≤ 1000) && decide (vs.length ≤ 1000) then some (.tup (List.replicate k.toNat vs).flatten) else none := (rfl)
@[simp] theorem e_mod : opMod (.int i) (.int j) = if 0 < j then some (.int (i % j)) else none := (rfl)
@[simp] theorem e_div : opDiv (.int i) (.int j) = if decide (0 < j) && decide (j < 1073741824) then some (.int (i / j)) else none := (rfl)
@[simp] theorem e_pow : opPow (.int i) (.int j) = if decide (0 ≤ j) && decide (j ≤ 1000000) && decide (i.natAbs < 2 ^ 64) then some (.int (i ^ j.toNat)) else none := (rfl)
@[simp] theorem e_lt : cmpLt st (.int i) (.int j) = some (decide (i < j)) := (rfl)
@[simp] theorem e_le : cmpLe st (.int i) (.int j) = some (decide (i ≤ j)) := (rfl)
@[simp] theorem e_eqi : veq st (.int i) (.int j) = some (decide (i = j)) := (rfl)
@[simp] theorem e_eqb : veq st (.bl b) (.bl c) = some (decide (b = c)) := (rfl)
@[simp] theorem e_eqs : veq st (.str x) (.str y) = some (decide (x = y)) := (rfl)
@[simp] theorem e_is : isOp v .non = some (isNon v) := (rfl)
@[simp] theorem e_n0 : isNon .non = true := (rfl)
@[simp] theorem e_n1 : isNon (.bl b) = false := (rfl)
@[simp] theorem e_n2 : isNon (.int i) = false := (rfl)
@[simp] theorem e_n3 : isNon (.str x) = false := (rfl)
@[simp] theorem e_n4 : isNon (.tup vs) = false := (rfl)
@[simp] theorem e_n5 : isNon (.lst vs) = false := (rfl)
@[simp] theorem e_n6 : isNon (.loc l) = false := (rfl)
@[simp] theorem e_lstL : lstOf st (.lst vs) = some vs := (rfl)
def obL : Option Ob → Option (List Val)
  | some (.lst xs) => some xs
  | _ => none
@[simp] theorem e_obL : obL (some (.lst vs)) = some vs := (rfl)
@[simp] theorem e_lstO : lstOf st (.loc l) = obL st[l]? := by
  unfold lstOf obL
  rfl
@[simp] theorem e_seqT : seqOf st (.tup vs) = some vs := (rfl)
@[simp] theorem e_seqL : seqOf st (.lst vs) = some vs := (rfl)
@[simp] theorem e_seqO : seqOf st (.loc l) = obL st[l]? := by
  show lstOf st (.loc l) = _
  rw [e_lstO]
@[simp] theorem e_ixT : ixOp st (.tup vs) (.int i) = L2.atI vs i := (rfl)
@[simp] theorem e_ixL : ixOp st (.lst vs) (.int i) = L2.atI vs i := (rfl)
@[simp] theorem e_ixO : ixOp st (.loc l) w = obIx w st[l]? := by cases w <;> exact (rfl)
@[simp] theorem e_obI : obIx (.int i) (some (.lst vs)) = L2.atI vs i := (rfl)
@[simp] theorem e_obK {kvs : List (Key × Val)} : obIx w (some (.dK kvs)) = (keyOf w).bind (look kvs) := (rfl)
@[simp] theorem e_obT {kvs : List (List Key × Val)} : obIx w (some (.dT kvs)) = (keyT w).bind (look kvs) := (rfl)
@[simp] theorem e_ixK {ks : List Key} : ixOp st (.dK ks vs) w = (keyOf w).bind (look (ks.zip vs)) := by cases w <;> exact (rfl)
@[simp] theorem e_ixD {ks : List (List Key)} : ixOp st (.dT ks vs) w = (keyT w).bind (look (ks.zip vs)) := by cases w <;> exact (rfl)
@[simp] theorem e_kI : keyOf (.int i) = some (.inl i) := (rfl)
@[simp] theorem e_kS : keyOf (.str x) = some (.inr x) := (rfl)
@[simp] theorem e_kT : keyT (.tup vs) = mapO keyOf vs := (rfl)
@[simp] theorem e_kvI : keyVal (.inl i) = .int i := (rfl)
@[simp] theorem e_kvS : keyVal (.inr x) = .str x := (rfl)
@[simp] theorem e_ixStr : ixOp st (.str x) (.int i) = if szOk x.length then (L2.atI x.cps.toList i).map fun c => .str ⟨#[c]⟩ else none := (rfl)
@[simp] theorem e_slT {lo hi : Option Int} : slOp st (.tup vs) lo hi = some (.v (.tup (cut vs lo hi))) := (rfl)
@[simp] theorem e_slL {lo hi : Option Int} : slOp st (.lst vs) lo hi = some (.l (cut vs lo hi)) := (rfl)
@[simp] theorem e_slS {lo hi : Option Int} {ns : List Int} : slOp st (.scr ns) lo hi = some (.l (cut (ns.map .int) lo hi)) := (rfl)
@[simp] theorem e_revT : revOp st (.tup vs) = some (.v (.tup vs.reverse)) := (rfl)
@[simp] theorem e_revL : revOp st (.lst vs) = some (.l vs.reverse) := (rfl)
@[simp] theorem e_lenT : biLen st [.tup vs] = some (.int vs.length) := (rfl)
@[simp] theorem e_lenL : biLen st [.lst vs] = some (.int vs.length) := (rfl)
@[simp] theorem e_lenO : biLen st [.loc l] = (obLen st[l]?).map fun (n : Nat) => .int (n : Int) := by
  unfold biLen
  rfl
@[simp] theorem e_obnL : obLen (some (.lst vs)) = some vs.length := (rfl)
@[simp] theorem e_obnK {kvs : List (Key × Val)} : obLen (some (.dK kvs)) = some kvs.length := (rfl)
@[simp] theorem e_lenS : biLen st [.str x] = if szOk x.length then some (.int x.length) else none := (rfl)
@[simp] theorem e_max : biMax st [.int i, .int j] = some (.int (if j > i then j else i)) := (rfl)
@[simp] theorem e_min : biMin st [.int i, .int j] = some (.int (if j < i then j else i)) := (rfl)
@[simp] theorem e_maxL : biMax st [.lst vs] = ((mapO toInt vs).bind maxi).map .int := (rfl)
@[simp] theorem e_minL : biMin st [.lst vs] = ((mapO toInt vs).bind mini).map .int := (rfl)
@[simp] theorem e_maxT : biMax st [.tup vs] = ((mapO toInt vs).bind maxi).map .int := (rfl)
@[simp] theorem e_minT : biMin st [.tup vs] = ((mapO toInt vs).bind mini).map .int := (rfl)
@[simp] theorem e_all : biAll st [.lst vs] = (mapO toBl vs).map fun bs => .bl (bs.all id) := (rfl)
@[simp] theorem e_any : biAny st [.lst vs] = (mapO toBl vs).map fun bs => .bl (bs.any id) := (rfl)
@[simp] theorem e_tupL : biTuple st [.lst vs] = some (.tup vs) := (rfl)
@[simp] theorem e_tupT : biTuple st [.tup vs] = some (.tup vs) := (rfl)
@[simp] theorem e_tupO : biTuple st [.loc l] = (obL st[l]?).map .tup := by
  show (seqOf st (.loc l)).map _ = _
  rw [e_seqO]
@[simp] theorem e_listL : biList st [.lst vs] = some (.l vs) := (rfl)
@[simp] theorem e_listT : biList st [.tup vs] = some (.l vs) := (rfl)
@[simp] theorem e_listO : biList st [.loc l] = (obList st[l]?).map .l := (rfl)
@[simp] theorem e_oblL : obList (some (.lst vs)) = some vs := (rfl)
@[simp] theorem e_oblK {kvs : List (Key × Val)} : obList (some (.dK kvs)) = some (kvs.map fun kv => keyVal kv.1) := (rfl)
@[simp] theorem e_srtL : biSorted st [.lst vs] = (mapO toInt vs).map fun ns => .l ((srt ns).map .int) := (rfl)
@[simp] theorem e_srtO : biSorted st [.loc l] = (obSort st[l]?).map fun ns => .l ((srt ns).map .int) := (rfl)
@[simp] theorem e_obsL : obSort (some (.lst vs)) = mapO toInt vs := (rfl)
@[simp] theorem e_obsK {kvs : List (Key × Val)} : obSort (some (.dK kvs)) = if decide (kvs.length < 64) then mapO (fun kv => keyInt kv.1) kvs else none := (rfl)
@[simp] theorem e_dicO : biDict st [.loc l] = obDict st[l]? := (rfl)
@[simp] theorem e_obdK {kvs : List (Key × Val)} : obDict (some (.dK kvs)) = some (.d kvs) := (rfl)
@[simp] theorem e_strI : biStr [.int i] = if decide (i.natAbs.log2 < 1920) then some (.str (toString i)) else none := (rfl)
@[simp] theorem e_strS : biStr [.str x] = some (.str x) := (rfl)
@[simp] theorem e_intI : biInt [.int i] = some (.int i) := (rfl)
@[simp] theorem e_intB : biInt [.bl b] = some (.int (if b then 1 else 0)) := (rfl)
@[simp] theorem e_isn {q : Kd} : isinOp st .non q = some false := (rfl)
@[simp] theorem e_isb {q : Kd} : isinOp st (.bl b) q = some (decide (Kd.bool = q) || decide (q = .int)) := by cases q <;> exact (rfl)
@[simp] theorem e_isi {q : Kd} : isinOp st (.int i) q = some (decide (Kd.int = q)) := by cases q <;> exact (rfl)
@[simp] theorem e_iss {q : Kd} : isinOp st (.str x) q = some (decide (Kd.str = q)) := by cases q <;> exact (rfl)
@[simp] theorem e_ist {q : Kd} : isinOp st (.tup vs) q = some (decide (Kd.tuple = q)) := by cases q <;> exact (rfl)
@[simp] theorem e_isl {q : Kd} : isinOp st (.lst vs) q = some (decide (Kd.list = q)) := by cases q <;> exact (rfl)
@[simp] theorem e_inT : opIn st v (.tup vs) = if flat v && vs.all flat then some (vs.any fun y => eqF y v) else none := (rfl)
@[simp] theorem e_inL : opIn st v (.lst vs) = inSeq st v vs := (rfl)
theorem in_flat (h : (flat v && vs.all flat) = true) : inSeq st v vs = some (vs.any fun y => eqF y v) := by
  unfold inSeq
  rw [if_pos h]
@[simp] theorem e_inN {ks : List (List (List Int))} : opIn st v (.dN ks) = (keyN v).map fun k => decide (k ∈ ks) := (rfl)
@[simp] theorem e_inO : opIn st v (.loc l) = obIn st v st[l]? := (rfl)
@[simp] theorem e_obiL : obIn st v (some (.lst vs)) = inSeq st v vs := (rfl)
@[simp] theorem e_obiK {kvs : List (Key × Val)} : obIn st v (some (.dK kvs)) = (keyOf v).map fun k => (look kvs k).isSome := (rfl)
@[simp] theorem e_obiT {kvs : List (List Key × Val)} : obIn st v (some (.dT kvs)) = (keyT v).map fun k => (look kvs k).isSome := (rfl)
@[simp] theorem e_tyS {m : Mt} {x : Str} : tyOk m st (.str x) = mtIsStr m := by cases m <;> exact (rfl)
@[simp] theorem e_tyL {m : Mt} : tyOk m st (.loc l) = (!mtIsStr m && (if mtIsDic m = true then obIsDic st[l]? else (obL st[l]?).isSome)) := by
  unfold tyOk
  rw [e_lstO]
  cases m <;> rfl
@[simp] theorem e_dk1 {kvs : List (Key × Val)} : obIsDic (some (.dK kvs)) = true := (rfl)
@[simp] theorem e_dk2 {kvs : List (List Key × Val)} : obIsDic (some (.dT kvs)) = true := (rfl)
@[simp] theorem e_md1 : mtIsDic .append = false := (rfl)
@[simp] theorem e_md2 : mtIsDic .extend = false := (rfl)
@[simp] theorem e_md3 : mtIsDic .pop = false := (rfl)
@[simp] theorem e_md4 : mtIsDic .clear = false := (rfl)
@[simp] theorem e_md5 : mtIsDic .insert = false := (rfl)
@[simp] theorem e_md6 : mtIsDic .dget = true := (rfl)
@[simp] theorem e_md7 : mtIsDic .dpop = true := (rfl)
@[simp] theorem e_ms1 : mtIsStr .append = false := (rfl)
@[simp] theorem e_ms2 : mtIsStr .extend = false := (rfl)
@[simp] theorem e_ms3 : mtIsStr .pop = false := (rfl)
@[simp] theorem e_ms4 : mtIsStr .clear = false := (rfl)
@[simp] theorem e_ms5 : mtIsStr .insert = false := (rfl)
@[simp] theorem e_ms6 : mtIsStr .join = true := (rfl)
@[simp] theorem e_ms7 : mtIsStr .split = true := (rfl)
@[simp] theorem e_ms8 : mtIsStr .sindex = true := (rfl)
@[simp] theorem e_ms9 : mtIsStr .dget = false := (rfl)
@[simp] theorem e_ms10 : mtIsStr .dpop = false := (rfl)
@[simp] theorem e_mtL1 {new : Bool} : mtOp new .append (.loc l) vs = wrLst .append l vs := (rfl)
@[simp] theorem e_mtL2 {new : Bool} : mtOp new .extend (.loc l) vs = wrLst .extend l vs := (rfl)
@[simp] theorem e_mtL3 {new : Bool} : mtOp new .pop (.loc l) vs = wrLst .pop l vs := (rfl)
@[simp] theorem e_mtL4 {new : Bool} : mtOp new .clear (.loc l) vs = wrLst .clear l vs := (rfl)
@[simp] theorem e_mtL5 {new : Bool} : mtOp new .insert (.loc l) vs = wrLst .insert l vs := (rfl)
@[simp] theorem e_mtG {new : Bool} : mtOp new .dget (.loc l) vs st = ofOpt (obGet vs st[l]?) st := (rfl)
@[simp] theorem e_obgK {kvs : List (Key × Val)} : obGet [v, w] (some (.dK kvs)) = (keyOf v).map fun k => (look kvs k).getD w := (rfl)
@[simp] theorem e_obgT {kvs : List (List Key × Val)} : obGet [v, w] (some (.dT kvs)) = (keyT v).map fun k => (look kvs k).getD w := (rfl)
theorem mt_dpop {new : Bool} {kvs : List (Key × Val)} {k : Key} {u : Val} (h : st[l]? = some (.dK kvs)) (hk : keyOf v = some k) (hu : look kvs k = some u) : mtOp new .dpop (.loc l) [v] st = .ok u (st.set l (.dK (drp kvs k))) := by
  show (match obPop [v] st[l]? with
    | some r => R.ok r.1 (st.set l r.2)
    | none => .stuck) = _
  rw [h]
  show (match (keyOf v).bind fun k => (look kvs k).map fun v => (v, Ob.dK (drp kvs k)) with
    | some r => R.ok r.1 (st.set l r.2)
    | none => .stuck) = _
  rw [hk]
  show (match (look kvs k).map fun v => (v, Ob.dK (drp kvs k)) with
    | some r => R.ok r.1 (st.set l r.2)
    | none => .stuck) = _
  rw [hu]
  rfl
@[simp] theorem e_fldO {f : Str} {k : Nat} : fldOp st f k (.loc l) = obFld f k st[l]? := (rfl)
theorem e_obF {c f : Str} {k : Nat} {fs : List (Str × Val)} (h : fs[k]? = some (f, v)) : obFld f k (some (.ins c fs)) = some v := by
  show (match fs[k]? with
    | some p => if p.1 = f then some p.2 else none
    | none => none) = _
  rw [h]
  simp
@[simp] theorem e_insO {c : Str} : isIns st c (.loc l) = obIns c st[l]? := (rfl)
@[simp] theorem e_obC {c d : Str} {fs : List (Str × Val)} : obIns c (some (.ins d fs)) = decide (d = c) := (rfl)
@[simp] theorem e_mtJ {new : Bool} {x : Str} {w : Val} : mtOp new .join (.str x) [w] st = bnd (ofOpt (joinOp st x w)) (fun x => ret (.str x)) st := (rfl)
theorem wr_append {xs : List Val} {y : Val} (h : st[l]? = some (.lst xs)) (hz : xs.length + 1 ≤ sizeLine) : wrLst .append l [y] st = .ok .non (st.set l (.lst (xs ++ [y]))) := by
  unfold wrLst
  rw [h]
  show (if szOk (xs ++ [y]).length = true then _ else _) = _
  rw [if_pos]
  show decide _ = true
  rw [List.length_append]
  exact decide_eq_true hz
@[simp] theorem e_fi : flat (.int i) = true := (rfl)
@[simp] theorem e_fs : flat (.str x) = true := (rfl)
@[simp] theorem e_fb : flat (.bl b) = true := (rfl)
@[simp] theorem e_fn : flat .non = true := (rfl)
@[simp] theorem e_fii : eqF (.int i) (.int j) = (i == j) := (rfl)
@[simp] theorem e_fss : eqF (.str x) (.str y) = (x == y) := (rfl)
@[simp] theorem e_mo0 {α β : Type} {f : α → Option β} : mapO f [] = some [] := (rfl)
theorem e_moc {α β : Type} {f : α → Option β} {a : α} {as : List α} : mapO f (a :: as) = (f a).bind fun w => (mapO f as).map (w :: ·) := (rfl)
@[simp] theorem e_moI : ∀ {ns : List Int}, mapO toInt (ns.map .int) = some ns
  | [] => rfl
  | n :: ns => by rw [List.map_cons, e_moc, e_moI]; rfl
@[simp] theorem e_moB : ∀ {bs : List Bool}, mapO toBl (bs.map .bl) = some bs
  | [] => rfl
  | n :: ns => by rw [List.map_cons, e_moc, e_moB]; rfl
@[simp] theorem e_isdT {q : Kd} {ks : List (List Key)} : isinOp st (.dT ks vs) q = some (decide (Kd.dict = q)) := by cases q <;> exact (rfl)
@[simp] theorem e_isdK {q : Kd} {ks : List Key} : isinOp st (.dK ks vs) q = some (decide (Kd.dict = q)) := by cases q <;> exact (rfl)
@[simp] theorem e_obdT {kvs : List (List Key × Val)} : obDict (some (.dT kvs)) = if (kvs.map (·.1)).all padKB = true then some (.t kvs) else none := (rfl)
@[simp] theorem e_dicK {ks : List Key} : biDict st [.dK ks vs] = some (.d (ks.zip vs)) := (rfl)
@[simp] theorem e_dicT {ks : List (List Key)} : biDict st [.dT ks vs] = if ks.all padKB = true then some (.t (ks.zip vs)) else none := (rfl)
@[simp] theorem e_dicL : biDict st [.lst vs] = (mapO pairT vs).map fun kvs => .t (mrg [] kvs) := (rfl)
@[simp] theorem e_mkdtf {kvs : List (List Key × Val)} : mk false (.t kvs) = ret (.dT (kvs.map (·.1)) (kvs.map (·.2))) := (rfl)
@[simp] theorem e_asStr {x : Str} : asStr (.str x) = ret x := (rfl)
@[simp] theorem e_md8 : mtIsDic .lindex = false := (rfl)
@[simp] theorem e_ms11 : mtIsStr .lindex = false := (rfl)
@[simp] theorem e_tyLL {m : Mt} : tyOk m st (.lst vs) = (!mtIsStr m && !mtIsDic m) := by cases m <;> exact (rfl)
theorem mt_idx {new : Bool} {v y : Val} {zs : List Val} {i : Nat} (h : lstOf st v = some zs) (hi : idxOp st v y zs = some i) : mtOp new .lindex v [y] st = .ok (.int i) st := by
  show idxLst v [y] st = _
  unfold idxLst
  rw [h]
  dsimp only
  rw [hi]
@[simp] theorem e_itT : itemsOf st (.tup vs) = some ⟨vs, none⟩ := (rfl)
@[simp] theorem e_itL : itemsOf st (.lst vs) = some ⟨vs, none⟩ := (rfl)
@[simp] theorem e_stl : Still ⟨vs, none⟩ st = True := (rfl)
@[simp] theorem e_tgN {env : Env} : assignTg (.nm n) v env = some (env.set n (some v)) := (rfl)
@[simp] theorem e_tgT {env : Env} {is : List Nat} : assignTg (.tup is) (.tup vs) env = setAll is vs env := (rfl)
@[simp] theorem e_sa0 {env : Env} : setAll [] [] env = some env := (rfl)
@[simp] theorem e_saC {env : Env} {is : List Nat} : setAll (n :: is) (v :: vs) env = setAll is vs (env.set n (some v)) := (rfl)
@[simp] theorem e_set : setOp st (.loc l) w v = setAt st l w v st[l]? := by cases w <;> exact (rfl)
@[simp] theorem e_sat : setAt st l (.int k) v (some (.lst vs)) = (L2.ixN vs.length k).map fun j => st.set l (.lst (vs.set j v)) := (rfl)
@[simp] theorem e_satK {kvs : List (Key × Val)} : setAt st l w v (some (.dK kvs)) = if decide (kvs.length < 100000) then (keyOf w).map fun k => st.set l (.dK (put kvs k v)) else none := (rfl)
@[simp] theorem e_satT {kvs : List (List Key × Val)} : setAt st l w v (some (.dT kvs)) = if decide (kvs.length < 100000) then (keyT w).map fun k => st.set l (.dT (put kvs k v)) else none := (rfl)
@[simp] theorem e_fst {c f : Str} {k : Nat} : fsetOp st c f k (.loc l) v = fsetAt st c l f k v st[l]? := (rfl)
theorem fset_at {c f : Str} {k : Nat} {fs : List (Str × Val)} {u : Val} (h : fs[k]? = some (f, u)) (hl : fs.length < 100) : fsetAt st c l f k v (some (.ins c fs)) = some (st.set l (.ins c (fs.set k (f, v)))) := by
  show (if c = c then (putFld f k v fs).map _ else none) = _
  rw [if_pos rfl]
  unfold putFld
  rw [h]
  simp [hl]
theorem fset_new {c f : Str} {fs : List (Str × Val)} (h : fs.all (fun p => !decide (p.1 = f)) = true) (hl : fs.length < 100) : fsetAt st c l f fs.length v (some (.ins c fs)) = some (st.set l (.ins c (fs ++ [(f, v)]))) := by
  show (if c = c then (putFld f fs.length v fs).map _ else none) = _
  rw [if_pos rfl]
  unfold putFld
  rw [List.getElem?_eq_none (Nat.le_refl _)]
  dsimp only
  rw [h]
  simp [hl]
end
section
variable (C : Str → List Val → M Val) (xs : List Str) (env : Env)
@[simp] theorem v_var (i : Nat) : evE C (.var i) env = getVar env i := by unfold evE; rfl
@[simp] theorem v_int (i : Int) : evE C (.int i) env = ret (.int i) := by unfold evE; rfl
@[simp] theorem v_str (s : Str) : evE C (.str s) env = ret (.str s) := by unfold evE; rfl
@[simp] theorem v_bl (b : Bool) : evE C (.bl b) env = ret (.bl b) := by unfold evE; rfl
@[simp] theorem v_non : evE C .non env = ret .non := by unfold evE; rfl
@[simp] theorem v_glob (x : Str) (g : Gv) : evE C (.glob x g) env = ret (gvVal g) := by unfold evE; rfl
@[simp] theorem v_bin (new : Bool) (op : Operator) (a b : E) : evE C (.bin new op a b) env = bnd (evE C a env) fun v => bnd (evE C b env) fun w => fun st => bnd (ofOpt (binOp st op v w)) (mk new) st := by conv => lhs; unfold evE
@[simp] theorem v_neg (a : E) : evE C (.neg a) env = bnd (bnd (evE C a env) asInt) fun i => ret (.int (-i)) := by conv => lhs; unfold evE
@[simp] theorem v_not (a : E) : evE C (.not a) env = bnd (bnd (evE C a env) asBl) fun b => ret (.bl (!b)) := by conv => lhs; unfold evE
@[simp] theorem v_bop (op : BoolOp) (es : Es) : evE C (.bop op es) env = evB C op es env := by conv => lhs; unfold evE
@[simp] theorem v_b1 (op : BoolOp) (e : E) : evB C op (.cons e .nil) env = evE C e env := by cases op <;> (conv => lhs; unfold evB)
@[simp] theorem v_and (e e2 : E) (es : Es) : evB C .And (.cons e (.cons e2 es)) env = bnd (bnd (evE C e env) asBl) fun k => if k = true then evB C .And (.cons e2 es) env else ret (.bl false) := by
  conv => lhs; unfold evB
  show bnd _ (fun k => if k = true then _ else _) = _
  congr 1
  funext k
  cases k <;> rfl
@[simp] theorem v_or (e e2 : E) (es : Es) : evB C .Or (.cons e (.cons e2 es)) env = bnd (bnd (evE C e env) asBl) fun k => if k = true then ret (.bl true) else evB C .Or (.cons e2 es) env := by
  conv => lhs; unfold evB
  show bnd _ (fun k => if k = false then _ else _) = _
  congr 1
  funext k
  cases k <;> rfl
@[simp] theorem v_cmp (op : CmpOp) (a b : E) : evE C (.cmp op a b) env = bnd (evE C a env) fun v => bnd (evE C b env) fun w => fun st => bnd (ofOpt (cmpOp st op v w)) (fun b => ret (.bl b)) st := by conv => lhs; unfold evE
@[simp] theorem v_chain (o1 o2 : CmpOp) (a b c : E) : evE C (.chain o1 o2 a b c) env = bnd (evE C a env) fun v => bnd (evE C b env) fun w => fun st => bnd (ofOpt (cmpOp st o1 v w)) (fun k =>
    if k = true then bnd (evE C c env) fun u => fun st => bnd (ofOpt (cmpOp st o2 w u)) (fun b => ret (.bl b)) st else ret (.bl false)) st := by conv => lhs; unfold evE
@[simp] theorem v_ife (c a b : E) : evE C (.ife c a b) env = bnd (bnd (evE C c env) asBl) fun k => if k = true then evE C a env else evE C b env := by conv => lhs; unfold evE
@[simp] theorem v_tup (es : Es) : evE C (.tup es) env = bnd (evEs C es env) fun vs => if szOk vs.length = true then ret (.tup vs) else stuck := by conv => lhs; unfold evE
@[simp] theorem v_lst (new : Bool) (es : Es) : evE C (.lst new es) env = bnd (evEs C es env) fun vs => if szOk vs.length = true then mk new (.l vs) else stuck := by conv => lhs; unfold evE
@[simp] theorem v_ix (a b : E) : evE C (.ix a b) env = bnd (evE C a env) fun v => bnd (evE C b env) fun w => fun st => bnd (ofOpt (ixOp st v w)) ret st := by conv => lhs; unfold evE
@[simp] theorem v_sl (new : Bool) (a : E) (lo hi : Oe) : evE C (.sl new a lo hi) env = bnd (evE C a env) fun v => bnd (evO C lo env) fun l => bnd (evO C hi env) fun h => fun st => bnd (ofOpt (slOp st v l h)) (mk new) st := by conv => lhs; unfold evE
@[simp] theorem v_rev (new : Bool) (a : E) : evE C (.rev new a) env = bnd (evE C a env) fun v => fun st => bnd (ofOpt (revOp st v)) (mk new) st := by conv => lhs; unfold evE
@[simp] theorem v_callR (f : Str) (es : Es) : evE C (.call f .raw es) env = bnd (evEs C es env) fun vs => C f vs := by
  conv => lhs; unfold evE
  rfl
@[simp] theorem v_callC (f : Str) (es : Es) : evE C (.call f .cut es) env = bnd (evEs C es env) fun vs => cutM (C f vs) := by
  conv => lhs; unfold evE
  rfl
@[simp] theorem v_methR (c m f : Str) (o : E) (es : Es) : evE C (.meth c m f .raw o es) env = bnd (evE C o env) fun v => fun st => if isIns st c v = true then bnd (evEs C es env) (fun vs => C f (v :: vs)) st else .stuck := by
  conv => lhs; unfold evE
  rfl
@[simp] theorem v_methC (c m f : Str) (o : E) (es : Es) : evE C (.meth c m f .cut o es) env = bnd (evE C o env) fun v => fun st => if isIns st c v = true then bnd (evEs C es env) (fun vs => cutM (C f (v :: vs))) st else .stuck := by
  conv => lhs; unfold evE
  rfl
@[simp] theorem v_callK (f : Str) (es : Es) : evE C (.call f .keep es) env = bnd (evEs C es env) fun vs => keepM (C f vs) := by
  conv => lhs; unfold evE
  rfl
@[simp] theorem v_methK (c m f : Str) (o : E) (es : Es) : evE C (.meth c m f .keep o es) env = bnd (evE C o env) fun v => fun st => if isIns st c v = true then bnd (evEs C es env) (fun vs => keepM (C f (v :: vs))) st else .stuck := by
  conv => lhs; unfold evE
  rfl
@[simp] theorem v_gin (neg : Bool) (a : E) (x : Str) (ss : List Str) : evE C (.gin neg a x ss) env = bnd (bnd (evE C a env) asStr) fun x => ret (.bl (neg != ss.contains x)) := by conv => lhs; unfold evE
@[simp] theorem v_gdin (neg : Bool) (a : E) (x : Str) (ss : List (Str × Int)) : evE C (.gdin neg a x ss) env = bnd (bnd (evE C a env) asStr) fun x => ret (.bl (neg != (ss.lookup x).isSome)) := by conv => lhs; unfold evE
@[simp] theorem v_gdix (a : E) (x : Str) (ss : List (Str × Int)) : evE C (.gdix x ss a) env = bnd (bnd (evE C a env) asStr) fun x => bnd (ofOpt (ss.lookup x)) fun i => ret (.int i) := by conv => lhs; unfold evE
@[simp] theorem v_enum (a : E) : evI C (.enum a) env = bnd (evE C a env) fun v => fun st => match itemsOf st v with
    | some is => match is.at_ with
      | none => .ok ⟨enumFrom 0 is.xs, none⟩ st
      | some _ => .stuck
    | none => .stuck := by
  conv => lhs; unfold evI
  try rfl
@[simp] theorem v_fld (o : E) (f : Str) (k : Nat) : evE C (.fld o f k) env = bnd (evE C o env) fun v => fun st => ofOpt (fldOp st f k v) st := by conv => lhs; unfold evE
@[simp] theorem v_dnewK : evE C (.dnew false) env = mk true (.d []) := by
  unfold evE
  rfl
@[simp] theorem v_dnewT : evE C (.dnew true) env = mk true (.t []) := by
  unfold evE
  rfl
@[simp] theorem v_ddisp (ks : List Key) (is : List Ini) : evE C (.ddisp ks is) env = fun st => dispM ks (iniS env is st) := by conv => lhs; unfold evE
@[simp] theorem v_lenset (a : E) : evE C (.lenset a) env = bnd (evE C a env) fun v => fun st => bnd (ofOpt (lenSet st v)) ret st := by conv => lhs; unfold evE
@[simp] theorem v_ndict (es : Es) : evE C (.ndict es) env = bnd (evEs C es env) fun vs => fun st => bnd (ofOpt (dicNs st vs)) ret st := by conv => lhs; unfold evE
@[simp] theorem e_dicNs {st : Store} {v : Val} : dicNs st [v] = dicN st v := (rfl)
@[simp] theorem v_lrange1 (new : Bool) (a : E) : evE C (.lrange1 new a) env = bnd (bnd (evE C a env) asInt) fun j => if rngOk 0 j = true then mk new (.l (rangeV 0 j)) else stuck := by conv => lhs; unfold evE
@[simp] theorem v_bi (new : Bool) (b : Bi) (es : Es) : evE C (.bi new b es) env = bnd (evEs C es env) fun vs => fun st => bnd (ofOpt (biOp st b vs)) (mk new) st := by conv => lhs; unfold evE
@[simp] theorem v_isin (a : E) (k : Kd) : evE C (.isin a k) env = bnd (evE C a env) fun v => fun st => bnd (ofOpt (isinOp st v k)) (fun b => ret (.bl b)) st := by conv => lhs; unfold evE
@[simp] theorem v_mth (new : Bool) (m : Mt) (o : E) (es : Es) : evE C (.mth new m o es) env = bnd (evE C o env) fun v => fun st => if tyOk m st v = true then bnd (evEs C es env) (fun vs => mtOp new m v vs) st else .stuck := by conv => lhs; unfold evE
@[simp] theorem v_lrange (new : Bool) (a b : E) : evE C (.lrange new a b) env = bnd (bnd (evE C a env) asInt) fun i => bnd (bnd (evE C b env) asInt) fun j => if rngOk i j = true then mk new (.l (rangeV i j)) else stuck := by conv => lhs; unfold evE
@[simp] theorem v_lc (new : Bool) (own : List Nat) (tg : Tg) (it : It) (ifs : Es) (e : E) : evE C (.lc new own tg it ifs e) env = lcSem new own (evI C it) tg (evT C ifs) (evE C e) env := by conv => lhs; unfold evE
@[simp] theorem v_es0 : evEs C .nil env = ret [] := by unfold evEs; rfl
@[simp] theorem v_es1 (e : E) (es : Es) : evEs C (.cons e es) env = bnd (evE C e env) fun v => bnd (evEs C es env) fun vs => ret (v :: vs) := by conv => lhs; unfold evEs
@[simp] theorem v_o0 : evO C .none env = ret none := by unfold evO; rfl
@[simp] theorem v_o1 (e : E) : evO C (.some e) env = bnd (bnd (evE C e env) asInt) fun i => ret (some i) := by conv => lhs; unfold evO
@[simp] theorem v_t0 : evT C .nil env = ret true := by unfold evT; rfl
@[simp] theorem v_t1 (e : E) : evT C (.cons e .nil) env = bnd (evE C e env) asBl := by conv => lhs; unfold evT
@[simp] theorem v_seq (e : E) : evI C (.seq e) env = bnd (evE C e env) fun v => fun st => ofOpt (itemsOf st v) st := by conv => lhs; unfold evI
@[simp] theorem v_rng1 (a : E) : evI C (.rng1 a) env = bnd (bnd (evE C a env) asInt) fun j => if rngOk 0 j = true then ret ⟨rangeV 0 j, none⟩ else stuck := by conv => lhs; unfold evI
@[simp] theorem v_rng2 (a b : E) : evI C (.rng2 a b) env = bnd (bnd (evE C a env) asInt) fun i => bnd (bnd (evE C b env) asInt) fun j => if rngOk i j = true then ret ⟨rangeV i j, none⟩ else stuck := by conv => lhs; unfold evI
@[simp] theorem x_asg (tg : Tg) (e : E) : exS C xs (.asg tg e) env = lift env (evE C e env) fun v st => optS (assignTg tg v env) fun env' => .ok (.nx env') st := by conv => lhs; unfold exS
@[simp] theorem x_sset (o i e : E) : exS C xs (.sset o i e) env = lift env (evE C e env) fun v => lift env (evE C o env) fun ov => lift env (evE C i env) fun iv st => optS (setOp st ov iv v) fun st' => .ok (.nx env) st' := by conv => lhs; unfold exS
@[simp] theorem x_par (i j : Nat) (a b : E) : exS C xs (.par i j a b) env = lift env (evE C a env) fun v => lift env (evE C b env) fun w st => .ok (.nx ((env.set i (some v)).set j (some w))) st := by conv => lhs; unfold exS
@[simp] theorem x_fset (c : Str) (o : E) (f : Str) (k : Nat) (e : E) : exS C xs (.fset c o f k e) env = lift env (evE C e env) fun v => lift env (evE C o env) fun ov st => optS (fsetOp st c f k ov v) fun st' => .ok (.nx env) st' := by conv => lhs; unfold exS
@[simp] theorem x_faug (c : Str) (o : E) (f : Str) (k : Nat) (i : Int) : exS C xs (.faug c o f k i) env = lift env (evE C o env) fun ov st => optS (faugOp st c f k i ov) fun st' => .ok (.nx env) st' := by conv => lhs; unfold exS
@[simp] theorem x_expr (e : E) : exS C xs (.expr e) env = lift env (evE C e env) fun _ st => .ok (.nx env) st := by conv => lhs; unfold exS
@[simp] theorem x_ret (e : E) : exS C xs (.ret e) env = lift env (evE C e env) fun v st => .ok (.rt v) st := by conv => lhs; unfold exS
@[simp] theorem x_retN : exS C xs .retN env = fun st => .ok (.rt .non) st := by conv => lhs; unfold exS
@[simp] theorem x_iff (c : E) (a b : Ss) : exS C xs (.iff c a b) env = lift env (bnd (evE C c env) asBl) fun k => if k = true then exSs C xs a env else exSs C xs b env := by conv => lhs; unfold exS
@[simp] theorem x_for (tg : Tg) (it : It) (body : Ss) : exS C xs (.forS tg it body) env = lift env (evI C it env) fun is => forLoop (exSs C xs body) tg (Still is) is.xs env := by conv => lhs; unfold exS
@[simp] theorem x_pass : exS C xs .pass env = fun st => .ok (.nx env) st := by conv => lhs; unfold exS
@[simp] theorem x_raise (c m : Str) : exS C xs (.raiseS c m) env = fun st => .exc c none env st := by conv => lhs; unfold exS
@[simp] theorem x_try (body : Ss) (hs : Hs) : exS C xs (.tryS body hs) env = fun st => match exSs C xs body env st with
    | .exc c row env' st' => if xs.contains c = true then exHs C xs c row hs env' st' else .stuck
    | r => r := by
  funext st
  unfold exS
  cases exSs C xs body env st <;> rfl
end
end Rc
/-! Rw: what a run of statements must come to, laid out from the end. -/
namespace Rc
open PySem
section
variable {C : Str → List Val → M Val} {xs : List Str} {env : Env} {st : Store} {N : Env → Store → Prop} {T : Val → Store → Prop}
@[simp] theorem x_nil : exSs C xs .nil env st = .ok (.nx env) st := by unfold exSs; rfl
/-- N holds where the run goes on, T where it returns -/
def WP (r : RS) (N : Env → Store → Prop) (T : Val → Store → Prop) : Prop := match r with
  | .ok (.nx e) st => N e st
  | .ok (.rt v) st => T v st
  | _ => False
/-- the same, with statements still to come -/
def WPK (r : RS) (C : Str → List Val → M Val) (xs : List Str) (ss : Ss) (N : Env → Store → Prop) (T : Val → Store → Prop) : Prop := WP r (fun e s => WP (exSs C xs ss e s) N T) T
@[simp] theorem wp_nx : WP (.ok (.nx env) st) N T = N env st := rfl
@[simp] theorem wp_rt {v : Val} : WP (.ok (.rt v) st) N T = T v st := rfl
@[simp] theorem wpk_nx {ss : Ss} : WPK (.ok (.nx env) st) C xs ss N T = WP (exSs C xs ss env st) N T := rfl
@[simp] theorem wpk_rt {ss : Ss} {v : Val} : WPK (.ok (.rt v) st) C xs ss N T = T v st := rfl
@[simp] theorem wp_cons {s : S} {ss : Ss} : WP (exSs C xs (.cons s ss) env st) N T = WPK (exS C xs s env st) C xs ss N T := by
  unfold exSs WPK
  rcases exS C xs s env st with ⟨f, st1⟩ | ⟨c, r, e, st1⟩ | _
  · cases f <;> rfl
  · rfl
  · rfl
/-- two runs of statements as one -/
def app : Ss → Ss → Ss
  | .nil, b => b
  | .cons s a, b => .cons s (app a b)
  | .two s t a, b => .two s t (app a b)
@[simp] theorem app_nil {b : Ss} : app .nil b = b := rfl
@[simp] theorem app_cons {s : S} {a b : Ss} : app (.cons s a) b = .cons s (app a b) := rfl
theorem cutE_wp {st st' : Store} {env : Env} {k : Env → Store → RS} : WP (cutE st st' env k) N T = (CutOk st st' ∧ WP (k (frzE st' st.length env) (st'.take st.length)) N T) := by
  unfold cutE
  by_cases h : CutOk st st'
  · rw [if_pos h]; simp [h]
  · rw [if_neg h]
    refine propext ⟨fun z => z.elim, fun z => absurd z.1 h⟩
theorem wp_two {s t : S} {ss : Ss} {env1 env2 : Env} {st1 st2 : Store} (h1 : exS C xs s env st = .ok (.nx env1) st1) (h2 : exS C xs t env1 st1 = .ok (.nx env2) st2) (hc : CutOk st st2) (h : WP (exSs C xs ss (frzE st2 st.length env2) (st2.take st.length)) N T) : WP (exSs C xs (.two s t ss) env st) N T := by
  unfold exSs
  rw [h1]
  dsimp only
  rw [h2]
  dsimp only
  rw [cutE_wp]
  exact ⟨hc, h⟩
theorem wp_app : ∀ {a b : Ss} {env : Env} {st : Store}, WP (exSs C xs (app a b) env st) N T = WPK (exSs C xs a env st) C xs b N T
  | .nil, b, env, st => by
    rw [app_nil, x_nil, wpk_nx]
  | .cons s a, b, env, st => by
    rw [app_cons, wp_cons]
    have ih := fun (env : Env) (st : Store) => wp_app (a := a) (b := b) (env := env) (st := st)
    unfold exSs WPK
    rcases exS C xs s env st with ⟨f, st1⟩ | ⟨c, r, e, st1⟩ | _
    · cases f
      · exact ih _ _
      · rfl
    · rfl
    · rfl
  | .two s t a, b, env, st => by
    have ih := fun (env : Env) (st : Store) => wp_app (a := a) (b := b) (env := env) (st := st)
    show WP (exSs C xs (.two s t (app a b)) env st) N T = _
    unfold exSs WPK
    rcases exS C xs s env st with ⟨f, st1⟩ | ⟨c, r, e, st1⟩ | _
    · cases f with
      | nx env1 =>
        dsimp only
        rcases exS C xs t env1 st1 with ⟨f, st2⟩ | ⟨c, r, e, st2⟩ | _
        · cases f with
          | nx env2 =>
            dsimp only
            rw [cutE_wp, cutE_wp, ih]
            rfl
          | rt v => rfl
        · rfl
        · rfl
      | rt v => rfl
    · rfl
    · rfl
@[simp] theorem wpk_ss {a b : Ss} : WPK (exSs C xs a env st) C xs b N T = WP (exSs C xs (app a b) env st) N T := wp_app.symm
@[simp] theorem ite_at {β : Type} {p : Prop} [Decidable p] {f g : Store → β} : (if p then f else g) st = if p then f st else g st := by split <;> rfl
@[simp] theorem wpk_ite {p : Prop} [Decidable p] {a b : RS} {ss : Ss} : WPK (if p then a else b) C xs ss N T = if p then WPK a C xs ss N T else WPK b C xs ss N T := by split <;> rfl
theorem wpk_wp {r : RS} {ss : Ss} : WPK r C xs ss N T = WP r (fun e s => WP (exSs C xs ss e s) N T) T := rfl
theorem wp_mono {r : RS} {N' : Env → Store → Prop} {T' : Val → Store → Prop} (h : WP r N T) (hn : ∀ e s, N e s → N' e s) (ht : ∀ v s, T v s → T' v s) : WP r N' T' := by
  rcases r with ⟨f, st1⟩ | ⟨c, r, e, st1⟩ | _
  · cases f
    · exact hn _ _ h
    · exact ht _ _ h
  · exact h
  · exact h
theorem wp_run {d : Df} {args : List Val} (hl : args.length = d.ps) (h : WP (exSs C xs d.body (startEnv d.ns args) st) (fun _ st => T .non st) T) : ∃ v st', runDf C xs d args st = .ok v st' ∧ T v st' := by
  unfold runDf
  rw [if_pos hl]
  revert h
  rcases exSs C xs d.body (startEnv d.ns args) st with ⟨f, st1⟩ | ⟨c, r, e, st1⟩ | _
  · cases f
    · intro h
      exact ⟨_, _, rfl, h⟩
    · intro h
      exact ⟨_, _, rfl, h⟩
  · exact fun h => h.elim
  · exact fun h => h.elim
theorem wp_eq {d : Df} {args : List Val} {w : Val} {st2 : Store} (hl : args.length = d.ps) (h : WP (exSs C xs d.body (startEnv d.ns args) st) (fun _ st => .non = w ∧ st = st2) (fun v st => v = w ∧ st = st2)) : runDf C xs d args st = .ok w st2 := by
  obtain ⟨v, s, e, h⟩ := wp_run (T := fun v st => v = w ∧ st = st2) hl h
  rw [e, h.1, h.2]
/-- a loop by its invariant -/
theorem wp_for {body : Env → Store → RS} {tg : Tg} {ys : List Val} (I : Env → Store → Prop) : ∀ {zs : List Val}, (∀ x ∈ zs, ∀ env st, I env st → ∃ env', assignTg tg x env = some env' ∧ WP (body env' st) I T) →
    ∀ {env : Env} {st : Store}, I env st → WP (forLoop body tg (Still ⟨ys, none⟩) zs env st) I T
  | [], _, env, st, h => by
    rw [forLoop_nil (by simp)]
    exact h
  | x :: zs, hb, env, st, h => by
    obtain ⟨env', e1, e2⟩ := hb x (List.mem_cons_self ..) env st h
    rw [forLoop_cons (by simp) e1]
    have ih := fun (env : Env) (st : Store) (h : I env st) => wp_for (ys := ys) I (fun y hy => hb y (List.mem_cons_of_mem _ hy)) h
    revert e2
    rcases body env' st with ⟨f, st1⟩ | ⟨c, r, e, st1⟩ | _
    · cases f
      · exact fun h => ih _ _ h
      · exact fun h => h
    · exact fun h => h
    · exact fun h => h
theorem wpk_for {body : Env → Store → RS} {tg : Tg} {ys : List Val} {ss : Ss} (I : Env → Store → Prop) {zs : List Val} {env : Env} {st : Store} (h0 : I env st) (hb : ∀ x ∈ zs, ∀ env st, I env st → ∃ env', assignTg tg x env = some env' ∧ WP (body env' st) I T)
    (hn : ∀ env st, I env st → WP (exSs C xs ss env st) N T) : WPK (forLoop body tg (Still ⟨ys, none⟩) zs env st) C xs ss N T :=
  wp_mono (wp_for I hb h0) hn fun _ _ h => h
end
theorem bnd_ok {α β : Type} {m : M α} {f : α → M β} {st st' : Store} {a : α} (h : m st = .ok a st') : bnd m f st = f a st' := by
  unfold bnd
  rw [h]
/-! ### comprehensions -/
/-- a comprehension whose turns leave the store alone -/
theorem lc_pure {turn : Val → M (Option Val)} {ys : List Val} {st : Store} {g : Val → Option Val} : ∀ {zs acc : List Val}, (∀ x ∈ zs, turn x st = .ok (g x) st) → lcLoop turn (Still ⟨ys, none⟩) zs acc st = .ok (acc ++ zs.filterMap g) st
  | [], acc, _ => by
    unfold lcLoop
    simp
  | x :: zs, acc, h => by
    unfold lcLoop
    rw [if_pos (by simp), h x (List.mem_cons_self ..)]
    rcases hg : g x with _ | y
    · dsimp only
      rw [lc_pure fun y hy => h y (List.mem_cons_of_mem _ hy)]
      simp [hg]
    · dsimp only
      rw [lc_pure fun y hy => h y (List.mem_cons_of_mem _ hy)]
      simp [hg]
/-- a comprehension without tests whose turns may change the store -/
theorem lc_inv {turn : Val → M (Option Val)} {ys : List Val} (I : Store → Prop) (Q : Val → Prop) : ∀ {zs acc : List Val} {st : Store}, (∀ x ∈ zs, ∀ st, I st → ∃ y st', turn x st = .ok (some y) st' ∧ Q y ∧ I st') → I st → (∀ y ∈ acc, Q y) →
    ∃ ws st', lcLoop turn (Still ⟨ys, none⟩) zs acc st = .ok ws st' ∧ ws.length = acc.length + zs.length ∧ (∀ y ∈ ws, Q y) ∧ I st'
  | [], acc, st, _, hi, hq => ⟨acc, st, by unfold lcLoop; rfl, by simp, hq, hi⟩
  | x :: zs, acc, st, h, hi, hq => by
    obtain ⟨y, st1, e, qy, h1⟩ := h x (List.mem_cons_self ..) st hi
    obtain ⟨ws, st2, e2, l, q, i⟩ := lc_inv (turn := turn) (ys := ys) I Q (zs := zs) (acc := acc ++ [y]) (fun y hy => h y (List.mem_cons_of_mem _ hy)) h1 (by
      intro z hz
      rcases List.mem_append.mp hz with hz | hz
      · exact hq z hz
      · rw [List.mem_singleton.mp hz]
        exact qy)
    refine ⟨ws, st2, ?_, ?_, q, i⟩
    · unfold lcLoop
      rw [if_pos (by simp), e]
      exact e2
    · rw [l]
      simp
      omega
section
variable {C : Str → List Val → M Val} {env : Env} {st : Store}
/-- a comprehension over frozen items, without tests, whose turns leave the store alone -/
theorem lc_map {own : List Nat} {it : It} {tg : Tg} {e : E} {zs : List Val} {st1 : Store} (f : Val → Val) (hi : evI C it env st = .ok ⟨zs, none⟩ st1) (he : ∀ x ∈ zs, ∃ env', assignTg tg x (wipe env own) = some env' ∧ evE C e env' st1 = .ok (f x) st1) :
    lcSem false own (evI C it) tg (evT C .nil) (evE C e) env st = .ok (.lst (zs.map f)) st1 := by
  rw [lcSem_eq]
  unfold lcRaw
  rw [bnd_ok hi]
  have : lcLoop (lcTurn tg own (evT C .nil) (evE C e) env) (Still ⟨zs, none⟩) zs [] st1 = .ok ([] ++ zs.filterMap fun x => some (f x)) st1 := by
    refine lc_pure fun x hx => ?_
    obtain ⟨env', e1, e2⟩ := he x hx
    unfold lcTurn
    rw [e1]
    simp [e2]
  rw [bnd_ok this]
  simp
/-- the same, with a test -/
theorem lc_filter {own : List Nat} {it : It} {tg : Tg} {e t : E} {zs : List Val} {st1 : Store} (p : Val → Bool) (f : Val → Val) (hi : evI C it env st = .ok ⟨zs, none⟩ st1) (he : ∀ x ∈ zs, ∃ env', assignTg tg x (wipe env own) = some env' ∧ evE C t env' st1 = .ok (.bl (p x)) st1 ∧ (p x = true → evE C e env' st1 = .ok (f x) st1)) :
    lcSem false own (evI C it) tg (evT C (.cons t .nil)) (evE C e) env st = .ok (.lst ((zs.filter p).map f)) st1 := by
  rw [lcSem_eq]
  unfold lcRaw
  rw [bnd_ok hi]
  have : lcLoop (lcTurn tg own (evT C (.cons t .nil)) (evE C e) env) (Still ⟨zs, none⟩) zs [] st1 = .ok ([] ++ zs.filterMap fun x => if p x = true then some (f x) else none) st1 := by
    refine lc_pure fun x hx => ?_
    obtain ⟨env', e1, e2, e3⟩ := he x hx
    unfold lcTurn
    rw [e1]
    by_cases hp : p x = true
    · simp [e2, e3 hp, hp]
    · simp [e2, hp]
  rw [bnd_ok this]
  have e : ∀ zs : List Val, (zs.filterMap fun x => if p x = true then some (f x) else none) = (zs.filter p).map f := by
    intro zs
    induction zs with
    | nil => rfl
    | cons z zs ih =>
      by_cases hp : p z = true
      · simp [hp, ih]
      · simp [hp, ih]
  simp [e]
/-- a comprehension that draws -/
theorem lc_draw {own : List Nat} {it : It} {tg : Tg} {e : E} {zs : List Val} {st1 : Store} (I : Store → Prop) (Q : Val → Prop) (hi : evI C it env st = .ok ⟨zs, none⟩ st1) (h1 : I st1) (he : ∀ x ∈ zs, ∀ st, I st → ∃ env' y st', assignTg tg x (wipe env own) = some env' ∧ evE C e env' st = .ok y st' ∧ Q y ∧ I st') :
    ∃ ws st2, lcSem false own (evI C it) tg (evT C .nil) (evE C e) env st = .ok (.lst ws) st2 ∧ ws.length = zs.length ∧ (∀ y ∈ ws, Q y) ∧ I st2 := by
  obtain ⟨ws, st2, e2, l, q, i⟩ := lc_inv (turn := lcTurn tg own (evT C .nil) (evE C e) env) (ys := zs) I Q (zs := zs) (acc := []) (st := st1) (by
    intro x hx st hi
    obtain ⟨env', y, st', e1, e2, q, i⟩ := he x hx st hi
    refine ⟨y, st', ?_, q, i⟩
    unfold lcTurn
    rw [e1]
    simp [e2]) h1 (by simp)
  refine ⟨ws, st2, ?_, by rw [l]; simp, q, i⟩
  rw [lcSem_eq]
  unfold lcRaw
  rw [bnd_ok hi]
  rw [bnd_ok e2]
  simp
end
/-! ### loops that look, and comprehensions, over carried lists -/
section
variable {C : Str → List Val → M Val} {xs : List Str} {env : Env} {st : Store} {N : Env → Store → Prop} {T : Val → Store → Prop} {α : Type}
/-- a loop that returns w at the first item that p lets not by -/
theorem wp_all {body : Env → Store → RS} {tg : Tg} {ys : List Val} (I : Env → Prop) (p : α → Bool) (w : Val) {inj : α → Val} : ∀ {ws : List α} {env : Env}, I env → (∀ x ∈ ws, ∀ env, I env → ∃ env', assignTg tg (inj x) env = some env' ∧ WP (body env' st) (fun e s => s = st ∧ I e ∧ p x = true) (fun v s => s = st ∧ v = w ∧ p x = false)) →
    WP (forLoop body tg (Still ⟨ys, none⟩) (ws.map inj) env st) (fun e s => s = st ∧ I e ∧ ws.all p = true) (fun v s => s = st ∧ v = w ∧ ws.all p = false)
  | [], env, h, _ => by
    rw [List.map_nil]
    rw [forLoop_nil (by simp)]
    exact ⟨rfl, h, rfl⟩
  | x :: ws, env, h, hb => by
    obtain ⟨env', e1, e2⟩ := hb x (List.mem_cons_self ..) env h
    rw [List.map_cons]
    rw [forLoop_cons (by simp) e1]
    have ih := fun (env : Env) (h : I env) => wp_all (body := body) (tg := tg) (ys := ys) I p w h fun y hy => hb y (List.mem_cons_of_mem _ hy)
    revert e2
    rcases body env' st with ⟨f, st1⟩ | ⟨c, r, e, st1⟩ | _
    · cases f
      · rintro ⟨rfl, hi, hp⟩
        refine wp_mono (ih _ hi) ?_ ?_
        · rintro e s ⟨rfl, i, a⟩
          exact ⟨rfl, i, by rw [List.all_cons, hp, a]; rfl⟩
        · rintro e s ⟨rfl, i, a⟩
          exact ⟨rfl, i, by rw [List.all_cons, a, Bool.and_false]⟩
      · rintro ⟨rfl, hi, hp⟩
        exact ⟨rfl, hi, by rw [List.all_cons, hp, Bool.false_and]⟩
    · exact fun h => h
    · exact fun h => h
theorem wpk_all {body : Env → Store → RS} {tg : Tg} {ys : List Val} {ss : Ss} (I : Env → Prop) (p : α → Bool) (w : Val) {inj : α → Val} {ws : List α} (h0 : I env) (hb : ∀ x ∈ ws, ∀ env, I env → ∃ env', assignTg tg (inj x) env = some env' ∧ WP (body env' st) (fun e s => s = st ∧ I e ∧ p x = true) (fun v s => s = st ∧ v = w ∧ p x = false))
    (hn : ∀ e, I e → ws.all p = true → WP (exSs C xs ss e st) N T) (ht : ws.all p = false → T w st) : WPK (forLoop body tg (Still ⟨ys, none⟩) (ws.map inj) env st) C xs ss N T := by
  refine wp_mono (wp_all I p w h0 hb) ?_ ?_
  · rintro e s ⟨rfl, i, a⟩
    exact hn e i a
  · rintro v s ⟨rfl, rfl, a⟩
    exact ht a
theorem lc_pureA {turn : Val → M (Option Val)} {ys : List Val} {g : α → Option Val} {inj : α → Val} : ∀ {ws : List α} {acc : List Val}, (∀ x ∈ ws, turn (inj x) st = .ok (g x) st) → lcLoop turn (Still ⟨ys, none⟩) (ws.map inj) acc st = .ok (acc ++ ws.filterMap g) st
  | [], acc, _ => by
    unfold lcLoop
    simp
  | x :: ws, acc, h => by
    rw [List.map_cons]
    unfold lcLoop
    rw [if_pos (by simp), h x (List.mem_cons_self ..)]
    rcases hg : g x with _ | y
    · dsimp only
      rw [lc_pureA fun y hy => h y (List.mem_cons_of_mem _ hy)]
      simp [hg]
    · dsimp only
      rw [lc_pureA fun y hy => h y (List.mem_cons_of_mem _ hy)]
      simp [hg]
theorem lc_mapA {own : List Nat} {it : It} {tg : Tg} {e : E} {st1 : Store} {ws : List α} (inj : α → Val) (f : α → Val) (hi : evI C it env st = .ok ⟨ws.map inj, none⟩ st1) (he : ∀ x ∈ ws, ∃ env', assignTg tg (inj x) (wipe env own) = some env' ∧ evE C e env' st1 = .ok (f x) st1) :
    lcSem false own (evI C it) tg (evT C .nil) (evE C e) env st = .ok (.lst (ws.map f)) st1 := by
  rw [lcSem_eq]
  unfold lcRaw
  rw [bnd_ok hi]
  have : lcLoop (lcTurn tg own (evT C .nil) (evE C e) env) (Still ⟨ws.map inj, none⟩) (ws.map inj) [] st1 = .ok ([] ++ ws.filterMap fun x => some (f x)) st1 := by
    refine lc_pureA fun x hx => ?_
    obtain ⟨env', e1, e2⟩ := he x hx
    unfold lcTurn
    rw [e1]
    simp [e2]
  rw [bnd_ok this]
  simp
theorem lc_filterA {own : List Nat} {it : It} {tg : Tg} {e t : E} {st1 : Store} {ws : List α} (inj : α → Val) (p : α → Bool) (f : α → Val) (hi : evI C it env st = .ok ⟨ws.map inj, none⟩ st1) (he : ∀ x ∈ ws, ∃ env', assignTg tg (inj x) (wipe env own) = some env' ∧ evE C t env' st1 = .ok (.bl (p x)) st1 ∧ (p x = true → evE C e env' st1 = .ok (f x) st1)) :
    lcSem false own (evI C it) tg (evT C (.cons t .nil)) (evE C e) env st = .ok (.lst ((ws.filter p).map f)) st1 := by
  rw [lcSem_eq]
  unfold lcRaw
  rw [bnd_ok hi]
  have : lcLoop (lcTurn tg own (evT C (.cons t .nil)) (evE C e) env) (Still ⟨ws.map inj, none⟩) (ws.map inj) [] st1 = .ok ([] ++ ws.filterMap fun x => if p x = true then some (f x) else none) st1 := by
    refine lc_pureA fun x hx => ?_
    obtain ⟨env', e1, e2, e3⟩ := he x hx
    unfold lcTurn
    rw [e1]
    by_cases hp : p x = true
    · simp [e2, e3 hp, hp]
    · simp [e2, hp]
  rw [bnd_ok this]
  have e : ∀ ws : List α, (ws.filterMap fun x => if p x = true then some (f x) else none) = (ws.filter p).map f := by
    intro ws
    induction ws with
    | nil => rfl
    | cons z zs ih =>
      by_cases hp : p z = true
      · simp [hp, ih]
      · simp [hp, ih]
  simp [e]
end
end Rc
namespace D
open PySem Rc
def d_good_cell : Df := ⟨1, 1, (.cons (.ret (.chain .LtE .LtE (.glob "GONE" (.int (-1))) (.var 0) (.glob "LAST_SIGN" (.int 9)))) .nil)⟩
def d_law_open : Df := ⟨1, 1, (.cons (.ret (.lst true (.cons (.bi false .list (.cons (.sl false (.var 0) .none (.some (.int 63))) .nil)) (.cons (.int 0) (.cons (.int 0) (.cons (.int 29) .nil)))))) .nil)⟩
def d_law_pull : Df := ⟨2, 5, (.cons (.iff (.bop .And (.cons (.cmp .Lt (.ix (.var 0) (.int 2)) (.var 1)) (.cons (.cmp .Lt (.ix (.var 0) (.int 1)) (.bi false .len (.cons (.ix (.var 0) (.int 0)) .nil))) .nil))) (.cons (.asg (.nm 3) (.ix (.ix (.var 0) (.int 0)) (.ix (.var 0) (.int 1)))) (.cons (.sset (.var 0) (.int 1) (.bin false .Add (.ix (.var 0) (.int 1)) (.int 1))) (.cons (.sset (.var 0) (.int 2) (.int 0)) (.cons (.iff (.cmp .GtE (.var 3) (.bin false .Pow (.int 10) (.int 18))) (.cons (.sset (.var 0) (.int 2) (.var 3)) .nil) (.cons (.sset (.var 0) (.int 3) (.bin false .Mod (.bin false .Add (.bin false .Add (.bin false .Mult (.ix (.var 0) (.int 3)) (.int 48271)) (.bin false .Mult (.bin false .Mod (.var 3) (.int 2147483629)) (.int 69621))) (.int 12345)) (.int 2147483647))) .nil)) .nil)))) .nil) (.cons (.iff (.cmp .GtE (.ix (.var 0) (.int 2)) (.var 1)) (.cons (.asg (.nm 4) (.bin false .Mod (.ix (.var 0) (.int 2)) (.var 1))) (.cons (.sset (.var 0) (.int 2) (.bin false .FloorDiv (.ix (.var 0) (.int 2)) (.var 1))) (.cons (.ret (.var 4)) .nil))) .nil) (.cons (.asg (.nm 2) (.ix (.var 0) (.int 3))) (.cons (.sset (.var 0) (.int 3) (.bin false .Mod (.bin false .Add (.bin false .Add (.bin false .Mult (.bin false .Mod (.bin false .Mult (.var 2) (.var 2)) (.int 2147483629)) (.int 5)) (.bin false .Mult (.var 2) (.int 16811))) (.int 2531011)) (.int 2147483647))) (.cons (.ret (.bin false .Mod (.bin false .Add (.bin false .FloorDiv (.ix (.var 0) (.int 3)) (.int 59)) (.bin false .Mult (.bin false .Mod (.ix (.var 0) (.int 3)) (.int 8191)) (.int 31))) (.var 1))) .nil)))))⟩
def d_law_far : Df := ⟨1, 2, (.cons (.asg (.nm 1) (.call "_law_pull" .raw (.cons (.var 0) (.cons (.bin false .Pow (.int 10) (.int 9)) .nil)))) (.cons (.iff (.cmp .Eq (.call "_law_pull" .raw (.cons (.var 0) (.cons (.int 2) .nil))) (.int 0)) (.cons (.asg (.nm 1) (.bin false .Add (.var 1) (.bin false .Pow (.int 10) (.int 25)))) .nil) .nil) (.cons (.iff (.cmp .Eq (.call "_law_pull" .raw (.cons (.var 0) (.cons (.int 2) .nil))) (.int 0)) (.cons (.ret (.bin false .Sub (.neg (.int 1)) (.var 1))) .nil) .nil) (.cons (.ret (.var 1)) .nil))))⟩
def d_law_num : Df := ⟨1, 1, (.cons (.ret (.bop .And (.cons (.isin (.var 0) .int) (.cons (.not (.isin (.var 0) .bool)) .nil)))) .nil)⟩
def d_law_like_e0 : E := (.call "_law_like" .raw (.cons (.ix (.var 0) (.var 2)) (.cons (.ix (.var 1) (.var 2)) .nil)))
def d_law_like : Df := ⟨2, 3, (.cons (.iff (.cmp .Is (.var 1) .non) (.cons (.ret (.cmp .Is (.var 0) .non)) .nil) .nil) (.cons (.iff (.isin (.var 1) .bool) (.cons (.ret (.bop .And (.cons (.isin (.var 0) .bool) (.cons (.cmp .Eq (.var 0) (.var 1)) .nil)))) .nil) .nil) (.cons (.iff (.isin (.var 1) .int) (.cons (.ret (.bop .And (.cons (.call "_law_num" .raw (.cons (.var 0) .nil)) (.cons (.cmp .Eq (.var 0) (.var 1)) .nil)))) .nil) .nil) (.cons (.iff (.isin (.var 1) .str) (.cons (.ret (.bop .And (.cons (.isin (.var 0) .str) (.cons (.cmp .Eq (.var 0) (.var 1)) .nil)))) .nil) .nil) (.cons (.iff (.bop .Or (.cons (.cmp .NotEq (.isin (.var 1) .tuple) (.isin (.var 0) .tuple)) (.cons (.cmp .NotEq (.isin (.var 1) .list) (.isin (.var 0) .list)) .nil))) (.cons (.ret (.bl false)) .nil) .nil) (.cons (.iff (.cmp .NotEq (.bi false .len (.cons (.var 0) .nil)) (.bi false .len (.cons (.var 1) .nil))) (.cons (.ret (.bl false)) .nil) .nil) (.cons (.ret (.bi false .all (.cons (.lc false [2] (.nm 2) (.rng1 (.bi false .len (.cons (.var 1) .nil))) .nil d_law_like_e0) .nil))) .nil)))))))⟩
def d_good_strip_e1 : E := (.call "good_cell" .raw (.cons (.var 2) .nil))
def d_good_strip_b0 : Ss := (.cons (.iff (.bop .Or (.cons (.cmp .Lt (.bi false .len (.cons (.var 1) .nil)) (.int 1)) (.cons (.cmp .Gt (.bi false .len (.cons (.var 1) .nil)) (.glob "MOST_ROWS" (.int 3))) (.cons (.cmp .NotEq (.bi false .len (.cons (.var 1) .nil)) (.bi false .len (.cons (.ix (.var 0) (.int 0)) .nil))) .nil)))) (.cons (.ret (.bl false)) .nil) .nil) (.cons (.iff (.not (.bi false .all (.cons (.lc false [2] (.nm 2) (.seq (.var 1)) .nil d_good_strip_e1) .nil))) (.cons (.ret (.bl false)) .nil) .nil) .nil))
def d_good_strip : Df := ⟨1, 3, (.cons (.iff (.bop .Or (.cons (.cmp .Lt (.bi false .len (.cons (.var 0) .nil)) (.int 1)) (.cons (.cmp .Gt (.bi false .len (.cons (.var 0) .nil)) (.glob "MOST_WIDE" (.int 12))) .nil))) (.cons (.ret (.bl false)) .nil) .nil) (.cons (.forS (.nm 1) (.seq (.var 0)) d_good_strip_b0) (.cons (.ret (.bl true)) .nil)))⟩
def d_law_strip_ok_e1 : E := (.chain .LtE .LtE (.neg (.int 1)) (.var 3) (.int 9))
def d_law_strip_ok_b0 : Ss := (.cons (.iff (.bop .Or (.cons (.cmp .NotEq (.bi false .len (.cons (.var 2) .nil)) (.var 1)) (.cons (.not (.bi false .all (.cons (.lc false [3] (.nm 3) (.seq (.var 2)) .nil d_law_strip_ok_e1) .nil))) .nil))) (.cons (.ret (.bl false)) .nil) .nil) .nil)
def d_law_strip_ok : Df := ⟨1, 4, (.cons (.iff (.not (.chain .LtE .LtE (.int 1) (.bi false .len (.cons (.var 0) .nil)) (.int 12))) (.cons (.ret (.bl false)) .nil) .nil) (.cons (.asg (.nm 1) (.bi false .len (.cons (.ix (.var 0) (.int 0)) .nil))) (.cons (.forS (.nm 2) (.seq (.var 0)) d_law_strip_ok_b0) (.cons (.ret (.chain .LtE .LtE (.int 1) (.var 1) (.int 3))) .nil))))⟩
def d_law_changed : Df := ⟨4, 5, (.cons (.asg (.nm 4) (.bin false .Add (.bin false .Add (.sl false (.ix (.var 0) (.var 1)) .none (.some (.var 2))) (.tup (.cons (.var 3) .nil))) (.sl false (.ix (.var 0) (.var 1)) (.some (.bin false .Add (.var 2) (.int 1))) .none))) (.cons (.ret (.bin false .Add (.bin false .Add (.sl false (.var 0) .none (.some (.var 1))) (.tup (.cons (.var 4) .nil))) (.sl false (.var 0) (.some (.bin false .Add (.var 1) (.int 1))) .none))) .nil))⟩
def d_need_strip : Df := ⟨1, 1, (.cons (.iff (.not (.call "good_strip" .raw (.cons (.var 0) .nil))) (.cons (.raiseS "BadStrip" "no strip") .nil) .nil) .nil)⟩
def d_about_e0 : E := (.rev false (.var 1))
def d_about : Df := ⟨1, 2, (.cons (.ret (.bi false .tuple (.cons (.lc false [1] (.nm 1) (.seq (.rev false (.var 0))) .nil d_about_e0) .nil))) .nil)⟩
def d_law_turned_e1 : E := (.var 2)
def d_law_turned_e0 : E := (.bi false .tuple (.cons (.lc false [2] (.nm 2) (.seq (.rev false (.var 1))) .nil d_law_turned_e1) .nil))
def d_law_turned : Df := ⟨1, 3, (.cons (.ret (.bi false .tuple (.cons (.lc false [1] (.nm 1) (.seq (.rev false (.var 0))) .nil d_law_turned_e0) .nil))) .nil)⟩
def d_parts : Df := ⟨2, 2, (.cons (.expr (.call "need_strip" .raw (.cons (.var 0) .nil))) (.cons (.iff (.bop .Or (.cons (.cmp .Lt (.var 1) (.int 1)) (.cons (.cmp .GtE (.var 1) (.bi false .len (.cons (.var 0) .nil))) .nil))) (.cons (.raiseS "BadWidth" "it does not break there") .nil) .nil) (.cons (.ret (.tup (.cons (.sl false (.var 0) .none (.some (.var 1))) (.cons (.sl false (.var 0) (.some (.var 1)) .none) .nil)))) .nil)))⟩
def d_law_near : Df := ⟨2, 2, (.cons (.iff (.cmp .Eq (.call "_law_pull" .raw (.cons (.var 0) (.cons (.int 12) .nil))) (.int 7)) (.cons (.ret (.call "_law_far" .raw (.cons (.var 0) .nil))) .nil) .nil) (.cons (.ret (.bin false .Sub (.call "_law_pull" .raw (.cons (.var 0) (.cons (.bin false .Add (.var 1) (.int 4)) .nil))) (.int 2))) .nil))⟩
def d_good_seal_e0 : E := (.cmp .In (.glob "GONE" (.int (-1))) (.var 1))
def d_good_seal : Df := ⟨1, 2, (.cons (.iff (.bop .Or (.cons (.not (.call "good_strip" .raw (.cons (.var 0) .nil))) (.cons (.cmp .Gt (.bi false .len (.cons (.var 0) .nil)) (.glob "MOST_COLUMNS" (.int 6))) .nil))) (.cons (.ret (.bl false)) .nil) .nil) (.cons (.ret (.not (.bi false .any (.cons (.lc false [1] (.nm 1) (.seq (.var 0)) .nil d_good_seal_e0) .nil)))) .nil))⟩
def d_law_seal_ok_e0 : E := (.bi false .min (.cons (.var 1) .nil))
def d_law_seal_ok : Df := ⟨1, 2, (.cons (.ret (.bop .And (.cons (.call "_law_strip_ok" .raw (.cons (.var 0) .nil)) (.cons (.cmp .LtE (.bi false .len (.cons (.var 0) .nil)) (.int 6)) (.cons (.cmp .GtE (.bi false .min (.cons (.lc false [1] (.nm 1) (.seq (.var 0)) .nil d_law_seal_ok_e0) .nil)) (.int 0)) .nil))))) .nil)⟩
def d_law_seal_e1 : E := (.call "_law_pull" .raw (.cons (.var 0) (.cons (.var 3) .nil)))
def d_law_seal_e0 : E := (.bi false .tuple (.cons (.lc false [6] (.nm 6) (.rng1 (.var 1)) .nil d_law_seal_e1) .nil))
def d_law_seal : Df := ⟨3, 7, (.cons (.asg (.nm 3) (.ix (.tup (.cons (.int 2) (.cons (.int 3) (.cons (.int 10) .nil)))) (.call "_law_pull" .raw (.cons (.var 0) (.cons (.int 3) .nil))))) (.cons (.asg (.nm 4) (.bin false .Add (.int 1) (.call "_law_pull" .raw (.cons (.var 0) (.cons (.var 2) .nil))))) (.cons (.ret (.bi false .tuple (.cons (.lc false [5] (.nm 5) (.rng1 (.var 4)) .nil d_law_seal_e0) .nil))) .nil)))⟩
def d_print_of_e0 : E := (.ix (.var 0) (.bin false .Mod (.bin false .Add (.var 1) (.var 3)) (.bi false .len (.cons (.var 0) .nil))))
def d_print_of : Df := ⟨3, 4, (.cons (.ret (.bi false .tuple (.cons (.lc false [3] (.nm 3) (.rng1 (.var 2)) .nil d_print_of_e0) .nil))) .nil)⟩
def d_law_print_b0 : Ss := (.cons (.expr (.mth false .append (.var 3) (.cons (.ix (.var 0) (.var 4)) .nil))) (.cons (.asg (.nm 4) (.ife (.cmp .Lt (.bin false .Add (.var 4) (.int 1)) (.bi false .len (.cons (.var 0) .nil))) (.bin false .Add (.var 4) (.int 1)) (.int 0))) .nil))
def d_law_print : Df := ⟨3, 6, (.cons (.asg (.nm 3) (.lst true .nil)) (.cons (.asg (.nm 4) (.var 1)) (.cons (.forS (.nm 5) (.rng1 (.var 2)) d_law_print_b0) (.cons (.ret (.bi false .tuple (.cons (.var 3) .nil))) .nil))))⟩
def d_need_height : Df := ⟨1, 1, (.cons (.iff (.bop .Or (.cons (.cmp .Lt (.var 0) (.int 1)) (.cons (.cmp .Gt (.var 0) (.glob "MOST_ROWS" (.int 3))) .nil))) (.cons (.raiseS "BadHeight" "one to three rows") .nil) .nil) .nil)⟩
def d_need_cell : Df := ⟨3, 3, (.cons (.iff (.bop .Or (.cons (.cmp .Lt (.var 1) (.int 0)) (.cons (.cmp .GtE (.var 1) (.bi false .len (.cons (.var 0) .nil))) (.cons (.cmp .Lt (.var 2) (.int 0)) (.cons (.cmp .GtE (.var 2) (.bi false .len (.cons (.ix (.var 0) (.int 0)) .nil))) .nil))))) (.cons (.raiseS "NoCell" "no cell there") .nil) .nil) .nil)⟩
def d_with_cell : Df := ⟨4, 5, (.cons (.asg (.nm 4) (.bin false .Add (.bin false .Add (.sl false (.ix (.var 0) (.var 1)) .none (.some (.var 2))) (.tup (.cons (.var 3) .nil))) (.sl false (.ix (.var 0) (.var 1)) (.some (.bin false .Add (.var 2) (.int 1))) .none))) (.cons (.ret (.bin false .Add (.bin false .Add (.sl false (.var 0) .none (.some (.var 1))) (.tup (.cons (.var 4) .nil))) (.sl false (.var 0) (.some (.bin false .Add (.var 1) (.int 1))) .none))) .nil))⟩
def d_law_shop : Df := ⟨1, 1, (.cons (.ret (.ddisp [.inr "high", .inr "seals", .inr "strips", .inr "given", .inr "rolls"] [.var 0, .lst, .dk, .int 0, .lst])) .nil)⟩
def d_law_s_cells_e0 : E := (.var 4)
def d_law_s_cells : Df := ⟨2, 5, (.cons (.ret (.bi false .tuple (.cons (.lc false [2, 3, 4] (.tup [2, 3, 4]) (.seq (.ix (.ix (.ix (.var 0) (.str "strips")) (.var 1)) (.int 1))) .nil d_law_s_cells_e0) .nil))) .nil)⟩
def d_law_s_cut : Df := ⟨2, 2, (.cons (.iff (.bop .Or (.cons (.not (.call "_law_seal_ok" .raw (.cons (.var 1) .nil))) (.cons (.cmp .NotEq (.bi false .len (.cons (.ix (.var 1) (.int 0)) .nil)) (.ix (.var 0) (.str "high"))) .nil))) (.cons (.ret (.tup (.cons (.str "BadSeal") (.cons .non .nil)))) .nil) .nil) (.cons (.iff (.cmp .Gt (.bi false .len (.cons (.ix (.var 0) (.str "seals")) .nil)) (.int 5)) (.cons (.ret (.tup (.cons (.str "Full") (.cons .non .nil)))) .nil) .nil) (.cons (.expr (.mth false .append (.ix (.var 0) (.str "seals")) (.cons (.var 1) .nil))) (.cons (.ret (.tup (.cons (.str "") (.cons (.bin false .Sub (.bi false .len (.cons (.ix (.var 0) (.str "seals")) .nil)) (.int 1)) .nil)))) .nil))))⟩
def d_law_s_chip : Df := ⟨4, 5, (.cons (.iff (.not (.chain .LtE .Lt (.int 0) (.var 1) (.bi false .len (.cons (.ix (.var 0) (.str "seals")) .nil)))) (.cons (.ret (.tup (.cons (.str "NoSeal") (.cons .non .nil)))) .nil) .nil) (.cons (.asg (.nm 4) (.ix (.ix (.var 0) (.str "seals")) (.var 1))) (.cons (.iff (.bop .Or (.cons (.not (.chain .LtE .Lt (.int 0) (.var 2) (.bi false .len (.cons (.var 4) .nil)))) (.cons (.not (.chain .LtE .Lt (.int 0) (.var 3) (.bi false .len (.cons (.ix (.var 4) (.int 0)) .nil)))) .nil))) (.cons (.ret (.tup (.cons (.str "NoCell") (.cons .non .nil)))) .nil) .nil) (.cons (.iff (.cmp .Eq (.ix (.ix (.var 4) (.var 2)) (.var 3)) (.int 0)) (.cons (.ret (.tup (.cons (.str "Bare") (.cons .non .nil)))) .nil) .nil) (.cons (.sset (.ix (.var 0) (.str "seals")) (.var 1) (.call "_law_changed" .raw (.cons (.var 4) (.cons (.var 2) (.cons (.var 3) (.cons (.int 0) .nil)))))) (.cons (.ret (.tup (.cons (.str "") (.cons (.ix (.ix (.var 4) (.var 2)) (.var 3)) .nil)))) .nil))))))⟩
def d_law_s_roll_e0 : E := (.tup (.cons (.var 5) (.cons (.var 7) (.cons (.ix (.var 4) (.var 7)) .nil))))
def d_law_s_roll : Df := ⟨4, 8, (.cons (.iff (.not (.chain .LtE .Lt (.int 0) (.var 1) (.bi false .len (.cons (.ix (.var 0) (.str "seals")) .nil)))) (.cons (.ret (.tup (.cons (.str "NoSeal") (.cons .non .nil)))) .nil) .nil) (.cons (.iff (.not (.chain .LtE .Lt (.int 0) (.var 2) (.bi false .len (.cons (.ix (.ix (.var 0) (.str "seals")) (.var 1)) .nil)))) (.cons (.ret (.tup (.cons (.str "BadStart") (.cons .non .nil)))) .nil) .nil) (.cons (.iff (.not (.chain .LtE .LtE (.int 1) (.var 3) (.int 12))) (.cons (.ret (.tup (.cons (.str "BadWidth") (.cons .non .nil)))) .nil) .nil) (.cons (.iff (.cmp .Gt (.ix (.var 0) (.str "given")) (.int 39)) (.cons (.ret (.tup (.cons (.str "Full") (.cons .non .nil)))) .nil) .nil) (.cons (.asg (.nm 4) (.call "_law_print" .cut (.cons (.ix (.ix (.var 0) (.str "seals")) (.var 1)) (.cons (.var 2) (.cons (.var 3) .nil))))) (.cons (.asg (.nm 5) (.bi false .len (.cons (.ix (.var 0) (.str "rolls")) .nil))) (.cons (.expr (.mth false .append (.ix (.var 0) (.str "rolls")) (.cons (.tup (.cons (.var 1) (.cons (.var 2) (.cons (.bi false .len (.cons (.ix (.ix (.var 0) (.str "seals")) (.var 1)) .nil)) .nil)))) .nil))) (.cons (.asg (.nm 6) (.ix (.var 0) (.str "given"))) (.cons (.sset (.var 0) (.str "given") (.bin false .Add (.var 6) (.int 1))) (.cons (.sset (.ix (.var 0) (.str "strips")) (.var 6) (.tup (.cons (.int 0) (.cons (.lc false [7] (.nm 7) (.rng1 (.var 3)) .nil d_law_s_roll_e0) .nil)))) (.cons (.ret (.tup (.cons (.str "") (.cons (.var 6) .nil)))) .nil)))))))))))⟩
def d_law_s_turn_e0 : E := (.tup (.cons (.var 4) (.cons (.var 5) (.cons (.rev false (.var 6)) .nil))))
def d_law_s_turn : Df := ⟨2, 7, (.cons (.iff (.cmp .NotIn (.var 1) (.ix (.var 0) (.str "strips"))) (.cons (.ret (.tup (.cons (.str "NoStrip") (.cons .non .nil)))) .nil) .nil) (.cons (.asg (.tup [2, 3]) (.ix (.ix (.var 0) (.str "strips")) (.var 1))) (.cons (.sset (.ix (.var 0) (.str "strips")) (.var 1) (.tup (.cons (.bin false .Sub (.int 1) (.var 2)) (.cons (.lc false [4, 5, 6] (.tup [4, 5, 6]) (.seq (.rev false (.var 3))) .nil d_law_s_turn_e0) .nil)))) (.cons (.ret (.tup (.cons (.str "") (.cons .non .nil)))) .nil))))⟩
def d_law_s_wear : Df := ⟨4, 10, (.cons (.iff (.cmp .NotIn (.var 1) (.ix (.var 0) (.str "strips"))) (.cons (.ret (.tup (.cons (.str "NoStrip") (.cons .non .nil)))) .nil) .nil) (.cons (.asg (.tup [5, 6]) (.ix (.ix (.var 0) (.str "strips")) (.var 1))) (.cons (.iff (.bop .Or (.cons (.not (.chain .LtE .Lt (.int 0) (.var 2) (.bi false .len (.cons (.var 6) .nil)))) (.cons (.not (.chain .LtE .Lt (.int 0) (.var 3) (.ix (.var 0) (.str "high")))) .nil))) (.cons (.ret (.tup (.cons (.str "NoCell") (.cons .non .nil)))) .nil) .nil) (.cons (.asg (.tup [7, 8, 9]) (.ix (.var 6) (.var 2))) (.cons (.iff (.cmp .Lt (.ix (.var 9) (.var 3)) (.int 0)) (.cons (.ret (.tup (.cons (.str "Lost") (.cons .non .nil)))) .nil) .nil) (.cons (.asg (.nm 4) (.tup (.cons (.var 7) (.cons (.var 8) (.cons (.bin false .Add (.bin false .Add (.sl false (.var 9) .none (.some (.var 3))) (.tup (.cons (.neg (.int 1)) .nil))) (.sl false (.var 9) (.some (.bin false .Add (.var 3) (.int 1))) .none)) .nil))))) (.cons (.sset (.ix (.var 0) (.str "strips")) (.var 1) (.tup (.cons (.var 5) (.cons (.bin false .Add (.bin false .Add (.sl false (.var 6) .none (.some (.var 2))) (.lst false (.cons (.var 4) .nil))) (.sl false (.var 6) (.some (.bin false .Add (.var 2) (.int 1))) .none)) .nil)))) (.cons (.ret (.tup (.cons (.str "") (.cons (.ix (.var 9) (.var 3)) .nil)))) .nil))))))))⟩
def d_law_s_snap : Df := ⟨3, 6, (.cons (.iff (.cmp .NotIn (.var 1) (.ix (.var 0) (.str "strips"))) (.cons (.ret (.tup (.cons (.str "NoStrip") (.cons .non .nil)))) .nil) .nil) (.cons (.asg (.tup [4, 5]) (.ix (.ix (.var 0) (.str "strips")) (.var 1))) (.cons (.iff (.not (.chain .LtE .Lt (.int 1) (.var 2) (.bi false .len (.cons (.var 5) .nil)))) (.cons (.ret (.tup (.cons (.str "BadWidth") (.cons .non .nil)))) .nil) .nil) (.cons (.iff (.cmp .Gt (.ix (.var 0) (.str "given")) (.int 39)) (.cons (.ret (.tup (.cons (.str "Full") (.cons .non .nil)))) .nil) .nil) (.cons (.asg (.nm 3) (.ix (.var 0) (.str "given"))) (.cons (.sset (.var 0) (.str "given") (.bin false .Add (.var 3) (.int 1))) (.cons (.sset (.ix (.var 0) (.str "strips")) (.var 1) (.tup (.cons (.var 4) (.cons (.sl false (.var 5) .none (.some (.var 2))) .nil)))) (.cons (.sset (.ix (.var 0) (.str "strips")) (.var 3) (.tup (.cons (.var 4) (.cons (.sl false (.var 5) (.some (.var 2)) .none) .nil)))) (.cons (.ret (.tup (.cons (.str "") (.cons (.var 3) .nil)))) .nil)))))))))⟩
def d_law_s_join : Df := ⟨3, 7, (.cons (.iff (.bop .Or (.cons (.cmp .NotIn (.var 1) (.ix (.var 0) (.str "strips"))) (.cons (.cmp .NotIn (.var 2) (.ix (.var 0) (.str "strips"))) .nil))) (.cons (.ret (.tup (.cons (.str "NoStrip") (.cons .non .nil)))) .nil) .nil) (.cons (.iff (.cmp .Eq (.var 1) (.var 2)) (.cons (.ret (.tup (.cons (.str "SameOne") (.cons .non .nil)))) .nil) .nil) (.cons (.asg (.tup [3, 4]) (.ix (.ix (.var 0) (.str "strips")) (.var 1))) (.cons (.asg (.tup [5, 6]) (.ix (.ix (.var 0) (.str "strips")) (.var 2))) (.cons (.iff (.bop .Or (.cons (.cmp .NotEq (.var 3) (.var 5)) (.cons (.cmp .NotEq (.ix (.ix (.var 4) (.neg (.int 1))) (.int 0)) (.ix (.ix (.var 6) (.int 0)) (.int 0))) (.cons (.cmp .NotEq (.bin false .Sub (.bin false .Add (.ix (.ix (.var 4) (.neg (.int 1))) (.int 1)) (.int 1)) (.bin false .Mult (.int 2) (.var 3))) (.ix (.ix (.var 6) (.int 0)) (.int 1))) .nil)))) (.cons (.ret (.tup (.cons (.str "NotPieces") (.cons .non .nil)))) .nil) .nil) (.cons (.sset (.ix (.var 0) (.str "strips")) (.var 1) (.tup (.cons (.var 3) (.cons (.bin false .Add (.var 4) (.var 6)) .nil)))) (.cons (.expr (.mth false .dpop (.ix (.var 0) (.str "strips")) (.cons (.var 2) .nil))) (.cons (.ret (.tup (.cons (.str "") (.cons .non .nil)))) .nil))))))))⟩
def d_law_s_do : Df := ⟨2, 4, (.cons (.asg (.nm 2) (.ix (.var 1) (.int 0))) (.cons (.iff (.cmp .Eq (.var 2) (.str "cut")) (.cons (.ret (.call "_law_s_cut" .raw (.cons (.var 0) (.cons (.ix (.var 1) (.int 1)) .nil)))) .nil) .nil) (.cons (.iff (.cmp .Eq (.var 2) (.str "chip")) (.cons (.ret (.call "_law_s_chip" .raw (.cons (.var 0) (.cons (.ix (.var 1) (.int 1)) (.cons (.ix (.var 1) (.int 2)) (.cons (.ix (.var 1) (.int 3)) .nil)))))) .nil) .nil) (.cons (.iff (.cmp .Eq (.var 2) (.str "roll")) (.cons (.ret (.call "_law_s_roll" .raw (.cons (.var 0) (.cons (.ix (.var 1) (.int 1)) (.cons (.ix (.var 1) (.int 2)) (.cons (.ix (.var 1) (.int 3)) .nil)))))) .nil) .nil) (.cons (.iff (.cmp .Eq (.var 2) (.str "turn")) (.cons (.ret (.call "_law_s_turn" .raw (.cons (.var 0) (.cons (.ix (.var 1) (.int 1)) .nil)))) .nil) .nil) (.cons (.iff (.cmp .Eq (.var 2) (.str "wear")) (.cons (.ret (.call "_law_s_wear" .raw (.cons (.var 0) (.cons (.ix (.var 1) (.int 1)) (.cons (.ix (.var 1) (.int 2)) (.cons (.ix (.var 1) (.int 3)) .nil)))))) .nil) .nil) (.cons (.iff (.cmp .Eq (.var 2) (.str "snap")) (.cons (.ret (.call "_law_s_snap" .raw (.cons (.var 0) (.cons (.ix (.var 1) (.int 1)) (.cons (.ix (.var 1) (.int 2)) .nil))))) .nil) .nil) (.cons (.iff (.cmp .Eq (.var 2) (.str "join")) (.cons (.ret (.call "_law_s_join" .raw (.cons (.var 0) (.cons (.ix (.var 1) (.int 1)) (.cons (.ix (.var 1) (.int 2)) .nil))))) .nil) .nil) (.cons (.iff (.cmp .NotIn (.ix (.var 1) (.int 1)) (.ix (.var 0) (.str "strips"))) (.cons (.ret (.tup (.cons (.str "NoStrip") (.cons .non .nil)))) .nil) .nil) (.cons (.asg (.nm 3) (.call "_law_s_cells" .raw (.cons (.var 0) (.cons (.ix (.var 1) (.int 1)) .nil)))) (.cons (.expr (.mth false .dpop (.ix (.var 0) (.str "strips")) (.cons (.ix (.var 1) (.int 1)) .nil))) (.cons (.ret (.tup (.cons (.str "") (.cons (.var 3) .nil)))) .nil))))))))))))⟩
def d_Shop___init__ : Df := ⟨2, 2, (.cons (.expr (.call "need_height" .raw (.cons (.var 1) .nil))) (.cons (.fset "Shop" (.var 0) "height" 0 (.var 1)) (.cons (.fset "Shop" (.var 0) "rack" 1 (.lst true .nil)) (.cons (.fset "Shop" (.var 0) "shelf" 2 (.dnew false)) (.cons (.fset "Shop" (.var 0) "given" 3 (.int 0)) (.cons (.fset "Shop" (.var 0) "turns" 4 (.int 0)) .nil))))))⟩
def d_Shop_need_seal : Df := ⟨2, 2, (.cons (.iff (.bop .Or (.cons (.cmp .Lt (.var 1) (.int 0)) (.cons (.cmp .GtE (.var 1) (.bi false .len (.cons (.fld (.var 0) "rack" 1) .nil))) .nil))) (.cons (.raiseS "NoSeal" "no such seal") .nil) .nil) .nil)⟩
def d_Shop_need_strip : Df := ⟨2, 2, (.cons (.iff (.cmp .NotIn (.var 1) (.fld (.var 0) "shelf" 2)) (.cons (.raiseS "NoStrip" "no such strip") .nil) .nil) .nil)⟩
def d_Shop_add : Df := ⟨2, 2, (.cons (.iff (.cmp .GtE (.fld (.var 0) "given" 3) (.glob "MOST_ROLLED" (.int 40))) (.cons (.raiseS "Full" "no more strips") .nil) .nil) (.cons (.sset (.fld (.var 0) "shelf" 2) (.fld (.var 0) "given" 3) (.var 1)) (.cons (.faug "Shop" (.var 0) "given" 3 1) (.cons (.ret (.bin false .Sub (.fld (.var 0) "given" 3) (.int 1))) .nil))))⟩
def d_Shop_cut : Df := ⟨2, 2, (.cons (.iff (.bop .Or (.cons (.not (.call "good_seal" .raw (.cons (.var 1) .nil))) (.cons (.cmp .NotEq (.bi false .len (.cons (.ix (.var 1) (.int 0)) .nil)) (.fld (.var 0) "height" 0)) .nil))) (.cons (.raiseS "BadSeal" "no seal of this height") .nil) .nil) (.cons (.iff (.cmp .GtE (.bi false .len (.cons (.fld (.var 0) "rack" 1) .nil)) (.glob "MOST_SEALS" (.int 6))) (.cons (.raiseS "Full" "no more seals") .nil) .nil) (.cons (.expr (.mth false .append (.fld (.var 0) "rack" 1) (.cons (.var 1) .nil))) (.cons (.ret (.bin false .Sub (.bi false .len (.cons (.fld (.var 0) "rack" 1) .nil)) (.int 1))) .nil))))⟩
def d_Shop_chip : Df := ⟨4, 5, (.cons (.expr (.meth "Shop" "need_seal" "Shop.need_seal" .raw (.var 0) (.cons (.var 1) .nil))) (.cons (.expr (.call "need_cell" .raw (.cons (.ix (.fld (.var 0) "rack" 1) (.var 1)) (.cons (.var 2) (.cons (.var 3) .nil))))) (.cons (.asg (.nm 4) (.ix (.ix (.ix (.fld (.var 0) "rack" 1) (.var 1)) (.var 2)) (.var 3))) (.cons (.iff (.cmp .Eq (.var 4) (.int 0)) (.cons (.raiseS "Bare" "there is no sign") .nil) .nil) (.cons (.sset (.fld (.var 0) "rack" 1) (.var 1) (.call "with_cell" .raw (.cons (.ix (.fld (.var 0) "rack" 1) (.var 1)) (.cons (.var 2) (.cons (.var 3) (.cons (.int 0) .nil)))))) (.cons (.ret (.var 4)) .nil))))))⟩
def d_Shop_roll : Df := ⟨4, 6, (.cons (.expr (.meth "Shop" "need_seal" "Shop.need_seal" .raw (.var 0) (.cons (.var 1) .nil))) (.cons (.iff (.bop .Or (.cons (.cmp .Lt (.var 2) (.int 0)) (.cons (.cmp .GtE (.var 2) (.bi false .len (.cons (.ix (.fld (.var 0) "rack" 1) (.var 1)) .nil))) .nil))) (.cons (.raiseS "BadStart" "no such column") .nil) .nil) (.cons (.iff (.bop .Or (.cons (.cmp .Lt (.var 3) (.int 1)) (.cons (.cmp .Gt (.var 3) (.glob "MOST_WIDE" (.int 12))) .nil))) (.cons (.raiseS "BadWidth" "one to twelve columns") .nil) .nil) (.cons (.asg (.nm 4) (.tup (.cons (.fld (.var 0) "turns" 4) (.cons (.var 1) (.cons (.var 2) (.cons (.bi false .len (.cons (.ix (.fld (.var 0) "rack" 1) (.var 1)) .nil)) .nil)))))) (.cons (.asg (.nm 5) (.meth "Shop" "add" "Shop.add" .raw (.var 0) (.cons (.tup (.cons (.call "print_of" .raw (.cons (.ix (.fld (.var 0) "rack" 1) (.var 1)) (.cons (.var 2) (.cons (.var 3) .nil)))) (.cons (.var 4) (.cons (.int 0) (.cons (.int 0) .nil))))) .nil))) (.cons (.faug "Shop" (.var 0) "turns" 4 1) (.cons (.ret (.var 5)) .nil)))))))⟩
def d_Shop_turn : Df := ⟨2, 6, (.cons (.expr (.meth "Shop" "need_strip" "Shop.need_strip" .raw (.var 0) (.cons (.var 1) .nil))) (.cons (.asg (.tup [2, 3, 4, 5]) (.ix (.fld (.var 0) "shelf" 2) (.var 1))) (.cons (.sset (.fld (.var 0) "shelf" 2) (.var 1) (.tup (.cons (.call "about" .raw (.cons (.var 2) .nil)) (.cons (.var 3) (.cons (.var 4) (.cons (.bin false .Sub (.int 1) (.var 5)) .nil)))))) .nil)))⟩
def d_Shop_wear : Df := ⟨4, 9, (.cons (.expr (.meth "Shop" "need_strip" "Shop.need_strip" .raw (.var 0) (.cons (.var 1) .nil))) (.cons (.asg (.tup [5, 6, 7, 8]) (.ix (.fld (.var 0) "shelf" 2) (.var 1))) (.cons (.expr (.call "need_cell" .raw (.cons (.var 5) (.cons (.var 2) (.cons (.var 3) .nil))))) (.cons (.asg (.nm 4) (.ix (.ix (.var 5) (.var 2)) (.var 3))) (.cons (.iff (.cmp .Eq (.var 4) (.glob "GONE" (.int (-1)))) (.cons (.raiseS "Lost" "it is lost") .nil) .nil) (.cons (.sset (.fld (.var 0) "shelf" 2) (.var 1) (.tup (.cons (.call "with_cell" .raw (.cons (.var 5) (.cons (.var 2) (.cons (.var 3) (.cons (.glob "GONE" (.int (-1))) .nil))))) (.cons (.var 6) (.cons (.var 7) (.cons (.var 8) .nil)))))) (.cons (.ret (.var 4)) .nil)))))))⟩
def d_Shop_snap : Df := ⟨3, 10, (.cons (.expr (.meth "Shop" "need_strip" "Shop.need_strip" .raw (.var 0) (.cons (.var 1) .nil))) (.cons (.asg (.tup [3, 4, 5, 6]) (.ix (.fld (.var 0) "shelf" 2) (.var 1))) (.cons (.asg (.tup [7, 8]) (.call "parts" .raw (.cons (.var 3) (.cons (.var 2) .nil)))) (.cons (.iff (.cmp .Eq (.var 6) (.int 0)) (.cons (.asg (.nm 9) (.meth "Shop" "add" "Shop.add" .raw (.var 0) (.cons (.tup (.cons (.var 8) (.cons (.var 4) (.cons (.bin false .Add (.var 5) (.var 2)) (.cons (.var 6) .nil))))) .nil))) (.cons (.sset (.fld (.var 0) "shelf" 2) (.var 1) (.tup (.cons (.var 7) (.cons (.var 4) (.cons (.var 5) (.cons (.var 6) .nil)))))) .nil)) (.cons (.asg (.nm 9) (.meth "Shop" "add" "Shop.add" .raw (.var 0) (.cons (.tup (.cons (.var 8) (.cons (.var 4) (.cons (.var 5) (.cons (.var 6) .nil))))) .nil))) (.cons (.sset (.fld (.var 0) "shelf" 2) (.var 1) (.tup (.cons (.var 7) (.cons (.var 4) (.cons (.bin false .Add (.var 5) (.bi false .len (.cons (.var 8) .nil))) (.cons (.var 6) .nil)))))) .nil))) (.cons (.ret (.var 9)) .nil)))))⟩
def d_Shop_join : Df := ⟨3, 11, (.cons (.expr (.meth "Shop" "need_strip" "Shop.need_strip" .raw (.var 0) (.cons (.var 1) .nil))) (.cons (.expr (.meth "Shop" "need_strip" "Shop.need_strip" .raw (.var 0) (.cons (.var 2) .nil))) (.cons (.iff (.cmp .Eq (.var 1) (.var 2)) (.cons (.raiseS "SameOne" "one strip") .nil) .nil) (.cons (.asg (.tup [3, 4, 5, 6]) (.ix (.fld (.var 0) "shelf" 2) (.var 1))) (.cons (.asg (.tup [7, 8, 9, 10]) (.ix (.fld (.var 0) "shelf" 2) (.var 2))) (.cons (.iff (.bop .Or (.cons (.cmp .NotEq (.var 4) (.var 8)) (.cons (.cmp .NotEq (.var 6) (.var 10)) .nil))) (.cons (.raiseS "NotPieces" "of unlike rollings, or unlike ways") .nil) .nil) (.cons (.iff (.bop .Or (.cons (.bop .And (.cons (.cmp .Eq (.var 6) (.int 0)) (.cons (.cmp .NotEq (.bin false .Add (.var 5) (.bi false .len (.cons (.var 3) .nil))) (.var 9)) .nil))) (.cons (.bop .And (.cons (.cmp .Eq (.var 6) (.int 1)) (.cons (.cmp .NotEq (.bin false .Add (.var 9) (.bi false .len (.cons (.var 7) .nil))) (.var 5)) .nil))) .nil))) (.cons (.raiseS "NotPieces" "no neighbours") .nil) .nil) (.cons (.sset (.fld (.var 0) "shelf" 2) (.var 1) (.tup (.cons (.bin false .Add (.var 3) (.var 7)) (.cons (.var 4) (.cons (.bi false .min (.cons (.var 5) (.cons (.var 9) .nil))) (.cons (.var 6) .nil)))))) (.cons (.expr (.mth false .dpop (.fld (.var 0) "shelf" 2) (.cons (.var 2) .nil))) .nil)))))))))⟩
def d_Shop_lose : Df := ⟨2, 2, (.cons (.expr (.meth "Shop" "need_strip" "Shop.need_strip" .raw (.var 0) (.cons (.var 1) .nil))) (.cons (.ret (.ix (.mth false .dpop (.fld (.var 0) "shelf" 2) (.cons (.var 1) .nil)) (.int 0))) .nil))⟩
def d_Shop_seal : Df := ⟨2, 2, (.cons (.expr (.meth "Shop" "need_seal" "Shop.need_seal" .raw (.var 0) (.cons (.var 1) .nil))) (.cons (.ret (.ix (.fld (.var 0) "rack" 1) (.var 1))) .nil))⟩
def d_Shop_strip : Df := ⟨2, 2, (.cons (.expr (.meth "Shop" "need_strip" "Shop.need_strip" .raw (.var 0) (.cons (.var 1) .nil))) (.cons (.ret (.ix (.ix (.fld (.var 0) "shelf" 2) (.var 1)) (.int 0))) .nil))⟩
def d_law_number_of : Df := ⟨2, 2, (.cons (.iff (.bop .Or (.cons (.cmp .Eq (.bi false .len (.cons (.var 1) .nil)) (.int 0)) (.cons (.cmp .Eq (.call "_law_pull" .raw (.cons (.var 0) (.cons (.int 10) .nil))) (.int 4)) .nil))) (.cons (.ret (.call "_law_near" .raw (.cons (.var 0) (.cons (.bin false .Add (.int 3) (.bi false .len (.cons (.var 1) .nil))) .nil)))) .nil) .nil) (.cons (.ret (.ix (.var 1) (.call "_law_pull" .raw (.cons (.var 0) (.cons (.bi false .len (.cons (.var 1) .nil)) .nil))))) .nil))⟩
def d_law_s_copy : Df := ⟨1, 2, (.cons (.asg (.nm 1) (.bi true .dict (.cons (.var 0) .nil))) (.cons (.sset (.var 1) (.str "seals") (.bi true .list (.cons (.ix (.var 0) (.str "seals")) .nil))) (.cons (.sset (.var 1) (.str "strips") (.bi true .dict (.cons (.ix (.var 0) (.str "strips")) .nil))) (.cons (.sset (.var 1) (.str "rolls") (.bi true .list (.cons (.ix (.var 0) (.str "rolls")) .nil))) (.cons (.ret (.var 1)) .nil)))))⟩
def d_law_two_pieces_b1 : Ss := (.cons (.iff (.bop .And (.cons (.cmp .NotEq (.var 3) (.var 4)) (.cons (.cmp .Eq (.call "_law_pull" .raw (.cons (.var 0) (.cons (.int 2) .nil))) (.int 0)) .nil))) (.cons (.iff (.cmp .Eq (.ix (.call "_law_s_join" .raw (.cons (.call "_law_s_copy" .raw (.cons (.var 1) .nil)) (.cons (.var 3) (.cons (.var 4) .nil)))) (.int 0)) (.str "")) (.cons (.ret (.tup (.cons (.var 3) (.cons (.var 4) .nil)))) .nil) .nil) .nil) .nil) .nil)
def d_law_two_pieces_b0 : Ss := (.cons (.forS (.nm 4) (.seq (.var 2)) d_law_two_pieces_b1) .nil)
def d_law_two_pieces : Df := ⟨2, 5, (.cons (.asg (.nm 2) (.bi false .sorted (.cons (.bi false .list (.cons (.ix (.var 1) (.str "strips")) .nil)) .nil))) (.cons (.forS (.nm 3) (.seq (.var 2)) d_law_two_pieces_b0) (.cons (.ret (.tup (.cons (.call "_law_number_of" .raw (.cons (.var 0) (.cons (.var 2) .nil))) (.cons (.call "_law_number_of" .raw (.cons (.var 0) (.cons (.var 2) .nil))) .nil)))) .nil)))⟩
def d_law_deed : Df := ⟨2, 10, (.cons (.asg (.nm 2) (.call "_law_pull" .raw (.cons (.var 0) (.cons (.int 22) .nil)))) (.cons (.asg (.nm 3) (.bi false .sorted (.cons (.bi false .list (.cons (.ix (.var 1) (.str "strips")) .nil)) .nil))) (.cons (.iff (.bop .Or (.cons (.cmp .Eq (.bi false .len (.cons (.ix (.var 1) (.str "seals")) .nil)) (.int 0)) (.cons (.cmp .Eq (.var 2) (.int 0)) .nil))) (.cons (.ret (.tup (.cons (.str "cut") (.cons (.call "_law_odd_columns" .raw (.cons (.var 0) (.cons (.call "_law_seal" .raw (.cons (.var 0) (.cons (.ix (.var 1) (.str "high")) (.cons (.int 6) .nil)))) .nil))) .nil)))) .nil) .nil) (.cons (.asg (.nm 4) (.call "_law_number_of" .raw (.cons (.var 0) (.cons (.lrange1 false (.bi false .len (.cons (.ix (.var 1) (.str "seals")) .nil))) .nil)))) (.cons (.iff (.cmp .Lt (.var 2) (.int 3)) (.cons (.ret (.tup (.cons (.str "chip") (.cons (.var 4) (.cons (.call "_law_near" .raw (.cons (.var 0) (.cons (.int 3) .nil))) (.cons (.call "_law_near" .raw (.cons (.var 0) (.cons (.ix (.var 1) (.str "high")) .nil))) .nil)))))) .nil) .nil) (.cons (.iff (.bop .Or (.cons (.cmp .Lt (.var 2) (.int 8)) (.cons (.cmp .Eq (.bi false .len (.cons (.var 3) .nil)) (.int 0)) .nil))) (.cons (.asg (.nm 7) (.ife (.chain .LtE .Lt (.int 0) (.var 4) (.bi false .len (.cons (.ix (.var 1) (.str "seals")) .nil))) (.bi false .len (.cons (.ix (.ix (.var 1) (.str "seals")) (.var 4)) .nil)) (.int 1))) (.cons (.asg (.nm 8) (.ife (.cmp .Gt (.call "_law_pull" .raw (.cons (.var 0) (.cons (.int 8) .nil))) (.int 0)) (.call "_law_pull" .raw (.cons (.var 0) (.cons (.var 7) .nil))) (.call "_law_near" .raw (.cons (.var 0) (.cons (.var 7) .nil))))) (.cons (.asg (.nm 6) (.ife (.cmp .Gt (.call "_law_pull" .raw (.cons (.var 0) (.cons (.int 8) .nil))) (.int 0)) (.bin false .Add (.int 1) (.call "_law_pull" .raw (.cons (.var 0) (.cons (.int 12) .nil)))) (.call "_law_near" .raw (.cons (.var 0) (.cons (.int 13) .nil))))) (.cons (.ret (.tup (.cons (.str "roll") (.cons (.var 4) (.cons (.var 8) (.cons (.var 6) .nil)))))) .nil)))) .nil) (.cons (.asg (.nm 5) (.call "_law_number_of" .raw (.cons (.var 0) (.cons (.var 3) .nil)))) (.cons (.asg (.nm 6) (.ife (.cmp .In (.var 5) (.ix (.var 1) (.str "strips"))) (.bi false .len (.cons (.ix (.ix (.ix (.var 1) (.str "strips")) (.var 5)) (.int 1)) .nil)) (.int 1))) (.cons (.iff (.cmp .Lt (.var 2) (.int 11)) (.cons (.ret (.tup (.cons (.str "turn") (.cons (.var 5) .nil)))) .nil) .nil) (.cons (.iff (.cmp .Lt (.var 2) (.int 14)) (.cons (.ret (.tup (.cons (.str "wear") (.cons (.var 5) (.cons (.call "_law_near" .raw (.cons (.var 0) (.cons (.var 6) .nil))) (.cons (.call "_law_near" .raw (.cons (.var 0) (.cons (.ix (.var 1) (.str "high")) .nil))) .nil)))))) .nil) .nil) (.cons (.iff (.cmp .Lt (.var 2) (.int 18)) (.cons (.ret (.tup (.cons (.str "snap") (.cons (.var 5) (.cons (.bin false .Add (.int 1) (.call "_law_pull" .raw (.cons (.var 0) (.cons (.var 6) .nil)))) .nil))))) .nil) .nil) (.cons (.iff (.cmp .Lt (.var 2) (.int 21)) (.cons (.asg (.nm 9) (.call "_law_two_pieces" .raw (.cons (.var 0) (.cons (.var 1) .nil)))) (.cons (.ret (.tup (.cons (.str "join") (.cons (.ix (.var 9) (.int 0)) (.cons (.ix (.var 9) (.int 1)) .nil))))) .nil)) .nil) (.cons (.ret (.tup (.cons (.str "lose") (.cons (.var 5) .nil)))) .nil)))))))))))))⟩
def d_law_odd_columns_e0 : E := (.bin false .Add (.var 4) (.tup (.cons (.int 0) .nil)))
def d_law_odd_columns : Df := ⟨2, 5, (.cons (.asg (.nm 2) (.bi false .tuple (.cons (.lc false [4] (.nm 4) (.seq (.var 1)) .nil d_law_odd_columns_e0) .nil))) (.cons (.asg (.nm 3) (.lst false (.cons (.var 1) (.cons (.bin false .Add (.var 1) (.var 1)) (.cons (.bin false .Add (.sl false (.var 1) .none (.some (.int 1))) (.tup (.cons (.bin false .Mult (.tup (.cons (.int 9) .nil)) (.int 4)) .nil))) (.cons (.var 2) (.cons (.sl false (.var 1) (.some (.int 1)) .none) .nil))))))) (.cons (.ret (.ix (.var 3) (.bi false .max (.cons (.int 0) (.cons (.bin false .Sub (.call "_law_pull" .raw (.cons (.var 0) (.cons (.int 14) .nil))) (.int 9)) .nil))))) .nil)))⟩
def d_law_same_end : Df := ⟨2, 2, (.cons (.ret (.bop .And (.cons (.cmp .Eq (.cmp .Eq (.ix (.var 0) (.int 0)) (.str "")) (.cmp .Eq (.ix (.var 1) (.int 0)) (.str ""))) (.cons (.call "_law_like" .raw (.cons (.ix (.var 0) (.int 1)) (.cons (.ix (.var 1) (.int 1)) .nil))) .nil)))) .nil)⟩
def d_Shop_twin : Df := ⟨1, 2, (.cons (.asg (.nm 1) (.call "Shop" .raw (.cons (.fld (.var 0) "height" 0) .nil))) (.cons (.fset "Shop" (.var 1) "rack" 1 (.bi true .list (.cons (.fld (.var 0) "rack" 1) .nil))) (.cons (.fset "Shop" (.var 1) "shelf" 2 (.bi true .dict (.cons (.fld (.var 0) "shelf" 2) .nil))) (.cons (.fset "Shop" (.var 1) "given" 3 (.fld (.var 0) "given" 3)) (.cons (.fset "Shop" (.var 1) "turns" 4 (.fld (.var 0) "turns" 4)) (.cons (.ret (.var 1)) .nil))))))⟩
def d_look_deed : Df := ⟨1, 1, (.cons (.iff (.bop .Or (.cons (.cmp .Eq (.bi false .len (.cons (.var 0) .nil)) (.int 0)) (.cons (.gdin true (.ix (.var 0) (.int 0)) "LENGTHS" [("cut", 2), ("chip", 4), ("roll", 4), ("turn", 2), ("wear", 4), ("snap", 3), ("join", 3), ("lose", 2)]) (.cons (.cmp .NotEq (.bi false .len (.cons (.var 0) .nil)) (.gdix "LENGTHS" [("cut", 2), ("chip", 4), ("roll", 4), ("turn", 2), ("wear", 4), ("snap", 3), ("join", 3), ("lose", 2)] (.ix (.var 0) (.int 0)))) .nil)))) (.cons (.raiseS "BadDeed" "no deed") .nil) .nil) .nil)⟩
def d_done_in : Df := ⟨2, 3, (.cons (.asg (.nm 2) (.ix (.var 1) (.int 0))) (.cons (.iff (.cmp .Eq (.var 2) (.str "cut")) (.cons (.ret (.meth "Shop" "cut" "Shop.cut" .raw (.var 0) (.cons (.ix (.var 1) (.int 1)) .nil))) .nil) .nil) (.cons (.iff (.cmp .Eq (.var 2) (.str "chip")) (.cons (.ret (.meth "Shop" "chip" "Shop.chip" .raw (.var 0) (.cons (.ix (.var 1) (.int 1)) (.cons (.ix (.var 1) (.int 2)) (.cons (.ix (.var 1) (.int 3)) .nil))))) .nil) .nil) (.cons (.iff (.cmp .Eq (.var 2) (.str "roll")) (.cons (.ret (.meth "Shop" "roll" "Shop.roll" .raw (.var 0) (.cons (.ix (.var 1) (.int 1)) (.cons (.ix (.var 1) (.int 2)) (.cons (.ix (.var 1) (.int 3)) .nil))))) .nil) .nil) (.cons (.iff (.cmp .Eq (.var 2) (.str "turn")) (.cons (.ret (.meth "Shop" "turn" "Shop.turn" .raw (.var 0) (.cons (.ix (.var 1) (.int 1)) .nil))) .nil) .nil) (.cons (.iff (.cmp .Eq (.var 2) (.str "wear")) (.cons (.ret (.meth "Shop" "wear" "Shop.wear" .raw (.var 0) (.cons (.ix (.var 1) (.int 1)) (.cons (.ix (.var 1) (.int 2)) (.cons (.ix (.var 1) (.int 3)) .nil))))) .nil) .nil) (.cons (.iff (.cmp .Eq (.var 2) (.str "snap")) (.cons (.ret (.meth "Shop" "snap" "Shop.snap" .raw (.var 0) (.cons (.ix (.var 1) (.int 1)) (.cons (.ix (.var 1) (.int 2)) .nil)))) .nil) .nil) (.cons (.iff (.cmp .Eq (.var 2) (.str "join")) (.cons (.ret (.meth "Shop" "join" "Shop.join" .raw (.var 0) (.cons (.ix (.var 1) (.int 1)) (.cons (.ix (.var 1) (.int 2)) .nil)))) .nil) .nil) (.cons (.ret (.meth "Shop" "lose" "Shop.lose" .raw (.var 0) (.cons (.ix (.var 1) (.int 1)) .nil))) .nil)))))))))⟩
def d_law_journal_do : Df := ⟨2, 2, (.cons (.tryS (.cons (.ret (.lst false (.cons (.str "") (.cons (.meth "Journal" "do" "Journal.do" .raw (.var 0) (.cons (.var 1) .nil)) .nil)))) .nil) (.cons "ClayError" (.cons (.ret (.lst false (.cons (.str "refused") (.cons .non .nil)))) .nil) .nil)) .nil)⟩
def d_Journal___init__ : Df := ⟨2, 2, (.cons (.fset "Journal" (.var 0) "present" 0 (.call "Shop" .raw (.cons (.var 1) .nil))) (.cons (.fset "Journal" (.var 0) "high" 1 (.var 1)) (.cons (.fset "Journal" (.var 0) "earlier" 2 (.lst true .nil)) (.cons (.fset "Journal" (.var 0) "rows" 3 (.lst true .nil)) (.cons (.fset "Journal" (.var 0) "undone" 4 (.lst true .nil)) .nil)))))⟩
def d_Journal_done_now : Df := ⟨2, 4, (.cons (.asg (.nm 2) (.meth "Shop" "twin" "Shop.twin" .raw (.fld (.var 0) "present" 0) .nil)) (.cons (.asg (.nm 3) (.call "done_in" .raw (.cons (.fld (.var 0) "present" 0) (.cons (.var 1) .nil)))) (.cons (.expr (.mth false .append (.fld (.var 0) "earlier" 2) (.cons (.var 2) .nil))) (.cons (.expr (.mth false .append (.fld (.var 0) "rows" 3) (.cons (.var 1) .nil))) (.cons (.ret (.var 3)) .nil)))))⟩
def d_Journal_do : Df := ⟨2, 3, (.cons (.expr (.call "look_deed" .raw (.cons (.var 1) .nil))) (.cons (.asg (.nm 2) (.meth "Journal" "done_now" "Journal.done_now" .raw (.var 0) (.cons (.var 1) .nil))) (.cons (.fset "Journal" (.var 0) "undone" 4 (.lst true .nil)) (.cons (.ret (.var 2)) .nil))))⟩
def d_Journal_shop : Df := ⟨1, 1, (.cons (.ret (.meth "Shop" "twin" "Shop.twin" .raw (.fld (.var 0) "present" 0) .nil)) .nil)⟩
def d_Journal_back : Df := ⟨1, 1, (.cons (.iff (.cmp .Eq (.bi false .len (.cons (.fld (.var 0) "rows" 3) .nil)) (.int 0)) (.cons (.raiseS "Nothing" "nothing to take back") .nil) .nil) (.cons (.fset "Journal" (.var 0) "present" 0 (.mth true .pop (.fld (.var 0) "earlier" 2) .nil)) (.cons (.expr (.mth false .append (.fld (.var 0) "undone" 4) (.cons (.mth false .pop (.fld (.var 0) "rows" 3) .nil) .nil))) (.cons (.ret (.ix (.fld (.var 0) "undone" 4) (.neg (.int 1)))) .nil))))⟩
def d_law_no_pieces : Df := ⟨3, 3, (.cons (.tryS (.cons (.expr (.meth "Shop" "join" "Shop.join" .raw (.var 0) (.cons (.var 1) (.cons (.var 2) .nil)))) .nil) (.cons "NotPieces" (.cons (.ret (.bl true)) .nil) .nil)) (.cons (.ret (.bl false)) .nil))⟩
def d_law_apart_e6 : E := (.meth "Shop" "strip" "Shop.strip" .raw (.var 0) (.cons (.ix (.var 8) (.int 0)) .nil))
def d_law_apart_e5 : E := (.call "_law_turned" .raw (.cons (.var 13) .nil))
def d_law_apart_b4 : Ss := (.cons (.expr (.meth "Shop" "join" "Shop.join" .raw (.var 0) (.cons (.ix (.var 8) (.int 0)) (.cons (.ix (.var 8) (.int 1)) .nil)))) .nil)
def d_law_apart_b3 : Ss := (.cons (.iff (.not (.call "_law_no_pieces" .raw (.cons (.var 0) (.cons (.var 11) (.cons (.var 12) .nil))))) (.cons (.ret (.bl false)) .nil) .nil) .nil)
def d_law_apart_e2 : E := (.rev false (.var 8))
def d_law_apart_e1 : E := (.rev false (.var 8))
def d_law_apart_b0 : Ss := (.cons (.expr (.meth "Shop" "turn" "Shop.turn" .raw (.var 0) (.cons (.var 10) .nil))) .nil)
def d_law_apart : Df := ⟨5, 14, (.cons (.asg (.nm 5) (.lst false (.cons (.meth "Shop" "strip" "Shop.strip" .raw (.var 0) (.cons (.var 1) .nil)) (.cons (.meth "Shop" "strip" "Shop.strip" .raw (.var 0) (.cons (.var 2) .nil)) .nil)))) (.cons (.asg (.nm 6) (.lst false (.cons (.meth "Shop" "snap" "Shop.snap" .raw (.var 0) (.cons (.var 1) (.cons (.var 3) .nil))) (.cons (.meth "Shop" "snap" "Shop.snap" .raw (.var 0) (.cons (.var 2) (.cons (.var 3) .nil))) .nil)))) (.cons (.asg (.nm 7) (.lst false (.cons (.tup (.cons (.var 1) (.cons (.ix (.var 6) (.int 0)) .nil))) (.cons (.tup (.cons (.var 2) (.cons (.ix (.var 6) (.int 1)) .nil))) .nil)))) (.cons (.iff (.var 4) (.cons (.forS (.nm 10) (.seq (.bin false .Add (.lst false (.cons (.var 1) (.cons (.var 2) .nil))) (.var 6))) d_law_apart_b0) (.cons (.asg (.nm 7) (.lc false [8] (.nm 8) (.seq (.var 7)) .nil d_law_apart_e1)) .nil)) .nil) (.cons (.forS (.tup [11, 12]) (.seq (.bin false .Add (.lst false (.cons (.tup (.cons (.ix (.ix (.var 7) (.int 0)) (.int 0)) (.cons (.ix (.ix (.var 7) (.int 1)) (.int 1)) .nil))) (.cons (.tup (.cons (.ix (.ix (.var 7) (.int 1)) (.int 0)) (.cons (.ix (.ix (.var 7) (.int 0)) (.int 1)) .nil))) .nil))) (.lc false [8] (.nm 8) (.seq (.var 7)) .nil d_law_apart_e2))) d_law_apart_b3) (.cons (.forS (.nm 8) (.seq (.var 7)) d_law_apart_b4) (.cons (.asg (.nm 9) (.ife (.var 4) (.lc false [13] (.nm 13) (.seq (.var 5)) .nil d_law_apart_e5) (.var 5))) (.cons (.ret (.call "_law_like" .raw (.cons (.lc false [8] (.nm 8) (.seq (.var 7)) .nil d_law_apart_e6) (.cons (.var 9) .nil)))) .nil))))))))⟩
def d_law_k57_b1 : Ss := (.cons (.iff (.not (.call "_law_apart" .raw (.cons (.var 14) (.cons (.var 10) (.cons (.meth "Shop" "roll" "Shop.roll" .raw (.var 14) (.cons (.int 0) (.cons (.int 0) (.cons (.ix (.var 8) (.int 3)) .nil)))) (.cons (.var 9) (.cons (.var 11) .nil))))))) (.cons (.ret (.bl false)) .nil) .nil) .nil)
def d_law_k57_b0 : Ss := (.cons (.asg (.nm 16) (.call "_law_deed" .raw (.cons (.var 1) (.cons (.var 4) .nil)))) (.cons (.iff (.not (.call "_law_same_end" .raw (.cons (.call "_law_journal_do" .raw (.cons (.var 3) (.cons (.var 16) .nil))) (.cons (.call "_law_s_do" .raw (.cons (.var 4) (.cons (.var 16) .nil))) .nil)))) (.cons (.ret (.bl false)) .nil) .nil) .nil))
def d_law_k57 : Df := ⟨1, 17, (.cons (.asg (.nm 1) (.call "_law_open" .raw (.cons (.var 0) .nil))) (.cons (.asg (.nm 2) (.bin false .Add (.int 1) (.call "_law_pull" .raw (.cons (.var 1) (.cons (.int 3) .nil))))) (.cons (.asg (.nm 3) (.call "Journal" .raw (.cons (.var 2) .nil))) (.cons (.asg (.nm 4) (.call "_law_shop" .raw (.cons (.var 2) .nil))) (.cons (.forS (.nm 5) (.rng1 (.call "_law_pull" .raw (.cons (.var 1) (.cons (.int 16) .nil)))) d_law_k57_b0) (.cons (.iff (.cmp .Eq (.bi false .len (.cons (.ix (.var 4) (.str "seals")) .nil)) (.int 0)) (.cons (.expr (.meth "Journal" "do" "Journal.do" .raw (.var 3) (.cons (.tup (.cons (.str "cut") (.cons (.tup (.cons (.bin false .Mult (.tup (.cons (.int 1) .nil)) (.var 2)) (.cons (.bin false .Mult (.tup (.cons (.int 2) .nil)) (.var 2)) .nil))) .nil))) .nil))) .nil) .nil) (.cons (.asg (.nm 6) (.bi false .len (.cons (.meth "Shop" "seal" "Shop.seal" .raw (.meth "Journal" "shop" "Journal.shop" .raw (.var 3) .nil) (.cons (.int 0) .nil)) .nil))) (.cons (.asg (.nm 7) (.ife (.bop .And (.cons (.cmp .Gt (.var 6) (.int 1)) (.cons (.cmp .Eq (.call "_law_pull" .raw (.cons (.var 1) (.cons (.int 2) .nil))) (.int 0)) .nil))) (.var 6) (.bin false .Add (.int 2) (.call "_law_pull" .raw (.cons (.var 1) (.cons (.int 11) .nil)))))) (.cons (.asg (.nm 8) (.tup (.cons (.str "roll") (.cons (.int 0) (.cons (.int 0) (.cons (.var 7) .nil)))))) (.cons (.asg (.nm 9) (.bin false .Add (.int 1) (.call "_law_pull" .raw (.cons (.var 1) (.cons (.bin false .Sub (.ix (.var 8) (.int 3)) (.int 1)) .nil))))) (.cons (.asg (.nm 10) (.meth "Journal" "do" "Journal.do" .raw (.var 3) (.cons (.var 8) .nil))) (.cons (.asg (.nm 11) (.cmp .Eq (.call "_law_pull" .raw (.cons (.var 1) (.cons (.int 2) .nil))) (.int 0))) (.cons (.iff (.cmp .Eq (.call "_law_pull" .raw (.cons (.var 1) (.cons (.int 2) .nil))) (.int 0)) (.cons (.expr (.meth "Journal" "do" "Journal.do" .raw (.var 3) (.cons (.var 8) .nil))) (.cons (.expr (.meth "Journal" "back" "Journal.back" .raw (.var 3) .nil)) .nil)) (.cons (.expr (.meth "Journal" "do" "Journal.do" .raw (.var 3) (.cons (.tup (.cons (.str "turn") (.cons (.var 10) .nil))) .nil))) (.cons (.expr (.meth "Journal" "back" "Journal.back" .raw (.var 3) .nil)) .nil))) (.cons (.asg (.nm 12) (.meth "Journal" "shop" "Journal.shop" .raw (.var 3) .nil)) (.cons (.asg (.nm 13) (.lst true (.cons (.var 12) (.cons (.meth "Shop" "twin" "Shop.twin" .raw (.var 12) .nil) .nil)))) (.cons (.expr (.mth false .append (.var 13) (.cons (.meth "Shop" "twin" "Shop.twin" .raw (.ix (.var 13) (.int 1)) .nil) .nil))) (.cons (.forS (.nm 14) (.seq (.var 13)) d_law_k57_b1) (.cons (.asg (.nm 15) (.meth "Journal" "do" "Journal.do" .raw (.var 3) (.cons (.var 8) .nil))) (.cons (.ret (.call "_law_apart" .raw (.cons (.meth "Journal" "shop" "Journal.shop" .raw (.var 3) .nil) (.cons (.var 10) (.cons (.var 15) (.cons (.var 9) (.cons (.var 11) .nil))))))) .nil)))))))))))))))))))⟩
end D
/-! P1: draws, cells, likeness. -/
namespace P
open PySem (Str PyData)
open Rc
abbrev Fn := List Val → M Val
theorem callF_at {defs : List (Str × Df)} {ini : List (Str × Str)} {xs : List Str} {n : Nat} {f : Str} {d : Df} (hi : ini.lookup f = none) (h : defs.lookup f = some d) : callF defs ini xs (n + 1) f = runDf (callF defs ini xs n) xs d := by
  show (match ini.lookup f with
    | some g => mkNew f (callF defs ini xs n g)
    | none => match defs.lookup f with
      | some d => runDf (callF defs ini xs n) xs d
      | none => fun _ => stuck) = _
  rw [hi, h]
theorem callF_new {defs : List (Str × Df)} {ini : List (Str × Str)} {xs : List Str} {n : Nat} {c f : Str} (hi : ini.lookup c = some f) : callF defs ini xs (n + 1) c = mkNew c (callF defs ini xs n f) := by
  show (match ini.lookup c with
    | some g => mkNew c (callF defs ini xs n g)
    | none => match defs.lookup c with
      | some d => runDf (callF defs ini xs n) xs d
      | none => fun _ => stuck) = _
  rw [hi]
variable {C : Str → List Val → M Val} {xs : List Str}
theorem mem_rangeV {lo hi : Int} {x : Val} (h : x ∈ rangeV lo hi) : ∃ i, x = .int i ∧ lo ≤ i ∧ i < hi := by
  unfold rangeV at h
  obtain ⟨k, hk, rfl⟩ := List.mem_map.mp h
  have := List.mem_range.mp hk
  exact ⟨_, rfl, by omega, by omega⟩
theorem len_rangeV (lo hi : Int) : (rangeV lo hi).length = (hi - lo).toNat := by
  unfold rangeV
  simp
/-! ### draws -/
/-- the list of a draw -/
def drawL (ns : List Int) (i r s : Int) : Ob := .lst [.lst (ns.map .int), .int i, .int r, .int s]
inductive DrawOb : Ob → Prop
  | mk (ns : List Int) (i : Nat) (r s : Int) : 0 ≤ r → 0 ≤ s → s < 2147483647 → DrawOb (drawL ns i r s)
def nextS (q : Int) : Int := (q * q % 2147483629 * 5 + q * 16811 + 2531011) % 2147483647
def outV (q n : Int) : Int := (q / 59 + q % 8191 * 31) % n
theorem nextS_ok (s : Int) : 0 ≤ nextS s ∧ nextS s < 2147483647 := ⟨Int.emod_nonneg _ (by decide), Int.emod_lt_of_pos _ (by decide)⟩
def Ok_law_pull (F : Fn) : Prop := ∀ (o : Ob), DrawOb o → ∀ (n : Int), 0 < n → n < 1073741824 → ∀ rest : Store, ∃ v o', DrawOb o' ∧ 0 ≤ v ∧ v < n ∧ F [.loc 0, .int n] (o :: rest) = .ok (.int v) (o' :: rest)
theorem d_law_pull_ok : Ok_law_pull (runDf C xs D.d_law_pull) := by
  intro o h n h0 h1 rest
  obtain ⟨ns, i, r, s, hr, hs, hs2⟩ := h
  by_cases c1 : r < n ∧ i < ns.length
  · have e0 : ns[i]? = some ns[i] := List.getElem?_eq_getElem c1.2
    by_cases c2 : 1000000000000000000 ≤ ns[i]
    · have c3 : n ≤ ns[i] := by omega
      refine ⟨ns[i] % n, drawL ns (i + 1 : Nat) (ns[i] / n) s, .mk _ _ _ _ (Int.ediv_nonneg (by omega) (by omega)) hs hs2, Int.emod_nonneg _ (by omega), Int.emod_lt_of_pos _ h0, ?_⟩
      unfold D.d_law_pull drawL
      simp [exSs, L2.atI, L2.ixN, *]
    · have c3 : ¬ n ≤ 0 := by omega
      generalize hq : (s * 48271 + ns[i] % 2147483629 * 69621 + 12345) % 2147483647 = q
      have hq0 : 0 ≤ q := by rw [← hq]; exact Int.emod_nonneg _ (by decide)
      have hq1 : q < 2147483647 := by rw [← hq]; exact Int.emod_lt_of_pos _ (by decide)
      have hq2 : -18446744073709551616 < q := by omega
      have hq3 : q < 18446744073709551616 := by omega
      refine ⟨outV (nextS q) n, drawL ns (i + 1 : Nat) 0 (nextS q), .mk _ _ _ _ (by decide) (nextS_ok q).1 (nextS_ok q).2, Int.emod_nonneg _ (by omega), Int.emod_lt_of_pos _ h0, ?_⟩
      unfold D.d_law_pull drawL
      simp [exSs, L2.atI, L2.ixN, nextS, outV, *]
  · by_cases c5 : n ≤ r
    · have c6 : ¬ r < n := by omega
      refine ⟨r % n, drawL ns i (r / n) s, .mk _ _ _ _ (Int.ediv_nonneg (by omega) (by omega)) hs hs2, Int.emod_nonneg _ (by omega), Int.emod_lt_of_pos _ h0, ?_⟩
      unfold D.d_law_pull drawL
      simp [exSs, L2.atI, L2.ixN, *]
    · have c6 : r < n := by omega
      have c7 : ¬ i < ns.length := by omega
      have hq2 : -18446744073709551616 < s := by omega
      have hq3 : s < 18446744073709551616 := by omega
      refine ⟨outV (nextS s) n, drawL ns i r (nextS s), .mk _ _ _ _ hr (nextS_ok s).1 (nextS_ok s).2, Int.emod_nonneg _ (by omega), Int.emod_lt_of_pos _ h0, ?_⟩
      unfold D.d_law_pull drawL
      simp [exSs, L2.atI, L2.ixN, nextS, outV, *]
def Ok_law_far (F : Fn) : Prop := ∀ (o : Ob), DrawOb o → ∀ rest : Store, ∃ v o', DrawOb o' ∧ F [.loc 0] (o :: rest) = .ok (.int v) (o' :: rest)
theorem d_law_far_ok (hp : Ok_law_pull (C "_law_pull")) : Ok_law_far (runDf C xs D.d_law_far) := by
  intro o h rest
  obtain ⟨v1, o1, h1, a1, b1, e1⟩ := hp o h 1000000000 (by decide) (by decide) rest
  obtain ⟨v2, o2, h2, a2, b2, e2⟩ := hp o1 h1 2 (by decide) (by decide) rest
  obtain ⟨v3, o3, h3, a3, b3, e3⟩ := hp o2 h2 2 (by decide) (by decide) rest
  by_cases c2 : v2 = 0 <;> by_cases c3 : v3 = 0
  · exact ⟨_, o3, h3, by unfold D.d_law_far; simp [exSs, e1, e2, e3, c2, c3]; rfl⟩
  · exact ⟨_, o3, h3, by unfold D.d_law_far; simp [exSs, e1, e2, e3, c2, c3]; rfl⟩
  · exact ⟨_, o3, h3, by unfold D.d_law_far; simp [exSs, e1, e2, e3, c2, c3]; rfl⟩
  · exact ⟨_, o3, h3, by unfold D.d_law_far; simp [exSs, e1, e2, e3, c2, c3]; rfl⟩
/-! ### the script is opened -/
def Ok_law_open (F : Fn) : Prop := ∀ (ns : List Int) (st : Store), ns.length ≤ 63 → F [.scr ns] st = .ok (.loc st.length) (st ++ [drawL ns 0 0 29])
theorem d_law_open_ok : Ok_law_open (runDf C xs D.d_law_open) := by
  intro ns st h
  have e : cut (ns.map Val.int) none (some 63) = ns.map Val.int := by
    unfold cut
    rw [HT.sIx_none, show (some (63 : Int)) = some ((63 : Nat) : Int) from rfl, HT.sIx_nat]
    have : min 63 (ns.map Val.int).length = (ns.map Val.int).length := by
      rw [List.length_map]
      omega
    rw [this, Nat.sub_zero]
    simp only [List.drop_zero, List.take_length]
  unfold D.d_law_open drawL
  simp [exSs, e, PySem.sizeLine]
theorem draw0 (ns : List Int) : DrawOb (drawL ns 0 0 29) := .mk ns 0 0 29 (by decide) (by decide) (by decide)
/-! ### cells -/
def Ok_good_cell (F : Fn) : Prop := ∀ (i : Int) (st : Store), F [.int i] st = .ok (.bl (decide (-1 ≤ i) && decide (i ≤ 9))) st
theorem d_good_cell_ok : Ok_good_cell (runDf C xs D.d_good_cell) := by
  intro i st
  unfold D.d_good_cell
  by_cases h : -1 ≤ i <;> simp [exSs, h]
/-! ### likeness -/
def Ok_law_num (F : Fn) : Prop := ∀ (i : Int) (st : Store), F [.int i] st = .ok (.bl true) st
theorem d_law_num_ok : Ok_law_num (runDf C xs D.d_law_num) := by
  intro i st
  unfold D.d_law_num
  simp [exSs]
/-- plain values, no deeper than n -/
inductive plainV : Nat → Val → Prop
  | non {n : Nat} : plainV (n + 1) .non
  | bl {n : Nat} (b : Bool) : plainV (n + 1) (.bl b)
  | int {n : Nat} (i : Int) : plainV (n + 1) (.int i)
  | str {n : Nat} (x : Str) : plainV (n + 1) (.str x)
  | tup {n : Nat} {vs : List Val} : vs.length ≤ 10000 → (∀ w ∈ vs, plainV n w) → plainV (n + 1) (.tup vs)
  | lst {n : Nat} {vs : List Val} : vs.length ≤ 10000 → (∀ w ∈ vs, plainV n w) → plainV (n + 1) (.lst vs)
structure OkLike (d : Nat) (F : Fn) : Prop where
  bl : ∀ (b c : Bool) (st : Store), F [.bl b, .bl c] st = .ok (.bl (decide (b = c))) st
  int : ∀ (i j : Int) (st : Store), F [.int i, .int j] st = .ok (.bl (decide (i = j))) st
  str : ∀ (i j : Str) (st : Store), F [.str i, .str j] st = .ok (.bl (decide (i = j))) st
  non : ∀ (st : Store), F [.non, .non] st = .ok (.bl true) st
  same : ∀ (v : Val) (st : Store), plainV d v → F [v, v] st = .ok (.bl true) st
  loc : ∀ (l : Nat) (vs : List Val) (st : Store), st[l]? = some (.lst vs) → plainV d (.lst vs) → F [.loc l, .lst vs] st = .ok (.bl true) st
  loc2 : ∀ (l : Nat) (vs : List Val) (st : Store), st[l]? = some (.lst vs) → plainV d (.lst vs) → F [.lst vs, .loc l] st = .ok (.bl true) st
abbrev Ok_law_like (F : Fn) : Prop := OkLike 6 F
theorem at_int {α : Type} {zs : List α} {i : Int} (h0 : 0 ≤ i) (h1 : i < zs.length) : ∃ x ∈ zs, L2.atI zs i = some x := by
  have h2 : i.toNat < zs.length := by omega
  refine ⟨zs[i.toNat], List.getElem_mem h2, ?_⟩
  unfold L2.atI L2.ixN
  rw [if_pos h0, if_pos h1]
  simp [List.getElem?_eq_getElem h2]
theorem mo_true : ∀ {zs : List Val}, mapO toBl (zs.map fun _ => Val.bl true) = some (zs.map fun _ => true)
  | [] => rfl
  | z :: zs => by
    rw [List.map_cons, e_moc, mo_true]
    rfl
theorem rng_ok {j : Int} (h0 : 0 ≤ j) (h : j ≤ 100000) : rngOk 0 j = true := by
  rw [rngOk_eq]
  unfold rngRaw
  rw [decide_eq_true (show (-(2 ^ 62) : Int) ≤ 0 by decide), decide_eq_true (show (0 : Int) < 2 ^ 62 by decide), decide_eq_true (show -(2 ^ 62) ≤ j by omega), decide_eq_true (show j < 2 ^ 62 by omega), decide_eq_true (show (j - 0).toNat ≤ PySem.sizeLine by show _ ≤ 16777216; omega)]
  rfl
theorem like_lc {u : Val} {vs : List Val} (hu : ∀ i st, ixOp st u (.int i) = L2.atI vs i) (hlen : ∀ st, biLen st [u] = some (.int vs.length)) (h1 : vs.length ≤ 10000) (st : Store) (h2 : ∀ w ∈ vs, C "_law_like" [w, w] st = .ok (.bl true) st) :
    lcSem false [2] (evI C (.rng1 (.bi false .len (.cons (.var 1) .nil)))) (.nm 2) (evT C .nil) (evE C D.d_law_like_e0) [some u, some u, none] st = .ok (.lst ((rangeV 0 vs.length).map fun _ => .bl true)) st := by
  refine lc_map (fun _ => .bl true) ?_ ?_
  · simp [hlen, rng_ok (show (0 : Int) ≤ vs.length by omega) (by omega)]
  · intro x hx
    obtain ⟨i, rfl, i0, i1⟩ := mem_rangeV hx
    obtain ⟨y, hy, e⟩ := at_int i0 i1
    refine ⟨[some u, some u, some (.int i)], rfl, ?_⟩
    unfold D.d_law_like_e0
    simp [hu, e, h2 y hy]
theorem like_lc2 {u u' : Val} {vs : List Val} {st : Store} (hu : ∀ i, ixOp st u (.int i) = L2.atI vs i) (hu' : ∀ i, ixOp st u' (.int i) = L2.atI vs i) (hlen : biLen st [u'] = some (.int vs.length)) (h1 : vs.length ≤ 10000) (h2 : ∀ w ∈ vs, C "_law_like" [w, w] st = .ok (.bl true) st) :
    lcSem false [2] (evI C (.rng1 (.bi false .len (.cons (.var 1) .nil)))) (.nm 2) (evT C .nil) (evE C D.d_law_like_e0) [some u, some u', none] st = .ok (.lst ((rangeV 0 vs.length).map fun _ => .bl true)) st := by
  refine lc_map (fun _ => .bl true) ?_ ?_
  · simp [hlen, rng_ok (show (0 : Int) ≤ vs.length by omega) (by omega)]
  · intro x hx
    obtain ⟨i, rfl, i0, i1⟩ := mem_rangeV hx
    obtain ⟨y, hy, e⟩ := at_int i0 i1
    refine ⟨[some u, some u', some (.int i)], rfl, ?_⟩
    unfold D.d_law_like_e0
    simp [hu, hu', e, h2 y hy]
theorem isin_loc {st : Store} {l : Nat} {vs : List Val} {q : Kd} (h : st[l]? = some (.lst vs)) : isinOp st (.loc l) q = some (decide (Kd.list = q)) := by
  have hk : kindOf st (.loc l) = some .list := by
    show (match st[l]? with
      | some (.lst _) => some Kd.list
      | some (.dK _) => some Kd.dict
      | some (.dT _) => some Kd.dict
      | _ => none) = _
    rw [h]
  show (kindOf st (.loc l)).map _ = _
  rw [hk]
  cases q <;> rfl
theorem like_step {d : Nat} (hn : Ok_law_num (C "_law_num")) (hL : ∀ (v : Val) (st : Store), plainV d v → C "_law_like" [v, v] st = .ok (.bl true) st) : OkLike (d + 1) (runDf C xs D.d_law_like) := by
  refine ⟨?_, ?_, ?_, ?_, ?_, ?_, ?_⟩
  · intro b c st
    unfold D.d_law_like
    simp [exSs]
  · intro i j st
    unfold D.d_law_like
    simp [exSs, hn i]
  · intro i j st
    unfold D.d_law_like
    simp [exSs]
  · intro st
    unfold D.d_law_like
    simp [exSs]
  · intro v st hv
    refine wp_eq rfl ?_
    unfold D.d_law_like
    cases hv with
    | non => simp
    | bl b => simp
    | int i => simp [hn i]
    | str x => simp
    | @tup _ vs h1 h2 =>
      have hlc := like_lc (C := C) (u := .tup vs) (vs := vs) (fun _ _ => rfl) (fun _ => rfl) h1 st fun w hw => hL w st (h2 w hw)
      simp only [startEnv, List.map, List.length, List.replicate, List.append]
      simp [hlc, mo_true]
    | @lst _ vs h1 h2 =>
      have hlc := like_lc (C := C) (u := .lst vs) (vs := vs) (fun _ _ => rfl) (fun _ => rfl) h1 st fun w hw => hL w st (h2 w hw)
      simp only [startEnv, List.map, List.length, List.replicate, List.append]
      simp [hlc, mo_true]
  · intro l vs st hl hv
    refine wp_eq rfl ?_
    unfold D.d_law_like
    cases hv with
    | lst h1 h2 =>
      have hlc := like_lc2 (C := C) (u := .loc l) (u' := .lst vs) (vs := vs) (st := st) (fun i => by rw [e_ixO, hl]; rfl) (fun _ => rfl) rfl h1 fun w hw => hL w st (h2 w hw)
      have hi := fun q => isin_loc (q := q) hl
      simp only [startEnv, List.map, List.length, List.replicate, List.append]
      simp [hi, hl, hlc, mo_true]
  · intro l vs st hl hv
    refine wp_eq rfl ?_
    unfold D.d_law_like
    cases hv with
    | lst h1 h2 =>
      have hb : biLen st [.loc l] = some (.int vs.length) := by rw [e_lenO, hl]; rfl
      have hlc := like_lc2 (C := C) (u := .lst vs) (u' := .loc l) (vs := vs) (st := st) (fun _ => rfl) (fun i => by rw [e_ixO, hl]; rfl) hb h1 fun w hw => hL w st (h2 w hw)
      have hi := fun q => isin_loc (q := q) hl
      simp only [startEnv, List.map, List.length, List.replicate, List.append]
      simp [hi, hl, hlc, mo_true]
theorem like_rec {defs : List (Str × Df)} {ini : List (Str × Str)} {ex : List Str} (hi : ini.lookup ("_law_like" : Str) = none) (h : defs.lookup ("_law_like" : Str) = some D.d_law_like) (hn : ∀ n, Ok_law_num (callF defs ini ex (n + 1) "_law_num")) : ∀ d n, OkLike (d + 1) (callF defs ini ex (n + d + 2) "_law_like")
  | 0, n => by
    show OkLike 1 (callF defs ini ex (n + 1 + 1) "_law_like")
    rw [callF_at hi h]
    exact like_step (hn n) fun v st hv => by cases hv
  | d + 1, n => by
    show OkLike (d + 1 + 1) (callF defs ini ex (n + d + 2 + 1) "_law_like")
    rw [callF_at hi h]
    exact like_step (hn (n + d + 1)) (like_rec hi h hn d n).same
end P
/-! P2: strips. -/
namespace P
open PySem (Str PyData)
open Rc
variable {C : Str → List Val → M Val} {xs : List Str}
abbrev Col := List Int
abbrev Strip := List Col
def cv (c : Col) : Val := .tup (c.map .int)
def sv (s : Strip) : Val := .tup (s.map cv)
theorem at_mem {α : Type} {zs : List α} {i : Int} (h0 : 0 ≤ i) (h1 : i < zs.length) : ∃ x ∈ zs, L2.atI zs i = some x := by
  have h2 : i.toNat < zs.length := by omega
  refine ⟨zs[i.toNat], List.getElem_mem h2, ?_⟩
  unfold L2.atI L2.ixN
  rw [if_pos h0, if_pos h1]
  simp [List.getElem?_eq_getElem h2]
theorem at_zero {α : Type} {x : α} {zs : List α} : L2.atI (x :: zs) 0 = some x := by
  unfold L2.atI L2.ixN
  simp
theorem at_map {α β : Type} {f : α → β} {zs : List α} {i : Int} : L2.atI (zs.map f) i = (L2.atI zs i).map f := by
  unfold L2.atI
  rw [List.length_map]
  rcases L2.ixN zs.length i with _ | j
  · rfl
  · simp
theorem cut_map {α β : Type} {f : α → β} {zs : List α} {lo hi : Option Int} : cut (zs.map f) lo hi = (cut zs lo hi).map f := by
  unfold cut
  simp
theorem cut_le {α : Type} {zs : List α} {lo hi : Option Int} : (cut zs lo hi).length ≤ zs.length := by
  unfold cut
  simp
  omega
theorem cut_take {α : Type} {zs : List α} {i : Int} (h : 0 ≤ i) : cut zs none (some i) = zs.take i.toNat := by
  obtain ⟨n, rfl⟩ := Int.eq_ofNat_of_zero_le h
  unfold cut
  rw [HT.sIx_none, HT.sIx_nat]
  simp
theorem cut_drop {α : Type} {zs : List α} {i : Int} (h : 0 ≤ i) : cut zs (some i) none = zs.drop i.toNat := by
  obtain ⟨n, rfl⟩ := Int.eq_ofNat_of_zero_le h
  unfold cut
  rw [HT.sIx_none, HT.sIx_nat]
  by_cases c : n ≤ zs.length
  · rw [Nat.min_eq_left c]
    exact List.take_of_length_le (by simp)
  · rw [Nat.min_eq_right (by omega), List.drop_of_length_le (show zs.length ≤ zs.length by omega), List.drop_of_length_le (by simp; omega)]
    simp
/-! ### good strips -/
def okCell (i : Int) : Bool := decide (-1 ≤ i) && decide (i ≤ 9)
def okCol (h : Nat) (c : Col) : Bool := decide (1 ≤ c.length) && decide (c.length ≤ 3) && decide (c.length = h) && c.all okCell
def high : Strip → Nat
  | [] => 0
  | c :: _ => c.length
def goodStrip (s : Strip) : Bool := decide (1 ≤ s.length) && decide (s.length ≤ 12) && s.all (okCol (high s))
theorem mo_all {c : Col} {p : Int → Bool} : mapO toBl (c.map fun i => .bl (p i)) = some (c.map p) := by
  rw [show (c.map fun i => Val.bl (p i)) = (c.map p).map .bl by simp]
  exact e_moB
def Ok_good_strip (F : Fn) : Prop := ∀ (s : Strip) (st : Store), F [sv s] st = .ok (.bl (goodStrip s)) st
theorem d_good_strip_ok (hg : Ok_good_cell (C "good_cell")) : Ok_good_strip (runDf C xs D.d_good_strip) := by
  intro s st
  refine wp_eq rfl ?_
  unfold D.d_good_strip sv
  rcases s with _ | ⟨c0, s⟩
  · simp [goodStrip]
  · have hat : L2.atI ((c0 :: s).map cv) 0 = some (.tup (c0.map .int)) := by rw [List.map_cons, at_zero]; rfl
    have hl : 1 ≤ (c0 :: s).length := by simp
    have hh : high (c0 :: s) = c0.length := rfl
    generalize c0 :: s = S at hat hl hh
    have h'' : ¬ (S.length : Int) < 1 := by omega
    by_cases h : S.length ≤ 12
    · have h' : ¬ (12 : Int) < (S.length : Int) := by omega
      simp [h', h'', -Still]
      refine wpk_all (fun e => ∃ q q', e = [some (.tup (S.map cv)), q, q']) (okCol c0.length) (.bl false) ⟨none, none, rfl⟩ ?_ ?_ ?_
      · rintro x hx _ ⟨q, q', rfl⟩
        refine ⟨[some (.tup (S.map cv)), some (.tup (x.map .int)), q'], rfl, ?_⟩
        have hlc : lcSem false [2] (evI C (.seq (.var 1))) (.nm 2) (evT C .nil) (evE C D.d_good_strip_e1) [some (.tup (S.map cv)), some (.tup (x.map .int)), q'] st = .ok (.lst (x.map fun i => .bl (okCell i))) st := by
          refine lc_mapA .int (fun i => .bl (okCell i)) (by simp) ?_
          intro i hi
          refine ⟨_, rfl, ?_⟩
          unfold D.d_good_strip_e1
          simp [wipe, hg _ _, okCell]
        unfold D.d_good_strip_b0
        by_cases a1 : x.length < 1
        · have a1' : (x.length : Int) < 1 := by omega
          have a0 : x.length = 0 := by omega
          simp [a1', okCol, a0]
        · have a1' : ¬ (x.length : Int) < 1 := by omega
          by_cases a2 : 3 < x.length
          · have a2' : (3 : Int) < x.length := by omega
            have : ¬ x.length ≤ 3 := by omega
            simp [a1', a2', okCol, this]
          · have a2' : ¬ (3 : Int) < x.length := by omega
            have b1 : 1 ≤ x.length := by omega
            have b2 : x.length ≤ 3 := by omega
            by_cases a3 : x.length = c0.length
            · have hc : okCol c0.length x = x.all okCell := by simp [okCol, b1, b2, a3]; rw [← a3]; simp [b1, b2]
              rw [hc]
              simp only [wp_cons, x_iff, v_bop, v_or, v_b1, v_cmp, v_not, v_bi, v_lc]
              cases a4 : x.all okCell
              · simp [a1', a2', a3.symm, hat, hlc, mo_all, a4, -List.all_eq_false, -List.all_eq_true]
              · simp [a1', a2', a3.symm, hat, hlc, mo_all, a4, -List.all_eq_false, -List.all_eq_true]
            · have a3' : ¬ (x.length : Int) = c0.length := by omega
              simp [a1', a2', a3, a3', okCol, hat]
      · rintro _ ⟨q, q', rfl⟩ ha
        simp [goodStrip, hh, ha, hl, h, -List.all_eq_true]
      · intro ha
        simp [goodStrip, hh, ha, hl, h, -List.all_eq_false]
    · have h' : (12 : Int) < S.length := by omega
      simp [goodStrip, h, h', h'']
def Ok_law_strip_ok (F : Fn) : Prop := ∀ (s : Strip) (st : Store), F [sv s] st = .ok (.bl (goodStrip s)) st
theorem d_law_strip_ok_ok : Ok_law_strip_ok (runDf C xs D.d_law_strip_ok) := by
  intro s st
  refine wp_eq rfl ?_
  unfold D.d_law_strip_ok sv
  rcases s with _ | ⟨c0, s⟩
  · simp [goodStrip]
  · have hat : L2.atI ((c0 :: s).map cv) 0 = some (.tup (c0.map .int)) := by rw [List.map_cons, at_zero]; rfl
    have hl : 1 ≤ (c0 :: s).length := by simp
    have hh : high (c0 :: s) = c0.length := rfl
    have hm : c0 ∈ c0 :: s := List.mem_cons_self ..
    generalize c0 :: s = S at hat hl hh hm
    have h'' : (1 : Int) ≤ S.length := by omega
    by_cases h : S.length ≤ 12
    · have h' : (S.length : Int) ≤ 12 := by omega
      simp [h', h'', hat, -Still]
      refine wpk_all (fun e => ∃ q q', e = [some (.tup (S.map cv)), some (.int c0.length), q, q']) (fun x : Col => decide (x.length = c0.length) && x.all okCell) (.bl false) ⟨none, none, rfl⟩ ?_ ?_ ?_
      · rintro x hx _ ⟨q, q', rfl⟩
        refine ⟨[some (.tup (S.map cv)), some (.int c0.length), some (.tup (x.map .int)), q'], rfl, ?_⟩
        have hlc : lcSem false [3] (evI C (.seq (.var 2))) (.nm 3) (evT C .nil) (evE C D.d_law_strip_ok_e1) [some (.tup (S.map cv)), some (.int c0.length), some (.tup (x.map .int)), q'] st = .ok (.lst (x.map fun i => .bl (okCell i))) st := by
          refine lc_mapA .int (fun i => .bl (okCell i)) (by simp) ?_
          intro i hi
          refine ⟨_, rfl, ?_⟩
          unfold D.d_law_strip_ok_e1
          by_cases c : -1 ≤ i <;> simp [wipe, okCell, c]
        unfold D.d_law_strip_ok_b0
        by_cases a3 : x.length = c0.length
        · cases a4 : x.all okCell
          · simp [a3, hat, hlc, mo_all, a4, -List.all_eq_false, -List.all_eq_true]
          · simp [a3, hat, hlc, mo_all, a4, -List.all_eq_false, -List.all_eq_true]
        · have a3' : ¬ (x.length : Int) = c0.length := by omega
          simp [a3, a3', hat]
      · rintro _ ⟨q, q', rfl⟩ ha
        have e : S.all (okCol c0.length) = (decide (1 ≤ c0.length) && decide (c0.length ≤ 3)) := by
          cases q1 : decide (1 ≤ c0.length) && decide (c0.length ≤ 3)
          · rw [List.all_eq_false]
            refine ⟨c0, hm, ?_⟩
            unfold okCol
            rw [q1]
            simp
          · rw [List.all_eq_true] at ha ⊢
            intro x hx
            have hx' := ha x hx
            simp only [Bool.and_eq_true, decide_eq_true_eq] at hx' q1
            unfold okCol
            simp only [Bool.and_eq_true, decide_eq_true_eq]
            exact ⟨⟨⟨by omega, by omega⟩, hx'.1⟩, hx'.2⟩
        simp only [wp_cons, x_ret, v_chain, v_int, v_var]
        have i1 : decide ((1 : Int) ≤ c0.length) = decide (1 ≤ c0.length) := by by_cases c : 1 ≤ c0.length <;> simp [c] <;> omega
        have i2 : decide ((c0.length : Int) ≤ 3) = decide (c0.length ≤ 3) := by by_cases c : c0.length ≤ 3 <;> simp [c] <;> omega
        by_cases c : 1 ≤ c0.length
        · have c' : (1 : Int) ≤ c0.length := by omega
          simp [goodStrip, hh, e, hl, h, c, c', i2, -List.all_eq_true]
        · have c' : ¬ (1 : Int) ≤ c0.length := by omega
          simp [goodStrip, hh, e, hl, h, c, c', -List.all_eq_true]
      · intro ha
        have : S.all (okCol c0.length) = false := by
          rw [List.all_eq_false] at ha ⊢
          obtain ⟨x, hx, hb⟩ := ha
          refine ⟨x, hx, ?_⟩
          intro hc
          apply hb
          unfold okCol at hc
          simp only [Bool.and_eq_true, decide_eq_true_eq] at hc ⊢
          exact ⟨hc.1.2, hc.2⟩
        simp [goodStrip, hh, this, hl, h, -List.all_eq_false]
    · have h' : ¬ (S.length : Int) ≤ 12 := by omega
      simp [goodStrip, h, h', h'']
/-! ### drawn strips -/
theorem sz_ok {n : Nat} (h : n ≤ 1000) : n ≤ PySem.sizeLine := Nat.le_trans h (by decide)
theorem cv_eq (c : Col) : cv c = .tup (c.map .int) := rfl
def Small (s : Strip) : Prop := s.length ≤ 100 ∧ ∀ c ∈ s, c.length ≤ 100
def Ok_changed_any (F : Fn) : Prop := ∀ (s : Strip) (k r c : Int) (st : Store), Small s → 0 ≤ k → k < s.length → 0 ≤ r → ∃ s' : Strip, s'.length ≤ 1000 ∧ F [sv s, .int k, .int r, .int c] st = .ok (sv s') st
theorem d_changed_any : Ok_changed_any (runDf C xs D.d_law_changed) := by
  intro s k r c st hs hk0 hk1 hr
  obtain ⟨x, hx, e⟩ := at_mem hk0 hk1
  have hxl := hs.2 x hx
  have e' : L2.atI (s.map cv) k = some (.tup (x.map .int)) := by rw [at_map, e]; rfl
  have l1 : (cut x none (some r)).length ≤ 100 := Nat.le_trans cut_le hxl
  have l2 : (cut x (some (r + 1)) none).length ≤ 100 := Nat.le_trans cut_le hxl
  have l3 : (cut s none (some k)).length ≤ 100 := Nat.le_trans cut_le hs.1
  have l4 : (cut s (some (k + 1)) none).length ≤ 100 := Nat.le_trans cut_le hs.1
  have z1 := sz_ok (show (cut x none (some r)).length + 1 ≤ 1000 by omega)
  have z2 := sz_ok (show (cut x none (some r)).length + 1 + (cut x (some (r + 1)) none).length ≤ 1000 by omega)
  have z3 := sz_ok (show (cut s none (some k)).length + 1 ≤ 1000 by omega)
  have z4 := sz_ok (show (cut s none (some k)).length + 1 + (cut s (some (k + 1)) none).length ≤ 1000 by omega)
  have z5 := sz_ok (show 1 ≤ 1000 by omega)
  refine ⟨cut s none (some k) ++ [cut x none (some r) ++ [c] ++ cut x (some (r + 1)) none] ++ cut s (some (k + 1)) none, by simp; omega, ?_⟩
  unfold D.d_law_changed sv
  simp [exSs, e', cut_map, z1, z2, z3, z4, z5, cv_eq]
/-- the k-th one, as it stands -/
def nth {β : Type} (s : List (List β)) (k : Nat) : List β := s.getD k []
/-- a strip with another cell -/
def setCell (s : Strip) (k r : Nat) (c : Int) : Strip := s.set k ((nth s k).set r c)
theorem cut_set {α : Type} {zs : List α} {k : Nat} {z : α} (h : k < zs.length) : cut zs none (some (k : Int)) ++ [z] ++ cut zs (some ((k : Int) + 1)) none = zs.set k z := by
  rw [cut_take (by omega), cut_drop (by omega)]
  have e : ((k : Int) + 1).toNat = k + 1 := by omega
  rw [Int.toNat_natCast, e, List.set_eq_take_append_cons_drop, if_pos h]
  simp
theorem nth_at {α β : Type} {s : List (List α)} {f : List α → β} {k : Nat} (h : k < s.length) : L2.atI (s.map f) (k : Int) = some (f (nth s k)) := by
  unfold nth
  rw [at_map]
  unfold L2.atI L2.ixN
  rw [if_pos (by omega), if_pos (by omega)]
  simp [h]
theorem getD_at {α β : Type} {s : List α} {f : α → β} {k : Nat} {d : α} (h : k < s.length) : L2.atI (s.map f) (k : Int) = some (f (s.getD k d)) := by
  rw [at_map]
  unfold L2.atI L2.ixN
  rw [if_pos (by omega), if_pos (by omega)]
  simp [h]
/-- what with_cell and the law's own changing give -/
def Ok_setCell (F : Fn) : Prop := ∀ (s : Strip) (k r : Nat) (c : Int) (st : Store), s.length ≤ 100 → k < s.length → r < (nth s k).length → (nth s k).length ≤ 100 → F [sv s, .int k, .int r, .int c] st = .ok (sv (setCell s k r c)) st
theorem setCell_run {C : Str → List Val → M Val} {xs : List Str} {d : Df} (hd : d = D.d_law_changed) : Ok_setCell (runDf C xs d) := by
  intro s k r c st hs hk hr hl
  subst hd
  have e' : L2.atI (s.map cv) (k : Int) = some (.tup ((nth s k).map .int)) := nth_at hk
  generalize hx : nth s k = x at e' hr hl
  have l1 : (cut x none (some (r : Int))).length ≤ 100 := Nat.le_trans cut_le hl
  have l2 : (cut x (some ((r : Int) + 1)) none).length ≤ 100 := Nat.le_trans cut_le hl
  have l3 : (cut s none (some (k : Int))).length ≤ 100 := Nat.le_trans cut_le hs
  have l4 : (cut s (some ((k : Int) + 1)) none).length ≤ 100 := Nat.le_trans cut_le hs
  have z1 := sz_ok (show (cut x none (some (r : Int))).length + 1 ≤ 1000 by omega)
  have z2 := sz_ok (show (cut x none (some (r : Int))).length + 1 + (cut x (some ((r : Int) + 1)) none).length ≤ 1000 by omega)
  have z3 := sz_ok (show (cut s none (some (k : Int))).length + 1 ≤ 1000 by omega)
  have z4 := sz_ok (show (cut s none (some (k : Int))).length + 1 + (cut s (some ((k : Int) + 1)) none).length ≤ 1000 by omega)
  have z5 := sz_ok (show 1 ≤ 1000 by omega)
  have ev : sv (setCell s k r c) = .tup ((cut s none (some (k : Int)) ++ [cut x none (some (r : Int)) ++ [c] ++ cut x (some ((r : Int) + 1)) none] ++ cut s (some ((k : Int) + 1)) none).map cv) := by
    rw [cut_set hr, cut_set hk]
    unfold setCell
    rw [hx]
    rfl
  rw [ev]
  unfold D.d_law_changed sv
  simp [exSs, e', cut_map, z1, z2, z3, z4, z5, cv_eq]
structure Ok_law_changed (F : Fn) : Prop where
  any : Ok_changed_any F
  at_ : Ok_setCell F
theorem d_law_changed_ok : Ok_law_changed (runDf C xs D.d_law_changed) := ⟨d_changed_any, setCell_run rfl⟩
theorem all_inj {α : Type} {f : α → Val} {q : α → Prop} : ∀ {ws : List Val}, (∀ y ∈ ws, ∃ a, y = f a ∧ q a) → ∃ as : List α, ws = as.map f ∧ ∀ a ∈ as, q a
  | [], _ => ⟨[], rfl, by simp⟩
  | w :: ws, h => by
    obtain ⟨a, rfl, qa⟩ := h w (List.mem_cons_self ..)
    obtain ⟨as, rfl, qs⟩ := all_inj fun y hy => h y (List.mem_cons_of_mem _ hy)
    refine ⟨a :: as, rfl, ?_⟩
    intro b hb
    rcases List.mem_cons.mp hb with rfl | hb
    · exact qa
    · exact qs b hb
theorem at3 {a b c : Val} {i : Int} (h0 : 0 ≤ i) (h1 : i < 3) : L2.atI [a, b, c] i = some (if i = 0 then a else if i = 1 then b else c) := by
  have : i = 0 ∨ i = 1 ∨ i = 2 := by omega
  rcases this with rfl | rfl | rfl <;> rfl
/-- a drawn strip of a given height -/
def Drawn (h : Int) (s : Strip) : Prop := 1 ≤ s.length ∧ s.length ≤ 12 ∧ ∀ c ∈ s, (c.length : Int) = h
end P
/-! P3: seals. -/
namespace P
open PySem (Str PyData)
open Rc
variable {C : Str → List Val → M Val} {xs : List Str}
theorem mo_ints {c : Col} : mapO toInt (c.map .int) = some c := e_moI
theorem foldl_min_le : ∀ (l : List Int) (x : Int), l.foldl min x ≤ x ∧ (∀ y ∈ l, l.foldl min x ≤ y) ∧ (l.foldl min x = x ∨ l.foldl min x ∈ l)
  | [], x => ⟨Int.le_refl _, by simp, .inl rfl⟩
  | y :: l, x => by
    obtain ⟨h1, h2, h3⟩ := foldl_min_le l (min x y)
    simp only [List.foldl_cons]
    refine ⟨by omega, ?_, ?_⟩
    · intro z hz
      rcases List.mem_cons.mp hz with rfl | hz
      · omega
      · exact h2 z hz
    · rcases h3 with h3 | h3
      · by_cases c : x ≤ y
        · left; omega
        · right; rw [h3, show min x y = y by omega]; exact List.mem_cons_self ..
      · right; exact List.mem_cons_of_mem _ h3
theorem mini_spec {c : Col} (h : 1 ≤ c.length) : ∃ m, mini c = some m ∧ m ∈ c ∧ ∀ y ∈ c, m ≤ y := by
  rcases c with _ | ⟨x, l⟩
  · simp at h
  · obtain ⟨h1, h2, h3⟩ := foldl_min_le l x
    refine ⟨_, rfl, ?_, ?_⟩
    · rcases h3 with h3 | h3
      · rw [h3]; exact List.mem_cons_self ..
      · exact List.mem_cons_of_mem _ h3
    · intro y hy
      rcases List.mem_cons.mp hy with rfl | hy
      · exact h1
      · exact h2 y hy
def lost (c : Col) : Bool := c.any fun i => i == -1
def goodSeal (s : Strip) : Bool := goodStrip s && decide (s.length ≤ 6) && !(s.any lost)
def Ok_good_seal (F : Fn) : Prop := ∀ (s : Strip) (st : Store), F [sv s] st = .ok (.bl (goodSeal s)) st
theorem mo_bl {α : Type} {l : List α} {p : α → Bool} : mapO toBl (l.map fun i => .bl (p i)) = some (l.map p) := by
  rw [show (l.map fun i => Val.bl (p i)) = (l.map p).map .bl by simp]
  exact e_moB
theorem d_good_seal_ok (hg : Ok_good_strip (C "good_strip")) : Ok_good_seal (runDf C xs D.d_good_seal) := by
  intro s st
  refine wp_eq rfl ?_
  have hg' : ∀ st, C "good_strip" [.tup (s.map cv)] st = .ok (.bl (goodStrip s)) st := fun st => hg s st
  have hlc : lcSem false [1] (evI C (.seq (.var 0))) (.nm 1) (evT C .nil) (evE C D.d_good_seal_e0) [some (.tup (s.map cv)), none] st = .ok (.lst (s.map fun c => .bl (lost c))) st := by
    refine lc_mapA cv (fun c => .bl (lost c)) (by simp) ?_
    intro c hc
    refine ⟨_, rfl, ?_⟩
    unfold D.d_good_seal_e0
    simp [wipe, cv, lost, Function.comp_def]
  unfold D.d_good_seal sv
  cases h1 : goodStrip s
  · simp [hg', h1, goodSeal]
  · by_cases h2 : s.length ≤ 6
    · have h2' : ¬ (6 : Int) < s.length := by omega
      simp [hg', h1, h2, h2', goodSeal, hlc, mo_bl]
    · have h2' : (6 : Int) < s.length := by omega
      simp [hg', h1, h2, h2', goodSeal]
def Ok_law_seal_ok (F : Fn) : Prop := ∀ (s : Strip) (st : Store), F [sv s] st = .ok (.bl (goodSeal s)) st
theorem good_cols {s : Strip} (h : goodStrip s = true) : 1 ≤ s.length ∧ s.length ≤ 12 ∧ 1 ≤ high s ∧ high s ≤ 3 ∧ ∀ c ∈ s, c.length = high s ∧ ∀ i ∈ c, -1 ≤ i ∧ i ≤ 9 := by
  unfold goodStrip at h
  simp only [Bool.and_eq_true, decide_eq_true_eq, List.all_eq_true] at h
  obtain ⟨⟨h1, h2⟩, h3⟩ := h
  rcases s with _ | ⟨c0, s⟩
  · simp at h1
  · have h0 := h3 c0 (List.mem_cons_self ..)
    simp only [okCol, Bool.and_eq_true, decide_eq_true_eq, List.all_eq_true] at h0
    refine ⟨h1, h2, ?_, ?_, ?_⟩
    · exact h0.1.1.1
    · exact h0.1.1.2
    · intro c hc
      have hc' := h3 c hc
      simp only [okCol, Bool.and_eq_true, decide_eq_true_eq, List.all_eq_true] at hc'
      refine ⟨hc'.1.2, ?_⟩
      intro i hi
      have := hc'.2 i hi
      unfold okCell at this
      simp only [Bool.and_eq_true, decide_eq_true_eq] at this
      exact this
theorem d_law_seal_ok_ok (hk : Ok_law_strip_ok (C "_law_strip_ok")) : Ok_law_seal_ok (runDf C xs D.d_law_seal_ok) := by
  intro s st
  refine wp_eq rfl ?_
  have hk' : ∀ st, C "_law_strip_ok" [.tup (s.map cv)] st = .ok (.bl (goodStrip s)) st := fun st => hk s st
  unfold D.d_law_seal_ok sv
  cases h1 : goodStrip s
  · simp [hk', h1, goodSeal]
  · obtain ⟨g1, g2, g3, g4, g5⟩ := good_cols h1
    have hlc : lcSem false [1] (evI C (.seq (.var 0))) (.nm 1) (evT C .nil) (evE C D.d_law_seal_ok_e0) [some (.tup (s.map cv)), none] st = .ok (.lst (s.map fun c => .int ((mini c).getD 0))) st := by
      refine lc_mapA cv (fun c => .int ((mini c).getD 0)) (by simp) ?_
      intro c hc
      refine ⟨_, rfl, ?_⟩
      obtain ⟨m, e, _⟩ := mini_spec (c := c) (by have := (g5 c hc).1; omega)
      unfold D.d_law_seal_ok_e0
      simp [wipe, cv, mo_ints, e]
    have hmo : mapO toInt (s.map fun c => .int ((mini c).getD 0)) = some (s.map fun c => (mini c).getD 0) := by
      rw [show (s.map fun c => Val.int ((mini c).getD 0)) = (s.map fun c => (mini c).getD 0).map .int by simp]
      exact e_moI
    obtain ⟨M, eM, mM, lM⟩ := mini_spec (c := s.map fun c => (mini c).getD 0) (by simpa using g1)
    have hfin : decide (0 ≤ M) = !(s.any lost) := by
      cases q : s.any lost
      · have q' : ∀ c ∈ s, ∀ i ∈ c, ¬ i = -1 := by
          intro c hc i hi e
          rw [List.any_eq_false] at q
          exact q c hc (by unfold lost; rw [List.any_eq_true]; exact ⟨i, hi, by simp [e]⟩)
        obtain ⟨c, hc, e⟩ := List.mem_map.mp mM
        obtain ⟨m, e2, m2, _⟩ := mini_spec (c := c) (by have := (g5 c hc).1; omega)
        rw [e2] at e
        have e' : m = M := e
        have := q' c hc m m2
        have := (g5 c hc).2 m m2
        simp
        omega
      · rw [List.any_eq_true] at q
        obtain ⟨c, hc, q⟩ := q
        unfold lost at q
        rw [List.any_eq_true] at q
        obtain ⟨i, hi, q⟩ := q
        have q' : i = -1 := by simpa using q
        obtain ⟨m, e2, m2, l2⟩ := mini_spec (c := c) (by have := (g5 c hc).1; omega)
        have h3 := l2 i hi
        have h4 := lM m (List.mem_map.mpr ⟨c, hc, by rw [e2]; rfl⟩)
        simp
        omega
    by_cases h2 : s.length ≤ 6
    · have h2' : (s.length : Int) ≤ 6 := by omega
      simp [hk', h1, h2, h2', goodSeal, hlc, hmo, eM, hfin]
    · have h2' : ¬ (s.length : Int) ≤ 6 := by omega
      simp [hk', h1, h2, h2', goodSeal]
def Ok_law_seal (F : Fn) : Prop := ∀ (o : Ob), DrawOb o → ∀ (h m : Int), 1 ≤ h → h ≤ 3 → 1 ≤ m → m ≤ 12 → ∀ rest : Store, ∃ (s : Strip) (o' : Ob), DrawOb o' ∧ Drawn h s ∧ (s.length : Int) ≤ m ∧ (∀ c ∈ s, ∀ i ∈ c, (0 : Int) ≤ i ∧ i ≤ 9) ∧ F [.loc 0, .int h, .int m] (o :: rest) = .ok (sv s) (o' :: rest)
theorem d_law_sealX_ok (hp : Ok_law_pull (C "_law_pull")) : Ok_law_seal (runDf C xs D.d_law_seal) := by
  intro o ho h mm hh0 hh1 hm0 hm1 rest
  obtain ⟨v1, o1, h1, a1, b1, e1⟩ := hp o ho 3 (by decide) (by decide) rest
  obtain ⟨top, ht⟩ : ∃ top : Int, top = if v1 = 0 then 2 else if v1 = 1 then 3 else 10 := ⟨_, rfl⟩
  have t1 : L2.atI [Val.int 2, .int 3, .int 10] v1 = some (.int top) := by
    rw [at3 a1 b1, ht]
    split
    · rfl
    · split <;> rfl
  have ht0 : 2 ≤ top ∧ top ≤ 10 := by
    rw [ht]
    split
    · omega
    · split <;> omega
  obtain ⟨v3, o3, h3, a3, b3, e3⟩ := hp o1 h1 mm (by omega) (by omega) rest
  obtain ⟨ws, st, el, hlen, hq, o4, h4, rfl⟩ := lc_draw (C := C) (env := [some (.loc 0), some (.int h), some (.int mm), some (.int top), some (.int (1 + v3)), none, none]) (st := o3 :: rest) (own := [5]) (it := .rng1 (.var 4)) (tg := .nm 5) (e := D.d_law_seal_e0) (zs := rangeV 0 (1 + v3)) (st1 := o3 :: rest)
    (fun st => ∃ o, DrawOb o ∧ st = o :: rest) (fun y => ∃ c : Col, y = cv c ∧ ((c.length : Int) = h ∧ ∀ i ∈ c, (0 : Int) ≤ i ∧ i ≤ 9)) (by
      simp [rngOk_eq, rngRaw, PySem.sizeLine]
      omega) ⟨o3, h3, rfl⟩ (by
      rintro x hx _ ⟨p, hp0, rfl⟩
      obtain ⟨ws, st, el, hlen, hq, p', hp', rfl⟩ := lc_draw (C := C) (env := [some (.loc 0), some (.int h), some (.int mm), some (.int top), some (.int (1 + v3)), some x, none]) (st := p :: rest) (own := [6]) (it := .rng1 (.var 1)) (tg := .nm 6) (e := D.d_law_seal_e1) (zs := rangeV 0 h) (st1 := p :: rest)
        (fun st => ∃ o, DrawOb o ∧ st = o :: rest) (fun y => ∃ i : Int, y = .int i ∧ (0 ≤ i ∧ i ≤ 9)) (by
          simp [rngOk_eq, rngRaw, PySem.sizeLine]
          omega) ⟨p, hp0, rfl⟩ (by
          rintro z hz _ ⟨p, hp0, rfl⟩
          obtain ⟨v, o', h', a', b', e'⟩ := hp p hp0 top (by omega) (by omega) rest
          refine ⟨_, .int v, _, rfl, ?_, ⟨_, rfl, by omega, by omega⟩, o', h', rfl⟩
          unfold D.d_law_seal_e1
          simp [wipe, e'])
      obtain ⟨c, rfl, hc⟩ := all_inj hq
      refine ⟨_, cv c, _, rfl, ?_, ⟨c, rfl, ?_, hc⟩, p', hp', rfl⟩
      · unfold D.d_law_seal_e0
        simp [wipe, el, cv]
      · rw [List.length_map, len_rangeV] at hlen
        omega)
  obtain ⟨s, rfl, hs⟩ := all_inj hq
  rw [List.length_map, len_rangeV] at hlen
  refine ⟨s, o4, h4, ⟨by omega, by omega, fun c hc => (hs c hc).1⟩, by omega, fun c hc => (hs c hc).2, ?_⟩
  unfold D.d_law_seal
  simp [exSs, e1, t1, e3, el, sv, PySem.sizeLine]
end P
/-! P4: strips turned about, broken, written. -/
namespace P
open PySem (Str PyData)
open Rc
variable {C : Str → List Val → M Val} {xs : List Str}
structure Ok_need_strip (F : Fn) : Prop where
  good : ∀ (s : Strip) (st : Store), goodStrip s = true → F [sv s] st = .ok .non st
  bad : ∀ (s : Strip) (st : Store), goodStrip s = false → F [sv s] st = .exc "BadStrip" none st
theorem d_need_strip_ok (hg : Ok_good_strip (C "good_strip")) : Ok_need_strip (runDf C xs D.d_need_strip) := by
  constructor
  · intro s st h
    unfold D.d_need_strip
    simp [exSs, hg s _, h]
  · intro s st h
    unfold D.d_need_strip
    simp [exSs, hg s _, h]
def turn (s : Strip) : Strip := s.reverse.map List.reverse
theorem turn_turn (s : Strip) : turn (turn s) = s := by
  unfold turn
  rw [← List.map_reverse, List.reverse_reverse, List.map_map]
  have : (List.reverse ∘ List.reverse : List Int → List Int) = id := by
    funext c
    exact List.reverse_reverse c
  rw [this, List.map_id]
theorem good_iff {s : Strip} : goodStrip s = true ↔ (1 ≤ s.length ∧ s.length ≤ 12 ∧ ∃ h, 1 ≤ h ∧ h ≤ 3 ∧ ∀ c ∈ s, c.length = h ∧ ∀ i ∈ c, -1 ≤ i ∧ i ≤ 9) := by
  constructor
  · intro h
    obtain ⟨a, b, c, d, e⟩ := good_cols h
    exact ⟨a, b, high s, c, d, e⟩
  · rintro ⟨h1, h2, h, h3, h4, h5⟩
    rcases s with _ | ⟨c0, s⟩
    · simp at h1
    · have e : high (c0 :: s) = h := (h5 c0 (List.mem_cons_self ..)).1
      unfold goodStrip
      simp only [Bool.and_eq_true, decide_eq_true_eq, List.all_eq_true]
      refine ⟨⟨h1, h2⟩, ?_⟩
      intro c hc
      obtain ⟨a1, a2⟩ := h5 c hc
      unfold okCol
      simp only [Bool.and_eq_true, decide_eq_true_eq, List.all_eq_true]
      refine ⟨⟨⟨by omega, by omega⟩, by rw [e, a1]⟩, ?_⟩
      intro i hi
      unfold okCell
      simp only [Bool.and_eq_true, decide_eq_true_eq]
      exact a2 i hi
def Ok_about (F : Fn) : Prop := ∀ (s : Strip) (st : Store), F [sv s] st = .ok (sv (turn s)) st
theorem d_about_ok : Ok_about (runDf C xs D.d_about) := by
  intro s st
  refine wp_eq rfl ?_
  have hlc : lcSem false [1] (evI C (.seq (.rev false (.var 0)))) (.nm 1) (evT C .nil) (evE C D.d_about_e0) [some (.tup (s.map cv)), none] st = .ok (.lst (s.reverse.map fun c => cv c.reverse)) st := by
    refine lc_mapA cv (fun c => cv c.reverse) (by simp) ?_
    intro c hc
    refine ⟨_, rfl, ?_⟩
    unfold D.d_about_e0
    simp [wipe, cv]
  unfold D.d_about sv
  simp [hlc, turn, Function.comp_def]
def Ok_law_turned (F : Fn) : Prop := ∀ (s : Strip) (st : Store), F [sv s] st = .ok (sv (turn s)) st
theorem d_law_turned_ok : Ok_law_turned (runDf C xs D.d_law_turned) := by
  intro s st
  refine wp_eq rfl ?_
  have hlc : lcSem false [1] (evI C (.seq (.rev false (.var 0)))) (.nm 1) (evT C .nil) (evE C D.d_law_turned_e0) [some (.tup (s.map cv)), none, none] st = .ok (.lst (s.reverse.map fun c => cv c.reverse)) st := by
    refine lc_mapA cv (fun c => cv c.reverse) (by simp) ?_
    intro c hc
    refine ⟨[some (.tup (s.map cv)), some (.tup (c.map .int)), none], rfl, ?_⟩
    have h2 : lcSem false [2] (evI C (.seq (.rev false (.var 1)))) (.nm 2) (evT C .nil) (evE C D.d_law_turned_e1) [some (.tup (s.map cv)), some (.tup (c.map .int)), none] st = .ok (.lst (c.reverse.map .int)) st := by
      refine lc_mapA .int .int (by simp) ?_
      intro i hi
      refine ⟨_, rfl, ?_⟩
      unfold D.d_law_turned_e1
      simp [wipe]
    unfold D.d_law_turned_e0
    simp [h2, cv_eq]
  unfold D.d_law_turned sv
  simp [hlc, turn, Function.comp_def]
def refused : Val := .lst [.str "refused"]
theorem plain_col {n : Nat} {c : Col} (h : c.length ≤ 10000) : plainV (n + 2) (cv c) := by
  refine .tup (by simpa using h) ?_
  intro w hw
  obtain ⟨i, _, rfl⟩ := List.mem_map.mp hw
  exact .int i
theorem plain_strip {n : Nat} {s : Strip} (h : s.length ≤ 10000) (h2 : ∀ c ∈ s, c.length ≤ 10000) : plainV (n + 3) (sv s) := by
  refine .tup (by simpa using h) ?_
  intro w hw
  obtain ⟨c, hc, rfl⟩ := List.mem_map.mp hw
  exact plain_col (h2 c hc)
theorem plain_good {n : Nat} {s : Strip} (h : goodStrip s = true) : plainV (n + 3) (sv s) := by
  obtain ⟨a, b, c, d, e⟩ := good_cols h
  exact plain_strip (by omega) fun c hc => by have := (e c hc).1; omega
end P
/-! P5: strips broken. -/
namespace P
open PySem (Str PyData)
open Rc
variable {C : Str → List Val → M Val} {xs : List Str}
structure Ok_parts (F : Fn) : Prop where
  good : ∀ (s : Strip) (a : Int) (st : Store), goodStrip s = true → 1 ≤ a → a < s.length → F [sv s, .int a] st = .ok (.tup [sv (cut s none (some a)), sv (cut s (some a) none)]) st
  wide : ∀ (s : Strip) (a : Int) (st : Store), goodStrip s = true → ¬ (1 ≤ a ∧ a < s.length) → F [sv s, .int a] st = .exc "BadWidth" none st
  bad : ∀ (s : Strip) (a : Int) (st : Store), goodStrip s = false → F [sv s, .int a] st = .exc "BadStrip" none st
theorem d_parts_ok (hn : Ok_need_strip (C "need_strip")) : Ok_parts (runDf C xs D.d_parts) := by
  refine ⟨?_, ?_, ?_⟩
  · intro s a st h h1 h2
    have e : ∀ st, C "need_strip" [.tup (s.map cv)] st = .ok .non st := fun st => hn.good s st h
    have c1 : ¬ a < 1 := by omega
    have c2 : ¬ (s.length : Int) ≤ a := by omega
    unfold D.d_parts sv
    simp [exSs, e, c1, c2, cut_map, PySem.sizeLine]
  · intro s a st h h1
    have e : ∀ st, C "need_strip" [.tup (s.map cv)] st = .ok .non st := fun st => hn.good s st h
    unfold D.d_parts sv
    by_cases c1 : a < 1
    · simp [exSs, e, c1]
    · have c2 : (s.length : Int) ≤ a := by omega
      simp [exSs, e, c1, c2]
  · intro s a st h
    have e : ∀ st, C "need_strip" [.tup (s.map cv)] st = .exc "BadStrip" none st := fun st => hn.bad s st h
    unfold D.d_parts sv
    simp [exSs, e]
theorem ne_cls {a b : String} (h : (Str.ofString a == Str.ofString b) = false) : ¬ Str.ofString a = Str.ofString b := by
  intro e
  rw [e] at h
  simp at h
def Ok_law_near (F : Fn) : Prop := ∀ (o : Ob), DrawOb o → ∀ (n : Int), 0 ≤ n → n ≤ 100000 → ∀ rest : Store, ∃ v o', DrawOb o' ∧ F [.loc 0, .int n] (o :: rest) = .ok (.int v) (o' :: rest)
theorem d_law_near_ok (hp : Ok_law_pull (C "_law_pull")) (hf : Ok_law_far (C "_law_far")) : Ok_law_near (runDf C xs D.d_law_near) := by
  intro o ho n h0 h1 rest
  obtain ⟨v1, o1, h1', a1, b1, e1⟩ := hp o ho 12 (by decide) (by decide) rest
  by_cases c : v1 = 7
  · obtain ⟨v2, o2, h2, e2⟩ := hf o1 h1' rest
    refine ⟨v2, o2, h2, ?_⟩
    unfold D.d_law_near
    simp [exSs, e1, c, e2]
  · obtain ⟨v2, o2, h2, a2, b2, e2⟩ := hp o1 h1' (n + 4) (by omega) (by omega) rest
    refine ⟨v2 - 2, o2, h2, ?_⟩
    unfold D.d_law_near
    simp [exSs, e1, c, e2]
end P
/-! P6: strips written. -/
namespace P
open PySem (Str PyData)
open Rc
variable {C : Str → List Val → M Val} {xs : List Str}
end P
/-! P7: seals rolled. -/
namespace Rc
theorem wp_forI {T : Val → Store → Prop} {body : Env → Store → RS} {tg : Tg} {ys : List Val} (I : Nat → Env → Store → Prop) : ∀ {zs : List Val} (n : Nat), (∀ i x, zs[i]? = some x → ∀ env st, I (n + i) env st → ∃ env', assignTg tg x env = some env' ∧ WP (body env' st) (I (n + i + 1)) T) →
    ∀ {env : Env} {st : Store}, I n env st → WP (forLoop body tg (Still ⟨ys, none⟩) zs env st) (I (n + zs.length)) T
  | [], n, _, env, st, h => by
    rw [forLoop_nil (by simp)]
    exact h
  | x :: zs, n, hb, env, st, h => by
    obtain ⟨env', e1, e2⟩ := hb 0 x rfl env st h
    rw [forLoop_cons (by simp) e1]
    have ih := fun (env : Env) (st : Store) (h : I (n + 1) env st) => wp_forI (T := T) (body := body) (tg := tg) (ys := ys) I (zs := zs) (n + 1) (fun i y hy env st hi => by
      have := hb (i + 1) y (by simpa using hy) env st (by rw [show n + (i + 1) = n + 1 + i by omega]; exact hi)
      rw [show n + (i + 1) + 1 = n + 1 + i + 1 by omega] at this
      exact this) h
    revert e2
    rcases body env' st with ⟨f, st1⟩ | ⟨c, r, e, st1⟩ | _
    · cases f
      · intro h
        have := ih _ _ h
        rw [show n + (x :: zs).length = n + 1 + zs.length by simp; omega]
        exact this
      · exact fun h => h
    · exact fun h => h
    · exact fun h => h
theorem wpk_forI {C : PySem.Str → List Val → M Val} {xs : List PySem.Str} {N : Env → Store → Prop} {T : Val → Store → Prop} {body : Env → Store → RS} {tg : Tg} {ys : List Val} {ss : Ss} (I : Nat → Env → Store → Prop) {zs : List Val} {env : Env} {st : Store} (h0 : I 0 env st) (hb : ∀ i x, zs[i]? = some x → ∀ env st, I i env st → ∃ env', assignTg tg x env = some env' ∧ WP (body env' st) (I (i + 1)) T)
    (hn : ∀ env st, I zs.length env st → WP (exSs C xs ss env st) N T) : WPK (forLoop body tg (Still ⟨ys, none⟩) zs env st) C xs ss N T := by
  have := wp_forI (T := T) (body := body) (tg := tg) (ys := ys) I (zs := zs) 0 (fun i x hx env st h => by
    have := hb i x hx env st (by simpa using h)
    simpa using this) h0
  rw [Nat.zero_add] at this
  exact wp_mono this hn fun _ _ h => h
end Rc
namespace P
open PySem (Str PyData)
open Rc
variable {C : Str → List Val → M Val} {xs : List Str}
/-! ### plain values are not touched by the cut -/
theorem mapO_id {α : Type} {f : α → Option α} : ∀ {l : List α}, (∀ a ∈ l, f a = some a) → mapO f l = some l
  | [], _ => rfl
  | a :: l, h => by
    rw [e_moc, h a (List.mem_cons_self ..), mapO_id fun b hb => h b (List.mem_cons_of_mem _ hb)]
    rfl
theorem frz_plain {st : Store} {b : Nat} : ∀ {m n : Nat} {v : Val}, plainV n v → n ≤ m → frz st b m v = some v
  | 0, n, v, h, hm => by
    cases h <;> omega
  | m + 1, n, v, h, hm => by
    cases h with
    | non => rfl
    | bl b => rfl
    | int i => rfl
    | str x => rfl
    | @tup n vs h1 h2 =>
      show (mapO (frz st b m) vs).map Val.tup = _
      rw [mapO_id fun a ha => frz_plain (h2 a ha) (by omega)]
      rfl
    | @lst n vs h1 h2 =>
      show (mapO (frz st b m) vs).map Val.lst = _
      rw [mapO_id fun a ha => frz_plain (h2 a ha) (by omega)]
      rfl
theorem cut_ok {m : M Val} {st ext : Store} {v : Val} {n : Nat} (h : m st = .ok v (st ++ ext)) (hp : plainV n v) (hn : n ≤ 10) : cutM m st = .ok v st := by
  unfold cutM
  rw [h]
  dsimp only
  rw [if_pos ⟨by simp, .inl (by simp)⟩]
  have : frz (st ++ ext) st.length depthD v = some v := frz_plain hp hn
  rw [this]
  simp
/-! ### seals -/
/-- the print of a seal: n columns from a on -/
def prt (s : Strip) (a n : Nat) : Strip := (List.range n).map fun k => s.getD ((a + k) % s.length) []
theorem prt_len (s : Strip) (a n : Nat) : (prt s a n).length = n := by simp [prt]
theorem prt_mem {s : Strip} {a n : Nat} (h : 1 ≤ s.length) : ∀ c ∈ prt s a n, c ∈ s := by
  intro c hc
  unfold prt at hc
  obtain ⟨k, _, rfl⟩ := List.mem_map.mp hc
  have hlt : (a + k) % s.length < s.length := Nat.mod_lt _ (by omega)
  rw [List.getD_eq_getElem?_getD, List.getElem?_eq_getElem hlt]
  exact List.getElem_mem hlt
theorem at_getD {s : Strip} {i : Nat} (h : i < s.length) : L2.atI (s.map cv) (i : Int) = some (cv (s.getD i [])) := by
  rw [at_map]
  unfold L2.atI L2.ixN
  rw [if_pos (by omega), if_pos (by omega)]
  simp [h]
def Ok_print_of (F : Fn) : Prop := ∀ (s : Strip) (a n : Nat) (st : Store), 1 ≤ s.length → s.length ≤ 1000 → n ≤ 1000 → F [sv s, .int a, .int n] st = .ok (sv (prt s a n)) st
theorem rangeV_nat (n : Nat) : rangeV 0 (n : Int) = (List.range n).map fun k : Nat => Val.int (k : Int) := by
  unfold rangeV
  rw [Int.sub_zero, Int.toNat_natCast]
  refine List.map_congr_left fun k _ => ?_
  rw [Int.zero_add]
theorem print_e0 {s : Strip} {a k : Nat} {st : Store} {q : Option Val} {env : Env} (h1 : 0 < s.length) : evE C D.d_print_of_e0 [some (.tup (s.map cv)), some (.int a), q, some (.int k)] st = .ok (cv (s.getD ((a + k) % s.length) [])) st := by
  have hlt : (a + k) % s.length < s.length := Nat.mod_lt _ h1
  have e := at_getD hlt
  have em : ((a : Int) + (k : Int)) % (s.length : Int) = (((a + k) % s.length : Nat) : Int) := by
    rw [Int.natCast_emod, Int.natCast_add]
  have e' : L2.atI (s.map cv) (((a : Int) + (k : Int)) % (s.length : Int)) = some (cv (s.getD ((a + k) % s.length) [])) := by rw [em]; exact e
  clear e em hlt
  generalize cv (s.getD ((a + k) % s.length) []) = r at e' ⊢
  unfold D.d_print_of_e0
  simp [h1, e']
theorem d_print_of_ok : Ok_print_of (runDf C xs D.d_print_of) := by
  intro s a n st h1 h2 hn
  refine wp_eq rfl ?_
  have hlc : lcSem false [3] (evI C (.rng1 (.var 2))) (.nm 3) (evT C .nil) (evE C D.d_print_of_e0) [some (.tup (s.map cv)), some (.int a), some (.int n), none] st = .ok (.lst ((List.range n).map fun k => cv (s.getD ((a + k) % s.length) []))) st := by
    refine lc_mapA (fun k : Nat => Val.int (k : Int)) (fun k => cv (s.getD ((a + k) % s.length) [])) ?_ ?_
    · have hr := rng_ok (show (0 : Int) ≤ n by omega) (by omega)
      rw [← rangeV_nat]
      generalize (n : Int) = m at hr ⊢
      simp [hr]
    · intro k hk
      exact ⟨[some (.tup (s.map cv)), some (.int a), some (.int n), some (.int k)], rfl, print_e0 (env := []) (by omega)⟩
  have hm : ((List.range n).map fun k => cv (s.getD ((a + k) % s.length) [])) = (prt s a n).map cv := by
    unfold prt
    rw [List.map_map]
    rfl
  rw [hm] at hlc
  generalize prt s a n = r at hlc ⊢
  unfold D.d_print_of sv
  simp [hlc]
end P
/-! P8: rollings. -/
namespace P
open PySem (Str PyData)
open Rc
variable {C : Str → List Val → M Val} {xs : List Str}
theorem seal_len {s : Strip} (h : goodSeal s = true) : 1 ≤ s.length ∧ s.length ≤ 6 := by
  unfold goodSeal at h
  simp only [Bool.and_eq_true, decide_eq_true_eq] at h
  obtain ⟨a, _⟩ := good_cols h.1.1
  exact ⟨a, h.1.2⟩
theorem prt_succ (s : Strip) (a n : Nat) : prt s a (n + 1) = prt s a n ++ [s.getD ((a + n) % s.length) []] := by
  unfold prt
  rw [List.range_succ, List.map_append]
  rfl
def Ok_law_print (F : Fn) : Prop := ∀ (s : Strip) (a n : Nat) (st : Store), a < s.length → s.length ≤ 1000 → n ≤ 1000 → ∃ ext, F [sv s, .int a, .int n] st = .ok (sv (prt s a n)) (st ++ ext)
theorem d_law_print_ok : Ok_law_print (runDf C xs D.d_law_print) := by
  intro s a n st h1 h2 hn
  have key : ∃ v st', runDf C xs D.d_law_print [sv s, .int a, .int n] st = .ok v st' ∧ (v = sv (prt s a n) ∧ ∃ ext, st' = st ++ ext) := by
    refine wp_run rfl ?_
    unfold D.d_law_print sv
    have hr := rng_ok (show (0 : Int) ≤ n by omega) (by omega)
    simp [PySem.sizeLine, hr, -Still]
    refine wpk_forI (fun i env st' => ∃ q, env = [some (.tup (s.map cv)), some (.int a), some (.int n), some (.loc st.length), some (.int (((a + i) % s.length : Nat) : Int)), q] ∧ st' = st ++ [.lst ((prt s a i).map cv)] ∧ i ≤ n) ⟨none, by rw [Nat.mod_eq_of_lt (by omega)]; simp, by simp [prt], by omega⟩ ?_ ?_
    · rintro i x hx env st' ⟨q, rfl, rfl, hi⟩
      refine ⟨_, rfl, ?_⟩
      have hi' : i < n := by
        rw [rangeV_nat] at hx
        have := (List.getElem?_eq_some_iff.mp hx).1
        simpa using this
      have hlt : (a + i) % s.length < s.length := Nat.mod_lt _ (by omega)
      have e := at_getD hlt
      have nx : (((a + (i + 1)) % s.length : Nat) : Int) = if (((a + i) % s.length : Nat) : Int) + 1 < s.length then (((a + i) % s.length : Nat) : Int) + 1 else 0 := by
        split
        · rename_i hc
          have : (a + (i + 1)) % s.length = (a + i) % s.length + 1 := by
            rw [← Nat.add_assoc, Nat.add_mod]
            rw [Nat.mod_eq_of_lt (a := 1) (by omega)]
            exact Nat.mod_eq_of_lt (by omega)
          omega
        · rename_i hc
          have hl : (a + i) % s.length + 1 = s.length := by omega
          have : (a + (i + 1)) % s.length = 0 := by
            rw [← Nat.add_assoc, ← Nat.mod_add_mod, hl, Nat.mod_self]
          omega
      rw [nx]
      have hw : ∀ y, wrLst .append st.length [y] (st ++ [.lst ((prt s a i).map cv)]) = .ok .non (st ++ [.lst ((prt s a i).map cv ++ [y])]) := fun y => by
        rw [wr_append (xs := (prt s a i).map cv) (by simp) (by rw [List.length_map, prt_len]; show _ ≤ 16777216; omega)]
        simp
      have em := prt_succ s a i
      generalize (a + i) % s.length = j at e em ⊢
      unfold D.d_law_print_b0
      by_cases hc : (j : Int) + 1 < s.length
      · simp [hw, e, hc, em, List.map_append]
        omega
      · simp [hw, e, hc, em, List.map_append]
        omega
    · rintro env st' ⟨q, rfl, rfl, hi⟩
      have : (rangeV 0 (n : Int)).length = n := by rw [rangeV_nat]; simp
      rw [this]
      simp
  obtain ⟨v, st', e, rfl, ext, rfl⟩ := key
  exact ⟨ext, e⟩
end P
/-! P9: tables, instances; the workshop's own parts. -/
namespace Rc
open PySem
@[simp] theorem e_obFd {c f : Str} {k : Nat} {fs : List (Str × Val)} : obFld f k (some (.ins c fs)) = (fs[k]?).bind fun p => if p.1 = f then some p.2 else none := by
  show (match fs[k]? with
    | some p => if p.1 = f then some p.2 else none
    | none => none) = _
  cases fs[k]? <;> rfl
@[simp] theorem e_fsat {st : Store} {c d f : Str} {k l : Nat} {v : Val} {fs : List (Str × Val)} : fsetAt st c l f k v (some (.ins d fs)) = if d = c then (putFld f k v fs).map fun gs => st.set l (.ins d gs) else none := rfl
@[simp] theorem e_faug {st : Store} {c f : Str} {k l : Nat} {i : Int} : faugOp st c f k i (.loc l) = (obFld f k st[l]?).bind fun v => (toInt v).bind fun j => fsetAt st c l f k (.int (j + i)) st[l]? := rfl
@[simp] theorem e_toI {i : Int} : toInt (.int i) = some i := rfl
theorem wpk_seq {C : PySem.Str → List Val → M Val} {xs : List PySem.Str} {N : Env → Store → Prop} {T : Val → Store → Prop} {r : RS} {ss : Ss} (I : Env → Store → Prop) (h : WP r I T) (k : ∀ e s, I e s → WP (exSs C xs ss e s) N T) : WPK r C xs ss N T :=
  wp_mono h k fun _ _ h => h
end Rc
namespace P
open PySem (Str PyData)
open Rc
variable {C : Str → List Val → M Val} {xs : List Str}
/-! ### tables by whole numbers -/
section
variable {α : Type}
def lk (t : List (Int × α)) (n : Int) : Option α := (t.find? fun p => decide (p.1 = n)).map (·.2)
def pt (t : List (Int × α)) (n : Int) (a : α) : List (Int × α) := if (t.any fun p => decide (p.1 = n)) = true then t.map (fun p => if p.1 = n then (p.1, a) else p) else t ++ [(n, a)]
def dp (t : List (Int × α)) (n : Int) : List (Int × α) := t.filter fun p => decide (p.1 ≠ n)
def ent (f : α → Val) (p : Int × α) : Key × Val := (.inl p.1, f p.2)
theorem look_ent {f : α → Val} {t : List (Int × α)} {n : Int} : look (t.map (ent f)) (.inl n) = (lk t n).map f := by
  unfold look lk
  induction t with
  | nil => rfl
  | cons p t ih =>
    by_cases h : p.1 = n
    · simp [ent, h]
    · simpa [ent, h] using ih
theorem any_ent {f : α → Val} {t : List (Int × α)} {n : Int} : ((t.map (ent f)).any fun kv => decide (kv.1 = .inl n)) = t.any fun p => decide (p.1 = n) := by
  rw [List.any_map]
  congr 1
  funext p
  simp [ent]
theorem put_ent {f : α → Val} {t : List (Int × α)} {n : Int} {a : α} : put (t.map (ent f)) (.inl n) (f a) = (pt t n a).map (ent f) := by
  unfold put pt
  rw [any_ent]
  split
  · rw [List.map_map, List.map_map]
    refine List.map_congr_left fun p _ => ?_
    by_cases h : p.1 = n <;> simp [ent, h]
  · simp [ent]
theorem drp_ent {f : α → Val} {t : List (Int × α)} {n : Int} : drp (t.map (ent f)) (.inl n) = (dp t n).map (ent f) := by
  unfold drp dp
  rw [List.filter_map]
  congr 1
  refine List.filter_congr fun p _ => ?_
  by_cases h : p.1 = n <;> simp [ent, h]
theorem list_ent {f : α → Val} {t : List (Int × α)} : ((t.map (ent f)).map fun kv => keyVal kv.1) = (t.map (·.1)).map .int := by
  rw [List.map_map, List.map_map]
  rfl
theorem lk_mem {t : List (Int × α)} {n : Int} {a : α} (h : lk t n = some a) : (n, a) ∈ t := by
  unfold lk at h
  obtain ⟨p, hp, rfl⟩ := Option.map_eq_some_iff.mp h
  have h1 := List.mem_of_find?_eq_some hp
  have h2 := List.find?_some hp
  simp at h2
  rw [← h2]
  exact h1
theorem lk_any {t : List (Int × α)} {n : Int} : (t.any fun p => decide (p.1 = n)) = (lk t n).isSome := by
  unfold lk
  induction t with
  | nil => rfl
  | cons p t ih =>
    by_cases h : p.1 = n
    · simp [h]
    · simpa [h] using ih
theorem lk_none {t : List (Int × α)} {n : Int} : lk t n = none ↔ n ∉ t.map (·.1) := by
  unfold lk
  simp only [Option.map_eq_none_iff, List.find?_eq_none, decide_eq_true_eq, List.mem_map, not_exists, not_and]
theorem lk_some {t : List (Int × α)} {n : Int} (h : n ∈ t.map (·.1)) : ∃ a, lk t n = some a := by
  cases e : lk t n with
  | none => exact absurd h (lk_none.mp e)
  | some a => exact ⟨a, rfl⟩
theorem pt_keys {t : List (Int × α)} {n : Int} {a : α} : (pt t n a).map (·.1) = if n ∈ t.map (·.1) then t.map (·.1) else t.map (·.1) ++ [n] := by
  unfold pt
  by_cases h : n ∈ t.map (·.1)
  · obtain ⟨b, hb⟩ := lk_some h
    rw [lk_any, hb, if_pos (by rfl), if_pos h, List.map_map]
    refine List.map_congr_left fun p _ => ?_
    by_cases hp : p.1 = n <;> simp [hp]
  · rw [lk_any, lk_none.mpr h, if_neg (by simp), if_neg h]
    simp
theorem pt_mem {t : List (Int × α)} {n : Int} {a : α} {p : Int × α} (h : p ∈ pt t n a) : p = (n, a) ∨ (p ∈ t ∧ p.1 ≠ n) ∨ (p ∈ t ∧ n ∉ t.map (·.1)) := by
  unfold pt at h
  split at h
  · obtain ⟨q, hq, rfl⟩ := List.mem_map.mp h
    by_cases hn : q.1 = n
    · rw [if_pos hn, hn]
      exact .inl rfl
    · rw [if_neg hn]
      exact .inr (.inl ⟨hq, hn⟩)
  · rename_i hn
    rcases List.mem_append.mp h with h | h
    · refine .inr (.inr ⟨h, ?_⟩)
      rw [lk_any] at hn
      exact lk_none.mp (by simpa using hn)
    · exact .inl (List.mem_singleton.mp h)
theorem dp_mem {t : List (Int × α)} {n : Int} {p : Int × α} (h : p ∈ dp t n) : p ∈ t ∧ p.1 ≠ n := by
  unfold dp at h
  simpa using h
end
/-! ### equality of tuples of ints -/
theorem eqv_ints : ∀ {a b : List Int}, PyData.eqvAll (a.map .int) (b.map .int) = decide (a = b)
  | [], [] => by simp [PyData.eqvAll]
  | [], _ :: _ => by simp [PyData.eqvAll]
  | _ :: _, [] => by simp [PyData.eqvAll]
  | x :: a, y :: b => by
    have := @eqv_ints a b
    by_cases h : x = y <;> simp [PyData.eqvAll, PyData.eqv, this, h]
theorem toD_ints {st : Store} {n : Nat} : ∀ {a : List Int}, mapO (toD st (n + 1)) (a.map .int) = some (a.map .int)
  | [] => rfl
  | x :: a => by
    rw [List.map_cons, e_moc, toD_ints]
    rfl
@[simp] theorem veq_ints {st : Store} {a b : List Int} : veq st (.tup (a.map .int)) (.tup (b.map .int)) = some (decide (a = b)) := by
  have h : ∀ c : List Int, toD st depthD (.tup (c.map .int)) = some (.tuple (c.map .int)) := fun c => by
    show (mapO (toD st 9) (c.map .int)).map PyData.tuple = _
    rw [toD_ints]
    rfl
  show ((toD st depthD (.tup (a.map .int))).bind fun d => (toD st depthD (.tup (b.map .int))).map fun e => PyData.eqv d e) = _
  rw [h, h]
  show some (PyData.eqv (.tuple (a.map .int)) (.tuple (b.map .int))) = _
  rw [show PyData.eqv (.tuple (a.map .int)) (.tuple (b.map .int)) = PyData.eqvAll (a.map .int) (b.map .int) from rfl, eqv_ints]
/-! ### the workshop: what it is, seen from both sides -/
structure Roll where
  sn : Int
  start : Int
  size : Int
structure Thing where
  rows : Strip
  turn : Nat
  roll : Roll
  first : Int
  way : Int
structure Sh where
  high : Int
  seals : List Strip
  things : List (Int × Thing)
  given : Int
  rolls : List Roll
def whence (t : Thing) : Val := .tup ([(t.turn : Int), t.roll.sn, t.roll.start, t.roll.size].map .int)
def pVal (t : Thing) : Val := .tup [sv t.rows, whence t, .int t.first, .int t.way]
def GoodT (S : Sh) (t : Thing) : Prop := 1 ≤ t.rows.length ∧ t.first + t.rows.length ≤ 12 ∧ (∀ c ∈ t.rows, (c.length : Int) = S.high ∧ ∀ i ∈ c, -1 ≤ i ∧ i ≤ 9) ∧ 0 ≤ t.first ∧ (t.way = 0 ∨ t.way = 1) ∧ S.rolls[t.turn]? = some t.roll ∧ 0 < t.roll.size
structure GoodS (S : Sh) : Prop where
  h1 : 1 ≤ S.high
  h2 : S.high ≤ 3
  sl : S.seals.length ≤ 6
  sg : ∀ s ∈ S.seals, goodSeal s = true ∧ (high s : Int) = S.high
  g0 : S.things.length ≤ S.given
  g1 : S.given ≤ 40
  rl : S.rolls.length ≤ S.given
  nd : (S.things.map (·.1)).Nodup
  tb : ∀ p ∈ S.things, 0 ≤ p.1 ∧ p.1 < S.given
  tg : ∀ p ∈ S.things, GoodT S p.2
def shopOb (S : Sh) (a b : Nat) : Ob := .ins "Shop" [("height", .int S.high), ("rack", .loc a), ("shelf", .loc b), ("given", .int S.given), ("turns", .int S.rolls.length)]
/-- the workshop stands at l, its seals at a, its strips at b -/
structure ShopAt (st : Store) (l a b : Nat) (S : Sh) : Prop where
  o : st[l]? = some (shopOb S a b)
  r : st[a]? = some (.lst (S.seals.map sv))
  s : st[b]? = some (.dK (S.things.map (ent pVal)))
/-- two stores that are alike but for some places -/
structure Off (is : List Nat) (st st' : Store) : Prop where
  len : st'.length = st.length
  off : ∀ i, i ∉ is → st'[i]? = st[i]?
theorem Off.refl {is : List Nat} {st : Store} : Off is st st := ⟨rfl, fun _ _ => rfl⟩
theorem Off.trans {is : List Nat} {a b c : Store} (h : Off is a b) (k : Off is b c) : Off is a c := ⟨k.len.trans h.len, fun i hi => (k.off i hi).trans (h.off i hi)⟩
theorem Off.set {is : List Nat} {st : Store} {i : Nat} {o : Ob} (h : i ∈ is) : Off is st (st.set i o) := ⟨by simp, fun j hj => by
  rw [List.getElem?_set_ne]
  exact fun e => hj (e ▸ h)⟩
theorem ShopAt.off {st st' : Store} {l a b : Nat} {S : Sh} {is : List Nat} (h : ShopAt st l a b S) (k : Off is st st') (h1 : l ∉ is) (h2 : a ∉ is) (h3 : b ∉ is) : ShopAt st' l a b S := ⟨(k.off l h1).trans h.o, (k.off a h2).trans h.r, (k.off b h3).trans h.s⟩
theorem ne_of_ob {st : Store} {i j : Nat} {o p : Ob} (h : st[i]? = some o) (k : st[j]? = some p) (n : o ≠ p) : i ≠ j := fun e => by
  subst e
  rw [h] at k
  exact n (Option.some.inj k)
theorem ShopAt.la {st : Store} {l a b : Nat} {S : Sh} (h : ShopAt st l a b S) : l ≠ a := ne_of_ob h.o h.r (by simp [shopOb])
theorem ShopAt.lb {st : Store} {l a b : Nat} {S : Sh} (h : ShopAt st l a b S) : l ≠ b := ne_of_ob h.o h.s (by simp [shopOb])
theorem ShopAt.ab {st : Store} {l a b : Nat} {S : Sh} (h : ShopAt st l a b S) : a ≠ b := ne_of_ob h.r h.s (by simp)
theorem lt_of_at {st : Store} {i : Nat} {o : Ob} (h : st[i]? = some o) : i < st.length := (List.getElem?_eq_some_iff.mp h).1
theorem ShopAt.setA {st : Store} {l a b : Nat} {S : Sh} (h : ShopAt st l a b S) (q : List Strip) : ShopAt (st.set a (.lst (q.map sv))) l a b { S with seals := q } :=
  ⟨by rw [List.getElem?_set_ne h.la.symm]; exact h.o, by rw [List.getElem?_set_self (lt_of_at h.r)], by rw [List.getElem?_set_ne h.ab]; exact h.s⟩
theorem ShopAt.setB {st : Store} {l a b : Nat} {S : Sh} (h : ShopAt st l a b S) (q : List (Int × Thing)) : ShopAt (st.set b (.dK (q.map (ent pVal)))) l a b { S with things := q } :=
  ⟨by rw [List.getElem?_set_ne h.lb.symm]; exact h.o, by rw [List.getElem?_set_ne h.ab.symm]; exact h.r, by rw [List.getElem?_set_self (lt_of_at h.s)]⟩
/-! ### its parts -/
structure Ok_need_height (F : Fn) : Prop where
  good : ∀ (h : Int) (st : Store), 1 ≤ h → h ≤ 3 → F [.int h] st = .ok .non st
  bad : ∀ (h : Int) (st : Store), ¬ (1 ≤ h ∧ h ≤ 3) → F [.int h] st = .exc "BadHeight" none st
theorem d_need_height_ok : Ok_need_height (runDf C xs D.d_need_height) := by
  constructor
  · intro h st h1 h2
    have c1 : ¬ h < 1 := by omega
    have c2 : ¬ 3 < h := by omega
    unfold D.d_need_height
    simp [exSs, c1, c2]
  · intro h st h1
    unfold D.d_need_height
    by_cases c1 : h < 1
    · simp [exSs, c1]
    · have c2 : 3 < h := by omega
      simp [exSs, c1, c2]
structure Ok_Shop_need_seal (F : Fn) : Prop where
  good : ∀ {st : Store} {l a b : Nat} {S : Sh}, ShopAt st l a b S → ∀ n : Int, 0 ≤ n → n < S.seals.length → F [.loc l, .int n] st = .ok .non st
  bad : ∀ {st : Store} {l a b : Nat} {S : Sh}, ShopAt st l a b S → ∀ n : Int, ¬ (0 ≤ n ∧ n < S.seals.length) → F [.loc l, .int n] st = .exc "NoSeal" none st
theorem d_Shop_need_seal_ok : Ok_Shop_need_seal (runDf C xs D.d_Shop_need_seal) := by
  constructor
  · intro st l a b S h n h1 h2
    have c1 : ¬ n < 0 := by omega
    have c2 : ¬ (S.seals.length : Int) ≤ n := by omega
    unfold D.d_Shop_need_seal
    simp [exSs, h.o, h.r, shopOb, c1, c2]
  · intro st l a b S h n h1
    unfold D.d_Shop_need_seal
    by_cases c1 : n < 0
    · simp [exSs, h.o, h.r, shopOb, c1]
    · have c2 : (S.seals.length : Int) ≤ n := by omega
      simp [exSs, h.o, h.r, shopOb, c1, c2]
structure Ok_Shop_need_strip (F : Fn) : Prop where
  good : ∀ {st : Store} {l a b : Nat} {S : Sh}, ShopAt st l a b S → ∀ (n : Int) (t : Thing), lk S.things n = some t → F [.loc l, .int n] st = .ok .non st
  bad : ∀ {st : Store} {l a b : Nat} {S : Sh}, ShopAt st l a b S → ∀ n : Int, lk S.things n = none → F [.loc l, .int n] st = .exc "NoStrip" none st
theorem d_Shop_need_strip_ok : Ok_Shop_need_strip (runDf C xs D.d_Shop_need_strip) := by
  constructor
  · intro st l a b S h n t ht
    unfold D.d_Shop_need_strip
    simp [exSs, h.o, h.s, shopOb, look_ent, ht]
  · intro st l a b S h n ht
    unfold D.d_Shop_need_strip
    simp [exSs, h.o, h.s, shopOb, look_ent, ht]
end P
/-! P10: the workshop's deeds, as the program does them. -/
namespace P
open PySem (Str PyData)
open Rc
variable {C : Str → List Val → M Val} {xs : List Str}
/-! ### deeds -/
abbrev Out := Str × Val × Sh
def dCut (S : Sh) (s : Strip) : Out :=
  if goodSeal s = true ∧ (high s : Int) = S.high then
    if S.seals.length < 6 then ("", .int S.seals.length, { S with seals := S.seals ++ [s] }) else ("Full", .non, S)
  else ("BadSeal", .non, S)
def cellAt (s : Strip) (k r : Nat) : Int := (nth s k).getD r 0
def dChip (S : Sh) (n c r : Int) : Out :=
  if 0 ≤ n ∧ n < S.seals.length then
    if 0 ≤ c ∧ c < (nth S.seals n.toNat).length ∧ 0 ≤ r ∧ r < S.high then
      if cellAt (nth S.seals n.toNat) c.toNat r.toNat = 0 then ("Bare", .non, S)
      else ("", .int (cellAt (nth S.seals n.toNat) c.toNat r.toNat), { S with seals := S.seals.set n.toNat (setCell (nth S.seals n.toNat) c.toNat r.toNat 0) })
    else ("NoCell", .non, S)
  else ("NoSeal", .non, S)
def dRoll (S : Sh) (n a w : Int) : Out :=
  if 0 ≤ n ∧ n < S.seals.length then
    if 0 ≤ a ∧ a < (nth S.seals n.toNat).length then
      if 1 ≤ w ∧ w ≤ 12 then
        if S.given < 40 then ("", .int S.given, { S with things := S.things ++ [(S.given, ⟨prt (nth S.seals n.toNat) a.toNat w.toNat, S.rolls.length, ⟨n, a, (nth S.seals n.toNat).length⟩, 0, 0⟩)], given := S.given + 1, rolls := S.rolls ++ [⟨n, a, (nth S.seals n.toNat).length⟩] })
        else ("Full", .non, S)
      else ("BadWidth", .non, S)
    else ("BadStart", .non, S)
  else ("NoSeal", .non, S)
def dTurn (S : Sh) (n : Int) : Out := match lk S.things n with
  | some t => ("", .non, { S with things := pt S.things n { t with rows := turn t.rows, way := 1 - t.way } })
  | none => ("NoStrip", .non, S)
def dWear (S : Sh) (n c r : Int) : Out := match lk S.things n with
  | some t =>
    if 0 ≤ c ∧ c < t.rows.length ∧ 0 ≤ r ∧ r < S.high then
      if cellAt t.rows c.toNat r.toNat = -1 then ("Lost", .non, S)
      else ("", .int (cellAt t.rows c.toNat r.toNat), { S with things := pt S.things n { t with rows := setCell t.rows c.toNat r.toNat (-1) } })
    else ("NoCell", .non, S)
  | none => ("NoStrip", .non, S)
def dSnap (S : Sh) (n at_ : Int) : Out := match lk S.things n with
  | some t =>
    if 1 ≤ at_ ∧ at_ < t.rows.length then
      if S.given < 40 then ("", .int S.given, { S with
        things := pt S.things n { t with rows := t.rows.take at_.toNat, first := if t.way = 0 then t.first else t.first + (t.rows.length - at_) } ++ [(S.given, { t with rows := t.rows.drop at_.toNat, first := if t.way = 0 then t.first + at_ else t.first })],
        given := S.given + 1 })
      else ("Full", .non, S)
    else ("BadWidth", .non, S)
  | none => ("NoStrip", .non, S)
def dJoin (S : Sh) (n m : Int) : Out := match lk S.things n, lk S.things m with
  | some t, some u =>
    if n = m then ("SameOne", .non, S)
    else if t.turn = u.turn ∧ t.way = u.way ∧ (t.way = 0 → t.first + t.rows.length = u.first) ∧ (t.way = 1 → u.first + u.rows.length = t.first) then
      ("", .non, { S with things := dp (pt S.things n { t with rows := t.rows ++ u.rows, first := if t.way = 0 then t.first else u.first }) m })
    else ("NotPieces", .non, S)
  | _, _ => ("NoStrip", .non, S)
def dLose (S : Sh) (n : Int) : Out := match lk S.things n with
  | some t => ("", sv t.rows, { S with things := dp S.things n })
  | none => ("NoStrip", .non, S)
/-- how the program's run ends -/
inductive ResP (F : Fn) (args : List Val) (st : Store) (l a b : Nat) : Out → Prop
  | ok {v : Val} {S' : Sh} {st' : Store} : F args st = .ok v st' → ShopAt st' l a b S' → Off [l, a, b] st st' → ResP F args st l a b ("", v, S')
  | exc {w : Str} {S : Sh} : w ≠ "" → F args st = .exc w none st → ResP F args st l a b (w, .non, S)
theorem nw {a : String} (h : (Str.ofString a == Str.ofString "") = false) : ¬ Str.ofString a = Str.ofString "" := fun e => by rw [e] at h; simp at h
theorem seal_cols {s : Strip} (h : goodSeal s = true) : 1 ≤ s.length ∧ s.length ≤ 6 ∧ 1 ≤ high s ∧ high s ≤ 3 ∧ ∀ c ∈ s, c.length = high s ∧ ∀ i ∈ c, 0 ≤ i ∧ i ≤ 9 := by
  obtain ⟨l1, l2⟩ := seal_len h
  have h' := h
  unfold goodSeal at h'
  simp only [Bool.and_eq_true, decide_eq_true_eq] at h'
  obtain ⟨g1, g2, g3, g4, g5⟩ := good_cols h'.1.1
  refine ⟨l1, l2, g3, g4, fun c hc => ⟨(g5 c hc).1, fun i hi => ?_⟩⟩
  have := (g5 c hc).2 i hi
  have h2 := h'.2
  rw [Bool.not_eq_true', List.any_eq_false] at h2
  have h3 := h2 c hc
  unfold lost at h3
  rw [Bool.not_eq_true, List.any_eq_false] at h3
  have h4 := h3 i hi
  simp at h4
  omega
theorem nth_mem {α : Type} {s : List (List α)} {k : Nat} (h : k < s.length) : nth s k ∈ s := by
  unfold nth
  rw [List.getD_eq_getElem?_getD, List.getElem?_eq_getElem h]
  exact List.getElem_mem h
theorem high_eq {s : Strip} (h : 1 ≤ s.length) : L2.atI (s.map cv) 0 = some (.tup ((nth s 0).map .int)) ∧ high s = (nth s 0).length := by
  rcases s with _ | ⟨c, s⟩
  · simp at h
  · exact ⟨by rw [List.map_cons, at_zero]; rfl, rfl⟩
structure Ok_Shop_add (F : Fn) : Prop where
  full : ∀ {st : Store} {l a b : Nat} {S : Sh}, ShopAt st l a b S → ∀ t : Thing, ¬ S.given < 40 → F [.loc l, pVal t] st = .exc "Full" none st
  ok : ∀ {st : Store} {l a b : Nat} {S : Sh}, ShopAt st l a b S → ∀ t : Thing, S.given < 40 → S.given ∉ S.things.map (·.1) → S.things.length ≤ 40 → ∃ st', F [.loc l, pVal t] st = .ok (.int S.given) st' ∧ ShopAt st' l a b { S with things := S.things ++ [(S.given, t)], given := S.given + 1 } ∧ Off [l, a, b] st st'
theorem pt_new {α : Type} {t : List (Int × α)} {n : Int} {a : α} (h : n ∉ t.map (·.1)) : pt t n a = t ++ [(n, a)] := by
  unfold pt
  rw [lk_any, lk_none.mpr h, if_neg (by simp)]
theorem d_Shop_add_ok : Ok_Shop_add (runDf C xs D.d_Shop_add) := by
  constructor
  · intro st l a b S h t hg
    have c : (40 : Int) ≤ S.given := by omega
    unfold D.d_Shop_add
    simp [exSs, h.o, shopOb, c]
  · intro st l a b S h t hg hn hl
    have c : ¬ (40 : Int) ≤ S.given := by omega
    have e1 := put_ent (f := pVal) (t := S.things) (n := S.given) (a := t)
    rw [pt_new hn] at e1
    refine ⟨(st.set b (.dK ((S.things ++ [(S.given, t)]).map (ent pVal)))).set l (shopOb { S with given := S.given + 1 } a b), ?_, ?_, (Off.set (by simp)).trans (Off.set (by simp))⟩
    · have hz : S.things.length < 100000 := by omega
      have q1 : ∀ X Y, ((st.set b X).set l Y)[l]? = some Y := fun X Y => by rw [List.getElem?_set_self (by rw [List.length_set]; exact lt_of_at h.o)]
      have q2 : ∀ X, (st.set b X)[l]? = some (shopOb S a b) := fun X => by rw [List.getElem?_set_ne h.lb.symm]; exact h.o
      unfold D.d_Shop_add
      unfold shopOb at q2
      simp [exSs, h.o, h.s, shopOb, c, e1, hz, q1, q2, putFld]
    · have z := h.setB (S.things ++ [(S.given, t)])
      exact ⟨by rw [List.getElem?_set_self (lt_of_at z.o)]; rfl, by rw [List.getElem?_set_ne h.la]; exact z.r, by rw [List.getElem?_set_ne h.lb]; exact z.s⟩
structure Ok_Shop_cut (F : Fn) : Prop where
  run : ∀ {st : Store} {l a b : Nat} {S : Sh}, ShopAt st l a b S → GoodS S → ∀ s : Strip, ResP F [.loc l, sv s] st l a b (dCut S s)
theorem d_Shop_cut_ok (hg : Ok_good_seal (C "good_seal")) : Ok_Shop_cut (runDf C xs D.d_Shop_cut) := by
  constructor
  intro st l a b S h G s
  have e0 := hg s
  unfold dCut
  unfold D.d_Shop_cut
  split
  · rename_i hc
    obtain ⟨l1, _⟩ := seal_len hc.1
    obtain ⟨e1, e2⟩ := high_eq l1
    have e3 : ((nth s 0).length : Int) = S.high := by rw [← e2]; exact hc.2
    have es : sv s = .tup (s.map cv) := rfl
    rw [es] at e0 ⊢
    split
    · rename_i hl
      have c : ¬ (6 : Int) ≤ S.seals.length := by omega
      refine .ok (st' := st.set a (.lst ((S.seals ++ [s]).map sv))) ?_ (h.setA _) (Off.set (by simp))
      have hw := wr_append (y := sv s) h.r (by rw [List.length_map]; show _ ≤ 16777216; omega)
      have q1 : ∀ X, (st.set a X)[a]? = some X := fun X => by rw [List.getElem?_set_self (lt_of_at h.r)]
      have q2 : ∀ X, (st.set a X)[l]? = some (shopOb S a b) := fun X => by rw [List.getElem?_set_ne h.la.symm]; exact h.o
      unfold shopOb at q2
      have es : sv s = .tup (s.map cv) := rfl
      rw [es] at hw
      simp [exSs, e0, hc.1, e1, e3, h.o, h.r, shopOb, c, hw, q1, q2, es]
    · rename_i hl
      have c : (6 : Int) ≤ S.seals.length := by omega
      refine .exc (nw (by decide)) ?_
      simp [exSs, e0, hc.1, e1, e3, h.o, h.r, shopOb, c]
  · rename_i hc
    refine .exc (nw (by decide)) ?_
    cases hgs : goodSeal s
    · unfold sv at e0 ⊢
      simp [exSs, e0, hgs]
    · obtain ⟨l1, _⟩ := seal_len hgs
      obtain ⟨e1, e2⟩ := high_eq l1
      have e3 : ¬ ((nth s 0).length : Int) = S.high := by rw [← e2]; exact fun z => hc ⟨hgs, z⟩
      unfold sv at e0 ⊢
      simp [exSs, e0, hgs, e1, e3, h.o, shopOb]
structure Ok_need_cell (F : Fn) : Prop where
  good : ∀ (s : Strip) (c r : Int) (st : Store), 0 ≤ c → c < s.length → 0 ≤ r → r < (high s : Int) → F [sv s, .int c, .int r] st = .ok .non st
  bad : ∀ (s : Strip) (c r : Int) (st : Store), 1 ≤ s.length → ¬ (0 ≤ c ∧ c < s.length ∧ 0 ≤ r ∧ r < (high s : Int)) → F [sv s, .int c, .int r] st = .exc "NoCell" none st
theorem d_need_cell_ok : Ok_need_cell (runDf C xs D.d_need_cell) := by
  constructor
  · intro s c r st h1 h2 h3 h4
    obtain ⟨e1, e2⟩ := high_eq (s := s) (by omega)
    rw [e2] at h4
    have c1 : ¬ c < 0 := by omega
    have c2 : ¬ (s.length : Int) ≤ c := by omega
    have c3 : ¬ r < 0 := by omega
    have c4 : ¬ ((nth s 0).length : Int) ≤ r := by omega
    unfold D.d_need_cell sv
    simp [exSs, c1, c2, c3, c4, e1]
  · intro s c r st h0 h
    obtain ⟨e1, e2⟩ := high_eq (s := s) (by omega)
    rw [e2] at h
    unfold D.d_need_cell sv
    by_cases c1 : c < 0
    · simp [exSs, c1]
    · by_cases c2 : (s.length : Int) ≤ c
      · simp [exSs, c1, c2]
      · by_cases c3 : r < 0
        · simp [exSs, c1, c2, c3]
        · have c4 : ((nth s 0).length : Int) ≤ r := by
            have : ¬ r < ((nth s 0).length : Int) := fun z => h ⟨by omega, by omega, by omega, z⟩
            omega
          simp [exSs, c1, c2, c3, c4, e1]
def Ok_with_cell (F : Fn) : Prop := Ok_setCell F
theorem d_with_cell_ok : Ok_with_cell (runDf C xs D.d_with_cell) := setCell_run rfl
theorem cell_at2 {s : Strip} {c r : Nat} (h1 : c < s.length) (h2 : r < (nth s c).length) {st : Store} : ixOp st (cv (nth s c)) (.int r) = some (.int (cellAt s c r)) := by
  show L2.atI ((nth s c).map Val.int) (r : Int) = _
  exact getD_at h2
structure Ok_Shop_chip (F : Fn) : Prop where
  run : ∀ {st : Store} {l a b : Nat} {S : Sh}, ShopAt st l a b S → GoodS S → ∀ n c r : Int, ResP F [.loc l, .int n, .int c, .int r] st l a b (dChip S n c r)
theorem d_Shop_chip_ok (hn : Ok_Shop_need_seal (C "Shop.need_seal")) (hc : Ok_need_cell (C "need_cell")) (hw : Ok_with_cell (C "with_cell")) : Ok_Shop_chip (runDf C xs D.d_Shop_chip) := by
  constructor
  intro st l a b S h G n c r
  unfold dChip
  unfold D.d_Shop_chip
  split
  · rename_i h1
    obtain ⟨n', rfl⟩ := Int.eq_ofNat_of_zero_le h1.1
    have e0 := hn.good h n' h1.1 h1.2
    have hlt : n' < S.seals.length := by omega
    rw [Int.toNat_natCast]
    have hm : nth S.seals n' ∈ S.seals := nth_mem hlt
    have e1 : L2.atI (S.seals.map sv) (n' : Int) = some (sv (nth S.seals n')) := nth_at hlt
    obtain ⟨gs, hh⟩ := G.sg _ hm
    obtain ⟨l1, l2, l3, l4, l5⟩ := seal_cols gs
    generalize nth S.seals n' = s at e1 gs hh l1 l2 l3 l4 l5 ⊢
    split
    · rename_i h2
      obtain ⟨b1, b2, b3, b4⟩ := h2
      have e2 := hc.good s c r st b1 b2 b3 (by omega)
      obtain ⟨c', rfl⟩ := Int.eq_ofNat_of_zero_le b1
      obtain ⟨r', rfl⟩ := Int.eq_ofNat_of_zero_le b3
      simp only [Int.toNat_natCast]
      have hcl : c' < s.length := by omega
      have hcm := l5 _ (nth_mem hcl)
      have hrl : r' < (nth s c').length := by omega
      have e3 : ixOp st (sv s) (.int (c' : Int)) = some (cv (nth s c')) := nth_at hcl
      have e4 := cell_at2 hcl hrl (st := st)
      have e5 := hw s c' r' 0 st (by omega) hcl hrl (by omega)
      generalize cellAt s c' r' = x at e4 ⊢
      split
      · rename_i hx
        subst hx
        refine .exc (nw (by decide)) ?_
        simp [exSs, e0, e2, h.o, h.r, shopOb, e1, e3, e4]
      · rename_i hx
        refine .ok (st' := st.set a (.lst ((S.seals.set n' (setCell s c' r' 0)).map sv))) ?_ (h.setA _) (Off.set (by simp))
        have hix : L2.ixN (S.seals.map sv).length (n' : Int) = some n' := by
          unfold L2.ixN
          rw [List.length_map, if_pos (by omega), if_pos (by omega)]
          simp
        rw [List.length_map] at hix
        simp [exSs, e0, e2, h.o, h.r, shopOb, e1, e3, e4, hx, e5, hix, List.map_set]
    · rename_i h2
      have e2 := hc.bad s c r st l1 (by rw [hh]; exact h2)
      refine .exc (nw (by decide)) ?_
      simp [exSs, e0, h.o, h.r, shopOb, e1, e2]
  · rename_i h1
    refine .exc (nw (by decide)) ?_
    simp [exSs, hn.bad h n h1, h.o, shopOb]
end P
/-! P11: the workshop's deeds, further. -/
namespace P
open PySem (Str PyData)
open Rc
variable {C : Str → List Val → M Val} {xs : List Str}
theorem GoodS.fresh {S : Sh} (G : GoodS S) : S.given ∉ S.things.map (·.1) := fun h => by
  obtain ⟨p, hp, e⟩ := List.mem_map.mp h
  have := (G.tb p hp).2
  omega
theorem GoodS.len {S : Sh} (G : GoodS S) : S.things.length ≤ 40 := by
  have := G.g0
  have := G.g1
  omega
/-- the count of rollings is one more -/
theorem ShopAt.setL {st : Store} {l a b : Nat} {S S' : Sh} (h : ShopAt st l a b S) (h1 : S'.seals = S.seals) (h2 : S'.things = S.things) : ShopAt (st.set l (shopOb S' a b)) l a b S' :=
  ⟨by rw [List.getElem?_set_self (lt_of_at h.o)], by rw [List.getElem?_set_ne h.la, h1]; exact h.r, by rw [List.getElem?_set_ne h.lb, h2]; exact h.s⟩
structure Ok_Shop_roll (F : Fn) : Prop where
  run : ∀ {st : Store} {l a b : Nat} {S : Sh}, ShopAt st l a b S → GoodS S → ∀ n c r : Int, ResP F [.loc l, .int n, .int c, .int r] st l a b (dRoll S n c r)
theorem d_Shop_roll_ok (hn : Ok_Shop_need_seal (C "Shop.need_seal")) (hp : Ok_print_of (C "print_of")) (ha : Ok_Shop_add (C "Shop.add")) : Ok_Shop_roll (runDf C xs D.d_Shop_roll) := by
  constructor
  intro st l a b S h G n c w
  unfold dRoll
  unfold D.d_Shop_roll
  split
  · rename_i h1
    obtain ⟨n', rfl⟩ := Int.eq_ofNat_of_zero_le h1.1
    have e0 := hn.good h n' h1.1 h1.2
    have hlt : n' < S.seals.length := by omega
    rw [Int.toNat_natCast]
    have hm : nth S.seals n' ∈ S.seals := nth_mem hlt
    have e1 : L2.atI (S.seals.map sv) (n' : Int) = some (sv (nth S.seals n')) := nth_at hlt
    obtain ⟨gs, hh⟩ := G.sg _ hm
    obtain ⟨l1, l2, l3, l4, l5⟩ := seal_cols gs
    generalize nth S.seals n' = s at e1 gs hh l1 l2 l3 l4 l5 ⊢
    have es : sv s = .tup (s.map cv) := rfl
    split
    · rename_i h2
      have d1 : ¬ c < 0 := by omega
      have d2 : ¬ (s.length : Int) ≤ c := by omega
      split
      · rename_i h3
        have d3 : ¬ w < 1 := by omega
        have d4 : ¬ (12 : Int) < w := by omega
        obtain ⟨c', rfl⟩ := Int.eq_ofNat_of_zero_le h2.1
        obtain ⟨w', rfl⟩ := Int.eq_ofNat_of_zero_le (show 0 ≤ w by omega)
        simp only [Int.toNat_natCast]
        have e2 := hp s c' w' st l1 (by omega) (by omega)
        generalize ht : (⟨prt s c' w', S.rolls.length, ⟨n', c', s.length⟩, 0, 0⟩ : Thing) = t
        have ep : pVal t = .tup [sv (prt s c' w'), .tup [.int S.rolls.length, .int n', .int c', .int s.length], .int 0, .int 0] := by
          rw [← ht]
          rfl
        rw [es] at e1 e2
        split
        · rename_i h4
          obtain ⟨st', e3, h3', of⟩ := ha.ok h t h4 G.fresh G.len
          rw [ep] at e3
          have q1 : st'[l]? = some (shopOb { S with things := S.things ++ [(S.given, t)], given := S.given + 1 } a b) := h3'.o
          unfold shopOb at q1
          refine .ok (st' := st'.set l (shopOb { S with things := S.things ++ [(S.given, t)], given := S.given + 1, rolls := S.rolls ++ [⟨n', c', s.length⟩] } a b)) ?_ (h3'.setL rfl rfl) (of.trans (Off.set (by simp)))
          simp [exSs, e0, h.o, h.r, shopOb, e1, d1, d2, d3, d4, e2, e3, q1, putFld, PySem.sizeLine]
        · rename_i h4
          have e3 := ha.full h t h4
          rw [ep] at e3
          refine .exc (nw (by decide)) ?_
          simp [exSs, e0, h.o, h.r, shopOb, e1, d1, d2, d3, d4, e2, e3, PySem.sizeLine]
      · rename_i h3
        refine .exc (nw (by decide)) ?_
        rw [es] at e1
        by_cases d3 : w < 1
        · simp [exSs, e0, h.o, h.r, shopOb, e1, d1, d2, d3]
        · have d4 : (12 : Int) < w := by omega
          simp [exSs, e0, h.o, h.r, shopOb, e1, d1, d2, d3, d4]
    · rename_i h2
      refine .exc (nw (by decide)) ?_
      rw [es] at e1
      by_cases d1 : c < 0
      · simp [exSs, e0, h.o, h.r, shopOb, e1, d1]
      · have d2 : (s.length : Int) ≤ c := by omega
        simp [exSs, e0, h.o, h.r, shopOb, e1, d1, d2]
  · rename_i h1
    refine .exc (nw (by decide)) ?_
    simp [exSs, hn.bad h n h1, h.o, shopOb]
structure Ok_Shop_turn (F : Fn) : Prop where
  run : ∀ {st : Store} {l a b : Nat} {S : Sh}, ShopAt st l a b S → GoodS S → ∀ n : Int, ResP F [.loc l, .int n] st l a b (dTurn S n)
theorem d_Shop_turn_ok (hn : Ok_Shop_need_strip (C "Shop.need_strip")) (hb : Ok_about (C "about")) : Ok_Shop_turn (runDf C xs D.d_Shop_turn) := by
  constructor
  intro st l a b S h G n
  unfold dTurn
  unfold D.d_Shop_turn
  split
  · rename_i t ht
    have e0 := hn.good h n t ht
    have e1 := put_ent (f := pVal) (t := S.things) (n := n) (a := { t with rows := turn t.rows, way := 1 - t.way })
    have ev : pVal { t with rows := turn t.rows, way := 1 - t.way } = .tup [sv (turn t.rows), whence t, .int t.first, .int (1 - t.way)] := rfl
    have ep : pVal t = .tup [sv t.rows, whence t, .int t.first, .int t.way] := rfl
    rw [ev] at e1
    have hz : S.things.length < 100000 := by have := G.len; omega
    refine .ok (st' := st.set b (.dK ((pt S.things n { t with rows := turn t.rows, way := 1 - t.way }).map (ent pVal)))) ?_ (h.setB _) (Off.set (by simp))
    simp [exSs, e0, h.o, h.s, shopOb, look_ent, ht, ep, hb t.rows st, e1, hz, PySem.sizeLine]
  · rename_i ht
    refine .exc (nw (by decide)) ?_
    simp [exSs, hn.bad h n ht, h.o, shopOb]
structure Ok_Shop_wear (F : Fn) : Prop where
  run : ∀ {st : Store} {l a b : Nat} {S : Sh}, ShopAt st l a b S → GoodS S → ∀ n c r : Int, ResP F [.loc l, .int n, .int c, .int r] st l a b (dWear S n c r)
theorem thing_high {S : Sh} {t : Thing} (g : GoodT S t) : (high t.rows : Int) = S.high := by
  obtain ⟨g1, _, g3, _⟩ := g
  have := (g3 _ (nth_mem (k := 0) (s := t.rows) (by omega))).1
  rw [(high_eq (by omega)).2]
  exact this
theorem d_Shop_wear_ok (hn : Ok_Shop_need_strip (C "Shop.need_strip")) (hc : Ok_need_cell (C "need_cell")) (hw : Ok_with_cell (C "with_cell")) : Ok_Shop_wear (runDf C xs D.d_Shop_wear) := by
  constructor
  intro st l a b S h G n c r
  unfold dWear
  unfold D.d_Shop_wear
  split
  · rename_i t ht
    have e0 := hn.good h n t ht
    have gt : GoodT S t := G.tg _ (lk_mem ht)
    have hh := thing_high gt
    obtain ⟨g1, g2, g3, g4, _⟩ := gt
    have ep : pVal t = .tup [sv t.rows, whence t, .int t.first, .int t.way] := rfl
    have h3 := G.h2
    split
    · rename_i h2
      obtain ⟨b1, b2, b3, b4⟩ := h2
      have e2 := hc.good t.rows c r st b1 b2 b3 (by omega)
      obtain ⟨c', rfl⟩ := Int.eq_ofNat_of_zero_le b1
      obtain ⟨r', rfl⟩ := Int.eq_ofNat_of_zero_le b3
      simp only [Int.toNat_natCast]
      have hcl : c' < t.rows.length := by omega
      have hcm := (g3 _ (nth_mem hcl)).1
      have hrl : r' < (nth t.rows c').length := by omega
      have e3 : ixOp st (sv t.rows) (.int (c' : Int)) = some (cv (nth t.rows c')) := nth_at hcl
      have e4 := cell_at2 hcl hrl (st := st)
      have e5 := hw t.rows c' r' (-1) st (by omega) hcl hrl (by omega)
      generalize cellAt t.rows c' r' = x at e4 ⊢
      split
      · rename_i hx
        subst hx
        refine .exc (nw (by decide)) ?_
        simp [exSs, e0, h.o, h.s, shopOb, look_ent, ht, ep, e2, e3, e4]
      · rename_i hx
        have e1 := put_ent (f := pVal) (t := S.things) (n := n) (a := { t with rows := setCell t.rows c' r' (-1) })
        have ev : pVal { t with rows := setCell t.rows c' r' (-1) } = .tup [sv (setCell t.rows c' r' (-1)), whence t, .int t.first, .int t.way] := rfl
        rw [ev] at e1
        have hz : S.things.length < 100000 := by have := G.len; omega
        refine .ok (st' := st.set b (.dK ((pt S.things n { t with rows := setCell t.rows c' r' (-1) }).map (ent pVal)))) ?_ (h.setB _) (Off.set (by simp))
        simp [exSs, e0, h.o, h.s, shopOb, look_ent, ht, ep, e2, e3, e4, e5, hx, e1, hz, PySem.sizeLine]
    · rename_i h2
      have e2 := hc.bad t.rows c r st g1 (by rw [hh]; exact h2)
      refine .exc (nw (by decide)) ?_
      simp [exSs, e0, h.o, h.s, shopOb, look_ent, ht, ep, e2]
  · rename_i ht
    refine .exc (nw (by decide)) ?_
    simp [exSs, hn.bad h n ht, h.o, shopOb]
structure Ok_Shop_lose (F : Fn) : Prop where
  run : ∀ {st : Store} {l a b : Nat} {S : Sh}, ShopAt st l a b S → GoodS S → ∀ n : Int, ResP F [.loc l, .int n] st l a b (dLose S n)
theorem d_Shop_lose_ok (hn : Ok_Shop_need_strip (C "Shop.need_strip")) : Ok_Shop_lose (runDf C xs D.d_Shop_lose) := by
  constructor
  intro st l a b S h G n
  unfold dLose
  unfold D.d_Shop_lose
  split
  · rename_i t ht
    have e0 := hn.good h n t ht
    have ep : pVal t = .tup [sv t.rows, whence t, .int t.first, .int t.way] := rfl
    have e1 := mt_dpop (new := false) (v := .int n) (k := .inl n) (u := pVal t) h.s rfl (by rw [look_ent, ht]; rfl)
    rw [drp_ent, ep] at e1
    refine .ok (st' := st.set b (.dK ((dp S.things n).map (ent pVal)))) ?_ (h.setB _) (Off.set (by simp))
    simp [exSs, e0, h.o, h.s, shopOb, e1, at_zero]
  · rename_i ht
    refine .exc (nw (by decide)) ?_
    simp [exSs, hn.bad h n ht, h.o, shopOb]
theorem thing_good {S : Sh} {t : Thing} (G : GoodS S) (g : GoodT S t) : goodStrip t.rows = true := by
  obtain ⟨g1, g2, g3, g4, _⟩ := g
  have h1 := G.h1
  have h2 := G.h2
  rw [good_iff]
  refine ⟨g1, by omega, S.high.toNat, by omega, by omega, fun c hc => ?_⟩
  have := g3 c hc
  exact ⟨by omega, this.2⟩
theorem pt_pt {α : Type} {t : List (Int × α)} {n m : Int} {x y : α} (h1 : n ∈ t.map (·.1)) (h2 : m ∉ t.map (·.1)) : pt (t ++ [(m, y)]) n x = pt t n x ++ [(m, y)] := by
  have hne : ¬ m = n := fun e => h2 (e ▸ h1)
  obtain ⟨b, hb⟩ := lk_some h1
  have e1 : (t.any fun p => decide (p.1 = n)) = true := by rw [lk_any, hb]; rfl
  unfold pt
  rw [List.any_append, e1, Bool.true_or, if_pos rfl, if_pos rfl, List.map_append]
  simp [hne]
structure Ok_Shop_snap (F : Fn) : Prop where
  run : ∀ {st : Store} {l a b : Nat} {S : Sh}, ShopAt st l a b S → GoodS S → ∀ n c : Int, ResP F [.loc l, .int n, .int c] st l a b (dSnap S n c)
theorem d_Shop_snap_ok (hn : Ok_Shop_need_strip (C "Shop.need_strip")) (hp : Ok_parts (C "parts")) (ha : Ok_Shop_add (C "Shop.add")) : Ok_Shop_snap (runDf C xs D.d_Shop_snap) := by
  constructor
  intro st l a b S h G n c
  unfold dSnap
  unfold D.d_Shop_snap
  split
  · rename_i t ht
    have e0 := hn.good h n t ht
    have gt : GoodT S t := G.tg _ (lk_mem ht)
    have gs := thing_good G gt
    obtain ⟨g1, g2, g3, g4, g5, _⟩ := gt
    obtain ⟨rows, tu, ro, fi, wa⟩ := t
    dsimp only at gs g1 g2 g3 g4 g5 ⊢
    have ep : pVal ⟨rows, tu, ro, fi, wa⟩ = .tup [sv rows, whence ⟨rows, tu, ro, fi, wa⟩, .int fi, .int wa] := rfl
    have ew : ∀ r f w, pVal ⟨r, tu, ro, f, w⟩ = .tup [sv r, whence ⟨rows, tu, ro, fi, wa⟩, .int f, .int w] := fun _ _ _ => rfl
    generalize whence ⟨rows, tu, ro, fi, wa⟩ = wh at ep ew
    split
    · rename_i h2
      have e2 := hp.good rows c st gs h2.1 h2.2
      rw [cut_take (by omega), cut_drop (by omega)] at e2
      obtain ⟨c', rfl⟩ := Int.eq_ofNat_of_zero_le (show 0 ≤ c by omega)
      simp only [Int.toNat_natCast] at e2 ⊢
      have hld : ((rows.drop c').length : Int) = rows.length - c' := by rw [List.length_drop]; omega
      generalize hL : rows.take c' = L at e2 ⊢
      generalize hR : rows.drop c' = R at e2 hld ⊢
      have esd : sv R = .tup (R.map cv) := rfl
      have hkey : n ∈ S.things.map (·.1) := List.mem_map.mpr ⟨_, lk_mem ht, rfl⟩
      have hz : S.things.length + 1 < 100000 := by have := G.len; omega
      split
      · rename_i h4
        rcases g5 with rfl | rfl
        · simp only [if_true]
          obtain ⟨st', e3, h3', of⟩ := ha.ok h ⟨R, tu, ro, fi + c', 0⟩ h4 G.fresh G.len
          have e1 := put_ent (f := pVal) (t := S.things ++ [(S.given, (⟨R, tu, ro, fi + c', 0⟩ : Thing))]) (n := n) (a := ⟨L, tu, ro, fi, 0⟩)
          rw [ew] at e3 e1
          rw [pt_pt hkey G.fresh] at e1
          have q1 := h3'.o
          unfold shopOb at q1
          dsimp only at q1
          refine .ok (st' := st'.set b (.dK ((pt S.things n (⟨L, tu, ro, fi, 0⟩ : Thing) ++ [(S.given, (⟨R, tu, ro, fi + c', 0⟩ : Thing))]).map (ent pVal)))) ?_ (h3'.setB _) (of.trans (Off.set (by simp)))
          rw [← e1]
          simp [exSs, e0, h.o, h.s, shopOb, look_ent, ht, ep, e2, e3, q1, h3'.s, PySem.sizeLine, hz]
        · rw [if_neg (by decide), if_neg (by decide)]
          obtain ⟨st', e3, h3', of⟩ := ha.ok h ⟨R, tu, ro, fi, 1⟩ h4 G.fresh G.len
          have e1 := put_ent (f := pVal) (t := S.things ++ [(S.given, (⟨R, tu, ro, fi, 1⟩ : Thing))]) (n := n) (a := ⟨L, tu, ro, fi + (rows.length - c'), 1⟩)
          rw [ew] at e3 e1
          rw [pt_pt hkey G.fresh] at e1
          have q1 := h3'.o
          unfold shopOb at q1
          dsimp only at q1
          refine .ok (st' := st'.set b (.dK ((pt S.things n (⟨L, tu, ro, fi + (rows.length - c'), 1⟩ : Thing) ++ [(S.given, (⟨R, tu, ro, fi, 1⟩ : Thing))]).map (ent pVal)))) ?_ (h3'.setB _) (of.trans (Off.set (by simp)))
          rw [← e1]
          rw [esd] at e2 e3
          simp [exSs, e0, h.o, h.s, shopOb, look_ent, ht, ep, e2, e3, q1, h3'.s, PySem.sizeLine, hz, hld]
      · rename_i h4
        refine .exc (nw (by decide)) ?_
        rcases g5 with rfl | rfl
        · have e3 := ha.full h ⟨R, tu, ro, fi + c', 0⟩ h4
          rw [ew] at e3
          simp [exSs, e0, h.o, h.s, shopOb, look_ent, ht, ep, e2, e3, PySem.sizeLine]
        · have e3 := ha.full h ⟨R, tu, ro, fi, 1⟩ h4
          rw [ew] at e3
          simp [exSs, e0, h.o, h.s, shopOb, look_ent, ht, ep, e2, e3, PySem.sizeLine]
    · rename_i h2
      have e2 := hp.wide rows c st gs h2
      refine .exc (nw (by decide)) ?_
      simp [exSs, e0, h.o, h.s, shopOb, look_ent, ht, ep, e2]
  · rename_i ht
    refine .exc (nw (by decide)) ?_
    simp [exSs, hn.bad h n ht, h.o, shopOb]
theorem lk_pt_ne {α : Type} {n m : Int} {x : α} (h : m ≠ n) : ∀ {t : List (Int × α)}, lk (pt t n x) m = lk t m := by
  intro t
  have h3 : ¬ n = m := fun e => h e.symm
  unfold pt
  split
  · rename_i h0
    clear h0
    unfold lk
    induction t with
    | nil => rfl
    | cons p t ih =>
      by_cases h1 : p.1 = n
      · simpa [h1, h3] using ih
      · by_cases h2 : p.1 = m
        · simp [h1, h2, h]
        · simpa [h1, h2] using ih
  · unfold lk
    rw [List.find?_append]
    simp [h3]
theorem whence_eq {st : Store} {S : Sh} {t u : Thing} (gt : GoodT S t) (gu : GoodT S u) : veq st (whence t) (whence u) = some (decide (t.turn = u.turn)) := by
  unfold whence
  rw [veq_ints]
  congr 1
  by_cases h : t.turn = u.turn
  · have h1 := gt.2.2.2.2.2.1
    have h2 := gu.2.2.2.2.2.1
    rw [h, h2] at h1
    have h3 := Option.some.inj h1
    simp [h, h3]
  · have : ¬ (t.turn : Int) = u.turn := by omega
    simp [h, this]
structure Ok_Shop_join (F : Fn) : Prop where
  run : ∀ {st : Store} {l a b : Nat} {S : Sh}, ShopAt st l a b S → GoodS S → ∀ n m : Int, ResP F [.loc l, .int n, .int m] st l a b (dJoin S n m)
theorem d_Shop_join_ok (hn : Ok_Shop_need_strip (C "Shop.need_strip")) : Ok_Shop_join (runDf C xs D.d_Shop_join) := by
  constructor
  intro st l a b S h G n m
  unfold D.d_Shop_join
  cases ht : lk S.things n with
  | none =>
    have e : dJoin S n m = ((("NoStrip" : Str), Val.non, S) : Out) := by unfold dJoin; rw [ht]
    rw [e]
    refine .exc (nw (by decide)) ?_
    simp [exSs, hn.bad h n ht, h.o, shopOb]
  | some t =>
    cases hu : lk S.things m with
    | none =>
      have e : dJoin S n m = ((("NoStrip" : Str), Val.non, S) : Out) := by unfold dJoin; rw [ht, hu]
      rw [e]
      refine .exc (nw (by decide)) ?_
      simp [exSs, hn.good h n t ht, hn.bad h m hu, h.o, shopOb]
    | some u =>
      have e0 := hn.good h n t ht
      have e1 := hn.good h m u hu
      have gt : GoodT S t := G.tg _ (lk_mem ht)
      have gu : GoodT S u := G.tg _ (lk_mem hu)
      have ew : ∀ st, veq st (whence t) (whence u) = some (decide (t.turn = u.turn)) := fun st => whence_eq gt gu
      obtain ⟨g1, g2, g3, g4, g5, _⟩ := gt
      obtain ⟨k1, k2, k3, k4, k5, _⟩ := gu
      unfold dJoin
      rw [ht, hu]
      obtain ⟨rows, tu, ro, fi, wa⟩ := t
      obtain ⟨rows2, tu2, ro2, fi2, wa2⟩ := u
      have ep : pVal ⟨rows, tu, ro, fi, wa⟩ = .tup [.tup (rows.map cv), whence ⟨rows, tu, ro, fi, wa⟩, .int fi, .int wa] := rfl
      have eq : pVal ⟨rows2, tu2, ro2, fi2, wa2⟩ = .tup [.tup (rows2.map cv), whence ⟨rows2, tu2, ro2, fi2, wa2⟩, .int fi2, .int wa2] := rfl
      have ev : ∀ r f, pVal ⟨r, tu, ro, f, wa⟩ = .tup [.tup (r.map cv), whence ⟨rows, tu, ro, fi, wa⟩, .int f, .int wa] := fun _ _ => rfl
      generalize whence ⟨rows, tu, ro, fi, wa⟩ = wt at ep ew ev
      generalize whence ⟨rows2, tu2, ro2, fi2, wa2⟩ = wu at eq ew
      dsimp only at ew g1 g2 g3 g4 g5 k1 k2 k3 k4 k5 ⊢
      split
      · rename_i hnm
        subst hnm
        refine .exc (nw (by decide)) ?_
        simp [exSs, e0, h.o, shopOb]
      · rename_i hnm
        split
        · rename_i hc
          obtain ⟨c1, c2, c3, c4⟩ := hc
          have hz : S.things.length < 100000 := by have := G.len; omega
          have f1 := put_ent (f := pVal) (t := S.things) (n := n) (a := ⟨rows ++ rows2, tu, ro, if wa = 0 then fi else fi2, wa⟩)
          rw [ev] at f1
          have hlk : lk (pt S.things n ⟨rows ++ rows2, tu, ro, if wa = 0 then fi else fi2, wa⟩) m = some ⟨rows2, tu2, ro2, fi2, wa2⟩ := by rw [lk_pt_ne (Ne.symm hnm)]; exact hu
          generalize pt S.things n ⟨rows ++ rows2, tu, ro, if wa = 0 then fi else fi2, wa⟩ = T at f1 hlk ⊢
          have q2 : ∀ X, (st.set b X)[l]? = some (shopOb S a b) := fun X => by rw [List.getElem?_set_ne h.lb.symm]; exact h.o
          have q3 : ∀ X, (st.set b X)[b]? = some X := fun X => by rw [List.getElem?_set_self (lt_of_at h.s)]
          have f2 := mt_dpop (new := false) (v := .int m) (k := .inl m) (u := pVal ⟨rows2, tu2, ro2, fi2, wa2⟩) (q3 (.dK (T.map (ent pVal)))) rfl (by rw [look_ent, hlk]; rfl)
          rw [drp_ent, List.set_set] at f2
          unfold shopOb at q2
          refine .ok (st' := st.set b (.dK ((dp T m).map (ent pVal)))) ?_ (h.setB _) (Off.set (by simp))
          have hsz : rows.length + rows2.length ≤ 16777216 := by omega
          rw [List.map_append] at f1
          subst c1
          subst c2
          rcases g5 with rfl | rfl
          · have c3' := c3 rfl
            have hmin : ¬ fi2 < fi := by omega
            simp only [if_true] at f1
            simp [exSs, e0, e1, h.o, h.s, shopOb, look_ent, ht, hu, ep, eq, hnm, ew, c3', hsz, hmin, f1, hz, q2, q3, f2, PySem.sizeLine]
          · have c4' := c4 rfl
            have hmin : fi2 < fi := by omega
            rw [if_neg (by decide)] at f1
            simp [exSs, e0, e1, h.o, h.s, shopOb, look_ent, ht, hu, ep, eq, hnm, ew, c4', hsz, hmin, f1, hz, q2, q3, f2, PySem.sizeLine]
        · rename_i hc
          refine .exc (nw (by decide)) ?_
          by_cases c1 : tu = tu2
          · subst c1
            by_cases c2 : wa = wa2
            · subst c2
              rcases g5 with rfl | rfl
              · have c3 : ¬ fi + rows.length = fi2 := fun z => hc ⟨rfl, rfl, fun _ => z, fun z => by omega⟩
                simp [exSs, e0, e1, h.o, h.s, shopOb, look_ent, ht, hu, ep, eq, hnm, ew, c3]
              · have c3 : ¬ fi2 + rows2.length = fi := fun z => hc ⟨rfl, rfl, fun z => by omega, fun _ => z⟩
                simp [exSs, e0, e1, h.o, h.s, shopOb, look_ent, ht, hu, ep, eq, hnm, ew, c3]
            · simp [exSs, e0, e1, h.o, h.s, shopOb, look_ent, ht, hu, ep, eq, hnm, ew, c2]
          · simp [exSs, e0, e1, h.o, h.s, shopOb, look_ent, ht, hu, ep, eq, hnm, ew, c1]
/-! ### questions -/
structure Ok_Shop_seal (F : Fn) : Prop where
  good : ∀ {st : Store} {l a b : Nat} {S : Sh}, ShopAt st l a b S → ∀ n : Nat, n < S.seals.length → F [.loc l, .int n] st = .ok (sv (nth S.seals n)) st
  bad : ∀ {st : Store} {l a b : Nat} {S : Sh}, ShopAt st l a b S → ∀ n : Int, ¬ (0 ≤ n ∧ n < S.seals.length) → F [.loc l, .int n] st = .exc "NoSeal" none st
theorem d_Shop_seal_ok (hn : Ok_Shop_need_seal (C "Shop.need_seal")) : Ok_Shop_seal (runDf C xs D.d_Shop_seal) := by
  constructor
  · intro st l a b S h n hl
    have e0 := hn.good h n (by omega) (by omega)
    have e1 : L2.atI (S.seals.map sv) (n : Int) = some (sv (nth S.seals n)) := nth_at hl
    unfold D.d_Shop_seal
    simp [exSs, e0, h.o, h.r, shopOb, e1]
  · intro st l a b S h n hl
    unfold D.d_Shop_seal
    simp [exSs, hn.bad h n hl, h.o, shopOb]
def nums (S : Sh) : List Int := srt (S.things.map (·.1))
structure Ok_Shop_strip (F : Fn) : Prop where
  good : ∀ {st : Store} {l a b : Nat} {S : Sh}, ShopAt st l a b S → ∀ (n : Int) (t : Thing), lk S.things n = some t → F [.loc l, .int n] st = .ok (sv t.rows) st
  bad : ∀ {st : Store} {l a b : Nat} {S : Sh}, ShopAt st l a b S → ∀ n : Int, lk S.things n = none → F [.loc l, .int n] st = .exc "NoStrip" none st
theorem d_Shop_strip_ok (hn : Ok_Shop_need_strip (C "Shop.need_strip")) : Ok_Shop_strip (runDf C xs D.d_Shop_strip) := by
  constructor
  · intro st l a b S h n t ht
    have e0 := hn.good h n t ht
    have ep : pVal t = .tup [sv t.rows, whence t, .int t.first, .int t.way] := rfl
    unfold D.d_Shop_strip
    simp [exSs, e0, h.o, h.s, shopOb, look_ent, ht, ep, at_zero]
  · intro st l a b S h n ht
    unfold D.d_Shop_strip
    simp [exSs, hn.bad h n ht, h.o, shopOb]
/-! ### a new one -/
def sh0 (h : Int) : Sh := ⟨h, [], [], 0, []⟩
theorem good0 {h : Int} (h1 : 1 ≤ h) (h2 : h ≤ 3) : GoodS (sh0 h) where
  h1 := h1
  h2 := h2
  sl := by simp [sh0]
  sg := fun s hs => by simp [sh0] at hs
  g0 := by simp [sh0]
  g1 := by simp [sh0]
  rl := by simp [sh0]
  nd := by simp [sh0]
  tb := fun s hs => by simp [sh0] at hs
  tg := fun s hs => by simp [sh0] at hs
structure Ok_Shop_init (F : Fn) : Prop where
  good : ∀ (st : Store) (h : Int), 1 ≤ h → h ≤ 3 → F [.loc st.length, .int h] (st ++ [.ins "Shop" []]) = .ok .non (st ++ [shopOb (sh0 h) (st.length + 1) (st.length + 2), .lst [], .dK []])
  bad : ∀ (st : Store) (h : Int), ¬ (1 ≤ h ∧ h ≤ 3) → F [.loc st.length, .int h] (st ++ [.ins "Shop" []]) = .exc "BadHeight" none (st ++ [.ins "Shop" []])
theorem d_Shop___init___ok (hh : Ok_need_height (C "need_height")) : Ok_Shop_init (runDf C xs D.d_Shop___init__) := by
  constructor
  · intro st h h1 h2
    have e0 := fun st => hh.good h st h1 h2
    unfold D.d_Shop___init__
    have n1 : ¬ ("height" : Str) = "rack" := ne_cls (by decide)
    have n2 : ¬ ("height" : Str) = "shelf" := ne_cls (by decide)
    have n3 : ¬ ("height" : Str) = "given" := ne_cls (by decide)
    have n4 : ¬ ("height" : Str) = "turns" := ne_cls (by decide)
    have n5 : ¬ ("rack" : Str) = "shelf" := ne_cls (by decide)
    have n6 : ¬ ("rack" : Str) = "given" := ne_cls (by decide)
    have n7 : ¬ ("rack" : Str) = "turns" := ne_cls (by decide)
    have n8 : ¬ ("shelf" : Str) = "given" := ne_cls (by decide)
    have n9 : ¬ ("shelf" : Str) = "turns" := ne_cls (by decide)
    have n10 : ¬ ("given" : Str) = "turns" := ne_cls (by decide)
    have q1 : ∀ (X Y : Ob), (st ++ [X, Y])[st.length]? = some X := fun X Y => by simp
    have q2 : ∀ (X Y Z : Ob), (st ++ [X, Y, Z])[st.length]? = some X := fun X Y Z => by simp
    have q3 : ∀ (X Y Z : Ob), (st ++ [X, Y]).set st.length Z = st ++ [Z, Y] := fun X Y Z => by simp
    have q4 : ∀ (X Y Z W : Ob), (st ++ [X, Y, Z]).set st.length W = st ++ [W, Y, Z] := fun X Y Z W => by simp
    simp [exSs, e0, putFld, shopOb, sh0, PySem.sizeLine, n1, n2, n3, n4, n5, n6, n7, n8, n9, n10]
  · intro st h h1
    have e0 := fun st => hh.bad h st h1
    unfold D.d_Shop___init__
    simp [exSs, e0]
structure Ok_Shop (F : Fn) : Prop where
  good : ∀ (st : Store) (h : Int), 1 ≤ h → h ≤ 3 → F [.int h] st = .ok (.loc st.length) (st ++ [shopOb (sh0 h) (st.length + 1) (st.length + 2), .lst [], .dK []])
  bad : ∀ (st : Store) (h : Int), ¬ (1 ≤ h ∧ h ≤ 3) → ∃ st', F [.int h] st = .exc "BadHeight" none st'
theorem new_Shop_ok {F : Fn} (hi : Ok_Shop_init F) : Ok_Shop (mkNew "Shop" F) := by
  constructor
  · intro st h h1 h2
    unfold mkNew
    rw [hi.good st h h1 h2]
    simp
  · intro st h h1
    refine ⟨st ++ [.ins "Shop" []], ?_⟩
    unfold mkNew
    rw [hi.bad st h h1]
end P
/-! P12: the workshop as the law keeps it. -/
namespace P
open PySem (Str PyData)
open Rc
variable {C : Str → List Val → M Val} {xs : List Str}
def mDict (h : Int) (a b : Nat) (g : Int) (c : Nat) : List (Key × Val) := [(.inr "high", .int h), (.inr "seals", .loc a), (.inr "strips", .loc b), (.inr "given", .int g), (.inr "rolls", .loc c)]
section
variable {h g v : Int} {a b c : Nat}
theorem k_ne {x y : String} (h : (Str.ofString x == Str.ofString y) = false) : ¬ (Sum.inr (Str.ofString x) : Key) = Sum.inr (Str.ofString y) := fun e => by
  have := Sum.inr.inj e
  rw [this] at h
  simp at h
theorem lk_high : look (mDict h a b g c) (.inr "high") = some (.int h) := by simp [look, mDict]
theorem lk_seals : look (mDict h a b g c) (.inr "seals") = some (.loc a) := by
  have n1 := k_ne (x := "high") (y := "seals") (by decide)
  simp only [look, mDict, List.find?_cons, n1, decide_false, decide_true, Option.map_some]
theorem lk_strips : look (mDict h a b g c) (.inr "strips") = some (.loc b) := by
  have n1 := k_ne (x := "high") (y := "strips") (by decide)
  have n2 := k_ne (x := "seals") (y := "strips") (by decide)
  simp only [look, mDict, List.find?_cons, n1, n2, decide_false, decide_true, Option.map_some]
theorem lk_given : look (mDict h a b g c) (.inr "given") = some (.int g) := by
  have n1 := k_ne (x := "high") (y := "given") (by decide)
  have n2 := k_ne (x := "seals") (y := "given") (by decide)
  have n3 := k_ne (x := "strips") (y := "given") (by decide)
  simp only [look, mDict, List.find?_cons, n1, n2, n3, decide_false, decide_true, Option.map_some]
theorem lk_rolls : look (mDict h a b g c) (.inr "rolls") = some (.loc c) := by
  have n1 := k_ne (x := "high") (y := "rolls") (by decide)
  have n2 := k_ne (x := "seals") (y := "rolls") (by decide)
  have n3 := k_ne (x := "strips") (y := "rolls") (by decide)
  have n4 := k_ne (x := "given") (y := "rolls") (by decide)
  simp only [look, mDict, List.find?_cons, n1, n2, n3, n4, decide_false, decide_true, Option.map_some]
theorem pt_given : put (mDict h a b g c) (.inr "given") (.int v) = mDict h a b v c := by
  have n1 := k_ne (x := "high") (y := "given") (by decide)
  have n2 := k_ne (x := "seals") (y := "given") (by decide)
  have n3 := k_ne (x := "strips") (y := "given") (by decide)
  have n4 := k_ne (x := "rolls") (y := "given") (by decide)
  unfold put mDict
  rw [if_pos (by simp)]
  simp only [List.map_cons, List.map_nil, n1, n2, n3, n4, if_false, if_true]
theorem len_m : (mDict h a b g c).length = 5 := rfl
end
def rollV (r : Roll) : Val := .tup [.int r.sn, .int r.start, .int r.size]
/-- columns with their rolling and their places -/
def seqL (tu : Int) (d : Int) : Int → Strip → List (Int × Int × Col)
  | _, [] => []
  | k, c :: cs => (tu, k, c) :: seqL tu d (k + d) cs
def trip (x : Int × Int × Col) : Val := .tup [.int x.1, .int x.2.1, cv x.2.2]
def lr (t : Thing) : List (Int × Int × Col) := if t.way = 0 then seqL t.turn 1 t.first t.rows else seqL t.turn (-1) (t.first + t.rows.length - 1) t.rows
def lVal (t : Thing) : Val := .tup [.int t.way, .lst ((lr t).map trip)]
structure LawAt (st : Store) (m a b c : Nat) (S : Sh) : Prop where
  o : st[m]? = some (.dK (mDict S.high a b S.given c))
  r : st[a]? = some (.lst (S.seals.map sv))
  s : st[b]? = some (.dK (S.things.map (ent lVal)))
  q : st[c]? = some (.lst (S.rolls.map rollV))
  mb : m ≠ b
  ac : a ≠ c
theorem LawAt.off {st st' : Store} {m a b c : Nat} {S : Sh} {is : List Nat} (h : LawAt st m a b c S) (k : Off is st st') (h1 : m ∉ is) (h2 : a ∉ is) (h3 : b ∉ is) (h4 : c ∉ is) : LawAt st' m a b c S := ⟨(k.off m h1).trans h.o, (k.off a h2).trans h.r, (k.off b h3).trans h.s, (k.off c h4).trans h.q, h.mb, h.ac⟩
section
variable {st : Store} {m a b c : Nat} {S : Sh}
theorem LawAt.ma (h : LawAt st m a b c S) : m ≠ a := ne_of_ob h.o h.r (by simp)
theorem LawAt.mc (h : LawAt st m a b c S) : m ≠ c := ne_of_ob h.o h.q (by simp)
theorem LawAt.ab (h : LawAt st m a b c S) : a ≠ b := ne_of_ob h.r h.s (by simp)
theorem LawAt.bc (h : LawAt st m a b c S) : b ≠ c := ne_of_ob h.s h.q (by simp)
theorem LawAt.setA (h : LawAt st m a b c S) (q : List Strip) : LawAt (st.set a (.lst (q.map sv))) m a b c { S with seals := q } :=
  ⟨by rw [List.getElem?_set_ne h.ma.symm]; exact h.o, by rw [List.getElem?_set_self (lt_of_at h.r)], by rw [List.getElem?_set_ne h.ab]; exact h.s, by rw [List.getElem?_set_ne h.ac]; exact h.q, h.mb, h.ac⟩
theorem LawAt.setB (h : LawAt st m a b c S) (q : List (Int × Thing)) : LawAt (st.set b (.dK (q.map (ent lVal)))) m a b c { S with things := q } :=
  ⟨by rw [List.getElem?_set_ne h.mb.symm]; exact h.o, by rw [List.getElem?_set_ne h.ab.symm]; exact h.r, by rw [List.getElem?_set_self (lt_of_at h.s)], by rw [List.getElem?_set_ne h.bc]; exact h.q, h.mb, h.ac⟩
theorem LawAt.setC (h : LawAt st m a b c S) (q : List Roll) : LawAt (st.set c (.lst (q.map rollV))) m a b c { S with rolls := q } :=
  ⟨by rw [List.getElem?_set_ne h.mc.symm]; exact h.o, by rw [List.getElem?_set_ne h.ac.symm]; exact h.r, by rw [List.getElem?_set_ne h.bc.symm]; exact h.s, by rw [List.getElem?_set_self (lt_of_at h.q)], h.mb, h.ac⟩
theorem LawAt.setM (h : LawAt st m a b c S) (g : Int) : LawAt (st.set m (.dK (mDict S.high a b g c))) m a b c { S with given := g } :=
  ⟨by rw [List.getElem?_set_self (lt_of_at h.o)], by rw [List.getElem?_set_ne h.ma]; exact h.r, by rw [List.getElem?_set_ne h.mb]; exact h.s, by rw [List.getElem?_set_ne h.mc]; exact h.q, h.mb, h.ac⟩
end
def ResL (F : Fn) (args : List Val) (st : Store) (m a b c : Nat) (r : Out) : Prop := ∃ st', F args st = .ok (.tup [.str r.1, r.2.1]) st' ∧ LawAt st' m a b c r.2.2 ∧ Off [m, a, b, c] st st'
/-! ### rows -/
theorem seq_len (tu d : Int) : ∀ (k : Int) (s : Strip), (seqL tu d k s).length = s.length
  | _, [] => rfl
  | k, c :: s => by
    unfold seqL
    rw [List.length_cons, List.length_cons, seq_len]
theorem seq_cols (tu d : Int) : ∀ (k : Int) (s : Strip), (seqL tu d k s).map (·.2.2) = s
  | _, [] => rfl
  | k, c :: s => by
    unfold seqL
    rw [List.map_cons, seq_cols]
theorem seq_app (tu d : Int) : ∀ (k : Int) (s t : Strip), seqL tu d k (s ++ t) = seqL tu d k s ++ seqL tu d (k + d * s.length) t
  | k, [], t => by simp [seqL]
  | k, c :: s, t => by
    rw [List.cons_append]
    show (tu, k, c) :: seqL tu d (k + d) (s ++ t) = ((tu, k, c) :: seqL tu d (k + d) s) ++ _
    have h1 : k + d + d * (s.length : Int) = k + d * ((c :: s).length : Int) := by
      rw [List.length_cons]
      push_cast
      rw [Int.mul_add]
      omega
    rw [List.cons_append, seq_app, h1]
theorem seq_rev (tu d : Int) : ∀ (k : Int) (s : Strip), (seqL tu d k s).reverse = seqL tu (-d) (k + d * (s.length - 1)) s.reverse
  | k, [] => by simp [seqL]
  | k, c :: s => by
    have e : seqL tu d k (c :: s) = (tu, k, c) :: seqL tu d (k + d) s := rfl
    rw [e, List.reverse_cons, seq_rev, List.reverse_cons, seq_app]
    have h1 : k + d + d * ((s.length : Int) - 1) = k + d * (((c :: s).length : Int) - 1) := by
      rw [List.length_cons]
      push_cast
      rw [Int.mul_sub, Int.mul_sub, Int.mul_add]
      omega
    have h2 : k + d * (((c :: s).length : Int) - 1) + -d * (s.reverse.length : Int) = k := by
      rw [List.length_reverse, List.length_cons]
      push_cast
      rw [Int.mul_sub, Int.mul_add, Int.neg_mul]
      omega
    rw [h1, h2]
    rfl
theorem lr_len (t : Thing) : (lr t).length = t.rows.length := by
  unfold lr
  split <;> rw [seq_len]
theorem lr_cols (t : Thing) : (lr t).map (·.2.2) = t.rows := by
  unfold lr
  split <;> rw [seq_cols]
/-! ### the law's deeds -/
def Ok_law_shop (F : Fn) : Prop := ∀ (st : Store) (h : Int), F [.int h] st = .ok (.loc (st.length + 3)) (st ++ [.lst [], .dK [], .lst [], .dK (mDict h st.length (st.length + 1) 0 (st.length + 2))])
theorem d_law_shop_ok : Ok_law_shop (runDf C xs D.d_law_shop) := by
  intro st h
  have nd : ([.inr "high", .inr "seals", .inr "strips", .inr "given", .inr "rolls"] : List Key).Nodup := by decide
  unfold D.d_law_shop mDict
  simp [exSs, iniS, ini1, dispM, dispV, nd]
theorem law0 (h : Int) (st : Store) : LawAt (st ++ [.lst [], .dK [], .lst [], .dK (mDict h st.length (st.length + 1) 0 (st.length + 2))]) (st.length + 3) st.length (st.length + 1) (st.length + 2) (sh0 h) :=
  ⟨by simp [sh0], by simp [sh0], by simp [sh0], by simp [sh0], by omega, by omega⟩
def Ok_law_s_cells (F : Fn) : Prop := ∀ {st : Store} {m a b c : Nat} {S : Sh}, LawAt st m a b c S → ∀ (n : Int) (t : Thing), lk S.things n = some t → F [.loc m, .int n] st = .ok (sv t.rows) st
theorem d_law_s_cells_ok : Ok_law_s_cells (runDf C xs D.d_law_s_cells) := by
  intro st m a b c S h n t ht
  refine wp_eq rfl ?_
  have e1 : lVal t = .tup [.int t.way, .lst ((lr t).map trip)] := rfl
  have hat : L2.atI [Val.int t.way, .lst ((lr t).map trip)] 1 = some (.lst ((lr t).map trip)) := rfl
  have hlc : lcSem false [2, 3, 4] (evI C (.seq (.ix (.ix (.ix (.var 0) (.str "strips")) (.var 1)) (.int 1)))) (.tup [2, 3, 4]) (evT C .nil) (evE C D.d_law_s_cells_e0) [some (.loc m), some (.int n), none, none, none] st = .ok (.lst ((lr t).map fun x => cv x.2.2)) st := by
    refine lc_mapA trip (fun x => cv x.2.2) (by simp [h.o, h.s, lk_strips, look_ent, ht, e1, hat]) ?_
    intro x hx
    refine ⟨_, rfl, ?_⟩
    unfold D.d_law_s_cells_e0
    simp [wipe]
  have e2 : ((lr t).map fun x => cv x.2.2) = t.rows.map cv := by
    have := congrArg (List.map cv) (lr_cols t)
    rw [List.map_map] at this
    exact this
  unfold D.d_law_s_cells sv
  simp [hlc, e2]
structure Ok_law_s_cut (F : Fn) : Prop where
  run : ∀ {st : Store} {m a b c : Nat} {S : Sh}, LawAt st m a b c S → GoodS S → ∀ s : Strip, ResL F [.loc m, sv s] st m a b c (dCut S s)
theorem d_law_s_cut_ok (hg : Ok_law_seal_ok (C "_law_seal_ok")) : Ok_law_s_cut (runDf C xs D.d_law_s_cut) := by
  constructor
  intro st m a b c S h G s
  have e0 := hg s
  have es : sv s = .tup (s.map cv) := rfl
  unfold dCut
  unfold D.d_law_s_cut
  split
  · rename_i hc
    obtain ⟨l1, _⟩ := seal_len hc.1
    obtain ⟨e1, e2⟩ := high_eq l1
    have e3 : ((nth s 0).length : Int) = S.high := by rw [← e2]; exact hc.2
    rw [es] at e0 ⊢
    split
    · rename_i hl
      have c1 : ¬ (5 : Int) < S.seals.length := by omega
      refine ⟨st.set a (.lst ((S.seals ++ [s]).map sv)), ?_, h.setA _, Off.set (by simp)⟩
      have hw := wr_append (y := sv s) h.r (by rw [List.length_map]; show _ ≤ 16777216; omega)
      have q1 : ∀ X, (st.set a X)[a]? = some X := fun X => by rw [List.getElem?_set_self (lt_of_at h.r)]
      have q2 : ∀ X, (st.set a X)[m]? = some (.dK (mDict S.high a b S.given c)) := fun X => by rw [List.getElem?_set_ne h.ma.symm]; exact h.o
      rw [es] at hw
      simp [exSs, e0, hc.1, e1, e3, h.o, h.r, lk_high, lk_seals, c1, hw, q1, q2, es, PySem.sizeLine]
    · rename_i hl
      have c1 : (5 : Int) < S.seals.length := by omega
      refine ⟨st, ?_, h, .refl⟩
      simp [exSs, e0, hc.1, e1, e3, h.o, h.r, lk_high, lk_seals, c1, PySem.sizeLine]
  · rename_i hc
    refine ⟨st, ?_, h, .refl⟩
    cases hgs : goodSeal s
    · rw [es] at e0 ⊢
      simp [exSs, e0, hgs, PySem.sizeLine]
    · obtain ⟨l1, _⟩ := seal_len hgs
      obtain ⟨e1, e2⟩ := high_eq l1
      have e3 : ¬ ((nth s 0).length : Int) = S.high := by rw [← e2]; exact fun z => hc ⟨hgs, z⟩
      rw [es] at e0 ⊢
      simp [exSs, e0, hgs, e1, e3, h.o, lk_high, PySem.sizeLine]
structure Ok_law_s_chip (F : Fn) : Prop where
  run : ∀ {st : Store} {m a b c : Nat} {S : Sh}, LawAt st m a b c S → GoodS S → ∀ n k r : Int, ResL F [.loc m, .int n, .int k, .int r] st m a b c (dChip S n k r)
theorem d_law_s_chip_ok (hw : Ok_law_changed (C "_law_changed")) : Ok_law_s_chip (runDf C xs D.d_law_s_chip) := by
  constructor
  intro st m a b c S h G n k r
  unfold dChip
  unfold D.d_law_s_chip
  split
  · rename_i h1
    obtain ⟨h10, h11⟩ := h1
    obtain ⟨n', rfl⟩ := Int.eq_ofNat_of_zero_le h10
    have hlt : n' < S.seals.length := by omega
    rw [Int.toNat_natCast]
    have hm : nth S.seals n' ∈ S.seals := nth_mem hlt
    have e1 : L2.atI (S.seals.map sv) (n' : Int) = some (sv (nth S.seals n')) := nth_at hlt
    obtain ⟨gs, hh⟩ := G.sg _ hm
    obtain ⟨l1, l2, l3, l4, l5⟩ := seal_cols gs
    generalize nth S.seals n' = s at e1 gs hh l1 l2 l3 l4 l5 ⊢
    obtain ⟨f1, f2⟩ := high_eq l1
    have f3 : ((nth s 0).length : Int) = S.high := by rw [← f2]; exact hh
    have es : sv s = .tup (s.map cv) := rfl
    split
    · rename_i h2
      obtain ⟨b1, b2, b3, b4⟩ := h2
      obtain ⟨c', rfl⟩ := Int.eq_ofNat_of_zero_le b1
      obtain ⟨r', rfl⟩ := Int.eq_ofNat_of_zero_le b3
      simp only [Int.toNat_natCast]
      have hcl : c' < s.length := by omega
      have hcm := l5 _ (nth_mem hcl)
      have hrl : r' < (nth s c').length := by omega
      have e3 : ∀ st : Store, ixOp st (.tup (s.map cv)) (.int (c' : Int)) = some (cv (nth s c')) := fun st => nth_at hcl
      have e4 := fun st => cell_at2 hcl hrl (st := st)
      have e5 := fun st => hw.at_ s c' r' 0 st (by omega) hcl hrl (by omega)
      generalize cellAt s c' r' = x at e4 ⊢
      rw [es] at e1 e5
      split
      · rename_i hx
        subst hx
        refine ⟨st, ?_, h, .refl⟩
        simp [exSs, h.o, h.r, lk_seals, h10, h11, e1, b2, f1, f3, b4, e3, e4, PySem.sizeLine]
      · rename_i hx
        refine ⟨st.set a (.lst ((S.seals.set n' (setCell s c' r' 0)).map sv)), ?_, h.setA _, Off.set (by simp)⟩
        have hix : L2.ixN S.seals.length (n' : Int) = some n' := by
          unfold L2.ixN
          rw [if_pos (by omega), if_pos (by omega)]
          simp
        simp [exSs, h.o, h.r, lk_seals, h10, h11, e1, b2, f1, f3, b4, e3, e4, hx, e5, hix, List.map_set, PySem.sizeLine]
    · rename_i h2
      refine ⟨st, ?_, h, .refl⟩
      rw [es] at e1
      by_cases d1 : 0 ≤ k
      · by_cases d2 : k < s.length
        · by_cases d3 : 0 ≤ r
          · have d4 : ¬ r < S.high := fun z => h2 ⟨d1, d2, d3, z⟩
            simp [exSs, h.o, h.r, lk_seals, h10, h11, e1, d1, d2, d3, f1, f3, d4, PySem.sizeLine]
          · simp [exSs, h.o, h.r, lk_seals, h10, h11, e1, d1, d2, d3, f1, f3, PySem.sizeLine]
        · simp [exSs, h.o, h.r, lk_seals, h10, h11, e1, d1, d2, PySem.sizeLine]
      · simp [exSs, h.o, h.r, lk_seals, h10, h11, e1, d1, PySem.sizeLine]
  · rename_i h1
    refine ⟨st, ?_, h, .refl⟩
    by_cases d1 : 0 ≤ n
    · have d2 : ¬ n < S.seals.length := fun z => h1 ⟨d1, z⟩
      simp [exSs, h.o, h.r, lk_seals, d1, d2, PySem.sizeLine]
    · simp [exSs, h.o, h.r, lk_seals, d1, PySem.sizeLine]
end P
/-! P13: the law's deeds, further. -/
namespace P
open PySem (Str PyData)
open Rc
variable {C : Str → List Val → M Val} {xs : List Str}
theorem prt_plain {s : Strip} {a w : Nat} (gs : goodSeal s = true) (hw : w ≤ 12) : plainV 6 (sv (prt s a w)) := by
  obtain ⟨l1, l2, l3, l4, l5⟩ := seal_cols gs
  refine plain_strip (n := 3) (by rw [prt_len]; omega) fun c hc => ?_
  have := (l5 c (prt_mem (by omega) c hc)).1
  omega
theorem seq_get (tu d : Int) : ∀ (k : Int) (s : Strip), (seqL tu d k s) = (List.range s.length).map fun (i : Nat) => (tu, k + d * (i : Int), nth s i)
  | k, [] => rfl
  | k, c :: s => by
    show (tu, k, c) :: seqL tu d (k + d) s = _
    rw [seq_get, List.length_cons, List.range_succ_eq_map, List.map_cons, List.map_map]
    congr 1
    · simp [nth]
    · refine List.map_congr_left fun i _ => ?_
      have : k + d + d * (i : Int) = k + d * ((i + 1 : Nat) : Int) := by
        push_cast
        rw [Int.mul_add]
        omega
      show (tu, k + d + d * (i : Int), nth s i) = (tu, k + d * ((i + 1 : Nat) : Int), nth (c :: s) (i + 1))
      rw [this]
      rfl
structure Ok_law_s_roll (F : Fn) : Prop where
  run : ∀ {st : Store} {m a b c : Nat} {S : Sh}, LawAt st m a b c S → GoodS S → ∀ n k w : Int, ResL F [.loc m, .int n, .int k, .int w] st m a b c (dRoll S n k w)
theorem d_law_s_roll_ok (hp : Ok_law_print (C "_law_print")) : Ok_law_s_roll (runDf C xs D.d_law_s_roll) := by
  constructor
  intro st m a b c S h G n k w
  unfold dRoll
  split
  · rename_i h1
    obtain ⟨h10, h11⟩ := h1
    obtain ⟨n', rfl⟩ := Int.eq_ofNat_of_zero_le h10
    have hlt : n' < S.seals.length := by omega
    rw [Int.toNat_natCast]
    have hm : nth S.seals n' ∈ S.seals := nth_mem hlt
    have e1 : L2.atI (S.seals.map sv) (n' : Int) = some (sv (nth S.seals n')) := nth_at hlt
    obtain ⟨gs, hh⟩ := G.sg _ hm
    obtain ⟨l1, l2, l3, l4, l5⟩ := seal_cols gs
    generalize nth S.seals n' = s at e1 gs hh l1 l2 l3 l4 l5 ⊢
    have es : sv s = .tup (s.map cv) := rfl
    split
    · rename_i h2
      obtain ⟨d1, d2⟩ := h2
      split
      · rename_i h3
        obtain ⟨d3, d4⟩ := h3
        obtain ⟨k', rfl⟩ := Int.eq_ofNat_of_zero_le d1
        obtain ⟨w', rfl⟩ := Int.eq_ofNat_of_zero_le (show 0 ≤ w by omega)
        simp only [Int.toNat_natCast]
        obtain ⟨ext, f0⟩ := hp s k' w' st (by omega) (by omega) (by omega)
        have f1 := cut_ok f0 (prt_plain gs (by omega)) (by omega)
        have hpl : (prt s k' w').length = w' := prt_len s k' w'
        generalize prt s k' w' = p at f1 hpl ⊢
        rw [es] at e1 f1
        split
        · rename_i h4
          have c1 : ¬ (39 : Int) < S.given := by omega
          have hr40 : S.rolls.length ≤ 40 := by have := G.rl; have := G.g1; omega
          have hz : S.things.length < 100000 := by have := G.len; omega
          generalize hro : (⟨n', k', s.length⟩ : Roll) = ro
          have ero : rollV ro = .tup [.int n', .int k', .int s.length] := by rw [← hro]; rfl
          have hw := wr_append (y := rollV ro) h.q (by rw [List.length_map]; show _ ≤ 16777216; omega)
          have emap : S.rolls.map rollV ++ [rollV ro] = (S.rolls ++ [ro]).map rollV := by simp
          rw [emap, ero] at hw
          have A1 := h.setC (S.rolls ++ [ro])
          have A2 := A1.setM (S.given + 1)
          have A3 := A2.setB (S.things ++ [(S.given, (⟨p, S.rolls.length, ro, 0, 0⟩ : Thing))])
          have o1 := A1.o
          have q1 := A1.q
          have o2 := A2.o
          have s2 := A2.s
          dsimp only at o1 o2 s2 A3
          generalize hs1 : st.set c (.lst ((S.rolls ++ [ro]).map rollV)) = st1 at hw A1 A2 A3 o1 q1 o2 s2
          generalize hs2 : st1.set m (.dK (mDict S.high a b (S.given + 1) c)) = st2 at A2 A3 o2 s2
          have el : lVal ⟨p, S.rolls.length, ro, 0, 0⟩ = .tup [.int 0, .lst ((List.range w').map fun (i : Nat) => Val.tup [.int S.rolls.length, .int (i : Int), cv (nth p i)])] := by
            show Val.tup [.int 0, .lst ((lr ⟨p, S.rolls.length, ro, 0, 0⟩).map trip)] = _
            unfold lr
            rw [if_pos rfl, seq_get, List.map_map, hpl]
            refine congrArg (fun z => Val.tup [.int 0, .lst z]) (List.map_congr_left fun i _ => ?_)
            show Val.tup [.int S.rolls.length, .int (0 + 1 * (i : Int)), cv (nth p i)] = _
            rw [Int.one_mul, Int.zero_add]
          have e7 := put_ent (f := lVal) (t := S.things) (n := S.given) (a := ⟨p, S.rolls.length, ro, 0, 0⟩)
          rw [pt_new G.fresh, el] at e7
          have hlc : lcSem false [7] (evI C (.rng1 (.var 3))) (.nm 7) (evT C .nil) (evE C D.d_law_s_roll_e0) [some (.loc m), some (.int n'), some (.int k'), some (.int w'), some (sv p), some (.int S.rolls.length), some (.int S.given), none] st2 = .ok (.lst ((List.range w').map fun (i : Nat) => Val.tup [.int S.rolls.length, .int (i : Int), cv (nth p i)])) st2 := by
            refine lc_mapA (fun i : Nat => Val.int (i : Int)) (fun (i : Nat) => Val.tup [.int S.rolls.length, .int (i : Int), cv (nth p i)]) ?_ ?_
            · have hr := rng_ok (show (0 : Int) ≤ w' by omega) (by omega)
              rw [← rangeV_nat]
              generalize (w' : Int) = q at hr ⊢
              simp [hr]
            · intro i hi
              have hi' : i < p.length := by rw [hpl]; exact List.mem_range.mp hi
              refine ⟨[some (.loc m), some (.int n'), some (.int k'), some (.int w'), some (sv p), some (.int S.rolls.length), some (.int S.given), some (.int i)], rfl, ?_⟩
              have e9 : ∀ st : Store, ixOp st (sv p) (.int (i : Int)) = some (cv (nth p i)) := fun st => nth_at hi'
              unfold D.d_law_s_roll_e0
              simp [e9, PySem.sizeLine]
          refine ⟨st2.set b (.dK ((S.things ++ [(S.given, (⟨p, S.rolls.length, ro, 0, 0⟩ : Thing))]).map (ent lVal))), ?_, A3, ?_⟩
          · unfold D.d_law_s_roll
            rw [← e7]
            simp [exSs, h.o, h.r, h.q, lk_seals, lk_given, lk_rolls, lk_strips, h11, e1, d2, d3, d4, c1, f1, hw, o1, pt_given, len_m, hs2, hlc, o2, s2, hz, PySem.sizeLine]
          · subst hs2
            subst hs1
            exact ((Off.set (by simp)).trans (Off.set (by simp))).trans (Off.set (by simp))
        · rename_i h4
          have c1 : (39 : Int) < S.given := by omega
          refine ⟨st, ?_, h, .refl⟩
          unfold D.d_law_s_roll
          simp [exSs, h.o, h.r, lk_seals, lk_given, h11, e1, d2, d3, d4, c1, PySem.sizeLine]
      · rename_i h3
        refine ⟨st, ?_, h, .refl⟩
        rw [es] at e1
        unfold D.d_law_s_roll
        by_cases d3 : 1 ≤ w
        · have d4 : ¬ w ≤ 12 := fun z => h3 ⟨d3, z⟩
          simp [exSs, h.o, h.r, lk_seals, h11, e1, d1, d2, d3, d4, PySem.sizeLine]
        · simp [exSs, h.o, h.r, lk_seals, h11, e1, d1, d2, d3, PySem.sizeLine]
    · rename_i h2
      refine ⟨st, ?_, h, .refl⟩
      rw [es] at e1
      unfold D.d_law_s_roll
      by_cases d1 : 0 ≤ k
      · have d2 : ¬ k < s.length := fun z => h2 ⟨d1, z⟩
        simp [exSs, h.o, h.r, lk_seals, h11, e1, d1, d2, PySem.sizeLine]
      · simp [exSs, h.o, h.r, lk_seals, h11, e1, d1, PySem.sizeLine]
  · rename_i h1
    refine ⟨st, ?_, h, .refl⟩
    unfold D.d_law_s_roll
    by_cases d1 : 0 ≤ n
    · have d2 : ¬ n < S.seals.length := fun z => h1 ⟨d1, z⟩
      simp [exSs, h.o, h.r, lk_seals, d1, d2, PySem.sizeLine]
    · simp [exSs, h.o, h.r, lk_seals, d1, PySem.sizeLine]
theorem seq_map (tu d : Int) (f : Col → Col) : ∀ (k : Int) (s : Strip), (seqL tu d k s).map (fun x => (x.1, x.2.1, f x.2.2)) = seqL tu d k (s.map f)
  | _, [] => rfl
  | k, c :: s => by
    show (tu, k, f c) :: (seqL tu d (k + d) s).map _ = _
    rw [seq_map]
    rfl
theorem lr_turn {t : Thing} (hw : t.way = 0 ∨ t.way = 1) : lr { t with rows := turn t.rows, way := 1 - t.way } = (lr t).reverse.map (fun x => (x.1, x.2.1, x.2.2.reverse)) := by
  obtain ⟨rows, tu, ro, fi, wa⟩ := t
  dsimp only at hw
  have hl : (turn rows).length = rows.length := by simp [turn]
  unfold lr
  rcases hw with rfl | rfl
  · rw [if_neg (show ¬ ((1 : Int) - 0 = 0) by decide), if_pos rfl, seq_rev, seq_map]
    dsimp only
    rw [hl]
    congr 1
    omega
  · rw [if_pos (show ((1 : Int) - 1 = 0) by decide), if_neg (show ¬ ((1 : Int) = 0) by decide), seq_rev, seq_map]
    dsimp only
    congr 1
    omega
structure Ok_law_s_turn (F : Fn) : Prop where
  run : ∀ {st : Store} {m a b c : Nat} {S : Sh}, LawAt st m a b c S → GoodS S → ∀ n : Int, ResL F [.loc m, .int n] st m a b c (dTurn S n)
theorem d_law_s_turn_ok : Ok_law_s_turn (runDf C xs D.d_law_s_turn) := by
  constructor
  intro st m a b c S h G n
  unfold dTurn
  unfold D.d_law_s_turn
  split
  · rename_i t ht
    have gt : GoodT S t := G.tg _ (lk_mem ht)
    have hwy := gt.2.2.2.2.1
    have hz : S.things.length < 100000 := by have := G.len; omega
    have e1 := put_ent (f := lVal) (t := S.things) (n := n) (a := { t with rows := turn t.rows, way := 1 - t.way })
    have ev : lVal { t with rows := turn t.rows, way := 1 - t.way } = .tup [.int (1 - t.way), .lst ((lr t).reverse.map fun x => .tup [.int x.1, .int x.2.1, cv x.2.2.reverse])] := by
      show Val.tup [.int (1 - t.way), .lst ((lr { t with rows := turn t.rows, way := 1 - t.way }).map trip)] = _
      rw [lr_turn hwy, List.map_map]
      rfl
    have ep : lVal t = .tup [.int t.way, .lst ((lr t).map trip)] := rfl
    rw [ev] at e1
    have hlc : lcSem false [4, 5, 6] (evI C (.seq (.rev false (.var 3)))) (.tup [4, 5, 6]) (evT C .nil) (evE C D.d_law_s_turn_e0) [some (.loc m), some (.int n), some (.int t.way), some (.lst ((lr t).map trip)), none, none, none] st = .ok (.lst ((lr t).reverse.map fun x => .tup [.int x.1, .int x.2.1, cv x.2.2.reverse])) st := by
      refine lc_mapA trip _ (by simp) ?_
      intro x hx
      refine ⟨_, rfl, ?_⟩
      unfold D.d_law_s_turn_e0
      simp [wipe, cv_eq, PySem.sizeLine]
    refine ⟨st.set b (.dK ((pt S.things n { t with rows := turn t.rows, way := 1 - t.way }).map (ent lVal))), ?_, h.setB _, Off.set (by simp)⟩
    rw [← e1]
    simp [exSs, h.o, h.s, lk_strips, look_ent, ht, ep, hlc, hz, PySem.sizeLine]
  · rename_i ht
    refine ⟨st, ?_, h, .refl⟩
    simp [exSs, h.o, h.s, lk_strips, look_ent, ht, PySem.sizeLine]
theorem seq_set (tu d : Int) (x : Col) : ∀ (k : Int) (s : Strip) (i : Nat), i < s.length → seqL tu d k (s.set i x) = (seqL tu d k s).set i (tu, k + d * (i : Int), x)
  | _, [], i, h => by simp at h
  | k, c :: s, 0, _ => by
    show (tu, k, x) :: seqL tu d (k + d) s = (tu, k + d * ((0 : Nat) : Int), x) :: seqL tu d (k + d) s
    simp
  | k, c :: s, i + 1, h => by
    show (tu, k, c) :: seqL tu d (k + d) (s.set i x) = (tu, k, c) :: (seqL tu d (k + d) s).set i _
    rw [seq_set tu d x (k + d) s i (by simpa using h)]
    have : k + d + d * (i : Int) = k + d * ((i + 1 : Nat) : Int) := by
      push_cast
      rw [Int.mul_add]
      omega
    rw [this]
/-- the place of the i-th column -/
def atP (t : Thing) (i : Nat) : Int := if t.way = 0 then t.first + i else t.first + t.rows.length - 1 - i
theorem lr_set {t : Thing} {i : Nat} {x : Col} (h : i < t.rows.length) : lr { t with rows := t.rows.set i x } = (lr t).set i (t.turn, atP t i, x) := by
  obtain ⟨rows, tu, ro, fi, wa⟩ := t
  unfold lr atP
  dsimp only at h ⊢
  split
  · rw [seq_set _ _ _ _ _ _ h, Int.one_mul]
  · rw [List.length_set, seq_set _ _ _ _ _ _ h]
    congr 3
    omega
theorem lr_get {t : Thing} {i : Nat} (h : i < t.rows.length) : (lr t)[i]? = some ((t.turn : Int), atP t i, nth t.rows i) := by
  obtain ⟨rows, tu, ro, fi, wa⟩ := t
  unfold lr atP
  dsimp only at h ⊢
  split
  · rw [seq_get, List.getElem?_map, List.getElem?_range h]
    simp
  · rw [seq_get, List.getElem?_map, List.getElem?_range h]
    simp
    omega
theorem atI_nat {α : Type} {l : List α} {i : Nat} {x : α} (h : l[i]? = some x) : L2.atI l (i : Int) = some x := by
  have hl := (List.getElem?_eq_some_iff.mp h).1
  unfold L2.atI L2.ixN
  rw [if_pos (by omega), if_pos (by omega)]
  simpa using h
theorem atI_neg {α : Type} {l : List α} {x : α} (h0 : 1 ≤ l.length) (h : l[l.length - 1]? = some x) : L2.atI l (-1) = some x := by
  unfold L2.atI L2.ixN
  rw [if_neg (by omega), if_pos (by omega)]
  have : ((-1 : Int) + l.length).toNat = l.length - 1 := by omega
  show l[((-1 : Int) + l.length).toNat]? = _
  rw [this]
  exact h
structure Ok_law_s_wear (F : Fn) : Prop where
  run : ∀ {st : Store} {m a b c : Nat} {S : Sh}, LawAt st m a b c S → GoodS S → ∀ n k r : Int, ResL F [.loc m, .int n, .int k, .int r] st m a b c (dWear S n k r)
theorem d_law_s_wear_ok : Ok_law_s_wear (runDf C xs D.d_law_s_wear) := by
  constructor
  intro st m a b c S h G n k r
  unfold dWear
  unfold D.d_law_s_wear
  split
  · rename_i t ht
    have gt : GoodT S t := G.tg _ (lk_mem ht)
    obtain ⟨g1, g2, g3, g4, _⟩ := gt
    have h3 := G.h2
    have hz : S.things.length < 100000 := by have := G.len; omega
    have ep : lVal t = .tup [.int t.way, .lst ((lr t).map trip)] := rfl
    have hll := lr_len t
    split
    · rename_i h2
      obtain ⟨b1, b2, b3, b4⟩ := h2
      obtain ⟨c', rfl⟩ := Int.eq_ofNat_of_zero_le b1
      obtain ⟨r', rfl⟩ := Int.eq_ofNat_of_zero_le b3
      simp only [Int.toNat_natCast]
      have hcl : c' < t.rows.length := by omega
      have hcg := g3 _ (nth_mem hcl)
      have hrl : r' < (nth t.rows c').length := by omega
      have e3 : L2.atI ((lr t).map trip) (c' : Int) = some (.tup [.int t.turn, .int (atP t c'), .tup ((nth t.rows c').map .int)]) := by
        refine atI_nat ?_
        rw [List.getElem?_map, lr_get hcl]
        rfl
      have e4 : L2.atI ((nth t.rows c').map Val.int) (r' : Int) = some (.int (cellAt t.rows c' r')) := getD_at hrl
      have hcell : -1 ≤ cellAt t.rows c' r' := by
        have hm : cellAt t.rows c' r' ∈ nth t.rows c' := by
          unfold cellAt
          rw [List.getD_eq_getElem?_getD, List.getElem?_eq_getElem hrl]
          exact List.getElem_mem hrl
        exact (hcg.2 _ hm).1
      have ev : lVal { t with rows := setCell t.rows c' r' (-1) } = .tup [.int t.way, .lst (((lr t).map trip).set c' (.tup [.int t.turn, .int (atP t c'), .tup (((nth t.rows c').set r' (-1)).map .int)]))] := by
        show Val.tup [.int t.way, .lst ((lr { t with rows := setCell t.rows c' r' (-1) }).map trip)] = _
        unfold setCell
        rw [lr_set hcl, List.map_set]
        rfl
      generalize cellAt t.rows c' r' = x at e4 hcell ⊢
      split
      · rename_i hx
        subst hx
        refine ⟨st, ?_, h, .refl⟩
        simp [exSs, h.o, h.s, lk_strips, lk_high, look_ent, ht, ep, hll, b2, b4, e3, e4, PySem.sizeLine]
      · rename_i hx
        have hx2 : ¬ x < 0 := by omega
        have e1 := put_ent (f := lVal) (t := S.things) (n := n) (a := { t with rows := setCell t.rows c' r' (-1) })
        rw [ev] at e1
        have hlm : ((lr t).map trip).length = t.rows.length := by rw [List.length_map]; exact hll
        have k1 := cut_set (z := (-1 : Int)) hrl
        have k2 := cut_set (zs := (lr t).map trip) (z := Val.tup [.int t.turn, .int (atP t c'), .tup (((nth t.rows c').set r' (-1)).map .int)]) (k := c') (by omega)
        have z1 : (cut (nth t.rows c') none (some (r' : Int))).length + 1 ≤ 16777216 := by have := cut_le (zs := nth t.rows c') (lo := none) (hi := some (r' : Int)); omega
        have z2 : (cut (nth t.rows c') none (some (r' : Int))).length + 1 + (cut (nth t.rows c') (some ((r' : Int) + 1)) none).length ≤ 16777216 := by
          have := cut_le (zs := nth t.rows c') (lo := none) (hi := some (r' : Int))
          have := cut_le (zs := nth t.rows c') (lo := some ((r' : Int) + 1)) (hi := none)
          omega
        have z3 : (cut ((lr t).map trip) none (some (c' : Int))).length + 1 ≤ 16777216 := by have := cut_le (zs := (lr t).map trip) (lo := none) (hi := some (c' : Int)); omega
        have z4 : (cut ((lr t).map trip) none (some (c' : Int))).length + 1 + (cut ((lr t).map trip) (some ((c' : Int) + 1)) none).length ≤ 16777216 := by
          have := cut_le (zs := (lr t).map trip) (lo := none) (hi := some (c' : Int))
          have := cut_le (zs := (lr t).map trip) (lo := some ((c' : Int) + 1)) (hi := none)
          omega
        refine ⟨st.set b (.dK ((pt S.things n { t with rows := setCell t.rows c' r' (-1) }).map (ent lVal))), ?_, h.setB _, Off.set (by simp)⟩
        rw [← e1, ← k2, ← k1]
        generalize hM : (lr t).map trip = M at ep e3 z3 z4 hlm ⊢
        simp [exSs, h.o, h.s, lk_strips, lk_high, look_ent, ht, ep, hlm, b2, b4, e3, e4, hx2, cut_map, z1, z2, z3, z4, hz, PySem.sizeLine]
    · rename_i h2
      refine ⟨st, ?_, h, .refl⟩
      by_cases d1 : 0 ≤ k
      · by_cases d2 : k < t.rows.length
        · by_cases d3 : 0 ≤ r
          · have d4 : ¬ r < S.high := fun z => h2 ⟨d1, d2, d3, z⟩
            simp [exSs, h.o, h.s, lk_strips, lk_high, look_ent, ht, ep, hll, d1, d2, d3, d4, PySem.sizeLine]
          · simp [exSs, h.o, h.s, lk_strips, lk_high, look_ent, ht, ep, hll, d1, d2, d3, PySem.sizeLine]
        · simp [exSs, h.o, h.s, lk_strips, lk_high, look_ent, ht, ep, hll, d1, d2, PySem.sizeLine]
      · simp [exSs, h.o, h.s, lk_strips, lk_high, look_ent, ht, ep, hll, d1, PySem.sizeLine]
  · rename_i ht
    refine ⟨st, ?_, h, .refl⟩
    simp [exSs, h.o, h.s, lk_strips, look_ent, ht, PySem.sizeLine]
theorem seq_take (tu d : Int) : ∀ (k : Int) (s : Strip) (i : Nat), seqL tu d k (s.take i) = (seqL tu d k s).take i
  | _, [], i => by simp [seqL]
  | _, _ :: _, 0 => rfl
  | k, c :: s, i + 1 => by
    show (tu, k, c) :: seqL tu d (k + d) (s.take i) = (tu, k, c) :: (seqL tu d (k + d) s).take i
    rw [seq_take]
theorem seq_drop (tu d : Int) : ∀ (k : Int) (s : Strip) (i : Nat), seqL tu d (k + d * (i : Int)) (s.drop i) = (seqL tu d k s).drop i
  | _, [], i => by simp [seqL]
  | k, c :: s, 0 => by simp
  | k, c :: s, i + 1 => by
    show seqL tu d (k + d * ((i + 1 : Nat) : Int)) (s.drop i) = (seqL tu d (k + d) s).drop i
    rw [← seq_drop tu d (k + d) s i]
    congr 1
    push_cast
    rw [Int.mul_add]
    omega
theorem lr_take {t : Thing} {i : Nat} (h : i < t.rows.length) (hw : t.way = 0 ∨ t.way = 1) : lr { t with rows := t.rows.take i, first := if t.way = 0 then t.first else t.first + (t.rows.length - (i : Int)) } = (lr t).take i := by
  obtain ⟨rows, tu, ro, fi, wa⟩ := t
  dsimp only at h hw ⊢
  have hl : (rows.take i).length = i := by simp; omega
  unfold lr
  dsimp only
  rcases hw with rfl | rfl
  · simp only [if_true]
    rw [seq_take]
  · rw [if_neg (by decide), if_neg (by decide), if_neg (by decide), ← seq_take, hl]
    congr 1
    omega
theorem lr_drop {t : Thing} {i : Nat} (h : i < t.rows.length) (hw : t.way = 0 ∨ t.way = 1) : lr { t with rows := t.rows.drop i, first := if t.way = 0 then t.first + (i : Int) else t.first } = (lr t).drop i := by
  obtain ⟨rows, tu, ro, fi, wa⟩ := t
  dsimp only at h hw ⊢
  have hl : ((rows.drop i).length : Int) = rows.length - i := by simp; omega
  unfold lr
  dsimp only
  rcases hw with rfl | rfl
  · simp only [if_true]
    rw [← seq_drop, Int.one_mul]
  · rw [if_neg (by decide), if_neg (by decide), if_neg (by decide), ← seq_drop, hl]
    congr 1
    omega
structure Ok_law_s_snap (F : Fn) : Prop where
  run : ∀ {st : Store} {m a b c : Nat} {S : Sh}, LawAt st m a b c S → GoodS S → ∀ n k : Int, ResL F [.loc m, .int n, .int k] st m a b c (dSnap S n k)
theorem d_law_s_snap_ok : Ok_law_s_snap (runDf C xs D.d_law_s_snap) := by
  constructor
  intro st m a b c S h G n k
  unfold dSnap
  unfold D.d_law_s_snap
  split
  · rename_i t ht
    have gt : GoodT S t := G.tg _ (lk_mem ht)
    obtain ⟨g1, g2, g3, g4, g5, _⟩ := gt
    have hz : S.things.length < 100000 := by have := G.len; omega
    have ep : lVal t = .tup [.int t.way, .lst ((lr t).map trip)] := rfl
    have hll := lr_len t
    split
    · rename_i h2
      obtain ⟨b1, b2⟩ := h2
      obtain ⟨c', rfl⟩ := Int.eq_ofNat_of_zero_le (show 0 ≤ k by omega)
      simp only [Int.toNat_natCast]
      split
      · rename_i h4
        have c1 : ¬ (39 : Int) < S.given := by omega
        have hkey : n ∈ S.things.map (·.1) := List.mem_map.mpr ⟨_, lk_mem ht, rfl⟩
        have hlt : c' < t.rows.length := by omega
        have lt1 := lr_take hlt g5
        have lt2 := lr_drop hlt g5
        have e1 := put_ent (f := lVal) (t := S.things) (n := n) (a := { t with rows := t.rows.take c', first := if t.way = 0 then t.first else t.first + (t.rows.length - (c' : Int)) })
        have ev1 : lVal { t with rows := t.rows.take c', first := if t.way = 0 then t.first else t.first + (t.rows.length - (c' : Int)) } = .tup [.int t.way, .lst (((lr t).map trip).take c')] := by
          show Val.tup [.int t.way, .lst ((lr _).map trip)] = _
          rw [lt1, List.map_take]
        rw [ev1] at e1
        generalize hL : { t with rows := t.rows.take c', first := if t.way = 0 then t.first else t.first + (t.rows.length - (c' : Int)) } = L at e1 ⊢
        have ev2 : lVal { t with rows := t.rows.drop c', first := if t.way = 0 then t.first + (c' : Int) else t.first } = .tup [.int t.way, .lst (((lr t).map trip).drop c')] := by
          show Val.tup [.int t.way, .lst ((lr _).map trip)] = _
          rw [lt2, List.map_drop]
        have hfr : S.given ∉ (pt S.things n L).map (·.1) := by
          rw [pt_keys, if_pos hkey]
          exact G.fresh
        have e2 := put_ent (f := lVal) (t := pt S.things n L) (n := S.given) (a := { t with rows := t.rows.drop c', first := if t.way = 0 then t.first + (c' : Int) else t.first })
        rw [pt_new hfr, ev2] at e2
        generalize hR : { t with rows := t.rows.drop c', first := if t.way = 0 then t.first + (c' : Int) else t.first } = R at e2 ⊢
        have hpl : (pt S.things n L).length < 100000 := by
          have := congrArg List.length (pt_keys (t := S.things) (n := n) (a := L))
          rw [if_pos hkey] at this
          simp at this
          omega
        have A1 := h.setM (S.given + 1)
        have A2 := A1.setB (pt S.things n L)
        have A3 := A2.setB (pt S.things n L ++ [(S.given, R)])
        have o1 := A1.o
        have s1 := A1.s
        have o2 := A2.o
        have s2 := A2.s
        dsimp only at o1 s1 o2 s2 A3
        generalize hs1 : st.set m (.dK (mDict S.high a b (S.given + 1) c)) = st1 at A1 A2 A3 o1 s1 o2 s2
        generalize hs2 : st1.set b (.dK ((pt S.things n L).map (ent lVal))) = st2 at A2 A3 o2 s2
        have k1 : cut ((lr t).map trip) none (some (c' : Int)) = ((lr t).map trip).take c' := by rw [cut_take (by omega), Int.toNat_natCast]
        have k2 : cut ((lr t).map trip) (some (c' : Int)) none = ((lr t).map trip).drop c' := by rw [cut_drop (by omega), Int.toNat_natCast]
        have hlm : ((lr t).map trip).length = t.rows.length := by rw [List.length_map]; exact hll
        generalize hM : (lr t).map trip = M at ep e1 e2 k1 k2 hlm
        refine ⟨st2.set b (.dK ((pt S.things n L ++ [(S.given, R)]).map (ent lVal))), ?_, A3, ?_⟩
        · rw [← e2]
          simp [exSs, h.o, h.s, lk_strips, lk_given, look_ent, ht, ep, hlm, b1, b2, c1, pt_given, len_m, hs1, k1, k2, o1, s1, e1, hz, hs2, o2, s2, hpl, PySem.sizeLine]
        · subst hs2
          subst hs1
          exact ((Off.set (by simp)).trans (Off.set (by simp))).trans (Off.set (by simp))
      · rename_i h4
        have c1 : (39 : Int) < S.given := by omega
        refine ⟨st, ?_, h, .refl⟩
        simp [exSs, h.o, h.s, lk_strips, lk_given, look_ent, ht, ep, hll, b1, b2, c1, PySem.sizeLine]
    · rename_i h2
      refine ⟨st, ?_, h, .refl⟩
      by_cases d1 : 1 ≤ k
      · have d2 : ¬ k < t.rows.length := fun z => h2 ⟨d1, z⟩
        simp [exSs, h.o, h.s, lk_strips, look_ent, ht, ep, hll, d1, d2, PySem.sizeLine]
      · simp [exSs, h.o, h.s, lk_strips, look_ent, ht, ep, hll, d1, PySem.sizeLine]
  · rename_i ht
    refine ⟨st, ?_, h, .refl⟩
    simp [exSs, h.o, h.s, lk_strips, look_ent, ht, PySem.sizeLine]
theorem lr_join {t u : Thing} (hw : t.way = 0 ∨ t.way = 1) (ht : t.turn = u.turn) (hwu : t.way = u.way) (h0 : t.way = 0 → t.first + t.rows.length = u.first) (h1 : t.way = 1 → u.first + u.rows.length = t.first) : lr { t with rows := t.rows ++ u.rows, first := if t.way = 0 then t.first else u.first } = lr t ++ lr u := by
  obtain ⟨rows, tu, ro, fi, wa⟩ := t
  obtain ⟨rows2, tu2, ro2, fi2, wa2⟩ := u
  dsimp only at *
  subst ht
  subst hwu
  unfold lr
  dsimp only
  rcases hw with rfl | rfl
  · simp only [if_true]
    rw [seq_app, Int.one_mul, h0 rfl]
  · have := h1 rfl
    rw [if_neg (by decide), if_neg (by decide), if_neg (by decide), if_neg (by decide), seq_app, List.length_append]
    congr 2
    · push_cast
      omega
    · push_cast
      omega
structure Ok_law_s_join (F : Fn) : Prop where
  run : ∀ {st : Store} {m a b c : Nat} {S : Sh}, LawAt st m a b c S → GoodS S → ∀ n k : Int, ResL F [.loc m, .int n, .int k] st m a b c (dJoin S n k)
theorem d_law_s_join_ok : Ok_law_s_join (runDf C xs D.d_law_s_join) := by
  constructor
  intro st m a b c S h G n k
  unfold D.d_law_s_join
  cases ht : lk S.things n with
  | none =>
    have e : dJoin S n k = ((("NoStrip" : Str), Val.non, S) : Out) := by unfold dJoin; rw [ht]
    rw [e]
    refine ⟨st, ?_, h, .refl⟩
    simp [exSs, h.o, h.s, lk_strips, look_ent, ht, PySem.sizeLine]
  | some t =>
    cases hu : lk S.things k with
    | none =>
      have e : dJoin S n k = ((("NoStrip" : Str), Val.non, S) : Out) := by unfold dJoin; rw [ht, hu]
      rw [e]
      refine ⟨st, ?_, h, .refl⟩
      simp [exSs, h.o, h.s, lk_strips, look_ent, ht, hu, PySem.sizeLine]
    | some u =>
      have gt : GoodT S t := G.tg _ (lk_mem ht)
      have gu : GoodT S u := G.tg _ (lk_mem hu)
      obtain ⟨g1, g2, g3, g4, g5, _⟩ := gt
      obtain ⟨k1, k2, k3, k4, k5, _⟩ := gu
      have hz : S.things.length < 100000 := by have := G.len; omega
      have ep : lVal t = .tup [.int t.way, .lst ((lr t).map trip)] := rfl
      have eq : lVal u = .tup [.int u.way, .lst ((lr u).map trip)] := rfl
      have f1 : L2.atI ((lr t).map trip) (-1) = some (.tup [.int t.turn, .int (atP t (t.rows.length - 1)), cv (nth t.rows (t.rows.length - 1))]) := by
        refine atI_neg (by rw [List.length_map, lr_len]; exact g1) ?_
        rw [List.length_map, lr_len, List.getElem?_map, lr_get (by omega)]
        rfl
      have f2 : L2.atI ((lr u).map trip) 0 = some (.tup [.int u.turn, .int (atP u 0), cv (nth u.rows 0)]) := by
        refine atI_nat (i := 0) ?_
        rw [List.getElem?_map, lr_get (by omega)]
        rfl
      have f3 : ∀ x y z : Val, L2.atI [x, y, z] 0 = some x := fun _ _ _ => rfl
      have f4 : ∀ x y z : Val, L2.atI [x, y, z] 1 = some y := fun _ _ _ => rfl
      have lj := fun a b c d => lr_join (t := t) (u := u) g5 a b c d
      have hmul : ∀ w : Int, w = 0 ∨ w = 1 → (-18446744073709551616 < w ∧ w < 18446744073709551616) := fun w hw => by omega
      have hcond : (t.turn = u.turn ∧ t.way = u.way ∧ (t.way = 0 → t.first + t.rows.length = u.first) ∧ (t.way = 1 → u.first + u.rows.length = t.first)) ↔ (t.way = u.way ∧ t.turn = u.turn ∧ atP t (t.rows.length - 1) + 1 - 2 * t.way = atP u 0) := by
        constructor
        · rintro ⟨a1, a2, a3, a4⟩
          refine ⟨a2, a1, ?_⟩
          unfold atP
          rcases g5 with g5 | g5
          · have := a3 g5
            rw [if_pos g5, if_pos (by omega)]
            omega
          · have := a4 g5
            rw [if_neg (by omega), if_neg (by omega)]
            omega
        · rintro ⟨a2, a1, a3⟩
          unfold atP at a3
          refine ⟨a1, a2, fun w => ?_, fun w => ?_⟩
          · rw [if_pos w, if_pos (by omega)] at a3
            omega
          · rw [if_neg (by omega), if_neg (by omega)] at a3
            omega
      unfold dJoin
      rw [ht, hu]
      dsimp only
      have hlt := lr_len t
      have hlu := lr_len u
      generalize atP t (t.rows.length - 1) = p at f1 hcond
      generalize atP u 0 = q at f2 hcond
      split
      · rename_i hnm
        subst hnm
        refine ⟨st, ?_, h, .refl⟩
        simp [exSs, h.o, h.s, lk_strips, look_ent, ht, PySem.sizeLine]
      · rename_i hnm
        split
        · rename_i hc
          have hc2 := hcond.mp hc
          obtain ⟨c1, c2, c3, c4⟩ := hc
          have ev : lVal { t with rows := t.rows ++ u.rows, first := if t.way = 0 then t.first else u.first } = .tup [.int t.way, .lst ((lr t).map trip ++ (lr u).map trip)] := by
            show Val.tup [.int t.way, .lst ((lr _).map trip)] = _
            rw [lj c1 c2 c3 c4, List.map_append]
          have e1 := put_ent (f := lVal) (t := S.things) (n := n) (a := { t with rows := t.rows ++ u.rows, first := if t.way = 0 then t.first else u.first })
          rw [ev] at e1
          have hlk : lk (pt S.things n { t with rows := t.rows ++ u.rows, first := if t.way = 0 then t.first else u.first }) k = some u := by rw [lk_pt_ne (Ne.symm hnm)]; exact hu
          generalize pt S.things n { t with rows := t.rows ++ u.rows, first := if t.way = 0 then t.first else u.first } = T at e1 hlk ⊢
          have q2 : ∀ X, (st.set b X)[m]? = some (.dK (mDict S.high a b S.given c)) := fun X => by rw [List.getElem?_set_ne h.mb.symm]; exact h.o
          have q3 : ∀ X, (st.set b X)[b]? = some X := fun X => by rw [List.getElem?_set_self (lt_of_at h.s)]
          have e2 := mt_dpop (new := false) (v := .int k) (k := .inl k) (u := lVal u) (q3 (.dK (T.map (ent lVal)))) rfl (by rw [look_ent, hlk]; rfl)
          rw [drp_ent, List.set_set] at e2
          refine ⟨st.set b (.dK ((dp T k).map (ent lVal))), ?_, h.setB _, Off.set (by simp)⟩
          have hsz : (lr t).length + (lr u).length ≤ 16777216 := by omega
          have w0 := (hmul t.way g5).1
          have w1 := (hmul t.way g5).2
          have w2 := hc2.1
          have w3 := hc2.2.1
          have w4 := hc2.2.2
          simp [exSs, h.o, h.s, lk_strips, look_ent, ht, hu, ep, eq, hnm, f1, f2, f3, f4, w0, w1, w2.symm, w3.symm, w4, hsz, e1, hz, q2, q3, e2, PySem.sizeLine]
        · rename_i hc
          refine ⟨st, ?_, h, .refl⟩
          have w0 := (hmul t.way g5).1
          have w1 := (hmul t.way g5).2
          by_cases c2 : t.way = u.way
          · by_cases c1 : t.turn = u.turn
            · have c3 : ¬ p + 1 - 2 * t.way = q := fun z => hc (hcond.mpr ⟨c2, c1, z⟩)
              simp [exSs, h.o, h.s, lk_strips, look_ent, ht, hu, ep, eq, hnm, f1, f2, f3, f4, w0, w1, c1.symm, c2.symm, c3, PySem.sizeLine]
            · have c1' : ¬ (t.turn : Int) = u.turn := by omega
              simp [exSs, h.o, h.s, lk_strips, look_ent, ht, hu, ep, eq, hnm, f1, f2, f3, f4, c1', c1, c2.symm, PySem.sizeLine]
          · simp [exSs, h.o, h.s, lk_strips, look_ent, ht, hu, ep, eq, hnm, c2, PySem.sizeLine]
end P
/-! P14: deeds of all kinds; what is told of a workshop. -/
namespace P
open PySem (Str PyData)
open Rc
variable {C : Str → List Val → M Val} {xs : List Str}
@[simp] theorem ofs_inj {a b : String} : (Str.ofString a = Str.ofString b) = (a = b) := by
  apply propext
  constructor
  · intro h
    rw [PySem.Str.ofString_eq_toList, PySem.Str.ofString_eq_toList] at h
    injection h with h
    have h2 := congrArg Array.toList h
    simp only at h2
    have h3 : a.toList = b.toList := by
      refine (List.map_inj_right (f := Char.toNat) ?_).mp h2
      intro x y hxy
      exact Char.toNat_inj.mp hxy
    exact String.toList_inj.mp h3
  · intro h; rw [h]
inductive Deed where
  | cut (s : Strip)
  | chip (n c r : Int)
  | roll (n a w : Int)
  | turn (n : Int)
  | wear (n c r : Int)
  | snap (n c : Int)
  | join (n m : Int)
  | lose (n : Int)
def dv : Deed → Val
  | .cut s => .tup [.str "cut", sv s]
  | .chip n c r => .tup [.str "chip", .int n, .int c, .int r]
  | .roll n c r => .tup [.str "roll", .int n, .int c, .int r]
  | .turn n => .tup [.str "turn", .int n]
  | .wear n c r => .tup [.str "wear", .int n, .int c, .int r]
  | .snap n c => .tup [.str "snap", .int n, .int c]
  | .join n c => .tup [.str "join", .int n, .int c]
  | .lose n => .tup [.str "lose", .int n]
def doD (S : Sh) : Deed → Out
  | .cut s => dCut S s
  | .chip n c r => dChip S n c r
  | .roll n c r => dRoll S n c r
  | .turn n => dTurn S n
  | .wear n c r => dWear S n c r
  | .snap n c => dSnap S n c
  | .join n c => dJoin S n c
  | .lose n => dLose S n
@[simp] theorem at20 {x y : Val} : L2.atI [x, y] 0 = some x := rfl
@[simp] theorem at21 {x y : Val} : L2.atI [x, y] 1 = some y := rfl
@[simp] theorem at30 {x y z : Val} : L2.atI [x, y, z] 0 = some x := rfl
@[simp] theorem at31 {x y z : Val} : L2.atI [x, y, z] 1 = some y := rfl
@[simp] theorem at32 {x y z : Val} : L2.atI [x, y, z] 2 = some z := rfl
@[simp] theorem at40 {x y z w : Val} : L2.atI [x, y, z, w] 0 = some x := rfl
@[simp] theorem at41 {x y z w : Val} : L2.atI [x, y, z, w] 1 = some y := rfl
@[simp] theorem at42 {x y z w : Val} : L2.atI [x, y, z, w] 2 = some z := rfl
@[simp] theorem at43 {x y z w : Val} : L2.atI [x, y, z, w] 3 = some w := rfl
structure Ok_law_s_do (F : Fn) : Prop where
  run : ∀ {st : Store} {m a b c : Nat} {S : Sh}, LawAt st m a b c S → GoodS S → ∀ d : Deed, ResL F [.loc m, dv d] st m a b c (doD S d)
theorem d_law_s_do_ok (h1 : Ok_law_s_cut (C "_law_s_cut")) (h2 : Ok_law_s_chip (C "_law_s_chip")) (h3 : Ok_law_s_roll (C "_law_s_roll")) (h4 : Ok_law_s_turn (C "_law_s_turn")) (h5 : Ok_law_s_wear (C "_law_s_wear")) (h6 : Ok_law_s_snap (C "_law_s_snap")) (h7 : Ok_law_s_join (C "_law_s_join")) (h8 : Ok_law_s_cells (C "_law_s_cells")) : Ok_law_s_do (runDf C xs D.d_law_s_do) := by
  constructor
  intro st m a b c S h G d
  unfold D.d_law_s_do
  cases d with
  | cut s =>
    obtain ⟨st', e, A, o⟩ := h1.run h G s
    refine ⟨st', ?_, A, o⟩
    unfold dv doD
    simp [exSs, e]
  | chip n k r =>
    obtain ⟨st', e, A, o⟩ := h2.run h G n k r
    refine ⟨st', ?_, A, o⟩
    unfold dv doD
    simp [exSs, e]
  | roll n k r =>
    obtain ⟨st', e, A, o⟩ := h3.run h G n k r
    refine ⟨st', ?_, A, o⟩
    unfold dv doD
    simp [exSs, e]
  | turn n =>
    obtain ⟨st', e, A, o⟩ := h4.run h G n
    refine ⟨st', ?_, A, o⟩
    unfold dv doD
    simp [exSs, e]
  | wear n k r =>
    obtain ⟨st', e, A, o⟩ := h5.run h G n k r
    refine ⟨st', ?_, A, o⟩
    unfold dv doD
    simp [exSs, e]
  | snap n k =>
    obtain ⟨st', e, A, o⟩ := h6.run h G n k
    refine ⟨st', ?_, A, o⟩
    unfold dv doD
    simp [exSs, e]
  | join n k =>
    obtain ⟨st', e, A, o⟩ := h7.run h G n k
    refine ⟨st', ?_, A, o⟩
    unfold dv doD
    simp [exSs, e]
  | lose n =>
    show ResL _ _ _ _ _ _ _ (dLose S n)
    unfold dLose
    split
    · rename_i t ht
      have e0 := h8 h n t ht
      have e1 := mt_dpop (new := false) (v := .int n) (k := .inl n) (u := lVal t) h.s rfl (by rw [look_ent, ht]; rfl)
      rw [drp_ent] at e1
      refine ⟨st.set b (.dK ((dp S.things n).map (ent lVal))), ?_, h.setB _, Off.set (by simp)⟩
      unfold dv
      simp [exSs, h.o, h.s, lk_strips, look_ent, ht, e0, e1, PySem.sizeLine]
    · rename_i ht
      refine ⟨st, ?_, h, .refl⟩
      unfold dv
      simp [exSs, h.o, h.s, lk_strips, look_ent, ht, PySem.sizeLine]
structure Ok_law_shop_do (F : Fn) : Prop where
  run : ∀ {st : Store} {l a b : Nat} {S : Sh}, ShopAt st l a b S → GoodS S → ∀ d : Deed, ResP F [.loc l, dv d] st l a b (doD S d)
theorem res_of {F G : Fn} {as bs : List Val} {st : Store} {l a b : Nat} {o : Out} (h : ResP F as st l a b o) (e : ∀ r, F as st = r → (∀ v s, r = .ok v s → G bs st = .ok v s) ∧ (∀ w s, r = .exc w none s → G bs st = .exc w none s)) : ResP G bs st l a b o := by
  cases h with
  | ok h1 h2 h3 => exact .ok ((e _ h1).1 _ _ rfl) h2 h3
  | exc h1 h2 => exact .exc h1 ((e _ h2).2 _ _ rfl)
end P
/-! P15: workshops stay good; they stand alike. -/
namespace P
open PySem (Str PyData)
open Rc
variable {C : Str → List Val → M Val} {xs : List Str}
theorem seal_of {s : Strip} {h : Nat} (h1 : 1 ≤ s.length) (h2 : s.length ≤ 6) (h3 : 1 ≤ h) (h4 : h ≤ 3) (h5 : ∀ c ∈ s, c.length = h ∧ ∀ i ∈ c, 0 ≤ i ∧ i ≤ 9) : goodSeal s = true ∧ high s = h := by
  have hg : goodStrip s = true := good_iff.mpr ⟨h1, by omega, h, h3, h4, fun c hc => ⟨(h5 c hc).1, fun i hi => by have := (h5 c hc).2 i hi; omega⟩⟩
  constructor
  · unfold goodSeal
    rw [hg, decide_eq_true h2, Bool.true_and, Bool.true_and, Bool.not_eq_true', List.any_eq_false]
    intro c hc
    unfold lost
    rw [Bool.not_eq_true, List.any_eq_false]
    intro i hi
    have := (h5 c hc).2 i hi
    simp
    omega
  · rw [(high_eq h1).2]
    exact (h5 _ (nth_mem (by omega))).1
theorem set_mem {α : Type} {l : List α} {i : Nat} {x y : α} (h : y ∈ l.set i x) : y ∈ l ∨ y = x := List.mem_or_eq_of_mem_set h
theorem setCell_mem {s : Strip} {k r : Nat} {v : Int} {c : Col} (hk : k < s.length) (h : c ∈ setCell s k r v) : c ∈ s ∨ ∃ d ∈ s, c = d.set r v := by
  unfold setCell at h
  rcases set_mem h with h | h
  · exact .inl h
  · exact .inr ⟨_, nth_mem hk, h⟩
theorem gt_mono {S S' : Sh} {t : Thing} (g : GoodT S t) (h1 : S'.high = S.high) (h2 : ∀ (i : Nat) (x : Roll), S.rolls[i]? = some x → S'.rolls[i]? = some x) : GoodT S' t := by
  obtain ⟨a, b, c, d, e, f, k⟩ := g
  exact ⟨a, b, by rw [h1]; exact c, d, e, h2 _ _ f, k⟩
theorem good_rows {S : Sh} {t t' : Thing} (g : GoodT S t) (h1 : 1 ≤ t'.rows.length) (h2 : t'.first + t'.rows.length ≤ 12) (h3 : ∀ c ∈ t'.rows, (c.length : Int) = S.high ∧ ∀ i ∈ c, -1 ≤ i ∧ i ≤ 9) (h4 : 0 ≤ t'.first) (h5 : t'.way = 0 ∨ t'.way = 1) (h6 : t'.turn = t.turn) (h7 : t'.roll = t.roll) : GoodT S t' := by
  obtain ⟨a, b, c, d, e, f, k⟩ := g
  exact ⟨h1, h2, h3, h4, h5, by rw [h6, h7]; exact f, by rw [h7]; exact k⟩
/-- one strip is another one now -/
theorem good_pt {S : Sh} (G : GoodS S) {n : Int} {t t' : Thing} (ht : lk S.things n = some t) (g : GoodT S t') : GoodS { S with things := pt S.things n t' } := by
  have hkey : n ∈ S.things.map (·.1) := List.mem_map.mpr ⟨_, lk_mem ht, rfl⟩
  have hk : (pt S.things n t').map (·.1) = S.things.map (·.1) := by rw [pt_keys, if_pos hkey]
  have hl : (pt S.things n t').length = S.things.length := by
    have := congrArg List.length hk
    simpa using this
  refine ⟨G.h1, G.h2, G.sl, G.sg, by rw [hl]; exact G.g0, G.g1, G.rl, by rw [hk]; exact G.nd, fun p hp => ?_, fun p hp => ?_⟩
  · have : p.1 ∈ S.things.map (·.1) := by rw [← hk]; exact List.mem_map.mpr ⟨p, hp, rfl⟩
    obtain ⟨q, hq, e⟩ := List.mem_map.mp this
    have := G.tb q hq
    rw [e] at this
    exact this
  · rcases pt_mem hp with rfl | ⟨h, _⟩ | ⟨h, _⟩
    · exact g
    · exact G.tg p h
    · exact G.tg p h
theorem good_dp {S : Sh} (G : GoodS S) (n : Int) : GoodS { S with things := dp S.things n } := by
  have hs : (dp S.things n).Sublist S.things := List.filter_sublist
  refine ⟨G.h1, G.h2, G.sl, G.sg, ?_, G.g1, G.rl, G.nd.sublist (hs.map _), fun p hp => G.tb p (dp_mem hp).1, fun p hp => G.tg p (dp_mem hp).1⟩
  have := hs.length_le
  have := G.g0
  show ((dp S.things n).length : Int) ≤ S.given
  omega
theorem good_add {S : Sh} (G : GoodS S) (hg : S.given < 40) {t : Thing} (g : GoodT S t) : GoodS { S with things := S.things ++ [(S.given, t)], given := S.given + 1 } := by
  have g0 := G.g0
  refine ⟨G.h1, G.h2, G.sl, G.sg, by simp; omega, by simp; omega, by have := G.rl; simp; omega, ?_, fun p hp => ?_, fun p hp => ?_⟩
  · show ((S.things ++ [(S.given, t)]).map (·.1)).Nodup
    rw [List.map_append, List.nodup_append]
    refine ⟨G.nd, by simp, fun x hx y hy e => ?_⟩
    simp at hy
    subst hy
    exact G.fresh (e ▸ hx)
  · rcases List.mem_append.mp hp with hp | hp
    · have := G.tb p hp
      exact ⟨this.1, by show p.1 < S.given + 1; omega⟩
    · rw [List.mem_singleton.mp hp]
      exact ⟨by show 0 ≤ S.given; omega, by show S.given < S.given + 1; omega⟩
  · rcases List.mem_append.mp hp with hp | hp
    · exact G.tg p hp
    · rw [List.mem_singleton.mp hp]
      exact g
theorem good_seals {S : Sh} (G : GoodS S) {q : List Strip} (h1 : q.length ≤ 6) (h2 : ∀ s ∈ q, goodSeal s = true ∧ (high s : Int) = S.high) : GoodS { S with seals := q } :=
  ⟨G.h1, G.h2, h1, h2, G.g0, G.g1, G.rl, G.nd, G.tb, G.tg⟩
theorem good_do {S : Sh} (G : GoodS S) (d : Deed) : GoodS (doD S d).2.2 := by
  have H1 := G.h1
  have H2 := G.h2
  cases d with
  | cut s =>
    show GoodS (dCut S s).2.2
    unfold dCut
    split
    · rename_i hc
      split
      · rename_i hl
        refine good_seals G (by simp; omega) fun q hq => ?_
        rcases List.mem_append.mp hq with hq | hq
        · exact G.sg q hq
        · rw [List.mem_singleton.mp hq]; exact hc
      · exact G
    · exact G
  | chip n c r =>
    show GoodS (dChip S n c r).2.2
    unfold dChip
    split
    · rename_i h1
      split
      · rename_i h2
        split
        · exact G
        · refine good_seals G (by simp; exact G.sl) fun q hq => ?_
          rcases set_mem hq with hq | hq
          · exact G.sg q hq
          · have hlt : n.toNat < S.seals.length := by omega
            obtain ⟨gs, hh⟩ := G.sg _ (nth_mem hlt)
            obtain ⟨l1, l2, l3, l4, l5⟩ := seal_cols gs
            subst hq
            have hk : c.toNat < (nth S.seals n.toNat).length := by omega
            have hl : (setCell (nth S.seals n.toNat) c.toNat r.toNat 0).length = (nth S.seals n.toNat).length := by unfold setCell; simp
            obtain ⟨z1, z2⟩ := seal_of (s := setCell (nth S.seals n.toNat) c.toNat r.toNat 0) (h := high (nth S.seals n.toNat)) (by omega) (by omega) l3 l4 (fun x hx => by
              rcases setCell_mem hk hx with hx | ⟨d, hd, rfl⟩
              · exact l5 x hx
              · refine ⟨by rw [List.length_set]; exact (l5 d hd).1, fun i hi => ?_⟩
                rcases set_mem hi with hi | hi
                · exact (l5 d hd).2 i hi
                · omega)
            exact ⟨z1, by rw [z2]; exact hh⟩
      · exact G
    · exact G
  | roll n a w =>
    show GoodS (dRoll S n a w).2.2
    unfold dRoll
    split
    · rename_i h1
      split
      · rename_i h2
        split
        · rename_i h3
          split
          · rename_i h4
            have hlt : n.toNat < S.seals.length := by omega
            obtain ⟨gs, hh⟩ := G.sg _ (nth_mem hlt)
            obtain ⟨l1, l2, l3, l4, l5⟩ := seal_cols gs
            generalize nth S.seals n.toNat = s at *
            have g0 := G.g0
            have rl := G.rl
            have hgt : GoodT { S with rolls := S.rolls ++ [⟨n, a, s.length⟩] } ⟨prt s a.toNat w.toNat, S.rolls.length, ⟨n, a, s.length⟩, 0, 0⟩ := by
              refine ⟨by rw [prt_len]; omega, by rw [prt_len]; show (0 : Int) + _ ≤ 12; omega, fun c hc => ?_, Int.le_refl 0, .inl rfl, by simp, by show (0 : Int) < s.length; omega⟩
              have := l5 c (prt_mem l1 c hc)
              exact ⟨by show (c.length : Int) = S.high; omega, fun i hi => by have := this.2 i hi; omega⟩
            refine ⟨G.h1, G.h2, G.sl, G.sg, by simp; omega, by simp; omega, by simp; omega, ?_, fun p hp => ?_, fun p hp => ?_⟩
            · show ((S.things ++ [(S.given, (_ : Thing))]).map (·.1)).Nodup
              rw [List.map_append, List.nodup_append]
              refine ⟨G.nd, by simp, fun x hx y hy e => ?_⟩
              simp at hy
              subst hy
              exact G.fresh (e ▸ hx)
            · rcases List.mem_append.mp hp with hp | hp
              · have := G.tb p hp
                exact ⟨this.1, by show p.1 < S.given + 1; omega⟩
              · rw [List.mem_singleton.mp hp]
                exact ⟨by show 0 ≤ S.given; omega, by show S.given < S.given + 1; omega⟩
            · rcases List.mem_append.mp hp with hp | hp
              · exact gt_mono (G.tg p hp) rfl fun i x hx => by
                  show (S.rolls ++ [_])[i]? = some x
                  rw [List.getElem?_append_left (List.getElem?_eq_some_iff.mp hx).1]
                  exact hx
              · rw [List.mem_singleton.mp hp]
                exact gt_mono hgt rfl fun i x hx => hx
          · exact G
        · exact G
      · exact G
    · exact G
  | turn n =>
    show GoodS (dTurn S n).2.2
    unfold dTurn
    split
    · rename_i t ht
      have g : GoodT S t := G.tg _ (lk_mem ht)
      have g' := g
      obtain ⟨a, b, c, d, e, f, k⟩ := g
      refine good_pt G ht (good_rows g' (by simp [turn]; omega) (by simp [turn]; exact b) (fun x hx => ?_) d (by show 1 - t.way = 0 ∨ 1 - t.way = 1; omega) rfl rfl)
      unfold turn at hx
      obtain ⟨y, hy, rfl⟩ := List.mem_map.mp hx
      have := c y (List.mem_reverse.mp hy)
      exact ⟨by rw [List.length_reverse]; exact this.1, fun i hi => this.2 i (List.mem_reverse.mp hi)⟩
    · exact G
  | wear n c r =>
    show GoodS (dWear S n c r).2.2
    unfold dWear
    split
    · rename_i t ht
      split
      · rename_i h2
        split
        · exact G
        · have g : GoodT S t := G.tg _ (lk_mem ht)
          have g' := g
          obtain ⟨a, b, q, d, e, f, k⟩ := g
          have hk : c.toNat < t.rows.length := by omega
          have hl : (setCell t.rows c.toNat r.toNat (-1)).length = t.rows.length := by unfold setCell; simp
          refine good_pt G ht (good_rows g' (by show 1 ≤ (setCell _ _ _ _).length; omega) (by show t.first + ((setCell _ _ _ _).length : Int) ≤ 12; omega) (fun x hx => ?_) d e rfl rfl)
          rcases setCell_mem hk hx with hx | ⟨y, hy, rfl⟩
          · exact q x hx
          · refine ⟨by rw [List.length_set]; exact (q y hy).1, fun i hi => ?_⟩
            rcases set_mem hi with hi | hi
            · exact (q y hy).2 i hi
            · omega
      · exact G
    · exact G
  | snap n c =>
    show GoodS (dSnap S n c).2.2
    unfold dSnap
    split
    · rename_i t ht
      split
      · rename_i h2
        split
        · rename_i h4
          have g : GoodT S t := G.tg _ (lk_mem ht)
          have g' := g
          obtain ⟨a, b, q, d, e, f, k⟩ := g
          have hL : GoodT S { t with rows := t.rows.take c.toNat, first := if t.way = 0 then t.first else t.first + (t.rows.length - c) } := by
            refine good_rows g' (by simp; omega) ?_ (fun x hx => q x (List.mem_of_mem_take hx)) ?_ e rfl rfl
            · dsimp only
              rw [List.length_take]
              split <;> omega
            · dsimp only
              split <;> omega
          have hR : GoodT S { t with rows := t.rows.drop c.toNat, first := if t.way = 0 then t.first + c else t.first } := by
            refine good_rows g' (by simp; omega) ?_ (fun x hx => q x (List.mem_of_mem_drop hx)) ?_ e rfl rfl
            · dsimp only
              rw [List.length_drop]
              split <;> omega
            · dsimp only
              split <;> omega
          have G1 := good_pt G ht hL
          exact good_add G1 h4 (gt_mono hR rfl fun i x hx => hx)
        · exact G
      · exact G
    · exact G
  | join n m =>
    show GoodS (dJoin S n m).2.2
    cases ht : lk S.things n with
    | none =>
      unfold dJoin
      rw [ht]
      exact G
    | some t =>
      cases hu : lk S.things m with
      | none =>
        unfold dJoin
        rw [ht, hu]
        exact G
      | some u =>
        unfold dJoin
        rw [ht, hu]
        dsimp only
        split
        · exact G
        · split
          · rename_i hc
            have g : GoodT S t := G.tg _ (lk_mem ht)
            have g2 : GoodT S u := G.tg _ (lk_mem hu)
            have g' := g
            obtain ⟨a, b, q, d, e, f, k⟩ := g
            obtain ⟨a2, b2, q2, d2, e2, f2, k2⟩ := g2
            have hg : GoodT S { t with rows := t.rows ++ u.rows, first := if t.way = 0 then t.first else u.first } := by
              refine good_rows g' ?_ ?_ (fun x hx => ?_) ?_ e rfl rfl
              · simp; omega
              · obtain ⟨c1, c2, c3, c4⟩ := hc
                dsimp only
                rw [List.length_append]
                split
                · rename_i hw
                  have := c3 hw
                  omega
                · have := c4 (by omega)
                  omega
              · rcases List.mem_append.mp hx with hx | hx
                · exact q x hx
                · exact q2 x hx
              · dsimp only
                split <;> omega
            exact good_dp (good_pt G ht hg) m
          · exact G
  | lose n =>
    show GoodS (dLose S n).2.2
    unfold dLose
    split
    · exact good_dp G n
    · exact G
/-! ### sources -/
/-! ### a workshop stands as the law's does -/
theorem plain_thing {n : Nat} {S : Sh} {t : Thing} (G : GoodS S) (g : GoodT S t) : plainV (n + 3) (sv t.rows) := plain_good (thing_good G g)
end P
/-! P16: a workshop and the law's own one, side by side. -/
namespace P
open PySem (Str PyData)
open Rc
variable {C : Str → List Val → M Val} {xs : List Str}
structure Two (rest : Store) (S : Sh) : Prop where
  p : ∀ o, ShopAt (o :: rest) 1 2 3 S
  w : ∀ o, LawAt (o :: rest) 7 4 5 6 S
  g : GoodS S
theorem same_of (S : Sh) (d : Deed) : (doD S d).1 ≠ "" → doD S d = ((doD S d).1, .non, S) := by
  cases d <;> simp only [doD]
  · unfold dCut; repeat' split
    all_goals simp
  · unfold dChip; repeat' split
    all_goals simp
  · unfold dRoll; repeat' split
    all_goals simp
  · unfold dTurn; repeat' split
    all_goals simp
  · unfold dWear; repeat' split
    all_goals simp
  · unfold dSnap; repeat' split
    all_goals simp
  · unfold dJoin; repeat' split
    all_goals simp
  · unfold dLose; repeat' split
    all_goals simp
/-- a deed tried: refusals become words -/
structure OkTried (ws : List Str) (F : Fn) : Prop where
  run : ∀ {st : Store} {l a b : Nat} {S : Sh}, ShopAt st l a b S → GoodS S → ∀ d : Deed, ((doD S d).1 ≠ "" → (doD S d).1 ∈ ws) → ∃ st', F [.loc l, dv d] st = .ok (.lst [.str (doD S d).1, (doD S d).2.1]) st' ∧ ShopAt st' l a b (doD S d).2.2 ∧ Off [l, a, b] st st'
theorem plain_deed {S : Sh} (G : GoodS S) (d : Deed) : plainV 6 (.lst [.str (doD S d).1, (doD S d).2.1]) := by
  refine .lst (by simp) fun w hw => ?_
  simp only [List.mem_cons, List.not_mem_nil, or_false] at hw
  rcases hw with rfl | rfl
  · exact .str _
  · cases d <;> simp only [doD]
    · unfold dCut; repeat' split
      all_goals first | exact .int _ | exact .non
    · unfold dChip; repeat' split
      all_goals first | exact .int _ | exact .non
    · unfold dRoll; repeat' split
      all_goals first | exact .int _ | exact .non
    · unfold dTurn; repeat' split
      all_goals first | exact .int _ | exact .non
    · unfold dWear; repeat' split
      all_goals first | exact .int _ | exact .non
    · unfold dSnap; repeat' split
      all_goals first | exact .int _ | exact .non
    · unfold dJoin; repeat' split
      all_goals first | exact .int _ | exact .non
    · unfold dLose; split
      · rename_i t ht
        exact plain_thing (n := 2) G (G.tg _ (lk_mem ht))
      · exact .non
theorem Two.next {o : Ob} {rest st1 st2 : Store} {S S' : Sh} (t : Two rest S) (h1 : ShopAt st1 1 2 3 S') (o1 : Off [1, 2, 3] (o :: rest) st1) (h2 : LawAt st2 7 4 5 6 S') (o2 : Off [7, 4, 5, 6] st1 st2) (g : GoodS S') : ∃ rest', st2 = o :: rest' ∧ Two rest' S' := by
  have e0 : st2[0]? = some o := by
    rw [o2.off 0 (by simp), o1.off 0 (by simp)]
    rfl
  have h3 := h1.off o2 (by simp) (by simp) (by simp)
  cases st2 with
  | nil => simp at e0
  | cons q r =>
    simp at e0
    subst e0
    exact ⟨r, rfl, fun o' => ⟨h3.o, h3.r, h3.s⟩, fun o' => ⟨h2.o, h2.r, h2.s, h2.q, h2.mb, h2.ac⟩, g⟩
/-- a deed done on both sides -/
theorem Two.deed {ws : List Str} {o : Ob} {rest : Store} {S : Sh} {F : Fn} (t : Two rest S) (h1 : OkTried ws F) (h2 : Ok_law_s_do (C "_law_s_do")) (d : Deed) (hw : (doD S d).1 ≠ "" → (doD S d).1 ∈ ws) : ∃ (w : Str) (v : Val) (st1 : Store) (rest' : Store) (S' : Sh), doD S d = (w, v, S') ∧ F [.loc 1, dv d] (o :: rest) = .ok (.lst [.str w, v]) st1 ∧ C "_law_s_do" [.loc 7, dv d] st1 = .ok (.tup [.str w, v]) (o :: rest') ∧ Two rest' S' ∧ plainV 6 (.lst [.str w, v]) := by
  obtain ⟨st1, e1, A1, O1⟩ := h1.run (t.p o) t.g d hw
  have w1 := (t.w o).off O1 (by simp) (by simp) (by simp) (by simp)
  obtain ⟨st2, e2, A2, O2⟩ := h2.run w1 t.g d
  obtain ⟨rest', rfl, T⟩ := t.next A1 O1 A2 O2 (good_do t.g d)
  exact ⟨_, _, st1, rest', _, rfl, e1, e2, T, plain_deed t.g d⟩
theorem high_do (S : Sh) (d : Deed) : (doD S d).2.2.high = S.high := by
  cases d <;> simp only [doD]
  · unfold dCut; repeat' split
    all_goals rfl
  · unfold dChip; repeat' split
    all_goals rfl
  · unfold dRoll; repeat' split
    all_goals rfl
  · unfold dTurn; repeat' split
    all_goals rfl
  · unfold dWear; repeat' split
    all_goals rfl
  · unfold dSnap; repeat' split
    all_goals rfl
  · unfold dJoin; repeat' split
    all_goals rfl
  · unfold dLose; repeat' split
    all_goals rfl
end P
/-! P17: numbers drawn; deeds that stand; what is told. -/
namespace P
open PySem (Str PyData)
open Rc
variable {C : Str → List Val → M Val} {xs : List Str}
theorem do_cut {S : Sh} {s : Strip} (h1 : goodSeal s = true) (h2 : (high s : Int) = S.high) (h3 : S.seals.length < 6) : (doD S (.cut s)).1 = "" ∧ (doD S (.cut s)).2.2 = { S with seals := S.seals ++ [s] } := by
  simp only [doD, dCut]
  rw [if_pos ⟨h1, h2⟩, if_pos h3]
  exact ⟨rfl, rfl⟩
theorem Two.done {o : Ob} {rest : Store} {S : Sh} {F G : Fn} (t : Two rest S) (h1 : Ok_law_shop_do F) (h2 : Ok_law_s_do G) (d : Deed) (hw : (doD S d).1 = "") : ∃ (v : Val) (st1 : Store) (rest' : Store), F [.loc 1, dv d] (o :: rest) = .ok v st1 ∧ G [.loc 7, dv d] st1 = .ok (.tup [.str "", v]) (o :: rest') ∧ Two rest' (doD S d).2.2 := by
  have r := h1.run (t.p o) t.g d
  have g := good_do t.g d
  have k : ∀ st, LawAt st 7 4 5 6 S → _ := fun st w => h2.run w t.g d
  generalize doD S d = q at *
  cases r with
  | ok e1 A1 O1 =>
    have w1 := (t.w o).off O1 (by simp) (by simp) (by simp) (by simp)
    obtain ⟨st2, e2, A2, O2⟩ := k _ w1
    obtain ⟨rest', rfl, T⟩ := t.next A1 O1 A2 O2 g
    exact ⟨_, _, rest', e1, e2, T⟩
  | exc n e => exact absurd hw n
theorem Two.grow {rest ext : Store} {S : Sh} (t : Two rest S) : Two (rest ++ ext) S := by
  have key : ∀ (o : Ob) (i : Nat) (x : Ob), (o :: rest)[i]? = some x → (o :: (rest ++ ext))[i]? = some x := fun o i x h => by
    rw [← List.cons_append, List.getElem?_append_left (List.getElem?_eq_some_iff.mp h).1]
    exact h
  exact ⟨fun o => ⟨key o _ _ (t.p o).o, key o _ _ (t.p o).r, key o _ _ (t.p o).s⟩, fun o => ⟨key o _ _ (t.w o).o, key o _ _ (t.w o).r, key o _ _ (t.w o).s, key o _ _ (t.w o).q, (t.w o).mb, (t.w o).ac⟩, t.g⟩
theorem nums_len {S : Sh} (G : GoodS S) : (nums S).length ≤ 1000 := by
  have := (srt_perm (S.things.map (·.1))).length_eq
  have := G.len
  unfold nums
  simp at *
  omega
def Ok_law_number_of (F : Fn) : Prop := ∀ (o : Ob), DrawOb o → ∀ (l : List Int), l.length ≤ 1000 → ∀ rest : Store, ∃ n o', DrawOb o' ∧ F [.loc 0, .lst (l.map .int)] (o :: rest) = .ok (.int n) (o' :: rest)
theorem d_law_number_of_ok (hp : Ok_law_pull (C "_law_pull")) (hn : Ok_law_near (C "_law_near")) : Ok_law_number_of (runDf C xs D.d_law_number_of) := by
  intro o ho l hl rest
  unfold D.d_law_number_of
  by_cases c : l.length = 0
  · obtain ⟨v, o1, h1, e1⟩ := hn o ho 3 (by omega) (by omega) rest
    have : l = [] := List.eq_nil_of_length_eq_zero c
    subst this
    refine ⟨v, o1, h1, ?_⟩
    simp [exSs, e1]
  · obtain ⟨v, o1, h1, a1, b1, e1⟩ := hp o ho 10 (by omega) (by omega) rest
    have hne : l ≠ [] := fun e => c (by rw [e]; rfl)
    by_cases c2 : v = 4
    · obtain ⟨v2, o2, h2, e2⟩ := hn o1 h1 (3 + l.length) (by omega) (by omega) rest
      refine ⟨v2, o2, h2, ?_⟩
      simp [exSs, e1, e2, c, c2, hne]
    · obtain ⟨v2, o2, h2, a2, b2, e2⟩ := hp o1 h1 l.length (by omega) (by omega) rest
      obtain ⟨k, rfl⟩ := Int.eq_ofNat_of_zero_le a2
      have hk : k < l.length := by omega
      have f1 : L2.atI (l.map Val.int) (k : Int) = some (.int l[k]) := atI_nat (by simp [hk])
      refine ⟨l[k], o2, h2, ?_⟩
      have e2' : C (Str.ofString "_law_pull") [Val.loc 0, Val.int (l.length : Int)] (o1 :: rest) = R.ok (Val.int (k : Int)) (o2 :: rest) := e2
      simp [exSs, e1, c, c2, hne, e2', f1]
/-- a deed tried, whatever comes of it -/
structure Ok_law_shop_try (F : Fn) : Prop where
  run : ∀ {st : Store} {l a b : Nat} {S : Sh}, ShopAt st l a b S → GoodS S → ∀ d : Deed, ∃ st', F [.loc l, dv d] st = .ok (.lst [.str (if (doD S d).1 = "" then "" else "refused"), (doD S d).2.1]) st' ∧ ShopAt st' l a b (doD S d).2.2 ∧ Off [l, a, b] st st'
theorem words_do (S : Sh) (d : Deed) : (doD S d).1 ≠ "" → (doD S d).1 ∈ ([("BadSeal" : Str), "BadStart", "BadWidth", "Bare", "Full", "Lost", "NoCell", "NoSeal", "NoStrip", "NotPieces", "SameOne"] : List Str) := by
  cases d <;> simp only [doD]
  · unfold dCut; repeat' split
    all_goals simp
  · unfold dChip; repeat' split
    all_goals simp
  · unfold dRoll; repeat' split
    all_goals simp
  · unfold dTurn; repeat' split
    all_goals simp
  · unfold dWear; repeat' split
    all_goals simp
  · unfold dSnap; repeat' split
    all_goals simp
  · unfold dJoin; repeat' split
    all_goals simp
  · unfold dLose; repeat' split
    all_goals simp
abbrev wsAll : List Str := ["BadSeal", "BadStart", "BadWidth", "Bare", "Full", "Lost", "NoCell", "NoSeal", "NoStrip", "NotPieces", "SameOne"]
theorem plain_up : ∀ {n : Nat} {v : Val}, plainV n v → plainV (n + 1) v := by
  intro n v h
  induction h with
  | non => exact .non
  | bl b => exact .bl b
  | int i => exact .int i
  | str x => exact .str x
  | tup h _ ih => exact .tup h ih
  | lst h _ ih => exact .lst h ih
def Ok_law_same_end (F : Fn) : Prop := ∀ (w w' : Str) (v : Val) (st : Store), plainV 5 v → (w = "" ↔ w' = "") → F [.lst [.str w, v], .tup [.str w', v]] st = .ok (.bl true) st
theorem d_law_same_end_ok (hL : Ok_law_like (C "_law_like")) : Ok_law_same_end (runDf C xs D.d_law_same_end) := by
  intro w w' v st pl hw
  have e := hL.same v st (plain_up pl)
  unfold D.d_law_same_end
  by_cases c : w = ""
  · have c' := hw.mp c
    simp [exSs, e, c, c']
  · have c' : ¬ w' = "" := fun k => c (hw.mpr k)
    simp [exSs, e, c, c']
end P
/-! P18: copies of the law's workshop; two pieces; deeds drawn. -/
namespace P
open PySem (Str PyData)
open Rc
variable {C : Str → List Val → M Val} {xs : List Str}
section
variable {h : Int} {a b c x : Nat} {g : Int}
theorem pt_seals : put (mDict h a b g c) (.inr "seals") (.loc x) = mDict h x b g c := by
  have n1 := k_ne (x := "high") (y := "seals") (by decide)
  have n2 := k_ne (x := "given") (y := "seals") (by decide)
  have n3 := k_ne (x := "strips") (y := "seals") (by decide)
  have n4 := k_ne (x := "rolls") (y := "seals") (by decide)
  unfold put mDict
  rw [if_pos (by simp)]
  simp only [List.map_cons, List.map_nil, n1, n2, n3, n4, if_false, if_true]
theorem pt_strips : put (mDict h a b g c) (.inr "strips") (.loc x) = mDict h a x g c := by
  have n1 := k_ne (x := "high") (y := "strips") (by decide)
  have n2 := k_ne (x := "given") (y := "strips") (by decide)
  have n3 := k_ne (x := "seals") (y := "strips") (by decide)
  have n4 := k_ne (x := "rolls") (y := "strips") (by decide)
  unfold put mDict
  rw [if_pos (by simp)]
  simp only [List.map_cons, List.map_nil, n1, n2, n3, n4, if_false, if_true]
theorem pt_rolls : put (mDict h a b g c) (.inr "rolls") (.loc x) = mDict h a b g x := by
  have n1 := k_ne (x := "high") (y := "rolls") (by decide)
  have n2 := k_ne (x := "given") (y := "rolls") (by decide)
  have n3 := k_ne (x := "seals") (y := "rolls") (by decide)
  have n4 := k_ne (x := "strips") (y := "rolls") (by decide)
  unfold put mDict
  rw [if_pos (by simp)]
  simp only [List.map_cons, List.map_nil, n1, n2, n3, n4, if_false, if_true]
end
theorem at_grow {st ext : Store} {i : Nat} {x : Ob} (h : st[i]? = some x) : (st ++ ext)[i]? = some x := by
  rw [List.getElem?_append_left (List.getElem?_eq_some_iff.mp h).1]
  exact h
theorem LawAt.grow {st ext : Store} {m a b c : Nat} {S : Sh} (h : LawAt st m a b c S) : LawAt (st ++ ext) m a b c S := ⟨at_grow h.o, at_grow h.r, at_grow h.s, at_grow h.q, h.mb, h.ac⟩
theorem ShopAt.grow {st ext : Store} {m a b : Nat} {S : Sh} (h : ShopAt st m a b S) : ShopAt (st ++ ext) m a b S := ⟨at_grow h.o, at_grow h.r, at_grow h.s⟩
def copyL (n : Nat) (S : Sh) : Store := [.dK (mDict S.high (n + 1) (n + 2) S.given (n + 3)), .lst (S.seals.map sv), .dK (S.things.map (ent lVal)), .lst (S.rolls.map rollV)]
theorem copy_at {st : Store} {S : Sh} : LawAt (st ++ copyL st.length S) st.length (st.length + 1) (st.length + 2) (st.length + 3) S := by
  unfold copyL
  exact ⟨by simp, by simp, by simp, by simp, by omega, by omega⟩
def Ok_law_s_copy (F : Fn) : Prop := ∀ {st : Store} {m a b c : Nat} {S : Sh}, LawAt st m a b c S → F [.loc m] st = .ok (.loc st.length) (st ++ copyL st.length S)
theorem d_law_s_copy_ok : Ok_law_s_copy (runDf C xs D.d_law_s_copy) := by
  intro st m a b c S h
  have hm := lt_of_at h.o
  have ha := lt_of_at h.r
  have hb := lt_of_at h.s
  have hc := lt_of_at h.q
  have q1 : ∀ e, (st ++ e)[m]? = some (.dK (mDict S.high a b S.given c)) := fun e => at_grow h.o
  have q2 : ∀ e, (st ++ e)[a]? = some (.lst (S.seals.map sv)) := fun e => at_grow h.r
  have q3 : ∀ e, (st ++ e)[b]? = some (.dK (S.things.map (ent lVal))) := fun e => at_grow h.s
  have q4 : ∀ e, (st ++ e)[c]? = some (.lst (S.rolls.map rollV)) := fun e => at_grow h.q
  have s1 : ∀ X e Y, (st ++ X :: e).set st.length Y = st ++ Y :: e := fun X e Y => by simp
  have s2 : ∀ X e, (st ++ X :: e)[st.length]? = some X := fun X e => by simp
  clear hm ha hb hc
  have q0 := h.o
  unfold D.d_law_s_copy copyL
  simp [exSs, q0, q1, q2, q3, q4, s1, s2, lk_seals, lk_strips, lk_rolls, pt_seals, pt_strips, pt_rolls, len_m, PySem.sizeLine]
theorem off_pre {is : List Nat} {p q st' : Store} (h : Off is (p ++ q) st') (hi : ∀ i ∈ is, p.length ≤ i) : ∃ q', st' = p ++ q' := by
  refine ⟨st'.drop p.length, ?_⟩
  have : st'.take p.length = p := by
    apply List.ext_getElem?
    intro i
    by_cases hl : i < p.length
    · rw [List.getElem?_take_of_lt hl, h.off i (fun k => by have := hi i k; omega), List.getElem?_append_left hl]
    · rw [List.getElem?_eq_none (by rw [List.length_take]; omega), List.getElem?_eq_none (by omega)]
  conv => lhs; rw [← List.take_append_drop p.length st', this]
def InvG (rest : Store) (E : Env → Prop) (e : Env) (st : Store) : Prop := E e ∧ ∃ o ext, DrawOb o ∧ st = o :: (rest ++ ext)
def PairT (rest : Store) (v : Val) (st : Store) : Prop := ∃ (i j : Int) (o' : Ob) (ext : Store), DrawOb o' ∧ v = .tup [.int i, .int j] ∧ st = o' :: (rest ++ ext)
def Ok_law_two_pieces (F : Fn) : Prop := ∀ (o : Ob), DrawOb o → ∀ {rest : Store} {m a b c : Nat} {S : Sh}, (∀ o, LawAt (o :: rest) m a b c S) → GoodS S → ∃ v st', F [.loc 0, .loc m] (o :: rest) = .ok v st' ∧ PairT rest v st'
theorem d_law_two_pieces_ok (hp : Ok_law_pull (C "_law_pull")) (hno : Ok_law_number_of (C "_law_number_of")) (hc : Ok_law_s_copy (C "_law_s_copy")) (hj : Ok_law_s_join (C "_law_s_join")) : Ok_law_two_pieces (runDf C xs D.d_law_two_pieces) := by
  intro o ho rest m a b c S W G
  refine wp_run rfl ?_
  unfold D.d_law_two_pieces
  have Wo := (W o).o
  have Ws := (W o).s
  have hls : mapO toInt ((S.things.map (ent lVal)).map fun kv => keyVal kv.1) = some (S.things.map (·.1)) := by rw [list_ent]; exact e_moI
  have en : srt (S.things.map (·.1)) = nums S := rfl
  have nl := nums_len G
  rw [wp_cons]
  simp [Wo, Ws, lk_strips, hls, en, -wp_cons, -List.map_map]
  rw [wp_cons]
  simp [-Still, -wp_cons]
  refine wpk_for (InvG rest fun env => ∃ q3 q4, env = [some (.loc 0), some (.loc m), some (.lst ((nums S).map .int)), q3, q4]) ⟨⟨_, _, rfl⟩, o, [], ho, by simp⟩ ?_ ?_
  · clear ho Wo Ws
    rintro x hx env st ⟨⟨q3, q4, rfl⟩, o, ext, ho, rfl⟩
    obtain ⟨n, hn', rfl⟩ := List.mem_map.mp hx
    refine ⟨_, rfl, ?_⟩
    unfold D.d_law_two_pieces_b0
    rw [wp_cons]
    simp [-Still, -wp_cons]
    refine wpk_for (InvG rest fun env => ∃ q4, env = [some (.loc 0), some (.loc m), some (.lst ((nums S).map .int)), some (.int n), q4]) ⟨⟨_, rfl⟩, o, ext, ho, rfl⟩ ?_ ?_
    · clear ho
      rintro x hx env st ⟨⟨q4, rfl⟩, o, ext, ho, rfl⟩
      obtain ⟨k, hk', rfl⟩ := List.mem_map.mp hx
      refine ⟨_, rfl, ?_⟩
      unfold D.d_law_two_pieces_b1
      by_cases k1 : n = k
      · simp [k1]
        exact ⟨⟨_, rfl⟩, o, ext, ho, rfl⟩
      · obtain ⟨v, o1, h1, _, _, e1⟩ := hp o ho 2 (by decide) (by decide) (rest ++ ext)
        by_cases k2 : v = 0
        · have W1 : LawAt (o1 :: (rest ++ ext)) m a b c S := (W o1).grow
          have e2 := hc W1
          obtain ⟨st', e3, A3, O3⟩ := hj.run (copy_at (st := o1 :: (rest ++ ext)) (S := S)) G n k
          obtain ⟨q', rfl⟩ := off_pre O3 (by simp)
          simp only [List.length_cons, List.length_append, List.cons_append, List.append_assoc] at e2 e3
          by_cases k3 : (dJoin S n k).1 = ""
          · simp [k1, e1, k2, e2, e3, k3, PySem.sizeLine]
            exact ⟨n, k, o1, ext ++ q', h1, rfl, rfl⟩
          · simp [k1, e1, k2, e2, e3, k3, PySem.sizeLine]
            exact ⟨⟨_, rfl⟩, o1, ext ++ q', h1, rfl⟩
        · simp [k1, e1, k2]
          exact ⟨⟨_, rfl⟩, o1, ext, h1, rfl⟩
    · rintro env st ⟨⟨q4, rfl⟩, o, ext, ho, rfl⟩
      simp
      exact ⟨⟨_, _, rfl⟩, o, ext, ho, rfl⟩
  · rintro env st ⟨⟨q3, q4, rfl⟩, o, ext, ho, rfl⟩
    obtain ⟨i, o1, h1, e1⟩ := hno o ho (nums S) nl (rest ++ ext)
    obtain ⟨j, o2, h2, e2⟩ := hno o1 h1 (nums S) nl (rest ++ ext)
    simp [e1, e2, PySem.sizeLine]
    exact ⟨i, j, o2, ext, h2, rfl, rfl⟩
def DeedT (S : Sh) (ws : List Str) (rest : Store) (v : Val) (st : Store) : Prop := ∃ (d : Deed) (o' : Ob) (ext : Store), DrawOb o' ∧ ((doD S d).1 ≠ "" → (doD S d).1 ∈ ws) ∧ v = dv d ∧ st = o' :: (rest ++ ext)
end P
/-! P19: deeds of every kind, drawn. -/
namespace P
open PySem (Str PyData)
open Rc
variable {C : Str → List Val → M Val} {xs : List Str}
def Ok_law_odd_columns (F : Fn) : Prop := ∀ (o : Ob), DrawOb o → ∀ (h : Int), 1 ≤ h → h ≤ 3 → ∀ s : Strip, Drawn h s → ∀ rest : Store, ∃ (s' : Strip) (o' : Ob), DrawOb o' ∧ F [.loc 0, sv s] (o :: rest) = .ok (sv s') (o' :: rest)
theorem d_law_odd_columns_ok (hp : Ok_law_pull (C "_law_pull")) : Ok_law_odd_columns (runDf C xs D.d_law_odd_columns) := by
  intro o ho h hh0 hh1 s hs rest
  obtain ⟨hs1, hs2, hs3⟩ := hs
  obtain ⟨v, o1, h1, a1, b1, e1⟩ := hp o ho 14 (by decide) (by decide) rest
  have z5 := sz_ok (show 1 ≤ 1000 by omega)
  have hlc : lcSem false [4] (evI C (.seq (.var 1))) (.nm 4) (evT C .nil) (evE C D.d_law_odd_columns_e0) [some (.loc 0), some (.tup (s.map cv)), none, none, none] (o :: rest) = .ok (.lst ((s.map fun c => c ++ [0]).map cv)) (o :: rest) := by
    rw [List.map_map]
    refine lc_mapA cv (fun c => cv (c ++ [0])) (by simp) ?_
    intro c hc
    refine ⟨_, rfl, ?_⟩
    have q3 := sz_ok (show c.length + 1 ≤ 1000 by have := hs3 c hc; omega)
    unfold D.d_law_odd_columns_e0
    simp [wipe, cv, q3, z5]
  obtain ⟨k, hk⟩ : ∃ k : Int, k = (if 9 < v then v - 9 else 0) := ⟨_, rfl⟩
  obtain ⟨s', hs'⟩ : ∃ s' : Strip, L2.atI [Val.tup (s.map cv), .tup ((s ++ s).map cv), .tup ((cut s none (some 1) ++ [[9, 9, 9, 9]]).map cv), .tup ((s.map fun c => c ++ [0]).map cv), .tup ((cut s (some 1) none).map cv)] k = some (.tup (s'.map cv)) := by
    have : k = 0 ∨ k = 1 ∨ k = 2 ∨ k = 3 ∨ k = 4 := by split at hk <;> omega
    rcases this with rfl | rfl | rfl | rfl | rfl <;> exact ⟨_, rfl⟩
  refine ⟨s', o1, h1, ?_⟩
  have q1 : s.length ≤ 12 := hs2
  have q2 : s.length + s.length ≤ 16777216 := by omega
  have q3 : (cut s none (some 1)).length + 1 ≤ 16777216 := by have := cut_le (zs := s) (lo := none) (hi := some 1); omega
  generalize (s.map fun c => c ++ [0]) = s0 at *
  rw [hk] at hs'
  simp only [List.map_append, List.map_cons, List.map_nil] at hs'
  have c9 : cv [9, 9, 9, 9] = .tup [.int 9, .int 9, .int 9, .int 9] := rfl
  rw [c9] at hs'
  unfold D.d_law_odd_columns sv
  simp [exSs, hlc, e1, q2, q3, cut_map, hs', PySem.sizeLine]

def Ok_law_deed (F : Fn) : Prop := ∀ (o : Ob), DrawOb o → ∀ {rest : Store} {m a b c : Nat} {S : Sh}, (∀ o, LawAt (o :: rest) m a b c S) → GoodS S → ∃ v st', F [.loc 0, .loc m] (o :: rest) = .ok v st' ∧ DeedT S wsAll rest v st'
theorem rangeV_ints (n : Nat) : rangeV 0 (n : Int) = ((List.range n).map fun k : Nat => (k : Int)).map .int := by
  unfold rangeV
  simp
theorem d_law_deed_ok (hp : Ok_law_pull (C "_law_pull")) (hn : Ok_law_near (C "_law_near")) (hs : Ok_law_seal (C "_law_seal")) (hoc : Ok_law_odd_columns (C "_law_odd_columns")) (hno : Ok_law_number_of (C "_law_number_of")) (h2p : Ok_law_two_pieces (C "_law_two_pieces")) : Ok_law_deed (runDf C xs D.d_law_deed) := by
  intro o ho rest m a b c S W G
  have fin : ∀ (d : Deed) (o' : Ob) (ext : Store), DrawOb o' → DeedT S wsAll rest (dv d) (o' :: (rest ++ ext)) := fun d o' ext h => ⟨d, o', ext, h, words_do S d, rfl, rfl⟩
  have fin0 : ∀ (d : Deed) (o' : Ob), DrawOb o' → DeedT S wsAll rest (dv d) (o' :: rest) := fun d o' h => ⟨d, o', [], h, words_do S d, rfl, by simp⟩
  refine wp_run rfl ?_
  unfold D.d_law_deed
  have Wo := fun o => (W o).o
  have Ws := fun o => (W o).s
  have Wr := fun o => (W o).r
  have H1 := G.h1
  have H2 := G.h2
  have SL := G.sl
  have hls : mapO toInt ((S.things.map (ent lVal)).map fun kv => keyVal kv.1) = some (S.things.map (·.1)) := by rw [list_ent]; exact e_moI
  have en : srt (S.things.map (·.1)) = nums S := rfl
  have nl := nums_len G
  obtain ⟨v, o1, h1, a1, b1, e1⟩ := hp o ho 22 (by decide) (by decide) rest
  rw [wp_cons]
  simp [e1, -wp_cons]
  rw [wp_cons]
  simp [Wo, Ws, lk_strips, hls, en, -wp_cons, -List.map_map]
  by_cases k0 : S.seals.length = 0 ∨ v = 0
  · obtain ⟨s, o2, h2, d2, _, _, e2⟩ := hs o1 h1 S.high 6 H1 H2 (by decide) (by decide) rest
    obtain ⟨s', o3, h3, e3⟩ := hoc o2 h2 S.high H1 H2 s d2 rest
    rw [wp_cons]
    by_cases k1 : S.seals.length = 0
    · have k1' : S.seals = [] := List.eq_nil_of_length_eq_zero k1
      simp [Wo, Wr, lk_seals, lk_high, k1, k1', e2, e3, PySem.sizeLine]
      exact fin0 (.cut s') o3 h3
    · have k1' : ¬ S.seals = [] := fun e => k1 (by rw [e]; rfl)
      have k2 : v = 0 := k0.resolve_left k1
      simp [Wo, Wr, lk_seals, lk_high, k1, k1', k2, e2, e3, PySem.sizeLine]
      exact fin0 (.cut s') o3 h3
  have k1 : ¬ S.seals.length = 0 := fun e => k0 (.inl e)
  have k1' : ¬ S.seals = [] := fun e => k1 (by rw [e]; rfl)
  have k2 : ¬ v = 0 := fun e => k0 (.inr e)
  rw [wp_cons]
  simp [Wo, Wr, lk_seals, k1, k1', k2, -wp_cons]
  have hr := rng_ok (show (0 : Int) ≤ S.seals.length by omega) (by omega)
  obtain ⟨n, o2, h2, e2⟩ := hno o1 h1 ((List.range S.seals.length).map fun k : Nat => (k : Int)) (by simp; omega) rest
  rw [← rangeV_ints] at e2
  rw [wp_cons]
  simp [Wo, Wr, lk_seals, hr, e2, -wp_cons]
  by_cases k3 : v < 3
  · obtain ⟨v3, o3, h3, e3⟩ := hn o2 h2 3 (by decide) (by decide) rest
    obtain ⟨v4, o4, h4, e4⟩ := hn o3 h3 S.high (by omega) (by omega) rest
    rw [wp_cons]
    simp [k3, e3, Wo, lk_high, e4, PySem.sizeLine]
    exact fin0 (.chip n v3 v4) o4 h4
  rw [wp_cons]
  simp [k3, -wp_cons]
  rw [wp_cons]
  by_cases k4 : v < 8 ∨ (nums S).length = 0
  · have k4' : ¬ v < 8 → nums S = [] := fun e => List.eq_nil_of_length_eq_zero (k4.resolve_left e)
    by_cases k5 : v < 8 <;> simp [k5, k4', -wp_cons] <;>
    (rw [wp_cons]
     refine wpk_seq (fun e st => ∃ z : Int, 1 ≤ z ∧ z ≤ 6 ∧ e = [some (.loc 0), some (.loc m), some (.int v), some (.lst ((nums S).map .int)), some (.int n), none, none, some (.int z), none, none] ∧ st = o2 :: rest) ?_ ?_
     · by_cases c1 : 0 ≤ n
       · by_cases c2 : n < S.seals.length
         · obtain ⟨n', rfl⟩ := Int.eq_ofNat_of_zero_le c1
           have hlt : n' < S.seals.length := by omega
           have f1 : L2.atI (S.seals.map sv) (n' : Int) = some (sv (nth S.seals n')) := nth_at hlt
           obtain ⟨gs, _⟩ := G.sg _ (nth_mem hlt)
           obtain ⟨l1, l2, _⟩ := seal_cols gs
           have f2 : sv (nth S.seals n') = .tup ((nth S.seals n').map cv) := rfl
           rw [f2] at f1
           simp [Wo, Wr, lk_seals, c1, c2, f1, hlt, k4', k5]
           omega
         · simp [Wo, Wr, lk_seals, c1, c2, k4', k5]
       · simp [Wo, Wr, lk_seals, c1, k4', k5]
     rintro _ _ ⟨z, z1, z2, rfl, rfl⟩
     obtain ⟨v3, o3, h3, _, _, e3⟩ := hp o2 h2 8 (by decide) (by decide) rest
     rw [wp_cons]
     refine wpk_seq (fun e st => ∃ (y : Int) (o4 : Ob), DrawOb o4 ∧ e = [some (.loc 0), some (.loc m), some (.int v), some (.lst ((nums S).map .int)), some (.int n), none, none, some (.int z), some (.int y), none] ∧ st = o4 :: rest) ?_ ?_
     · by_cases c1 : 0 < v3
       · obtain ⟨v4, o4, h4, _, _, e4⟩ := hp o3 h3 z (by omega) (by omega) rest
         simp [e3, c1, e4, h4]
       · obtain ⟨v4, o4, h4, e4⟩ := hn o3 h3 z (by omega) (by omega) rest
         simp [e3, c1, e4, h4]
     rintro _ _ ⟨y, o4, h4, rfl, rfl⟩
     obtain ⟨v5, o5, h5, _, _, e5⟩ := hp o4 h4 8 (by decide) (by decide) rest
     by_cases c1 : 0 < v5
     · obtain ⟨v6, o6, h6, _, _, e6⟩ := hp o5 h5 12 (by omega) (by omega) rest
       simp [e5, c1, e6, PySem.sizeLine]
       exact fin0 (.roll n y (1 + v6)) o6 h6
     · obtain ⟨v6, o6, h6, e6⟩ := hn o5 h5 13 (by omega) (by omega) rest
       simp [e5, c1, e6, PySem.sizeLine]
       exact fin0 (.roll n y v6) o6 h6)
  have k5 : ¬ v < 8 := fun e => k4 (.inl e)
  have k6 : ¬ nums S = [] := fun e => k4 (.inr (by rw [e]; rfl))
  simp [k5, k6, -wp_cons]
  obtain ⟨i, o3, h3, e3⟩ := hno o2 h2 (nums S) nl rest
  rw [wp_cons]
  simp [e3, -wp_cons]
  rw [wp_cons]
  refine wpk_seq (fun e st => ∃ z : Int, 1 ≤ z ∧ z ≤ 12 ∧ e = [some (.loc 0), some (.loc m), some (.int v), some (.lst ((nums S).map .int)), some (.int n), some (.int i), some (.int z), none, none, none] ∧ st = o3 :: rest) ?_ ?_
  · cases hk : lk S.things i with
    | none => simp [Wo, Ws, lk_strips, look_ent, hk]
    | some t =>
      have g : GoodT S t := G.tg _ (lk_mem hk)
      obtain ⟨t1, t2, t3, t4, _⟩ := g
      have hz : (lr t).length = t.rows.length := lr_len t
      simp [Wo, Ws, lk_strips, look_ent, hk, lVal, hz]
      omega
  rintro _ _ ⟨z, z1, z2, rfl, rfl⟩
  by_cases k7 : v < 11
  · simp [k7, PySem.sizeLine]
    exact fin0 (.turn i) o3 h3
  rw [wp_cons]
  simp [k7, -wp_cons]
  by_cases k8 : v < 14
  · obtain ⟨v4, o4, h4, e4⟩ := hn o3 h3 z (by omega) (by omega) rest
    obtain ⟨v5, o5, h5, e5⟩ := hn o4 h4 S.high (by omega) (by omega) rest
    simp [k8, e4, Wo, lk_high, e5, PySem.sizeLine]
    exact fin0 (.wear i v4 v5) o5 h5
  rw [wp_cons]
  simp [k8, -wp_cons]
  by_cases k9 : v < 18
  · obtain ⟨v4, o4, h4, _, _, e4⟩ := hp o3 h3 z (by omega) (by omega) rest
    simp [k9, e4, PySem.sizeLine]
    exact fin0 (.snap i (1 + v4)) o4 h4
  rw [wp_cons]
  simp [k9, -wp_cons]
  by_cases k10 : v < 21
  · obtain ⟨_, _, e4, j, k, o4, ext, h4, rfl, rfl⟩ := h2p o3 h3 W G
    simp [k10, e4, PySem.sizeLine]
    exact fin (.join j k) o4 ext h4
  · simp [k10, PySem.sizeLine]
    exact fin0 (.lose i) o3 h3
end P
/-! P20: a workshop stands as the law's does, though the law's table be in another order. -/
namespace P
open PySem (Str PyData)
open Rc
variable {C : Str → List Val → M Val} {xs : List Str}
section
variable {α : Type}
theorem lk_app {t u : List (Int × α)} {k : Int} : lk (t ++ u) k = (lk t k).or (lk u k) := by
  unfold lk
  rw [List.find?_append]
  cases t.find? fun p => decide (p.1 = k) <;> rfl
theorem lk_dp2 {t : List (Int × α)} {n k : Int} : lk (dp t n) k = if k = n then none else lk t k := by
  unfold lk dp
  rw [List.find?_filter]
  split
  · rename_i h
    subst h
    rw [List.find?_eq_none.mpr (by intro x _; simp)]
    rfl
  · rename_i h
    congr 1
    congr 1
    funext p
    by_cases e : p.1 = k
    · simp [e, h]
    · simp [e]
theorem lk_pt2 {t : List (Int × α)} {n k : Int} {a : α} : lk (pt t n a) k = if k = n then some a else lk t k := by
  unfold pt
  split
  · rename_i h
    induction t with
    | nil => simp at h
    | cons p t ih =>
      by_cases e : p.1 = n
      · by_cases e2 : k = n
        · subst e2
          simp [lk, e]
        · have e3 : ¬ p.1 = k := fun q => e2 (by rw [← q, e])
          have e4 : ¬ n = k := fun q => e2 q.symm
          by_cases h2 : (t.any fun p => decide (p.1 = n)) = true
          · have := ih h2
            simp [lk, e, e2, e4] at this ⊢
            exact this
          · have hm : t.map (fun p => if p.1 = n then (p.1, a) else p) = t := by
              rw [List.map_congr_left (g := id) (fun x hx => ?_), List.map_id]
              have : ¬ x.1 = n := fun q => h2 (List.any_eq_true.mpr ⟨x, hx, by simp [q]⟩)
              simp [this]
            rw [List.map_cons, hm]
            simp [lk, e, e2, e4]
      · have h2 : (t.any fun p => decide (p.1 = n)) = true := by simpa [e] using h
        have := ih h2
        by_cases e2 : p.1 = k
        · have e3 : ¬ k = n := fun q => e (by rw [e2, q])
          subst e2
          simp [lk, e]
        · simp [lk, e, e2] at this ⊢
          exact this
  · rename_i h
    rw [lk_app]
    have hn : ∀ x ∈ t, ¬ x.1 = n := fun x hx q => h (List.any_eq_true.mpr ⟨x, hx, by simp [q]⟩)
    by_cases e : k = n
    · subst e
      have : lk t k = none := by
        unfold lk
        rw [List.find?_eq_none.mpr (by intro x hx; simpa using hn x hx)]
        rfl
      rw [this]
      simp [lk]
    · have e4 : ¬ n = k := fun q => e q.symm
      have : lk [(n, a)] k = none := by simp [lk, e4]
      rw [this, if_neg e]
      cases lk t k <;> rfl
end
end P
/-! P21: deeds told by look-ups (for k38). -/
namespace P
open PySem (Str PyData)
open Rc
variable {C : Str → List Val → M Val} {xs : List Str}
def lft (t : Thing) (c : Int) : Thing := { t with rows := t.rows.take c.toNat, first := if t.way = 0 then t.first else t.first + (t.rows.length - c) }
def rgt (t : Thing) (c : Int) : Thing := { t with rows := t.rows.drop c.toNat, first := if t.way = 0 then t.first + c else t.first }
def trn (t : Thing) : Thing := { t with rows := turn t.rows, way := 1 - t.way }
def jnd (t u : Thing) : Thing := { t with rows := t.rows ++ u.rows, first := if t.way = 0 then t.first else u.first }
theorem snap_lk {S : Sh} (G : GoodS S) {n c : Int} {t : Thing} (ht : lk S.things n = some t) (h1 : 1 ≤ c) (h2 : c < t.rows.length) (h3 : S.given < 40) : ∃ th, dSnap S n c = ((("" : Str), Val.int S.given, { S with things := th, given := S.given + 1 }) : Out) ∧ ∀ k, lk th k = if k = S.given then some (rgt t c) else if k = n then some (lft t c) else lk S.things k := by
  refine ⟨pt S.things n (lft t c) ++ [(S.given, rgt t c)], ?_, fun k => ?_⟩
  · unfold dSnap
    rw [ht]
    dsimp only
    rw [if_pos ⟨h1, h2⟩, if_pos h3]
    rfl
  · have hf : lk S.things S.given = none := lk_none.mpr G.fresh
    have hng : ¬ S.given = n := fun e => by rw [e, ht] at hf; cases hf
    rw [lk_app, lk_pt2]
    by_cases e : k = S.given
    · subst e
      rw [if_neg hng, hf, if_pos rfl]
      simp [lk]
    · have e' : ¬ S.given = k := fun q => e q.symm
      have : lk [(S.given, rgt t c)] k = none := by simp [lk, e']
      rw [this, if_neg e]
      split
      · rfl
      · cases lk S.things k <;> rfl
theorem turn_lk {S : Sh} {n : Int} {t : Thing} (ht : lk S.things n = some t) : ∃ th, dTurn S n = ((("" : Str), Val.non, { S with things := th }) : Out) ∧ ∀ k, lk th k = if k = n then some (trn t) else lk S.things k := by
  refine ⟨pt S.things n (trn t), ?_, fun k => lk_pt2⟩
  unfold dTurn
  rw [ht]
  rfl
theorem join_lk {S : Sh} {n m : Int} {t u : Thing} (ht : lk S.things n = some t) (hu : lk S.things m = some u) (hne : ¬ n = m) (hc : t.turn = u.turn ∧ t.way = u.way ∧ (t.way = 0 → t.first + t.rows.length = u.first) ∧ (t.way = 1 → u.first + u.rows.length = t.first)) : ∃ th, dJoin S n m = ((("" : Str), Val.non, { S with things := th }) : Out) ∧ ∀ k, lk th k = if k = m then none else if k = n then some (jnd t u) else lk S.things k := by
  refine ⟨dp (pt S.things n (jnd t u)) m, ?_, fun k => by rw [lk_dp2, lk_pt2]⟩
  unfold dJoin
  rw [ht, hu]
  dsimp only
  rw [if_neg hne, if_pos hc]
  rfl
theorem jnd_back {t : Thing} {c : Int} : jnd (lft t c) (rgt t c) = t := by
  obtain ⟨r, tu, ro, f, w⟩ := t
  unfold jnd lft rgt
  dsimp only
  rw [List.take_append_drop]
  by_cases h : w = 0
  · rw [if_pos h, if_pos h]
  · rw [if_neg h, if_neg h]
theorem jnd_back2 {t : Thing} {c : Int} (hw : t.way = 0 ∨ t.way = 1) : trn (jnd (trn (rgt t c)) (trn (lft t c))) = t := by
  obtain ⟨r, tu, ro, f, w⟩ := t
  have e : turn (turn (r.drop c.toNat) ++ turn (r.take c.toNat)) = r := by
    unfold turn
    rw [← List.map_append, ← List.reverse_append, List.take_append_drop, ← List.map_reverse, List.reverse_reverse, List.map_map]
    have : (List.reverse ∘ List.reverse : Col → Col) = id := by funext x; simp
    rw [this, List.map_id]
  dsimp only at hw
  unfold trn jnd lft rgt
  dsimp only
  rw [e]
  rcases hw with rfl | rfl
  · simp
  · simp
end P
/-! P22: broken, turned and joined again (for k38). -/
namespace P
open PySem (Str PyData)
open Rc
variable {C : Str → List Val → M Val} {xs : List Str}
theorem ResP.done {F : Fn} {as : List Val} {st : Store} {l a b : Nat} {v : Val} {S' : Sh} (h : ResP F as st l a b (("" : Str), v, S')) : ∃ st', F as st = .ok v st' ∧ ShopAt st' l a b S' ∧ Off [l, a, b] st st' := by
  generalize ho : ((("" : Str), v, S') : Out) = o at h
  cases h with
  | ok h1 h2 h3 => cases ho; exact ⟨_, h1, h2, h3⟩
  | exc h1 h2 =>
    injection ho with q _
    exact absurd q.symm h1
end P
/-! P23: the same table in another order (for k38). -/
namespace P
open PySem (Str PyData)
open Rc
variable {C : Str → List Val → M Val} {xs : List Str}
end P
/-! P86: things of the store that lie apart; workshops and the law's own ones among them; twins. -/
namespace P
open PySem (Str PyData)
open Rc
variable {C : Str → List Val → M Val} {xs : List Str}
theorem Off.gro' {is : List Nat} {st st' : Store} (h : Off is st st') : st.length ≤ st'.length ∧ ∀ i, i < st.length → i ∉ is → st'[i]? = st[i]? := ⟨Nat.le_of_eq h.len.symm, fun i _ hi => h.off i hi⟩
/-- like st at the places that are not of is; it may have grown -/
structure Gro (is : List Nat) (st st' : Store) : Prop where
  len : st.length ≤ st'.length
  off : ∀ i, i < st.length → i ∉ is → st'[i]? = st[i]?
theorem Gro.refl {is : List Nat} {st : Store} : Gro is st st := ⟨Nat.le_refl _, fun _ _ _ => rfl⟩
theorem Gro.trans {is js : List Nat} {a b c : Store} (h : Gro is a b) (k : Gro js b c) (hj : ∀ j ∈ js, j ∈ is ∨ a.length ≤ j) : Gro is a c :=
  ⟨Nat.le_trans h.len k.len, fun i hi hn => by
    rw [k.off i (Nat.lt_of_lt_of_le hi h.len) (fun m => by rcases hj i m with q | q; exact hn q; omega)]
    exact h.off i hi hn⟩
theorem Gro.wid {is js : List Nat} {a b : Store} (h : Gro is a b) (hs : ∀ i ∈ is, i ∈ js) : Gro js a b := ⟨h.len, fun i hi hn => h.off i hi fun m => hn (hs i m)⟩
theorem gro_app {is : List Nat} {st ext : Store} : Gro is st (st ++ ext) := ⟨by simp, fun i hi _ => List.getElem?_append_left hi⟩
theorem gro_set {is : List Nat} {st : Store} {i : Nat} {o : Ob} (h : i ∈ is) : Gro is st (st.set i o) := ⟨by simp, fun j _ hj => by
  rw [List.getElem?_set_ne]
  exact fun e => hj (e ▸ h)⟩
/-- a thing of the store, with its places -/
structure Own where
  is : List Nat
  P : Store → Prop
  mv : ∀ {st st' : Store}, (∀ i ∈ is, st'[i]? = st[i]?) → P st → P st'
  lt : ∀ {st : Store}, P st → ∀ i ∈ is, i < st.length
structure Sep (st : Store) (os : List Own) : Prop where
  p : ∀ o ∈ os, o.P st
  nd : (os.flatMap (·.is)).Nodup
theorem Sep.perm {st : Store} {os os' : List Own} (h : Sep st os) (p : os.Perm os') : Sep st os' :=
  ⟨fun o ho => h.p o (p.mem_iff.mpr ho), (p.flatMap_right _).nodup_iff.mp h.nd⟩
theorem Sep.tail {st : Store} {o : Own} {os : List Own} (h : Sep st (o :: os)) : Sep st os :=
  ⟨fun x hx => h.p x (List.mem_cons_of_mem _ hx), by
    have := h.nd
    rw [List.flatMap_cons, List.nodup_append] at this
    exact this.2.1⟩
/-- the first thing changes, and may take new places -/
theorem Sep.step {st st' : Store} {o o' : Own} {os : List Own} {is : List Nat} (h : Sep st (o :: os)) (k : Gro is st st') (hi : ∀ i ∈ is, i ∈ o.is ∨ st.length ≤ i) (he : ∀ i ∈ o'.is, i ∈ o.is ∨ st.length ≤ i) (nd : o'.is.Nodup) (hp : o'.P st') : Sep st' (o' :: os) := by
  have hn := h.nd
  rw [List.flatMap_cons, List.nodup_append] at hn
  obtain ⟨n1, n2, n3⟩ := hn
  have hlt : ∀ x ∈ os, ∀ i ∈ x.is, i < st.length ∧ i ∉ o.is := fun x hx i hi => ⟨x.lt (h.p x (List.mem_cons_of_mem _ hx)) i hi, fun hm => n3 i hm i (List.mem_flatMap.mpr ⟨x, hx, hi⟩) rfl⟩
  constructor
  · intro x hx
    rcases List.mem_cons.mp hx with rfl | hx
    · exact hp
    · refine x.mv (fun i hm => ?_) (h.p x (List.mem_cons_of_mem _ hx))
      obtain ⟨q1, q2⟩ := hlt x hx i hm
      refine k.off i q1 fun hc => ?_
      rcases hi i hc with c | c
      · exact q2 c
      · omega
  · rw [List.flatMap_cons, List.nodup_append]
    refine ⟨nd, n2, fun i hi' j hj e => ?_⟩
    subst e
    obtain ⟨x, hx, hm⟩ := List.mem_flatMap.mp hj
    obtain ⟨q1, q2⟩ := hlt x hx i hm
    rcases he i hi' with c | c
    · exact q2 c
    · omega
/-- a new thing -/
theorem Sep.add {st st' : Store} {o' : Own} {os : List Own} {is : List Nat} (h : Sep st os) (k : Gro is st st') (hi : ∀ i ∈ is, st.length ≤ i) (he : ∀ i ∈ o'.is, st.length ≤ i) (nd : o'.is.Nodup) (hp : o'.P st') : Sep st' (o' :: os) := by
  have e0 : Sep st (⟨[], fun _ => True, fun _ _ => trivial, fun _ i hi => by simp at hi⟩ :: os) := ⟨fun o ho => by
    rcases List.mem_cons.mp ho with rfl | ho
    · trivial
    · exact h.p o ho, by simpa using h.nd⟩
  exact e0.step k (fun i m => .inr (hi i m)) (fun i m => .inr (he i m)) nd hp
/-- nothing of it changes -/
theorem Sep.still {st st' : Store} {os : List Own} {is : List Nat} (h : Sep st os) (k : Gro is st st') (hi : ∀ i ∈ is, st.length ≤ i) : Sep st' os :=
  ⟨fun x hx => x.mv (fun i hm => k.off i (x.lt (h.p x hx) i hm) fun hc => by
    have := x.lt (h.p x hx) i hm
    have := hi i hc
    omega) (h.p x hx), h.nd⟩
/-- the same, with the draw ahead of it all, whatever it is -/
structure DSep (rest : Store) (os : List Own) : Prop where
  s : ∀ o, Sep (o :: rest) os
  z : ∀ o ∈ os, 0 ∉ o.is
theorem DSep.perm {rest : Store} {os os' : List Own} (h : DSep rest os) (p : os.Perm os') : DSep rest os' := ⟨fun o => (h.s o).perm p, fun o ho => h.z o (p.mem_iff.mpr ho)⟩
theorem DSep.tail {rest : Store} {o : Own} {os : List Own} (h : DSep rest (o :: os)) : DSep rest os := ⟨fun x => (h.s x).tail, fun x hx => h.z x (List.mem_cons_of_mem _ hx)⟩
theorem head_of {x : Ob} {rest st' : Store} {is : List Nat} (k : Gro is (x :: rest) st') (hi : 0 ∉ is) : ∃ rest', st' = x :: rest' ∧ rest.length ≤ rest'.length := by
  have h := k.off 0 (by simp) hi
  have hl := k.len
  cases st' with
  | nil => simp at hl
  | cons q r =>
    simp at h
    subst h
    exact ⟨r, rfl, by simpa using hl⟩
theorem DSep.step {x : Ob} {rest st' : Store} {o o' : Own} {os : List Own} {is : List Nat} (h : DSep rest (o :: os)) (k : Gro is (x :: rest) st') (hi : ∀ i ∈ is, i ∈ o.is ∨ rest.length < i) (he : ∀ i ∈ o'.is, i ∈ o.is ∨ rest.length < i) (nd : o'.is.Nodup) (hp : o'.P st') : ∃ rest', st' = x :: rest' ∧ rest.length ≤ rest'.length ∧ DSep rest' (o' :: os) := by
  have z0 := h.z o (List.mem_cons_self ..)
  have zn : 0 ∉ is := fun m => by
    rcases hi 0 m with c | c
    · exact z0 c
    · omega
  have ze : 0 ∉ o'.is := fun m => by
    rcases he 0 m with c | c
    · exact z0 c
    · omega
  obtain ⟨rest', rfl, hl⟩ := head_of k zn
  refine ⟨rest', rfl, hl, fun y => ?_, fun o2 ho => ?_⟩
  · refine (h.s y).step (is := is) (st' := y :: rest') ⟨by simpa using hl, fun i h1 h2 => ?_⟩ (fun i m => by simpa [Nat.lt_iff_add_one_le] using hi i m) (fun i m => by simpa [Nat.lt_iff_add_one_le] using he i m) nd (o'.mv (fun i m => ?_) hp)
    · cases i with
      | zero => rfl
      | succ i =>
        have := k.off (i + 1) (by simpa using h1) h2
        simpa using this
    · cases i with
      | zero => exact absurd m ze
      | succ i => rfl
  · rcases List.mem_cons.mp ho with rfl | ho
    · exact ze
    · exact h.z o2 (List.mem_cons_of_mem _ ho)
theorem DSep.still {x : Ob} {rest st' : Store} {os : List Own} {is : List Nat} (h : DSep rest os) (k : Gro is (x :: rest) st') (hi : ∀ i ∈ is, rest.length < i) : ∃ rest', st' = x :: rest' ∧ rest.length ≤ rest'.length ∧ DSep rest' os := by
  have h' : DSep rest (⟨[], fun _ => True, fun _ _ => trivial, fun _ i hi => by simp at hi⟩ :: os) := ⟨fun y => ⟨fun o ho => by
    rcases List.mem_cons.mp ho with rfl | ho
    · trivial
    · exact (h.s y).p o ho, by simpa using (h.s y).nd⟩, fun o ho => by
    rcases List.mem_cons.mp ho with rfl | ho
    · simp
    · exact h.z o ho⟩
  obtain ⟨r, e, l, s⟩ := h'.step k (fun i m => .inr (hi i m)) (o' := ⟨[], fun _ => True, fun _ _ => trivial, fun _ i hi => by simp at hi⟩) (fun i m => by simp at m) (by simp) trivial
  exact ⟨r, e, l, s.tail⟩
theorem DSep.add {x : Ob} {rest st' : Store} {o' : Own} {os : List Own} {is : List Nat} (h : DSep rest os) (k : Gro is (x :: rest) st') (hi : ∀ i ∈ is, rest.length < i) (he : ∀ i ∈ o'.is, rest.length < i) (nd : o'.is.Nodup) (hp : o'.P st') : ∃ rest', st' = x :: rest' ∧ rest.length ≤ rest'.length ∧ DSep rest' (o' :: os) := by
  have h' : DSep rest (⟨[], fun _ => True, fun _ _ => trivial, fun _ i hi => by simp at hi⟩ :: os) := ⟨fun y => ⟨fun o ho => by
    rcases List.mem_cons.mp ho with rfl | ho
    · trivial
    · exact (h.s y).p o ho, by simpa using (h.s y).nd⟩, fun o ho => by
    rcases List.mem_cons.mp ho with rfl | ho
    · simp
    · exact h.z o ho⟩
  exact h'.step k (fun i m => .inr (hi i m)) (fun i m => .inr (he i m)) nd hp
theorem DSep.grow {rest : Store} {os : List Own} (h : DSep rest os) (ext : Store) : DSep (rest ++ ext) os := by
  refine ⟨fun y => (h.s y).still (is := []) (st' := y :: (rest ++ ext)) ?_ (by simp), h.z⟩
  have := gro_app (is := []) (st := y :: rest) (ext := ext)
  simpa using this
theorem DSep.get {rest : Store} {os : List Own} (h : DSep rest os) (x : Ob) {o : Own} (ho : o ∈ os) : o.P (x :: rest) := (h.s x).p o ho
theorem DSep.nd1 {rest : Store} {o : Own} {os : List Own} (h : DSep rest (o :: os)) (x : Ob) : o.is.Nodup := by
  have := (h.s x).nd
  rw [List.flatMap_cons, List.nodup_append] at this
  exact this.1
theorem DSep.lt {rest : Store} {os : List Own} (h : DSep rest os) (x : Ob) {o : Own} (ho : o ∈ os) : ∀ i ∈ o.is, i ≤ rest.length := fun i hi => by
  have := o.lt (h.get x ho) i hi
  simp at this
  omega
/-- two things as one -/
def Own.and (a b : Own) : Own where
  is := a.is ++ b.is
  P st := a.P st ∧ b.P st
  mv h p := ⟨a.mv (fun i hi => h i (List.mem_append.mpr (.inl hi))) p.1, b.mv (fun i hi => h i (List.mem_append.mpr (.inr hi))) p.2⟩
  lt p i hi := by
    rcases List.mem_append.mp hi with hi | hi
    · exact a.lt p.1 i hi
    · exact b.lt p.2 i hi
theorem DSep.split {rest : Store} {a b : Own} {os : List Own} : DSep rest (a.and b :: os) ↔ DSep rest (a :: b :: os) := by
  constructor
  · rintro ⟨s, z⟩
    refine ⟨fun x => ⟨fun o ho => ?_, ?_⟩, fun o ho => ?_⟩
    · have hp := (s x).p _ (List.mem_cons_self ..)
      rcases List.mem_cons.mp ho with rfl | ho
      · exact hp.1
      rcases List.mem_cons.mp ho with rfl | ho
      · exact hp.2
      · exact (s x).p o (List.mem_cons_of_mem _ ho)
    · have := (s x).nd
      simpa [Own.and, List.append_assoc] using this
    · have hz : 0 ∉ a.is ++ b.is := z _ (List.mem_cons_self ..)
      rcases List.mem_cons.mp ho with rfl | ho
      · exact fun m => hz (List.mem_append.mpr (.inl m))
      rcases List.mem_cons.mp ho with rfl | ho
      · exact fun m => hz (List.mem_append.mpr (.inr m))
      · exact z o (List.mem_cons_of_mem _ ho)
  · rintro ⟨s, z⟩
    refine ⟨fun x => ⟨fun o ho => ?_, ?_⟩, fun o ho => ?_⟩
    · rcases List.mem_cons.mp ho with rfl | ho
      · exact ⟨(s x).p _ (by simp), (s x).p _ (by simp)⟩
      · exact (s x).p o (by simp [ho])
    · have := (s x).nd
      simpa [Own.and, List.append_assoc] using this
    · rcases List.mem_cons.mp ho with rfl | ho
      · intro m
        rcases List.mem_append.mp m with m | m
        · exact z a (by simp) m
        · exact z b (by simp) m
      · exact z o (by simp [ho])
/-- the i-th one to the front -/
theorem perm_at {α : Type} : ∀ {l : List α} {i : Nat} {x : α}, l[i]? = some x → l.Perm (x :: l.eraseIdx i)
  | [], i, x, h => by simp at h
  | y :: l, 0, x, h => by
    simp at h
    subst h
    exact List.Perm.refl _
  | y :: l, i + 1, x, h => by
    have := perm_at (l := l) (i := i) (x := x) (by simpa using h)
    exact (this.cons y).trans (List.Perm.swap x y _)
theorem Off.gro {is : List Nat} {st st' : Store} (h : Off is st st') : Gro is st st' := ⟨h.gro'.1, h.gro'.2⟩
/-! ### things -/
def ownL (l : Nat) (vs : List Val) : Own where
  is := [l]
  P st := st[l]? = some (.lst vs)
  mv h p := (h l (by simp)).trans p
  lt p i hi := by
    rw [List.mem_singleton.mp hi]
    exact lt_of_at p
abbrev PlS := Nat × Nat × Nat
abbrev PlW := Nat × Nat × Nat × Nat
def ownS (p : PlS) (S : Sh) : Own where
  is := [p.1, p.2.1, p.2.2]
  P st := ShopAt st p.1 p.2.1 p.2.2 S ∧ GoodS S
  mv h p := ⟨⟨(h _ (by simp)).trans p.1.o, (h _ (by simp)).trans p.1.r, (h _ (by simp)).trans p.1.s⟩, p.2⟩
  lt p i hi := by
    simp only [List.mem_cons, List.not_mem_nil, or_false] at hi
    rcases hi with rfl | rfl | rfl
    · exact lt_of_at p.1.o
    · exact lt_of_at p.1.r
    · exact lt_of_at p.1.s
def ownW (q : PlW) (S : Sh) : Own where
  is := [q.1, q.2.1, q.2.2.1, q.2.2.2]
  P st := LawAt st q.1 q.2.1 q.2.2.1 q.2.2.2 S ∧ GoodS S
  mv h p := ⟨⟨(h _ (by simp)).trans p.1.o, (h _ (by simp)).trans p.1.r, (h _ (by simp)).trans p.1.s, (h _ (by simp)).trans p.1.q, p.1.mb, p.1.ac⟩, p.2⟩
  lt p i hi := by
    simp only [List.mem_cons, List.not_mem_nil, or_false] at hi
    rcases hi with rfl | rfl | rfl | rfl
    · exact lt_of_at p.1.o
    · exact lt_of_at p.1.r
    · exact lt_of_at p.1.s
    · exact lt_of_at p.1.q
/-! ### twins of workshops -/
def twinL (n : Nat) (S : Sh) : Store := [shopOb S (n + 3) (n + 4), .lst [], .dK [], .lst (S.seals.map sv), .dK (S.things.map (ent pVal))]
theorem twin_at {st : Store} {S : Sh} : ShopAt (st ++ twinL st.length S) st.length (st.length + 3) (st.length + 4) S := by
  unfold twinL
  exact ⟨by simp, by simp, by simp⟩
def Ok_Shop_twin (F : Fn) : Prop := ∀ {st : Store} {l a b : Nat} {S : Sh}, ShopAt st l a b S → GoodS S → F [.loc l] st = .ok (.loc st.length) (st ++ twinL st.length S)
theorem d_Shop_twin_ok (hn : Ok_Shop (C "Shop")) : Ok_Shop_twin (runDf C xs D.d_Shop_twin) := by
  intro st l a b S h G
  have e0 := hn.good st S.high G.h1 G.h2
  have q1 : ∀ e, (st ++ e)[l]? = some (shopOb S a b) := fun e => at_grow h.o
  have q2 : ∀ e, (st ++ e)[a]? = some (.lst (S.seals.map sv)) := fun e => at_grow h.r
  have q3 : ∀ e, (st ++ e)[b]? = some (.dK (S.things.map (ent pVal))) := fun e => at_grow h.s
  have s1 : ∀ X e Y, (st ++ X :: e).set st.length Y = st ++ Y :: e := fun X e Y => by simp
  have s2 : ∀ X e, (st ++ X :: e)[st.length]? = some X := fun X e => by simp
  have q0 := h.o
  unfold D.d_Shop_twin twinL
  unfold shopOb at *
  simp [exSs, e0, q0, q1, q2, q3, s1, s2, putFld, sh0]
theorem DSep.twin {rest : Store} {os : List Own} {S : Sh} (D : DSep rest os) (G : GoodS S) : DSep (rest ++ twinL (rest.length + 1) S) (ownS (rest.length + 1, rest.length + 4, rest.length + 5) S :: os) := by
  have a1 := twin_at (st := Ob.lst [] :: rest) (S := S)
  obtain ⟨r, e, _, D'⟩ := D.add (is := []) (x := .lst []) (st' := (Ob.lst [] :: rest) ++ twinL (rest.length + 1) S) (o' := ownS (rest.length + 1, rest.length + 4, rest.length + 5) S) gro_app (by simp) (fun i hi => by
    simp [ownS] at hi
    omega) (by
    show [rest.length + 1, rest.length + 4, rest.length + 5].Nodup
    simp) ⟨a1, G⟩
  rw [List.cons_append] at e
  rw [(List.cons.inj e).2]
  exact D'
/-- a list laid anew -/
theorem DSep.newl {rest : Store} {os : List Own} (D : DSep rest os) (vs : List Val) : DSep (rest ++ [.lst vs]) (ownL (rest.length + 1) vs :: os) := by
  obtain ⟨r, e, _, D'⟩ := D.add (is := []) (x := .lst []) (st' := (Ob.lst [] :: rest) ++ [.lst vs]) (o' := ownL (rest.length + 1) vs) gro_app (by simp) (fun i hi => by
    simp [ownL] at hi
    omega) (by simp [ownL]) (by
    show ((Ob.lst [] :: rest) ++ [Ob.lst vs])[rest.length + 1]? = some (.lst vs)
    simp)
  rw [List.cons_append] at e
  rw [(List.cons.inj e).2]
  exact D'
/-- a list changes -/
theorem DSep.setl {rest : Store} {os : List Own} {l : Nat} {vs : List Val} (D : DSep rest (ownL (l + 1) vs :: os)) (ws : List Val) : DSep (rest.set l (.lst ws)) (ownL (l + 1) ws :: os) := by
  have hl : l < rest.length := by
    have := D.lt (.lst []) (List.mem_cons_self ..) (l + 1) (by simp [ownL])
    omega
  obtain ⟨r, e, _, D'⟩ := D.step (is := [l + 1]) (x := .lst []) (st' := (Ob.lst [] :: rest).set (l + 1) (.lst ws)) (o' := ownL (l + 1) ws) (gro_set (by simp)) (fun i hi => .inl hi) (fun i hi => .inl hi) (by simp [ownL]) (by
    show ((Ob.lst [] :: rest).set (l + 1) (Ob.lst ws))[l + 1]? = some (.lst ws)
    simp [hl])
  rw [List.set_cons_succ] at e
  rw [(List.cons.inj e).2]
  exact D'
theorem DSep.getl {rest : Store} {os : List Own} {l : Nat} {vs : List Val} (D : DSep rest os) (h : ownL (l + 1) vs ∈ os) : rest[l]? = some (.lst vs) := by
  have := D.get (.lst []) h
  exact this
/-- the first one goes -/
theorem DSep.drop {rest : Store} : ∀ {X os : List Own}, DSep rest (X ++ os) → DSep rest os
  | [], _, D => D
  | _ :: X, os, D => DSep.drop (X := X) D.tail
end P
/-! P87: a workshop and the law's own one as one thing. -/
namespace P
open PySem (Str PyData)
open Rc
variable {C : Str → List Val → M Val} {xs : List Str}
structure Tw where
  p : PlS
  w : PlW
  S : Sh
def ownT (t : Tw) : Own := (ownS t.p t.S).and (ownW t.w t.S)
theorem own_disj {rest : Store} {a b : Own} {os : List Own} (D : DSep rest (a.and b :: os)) : ∀ i ∈ b.is, i ∉ a.is := by
  have := D.nd1 (.lst [])
  have e : (a.and b).is = a.is ++ b.is := rfl
  rw [e, List.nodup_append] at this
  exact fun i hb ha => this.2.2 i ha i hb rfl
/-- both have changed, each at its own places -/
theorem Tw.next {o : Ob} {rest st1 st2 : Store} {t : Tw} {os : List Own} {S' : Sh} (D : DSep rest (ownT t :: os)) (g : GoodS S') (A1 : ShopAt st1 t.p.1 t.p.2.1 t.p.2.2 S') (O1 : Off [t.p.1, t.p.2.1, t.p.2.2] (o :: rest) st1) (A2 : LawAt st2 t.w.1 t.w.2.1 t.w.2.2.1 t.w.2.2.2 S') (O2 : Off [t.w.1, t.w.2.1, t.w.2.2.1, t.w.2.2.2] st1 st2) : ∃ rest', st2 = o :: rest' ∧ rest.length = rest'.length ∧ DSep rest' (ownT { t with S := S' } :: os) := by
  have dj := own_disj D
  have k : Gro (ownT t).is (o :: rest) st2 := (O1.gro.wid (js := (ownT t).is) (fun i hi => List.mem_append.mpr (.inl hi))).trans (O2.gro.wid (js := (ownT t).is) (fun i hi => List.mem_append.mpr (.inr hi))) (fun j hj => .inl hj)
  have A3 := (ownS t.p S').mv (st := st1) (st' := st2) (fun i hi => O2.off i fun m => dj i m hi) ⟨A1, g⟩
  obtain ⟨r, e, l, D'⟩ := D.step k (fun i hi => .inl hi) (o' := ownT { t with S := S' }) (fun i hi => .inl hi) (D.nd1 o) ⟨A3, A2, g⟩
  refine ⟨r, e, ?_, D'⟩
  have := O2.len
  rw [O1.len, e] at this
  simpa using this.symm
/-- the others stand meanwhile -/
theorem own_off {o : Ob} {rest st1 : Store} {a : Own} {os : List Own} {is : List Nat} (D : DSep rest (a :: os)) (O : Off is (o :: rest) st1) (h : ∀ i ∈ is, i ∈ a.is) : ∀ x ∈ os, x.P st1 := by
  intro x hx
  have nd := (D.s o).nd
  rw [List.flatMap_cons, List.nodup_append] at nd
  refine x.mv (fun i hi => O.off i fun m => ?_) (D.get o (List.mem_cons_of_mem _ hx))
  exact nd.2.2 i (h i m) i (List.mem_flatMap.mpr ⟨x, hx, hi⟩) rfl
theorem Tw.same {o : Ob} {rest : Store} {t : Tw} {os : List Own} (D : DSep rest (ownT t :: os)) (h1 : Ok_law_shop_try (C "_law_shop_try")) (h2 : Ok_law_s_do (C "_law_s_do")) (h3 : Ok_law_same_end (C "_law_same_end")) (d : Deed) : ∃ (u u' : Val) (st1 : Store) (rest' : Store), C "_law_shop_try" [.loc t.p.1, dv d] (o :: rest) = .ok u st1 ∧ C "_law_s_do" [.loc t.w.1, dv d] st1 = .ok u' (o :: rest') ∧ C "_law_same_end" [u, u'] (o :: rest') = .ok (.bl true) (o :: rest') ∧ (∀ x ∈ os, x.P st1) ∧ DSep rest' (ownT { t with S := (doD t.S d).2.2 } :: os) := by
  obtain ⟨⟨P1, G⟩, W1, _⟩ := D.get o (List.mem_cons_self ..)
  obtain ⟨st1, e1, A1, O1⟩ := h1.run P1 G d
  have W2 := (ownW t.w t.S).mv (st := o :: rest) (st' := st1) (fun i hi => O1.off i (own_disj D i hi)) ⟨W1, G⟩
  obtain ⟨st2, e2, A2, O2⟩ := h2.run W2.1 G d
  obtain ⟨rest', rfl, l, D'⟩ := Tw.next D (good_do G d) A1 O1 A2 O2
  have pl := plain_deed G d
  have pv : plainV 5 (doD t.S d).2.1 := by
    cases pl with
    | lst _ h => exact h _ (by simp)
  refine ⟨_, _, st1, rest', e1, e2, h3 _ _ _ _ pv ?_, own_off D O1 (fun i hi => List.mem_append.mpr (.inl hi)), D'⟩
  by_cases c : (doD t.S d).1 = ""
  · simp [c]
  · simp [c]
/-- a deed that is done on both sides -/
theorem Tw.done {o : Ob} {rest : Store} {t : Tw} {os : List Own} {F G : Fn} (D : DSep rest (ownT t :: os)) (h1 : Ok_law_shop_do F) (h2 : Ok_law_s_do G) (d : Deed) (hw : (doD t.S d).1 = "") : ∃ (v : Val) (st1 : Store) (rest' : Store), F [.loc t.p.1, dv d] (o :: rest) = .ok v st1 ∧ G [.loc t.w.1, dv d] st1 = .ok (.tup [.str "", v]) (o :: rest') ∧ (∀ x ∈ os, x.P st1) ∧ DSep rest' (ownT { t with S := (doD t.S d).2.2 } :: os) := by
  obtain ⟨⟨P1, gd⟩, W1, _⟩ := D.get o (List.mem_cons_self ..)
  have r := h1.run P1 gd d
  have g := good_do gd d
  have k : ∀ st, LawAt st t.w.1 t.w.2.1 t.w.2.2.1 t.w.2.2.2 t.S → _ := fun st w => h2.run w gd d
  generalize doD t.S d = q at *
  cases r with
  | ok e1 A1 O1 =>
    have W2 := (ownW t.w t.S).mv (st := o :: rest) (fun i hi => O1.off i (own_disj D i hi)) ⟨W1, gd⟩
    obtain ⟨st2, e2, A2, O2⟩ := k _ W2.1
    obtain ⟨rest', rfl, l, D'⟩ := Tw.next D g A1 O1 A2 O2
    exact ⟨_, _, rest', e1, e2, own_off D O1 (fun i hi => List.mem_append.mpr (.inl hi)), D'⟩
  | exc n e => exact absurd hw n
end P
/-! P88: journals: what they are, and their deeds. -/
namespace P
open PySem (Str PyData)
open Rc
variable {C : Str → List Val → M Val} {xs : List Str}
/-! ### more of things that lie apart -/
def ownN : Own := ⟨[], fun _ => True, fun _ _ => trivial, fun _ i hi => by simp at hi⟩
def ownO (j : Nat) (x : Ob) : Own where
  is := [j]
  P st := st[j]? = some x
  mv h p := (h j (by simp)).trans p
  lt p i hi := by
    rw [List.mem_singleton.mp hi]
    exact lt_of_at p
def ownAll : List Own → Own
  | [] => ownN
  | o :: os => o.and (ownAll os)
theorem Sep.split {st : Store} {a b : Own} {os : List Own} : Sep st (a.and b :: os) ↔ Sep st (a :: b :: os) := by
  constructor
  · rintro ⟨p, nd⟩
    refine ⟨fun o ho => ?_, by simpa [Own.and, List.append_assoc] using nd⟩
    have hp := p _ (List.mem_cons_self ..)
    rcases List.mem_cons.mp ho with rfl | ho
    · exact hp.1
    rcases List.mem_cons.mp ho with rfl | ho
    · exact hp.2
    · exact p o (List.mem_cons_of_mem _ ho)
  · rintro ⟨p, nd⟩
    refine ⟨fun o ho => ?_, by simpa [Own.and, List.append_assoc] using nd⟩
    rcases List.mem_cons.mp ho with rfl | ho
    · exact ⟨p _ (by simp), p _ (by simp)⟩
    · exact p o (by simp [ho])
theorem Sep.none {st : Store} {os : List Own} : Sep st (ownN :: os) ↔ Sep st os := by
  refine ⟨Sep.tail, fun h => ⟨fun o ho => ?_, by simpa [ownN] using h.nd⟩⟩
  rcases List.mem_cons.mp ho with rfl | ho
  · trivial
  · exact h.p o ho
theorem Sep.all {st : Store} : ∀ {l os : List Own}, Sep st (ownAll l :: os) ↔ Sep st (l ++ os)
  | [], os => Sep.none
  | o :: l, os => by
    show Sep st (o.and (ownAll l) :: os) ↔ Sep st (o :: (l ++ os))
    rw [Sep.split]
    have p1 : (o :: ownAll l :: os).Perm (ownAll l :: o :: os) := List.Perm.swap _ _ _
    have p2 : (l ++ o :: os).Perm (o :: (l ++ os)) := List.perm_middle
    exact ⟨fun h => (Sep.all.mp (h.perm p1)).perm p2, fun h => (Sep.all.mpr (h.perm p2.symm)).perm p1.symm⟩
theorem DSep.toS {rest : Store} {os : List Own} (D : DSep rest os) (o : Ob) : Sep (o :: rest) (ownO 0 o :: os) := by
  refine ⟨fun x hx => ?_, ?_⟩
  · rcases List.mem_cons.mp hx with rfl | hx
    · rfl
    · exact (D.s o).p x hx
  · rw [List.flatMap_cons, List.nodup_append]
    refine ⟨by simp [ownO], (D.s o).nd, fun i hi k hk e => ?_⟩
    simp [ownO] at hi
    subst hi
    subst e
    obtain ⟨x, hx, hm⟩ := List.mem_flatMap.mp hk
    exact D.z x hx hm
theorem Sep.toD {st : Store} {o : Ob} {os : List Own} (h : Sep st (ownO 0 o :: os)) : ∃ rest, st = o :: rest ∧ DSep rest os := by
  have h0 : st[0]? = some o := h.p _ (List.mem_cons_self ..)
  have nd := h.nd
  rw [List.flatMap_cons, List.nodup_append] at nd
  have z : ∀ x ∈ os, 0 ∉ x.is := fun x hx m => nd.2.2 0 (by simp [ownO]) 0 (List.mem_flatMap.mpr ⟨x, hx, m⟩) rfl
  cases st with
  | nil => simp at h0
  | cons q rest =>
    simp at h0
    subst h0
    refine ⟨rest, rfl, fun y => ⟨fun x hx => x.mv (fun i hi => ?_) (h.p x (List.mem_cons_of_mem _ hx)), nd.2.1⟩, z⟩
    cases i with
    | zero => exact absurd hi (z x hx)
    | succ i => rfl
theorem Sep.twin {st : Store} {os : List Own} {S : Sh} (D : Sep st os) (G : GoodS S) : Sep (st ++ twinL st.length S) (ownS (st.length, st.length + 3, st.length + 4) S :: os) :=
  D.add (is := []) gro_app (by simp) (fun i hi => by
    simp [ownS] at hi
    omega) (by
    show [st.length, st.length + 3, st.length + 4].Nodup
    simp) ⟨twin_at, G⟩
theorem Sep.newl {st : Store} {os : List Own} (D : Sep st os) (vs : List Val) : Sep (st ++ [.lst vs]) (ownL st.length vs :: os) :=
  D.add (is := []) gro_app (by simp) (fun i hi => by
    simp [ownL] at hi
    omega) (by simp [ownL]) (by
    show (st ++ [Ob.lst vs])[st.length]? = some (.lst vs)
    simp)
theorem Sep.getl {st : Store} {os : List Own} {l : Nat} {vs : List Val} (D : Sep st os) (h : ownL l vs ∈ os) : st[l]? = some (.lst vs) := D.p _ h
theorem Sep.geto {st : Store} {os : List Own} {l : Nat} {x : Ob} (D : Sep st os) (h : ownO l x ∈ os) : st[l]? = some x := D.p _ h
theorem Sep.gets {st : Store} {os : List Own} {p : PlS} {S : Sh} (D : Sep st os) (h : ownS p S ∈ os) : ShopAt st p.1 p.2.1 p.2.2 S ∧ GoodS S := D.p _ h
theorem Sep.setl {st : Store} {os : List Own} {l : Nat} {vs : List Val} (D : Sep st (ownL l vs :: os)) (ws : List Val) : Sep (st.set l (.lst ws)) (ownL l ws :: os) := by
  have hl : l < st.length := lt_of_at (D.getl (List.mem_cons_self ..))
  exact D.step (is := [l]) (gro_set (by simp)) (fun i hi => .inl hi) (fun i hi => .inl hi) (by simp [ownL]) (by
    show (st.set l (Ob.lst ws))[l]? = some (.lst ws)
    simp [hl])
theorem Sep.seto {st : Store} {os : List Own} {l : Nat} {x : Ob} (D : Sep st (ownO l x :: os)) (y : Ob) : Sep (st.set l y) (ownO l y :: os) := by
  have hl : l < st.length := lt_of_at (D.geto (List.mem_cons_self ..))
  exact D.step (is := [l]) (gro_set (by simp)) (fun i hi => .inl hi) (fun i hi => .inl hi) (by simp [ownO]) (by
    show (st.set l y)[l]? = some y
    simp [hl])
/-- a workshop changes at its places -/
theorem Sep.shop {st st' : Store} {os : List Own} {p : PlS} {S S' : Sh} (D : Sep st (ownS p S :: os)) (A : ShopAt st' p.1 p.2.1 p.2.2 S') (G : GoodS S') (O : Off [p.1, p.2.1, p.2.2] st st') : Sep st' (ownS p S' :: os) := by
  have nd := D.nd
  rw [List.flatMap_cons, List.nodup_append] at nd
  exact D.step O.gro (fun i hi => .inl hi) (fun i hi => .inl hi) nd.1 ⟨A, G⟩
theorem Sep.law {st st' : Store} {os : List Own} {p : PlW} {S S' : Sh} (D : Sep st (ownW p S :: os)) (A : LawAt st' p.1 p.2.1 p.2.2.1 p.2.2.2 S') (G : GoodS S') (O : Off [p.1, p.2.1, p.2.2.1, p.2.2.2] st st') : Sep st' (ownW p S' :: os) := by
  have nd := D.nd
  rw [List.flatMap_cons, List.nodup_append] at nd
  exact D.step O.gro (fun i hi => .inl hi) (fun i hi => .inl hi) nd.1 ⟨A, G⟩
theorem Sep.grow {st : Store} {os : List Own} (D : Sep st os) (ext : Store) : Sep (st ++ ext) os := D.still (is := []) gro_app (by simp)
/-! ### journals -/
structure Hist where
  base : Sh
  done : List (Deed × Sh)
  und : List (Deed × Sh)
def Hist.sts (H : Hist) : List Sh := H.base :: H.done.map (·.2)
def Hist.cur (H : Hist) : Sh := H.sts.getLast (by simp [Hist.sts])
def Hist.past (H : Hist) : List Sh := H.sts.dropLast
theorem Hist.sts_eq (H : Hist) : H.past ++ [H.cur] = H.sts := List.dropLast_concat_getLast _
def chain : Sh → List (Deed × Sh) → Prop
  | _, [] => True
  | S, x :: l => (doD S x.1).1 = "" ∧ (doD S x.1).2.2 = x.2 ∧ chain x.2 l
structure Hist.Good (H : Hist) : Prop where
  g : GoodS H.base
  c : chain H.base (H.done ++ H.und.reverse)
def lastS (S : Sh) (l : List (Deed × Sh)) : Sh := (S :: l.map (·.2)).getLast (by simp)
theorem last_cons {S : Sh} {x : Deed × Sh} {l : List (Deed × Sh)} : lastS S (x :: l) = lastS x.2 l := by
  unfold lastS
  simp
theorem last_app {S : Sh} {x : Deed × Sh} {l : List (Deed × Sh)} : lastS S (l ++ [x]) = x.2 := by
  unfold lastS
  have e : S :: (l ++ [x]).map (·.2) = (S :: l.map (·.2)) ++ [x.2] := by simp
  simp only [e, List.getLast_concat]
theorem cur_last (H : Hist) : H.cur = lastS H.base H.done := rfl
theorem chain_app : ∀ {S : Sh} {l m : List (Deed × Sh)}, chain S (l ++ m) ↔ chain S l ∧ chain (lastS S l) m
  | S, [], m => by simp [chain, lastS]
  | S, x :: l, m => by
    rw [List.cons_append, last_cons]
    simp only [chain]
    rw [chain_app (S := x.2)]
    constructor
    · rintro ⟨a, b, c, d⟩
      exact ⟨⟨a, b, c⟩, d⟩
    · rintro ⟨⟨a, b, c⟩, d⟩
      exact ⟨a, b, c, d⟩
theorem chain_good : ∀ {S : Sh} {l : List (Deed × Sh)}, GoodS S → chain S l → ∀ T ∈ S :: l.map (·.2), GoodS T
  | S, [], g, _, T, hT => by
    simp at hT
    rw [hT]
    exact g
  | S, x :: l, g, c, T, hT => by
    rw [List.map_cons] at hT
    rcases List.mem_cons.mp hT with rfl | hT
    · exact g
    · refine chain_good (S := x.2) ?_ c.2.2 T hT
      rw [← c.2.1]
      exact good_do g _
theorem chain_high : ∀ {S : Sh} {l : List (Deed × Sh)}, chain S l → ∀ T ∈ S :: l.map (·.2), T.high = S.high
  | S, [], _, T, hT => by
    simp at hT
    rw [hT]
  | S, x :: l, c, T, hT => by
    rw [List.map_cons] at hT
    rcases List.mem_cons.mp hT with rfl | hT
    · rfl
    · rw [chain_high (S := x.2) c.2.2 T hT, ← c.2.1]
      exact high_do S _
theorem Hist.Good.gs {H : Hist} (h : H.Good) : ∀ T ∈ H.sts, GoodS T := chain_good h.g (chain_app.mp h.c).1
theorem Hist.Good.gcur {H : Hist} (h : H.Good) : GoodS H.cur := h.gs _ (List.getLast_mem _)
theorem Hist.Good.hcur {H : Hist} (h : H.Good) : H.cur.high = H.base.high := chain_high (chain_app.mp h.c).1 _ (List.getLast_mem _)
/-- a deed done -/
def Hist.stp (H : Hist) (d : Deed) : Hist := { H with done := H.done ++ [(d, (doD H.cur d).2.2)] }
def Hist.did (H : Hist) (d : Deed) : Hist := { H with done := H.done ++ [(d, (doD H.cur d).2.2)], und := [] }
theorem Hist.Good.did {H : Hist} (h : H.Good) {d : Deed} (w : (doD H.cur d).1 = "") : (H.did d).Good := by
  refine ⟨h.g, ?_⟩
  show chain H.base ((H.done ++ [_]) ++ [])
  rw [List.append_nil, chain_app]
  exact ⟨(chain_app.mp h.c).1, w, rfl, trivial⟩
theorem past_app {S : Sh} {l : List (Deed × Sh)} {x : Deed × Sh} : (⟨S, l ++ [x], []⟩ : Hist).past = (⟨S, l, []⟩ : Hist).sts := by
  unfold Hist.past Hist.sts
  have e : S :: (l ++ [x]).map (·.2) = (S :: l.map (·.2)) ++ [x.2] := by simp
  show (S :: (l ++ [x]).map (·.2)).dropLast = S :: l.map (·.2)
  rw [e, List.dropLast_concat]
theorem past_sts (H : Hist) : H.past ++ [H.cur] = H.base :: H.done.map (·.2) := H.sts_eq
def jrOb (h : Int) (l e r u : Nat) : Ob := .ins "Journal" [("present", .loc l), ("high", .int h), ("earlier", .loc e), ("rows", .loc r), ("undone", .loc u)]
abbrev ownZ (Z : List (PlS × Sh)) : List Own := Z.map fun z => ownS z.1 z.2
/-- the parts of a journal -/
def jrL (j e r u : Nat) (p : PlS) (Z : List (PlS × Sh)) (H : Hist) : List Own := ownO j (jrOb H.base.high p.1 e r u) :: ownL e (Z.map fun z => .loc z.1.1) :: ownL r (H.done.map fun x => dv x.1) :: ownL u (H.und.map fun x => dv x.1) :: ownS p H.cur :: ownZ Z
def IsJ (O : Own) (j : Nat) (H : Hist) : Prop := ∃ e r u p Z, Z.map (·.2) = H.past ∧ O = ownAll (jrL j e r u p Z H)
end P
/-! P89: the journal's own deeds. -/
namespace P
open PySem (Str PyData)
open Rc
variable {C : Str → List Val → M Val} {xs : List Str}
abbrev Ok_done_in (F : Fn) : Prop := Ok_law_shop_do F
theorem d_done_in_ok (h1 : Ok_Shop_cut (C "Shop.cut")) (h2 : Ok_Shop_chip (C "Shop.chip")) (h3 : Ok_Shop_roll (C "Shop.roll")) (h4 : Ok_Shop_turn (C "Shop.turn")) (h5 : Ok_Shop_wear (C "Shop.wear")) (h6 : Ok_Shop_snap (C "Shop.snap")) (h7 : Ok_Shop_join (C "Shop.join")) (h8 : Ok_Shop_lose (C "Shop.lose")) : Ok_done_in (runDf C xs D.d_done_in) := by
  constructor
  intro st l a b S h G d
  unfold D.d_done_in
  have hl := h.o
  unfold shopOb at hl
  cases d with
  | cut s =>
    refine res_of (h1.run h G s) fun r e => ⟨fun v s e2 => ?_, fun w s e2 => ?_⟩ <;> (subst e2; unfold dv; simp [exSs, hl, e])
  | chip n k r =>
    refine res_of (h2.run h G n k r) fun r e => ⟨fun v s e2 => ?_, fun w s e2 => ?_⟩ <;> (subst e2; unfold dv; simp [exSs, hl, e])
  | roll n k r =>
    refine res_of (h3.run h G n k r) fun r e => ⟨fun v s e2 => ?_, fun w s e2 => ?_⟩ <;> (subst e2; unfold dv; simp [exSs, hl, e])
  | turn n =>
    refine res_of (h4.run h G n) fun r e => ⟨fun v s e2 => ?_, fun w s e2 => ?_⟩ <;> (subst e2; unfold dv; simp [exSs, hl, e])
  | wear n k r =>
    refine res_of (h5.run h G n k r) fun r e => ⟨fun v s e2 => ?_, fun w s e2 => ?_⟩ <;> (subst e2; unfold dv; simp [exSs, hl, e])
  | snap n k =>
    refine res_of (h6.run h G n k) fun r e => ⟨fun v s e2 => ?_, fun w s e2 => ?_⟩ <;> (subst e2; unfold dv; simp [exSs, hl, e])
  | join n k =>
    refine res_of (h7.run h G n k) fun r e => ⟨fun v s e2 => ?_, fun w s e2 => ?_⟩ <;> (subst e2; unfold dv; simp [exSs, hl, e])
  | lose n =>
    refine res_of (h8.run h G n) fun r e => ⟨fun v s e2 => ?_, fun w s e2 => ?_⟩ <;> (subst e2; unfold dv; simp [exSs, hl, e])
/-- how a deed of a journal ends: it is done, or refused -/
inductive ResJ (F : Fn) (st : Store) (args : List Val) (j : Nat) (O : Own) (os : List Own) (H : Hist) (r : Out) : Prop
  | ok (st' : Store) (O' : Own) : r.1 = "" → F args st = .ok r.2.1 st' → IsJ O' j H → Sep st' (O' :: os) → st.length ≤ st'.length → ResJ F st args j O os H r
  | exc (st' : Store) : r.1 ≠ "" → F args st = .exc r.1 none st' → Sep st' (O :: os) → st.length ≤ st'.length → ResJ F st args j O os H r
def Ok_Journal_done_now (F : Fn) : Prop := ∀ {st : Store} {O : Own} {j : Nat} {H : Hist} {os : List Own}, IsJ O j H → Sep st (O :: os) → H.done.length ≤ 1000 → ∀ d : Deed, ResJ F st [.loc j, dv d] j O os (H.stp d) (doD H.cur d)
theorem mem_jr {j e r u : Nat} {p : PlS} {Z : List (PlS × Sh)} {H : Hist} {os : List Own} {x : Own} (h : x ∈ jrL j e r u p Z H) : x ∈ jrL j e r u p Z H ++ os := List.mem_append.mpr (.inl h)
theorem isj_mk {j e r u : Nat} {p : PlS} {Z : List (PlS × Sh)} {H : Hist} (h : Z.map (·.2) = H.past) : IsJ (ownAll (jrL j e r u p Z H)) j H := ⟨e, r, u, p, Z, h, rfl⟩
theorem stp_cur (H : Hist) (d : Deed) : (H.stp d).cur = (doD H.cur d).2.2 := by
  rw [cur_last]
  show lastS H.base (H.done ++ [_]) = _
  rw [last_app]
theorem stp_past (H : Hist) (d : Deed) : (H.stp d).past = H.past ++ [H.cur] := by
  rw [past_sts]
  have := past_app (S := H.base) (l := H.done) (x := (d, (doD H.cur d).2.2))
  exact this
theorem did_cur (H : Hist) (d : Deed) : (H.did d).cur = (doD H.cur d).2.2 := stp_cur H d
theorem past_len (H : Hist) : H.past.length = H.done.length := by
  unfold Hist.past Hist.sts
  simp
theorem d_Journal_done_now_ok (htw : Ok_Shop_twin (C "Shop.twin")) (hdi : Ok_done_in (C "done_in")) : Ok_Journal_done_now (runDf C xs D.d_Journal_done_now) := by
  rintro st O j H os ⟨e, r, u, p, Z, hZ, rfl⟩ Dh hlen d
  have D0 := Sep.all.mp Dh
  have hj := D0.geto (l := j) (x := jrOb H.base.high p.1 e r u) (mem_jr (by simp [jrL]))
  obtain ⟨P0, gc⟩ := D0.gets (p := p) (S := H.cur) (mem_jr (by simp [jrL]))
  have e1 := htw P0 gc
  have D1 := D0.twin gc
  have D1b := Sep.all.mpr (D1.tail)
  generalize hs1 : st ++ twinL st.length H.cur = st1 at e1 D1 D1b
  have hj1 := D1.geto (l := j) (x := jrOb H.base.high p.1 e r u) (List.mem_cons_of_mem _ (mem_jr (by simp [jrL])))
  obtain ⟨P1, _⟩ := D1.gets (p := p) (S := H.cur) (List.mem_cons_of_mem _ (mem_jr (by simp [jrL])))
  have r1 := hdi.run P1 gc d
  have gd := good_do gc d
  have hl1 : st.length ≤ st1.length := by rw [← hs1]; simp
  have ho := P0.o
  unfold shopOb at ho
  unfold jrOb at hj hj1
  have hcur := stp_cur H d
  have hpast := stp_past H d
  have hout : ∀ q : Out, doD H.cur d = q → ResJ (runDf C xs D.d_Journal_done_now) st [.loc j, dv d] j (ownAll (jrL j e r u p Z H)) os (H.stp d) q := by
    intro q hq
    rw [hq] at r1 gd hcur
    cases r1 with
    | ok e2 A1 O1 =>
      rename_i v S' st2
      have hZl : Z.length ≤ 1000 := by
        have := congrArg List.length hZ
        rw [List.length_map, past_len] at this
        omega
      have D2 := (D1.perm (perm_at (i := 5) rfl)).shop A1 gd O1
      have q1 := D2.geto (l := j) (x := jrOb H.base.high p.1 e r u) (by simp [jrL, List.eraseIdx])
      have q2 := D2.getl (l := e) (vs := Z.map fun z => Val.loc z.1.1) (by simp [jrL, List.eraseIdx])
      have D3 := (D2.perm (perm_at (i := 3) rfl)).setl ((Z.map fun z => Val.loc z.1.1) ++ [.loc st.length])
      have q3 := D3.geto (l := j) (x := jrOb H.base.high p.1 e r u) (by simp [jrL, List.eraseIdx])
      have q4 := D3.getl (l := r) (vs := H.done.map fun x => dv x.1) (by simp [jrL, List.eraseIdx])
      have D4 := (D3.perm (perm_at (i := 4) rfl)).setl ((H.done.map fun x => dv x.1) ++ [dv d])
      have w1 := wr_append (y := .loc st.length) q2 (by rw [List.length_map]; show _ ≤ 16777216; omega)
      have w2 := wr_append (y := dv d) q4 (by rw [List.length_map]; show _ ≤ 16777216; omega)
      have e9 : (Z.map fun z => Val.loc z.1.1) ++ [.loc st.length] = ((Z ++ [((st.length, st.length + 3, st.length + 4), H.cur)]).map fun z => Val.loc z.1.1) := by simp
      have e10 : (H.done.map fun x => dv x.1) ++ [dv d] = (H.stp d).done.map fun x => dv x.1 := by simp [Hist.stp]
      have D5 : Sep ((st2.set e (.lst ((Z.map fun z => Val.loc z.1.1) ++ [.loc st.length]))).set r (.lst ((H.done.map fun x => dv x.1) ++ [dv d]))) (jrL j e r u p (Z ++ [((st.length, st.length + 3, st.length + 4), H.cur)]) (H.stp d) ++ os) := by
        refine D4.perm ?_
        rw [e9, e10]
        unfold jrL
        rw [hcur]
        refine (perm_at (i := 4) rfl).trans (List.Perm.cons _ ?_)
        refine (perm_at (i := 1) rfl).trans (List.Perm.cons _ ?_)
        refine (perm_at (i := 0) rfl).trans (List.Perm.cons _ ?_)
        refine (perm_at (i := 2) rfl).trans (List.Perm.cons _ ?_)
        refine (perm_at (i := 0) rfl).trans (List.Perm.cons _ ?_)
        have ez : ownZ (Z ++ [((st.length, st.length + 3, st.length + 4), H.cur)]) ++ os = ownZ Z ++ (ownS (st.length, st.length + 3, st.length + 4) H.cur :: os) := by simp
        show List.Perm (ownS (st.length, st.length + 3, st.length + 4) H.cur :: (ownZ Z ++ os)) (ownZ (Z ++ [((st.length, st.length + 3, st.length + 4), H.cur)]) ++ os)
        rw [ez]
        exact List.perm_middle.symm
      generalize hs3 : st2.set e (.lst ((Z.map fun z => Val.loc z.1.1) ++ [.loc st.length])) = st3 at *
      generalize hs4 : st3.set r (.lst ((H.done.map fun x => dv x.1) ++ [dv d])) = st4 at *
      refine .ok (st' := st4) (O' := _) rfl ?_ (isj_mk (e := e) (r := r) (u := u) (p := p) (Z := Z ++ [((st.length, st.length + 3, st.length + 4), H.cur)]) ?_) (Sep.all.mpr D5) ?_
      · unfold jrOb at q1 q3
        unfold D.d_Journal_done_now
        simp [exSs, hj, ho, e1, hj1, e2, q1, q2, w1, q3, q4, w2]
      · rw [hpast, List.map_append, hZ]
        rfl
      · rw [← hs4, List.length_set, ← hs3, List.length_set, O1.len]
        exact hl1
    | exc n e2 =>
      refine .exc st1 n ?_ D1b hl1
      unfold D.d_Journal_done_now
      simp [exSs, hj, ho, e1, hj1, e2]
  exact hout _ rfl
end P
/-! P90: journals, further: looks, doing, what is told, new ones. -/
namespace P
open PySem (Str PyData)
open Rc
variable {C : Str → List Val → M Val} {xs : List Str}
/-! ### data are like themselves -/
theorem plain_dv {n : Nat} {d : Deed} (h : ∀ s, d = .cut s → plainV (n + 2) (sv s)) : plainV (n + 3) (dv d) := by
  cases d <;> refine .tup (by simp) fun w hw => ?_ <;> simp only [List.mem_cons, List.not_mem_nil, or_false] at hw
  · rcases hw with rfl | rfl
    · exact .str _
    · exact h _ rfl
  · rcases hw with rfl | rfl | rfl | rfl
    · exact .str _
    all_goals exact .int _
  · rcases hw with rfl | rfl | rfl | rfl
    · exact .str _
    all_goals exact .int _
  · rcases hw with rfl | rfl
    · exact .str _
    all_goals exact .int _
  · rcases hw with rfl | rfl | rfl | rfl
    · exact .str _
    all_goals exact .int _
  · rcases hw with rfl | rfl | rfl
    · exact .str _
    all_goals exact .int _
  · rcases hw with rfl | rfl | rfl
    · exact .str _
    all_goals exact .int _
  · rcases hw with rfl | rfl
    · exact .str _
    all_goals exact .int _
/-! ### looks -/
def lensT : List (Str × Int) := [("cut", 2), ("chip", 4), ("roll", 4), ("turn", 2), ("wear", 4), ("snap", 3), ("join", 3), ("lose", 2)]
def oddD : List Val → Bool
  | [] => true
  | .str w :: r => match lensT.lookup w with
    | none => true
    | some n => decide (¬ ((r.length + 1 : Nat) : Int) = n)
  | _ => false
structure Ok_look_deed (F : Fn) : Prop where
  good : ∀ (d : Deed) (st : Store), F [dv d] st = .ok .non st
  bad : ∀ (vs : List Val) (st : Store), oddD vs = true → F [.tup vs] st = .exc "BadDeed" none st
theorem d_look_deed_ok : Ok_look_deed (runDf C xs D.d_look_deed) := by
  have k1 : lensT.lookup ("cut" : Str) = some 2 := by decide
  have k2 : lensT.lookup ("chip" : Str) = some 4 := by decide
  have k3 : lensT.lookup ("roll" : Str) = some 4 := by decide
  have k4 : lensT.lookup ("turn" : Str) = some 2 := by decide
  have k5 : lensT.lookup ("wear" : Str) = some 4 := by decide
  have k6 : lensT.lookup ("snap" : Str) = some 3 := by decide
  have k7 : lensT.lookup ("join" : Str) = some 3 := by decide
  have k8 : lensT.lookup ("lose" : Str) = some 2 := by decide
  constructor
  · intro d st
    unfold D.d_look_deed
    change runDf C xs ⟨1, 1, (.cons (.iff (.bop .Or (.cons (.cmp .Eq (.bi false .len (.cons (.var 0) .nil)) (.int 0)) (.cons (.gdin true (.ix (.var 0) (.int 0)) "LENGTHS" lensT) (.cons (.cmp .NotEq (.bi false .len (.cons (.var 0) .nil)) (.gdix "LENGTHS" lensT (.ix (.var 0) (.int 0)))) .nil)))) (.cons (.raiseS "BadDeed" "no deed") .nil) .nil) .nil)⟩ _ _ = _
    cases d <;> unfold dv <;> simp [exSs, k1, k2, k3, k4, k5, k6, k7, k8, at_zero]
  · intro vs st h
    unfold D.d_look_deed
    change runDf C xs ⟨1, 1, (.cons (.iff (.bop .Or (.cons (.cmp .Eq (.bi false .len (.cons (.var 0) .nil)) (.int 0)) (.cons (.gdin true (.ix (.var 0) (.int 0)) "LENGTHS" lensT) (.cons (.cmp .NotEq (.bi false .len (.cons (.var 0) .nil)) (.gdix "LENGTHS" lensT (.ix (.var 0) (.int 0)))) .nil)))) (.cons (.raiseS "BadDeed" "no deed") .nil) .nil) .nil)⟩ _ _ = _
    cases vs with
    | nil => simp [exSs]
    | cons v r =>
      cases v with
      | str w =>
        have h0 : ¬ ((r.length : Int) + 1 = 0) := by omega
        cases hk : lensT.lookup w with
        | none => simp [exSs, at_zero, h0, hk]
        | some n =>
          have : ¬ ((r.length : Int) + 1 = n) := by
            simp only [oddD, hk] at h
            simpa using h
          simp [exSs, at_zero, h0, hk, this]
      | _ => simp [oddD] at h
end P
/-! P91: the journal's methods. -/
namespace P
open PySem (Str PyData)
open Rc
variable {C : Str → List Val → M Val} {xs : List Str}
structure Ok_Journal_do (F : Fn) : Prop where
  run : ∀ {st : Store} {O : Own} {j : Nat} {H : Hist} {os : List Own}, IsJ O j H → Sep st (O :: os) → H.done.length ≤ 1000 → ∀ d : Deed, ResJ F st [.loc j, dv d] j O os (H.did d) (doD H.cur d)
  bad : ∀ {st : Store} {O : Own} {j : Nat} {H : Hist} {os : List Own}, IsJ O j H → Sep st (O :: os) → ∀ vs : List Val, oddD vs = true → F [.loc j, .tup vs] st = .exc "BadDeed" none st
theorem isj_ob {st : Store} {O : Own} {j : Nat} {H : Hist} {os : List Own} (h : IsJ O j H) (S : Sep st (O :: os)) : ∃ l e r u, st[j]? = some (jrOb H.base.high l e r u) := by
  obtain ⟨e, r, u, p, Z, hZ, rfl⟩ := h
  exact ⟨_, _, _, _, (Sep.all.mp S).geto (mem_jr (by simp [jrL]; exact .inl rfl))⟩
theorem d_Journal_do_ok (hk : Ok_look_deed (C "look_deed")) (hdn : Ok_Journal_done_now (C "Journal.done_now")) : Ok_Journal_do (runDf C xs D.d_Journal_do) := by
  constructor
  · intro st O j H os hJ Dh hlen d
    obtain ⟨l0, e0, r0, u0, hj⟩ := isj_ob hJ Dh
    have hg := hk.good d st
    unfold jrOb at hj
    have hr := hdn hJ Dh hlen d
    rcases hr with ⟨st', O', w, e2, hJ', D', hl⟩ | ⟨st', w, e2, D', hl⟩
    · obtain ⟨e, r, u, p, Z, hZ, rfl⟩ := hJ'
      have D1 := (Sep.all.mp D').newl []
      have q1 := D1.geto (l := j) (x := jrOb H.base.high p.1 e r u) (List.mem_cons_of_mem _ (mem_jr (by simp [jrL]; exact .inl rfl)))
      have D2 := (D1.perm (perm_at (i := 1) rfl)).seto (jrOb H.base.high p.1 e r st'.length)
      have D3 : Sep ((st' ++ [Ob.lst []]).set j (jrOb H.base.high p.1 e r st'.length)) (jrL j e r st'.length p Z (H.did d) ++ os) := by
        have := (D2.perm (perm_at (i := 4) rfl)).tail
        refine this.perm ?_
        refine (perm_at (i := 0) rfl).trans (List.Perm.cons _ ?_)
        refine (perm_at (i := 1) rfl).trans (List.Perm.cons _ ?_)
        refine (perm_at (i := 1) rfl).trans (List.Perm.cons _ ?_)
        exact List.Perm.refl _
      refine .ok ((st' ++ [Ob.lst []]).set j (jrOb H.base.high p.1 e r st'.length)) _ w ?_ (isj_mk (e := e) (r := r) (u := st'.length) (p := p) (Z := Z) hZ) (Sep.all.mpr D3) (by simp; omega)
      unfold jrOb at q1 ⊢
      unfold D.d_Journal_do
      simp [exSs, hj, hg, e2, q1, putFld]
    · refine .exc st' w ?_ D' hl
      unfold D.d_Journal_do
      simp [exSs, hj, hg, e2]
  · intro st O j H os hJ Dh vs hv
    obtain ⟨l0, e0, r0, u0, hj⟩ := isj_ob hJ Dh
    have hg := hk.bad vs st hv
    unfold D.d_Journal_do
    simp [exSs, hg]
theorem done_plain {n : Nat} : ∀ {S : Sh} {l : List (Deed × Sh)}, chain S l → ∀ x ∈ l, plainV (n + 4) (dv x.1)
  | S, [], _, x, hx => by simp at hx
  | S, y :: l, c, x, hx => by
    rcases List.mem_cons.mp hx with rfl | hx
    · refine plain_dv (n := n + 1) fun s hs => ?_
      have w := c.1
      rw [hs] at w
      have gs : goodSeal s = true := by
        simp only [doD, dCut] at w
        by_cases k : goodSeal s = true ∧ (high s : Int) = S.high
        · exact k.1
        · rw [if_neg k] at w
          exact absurd w (nw (by decide))
      have hgs : goodStrip s = true := by
        unfold goodSeal at gs
        simp only [Bool.and_eq_true] at gs
        exact gs.1.1
      exact plain_good (n := n) hgs
    · exact done_plain c.2.2 x hx
theorem Hist.Good.plain {n : Nat} {H : Hist} (h : H.Good) : ∀ v ∈ H.done.map (fun x => dv x.1), plainV (n + 4) v := fun v hv => by
  obtain ⟨x, hx, rfl⟩ := List.mem_map.mp hv
  exact done_plain (chain_app.mp h.c).1 x hx
def Ok_Journal_shop (F : Fn) : Prop := ∀ {st : Store} {O : Own} {j : Nat} {H : Hist} {os : List Own}, IsJ O j H → Sep st (O :: os) → GoodS H.cur ∧ F [.loc j] st = .ok (.loc st.length) (st ++ twinL st.length H.cur)
theorem d_Journal_shop_ok (htw : Ok_Shop_twin (C "Shop.twin")) : Ok_Journal_shop (runDf C xs D.d_Journal_shop) := by
  rintro st O j H os ⟨e, r, u, p, Z, hZ, rfl⟩ Dh
  have D0 := Sep.all.mp Dh
  have hj := D0.geto (l := j) (x := jrOb H.base.high p.1 e r u) (mem_jr (by simp [jrL]))
  obtain ⟨P0, gc⟩ := D0.gets (p := p) (S := H.cur) (mem_jr (by simp [jrL]))
  have e1 := htw P0 gc
  have ho := P0.o
  unfold shopOb at ho
  unfold jrOb at hj
  refine ⟨gc, ?_⟩
  unfold D.d_Journal_shop
  simp [exSs, hj, ho, e1]
end P
/-! P92: the journal's methods, further: taking back, doing again, a new one. -/
namespace P
open PySem (Str PyData)
open Rc
variable {C : Str → List Val → M Val} {xs : List Str}
theorem wr_popL {st : Store} {l : Nat} {vs : List Val} {y : Val} (hl : st[l]? = some (.lst (vs ++ [y]))) (hz : vs.length ≤ 16777216) : wrLst .pop l [] st = .ok y (st.set l (.lst vs)) := by
  unfold wrLst
  rw [hl]
  dsimp only [obLst]
  have : mtLst st .pop [] (vs ++ [y]) = some (y, vs) := by
    simp [mtLst]
  rw [this]
  dsimp only
  rw [if_pos]
  show decide _ = true
  exact decide_eq_true hz
theorem past_split {S : Sh} {l : List (Deed × Sh)} {x : Deed × Sh} {u v : List (Deed × Sh)} : (⟨S, l ++ [x], u⟩ : Hist).past = (⟨S, l, v⟩ : Hist).past ++ [(⟨S, l, v⟩ : Hist).cur] := by
  rw [past_sts]
  exact past_app
theorem snoc_map {α β : Type} {f : α → β} {Z : List α} {l : List β} {y : β} (h : Z.map f = l ++ [y]) : ∃ Z' z, Z = Z' ++ [z] ∧ Z'.map f = l ∧ f z = y := by
  rcases List.eq_nil_or_concat Z with rfl | ⟨Z', z, rfl⟩
  · simp at h
  · rw [List.concat_eq_append, List.map_append] at h
    obtain ⟨h1, h2⟩ := List.append_inj' h rfl
    exact ⟨Z', z, by simp, h1, by simpa using h2⟩
structure Ok_Journal_back (F : Fn) : Prop where
  non : ∀ {st : Store} {O : Own} {j : Nat} {H : Hist} {os : List Own}, IsJ O j H → Sep st (O :: os) → H.done = [] → F [.loc j] st = .exc "Nothing" none st
  run : ∀ {st : Store} {O : Own} {j : Nat} {S : Sh} {dn un : List (Deed × Sh)} {x : Deed × Sh} {os : List Own}, IsJ O j ⟨S, dn ++ [x], un⟩ → Sep st (O :: os) → dn.length + un.length ≤ 1000 → ∃ st' O', F [.loc j] st = .ok (dv x.1) st' ∧ IsJ O' j ⟨S, dn, un ++ [x]⟩ ∧ Sep st' (O' :: os) ∧ st'.length = st.length
theorem d_Journal_back_ok : Ok_Journal_back (runDf C xs D.d_Journal_back) := by
  constructor
  · rintro st O j H os ⟨e, r, u, p, Z, hZ, rfl⟩ Dh hd
    have D0 := Sep.all.mp Dh
    have hj := D0.geto (l := j) (x := jrOb H.base.high p.1 e r u) (mem_jr (by simp [jrL]))
    have hr := D0.getl (l := r) (vs := H.done.map fun x => dv x.1) (mem_jr (by simp [jrL]))
    rw [hd] at hr
    unfold jrOb at hj
    unfold D.d_Journal_back
    simp [exSs, hj, hr]
  · rintro st O j S dn un x os ⟨e, r, u, p, Z, hZ, rfl⟩ Dh hlen
    rw [past_split (v := un ++ [x])] at hZ
    obtain ⟨Z', z, rfl, hZ', hz⟩ := snoc_map hZ
    have hZl : Z'.length ≤ 1000 := by
      have := congrArg List.length hZ'
      rw [List.length_map, past_len] at this
      dsimp only at this
      omega
    have D0 := Sep.all.mp Dh
    have em : ((Z' ++ [z]).map fun z => Val.loc z.1.1) = (Z'.map fun z => Val.loc z.1.1) ++ [.loc z.1.1] := by simp
    have er : ((dn ++ [x]).map fun x => dv x.1) = (dn.map fun x => dv x.1) ++ [dv x.1] := by simp
    have ez : ownZ (Z' ++ [z]) ++ os = ownZ Z' ++ (ownS z.1 z.2 :: os) := by simp
    unfold jrL at D0
    dsimp only at D0
    rw [em, er, List.cons_append, List.cons_append, List.cons_append, List.cons_append, List.cons_append, ez] at D0
    have hj := D0.geto (l := j) (x := jrOb S.high p.1 e r u) (by simp)
    have hr := D0.getl (l := r) (vs := (dn.map fun x => dv x.1) ++ [dv x.1]) (by simp)
    have he := D0.getl (l := e) (vs := (Z'.map fun z => Val.loc z.1.1) ++ [.loc z.1.1]) (by simp)
    have w1 := wr_popL he (by rw [List.length_map]; omega)
    have D1 := (D0.perm (perm_at (i := 1) rfl)).setl (Z'.map fun z => Val.loc z.1.1)
    have hj1 := D1.geto (l := j) (x := jrOb S.high p.1 e r u) (by simp [List.eraseIdx])
    have D2 := (D1.perm (perm_at (i := 1) rfl)).seto (jrOb S.high z.1.1 e r u)
    generalize hs1 : st.set e (.lst (Z'.map fun z => Val.loc z.1.1)) = st1 at *
    generalize hs2 : st1.set j (jrOb S.high z.1.1 e r u) = st2 at *
    have hj2 := D2.geto (l := j) (x := jrOb S.high z.1.1 e r u) (by simp [List.eraseIdx])
    have hr2 := D2.getl (l := r) (vs := (dn.map fun x => dv x.1) ++ [dv x.1]) (by simp [List.eraseIdx])
    have hu2 := D2.getl (l := u) (vs := un.map fun x => dv x.1) (by simp [List.eraseIdx])
    have w2 := wr_popL hr2 (by rw [List.length_map]; omega)
    have D3 := (D2.perm (perm_at (i := 2) rfl)).setl (dn.map fun x => dv x.1)
    generalize hs3 : st2.set r (.lst (dn.map fun x => dv x.1)) = st3 at *
    have hu3 := D3.getl (l := u) (vs := un.map fun x => dv x.1) (by simp [List.eraseIdx])
    have w3 := wr_append (y := dv x.1) hu3 (by rw [List.length_map]; show _ ≤ 16777216; omega)
    have D4 := (D3.perm (perm_at (i := 3) rfl)).setl ((un.map fun x => dv x.1) ++ [dv x.1])
    generalize hs4 : st3.set u (.lst ((un.map fun x => dv x.1) ++ [dv x.1])) = st4 at *
    have hj4 := D4.geto (l := j) (x := jrOb S.high z.1.1 e r u) (by simp [List.eraseIdx])
    have hu4 := D4.getl (l := u) (vs := (un.map fun x => dv x.1) ++ [dv x.1]) (by simp [List.eraseIdx])
    have eu : (un.map fun x => dv x.1) ++ [dv x.1] = (un ++ [x]).map fun x => dv x.1 := by simp
    have D5 : Sep st4 (jrL j e r u z.1 Z' ⟨S, dn, un ++ [x]⟩ ++ os) := by
      have D6 := (D4.perm (perm_at (i := 4) rfl)).tail
      refine D6.perm ?_
      rw [eu]
      refine (perm_at (i := 2) rfl).trans (List.Perm.cons _ ?_)
      refine (perm_at (i := 2) rfl).trans (List.Perm.cons _ ?_)
      refine (perm_at (i := 1) rfl).trans (List.Perm.cons _ ?_)
      refine (perm_at (i := 0) rfl).trans (List.Perm.cons _ ?_)
      rw [← hz]
      show List.Perm (ownZ Z' ++ (ownS z.1 z.2 :: os)) (ownS z.1 z.2 :: (ownZ Z' ++ os))
      exact List.perm_middle
    refine ⟨st4, _, ?_, isj_mk (e := e) (r := r) (u := u) (p := z.1) (Z := Z') hZ', Sep.all.mpr D5, ?_⟩
    · have hat : L2.atI ((un.map fun x => dv x.1) ++ [dv x.1]) (-1) = some (dv x.1) := atI_neg (by simp) (by simp)
      have hdl : ¬ ((dn.length : Int) + 1 = 0) := by omega
      unfold jrOb at hj hj1 hj2 hj4 hs2
      unfold D.d_Journal_back
      simp [exSs, hj, hr, hdl, he, w1, hj1, putFld, hs2, hj2, hr2, w2, hu2, hu3, w3, hj4, hu4, hat]
    · rw [← hs4, List.length_set, ← hs3, List.length_set, ← hs2, List.length_set, ← hs1, List.length_set]
end P
/-! P93: doing again; new journals; the law's words about them. -/
namespace P
open PySem (Str PyData)
open Rc
variable {C : Str → List Val → M Val} {xs : List Str}
/-! ### a new one -/
def newJ (n : Nat) (h : Int) : Store := [jrOb h (n + 1) (n + 4) (n + 5) (n + 6), shopOb (sh0 h) (n + 2) (n + 3), .lst [], .dK [], .lst [], .lst [], .lst []]
structure Ok_Journal_init (F : Fn) : Prop where
  good : ∀ (st : Store) (h : Int), 1 ≤ h → h ≤ 3 → F [.loc st.length, .int h] (st ++ [.ins "Journal" []]) = .ok .non (st ++ newJ st.length h)
  bad : ∀ (st : Store) (h : Int), ¬ (1 ≤ h ∧ h ≤ 3) → ∃ st', F [.loc st.length, .int h] (st ++ [.ins "Journal" []]) = .exc "BadHeight" none st'
theorem d_Journal___init___ok (hS : Ok_Shop (C "Shop")) : Ok_Journal_init (runDf C xs D.d_Journal___init__) := by
  constructor
  · intro st h h1 h2
    have e0 := hS.good (st ++ [.ins "Journal" []]) h h1 h2
    rw [List.length_append, List.append_assoc] at e0
    have n1 : ¬ ("present" : Str) = "high" := ne_cls (by decide)
    have n2 : ¬ ("present" : Str) = "earlier" := ne_cls (by decide)
    have n3 : ¬ ("present" : Str) = "rows" := ne_cls (by decide)
    have n4 : ¬ ("present" : Str) = "undone" := ne_cls (by decide)
    have n5 : ¬ ("high" : Str) = "earlier" := ne_cls (by decide)
    have n6 : ¬ ("high" : Str) = "rows" := ne_cls (by decide)
    have n7 : ¬ ("high" : Str) = "undone" := ne_cls (by decide)
    have n8 : ¬ ("earlier" : Str) = "rows" := ne_cls (by decide)
    have n9 : ¬ ("earlier" : Str) = "undone" := ne_cls (by decide)
    have n10 : ¬ ("rows" : Str) = "undone" := ne_cls (by decide)
    have s1 : ∀ X e Y, (st ++ X :: e).set st.length Y = st ++ Y :: e := fun X e Y => by simp
    have s2 : ∀ X e, (st ++ X :: e)[st.length]? = some X := fun X e => by simp
    unfold D.d_Journal___init__ newJ jrOb
    simp [exSs, e0, s1, s2, putFld, n1, n2, n3, n4, n5, n6, n7, n8, n9, n10]
  · intro st h h1
    obtain ⟨st', e⟩ := hS.bad (st ++ [.ins "Journal" []]) h h1
    refine ⟨st', ?_⟩
    unfold D.d_Journal___init__
    simp [exSs, e]
structure Ok_Journal (F : Fn) : Prop where
  good : ∀ (st : Store) (h : Int), 1 ≤ h → h ≤ 3 → F [.int h] st = .ok (.loc st.length) (st ++ newJ st.length h)
  bad : ∀ (st : Store) (h : Int), ¬ (1 ≤ h ∧ h ≤ 3) → ∃ st', F [.int h] st = .exc "BadHeight" none st'
theorem new_Journal_ok {F : Fn} (hi : Ok_Journal_init F) : Ok_Journal (mkNew "Journal" F) := by
  constructor
  · intro st h h1 h2
    unfold mkNew
    rw [hi.good st h h1 h2]
    simp
  · intro st h h1
    obtain ⟨st', e⟩ := hi.bad st h h1
    refine ⟨st', ?_⟩
    unfold mkNew
    rw [e]
def hist0 (h : Int) : Hist := ⟨sh0 h, [], []⟩
theorem hist0_good {h : Int} (h1 : 1 ≤ h) (h2 : h ≤ 3) : (hist0 h).Good := ⟨good0 h1 h2, trivial⟩
theorem Sep.newJ {st : Store} {os : List Own} {h : Int} (Dh : Sep st os) (h1 : 1 ≤ h) (h2 : h ≤ 3) : ∃ O, IsJ O st.length (hist0 h) ∧ Sep (st ++ P.newJ st.length h) (O :: os) := by
  refine ⟨ownAll (jrL st.length (st.length + 4) (st.length + 5) (st.length + 6) (st.length + 1, st.length + 2, st.length + 3) [] (hist0 h)), isj_mk rfl, ?_⟩
  refine Dh.add (is := []) gro_app (by simp) (fun i hi => ?_) ?_ ?_
  · simp [ownAll, jrL, Own.and, ownO, ownL, ownS, ownN] at hi
    omega
  · simp [ownAll, jrL, Own.and, ownO, ownL, ownS, ownN]
  · unfold P.newJ
    exact ⟨by show (st ++ _)[st.length]? = _; simp [hist0, sh0], by show (st ++ _)[st.length + 4]? = _; simp, by show (st ++ _)[st.length + 5]? = _; simp [hist0], by show (st ++ _)[st.length + 6]? = _; simp [hist0], ⟨⟨by show (st ++ _)[st.length + 1]? = _; simp [hist0, Hist.cur, Hist.sts], by show (st ++ _)[st.length + 2]? = _; simp [hist0, Hist.cur, Hist.sts, sh0], by show (st ++ _)[st.length + 3]? = _; simp [hist0, Hist.cur, Hist.sts, sh0]⟩, good0 h1 h2⟩, trivial⟩
end P
/-! P94: the law's words about journals. -/
namespace P
open PySem (Str PyData)
open Rc
variable {C : Str → List Val → M Val} {xs : List Str}
def Ok_law_journal_do (F : Fn) : Prop := ∀ {st : Store} {O : Own} {j : Nat} {H : Hist} {os : List Own}, IsJ O j H → Sep st (O :: os) → H.done.length ≤ 1000 → ∀ d : Deed, ∃ st' O', F [.loc j, dv d] st = .ok (.lst [.str (if (doD H.cur d).1 = "" then "" else "refused"), (doD H.cur d).2.1]) st' ∧ IsJ O' j (if (doD H.cur d).1 = "" then H.did d else H) ∧ Sep st' (O' :: os) ∧ st.length ≤ st'.length
theorem d_law_journal_do_ok (x0 : xs.contains ("BadSeal" : Str) = true) (x1 : xs.contains ("BadStart" : Str) = true) (x2 : xs.contains ("BadWidth" : Str) = true) (x3 : xs.contains ("Bare" : Str) = true) (x4 : xs.contains ("Full" : Str) = true) (x5 : xs.contains ("Lost" : Str) = true) (x6 : xs.contains ("NoCell" : Str) = true) (x7 : xs.contains ("NoSeal" : Str) = true) (x8 : xs.contains ("NoStrip" : Str) = true) (x9 : xs.contains ("NotPieces" : Str) = true) (x10 : xs.contains ("SameOne" : Str) = true) (hd : Ok_Journal_do (C "Journal.do")) : Ok_law_journal_do (runDf C xs D.d_law_journal_do) := by
  simp only [List.contains_iff_mem] at x0 x1 x2 x3 x4 x5 x6 x7 x8 x9 x10
  intro st O j H os hJ Dh hlen d
  have r := hd.run hJ Dh hlen d
  have s := same_of H.cur d
  have w := words_do H.cur d
  obtain ⟨l0, e0, r0, u0, hj⟩ := isj_ob hJ Dh
  unfold jrOb at hj
  generalize doD H.cur d = o at *
  unfold D.d_law_journal_do
  rcases r with ⟨st', O', n, e, hJ', D', hl⟩ | ⟨st', n, e, D', hl⟩
  · refine ⟨st', O', ?_, by rw [if_pos n]; exact hJ', D', hl⟩
    generalize dv d = dd at *
    simp [exSs, hj, e, n, PySem.sizeLine]
  · have := s n
    refine ⟨st', O, ?_, by rw [if_neg n]; exact hJ, D', hl⟩
    have w' := w n
    rw [this] at e ⊢
    generalize o.1 = w0 at *
    generalize dv d = dd at *
    simp only [List.mem_cons, List.not_mem_nil, or_false] at w'
    rcases w' with rfl | rfl | rfl | rfl | rfl | rfl | rfl | rfl | rfl | rfl | rfl <;> simp [exSs, hj, e, x0, x1, x2, x3, x4, x5, x6, x7, x8, x9, x10, subOf, PySem.sizeLine]
end P
/-! P95: two strips of unlike rollings are no pieces of one. -/
namespace Rc
theorem wpk_forU {C : PySem.Str → List Val → M Val} {xs : List PySem.Str} {N : Env → Store → Prop} {T : Val → Store → Prop} {body : Env → Store → RS} {tg : Tg} {ys zs : List Val} {x : Val} {ss : Ss} {env env' : Env} {st : Store} (e : assignTg tg x env = some env') (h : WP (body env' st) (fun e s => WPK (forLoop body tg (Still ⟨ys, none⟩) zs e s) C xs ss N T) T) : WPK (forLoop body tg (Still ⟨ys, none⟩) (x :: zs) env st) C xs ss N T := by
  rw [forLoop_cons (by simp) e]
  revert h
  rcases body env' st with ⟨f, st1⟩ | ⟨c, r, e, st1⟩ | _
  · cases f
    · exact fun h => h
    · exact fun h => h
  · exact fun h => h
  · exact fun h => h
theorem wpk_forN {C : PySem.Str → List Val → M Val} {xs : List PySem.Str} {N : Env → Store → Prop} {T : Val → Store → Prop} {body : Env → Store → RS} {tg : Tg} {ys : List Val} {ss : Ss} {env : Env} {st : Store} (h : WP (exSs C xs ss env st) N T) : WPK (forLoop body tg (Still ⟨ys, none⟩) [] env st) C xs ss N T := by
  rw [forLoop_nil (by simp)]
  exact h
end Rc
namespace P
open PySem (Str PyData)
open Rc
variable {C : Str → List Val → M Val} {xs : List Str}
section
variable {F : Fn} {st : Store} {l a b : Nat} {S : Sh} {n m c : Int} {t u : Thing}
theorem step_snap (h : Ok_Shop_snap F) (hP : ShopAt st l a b S) (G : GoodS S) (ht : lk S.things n = some t) (h1 : 1 ≤ c) (h2 : c < t.rows.length) (h3 : S.given < 40) : ∃ th st', F [.loc l, .int n, .int c] st = .ok (.int S.given) st' ∧ ShopAt st' l a b { S with things := th, given := S.given + 1 } ∧ GoodS { S with things := th, given := S.given + 1 } ∧ Off [l, a, b] st st' ∧ ∀ k, lk th k = if k = S.given then some (rgt t c) else if k = n then some (lft t c) else lk S.things k := by
  obtain ⟨th, d1, k1⟩ := snap_lk G ht h1 h2 h3
  have r1 := h.run hP G n c
  have G1 := good_do G (.snap n c)
  change GoodS (dSnap S n c).2.2 at G1
  rw [d1] at r1 G1
  obtain ⟨st', e, P', O'⟩ := r1.done
  exact ⟨th, st', e, P', G1, O', k1⟩
theorem step_turn (h : Ok_Shop_turn F) (hP : ShopAt st l a b S) (G : GoodS S) (ht : lk S.things n = some t) : ∃ th st', F [.loc l, .int n] st = .ok .non st' ∧ ShopAt st' l a b { S with things := th } ∧ GoodS { S with things := th } ∧ Off [l, a, b] st st' ∧ ∀ k, lk th k = if k = n then some (trn t) else lk S.things k := by
  obtain ⟨th, d1, k1⟩ := turn_lk ht
  have r1 := h.run hP G n
  have G1 := good_do G (.turn n)
  change GoodS (dTurn S n).2.2 at G1
  rw [d1] at r1 G1
  obtain ⟨st', e, P', O'⟩ := r1.done
  exact ⟨th, st', e, P', G1, O', k1⟩
theorem step_join (h : Ok_Shop_join F) (hP : ShopAt st l a b S) (G : GoodS S) (ht : lk S.things n = some t) (hu : lk S.things m = some u) (hne : ¬ n = m) (hc : t.turn = u.turn ∧ t.way = u.way ∧ (t.way = 0 → t.first + t.rows.length = u.first) ∧ (t.way = 1 → u.first + u.rows.length = t.first)) : ∃ th st', F [.loc l, .int n, .int m] st = .ok .non st' ∧ ShopAt st' l a b { S with things := th } ∧ GoodS { S with things := th } ∧ Off [l, a, b] st st' ∧ ∀ k, lk th k = if k = m then none else if k = n then some (jnd t u) else lk S.things k := by
  obtain ⟨th, d1, k1⟩ := join_lk ht hu hne hc
  have r1 := h.run hP G n m
  have G1 := good_do G (.join n m)
  change GoodS (dJoin S n m).2.2 at G1
  rw [d1] at r1 G1
  obtain ⟨st', e, P', O'⟩ := r1.done
  exact ⟨th, st', e, P', G1, O', k1⟩
theorem ResP.refused {F : Fn} {as : List Val} {st : Store} {l a b : Nat} {w : Str} {S' : Sh} (hw : w ≠ "") (h : ResP F as st l a b (w, .non, S')) : F as st = .exc w none st := by
  generalize ho : ((w, .non, S') : Out) = o at h
  cases h with
  | ok h1 h2 h3 =>
    injection ho with q _
    exact absurd q hw
  | exc h1 h2 => cases ho; exact h2
theorem step_nojoin (h : Ok_Shop_join F) (hP : ShopAt st l a b S) (G : GoodS S) (ht : lk S.things n = some t) (hu : lk S.things m = some u) (hne : ¬ n = m) (hc : ¬ (t.turn = u.turn ∧ t.way = u.way ∧ (t.way = 0 → t.first + t.rows.length = u.first) ∧ (t.way = 1 → u.first + u.rows.length = t.first))) : F [.loc l, .int n, .int m] st = .exc "NotPieces" none st := by
  have d1 : dJoin S n m = ((("NotPieces" : Str), Val.non, S) : Out) := by
    unfold dJoin
    rw [ht, hu]
    dsimp only
    rw [if_neg hne, if_neg hc]
  have r1 := h.run hP G n m
  rw [d1] at r1
  exact r1.refused (nw (by decide))
end
def Ok_law_no_pieces (F : Fn) : Prop := ∀ {st : Store} {l a b : Nat} {S : Sh}, ShopAt st l a b S → GoodS S → ∀ {n m : Int} {t u : Thing}, lk S.things n = some t → lk S.things m = some u → ¬ n = m → ¬ (t.turn = u.turn ∧ t.way = u.way ∧ (t.way = 0 → t.first + t.rows.length = u.first) ∧ (t.way = 1 → u.first + u.rows.length = t.first)) → F [.loc l, .int n, .int m] st = .ok (.bl true) st
theorem d_law_no_pieces_ok (x1 : xs.contains ("NotPieces" : Str) = true) (hj : Ok_Shop_join (C "Shop.join")) : Ok_law_no_pieces (runDf C xs D.d_law_no_pieces) := by
  simp only [List.contains_iff_mem] at x1
  intro st l a b S hP G n m t u ht hu hne hc
  have e := step_nojoin hj hP G ht hu hne hc
  obtain ⟨fs, hl⟩ : ∃ fs, st[l]? = some (.ins "Shop" fs) := ⟨_, hP.o⟩
  unfold D.d_law_no_pieces
  simp [exSs, hl, e, x1, subOf]
/-- a strip as it was rolled -/
structure Roll0 (S : Sh) (n : Int) (t : Thing) : Prop where
  k : lk S.things n = some t
  w : t.way = 0
  f : t.first = 0
def Ok_law_apart (F : Fn) : Prop := ∀ {st : Store} {l a b : Nat} {S : Sh}, ShopAt st l a b S → GoodS S → ∀ {n m c : Int} {t u : Thing}, Roll0 S n t → Roll0 S m u → ¬ t.turn = u.turn → 1 ≤ c → c < t.rows.length → c < u.rows.length → S.given + 2 ≤ 40 → ∀ fl : Bool, ∃ st', F [.loc l, .int n, .int m, .int c, .bl fl] st = .ok (.bl true) st' ∧ Off [l, a, b] st st'
theorem d_law_apart_ok (hL : Ok_law_like (C "_law_like")) (h1 : Ok_Shop_strip (C "Shop.strip")) (h3 : Ok_Shop_snap (C "Shop.snap")) (h4 : Ok_Shop_turn (C "Shop.turn")) (h5 : Ok_Shop_join (C "Shop.join")) (hn : Ok_law_no_pieces (C "_law_no_pieces")) (ht : Ok_law_turned (C "_law_turned")) : Ok_law_apart (runDf C xs D.d_law_apart) := by
  intro st l a b S hP G n m c t u rt ru htu c1 c2 c3 hg fl
  suffices key : ∃ v st', runDf C xs D.d_law_apart [.loc l, .int n, .int m, .int c, .bl fl] st = .ok v st' ∧ (v = .bl true ∧ Off [l, a, b] st st') by
    obtain ⟨v, st', e, rfl, o⟩ := key
    exact ⟨st', e, o⟩
  refine wp_run rfl ?_
  obtain ⟨kt, wt, ft⟩ := rt
  obtain ⟨ku, wu, fu⟩ := ru
  have gt := G.tg _ (lk_mem kt)
  have gu := G.tg _ (lk_mem ku)
  have e1 := h1.good hP n t kt
  have e2 := h1.good hP m u ku
  have hf : lk S.things S.given = none := lk_none.mpr G.fresh
  have hnm : ¬ n = m := fun e => by rw [e, ku] at kt; cases kt; exact htu rfl
  have hng : ¬ n = S.given := fun e => by rw [← e, kt] at hf; cases hf
  have hmg : ¬ m = S.given := fun e => by rw [← e, ku] at hf; cases hf
  have hmb := (G.tb _ (lk_mem ku)).2
  have hnb := (G.tb _ (lk_mem kt)).2
  dsimp only at hmb hnb
  obtain ⟨th1, st1, e3, P1, G1, O1, k1⟩ := step_snap h3 hP G kt c1 c2 (by omega)
  have km1 : lk th1 m = some u := by rw [k1, if_neg hmg, if_neg (fun e => hnm e.symm), ku]
  obtain ⟨th2, st2, e4, P2, G2, O2, k2⟩ := step_snap (S := { S with things := th1, given := S.given + 1 }) h3 P1 G1 km1 c1 c3 (by show S.given + 1 < 40; omega)
  dsimp only at k2
  generalize hg1 : S.given = g1 at *
  have kn2 : lk th2 n = some (lft t c) := by rw [k2, if_neg (by omega), if_neg hnm, k1, if_neg hng, if_pos rfl]
  have km2 : lk th2 m = some (lft u c) := by rw [k2, if_neg (by omega), if_pos rfl]
  have kg2 : lk th2 g1 = some (rgt t c) := by rw [k2, if_neg (by omega), if_neg (fun e => hmg e.symm), k1, if_pos rfl]
  have kh2 : lk th2 (g1 + 1) = some (rgt u c) := by rw [k2, if_pos rfl]
  obtain ⟨fs0, hl0⟩ : ∃ fs, st[l]? = some (.ins "Shop" fs) := ⟨_, hP.o⟩
  obtain ⟨fs1, hl1⟩ : ∃ fs, st1[l]? = some (.ins "Shop" fs) := ⟨_, P1.o⟩
  obtain ⟨fs2, hl2⟩ : ∃ fs, st2[l]? = some (.ins "Shop" fs) := ⟨_, P2.o⟩
  have gd := thing_good G gt
  have gd2 := thing_good G gu
  have lt1 : (lft t c).turn = t.turn := rfl
  unfold D.d_law_apart
  rw [wp_cons]
  simp [hl0, e1, e2, PySem.sizeLine, -wp_cons]
  rw [wp_cons]
  simp [hl0, e3, hl1, e4, PySem.sizeLine, -wp_cons]
  rw [wp_cons]
  simp [PySem.sizeLine, -wp_cons]
  cases fl with
  | false =>
    have pl := hL.same (.lst [sv t.rows, sv u.rows])
    have hat0 : ∀ x y : Val, L2.atI [x, y] 0 = some x := fun _ _ => rfl
    have hat1 : ∀ x y : Val, L2.atI [x, y] 1 = some y := fun _ _ => rfl
    have hlc1 : ∀ q9 q10 q11 q12 q13, lcSem false [8] (evI C (.seq (.var 7))) (.nm 8) (evT C .nil) (evE C D.d_law_apart_e2) [some (.loc l), some (.int n), some (.int m), some (.int c), some (.bl false), some (.lst [sv t.rows, sv u.rows]), some (.lst [.int g1, .int (g1 + 1)]), some (.lst [.tup [.int n, .int g1], .tup [.int m, .int (g1 + 1)]]), none, q9, q10, q11, q12, q13] st2 = .ok (.lst [.tup [.int g1, .int n], .tup [.int (g1 + 1), .int m]]) st2 := by
      intro q9 q10 q11 q12 q13
      refine lc_mapA (fun p : Int × Int => Val.tup [.int p.1, .int p.2]) (fun p : Int × Int => Val.tup [.int p.2, .int p.1]) (ws := [(n, g1), (m, g1 + 1)]) (by simp) ?_
      intro p hp
      refine ⟨_, rfl, ?_⟩
      unfold D.d_law_apart_e2
      simp [wipe]
    have np1 := hn P2 G2 kn2 kh2 (by omega) (fun h => htu h.1)
    have np2 := hn P2 G2 km2 kg2 hmg (fun h => htu h.1.symm)
    have lr1 : (rgt t c).rows.length = t.rows.length - c.toNat := by simp [rgt]
    have lr2 : (rgt u c).rows.length = u.rows.length - c.toNat := by simp [rgt]
    have np3 := hn P2 G2 kg2 kn2 (fun e => hng e.symm) (fun h => by
      have := h.2.2.1 (by show t.way = 0; exact wt)
      simp [rgt, lft, wt, ft] at this
      omega)
    have np4 := hn P2 G2 kh2 km2 (by omega) (fun h => by
      have := h.2.2.1 (by show u.way = 0; exact wu)
      simp [rgt, lft, wu, fu] at this
      omega)
    obtain ⟨th3, st3, j1, P3, G3, O3, k3⟩ := step_join h5 P2 G2 kn2 kg2 hng ⟨rfl, rfl, fun _ => by simp [rgt, lft, wt, ft]; omega, fun h => by simp [lft, wt] at h⟩
    rw [jnd_back] at k3
    have km3 : lk th3 m = some (lft u c) := by rw [k3, if_neg hmg, if_neg (fun e => hnm e.symm), km2]
    have kh3 : lk th3 (g1 + 1) = some (rgt u c) := by rw [k3, if_neg (by omega), if_neg (by omega), kh2]
    obtain ⟨th4, st4, j2, P4, G4, O4, k4⟩ := step_join h5 P3 G3 km3 kh3 (by omega) ⟨rfl, rfl, fun _ => by simp [rgt, lft, wu, fu]; omega, fun h => by simp [lft, wu] at h⟩
    rw [jnd_back] at k4
    have kn4 : lk th4 n = some t := by rw [k4, if_neg (by omega), if_neg hnm, k3, if_neg hng, if_pos rfl]
    have km4 : lk th4 m = some u := by rw [k4, if_neg (by omega), if_pos rfl]
    have s1 := h1.good P4 n t kn4
    have s2 := h1.good P4 m u km4
    obtain ⟨fs3, hl3⟩ : ∃ fs, st3[l]? = some (.ins "Shop" fs) := ⟨_, P3.o⟩
    obtain ⟨fs4, hl4⟩ : ∃ fs, st4[l]? = some (.ins "Shop" fs) := ⟨_, P4.o⟩
    rw [wp_cons]
    simp [-wp_cons]
    rw [wp_cons]
    simp [hat0, hat1, hlc1, PySem.sizeLine, -Still, -wp_cons]
    refine wpk_for (fun env st' => ∃ q11 q12, env = [some (.loc l), some (.int n), some (.int m), some (.int c), some (.bl false), some (.lst [sv t.rows, sv u.rows]), some (.lst [.int g1, .int (g1 + 1)]), some (.lst [.tup [.int n, .int g1], .tup [.int m, .int (g1 + 1)]]), none, none, none, q11, q12, none] ∧ st' = st2) ⟨_, _, rfl, rfl⟩ ?_ ?_
    · rintro x hx env st' ⟨q11, q12, rfl, rfl⟩
      simp only [List.mem_cons, List.not_mem_nil, or_false] at hx
      rcases hx with rfl | rfl | rfl | rfl <;> refine ⟨_, rfl, ?_⟩ <;> unfold D.d_law_apart_b3 <;> simp [setAll, np1, np2, np3, np4]
    · rintro env st' ⟨q11, q12, rfl, rfl⟩
      rw [wp_cons]
      simp [-Still, -wp_cons]
      refine wpk_forU rfl ?_
      unfold D.d_law_apart_b4
      simp [hat0, hat1, hl2, j1, -Still]
      refine wpk_forU rfl ?_
      simp [hat0, hat1, hl3, j2, -Still]
      refine wpk_forN ?_
      have hlc2 : ∀ q8 q9 q10 q11 q12 q13, lcSem false [8] (evI C (.seq (.var 7))) (.nm 8) (evT C .nil) (evE C D.d_law_apart_e6) [some (.loc l), some (.int n), some (.int m), some (.int c), some (.bl false), some (.lst [sv t.rows, sv u.rows]), some (.lst [.int g1, .int (g1 + 1)]), some (.lst [.tup [.int n, .int g1], .tup [.int m, .int (g1 + 1)]]), q8, q9, q10, q11, q12, q13] st4 = .ok (.lst [sv t.rows, sv u.rows]) st4 := by
        intro q8 q9 q10 q11 q12 q13
        refine lc_mapA (fun p : Int × Int × Strip => Val.tup [.int p.1, .int p.2.1]) (fun p => sv p.2.2) (ws := [(n, g1, t.rows), (m, g1 + 1, u.rows)]) (by simp) ?_
        intro p hp
        refine ⟨_, rfl, ?_⟩
        unfold D.d_law_apart_e6
        simp only [List.mem_cons, List.not_mem_nil, or_false] at hp
        rcases hp with rfl | rfl <;> simp [wipe, hat0, hl4, s1, s2]
      have pl4 := pl st4 (.lst (by simp) fun w hw => by
        simp only [List.mem_cons, List.not_mem_nil, or_false] at hw
        rcases hw with rfl | rfl
        · exact plain_good (n := 2) gd
        · exact plain_good (n := 2) gd2)
      simp [hlc2, pl4]
      exact ((O1.trans O2).trans O3).trans O4
  | true =>
    have pl := hL.same (.lst [sv (turn t.rows), sv (turn u.rows)])
    have hat0 : ∀ x y : Val, L2.atI [x, y] 0 = some x := fun _ _ => rfl
    have hat1 : ∀ x y : Val, L2.atI [x, y] 1 = some y := fun _ _ => rfl
    obtain ⟨th3, st3, t1, P3, G3, O3, k3⟩ := step_turn h4 P2 G2 kn2
    have km3 : lk th3 m = some (lft u c) := by rw [k3, if_neg (fun e => hnm e.symm), km2]
    obtain ⟨th4, st4, t2, P4, G4, O4, k4⟩ := step_turn h4 P3 G3 km3
    have kg4 : lk th4 g1 = some (rgt t c) := by rw [k4, if_neg (fun e => hmg e.symm), k3, if_neg (fun e => hng e.symm), kg2]
    obtain ⟨th5, st5, t3, P5, G5, O5, k5⟩ := step_turn h4 P4 G4 kg4
    have kh5 : lk th5 (g1 + 1) = some (rgt u c) := by rw [k5, if_neg (by omega), k4, if_neg (by omega), k3, if_neg (by omega), kh2]
    obtain ⟨th6, st6, t4, P6, G6, O6, k6⟩ := step_turn h4 P5 G5 kh5
    have kn6 : lk th6 n = some (trn (lft t c)) := by rw [k6, if_neg (by omega), k5, if_neg hng, k4, if_neg hnm, k3, if_pos rfl]
    have km6 : lk th6 m = some (trn (lft u c)) := by rw [k6, if_neg (by omega), k5, if_neg hmg, k4, if_pos rfl]
    have kg6 : lk th6 g1 = some (trn (rgt t c)) := by rw [k6, if_neg (by omega), k5, if_pos rfl]
    have kh6 : lk th6 (g1 + 1) = some (trn (rgt u c)) := by rw [k6, if_pos rfl]
    obtain ⟨fs3, hl3⟩ : ∃ fs, st3[l]? = some (.ins "Shop" fs) := ⟨_, P3.o⟩
    obtain ⟨fs4, hl4⟩ : ∃ fs, st4[l]? = some (.ins "Shop" fs) := ⟨_, P4.o⟩
    obtain ⟨fs5, hl5⟩ : ∃ fs, st5[l]? = some (.ins "Shop" fs) := ⟨_, P5.o⟩
    obtain ⟨fs6, hl6⟩ : ∃ fs, st6[l]? = some (.ins "Shop" fs) := ⟨_, P6.o⟩
    have tl : ∀ s : Strip, (turn s).length = s.length := fun s => by simp [turn]
    have np1 := hn P6 G6 kg6 km6 (fun e => hmg e.symm) (fun h => htu h.1)
    have np2 := hn P6 G6 kh6 kn6 (by omega) (fun h => htu h.1.symm)
    have np3 := hn P6 G6 kn6 kg6 hng (fun h => by
      have := h.2.2.2 (by show 1 - t.way = 1; rw [wt]; rfl)
      simp [trn, rgt, lft, tl, wt, ft] at this
      omega)
    have np4 := hn P6 G6 km6 kh6 (by omega) (fun h => by
      have := h.2.2.2 (by show 1 - u.way = 1; rw [wu]; rfl)
      simp [trn, rgt, lft, tl, wu, fu] at this
      omega)
    obtain ⟨th7, st7, j1, P7, G7, O7, k7⟩ := step_join h5 P6 G6 kg6 kn6 (fun e => hng e.symm) ⟨rfl, rfl, fun h => by simp [trn, rgt, wt] at h, fun _ => by simp [trn, rgt, lft, tl, wt, ft]; omega⟩
    have kh7 : lk th7 (g1 + 1) = some (trn (rgt u c)) := by rw [k7, if_neg (by omega), if_neg (by omega), kh6]
    have km7 : lk th7 m = some (trn (lft u c)) := by rw [k7, if_neg (fun e => hnm e.symm), if_neg hmg, km6]
    obtain ⟨th8, st8, j2, P8, G8, O8, k8⟩ := step_join h5 P7 G7 kh7 km7 (by omega) ⟨rfl, rfl, fun h => by simp [trn, rgt, wu] at h, fun _ => by simp [trn, rgt, lft, tl, wu, fu]; omega⟩
    have hr : ∀ x : Thing, x.way = 0 → (jnd (trn (rgt x c)) (trn (lft x c))).rows = turn x.rows := fun x hx => by
      have e := congrArg Thing.rows (jnd_back2 (t := x) (c := c) (.inl hx))
      have e2 : (trn (jnd (trn (rgt x c)) (trn (lft x c)))).rows = turn (jnd (trn (rgt x c)) (trn (lft x c))).rows := rfl
      rw [e2] at e
      rw [← e, turn_turn]
    have kg8 : lk th8 g1 = some (jnd (trn (rgt t c)) (trn (lft t c))) := by rw [k8, if_neg (fun e => hmg e.symm), if_neg (by omega), k7, if_neg (fun e => hng e.symm), if_pos rfl]
    have kh8 : lk th8 (g1 + 1) = some (jnd (trn (rgt u c)) (trn (lft u c))) := by rw [k8, if_neg (by omega), if_pos rfl]
    have s1 := h1.good P8 g1 _ kg8
    have s2 := h1.good P8 (g1 + 1) _ kh8
    rw [hr t wt] at s1
    rw [hr u wu] at s2
    have gj1 := thing_good G8 (G8.tg _ (lk_mem kg8))
    have gj2 := thing_good G8 (G8.tg _ (lk_mem kh8))
    rw [hr t wt] at gj1
    rw [hr u wu] at gj2
    obtain ⟨fs7, hl7⟩ : ∃ fs, st7[l]? = some (.ins "Shop" fs) := ⟨_, P7.o⟩
    obtain ⟨fs8, hl8⟩ : ∃ fs, st8[l]? = some (.ins "Shop" fs) := ⟨_, P8.o⟩
    have hlc0 : ∀ q9 q10 q11 q12 q13, lcSem false [8] (evI C (.seq (.var 7))) (.nm 8) (evT C .nil) (evE C D.d_law_apart_e1) [some (.loc l), some (.int n), some (.int m), some (.int c), some (.bl true), some (.lst [sv t.rows, sv u.rows]), some (.lst [.int g1, .int (g1 + 1)]), some (.lst [.tup [.int n, .int g1], .tup [.int m, .int (g1 + 1)]]), none, q9, q10, q11, q12, q13] st6 = .ok (.lst [.tup [.int g1, .int n], .tup [.int (g1 + 1), .int m]]) st6 := by
      intro q9 q10 q11 q12 q13
      refine lc_mapA (fun p : Int × Int => Val.tup [.int p.1, .int p.2]) (fun p : Int × Int => Val.tup [.int p.2, .int p.1]) (ws := [(n, g1), (m, g1 + 1)]) (by simp) ?_
      intro p hp
      refine ⟨_, rfl, ?_⟩
      unfold D.d_law_apart_e1
      simp [wipe]
    have hlc1 : ∀ q9 q10 q11 q12 q13, lcSem false [8] (evI C (.seq (.var 7))) (.nm 8) (evT C .nil) (evE C D.d_law_apart_e2) [some (.loc l), some (.int n), some (.int m), some (.int c), some (.bl true), some (.lst [sv t.rows, sv u.rows]), some (.lst [.int g1, .int (g1 + 1)]), some (.lst [.tup [.int g1, .int n], .tup [.int (g1 + 1), .int m]]), none, q9, q10, q11, q12, q13] st6 = .ok (.lst [.tup [.int n, .int g1], .tup [.int m, .int (g1 + 1)]]) st6 := by
      intro q9 q10 q11 q12 q13
      refine lc_mapA (fun p : Int × Int => Val.tup [.int p.1, .int p.2]) (fun p : Int × Int => Val.tup [.int p.2, .int p.1]) (ws := [(g1, n), (g1 + 1, m)]) (by simp) ?_
      intro p hp
      refine ⟨_, rfl, ?_⟩
      unfold D.d_law_apart_e2
      simp [wipe]
    rw [wp_cons]
    simp [PySem.sizeLine, -Still, -wp_cons]
    rw [wp_cons]
    simp [PySem.sizeLine, -Still, -wp_cons]
    refine wpk_forU rfl ?_
    unfold D.d_law_apart_b0
    simp [hl2, t1, -Still]
    refine wpk_forU rfl ?_
    simp [hl3, t2, -Still]
    refine wpk_forU rfl ?_
    simp [hl4, t3, -Still]
    refine wpk_forU rfl ?_
    simp [hl5, t4, -Still]
    refine wpk_forN ?_
    rw [wp_cons]
    simp [hlc0, -Still, -wp_cons]
    rw [wp_cons]
    simp [hat0, hat1, hlc1, PySem.sizeLine, -Still, -wp_cons]
    refine wpk_for (fun env st' => ∃ q10 q11 q12, env = [some (.loc l), some (.int n), some (.int m), some (.int c), some (.bl true), some (.lst [sv t.rows, sv u.rows]), some (.lst [.int g1, .int (g1 + 1)]), some (.lst [.tup [.int g1, .int n], .tup [.int (g1 + 1), .int m]]), none, none, q10, q11, q12, none] ∧ st' = st6) ⟨_, _, _, rfl, rfl⟩ ?_ ?_
    · rintro x hx env st' ⟨q10, q11, q12, rfl, rfl⟩
      simp only [List.mem_cons, List.not_mem_nil, or_false] at hx
      rcases hx with rfl | rfl | rfl | rfl <;> refine ⟨_, rfl, ?_⟩ <;> unfold D.d_law_apart_b3 <;> simp [setAll, np1, np2, np3, np4]
    · rintro env st' ⟨q10, q11, q12, rfl, rfl⟩
      rw [wp_cons]
      simp [-Still, -wp_cons]
      refine wpk_forU rfl ?_
      unfold D.d_law_apart_b4
      simp [hat0, hat1, hl6, j1, -Still]
      refine wpk_forU rfl ?_
      simp [hat0, hat1, hl7, j2, -Still]
      refine wpk_forN ?_
      have hlc2 : ∀ q8 q9 q10 q11 q12 q13, lcSem false [8] (evI C (.seq (.var 7))) (.nm 8) (evT C .nil) (evE C D.d_law_apart_e6) [some (.loc l), some (.int n), some (.int m), some (.int c), some (.bl true), some (.lst [sv t.rows, sv u.rows]), some (.lst [.int g1, .int (g1 + 1)]), some (.lst [.tup [.int g1, .int n], .tup [.int (g1 + 1), .int m]]), q8, q9, q10, q11, q12, q13] st8 = .ok (.lst [sv (turn t.rows), sv (turn u.rows)]) st8 := by
        intro q8 q9 q10 q11 q12 q13
        refine lc_mapA (fun p : Int × Int × Strip => Val.tup [.int p.1, .int p.2.1]) (fun p => sv p.2.2) (ws := [(g1, n, turn t.rows), (g1 + 1, m, turn u.rows)]) (by simp) ?_
        intro p hp
        refine ⟨_, rfl, ?_⟩
        unfold D.d_law_apart_e6
        simp only [List.mem_cons, List.not_mem_nil, or_false] at hp
        rcases hp with rfl | rfl <;> simp [wipe, hat0, hl8, s1, s2]
      have hlc3 : ∀ q8 q9 q10 q11 q12 q13, lcSem false [13] (evI C (.seq (.var 5))) (.nm 13) (evT C .nil) (evE C D.d_law_apart_e5) [some (.loc l), some (.int n), some (.int m), some (.int c), some (.bl true), some (.lst [sv t.rows, sv u.rows]), some (.lst [.int g1, .int (g1 + 1)]), some (.lst [.tup [.int g1, .int n], .tup [.int (g1 + 1), .int m]]), q8, q9, q10, q11, q12, q13] st8 = .ok (.lst [sv (turn t.rows), sv (turn u.rows)]) st8 := by
        intro q8 q9 q10 q11 q12 q13
        refine lc_mapA (fun p : Strip => sv p) (fun p => sv (turn p)) (ws := [t.rows, u.rows]) (by simp) ?_
        intro p hp
        refine ⟨_, rfl, ?_⟩
        unfold D.d_law_apart_e5
        have e := ht p st8
        simp [wipe, e]
      have pl8 := pl st8 (.lst (by simp) fun w hw => by
        simp only [List.mem_cons, List.not_mem_nil, or_false] at hw
        rcases hw with rfl | rfl
        · exact plain_good (n := 2) gj1
        · exact plain_good (n := 2) gj2)
      simp [hlc2, hlc3, pl8]
      exact ((((((O1.trans O2).trans O3).trans O4).trans O5).trans O6).trans O7).trans O8
end P
namespace Rc
theorem wpk_forUS {C : PySem.Str → List Val → M Val} {xs : List PySem.Str} {N : Env → Store → Prop} {T : Val → Store → Prop} {body : Env → Store → RS} {tg : Tg} {still : Store → Prop} {zs : List Val} {x : Val} {ss : Ss} {env env' : Env} {st : Store} (hs : still st) (e : assignTg tg x env = some env') (h : WP (body env' st) (fun e s => WPK (forLoop body tg still zs e s) C xs ss N T) T) : WPK (forLoop body tg still (x :: zs) env st) C xs ss N T := by
  rw [forLoop_cons hs e]
  revert h
  rcases body env' st with ⟨f, st1⟩ | ⟨c, r, e, st1⟩ | _
  · cases f
    · exact fun h => h
    · exact fun h => h
  · exact fun h => h
  · exact fun h => h
theorem items_loc {st : Store} {l : Nat} {vs : List Val} (h : st[l]? = some (.lst vs)) : itemsOf st (.loc l) = some ⟨vs, some l⟩ := by
  show (match st[l]? with
    | some (.lst xs) => some (⟨xs, some l⟩ : Items)
    | _ => none) = _
  rw [h]
theorem wpk_forNS {C : PySem.Str → List Val → M Val} {xs : List PySem.Str} {N : Env → Store → Prop} {T : Val → Store → Prop} {body : Env → Store → RS} {tg : Tg} {still : Store → Prop} {ss : Ss} {env : Env} {st : Store} (hs : still st) (h : WP (exSs C xs ss env st) N T) : WPK (forLoop body tg still [] env st) C xs ss N T := by
  rw [forLoop_nil hs]
  exact h
end Rc
namespace P
open PySem (Str PyData)
open Rc
variable {C : Str → List Val → M Val} {xs : List Str}
theorem Sep.lose {st st' : Store} {a : Own} {os : List Own} {is : List Nat} (h : Sep st (a :: os)) (k : Gro is st st') (hi : ∀ i ∈ is, i ∈ a.is ∨ st.length ≤ i) : Sep st' os :=
  Sep.none.mp (h.step k hi (o' := ownN) (fun i m => by simp [ownN] at m) (by simp [ownN]) trivial)
theorem given_do (S : Sh) (d : Deed) : (doD S d).2.2.given ≤ S.given + 1 := by
  cases d <;> simp only [doD]
  · unfold dCut; repeat' split
    all_goals (dsimp only; omega)
  · unfold dChip; repeat' split
    all_goals (dsimp only; omega)
  · unfold dRoll; repeat' split
    all_goals (dsimp only; omega)
  · unfold dTurn; repeat' split
    all_goals (dsimp only; omega)
  · unfold dWear; repeat' split
    all_goals (dsimp only; omega)
  · unfold dSnap; repeat' split
    all_goals (dsimp only; omega)
  · unfold dJoin; repeat' split
    all_goals (dsimp only; omega)
  · unfold dLose; repeat' split
    all_goals (dsimp only; omega)
theorem roll_lk {S : Sh} (G : GoodS S) (hs : 1 ≤ S.seals.length) {w : Int} (w1 : 1 ≤ w) (w2 : w ≤ 12) (hg : S.given < 40) : ∃ t S', dRoll S 0 0 w = ((("" : Str), Val.int S.given, S') : Out) ∧ Roll0 S' S.given t ∧ (t.rows.length : Int) = w ∧ t.turn = S.rolls.length ∧ S'.given = S.given + 1 ∧ S'.seals = S.seals ∧ S'.rolls.length = S.rolls.length + 1 ∧ ∀ k, k ≠ S.given → lk S'.things k = lk S.things k := by
  obtain ⟨gs, _⟩ := G.sg _ (nth_mem (k := 0) (s := S.seals) (by omega))
  obtain ⟨l1, _⟩ := seal_cols gs
  refine ⟨⟨prt (nth S.seals 0) 0 w.toNat, S.rolls.length, ⟨0, 0, (nth S.seals 0).length⟩, 0, 0⟩, { S with things := S.things ++ [(S.given, (⟨prt (nth S.seals 0) 0 w.toNat, S.rolls.length, ⟨0, 0, (nth S.seals 0).length⟩, 0, 0⟩ : Thing))], given := S.given + 1, rolls := S.rolls ++ [⟨0, 0, (nth S.seals 0).length⟩] }, ?_, ⟨?_, rfl, rfl⟩, ?_, rfl, rfl, rfl, by simp, fun k hk => ?_⟩
  · unfold dRoll
    rw [if_pos ⟨Int.le_refl 0, by omega⟩, if_pos (by simp; omega), if_pos ⟨w1, w2⟩, if_pos hg]
    rfl
  · show lk (S.things ++ [_]) S.given = _
    rw [lk_app, lk_none.mpr G.fresh]
    simp [lk]
  · show ((prt _ _ _).length : Int) = w
    rw [prt_len]
    omega
  · show lk (S.things ++ [_]) k = _
    rw [lk_app]
    have : lk [(S.given, (⟨prt (nth S.seals 0) 0 w.toNat, S.rolls.length, ⟨0, 0, (nth S.seals 0).length⟩, 0, 0⟩ : Thing))] k = none := by
      refine lk_none.mpr ?_
      simp
      exact hk
    rw [this]
    cases lk S.things k <;> rfl
/-- the strip n of w columns lies as it was rolled, and there is room -/
structure Has (S : Sh) (n w : Int) : Prop where
  g : GoodS S
  s : 1 ≤ S.seals.length
  v : S.given ≤ 30
  t : ∃ t, Roll0 S n t ∧ (t.rows.length : Int) = w ∧ t.turn < S.rolls.length
theorem Has.ne {S : Sh} {n w : Int} (h : Has S n w) : n ≠ S.given := by
  obtain ⟨t, r, _⟩ := h.t
  have := (h.g.tb _ (lk_mem r.k)).2
  dsimp only at this
  omega
/-- one workshop more: rolled once more, then both broken -/
theorem one57 {st : Store} {p : PlS} {S : Sh} {os : List Own} {n w c : Int} (hr : Ok_Shop_roll (C "Shop.roll")) (ha : Ok_law_apart (C "_law_apart")) (D : Sep st (ownS p S :: os)) (h : Has S n w) (w1 : 1 ≤ w) (w2 : w ≤ 12) (c1 : 1 ≤ c) (c2 : c < w) (fl : Bool) : ∃ st1 st2, C "Shop.roll" [.loc p.1, .int 0, .int 0, .int w] st = .ok (.int S.given) st1 ∧ C "_law_apart" [.loc p.1, .int n, .int S.given, .int c, .bl fl] st1 = .ok (.bl true) st2 ∧ Sep st2 os ∧ st2.length = st.length := by
  obtain ⟨A, G⟩ := D.gets (List.mem_cons_self ..)
  obtain ⟨t, S', d1, r0, rl, rt, rg, -, rr, rk⟩ := roll_lk G h.s w1 w2 (by have := h.v; omega)
  have r1 := hr.run A G 0 0 w
  have G1 := good_do G (.roll 0 0 w)
  change GoodS (dRoll S 0 0 w).2.2 at G1
  rw [d1] at r1 G1
  obtain ⟨st1, e1, A1, O1⟩ := r1.done
  obtain ⟨t0, q1, q2, q3⟩ := h.t
  have q1' : Roll0 S' n t0 := ⟨by rw [rk n h.ne]; exact q1.k, q1.w, q1.f⟩
  obtain ⟨st2, e2, O2⟩ := ha A1 G1 q1' r0 (by rw [rt]; omega) c1 (by rw [q2]; exact c2) (by rw [rl]; exact c2) (by rw [rg]; have := h.v; omega) fl
  have O := O1.trans O2
  exact ⟨st1, st2, e1, e2, D.lose O.gro (fun i hi => .inl hi), O.len⟩
def Inv57 (h : Int) (n : Nat) (E : Env → Prop) (e : Env) (st : Store) : Prop := ∃ o rest H O, DrawOb o ∧ IsJ O 1 H ∧ H.Good ∧ H.base = sh0 h ∧ H.done.length ≤ n ∧ H.cur.given ≤ n ∧ DSep rest [O, ownW (11, 8, 9, 10) H.cur] ∧ E e ∧ st = o :: rest
/-- the journal alone -/
def J57 (h : Int) (n : Nat) (v : Int) (E : Env → Prop) (e : Env) (st : Store) : Prop := ∃ o rest H O, DrawOb o ∧ IsJ O 1 H ∧ H.Good ∧ H.base = sh0 h ∧ H.done.length ≤ n ∧ H.cur.given ≤ v ∧ 1 ≤ H.cur.seals.length ∧ DSep rest [O] ∧ E e ∧ st = o :: rest
def Wd57 (rA : Store) (mk : Int → Env) (e : Env) (st : Store) : Prop := ∃ w p, 2 ≤ w ∧ w ≤ 12 ∧ DrawOb p ∧ e = mk w ∧ st = p :: rA
def Bk57 (H : Hist) (E : Env → Prop) (e : Env) (st : Store) : Prop := ∃ o rest O x, DrawOb o ∧ IsJ O 1 ⟨H.base, H.done, [x]⟩ ∧ DSep rest [O] ∧ E e ∧ st = o :: rest
theorem j_ins {rest : Store} {O : Own} {H : Hist} {os : List Own} (hJ : IsJ O 1 H) (D : DSep rest (O :: os)) : ∃ fs, rest[0]? = some (.ins "Journal" fs) := by
  obtain ⟨_, _, _, _, q⟩ := isj_ob hJ (D.s (.lst []))
  exact ⟨_, q⟩
/-- a deed that is done -/
theorem j_do {o : Ob} {rest : Store} {O : Own} {H : Hist} {os : List Own} {F : Fn} (hF : Ok_Journal_do F) (hJ : IsJ O 1 H) (D : DSep rest (O :: os)) (hl : H.done.length ≤ 1000) (d : Deed) (w : (doD H.cur d).1 = "") : ∃ rest' O', F [.loc 1, dv d] (o :: rest) = .ok (doD H.cur d).2.1 (o :: rest') ∧ IsJ O' 1 (H.did d) ∧ DSep rest' (O' :: os) := by
  have S1 := (D.toS o).perm (perm_at (i := 1) rfl)
  rcases hF.run hJ S1 hl d with ⟨st', O', _, e, hJ', D', _⟩ | ⟨st', n, e, D', _⟩
  · obtain ⟨r, rfl, D2⟩ := (D'.perm (perm_at (i := 1) rfl)).toD
    exact ⟨r, O', e, hJ', D2⟩
  · exact absurd w n
theorem j_back {o : Ob} {rest : Store} {O : Own} {S : Sh} {dn un : List (Deed × Sh)} {x : Deed × Sh} {os : List Own} {F : Fn} (hF : Ok_Journal_back F) (hJ : IsJ O 1 ⟨S, dn ++ [x], un⟩) (D : DSep rest (O :: os)) (hl : dn.length + un.length ≤ 1000) : ∃ rest' O', F [.loc 1] (o :: rest) = .ok (dv x.1) (o :: rest') ∧ IsJ O' 1 ⟨S, dn, un ++ [x]⟩ ∧ DSep rest' (O' :: os) := by
  have S1 := (D.toS o).perm (perm_at (i := 1) rfl)
  obtain ⟨st', O', e, hJ', D', _⟩ := hF.run hJ S1 hl
  obtain ⟨r, rfl, D2⟩ := (D'.perm (perm_at (i := 1) rfl)).toD
  exact ⟨r, O', e, hJ', D2⟩
theorem law_k57 (ns : List Int) (hl : ns.length ≤ 63) (hop : Ok_law_open (C "_law_open")) (hp : Ok_law_pull (C "_law_pull")) (hJn : Ok_Journal (C "Journal")) (hS : Ok_law_shop (C "_law_shop")) (hd : Ok_law_s_do (C "_law_s_do")) (hse : Ok_law_same_end (C "_law_same_end")) (hde : Ok_law_deed (C "_law_deed")) (hjs : Ok_Journal_shop (C "Journal.shop")) (hjo : Ok_law_journal_do (C "_law_journal_do")) (hjd : Ok_Journal_do (C "Journal.do")) (hjb : Ok_Journal_back (C "Journal.back")) (hsl : Ok_Shop_seal (C "Shop.seal")) (htw : Ok_Shop_twin (C "Shop.twin")) (hro : Ok_Shop_roll (C "Shop.roll")) (hap : Ok_law_apart (C "_law_apart")) :
    ∃ v st, runDf C xs D.d_law_k57 [.scr ns] [] = .ok v st ∧ v = .bl true := by
  refine wp_run rfl ?_
  unfold D.d_law_k57
  have e0 := hop ns [] hl
  obtain ⟨v, o1, h1, a1, b1, e1⟩ := hp _ (draw0 ns) 3 (by omega) (by omega) []
  obtain ⟨h, hh⟩ : ∃ h, h = 1 + v := ⟨_, rfl⟩
  have c1 : 1 ≤ h := by omega
  have c2 : h ≤ 3 := by omega
  have e3 := hJn.good [o1] h c1 c2
  have e4 := hS ([o1] ++ newJ 1 h) h
  obtain ⟨r0, hr0⟩ : ∃ r0 : Store, r0 = newJ 1 h ++ [.lst [], .dK [], .lst [], .dK (mDict h 8 9 0 10)] := ⟨_, rfl⟩
  have W0 : ∃ O, IsJ O 1 (hist0 h) ∧ DSep r0 [O, ownW (11, 8, 9, 10) (sh0 h)] := by
    have S0 : Sep [o1] [ownO 0 o1] := ⟨fun x hx => by
      simp at hx
      subst hx
      rfl, by simp [ownO]⟩
    obtain ⟨O1, hJ1, S1⟩ := S0.newJ c1 c2
    have S3 := S1.add (is := []) (st' := [o1] ++ newJ 1 h ++ [.lst [], .dK [], .lst [], .dK (mDict h 8 9 0 10)]) (o' := ownW (11, 8, 9, 10) (sh0 h)) gro_app (by simp) (fun i hi => by
      simp [ownW] at hi
      simp [newJ]
      omega) (by simp [ownW]) ⟨law0 h ([o1] ++ newJ 1 h), good0 c1 c2⟩
    refine ⟨O1, hJ1, ?_⟩
    obtain ⟨rest, er, Dr⟩ := (S3.perm (perm_at (i := 2) rfl)).toD
    have : r0 = rest := by
      rw [hr0]
      simpa [newJ] using er
    rw [this]
    exact Dr.perm ((perm_at (i := 1) rfl).trans (List.Perm.cons _ ((perm_at (i := 0) rfl).trans (List.Perm.cons _ (List.Perm.refl _)))))
  obtain ⟨O1, hJ1, W1⟩ := W0
  simp [newJ] at e3 e4
  simp [newJ] at hr0
  obtain ⟨v5, o5, h5, a5, b5, e5⟩ := hp o1 h1 16 (by decide) (by decide) r0
  have hr5 := rng_ok (show (0 : Int) ≤ v5 by omega) (by omega)
  rw [wp_cons]
  simp [e0, -wp_cons]
  rw [wp_cons]
  simp [e1, -wp_cons]
  rw [← hh]
  rw [wp_cons]
  simp [e3, -wp_cons]
  rw [wp_cons]
  simp [e4, -wp_cons]
  rw [← hr0]
  rw [wp_cons]
  simp [e5, hr5, -Still, -wp_cons]
  refine wpk_forI (fun i => Inv57 h i fun env => ∃ q5 q16, env = [some (.scr ns), some (.loc 0), some (.int h), some (.loc 1), some (.loc 11), q5, none, none, none, none, none, none, none, none, none, none, q16]) ⟨o5, r0, hist0 h, O1, h5, hJ1, hist0_good c1 c2, rfl, by simp [hist0], by simp [hist0, Hist.cur, Hist.sts, sh0], W1, ⟨_, _, rfl⟩, rfl⟩ ?_ ?_
  · clear W1 hJ1 hr0 e5 e3 e4
    rintro i x hx env st ⟨o, rest, H, O, ho, hJ, G, hb, hlen, hgv, Dr, ⟨q5, q16, rfl⟩, rfl⟩
    have hi : i < 16 := by
      have := (List.getElem?_eq_some_iff.mp hx).1
      rw [len_rangeV] at this
      omega
    refine ⟨_, rfl, ?_⟩
    unfold D.d_law_k57_b0
    have hcur := G.gcur
    obtain ⟨_, _, f2, d, o, ext, ho, hw, rfl, rfl⟩ := hde o ho (fun o => (Dr.get o (o := ownW (11, 8, 9, 10) H.cur) (by simp)).1) hcur
    have S1 := ((Dr.grow ext).toS o).perm (perm_at (i := 1) rfl)
    obtain ⟨st5, O', f5, hJ', S2, -⟩ := hjo hJ S1 (by omega) d
    have S3 := S2.perm (perm_at (i := 2) rfl)
    obtain ⟨st6, f6, A6, F6⟩ := hd.run (S3.p _ (List.mem_cons_self ..)).1 hcur d
    have S4 := S3.law A6 (good_do hcur d) F6
    obtain ⟨r6, rfl, Dr2⟩ := (S4.perm (perm_at (i := 2) rfl)).toD
    have pl := plain_deed hcur d
    have pv : plainV 5 (doD H.cur d).2.1 := by
      cases pl with
      | lst _ h => exact h _ (by simp)
    have f7 := hse (if (doD H.cur d).1 = "" then "" else "refused") (doD H.cur d).1 _ (o :: r6) pv (by
      by_cases c : (doD H.cur d).1 = ""
      · simp [c]
      · simp [c])
    have hgd := given_do H.cur d
    have Dr3 := Dr2.perm ((perm_at (i := 1) rfl).trans (List.Perm.cons _ ((perm_at (i := 0) rfl).trans (List.Perm.cons _ (List.Perm.refl _)))))
    have hfin : Inv57 h (i + 1) (fun env => ∃ q5 q16, env = [some (.scr ns), some (.loc 0), some (.int h), some (.loc 1), some (.loc 11), q5, none, none, none, none, none, none, none, none, none, none, q16]) [some (.scr ns), some (.loc 0), some (.int h), some (.loc 1), some (.loc 11), some x, none, none, none, none, none, none, none, none, none, none, some (dv d)] (o :: r6) := by
      by_cases c : (doD H.cur d).1 = ""
      · rw [if_pos c] at hJ'
        refine ⟨o, r6, H.did d, O', ho, hJ', G.did c, hb, by simp [Hist.did]; omega, by rw [did_cur]; push_cast; omega, ?_, ⟨_, _, rfl⟩, rfl⟩
        rw [did_cur]
        exact Dr3
      · rw [if_neg c] at hJ'
        have hs2 : (doD H.cur d).2.2 = H.cur := by rw [same_of H.cur d c]
        rw [hs2] at Dr3
        exact ⟨o, r6, H, O', ho, hJ', G, hb, by omega, by omega, Dr3, ⟨_, _, rfl⟩, rfl⟩
    generalize dv d = dd at *
    simp [f2, f5, f6, f7]
    exact hfin
  · clear W1 hJ1 hr0 e5 e3 e4
    rintro env st ⟨o, rest, H, O, ho, hJ, G, hb, hlen, hgv, Dr, ⟨q5, q16, rfl⟩, rfl⟩
    rw [len_rangeV] at hlen hgv
    rw [wp_cons]
    refine wpk_seq (J57 h 17 16 fun env => env = [some (.scr ns), some (.loc 0), some (.int h), some (.loc 1), some (.loc 11), q5, none, none, none, none, none, none, none, none, none, none, q16]) ?_ ?_
    · have B := (Dr.get o (o := ownW (11, 8, 9, 10) H.cur) (by simp)).1
      have Bo := B.o
      have Br := B.r
      have Dr1 := (Dr.perm (perm_at (i := 1) rfl)).tail
      obtain ⟨fs, hj0⟩ := j_ins hJ Dr1
      by_cases c : H.cur.seals.length = 0
      · have hcur := G.hcur
        rw [hb] at hcur
        have hcur : H.cur.high = h := hcur
        obtain ⟨s0, hs0, g0, g1⟩ : ∃ s0 : Strip, Val.tup [.str "cut", .tup [.tup ((List.replicate h.toNat (1 : Int)).map .int), .tup ((List.replicate h.toNat (2 : Int)).map .int)]] = dv (.cut s0) ∧ goodSeal s0 = true ∧ (high s0 : Int) = h := by
          refine ⟨[List.replicate h.toNat 1, List.replicate h.toNat 2], rfl, ?_, ?_⟩
          · obtain rfl | rfl | rfl : h = 1 ∨ h = 2 ∨ h = 3 := by omega
            all_goals decide
          · obtain rfl | rfl | rfl : h = 1 ∨ h = 2 ∨ h = 3 := by omega
            all_goals decide
        obtain ⟨w1, w2⟩ := do_cut (S := H.cur) g0 (by rw [g1, hcur]) (by omega)
        obtain ⟨r6, O', f1, hJ', D'⟩ := j_do (o := o) hjd hJ Dr1 (by omega) (.cut s0) w1
        rw [← hs0] at f1
        have hz : H.cur.seals = [] := List.eq_nil_of_length_eq_zero c
        have hrep : ∀ x : Int, (List.replicate h.toNat [Val.int x]).flatten = (List.replicate h.toNat x).map .int := fun x => by
          rw [List.map_replicate]
          generalize h.toNat = k
          induction k with
          | zero => rfl
          | succ k ih => rw [List.replicate_succ, List.flatten_cons, ih, List.replicate_succ]; rfl
        have hgd := given_do H.cur (.cut s0)
        have k1 : (0 : Int) ≤ h := by omega
        have k2 : h ≤ 1000 := by omega
        generalize hr1 : (List.replicate h.toNat (1 : Int)).map Val.int = R1 at *
        generalize hr2 : (List.replicate h.toNat (2 : Int)).map Val.int = R2 at *
        have hr1' := (hrep 1).trans hr1
        have hr2' := (hrep 2).trans hr2
        rw [hz] at Br
        simp [Bo, Br, lk_seals, hj0, k1, k2, hr1', hr2', f1, PySem.sizeLine]
        refine ⟨o, r6, H.did (.cut s0), O', ho, hJ', G.did w1, hb, by simp [Hist.did]; omega, by rw [did_cur]; omega, ?_, D', rfl, rfl⟩
        rw [did_cur, w2]
        simp
      · simp [Bo, Br, lk_seals, c]
        exact ⟨o, rest, H, O, ho, hJ, G, hb, by omega, by omega, by omega, Dr1, rfl, rfl⟩
    clear Dr hJ ho G hb hlen hgv
    rintro _ _ ⟨o, rest, H, O, ho, hJ, G, hb, hlen, hgv, hsl1, Dr, rfl, rfl⟩
    obtain ⟨fs, hj0⟩ := j_ins hJ Dr
    obtain ⟨gc, f1⟩ := hjs hJ (Dr.s o)
    have A1 := twin_at (st := o :: rest) (S := H.cur)
    have f2 := hsl.good A1 0 (by omega)
    obtain ⟨fs1, hins1⟩ : ∃ fs, ((o :: rest) ++ twinL (o :: rest).length H.cur)[(o :: rest).length]? = some (.ins "Shop" fs) := ⟨_, A1.o⟩
    obtain ⟨gs, _⟩ := gc.sg _ (nth_mem (k := 0) (s := H.cur.seals) (by omega))
    obtain ⟨sl1, sl2, _⟩ := seal_cols gs
    have Dr1 := Dr.grow (twinL (o :: rest).length H.cur)
    rw [List.cons_append] at f1 f2 hins1
    generalize hln : (o :: rest).length = ln at *
    generalize hrA : rest ++ twinL ln H.cur = rA at *
    generalize hsz : nth H.cur.seals 0 = s0 at *
    have es : sv s0 = .tup (s0.map cv) := rfl
    rw [es] at f2
    have f2 : C "Shop.seal" [.loc ln, .int 0] (o :: rA) = .ok (.tup (s0.map cv)) (o :: rA) := f2
    rw [wp_cons]
    simp [hj0, f1, hins1, f2, -wp_cons]
    rw [wp_cons]
    refine wpk_seq (Wd57 rA fun w => [some (.scr ns), some (.loc 0), some (.int h), some (.loc 1), some (.loc 11), q5, some (.int s0.length), some (.int w), none, none, none, none, none, none, none, none, q16]) ?_ ?_
    · by_cases k1 : (1 : Int) < s0.length
      · obtain ⟨v1, p1, g1, _, _, f3⟩ := hp o ho 2 (by decide) (by decide) rA
        by_cases k2 : v1 = 0
        · simp [k1, f3, k2]
          exact ⟨_, p1, by omega, by omega, g1, rfl, rfl⟩
        · obtain ⟨v2, p2, g2, _, _, f4⟩ := hp p1 g1 11 (by decide) (by decide) rA
          simp [k1, f3, k2, f4]
          exact ⟨_, p2, by omega, by omega, g2, rfl, rfl⟩
      · obtain ⟨v2, p2, g2, _, _, f4⟩ := hp o ho 11 (by decide) (by decide) rA
        simp [k1, f4]
        exact ⟨_, p2, by omega, by omega, g2, rfl, rfl⟩
    clear ho
    rintro _ _ ⟨w, o, w2, w12, ho, rfl, rfl⟩
    have hat3 : ∀ a b c d : Val, L2.atI [a, b, c, d] 3 = some d := fun _ _ _ _ => rfl
    obtain ⟨v9, o9, h9, a9, b9, e9⟩ := hp o ho (w - 1) (by omega) (by omega) rA
    obtain ⟨at_, hat⟩ : ∃ c, c = 1 + v9 := ⟨_, rfl⟩
    obtain ⟨t, S', d1, r0, rl, rt, rg, rs, rr, rk⟩ := roll_lk gc hsl1 (w := w) (by omega) (by omega) (by omega)
    have dd : doD H.cur (.roll 0 0 w) = ((("" : Str), Val.int H.cur.given, S') : Out) := d1
    obtain ⟨r6, O6, f6, hJ6, D6⟩ := j_do (o := o9) hjd hJ Dr1 (by omega) (.roll 0 0 w) (by rw [dd])
    have hcur6 := did_cur H (.roll 0 0 w)
    have G6 := G.did (d := .roll 0 0 w) (by rw [dd])
    rw [dd] at f6 hcur6
    obtain ⟨H6, hH6⟩ : ∃ H6, H6 = H.did (.roll 0 0 w) := ⟨_, rfl⟩
    have hl6 : H6.done.length ≤ 18 := by rw [hH6]; simp [Hist.did]; omega
    rw [← hH6] at hJ6 hcur6 G6
    have hu6 : H6.und = [] := by rw [hH6]; rfl
    have f6 : C "Journal.do" [.loc 1, .tup [.str "roll", .int 0, .int 0, .int w]] (o9 :: rA) = .ok (.int H.cur.given) (o9 :: r6) := f6
    obtain ⟨g0, hg0⟩ : ∃ g, g = H.cur.given := ⟨_, rfl⟩
    rw [← hg0] at f6 r0 rg
    have gS' : GoodS S' := by
      have := G6.gcur
      rw [hcur6] at this
      exact this
    have hHas : Has S' g0 w := ⟨gS', by rw [rs]; exact hsl1, by omega, t, r0, rl, by omega⟩
    obtain ⟨fsA, hjA⟩ := j_ins hJ Dr1
    obtain ⟨v11, o11, h11, a11, b11, e11⟩ := hp o9 h9 2 (by decide) (by decide) r6
    obtain ⟨v12, o12, h12, a12, b12, e12⟩ := hp o11 h11 2 (by decide) (by decide) r6
    obtain ⟨fs6, hj6⟩ := j_ins hJ6 D6
    rw [wp_cons]
    simp [PySem.sizeLine, -wp_cons]
    rw [wp_cons]
    simp [hat3, e9, -wp_cons]
    rw [← hat]
    rw [wp_cons]
    simp [hjA, f6, -wp_cons]
    rw [wp_cons]
    simp [e11, -wp_cons]
    rw [wp_cons]
    refine wpk_seq (Bk57 H6 fun env => env = [some (.scr ns), some (.loc 0), some (.int h), some (.loc 1), some (.loc 11), q5, some (.int s0.length), some (.int w), some (.tup [.str "roll", .int 0, .int 0, .int w]), some (.int at_), some (.int g0), some (.bl (decide (v11 = 0))), none, none, none, none, q16]) ?_ ?_
    · by_cases k1 : v12 = 0
      · obtain ⟨t2, S2, d2, -, -, -, -, -, -, -⟩ := roll_lk gS' hHas.s (w := w) (by omega) (by omega) (by omega)
        have dd2 : doD H6.cur (.roll 0 0 w) = ((("" : Str), Val.int S'.given, S2) : Out) := by rw [hcur6]; exact d2
        obtain ⟨r7, O7, f7, hJ7, D7⟩ := j_do (o := o12) hjd hJ6 D6 (by omega) (.roll 0 0 w) (by rw [dd2])
        obtain ⟨fs7, hj7⟩ := j_ins hJ7 D7
        obtain ⟨r8, O8, f8, hJ8, D8⟩ := j_back (o := o12) (S := H6.base) (dn := H6.done) (un := []) hjb hJ7 D7 (by simp; omega)
        rw [dd2] at f7
        have f7 : C "Journal.do" [.loc 1, .tup [.str "roll", .int 0, .int 0, .int w]] (o12 :: r6) = .ok (.int S'.given) (o12 :: r7) := f7
        simp [e12, k1, hj6, f7, hj7, f8]
        exact ⟨o12, r8, O8, _, h12, hJ8, D8, rfl, rfl⟩
      · obtain ⟨th2, d2, -⟩ := turn_lk (S := S') r0.k
        have dd2 : doD H6.cur (.turn g0) = ((("" : Str), Val.non, { S' with things := th2 }) : Out) := by rw [hcur6]; exact d2
        obtain ⟨r7, O7, f7, hJ7, D7⟩ := j_do (o := o12) hjd hJ6 D6 (by omega) (.turn g0) (by rw [dd2])
        obtain ⟨fs7, hj7⟩ := j_ins hJ7 D7
        obtain ⟨r8, O8, f8, hJ8, D8⟩ := j_back (o := o12) (S := H6.base) (dn := H6.done) (un := []) hjb hJ7 D7 (by simp; omega)
        rw [dd2] at f7
        have f7 : C "Journal.do" [.loc 1, .tup [.str "turn", .int g0]] (o12 :: r6) = .ok .non (o12 :: r7) := f7
        simp [e12, k1, hj6, f7, hj7, f8, PySem.sizeLine]
        exact ⟨o12, r8, O8, _, h12, hJ8, D8, rfl, rfl⟩
    obtain ⟨fl, hfl⟩ : ∃ fl : Bool, fl = decide (v11 = 0) := ⟨_, rfl⟩
    rw [← hfl]
    clear hJ6 D6 hj6 hjA f6 e9 e11 e12 h12 h11 h9 ho Dr1 hJ hj0 f1 f2 hins1 A1 Dr hH6 dd d1 G hb hlen hgv gc
    rintro _ _ ⟨o, rest, O, x, ho, hJ, Dr, rfl, rfl⟩
    obtain ⟨H7, hH7⟩ : ∃ H7 : Hist, H7 = ⟨H6.base, H6.done, [x]⟩ := ⟨_, rfl⟩
    have hcur7 : H7.cur = S' := by rw [hH7]; exact hcur6
    have hl7 : H7.done.length ≤ 18 := by rw [hH7]; exact hl6
    rw [← hH7] at hJ
    have S1 := Dr.s o
    generalize o :: rest = st at S1 ⊢
    clear Dr ho hH7 hcur6 hl6 hu6 G6
    obtain ⟨_, _, _, _, hj1⟩ := isj_ob hJ S1
    unfold jrOb at hj1
    obtain ⟨-, f1⟩ := hjs hJ S1
    rw [hcur7] at f1
    have S2 := S1.twin gS'
    generalize hs1 : st ++ twinL st.length S' = st1 at f1 S2
    generalize hp1 : ((st.length, st.length + 3, st.length + 4) : PlS) = p1 at S2
    have hp1' : st.length = p1.1 := by rw [← hp1]
    rw [hp1'] at f1
    obtain ⟨A1, _⟩ := S2.gets (p := p1) (S := S') (by simp)
    have i1 := A1.o
    unfold shopOb at i1
    have f2 := htw A1 gS'
    have S3 := S2.twin gS'
    generalize hs2 : st1 ++ twinL st1.length S' = st2 at f2 S3
    generalize hp2 : ((st1.length, st1.length + 3, st1.length + 4) : PlS) = p2 at S3
    have hp2' : st1.length = p2.1 := by rw [← hp2]
    rw [hp2'] at f2
    have S4 := S3.newl [.loc p1.1, .loc p2.1]
    generalize hx : st2.length = x2 at S4
    have hs3' : (st2 ++ [Ob.lst [.loc p1.1, .loc p2.1]]).length = x2 + 1 := by simp [hx]
    generalize hs3 : st2 ++ [Ob.lst [.loc p1.1, .loc p2.1]] = st3 at S4 hs3'
    obtain ⟨A2, _⟩ := S4.gets (p := p2) (S := S') (by simp)
    have i2 := A2.o
    unfold shopOb at i2
    have m3 := S4.getl (l := x2) (vs := [.loc p1.1, .loc p2.1]) (by simp)
    have f3 := htw A2 gS'
    have S5 := S4.twin gS'
    generalize hs4 : st3 ++ twinL st3.length S' = st4 at f3 S5
    generalize hp3 : ((st3.length, st3.length + 3, st3.length + 4) : PlS) = p3 at S5
    have hp3' : st3.length = p3.1 := by rw [← hp3]
    rw [hp3'] at f3
    have m4 := S5.getl (l := x2) (vs := [.loc p1.1, .loc p2.1]) (by simp)
    have w4 := wr_append (y := .loc p3.1) m4 (by simp [PySem.sizeLine])
    have S6 := (S5.perm (perm_at (i := 1) rfl)).setl ([.loc p1.1, .loc p2.1] ++ [.loc p3.1])
    generalize hs5 : st4.set x2 (.lst ([.loc p1.1, .loc p2.1] ++ [.loc p3.1])) = st5 at w4 S6
    have hat1 : ∀ x y : Val, L2.atI [x, y] 1 = some y := fun _ _ => rfl
    have m5 : st5[x2]? = some (.lst [.loc p1.1, .loc p2.1, .loc p3.1]) := S6.getl (by simp)
    have wv : (1 : Int) ≤ w := by omega
    obtain ⟨st5a, st6, j1, k1, S7, -⟩ := one57 (p := p1) (n := g0) (w := w) (c := at_) hro hap (S6.perm (perm_at (i := 3) rfl)) hHas wv w12 (by omega) (by omega) fl
    have m6 : st6[x2]? = some (.lst [.loc p1.1, .loc p2.1, .loc p3.1]) := S7.getl (by simp [List.eraseIdx])
    obtain ⟨B1, _⟩ := S6.gets (p := p1) (S := S') (by simp [List.eraseIdx])
    obtain ⟨st6a, st7, j2, k2, S8, -⟩ := one57 (p := p2) (n := g0) (w := w) (c := at_) hro hap (S7.perm (perm_at (i := 2) rfl)) hHas wv w12 (by omega) (by omega) fl
    have m7 : st7[x2]? = some (.lst [.loc p1.1, .loc p2.1, .loc p3.1]) := S8.getl (by simp [List.eraseIdx])
    obtain ⟨B2, _⟩ := S7.gets (p := p2) (S := S') (by simp [List.eraseIdx])
    obtain ⟨st7a, st8, j3, k3, S9, -⟩ := one57 (p := p3) (n := g0) (w := w) (c := at_) hro hap (S8.perm (perm_at (i := 1) rfl)) hHas wv w12 (by omega) (by omega) fl
    have m8 : st8[x2]? = some (.lst [.loc p1.1, .loc p2.1, .loc p3.1]) := S9.getl (by simp [List.eraseIdx])
    obtain ⟨B3, _⟩ := S8.gets (p := p3) (S := S') (by simp [List.eraseIdx])
    have q1 := B1.o
    have q2 := B2.o
    have q3 := B3.o
    unfold shopOb at q1 q2 q3
    rw [wp_cons]
    simp [hj1, f1, -wp_cons]
    rw [wp_cons]
    simp [i1, f2, hs3, hx, PySem.sizeLine, -wp_cons]
    rw [wp_cons]
    simp [m3, hat1, i2, f3, m4, w4, -wp_cons]
    rw [wp_cons]
    simp [items_loc m5, -Still, -wp_cons]
    refine wpk_forUS m5 rfl ?_
    unfold D.d_law_k57_b1
    simp [hat3, q1, j1, k1, -Still]
    refine wpk_forUS m6 rfl ?_
    simp [hat3, q2, j2, k2, -Still]
    refine wpk_forUS m7 rfl ?_
    simp [hat3, q3, j3, k3, -Still]
    refine wpk_forNS m8 ?_
    have hv := hHas.v
    obtain ⟨t2, S2, d2, r2, rl2, rt2, rg2, rs2, rr2, rk2⟩ := roll_lk gS' hHas.s (w := w) (by omega) (by omega) (by omega)
    have dd2 : doD H7.cur (.roll 0 0 w) = ((("" : Str), Val.int S'.given, S2) : Out) := by rw [hcur7]; exact d2
    have S10 := (S9.perm (perm_at (i := 1) rfl))
    obtain ⟨_, _, _, _, hj8⟩ := isj_ob hJ S10
    unfold jrOb at hj8
    have hcur9 := did_cur H7 (.roll 0 0 w)
    rw [dd2] at hcur9
    rcases hjd.run hJ S10 (by omega) (.roll 0 0 w) with ⟨st9, O9, _, e9', hJ9, S11, _⟩ | ⟨st9, n, _, _, _⟩
    · rw [dd2] at e9'
      have e9' : C "Journal.do" [.loc 1, .tup [.str "roll", .int 0, .int 0, .int w]] st8 = .ok (.int S'.given) st9 := e9'
      obtain ⟨_, _, _, _, hj9⟩ := isj_ob hJ9 S11
      unfold jrOb at hj9
      obtain ⟨gc9, f9⟩ := hjs hJ9 S11
      rw [hcur9] at gc9 f9
      have A9 := twin_at (st := st9) (S := S2)
      have r0' : Roll0 S2 g0 t := ⟨by rw [rk2 g0 hHas.ne]; exact r0.k, r0.w, r0.f⟩
      obtain ⟨st10, f10, -⟩ := hap A9 gc9 r0' r2 (by rw [rt2]; omega) (c := at_) (by omega) (by rw [rl]; omega) (by rw [rl2]; omega) (by omega) fl
      simp [hj8, e9', hj9, f9, f10]
    · exact absurd (by rw [dd2]) n
end P
namespace L_k57
open PySem L2 Rc P
def defs : List (Str × Df) := [(("good_cell" : Str), D.d_good_cell), (("good_strip" : Str), D.d_good_strip), (("need_strip" : Str), D.d_need_strip), (("about" : Str), D.d_about), (("parts" : Str), D.d_parts), (("good_seal" : Str), D.d_good_seal), (("print_of" : Str), D.d_print_of), (("need_height" : Str), D.d_need_height), (("need_cell" : Str), D.d_need_cell), (("with_cell" : Str), D.d_with_cell), (("look_deed" : Str), D.d_look_deed), (("done_in" : Str), D.d_done_in), (("_law_open" : Str), D.d_law_open), (("_law_pull" : Str), D.d_law_pull), (("_law_far" : Str), D.d_law_far), (("_law_near" : Str), D.d_law_near), (("_law_num" : Str), D.d_law_num), (("_law_like" : Str), D.d_law_like), (("_law_number_of" : Str), D.d_law_number_of), (("_law_turned" : Str), D.d_law_turned), (("_law_strip_ok" : Str), D.d_law_strip_ok), (("_law_seal_ok" : Str), D.d_law_seal_ok), (("_law_seal" : Str), D.d_law_seal), (("_law_print" : Str), D.d_law_print), (("_law_changed" : Str), D.d_law_changed), (("_law_shop" : Str), D.d_law_shop), (("_law_s_copy" : Str), D.d_law_s_copy), (("_law_s_cells" : Str), D.d_law_s_cells), (("_law_s_cut" : Str), D.d_law_s_cut), (("_law_s_chip" : Str), D.d_law_s_chip), (("_law_s_roll" : Str), D.d_law_s_roll), (("_law_s_turn" : Str), D.d_law_s_turn), (("_law_s_wear" : Str), D.d_law_s_wear), (("_law_s_snap" : Str), D.d_law_s_snap), (("_law_s_join" : Str), D.d_law_s_join), (("_law_s_do" : Str), D.d_law_s_do), (("_law_same_end" : Str), D.d_law_same_end), (("_law_two_pieces" : Str), D.d_law_two_pieces), (("_law_deed" : Str), D.d_law_deed), (("_law_journal_do" : Str), D.d_law_journal_do), (("_law_odd_columns" : Str), D.d_law_odd_columns), (("_law_no_pieces" : Str), D.d_law_no_pieces), (("_law_apart" : Str), D.d_law_apart), (("law" : Str), D.d_law_k57), (("Shop.__init__" : Str), D.d_Shop___init__), (("Shop.need_seal" : Str), D.d_Shop_need_seal), (("Shop.need_strip" : Str), D.d_Shop_need_strip), (("Shop.add" : Str), D.d_Shop_add), (("Shop.cut" : Str), D.d_Shop_cut), (("Shop.chip" : Str), D.d_Shop_chip), (("Shop.roll" : Str), D.d_Shop_roll), (("Shop.turn" : Str), D.d_Shop_turn), (("Shop.wear" : Str), D.d_Shop_wear), (("Shop.snap" : Str), D.d_Shop_snap), (("Shop.join" : Str), D.d_Shop_join), (("Shop.lose" : Str), D.d_Shop_lose), (("Shop.seal" : Str), D.d_Shop_seal), (("Shop.strip" : Str), D.d_Shop_strip), (("Shop.twin" : Str), D.d_Shop_twin), (("Journal.__init__" : Str), D.d_Journal___init__), (("Journal.done_now" : Str), D.d_Journal_done_now), (("Journal.do" : Str), D.d_Journal_do), (("Journal.back" : Str), D.d_Journal_back), (("Journal.shop" : Str), D.d_Journal_shop)]
def ex : List Str := [("ClayError" : Str), ("BadStrip" : Str), ("BadSeal" : Str), ("BadStart" : Str), ("BadWidth" : Str), ("BadHeight" : Str), ("SameOne" : Str), ("Full" : Str), ("NoSeal" : Str), ("NoCell" : Str), ("Bare" : Str), ("NoStrip" : Str), ("Lost" : Str), ("NotPieces" : Str), ("BadDeed" : Str), ("Nothing" : Str)]
def ini : List (Str × Str) := [(("Journal" : Str), ("Journal.__init__" : Str)), (("Shop" : Str), ("Shop.__init__" : Str))]
theorem g__law_open__Ok_law_open (n : Nat) : Ok_law_open (callF defs ini ex (n + 1) "_law_open") := by
  have e := callF_at (defs := defs) (ini := ini) (xs := ex) (n := n + 0) (f := "_law_open") (d := D.d_law_open) (by kernel_rfl) (by kernel_rfl)
  show Ok_law_open (callF defs ini ex (n + 0 + 1) "_law_open")
  rw [e]
  exact d_law_open_ok 
theorem g__law_pull__Ok_law_pull (n : Nat) : Ok_law_pull (callF defs ini ex (n + 1) "_law_pull") := by
  have e := callF_at (defs := defs) (ini := ini) (xs := ex) (n := n + 0) (f := "_law_pull") (d := D.d_law_pull) (by kernel_rfl) (by kernel_rfl)
  show Ok_law_pull (callF defs ini ex (n + 0 + 1) "_law_pull")
  rw [e]
  exact d_law_pull_ok 
theorem g_need_height__Ok_need_height (n : Nat) : Ok_need_height (callF defs ini ex (n + 1) "need_height") := by
  have e := callF_at (defs := defs) (ini := ini) (xs := ex) (n := n + 0) (f := "need_height") (d := D.d_need_height) (by kernel_rfl) (by kernel_rfl)
  show Ok_need_height (callF defs ini ex (n + 0 + 1) "need_height")
  rw [e]
  exact d_need_height_ok 
theorem g_Shop___init____Ok_Shop_init (n : Nat) : Ok_Shop_init (callF defs ini ex (n + 2) "Shop.__init__") := by
  have e := callF_at (defs := defs) (ini := ini) (xs := ex) (n := n + 1) (f := "Shop.__init__") (d := D.d_Shop___init__) (by kernel_rfl) (by kernel_rfl)
  show Ok_Shop_init (callF defs ini ex (n + 1 + 1) "Shop.__init__")
  rw [e]
  exact d_Shop___init___ok (g_need_height__Ok_need_height (n + 0))
theorem g_Shop__Ok_Shop (n : Nat) : Ok_Shop (callF defs ini ex (n + 3) "Shop") := by
  have e := callF_new (defs := defs) (ini := ini) (xs := ex) (n := n + 2) (c := "Shop") (f := "Shop.__init__") (by kernel_rfl)
  show Ok_Shop (callF defs ini ex (n + 2 + 1) "Shop")
  rw [e]
  exact new_Shop_ok (g_Shop___init____Ok_Shop_init (n + 0))
theorem g_Journal___init____Ok_Journal_init (n : Nat) : Ok_Journal_init (callF defs ini ex (n + 4) "Journal.__init__") := by
  have e := callF_at (defs := defs) (ini := ini) (xs := ex) (n := n + 3) (f := "Journal.__init__") (d := D.d_Journal___init__) (by kernel_rfl) (by kernel_rfl)
  show Ok_Journal_init (callF defs ini ex (n + 3 + 1) "Journal.__init__")
  rw [e]
  exact d_Journal___init___ok (g_Shop__Ok_Shop (n + 0))
theorem g_Journal__Ok_Journal (n : Nat) : Ok_Journal (callF defs ini ex (n + 5) "Journal") := by
  have e := callF_new (defs := defs) (ini := ini) (xs := ex) (n := n + 4) (c := "Journal") (f := "Journal.__init__") (by kernel_rfl)
  show Ok_Journal (callF defs ini ex (n + 4 + 1) "Journal")
  rw [e]
  exact new_Journal_ok (g_Journal___init____Ok_Journal_init (n + 0))
theorem g__law_shop__Ok_law_shop (n : Nat) : Ok_law_shop (callF defs ini ex (n + 1) "_law_shop") := by
  have e := callF_at (defs := defs) (ini := ini) (xs := ex) (n := n + 0) (f := "_law_shop") (d := D.d_law_shop) (by kernel_rfl) (by kernel_rfl)
  show Ok_law_shop (callF defs ini ex (n + 0 + 1) "_law_shop")
  rw [e]
  exact d_law_shop_ok 
theorem g__law_strip_ok__Ok_law_strip_ok (n : Nat) : Ok_law_strip_ok (callF defs ini ex (n + 1) "_law_strip_ok") := by
  have e := callF_at (defs := defs) (ini := ini) (xs := ex) (n := n + 0) (f := "_law_strip_ok") (d := D.d_law_strip_ok) (by kernel_rfl) (by kernel_rfl)
  show Ok_law_strip_ok (callF defs ini ex (n + 0 + 1) "_law_strip_ok")
  rw [e]
  exact d_law_strip_ok_ok 
theorem g__law_seal_ok__Ok_law_seal_ok (n : Nat) : Ok_law_seal_ok (callF defs ini ex (n + 2) "_law_seal_ok") := by
  have e := callF_at (defs := defs) (ini := ini) (xs := ex) (n := n + 1) (f := "_law_seal_ok") (d := D.d_law_seal_ok) (by kernel_rfl) (by kernel_rfl)
  show Ok_law_seal_ok (callF defs ini ex (n + 1 + 1) "_law_seal_ok")
  rw [e]
  exact d_law_seal_ok_ok (g__law_strip_ok__Ok_law_strip_ok (n + 0))
theorem g__law_s_cut__Ok_law_s_cut (n : Nat) : Ok_law_s_cut (callF defs ini ex (n + 3) "_law_s_cut") := by
  have e := callF_at (defs := defs) (ini := ini) (xs := ex) (n := n + 2) (f := "_law_s_cut") (d := D.d_law_s_cut) (by kernel_rfl) (by kernel_rfl)
  show Ok_law_s_cut (callF defs ini ex (n + 2 + 1) "_law_s_cut")
  rw [e]
  exact d_law_s_cut_ok (g__law_seal_ok__Ok_law_seal_ok (n + 0))
theorem g__law_changed__Ok_law_changed (n : Nat) : Ok_law_changed (callF defs ini ex (n + 1) "_law_changed") := by
  have e := callF_at (defs := defs) (ini := ini) (xs := ex) (n := n + 0) (f := "_law_changed") (d := D.d_law_changed) (by kernel_rfl) (by kernel_rfl)
  show Ok_law_changed (callF defs ini ex (n + 0 + 1) "_law_changed")
  rw [e]
  exact d_law_changed_ok 
theorem g__law_s_chip__Ok_law_s_chip (n : Nat) : Ok_law_s_chip (callF defs ini ex (n + 2) "_law_s_chip") := by
  have e := callF_at (defs := defs) (ini := ini) (xs := ex) (n := n + 1) (f := "_law_s_chip") (d := D.d_law_s_chip) (by kernel_rfl) (by kernel_rfl)
  show Ok_law_s_chip (callF defs ini ex (n + 1 + 1) "_law_s_chip")
  rw [e]
  exact d_law_s_chip_ok (g__law_changed__Ok_law_changed (n + 0))
theorem g__law_print__Ok_law_print (n : Nat) : Ok_law_print (callF defs ini ex (n + 1) "_law_print") := by
  have e := callF_at (defs := defs) (ini := ini) (xs := ex) (n := n + 0) (f := "_law_print") (d := D.d_law_print) (by kernel_rfl) (by kernel_rfl)
  show Ok_law_print (callF defs ini ex (n + 0 + 1) "_law_print")
  rw [e]
  exact d_law_print_ok 
theorem g__law_s_roll__Ok_law_s_roll (n : Nat) : Ok_law_s_roll (callF defs ini ex (n + 2) "_law_s_roll") := by
  have e := callF_at (defs := defs) (ini := ini) (xs := ex) (n := n + 1) (f := "_law_s_roll") (d := D.d_law_s_roll) (by kernel_rfl) (by kernel_rfl)
  show Ok_law_s_roll (callF defs ini ex (n + 1 + 1) "_law_s_roll")
  rw [e]
  exact d_law_s_roll_ok (g__law_print__Ok_law_print (n + 0))
theorem g__law_s_turn__Ok_law_s_turn (n : Nat) : Ok_law_s_turn (callF defs ini ex (n + 1) "_law_s_turn") := by
  have e := callF_at (defs := defs) (ini := ini) (xs := ex) (n := n + 0) (f := "_law_s_turn") (d := D.d_law_s_turn) (by kernel_rfl) (by kernel_rfl)
  show Ok_law_s_turn (callF defs ini ex (n + 0 + 1) "_law_s_turn")
  rw [e]
  exact d_law_s_turn_ok 
theorem g__law_s_wear__Ok_law_s_wear (n : Nat) : Ok_law_s_wear (callF defs ini ex (n + 1) "_law_s_wear") := by
  have e := callF_at (defs := defs) (ini := ini) (xs := ex) (n := n + 0) (f := "_law_s_wear") (d := D.d_law_s_wear) (by kernel_rfl) (by kernel_rfl)
  show Ok_law_s_wear (callF defs ini ex (n + 0 + 1) "_law_s_wear")
  rw [e]
  exact d_law_s_wear_ok 
theorem g__law_s_snap__Ok_law_s_snap (n : Nat) : Ok_law_s_snap (callF defs ini ex (n + 1) "_law_s_snap") := by
  have e := callF_at (defs := defs) (ini := ini) (xs := ex) (n := n + 0) (f := "_law_s_snap") (d := D.d_law_s_snap) (by kernel_rfl) (by kernel_rfl)
  show Ok_law_s_snap (callF defs ini ex (n + 0 + 1) "_law_s_snap")
  rw [e]
  exact d_law_s_snap_ok 
theorem g__law_s_join__Ok_law_s_join (n : Nat) : Ok_law_s_join (callF defs ini ex (n + 1) "_law_s_join") := by
  have e := callF_at (defs := defs) (ini := ini) (xs := ex) (n := n + 0) (f := "_law_s_join") (d := D.d_law_s_join) (by kernel_rfl) (by kernel_rfl)
  show Ok_law_s_join (callF defs ini ex (n + 0 + 1) "_law_s_join")
  rw [e]
  exact d_law_s_join_ok 
theorem g__law_s_cells__Ok_law_s_cells (n : Nat) : Ok_law_s_cells (callF defs ini ex (n + 1) "_law_s_cells") := by
  have e := callF_at (defs := defs) (ini := ini) (xs := ex) (n := n + 0) (f := "_law_s_cells") (d := D.d_law_s_cells) (by kernel_rfl) (by kernel_rfl)
  show Ok_law_s_cells (callF defs ini ex (n + 0 + 1) "_law_s_cells")
  rw [e]
  exact d_law_s_cells_ok 
theorem g__law_s_do__Ok_law_s_do (n : Nat) : Ok_law_s_do (callF defs ini ex (n + 4) "_law_s_do") := by
  have e := callF_at (defs := defs) (ini := ini) (xs := ex) (n := n + 3) (f := "_law_s_do") (d := D.d_law_s_do) (by kernel_rfl) (by kernel_rfl)
  show Ok_law_s_do (callF defs ini ex (n + 3 + 1) "_law_s_do")
  rw [e]
  exact d_law_s_do_ok (g__law_s_cut__Ok_law_s_cut (n + 0)) (g__law_s_chip__Ok_law_s_chip (n + 1)) (g__law_s_roll__Ok_law_s_roll (n + 1)) (g__law_s_turn__Ok_law_s_turn (n + 2)) (g__law_s_wear__Ok_law_s_wear (n + 2)) (g__law_s_snap__Ok_law_s_snap (n + 2)) (g__law_s_join__Ok_law_s_join (n + 2)) (g__law_s_cells__Ok_law_s_cells (n + 2))
theorem g__law_num__Ok_law_num (n : Nat) : Ok_law_num (callF defs ini ex (n + 1) "_law_num") := by
  have e := callF_at (defs := defs) (ini := ini) (xs := ex) (n := n + 0) (f := "_law_num") (d := D.d_law_num) (by kernel_rfl) (by kernel_rfl)
  show Ok_law_num (callF defs ini ex (n + 0 + 1) "_law_num")
  rw [e]
  exact d_law_num_ok 
theorem g__law_like__Ok_law_like (n : Nat) : Ok_law_like (callF defs ini ex (n + 7) "_law_like") := like_rec (by kernel_rfl) (by kernel_rfl) g__law_num__Ok_law_num 5 n
theorem g__law_same_end__Ok_law_same_end (n : Nat) : Ok_law_same_end (callF defs ini ex (n + 8) "_law_same_end") := by
  have e := callF_at (defs := defs) (ini := ini) (xs := ex) (n := n + 7) (f := "_law_same_end") (d := D.d_law_same_end) (by kernel_rfl) (by kernel_rfl)
  show Ok_law_same_end (callF defs ini ex (n + 7 + 1) "_law_same_end")
  rw [e]
  exact d_law_same_end_ok (g__law_like__Ok_law_like (n + 0))
theorem g__law_far__Ok_law_far (n : Nat) : Ok_law_far (callF defs ini ex (n + 2) "_law_far") := by
  have e := callF_at (defs := defs) (ini := ini) (xs := ex) (n := n + 1) (f := "_law_far") (d := D.d_law_far) (by kernel_rfl) (by kernel_rfl)
  show Ok_law_far (callF defs ini ex (n + 1 + 1) "_law_far")
  rw [e]
  exact d_law_far_ok (g__law_pull__Ok_law_pull (n + 0))
theorem g__law_near__Ok_law_near (n : Nat) : Ok_law_near (callF defs ini ex (n + 3) "_law_near") := by
  have e := callF_at (defs := defs) (ini := ini) (xs := ex) (n := n + 2) (f := "_law_near") (d := D.d_law_near) (by kernel_rfl) (by kernel_rfl)
  show Ok_law_near (callF defs ini ex (n + 2 + 1) "_law_near")
  rw [e]
  exact d_law_near_ok (g__law_pull__Ok_law_pull (n + 1)) (g__law_far__Ok_law_far (n + 0))
theorem g__law_seal__Ok_law_seal (n : Nat) : Ok_law_seal (callF defs ini ex (n + 2) "_law_seal") := by
  have e := callF_at (defs := defs) (ini := ini) (xs := ex) (n := n + 1) (f := "_law_seal") (d := D.d_law_seal) (by kernel_rfl) (by kernel_rfl)
  show Ok_law_seal (callF defs ini ex (n + 1 + 1) "_law_seal")
  rw [e]
  exact d_law_sealX_ok (g__law_pull__Ok_law_pull (n + 0))
theorem g__law_odd_columns__Ok_law_odd_columns (n : Nat) : Ok_law_odd_columns (callF defs ini ex (n + 2) "_law_odd_columns") := by
  have e := callF_at (defs := defs) (ini := ini) (xs := ex) (n := n + 1) (f := "_law_odd_columns") (d := D.d_law_odd_columns) (by kernel_rfl) (by kernel_rfl)
  show Ok_law_odd_columns (callF defs ini ex (n + 1 + 1) "_law_odd_columns")
  rw [e]
  exact d_law_odd_columns_ok (g__law_pull__Ok_law_pull (n + 0))
theorem g__law_number_of__Ok_law_number_of (n : Nat) : Ok_law_number_of (callF defs ini ex (n + 4) "_law_number_of") := by
  have e := callF_at (defs := defs) (ini := ini) (xs := ex) (n := n + 3) (f := "_law_number_of") (d := D.d_law_number_of) (by kernel_rfl) (by kernel_rfl)
  show Ok_law_number_of (callF defs ini ex (n + 3 + 1) "_law_number_of")
  rw [e]
  exact d_law_number_of_ok (g__law_pull__Ok_law_pull (n + 2)) (g__law_near__Ok_law_near (n + 0))
theorem g__law_s_copy__Ok_law_s_copy (n : Nat) : Ok_law_s_copy (callF defs ini ex (n + 1) "_law_s_copy") := by
  have e := callF_at (defs := defs) (ini := ini) (xs := ex) (n := n + 0) (f := "_law_s_copy") (d := D.d_law_s_copy) (by kernel_rfl) (by kernel_rfl)
  show Ok_law_s_copy (callF defs ini ex (n + 0 + 1) "_law_s_copy")
  rw [e]
  exact d_law_s_copy_ok 
theorem g__law_two_pieces__Ok_law_two_pieces (n : Nat) : Ok_law_two_pieces (callF defs ini ex (n + 5) "_law_two_pieces") := by
  have e := callF_at (defs := defs) (ini := ini) (xs := ex) (n := n + 4) (f := "_law_two_pieces") (d := D.d_law_two_pieces) (by kernel_rfl) (by kernel_rfl)
  show Ok_law_two_pieces (callF defs ini ex (n + 4 + 1) "_law_two_pieces")
  rw [e]
  exact d_law_two_pieces_ok (g__law_pull__Ok_law_pull (n + 3)) (g__law_number_of__Ok_law_number_of (n + 0)) (g__law_s_copy__Ok_law_s_copy (n + 3)) (g__law_s_join__Ok_law_s_join (n + 3))
theorem g__law_deed__Ok_law_deed (n : Nat) : Ok_law_deed (callF defs ini ex (n + 6) "_law_deed") := by
  have e := callF_at (defs := defs) (ini := ini) (xs := ex) (n := n + 5) (f := "_law_deed") (d := D.d_law_deed) (by kernel_rfl) (by kernel_rfl)
  show Ok_law_deed (callF defs ini ex (n + 5 + 1) "_law_deed")
  rw [e]
  exact d_law_deed_ok (g__law_pull__Ok_law_pull (n + 4)) (g__law_near__Ok_law_near (n + 2)) (g__law_seal__Ok_law_seal (n + 3)) (g__law_odd_columns__Ok_law_odd_columns (n + 3)) (g__law_number_of__Ok_law_number_of (n + 1)) (g__law_two_pieces__Ok_law_two_pieces (n + 0))
theorem g_Shop_twin__Ok_Shop_twin (n : Nat) : Ok_Shop_twin (callF defs ini ex (n + 4) "Shop.twin") := by
  have e := callF_at (defs := defs) (ini := ini) (xs := ex) (n := n + 3) (f := "Shop.twin") (d := D.d_Shop_twin) (by kernel_rfl) (by kernel_rfl)
  show Ok_Shop_twin (callF defs ini ex (n + 3 + 1) "Shop.twin")
  rw [e]
  exact d_Shop_twin_ok (g_Shop__Ok_Shop (n + 0))
theorem g_Journal_shop__Ok_Journal_shop (n : Nat) : Ok_Journal_shop (callF defs ini ex (n + 5) "Journal.shop") := by
  have e := callF_at (defs := defs) (ini := ini) (xs := ex) (n := n + 4) (f := "Journal.shop") (d := D.d_Journal_shop) (by kernel_rfl) (by kernel_rfl)
  show Ok_Journal_shop (callF defs ini ex (n + 4 + 1) "Journal.shop")
  rw [e]
  exact d_Journal_shop_ok (g_Shop_twin__Ok_Shop_twin (n + 0))
theorem g_look_deed__Ok_look_deed (n : Nat) : Ok_look_deed (callF defs ini ex (n + 1) "look_deed") := by
  have e := callF_at (defs := defs) (ini := ini) (xs := ex) (n := n + 0) (f := "look_deed") (d := D.d_look_deed) (by kernel_rfl) (by kernel_rfl)
  show Ok_look_deed (callF defs ini ex (n + 0 + 1) "look_deed")
  rw [e]
  exact d_look_deed_ok 
theorem g_good_cell__Ok_good_cell (n : Nat) : Ok_good_cell (callF defs ini ex (n + 1) "good_cell") := by
  have e := callF_at (defs := defs) (ini := ini) (xs := ex) (n := n + 0) (f := "good_cell") (d := D.d_good_cell) (by kernel_rfl) (by kernel_rfl)
  show Ok_good_cell (callF defs ini ex (n + 0 + 1) "good_cell")
  rw [e]
  exact d_good_cell_ok 
theorem g_good_strip__Ok_good_strip (n : Nat) : Ok_good_strip (callF defs ini ex (n + 2) "good_strip") := by
  have e := callF_at (defs := defs) (ini := ini) (xs := ex) (n := n + 1) (f := "good_strip") (d := D.d_good_strip) (by kernel_rfl) (by kernel_rfl)
  show Ok_good_strip (callF defs ini ex (n + 1 + 1) "good_strip")
  rw [e]
  exact d_good_strip_ok (g_good_cell__Ok_good_cell (n + 0))
theorem g_good_seal__Ok_good_seal (n : Nat) : Ok_good_seal (callF defs ini ex (n + 3) "good_seal") := by
  have e := callF_at (defs := defs) (ini := ini) (xs := ex) (n := n + 2) (f := "good_seal") (d := D.d_good_seal) (by kernel_rfl) (by kernel_rfl)
  show Ok_good_seal (callF defs ini ex (n + 2 + 1) "good_seal")
  rw [e]
  exact d_good_seal_ok (g_good_strip__Ok_good_strip (n + 0))
theorem g_Shop_cut__Ok_Shop_cut (n : Nat) : Ok_Shop_cut (callF defs ini ex (n + 4) "Shop.cut") := by
  have e := callF_at (defs := defs) (ini := ini) (xs := ex) (n := n + 3) (f := "Shop.cut") (d := D.d_Shop_cut) (by kernel_rfl) (by kernel_rfl)
  show Ok_Shop_cut (callF defs ini ex (n + 3 + 1) "Shop.cut")
  rw [e]
  exact d_Shop_cut_ok (g_good_seal__Ok_good_seal (n + 0))
theorem g_Shop_need_seal__Ok_Shop_need_seal (n : Nat) : Ok_Shop_need_seal (callF defs ini ex (n + 1) "Shop.need_seal") := by
  have e := callF_at (defs := defs) (ini := ini) (xs := ex) (n := n + 0) (f := "Shop.need_seal") (d := D.d_Shop_need_seal) (by kernel_rfl) (by kernel_rfl)
  show Ok_Shop_need_seal (callF defs ini ex (n + 0 + 1) "Shop.need_seal")
  rw [e]
  exact d_Shop_need_seal_ok 
theorem g_need_cell__Ok_need_cell (n : Nat) : Ok_need_cell (callF defs ini ex (n + 1) "need_cell") := by
  have e := callF_at (defs := defs) (ini := ini) (xs := ex) (n := n + 0) (f := "need_cell") (d := D.d_need_cell) (by kernel_rfl) (by kernel_rfl)
  show Ok_need_cell (callF defs ini ex (n + 0 + 1) "need_cell")
  rw [e]
  exact d_need_cell_ok 
theorem g_with_cell__Ok_with_cell (n : Nat) : Ok_with_cell (callF defs ini ex (n + 1) "with_cell") := by
  have e := callF_at (defs := defs) (ini := ini) (xs := ex) (n := n + 0) (f := "with_cell") (d := D.d_with_cell) (by kernel_rfl) (by kernel_rfl)
  show Ok_with_cell (callF defs ini ex (n + 0 + 1) "with_cell")
  rw [e]
  exact d_with_cell_ok 
theorem g_Shop_chip__Ok_Shop_chip (n : Nat) : Ok_Shop_chip (callF defs ini ex (n + 2) "Shop.chip") := by
  have e := callF_at (defs := defs) (ini := ini) (xs := ex) (n := n + 1) (f := "Shop.chip") (d := D.d_Shop_chip) (by kernel_rfl) (by kernel_rfl)
  show Ok_Shop_chip (callF defs ini ex (n + 1 + 1) "Shop.chip")
  rw [e]
  exact d_Shop_chip_ok (g_Shop_need_seal__Ok_Shop_need_seal (n + 0)) (g_need_cell__Ok_need_cell (n + 0)) (g_with_cell__Ok_with_cell (n + 0))
theorem g_print_of__Ok_print_of (n : Nat) : Ok_print_of (callF defs ini ex (n + 1) "print_of") := by
  have e := callF_at (defs := defs) (ini := ini) (xs := ex) (n := n + 0) (f := "print_of") (d := D.d_print_of) (by kernel_rfl) (by kernel_rfl)
  show Ok_print_of (callF defs ini ex (n + 0 + 1) "print_of")
  rw [e]
  exact d_print_of_ok 
theorem g_Shop_add__Ok_Shop_add (n : Nat) : Ok_Shop_add (callF defs ini ex (n + 1) "Shop.add") := by
  have e := callF_at (defs := defs) (ini := ini) (xs := ex) (n := n + 0) (f := "Shop.add") (d := D.d_Shop_add) (by kernel_rfl) (by kernel_rfl)
  show Ok_Shop_add (callF defs ini ex (n + 0 + 1) "Shop.add")
  rw [e]
  exact d_Shop_add_ok 
theorem g_Shop_roll__Ok_Shop_roll (n : Nat) : Ok_Shop_roll (callF defs ini ex (n + 2) "Shop.roll") := by
  have e := callF_at (defs := defs) (ini := ini) (xs := ex) (n := n + 1) (f := "Shop.roll") (d := D.d_Shop_roll) (by kernel_rfl) (by kernel_rfl)
  show Ok_Shop_roll (callF defs ini ex (n + 1 + 1) "Shop.roll")
  rw [e]
  exact d_Shop_roll_ok (g_Shop_need_seal__Ok_Shop_need_seal (n + 0)) (g_print_of__Ok_print_of (n + 0)) (g_Shop_add__Ok_Shop_add (n + 0))
theorem g_Shop_need_strip__Ok_Shop_need_strip (n : Nat) : Ok_Shop_need_strip (callF defs ini ex (n + 1) "Shop.need_strip") := by
  have e := callF_at (defs := defs) (ini := ini) (xs := ex) (n := n + 0) (f := "Shop.need_strip") (d := D.d_Shop_need_strip) (by kernel_rfl) (by kernel_rfl)
  show Ok_Shop_need_strip (callF defs ini ex (n + 0 + 1) "Shop.need_strip")
  rw [e]
  exact d_Shop_need_strip_ok 
theorem g_about__Ok_about (n : Nat) : Ok_about (callF defs ini ex (n + 1) "about") := by
  have e := callF_at (defs := defs) (ini := ini) (xs := ex) (n := n + 0) (f := "about") (d := D.d_about) (by kernel_rfl) (by kernel_rfl)
  show Ok_about (callF defs ini ex (n + 0 + 1) "about")
  rw [e]
  exact d_about_ok 
theorem g_Shop_turn__Ok_Shop_turn (n : Nat) : Ok_Shop_turn (callF defs ini ex (n + 2) "Shop.turn") := by
  have e := callF_at (defs := defs) (ini := ini) (xs := ex) (n := n + 1) (f := "Shop.turn") (d := D.d_Shop_turn) (by kernel_rfl) (by kernel_rfl)
  show Ok_Shop_turn (callF defs ini ex (n + 1 + 1) "Shop.turn")
  rw [e]
  exact d_Shop_turn_ok (g_Shop_need_strip__Ok_Shop_need_strip (n + 0)) (g_about__Ok_about (n + 0))
theorem g_Shop_wear__Ok_Shop_wear (n : Nat) : Ok_Shop_wear (callF defs ini ex (n + 2) "Shop.wear") := by
  have e := callF_at (defs := defs) (ini := ini) (xs := ex) (n := n + 1) (f := "Shop.wear") (d := D.d_Shop_wear) (by kernel_rfl) (by kernel_rfl)
  show Ok_Shop_wear (callF defs ini ex (n + 1 + 1) "Shop.wear")
  rw [e]
  exact d_Shop_wear_ok (g_Shop_need_strip__Ok_Shop_need_strip (n + 0)) (g_need_cell__Ok_need_cell (n + 0)) (g_with_cell__Ok_with_cell (n + 0))
theorem g_need_strip__Ok_need_strip (n : Nat) : Ok_need_strip (callF defs ini ex (n + 3) "need_strip") := by
  have e := callF_at (defs := defs) (ini := ini) (xs := ex) (n := n + 2) (f := "need_strip") (d := D.d_need_strip) (by kernel_rfl) (by kernel_rfl)
  show Ok_need_strip (callF defs ini ex (n + 2 + 1) "need_strip")
  rw [e]
  exact d_need_strip_ok (g_good_strip__Ok_good_strip (n + 0))
theorem g_parts__Ok_parts (n : Nat) : Ok_parts (callF defs ini ex (n + 4) "parts") := by
  have e := callF_at (defs := defs) (ini := ini) (xs := ex) (n := n + 3) (f := "parts") (d := D.d_parts) (by kernel_rfl) (by kernel_rfl)
  show Ok_parts (callF defs ini ex (n + 3 + 1) "parts")
  rw [e]
  exact d_parts_ok (g_need_strip__Ok_need_strip (n + 0))
theorem g_Shop_snap__Ok_Shop_snap (n : Nat) : Ok_Shop_snap (callF defs ini ex (n + 5) "Shop.snap") := by
  have e := callF_at (defs := defs) (ini := ini) (xs := ex) (n := n + 4) (f := "Shop.snap") (d := D.d_Shop_snap) (by kernel_rfl) (by kernel_rfl)
  show Ok_Shop_snap (callF defs ini ex (n + 4 + 1) "Shop.snap")
  rw [e]
  exact d_Shop_snap_ok (g_Shop_need_strip__Ok_Shop_need_strip (n + 3)) (g_parts__Ok_parts (n + 0)) (g_Shop_add__Ok_Shop_add (n + 3))
theorem g_Shop_join__Ok_Shop_join (n : Nat) : Ok_Shop_join (callF defs ini ex (n + 2) "Shop.join") := by
  have e := callF_at (defs := defs) (ini := ini) (xs := ex) (n := n + 1) (f := "Shop.join") (d := D.d_Shop_join) (by kernel_rfl) (by kernel_rfl)
  show Ok_Shop_join (callF defs ini ex (n + 1 + 1) "Shop.join")
  rw [e]
  exact d_Shop_join_ok (g_Shop_need_strip__Ok_Shop_need_strip (n + 0))
theorem g_Shop_lose__Ok_Shop_lose (n : Nat) : Ok_Shop_lose (callF defs ini ex (n + 2) "Shop.lose") := by
  have e := callF_at (defs := defs) (ini := ini) (xs := ex) (n := n + 1) (f := "Shop.lose") (d := D.d_Shop_lose) (by kernel_rfl) (by kernel_rfl)
  show Ok_Shop_lose (callF defs ini ex (n + 1 + 1) "Shop.lose")
  rw [e]
  exact d_Shop_lose_ok (g_Shop_need_strip__Ok_Shop_need_strip (n + 0))
theorem g_done_in__Ok_done_in (n : Nat) : Ok_done_in (callF defs ini ex (n + 6) "done_in") := by
  have e := callF_at (defs := defs) (ini := ini) (xs := ex) (n := n + 5) (f := "done_in") (d := D.d_done_in) (by kernel_rfl) (by kernel_rfl)
  show Ok_done_in (callF defs ini ex (n + 5 + 1) "done_in")
  rw [e]
  exact d_done_in_ok (g_Shop_cut__Ok_Shop_cut (n + 1)) (g_Shop_chip__Ok_Shop_chip (n + 3)) (g_Shop_roll__Ok_Shop_roll (n + 3)) (g_Shop_turn__Ok_Shop_turn (n + 3)) (g_Shop_wear__Ok_Shop_wear (n + 3)) (g_Shop_snap__Ok_Shop_snap (n + 0)) (g_Shop_join__Ok_Shop_join (n + 3)) (g_Shop_lose__Ok_Shop_lose (n + 3))
theorem g_Journal_done_now__Ok_Journal_done_now (n : Nat) : Ok_Journal_done_now (callF defs ini ex (n + 7) "Journal.done_now") := by
  have e := callF_at (defs := defs) (ini := ini) (xs := ex) (n := n + 6) (f := "Journal.done_now") (d := D.d_Journal_done_now) (by kernel_rfl) (by kernel_rfl)
  show Ok_Journal_done_now (callF defs ini ex (n + 6 + 1) "Journal.done_now")
  rw [e]
  exact d_Journal_done_now_ok (g_Shop_twin__Ok_Shop_twin (n + 2)) (g_done_in__Ok_done_in (n + 0))
theorem g_Journal_do__Ok_Journal_do (n : Nat) : Ok_Journal_do (callF defs ini ex (n + 8) "Journal.do") := by
  have e := callF_at (defs := defs) (ini := ini) (xs := ex) (n := n + 7) (f := "Journal.do") (d := D.d_Journal_do) (by kernel_rfl) (by kernel_rfl)
  show Ok_Journal_do (callF defs ini ex (n + 7 + 1) "Journal.do")
  rw [e]
  exact d_Journal_do_ok (g_look_deed__Ok_look_deed (n + 6)) (g_Journal_done_now__Ok_Journal_done_now (n + 0))
theorem g__law_journal_do__Ok_law_journal_do (n : Nat) : Ok_law_journal_do (callF defs ini ex (n + 9) "_law_journal_do") := by
  have e := callF_at (defs := defs) (ini := ini) (xs := ex) (n := n + 8) (f := "_law_journal_do") (d := D.d_law_journal_do) (by kernel_rfl) (by kernel_rfl)
  show Ok_law_journal_do (callF defs ini ex (n + 8 + 1) "_law_journal_do")
  rw [e]
  exact d_law_journal_do_ok (by decide +kernel) (by decide +kernel) (by decide +kernel) (by decide +kernel) (by decide +kernel) (by decide +kernel) (by decide +kernel) (by decide +kernel) (by decide +kernel) (by decide +kernel) (by decide +kernel) (g_Journal_do__Ok_Journal_do (n + 0))
theorem g_Journal_back__Ok_Journal_back (n : Nat) : Ok_Journal_back (callF defs ini ex (n + 1) "Journal.back") := by
  have e := callF_at (defs := defs) (ini := ini) (xs := ex) (n := n + 0) (f := "Journal.back") (d := D.d_Journal_back) (by kernel_rfl) (by kernel_rfl)
  show Ok_Journal_back (callF defs ini ex (n + 0 + 1) "Journal.back")
  rw [e]
  exact d_Journal_back_ok 
theorem g_Shop_seal__Ok_Shop_seal (n : Nat) : Ok_Shop_seal (callF defs ini ex (n + 2) "Shop.seal") := by
  have e := callF_at (defs := defs) (ini := ini) (xs := ex) (n := n + 1) (f := "Shop.seal") (d := D.d_Shop_seal) (by kernel_rfl) (by kernel_rfl)
  show Ok_Shop_seal (callF defs ini ex (n + 1 + 1) "Shop.seal")
  rw [e]
  exact d_Shop_seal_ok (g_Shop_need_seal__Ok_Shop_need_seal (n + 0))
theorem g_Shop_strip__Ok_Shop_strip (n : Nat) : Ok_Shop_strip (callF defs ini ex (n + 2) "Shop.strip") := by
  have e := callF_at (defs := defs) (ini := ini) (xs := ex) (n := n + 1) (f := "Shop.strip") (d := D.d_Shop_strip) (by kernel_rfl) (by kernel_rfl)
  show Ok_Shop_strip (callF defs ini ex (n + 1 + 1) "Shop.strip")
  rw [e]
  exact d_Shop_strip_ok (g_Shop_need_strip__Ok_Shop_need_strip (n + 0))
theorem g__law_no_pieces__Ok_law_no_pieces (n : Nat) : Ok_law_no_pieces (callF defs ini ex (n + 3) "_law_no_pieces") := by
  have e := callF_at (defs := defs) (ini := ini) (xs := ex) (n := n + 2) (f := "_law_no_pieces") (d := D.d_law_no_pieces) (by kernel_rfl) (by kernel_rfl)
  show Ok_law_no_pieces (callF defs ini ex (n + 2 + 1) "_law_no_pieces")
  rw [e]
  exact d_law_no_pieces_ok (by decide +kernel) (g_Shop_join__Ok_Shop_join (n + 0))
theorem g__law_turned__Ok_law_turned (n : Nat) : Ok_law_turned (callF defs ini ex (n + 1) "_law_turned") := by
  have e := callF_at (defs := defs) (ini := ini) (xs := ex) (n := n + 0) (f := "_law_turned") (d := D.d_law_turned) (by kernel_rfl) (by kernel_rfl)
  show Ok_law_turned (callF defs ini ex (n + 0 + 1) "_law_turned")
  rw [e]
  exact d_law_turned_ok 
theorem g__law_apart__Ok_law_apart (n : Nat) : Ok_law_apart (callF defs ini ex (n + 8) "_law_apart") := by
  have e := callF_at (defs := defs) (ini := ini) (xs := ex) (n := n + 7) (f := "_law_apart") (d := D.d_law_apart) (by kernel_rfl) (by kernel_rfl)
  show Ok_law_apart (callF defs ini ex (n + 7 + 1) "_law_apart")
  rw [e]
  exact d_law_apart_ok (g__law_like__Ok_law_like (n + 0)) (g_Shop_strip__Ok_Shop_strip (n + 5)) (g_Shop_snap__Ok_Shop_snap (n + 2)) (g_Shop_turn__Ok_Shop_turn (n + 5)) (g_Shop_join__Ok_Shop_join (n + 5)) (g__law_no_pieces__Ok_law_no_pieces (n + 4)) (g__law_turned__Ok_law_turned (n + 6))
theorem law_runs : ∀ ns : List Int, ns.length ≤ 63 → ∃ st, callF defs [(("Journal" : Str), ("Journal.__init__" : Str)), (("Shop" : Str), ("Shop.__init__" : Str))] [("ClayError" : Str), ("BadStrip" : Str), ("BadSeal" : Str), ("BadStart" : Str), ("BadWidth" : Str), ("BadHeight" : Str), ("SameOne" : Str), ("Full" : Str), ("NoSeal" : Str), ("NoCell" : Str), ("Bare" : Str), ("NoStrip" : Str), ("Lost" : Str), ("NotPieces" : Str), ("BadDeed" : Str), ("Nothing" : Str)] (9 + 1) "law" [.scr ns] [] = .ok (.bl true) st := by
  intro ns hl
  have e := callF_at (defs := defs) (ini := ini) (xs := ex) (n := 9) (f := "law") (d := D.d_law_k57) (by kernel_rfl) (by kernel_rfl)
  show ∃ st, callF defs ini ex (9 + 1) "law" [.scr ns] [] = .ok (.bl true) st
  rw [e]
  obtain ⟨v, st, h, rfl⟩ := law_k57 (C := callF defs ini ex 9) (xs := ex) ns hl (g__law_open__Ok_law_open 8) (g__law_pull__Ok_law_pull 8) (g_Journal__Ok_Journal 4) (g__law_shop__Ok_law_shop 8) (g__law_s_do__Ok_law_s_do 5) (g__law_same_end__Ok_law_same_end 1) (g__law_deed__Ok_law_deed 3) (g_Journal_shop__Ok_Journal_shop 4) (g__law_journal_do__Ok_law_journal_do 0) (g_Journal_do__Ok_Journal_do 1) (g_Journal_back__Ok_Journal_back 8) (g_Shop_seal__Ok_Shop_seal 7) (g_Shop_twin__Ok_Shop_twin 5) (g_Shop_roll__Ok_Shop_roll 7) (g__law_apart__Ok_law_apart 1)
  exact ⟨st, h⟩
end L_k57
namespace L_k57
open PySem L2 Rc
theorem ck : ckAll sg ts defs = true := by decide +kernel
end L_k57
open PySem PySem.W PySem.Calls PyProof.Rows
set_option maxHeartbeats 0 in
theorem PySem.Challenge.cw_rolledclay_k57_whole_rollings_stay_unlik_holds : PySem.Challenge.rw_rolledclay_k57_whole_rollings_stay_unlik.Holds := by
  w_on; o_law
  refine HandSHeadRun.head_any (r := OpenLaw.row PySem.Challenge.rw_rolledclay_k57_whole_rollings_stay_unlik) (q := view (OpenLaw.row PySem.Challenge.rw_rolledclay_k57_whole_rollings_stay_unlik).prog [77]) (H := L_k57.hk) (ob := L_k57.ob) (M := 100000) (loose := L_k57.nms) (d := HandSHeadRun.topDef (OpenLaw.row PySem.Challenge.rw_rolledclay_k57_whole_rollings_stay_unlik).prog 77) (kwd := []) L_k57.ob_eq
    (by kernel_rfl) (fun s => by kernel_rfl) L_k57.run (by kernel_rfl) (by kernel_rfl) (by kernel_rfl) (by rfl) (by first | assumption | decide +kernel) (by decide +kernel) ⟨rfl, rfl, rfl, rfl, rfl, by decide +kernel⟩ ?hw ?hc
  case hw => w_witness2
  case hc =>
    refine Rc.walk_ofW (l := PySem.Challenge.rw_rolledclay_k57_whole_rollings_stay_unlik) (n := 63) (k := 2 * (9 + 1)) (x := "_law_script") (CX := fun w => L2.CX (PySem.Challenge.rw_rolledclay_k57_whole_rollings_stay_unlik).prog w) rfl (by decide) (by kernel_rfl) ⟨rfl, by decide, by decide⟩ ?F ?E
    case E =>
      intro w H s e s1 hx
      obtain ⟨_, _, _, _, _, _, _, _, _, _, _, _, hf⟩ := hx
      exact hf
    case F =>
      intro w mg fa h Y G hmg0
      obtain ⟨K, KX, c⟩ := Y
      have hmg : mg ("law" : PySem.Str) = some (.ref fa) := by
        have e : (HandSHeadRun.topDef (OpenLaw.row PySem.Challenge.rw_rolledclay_k57_whole_rollings_stay_unlik).prog 77).name = ("law" : PySem.Str) := by kernel_rfl
        rw [← e]
        exact hmg0
      exact Rc.law_of (defs := L_k57.defs) KX G (by decide +kernel) c L_k57.ck (by decide +kernel) (by decide +kernel) hmg L_k57.law_runs
