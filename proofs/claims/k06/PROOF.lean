import PyProof.Rows.All
import Wide.All
import OpenK.AllK
import Wide.FinOn
import HandS.ForMost
import HandS.ForExc
import KE.DataCmp
import HandS.HeadHook4
import HandS.TupAny
import HandS.TupMul
import HandS.Style
import HandS.Conv
import HandS.IsInst
import KE.KDictCopyH
import KE.KDictPairs
import KE.GoesEnum
import PyProof.EnumMake
import KE.KeyNested
import KE.SortData
import KE.DataMinMax
import HandS.SetFor
import HandS.Deep
import HandS.More
import HandS.SortInts
import HandS.WordsDict
import HandS.RaiseMore
import HandS.Replace
import HandS.Text
import PyProof.Rows.SetFrom
import HandS.CallSlots
import HandS.Codes
import HandS.TryMany
import HandS.ExcOwn
import HandS.ExcInit
import HandS.ExcField
import HandS.Defaults
import HandS.Head0
import HandS.Head1
import HandS.Head2
import HandS.HeadEnd
import HandS.HeadHook1
import HandS.HeadHook2
import HandS.HeadHook3
import PySem.Challenge.RW_rolledclay_k06_whole_strips_read_back
set_option Elab.async false
set_option linter.all false
set_option maxRecDepth 100000
set_option maxHeartbeats 4000000
/-! Rc1: a small language of its own: values, objects, the answers of runs, its texts and its interpreter. -/
namespace Rc
open PySem

/-- a value: what never changes stands in it whole; loc: a place of the store -/
inductive Val where
  | non
  | bl (b : Bool)
  | int (i : Int)
  | str (s : Str)
  | tup (vs : List Val)
  | lst (vs : List Val)
  | dK (ks : List L2.Key) (vs : List Val)
  | dT (ks : List (List L2.Key)) (vs : List Val)
  | loc (l : Nat)
  | scr (ns : List Int)
  | dN (ks : List (List (List Int)))

/-- an object that may change -/
inductive Ob where
  | lst (vs : List Val)
  | dK (kvs : List (L2.Key × Val))
  | dT (kvs : List (List L2.Key × Val))
  | ins (c : Str) (fs : List (Str × Val))

abbrev Store := List Ob
abbrev Env := List (Option Val)

/-- how a run ends -/
inductive R (α : Type) where
  | ok (a : α) (st : Store)
  | exc (c : Str) (row : Option Int) (st : Store)
  | stuck

abbrev M (α : Type) := Store → R α

@[simp] def ret {α : Type} (a : α) : M α := fun st => .ok a st
@[simp] def stuck {α : Type} : M α := fun _ => .stuck
@[simp] def bnd {α β : Type} (m : M α) (f : α → M β) : M β := fun st =>
  match m st with
  | .ok a st' => f a st'
  | .exc c r st' => .exc c r st'
  | .stuck => .stuck
def ofOpt {α : Type} (o : Option α) : M α := match o with
  | some a => ret a
  | none => stuck

/-! ### reading -/
def lstOf (st : Store) : Val → Option (List Val)
  | .lst xs => some xs
  | .loc l => match st[l]? with
    | some (.lst xs) => some xs
    | _ => none
  | _ => none
def seqOf (st : Store) : Val → Option (List Val)
  | .tup xs => some xs
  | v => lstOf st v

def mapO {α β : Type} (f : α → Option β) : List α → Option (List β)
  | [] => some []
  | v :: vs => (f v).bind fun w => (mapO f vs).map (w :: ·)
/-! ### dicts -/
abbrev Key := L2.Key
def keyOf : Val → Option Key
  | .int i => some (.inl i)
  | .str s => some (.inr s)
  | _ => none
def keyVal : Key → Val
  | .inl i => .int i
  | .inr s => .str s
def keyT : Val → Option (List Key)
  | .tup vs => mapO keyOf vs
  | _ => none
section
variable {κ : Type} [DecidableEq κ]
def look (kvs : List (κ × Val)) (k : κ) : Option Val := (kvs.find? fun kv => decide (kv.1 = k)).map (·.2)
/-- in its place, or at the end -/
def put (kvs : List (κ × Val)) (k : κ) (v : Val) : List (κ × Val) :=
  if (kvs.any fun kv => decide (kv.1 = k)) = true then kvs.map (fun kv => if kv.1 = k then (kv.1, v) else kv) else kvs ++ [(k, v)]
def drp (kvs : List (κ × Val)) (k : κ) : List (κ × Val) := kvs.filter fun kv => decide (kv.1 ≠ k)
end
/-- what stands in an object at w: none where nothing stands, or where it can't be asked -/
def obIx (w : Val) : Option Ob → Option Val
  | some (.lst xs) => match w with
    | .int i => L2.atI xs i
    | _ => none
  | some (.dK kvs) => (keyOf w).bind (look kvs)
  | some (.dT kvs) => (keyT w).bind (look kvs)
  | _ => none

/-- a value as plain data -/
def toD (st : Store) : Nat → Val → Option PyData
  | 0, _ => none
  | n + 1, v => match v with
    | .non => some .none
    | .bl b => some (.bool b)
    | .int i => some (.int i)
    | .str s => if PyData.strOk s = true then some (.str s) else none
    | .tup xs => (mapO (toD st n) xs).map .tuple
    | .lst xs => (mapO (toD st n) xs).map .list
    | .loc l => match st[l]? with
      | some (.lst xs) => (mapO (toD st n) xs).map .list
      | _ => none
    | _ => none

def depthD : Nat := 10
/-- == -/
def veq (st : Store) : Val → Val → Option Bool
  | .int i, .int j => some (decide (i = j))
  | .bl a, .bl b => some (decide (a = b))
  | .str x, .str y => some (decide (x = y))
  | v, w => (toD st depthD v).bind fun d => (toD st depthD w).map fun e => PyData.eqv d e

/-! ### operators -/
/-- what an operation gives: a value, a new list, a new dict -/
inductive Pv where
  | v (v : Val)
  | l (xs : List Val)
  | d (kvs : List (Key × Val))
  | t (kvs : List (List Key × Val))
def mk (new : Bool) : Pv → M Val
  | .v v => ret v
  | .l xs => if new then fun st => .ok (.loc st.length) (st ++ [.lst xs]) else ret (.lst xs)
  | .d kvs => if new then fun st => .ok (.loc st.length) (st ++ [.dK kvs]) else ret (.dK (kvs.map (·.1)) (kvs.map (·.2)))
  | .t kvs => if new then fun st => .ok (.loc st.length) (st ++ [.dT kvs]) else ret (.dT (kvs.map (·.1)) (kvs.map (·.2)))
@[simp] def szOk (n : Nat) : Bool := decide (n ≤ sizeLine)
@[simp] def mulOk (i j : Int) : Bool := (decide (-(2 ^ 64) < i) && decide (i < 2 ^ 64)) || (decide (-(2 ^ 64) < j) && decide (j < 2 ^ 64))
def opAdd (st : Store) : Val → Val → Option Pv
  | .int i, .int j => some (.v (.int (i + j)))
  | .str x, .str y => if szOk (x.length + y.length) then some (.v (.str (x ++ y))) else none
  | .tup xs, .tup ys => if szOk (xs.length + ys.length) then some (.v (.tup (xs ++ ys))) else none
  | v, w => match lstOf st v, lstOf st w with
    | some xs, some ys => if szOk (xs.length + ys.length) then some (.l (xs ++ ys)) else none
    | _, _ => none
def opSub : Val → Val → Option Val
  | .int i, .int j => some (.int (i - j))
  | _, _ => none
def opMul : Val → Val → Option Val
  | .int i, .int j => if mulOk i j then some (.int (i * j)) else none
  | .tup xs, .int k => if decide (0 ≤ k) && decide (k ≤ 1000) && decide (xs.length ≤ 1000) then some (.tup (List.replicate k.toNat xs).flatten) else none
  | _, _ => none
def opMod : Val → Val → Option Val
  | .int i, .int j => if 0 < j then some (.int (i % j)) else none
  | _, _ => none
def opDiv : Val → Val → Option Val
  | .int i, .int j => if decide (0 < j) && decide (j < 1073741824) then some (.int (i / j)) else none
  | _, _ => none
def opPow : Val → Val → Option Val
  | .int i, .int j => if decide (0 ≤ j) && decide (j ≤ 1000000) && decide (i.natAbs < 2 ^ 64) then some (.int (i ^ j.toNat)) else none
  | _, _ => none
/-- a list so many times -/
def repL (xs : List Val) (k : Int) : Option Pv := if decide (0 ≤ k) && decide (k ≤ 1000) && decide (xs.length ≤ 1000) then some (.l (List.replicate k.toNat xs).flatten) else none
def opMulL (st : Store) : Val → Val → Option Pv
  | .lst xs, .int k => repL xs k
  | .loc l, .int k => (lstOf st (.loc l)).bind fun xs => repL xs k
  | v, w => (opMul v w).map .v
@[simp] def binOp (st : Store) : Operator → Val → Val → Option Pv
  | .Add, v, w => opAdd st v w
  | .Sub, v, w => (opSub v w).map .v
  | .Mult, v, w => opMulL st v w
  | .Mod, v, w => (opMod v w).map .v
  | .FloorDiv, v, w => (opDiv v w).map .v
  | .Pow, v, w => (opPow v w).map .v
  | _, _, _ => none
def flat : Val → Bool
  | .non => true
  | .bl _ => true
  | .int _ => true
  | .str _ => true
  | _ => false
/-- == of flat values -/
def eqF : Val → Val → Bool
  | .non, .non => true
  | .bl a, .bl b => a == b
  | .bl a, .int b => (if a then 1 else 0) == b
  | .int a, .bl b => a == (if b then 1 else 0)
  | .int a, .int b => a == b
  | .str a, .str b => a == b
  | _, _ => false
/-- is v among xs, all flat? -/
def inFlat (v : Val) (xs : List Val) : Option Bool := if flat v && xs.all flat then some (xs.any fun y => eqF y v) else none
/-- is v among xs: flat ones, or data -/
def inSeq (st : Store) (v : Val) (xs : List Val) : Option Bool :=
  if flat v && xs.all flat then some (xs.any fun y => eqF y v)
  else if decide (xs.length ≤ 100000) then (toD st depthD v).bind fun d => (mapO (toD st depthD) xs).map fun ds => ds.any fun e => PyData.eqv e d else none
def inStr (t : Str) : Val → Option Bool
  | .str s => some (!(Builtin.Str.occurrences t s 0 t.length 1).isEmpty)
  | _ => none
/-- is v in the object? -/
def obIn (st : Store) (v : Val) : Option Ob → Option Bool
  | some (.lst xs) => inSeq st v xs
  | some (.dK kvs) => (keyOf v).map fun k => (look kvs k).isSome
  | some (.dT kvs) => (keyT v).map fun k => (look kvs k).isSome
  | _ => none
/-- a key that is a tuple of tuples of ints -/
def toInt1 : Val → Option Int
  | .int i => some i
  | _ => none
def keyN1 : Val → Option (List Int)
  | .tup us => mapO toInt1 us
  | _ => none
def keyN : Val → Option (List (List Int))
  | .tup vs => mapO keyN1 vs
  | _ => none
def pairN : Val → Option (List (List Int))
  | .tup [k, _] => keyN k
  | _ => none
/-- each key once -/
def ddN : List (List (List Int)) → List (List (List Int)) → List (List (List Int))
  | acc, [] => acc
  | acc, k :: ks => ddN (if k ∈ acc then acc else acc ++ [k]) ks
/-- a dict by a list of pairs, its keys such tuples -/
def dicN (st : Store) (v : Val) : Option Val := (lstOf st v).bind fun xs => (mapO pairN xs).map fun ks => .dN (ddN [] ks)
def dicNs (st : Store) : List Val → Option Val
  | [v] => dicN st v
  | _ => none
def opIn (st : Store) (v : Val) : Val → Option Bool
  | .str t => inStr t v
  | .tup xs => inFlat v xs
  | .lst xs => inSeq st v xs
  | .loc l => obIn st v st[l]?
  | .dK ks vs => (keyOf v).map fun k => (look (ks.zip vs) k).isSome
  | .dT ks vs => (keyT v).map fun k => (look (ks.zip vs) k).isSome
  | .dN ks => (keyN v).map fun k => decide (k ∈ ks)
  | _ => none
def isNon : Val → Bool
  | .non => true
  | _ => false
/-- no None -/
def notN : PyData → Bool
  | .none => false
  | _ => true
/-- < of data that are alike -/
def ltD (st : Store) (v w : Val) : Option Bool := (toD st depthD v).bind fun d => (toD st depthD w).bind fun e => if (PySem.W.alike d e && notN d) = true then some (PySem.W.dataLt d e) else none
def cmpLt (st : Store) : Val → Val → Option Bool
  | .int i, .int j => some (decide (i < j))
  | v, w => ltD st v w
def cmpLe (st : Store) : Val → Val → Option Bool
  | .int i, .int j => some (decide (i ≤ j))
  | v, w => (ltD st w v).map (!·)
def isOp (v : Val) : Val → Option Bool
  | .non => some (isNon v)
  | _ => none
@[simp] def cmpOp (st : Store) : CmpOp → Val → Val → Option Bool
  | .Eq, v, w => veq st v w
  | .NotEq, v, w => (veq st v w).map (!·)
  | .Lt, v, w => cmpLt st v w
  | .LtE, v, w => cmpLe st v w
  | .Gt, v, w => cmpLt st w v
  | .GtE, v, w => cmpLe st w v
  | .Is, v, w => isOp v w
  | .IsNot, v, w => (isOp v w).map (!·)
  | .In, v, w => opIn st v w
  | .NotIn, v, w => (opIn st v w).map (!·)

/-! ### subscripts -/
def ixOp (st : Store) : Val → Val → Option Val
  | .str z, .int i => if szOk z.length then (L2.atI z.cps.toList i).map fun c => .str ⟨#[c]⟩ else none
  | .tup xs, .int i => L2.atI xs i
  | .lst xs, .int i => L2.atI xs i
  | .loc l, w => obIx w st[l]?
  | .dK ks vs, w => (keyOf w).bind (look (ks.zip vs))
  | .dT ks vs, w => (keyT w).bind (look (ks.zip vs))
  | _, _ => none
def cut {α : Type} (xs : List α) (lo hi : Option Int) : List α := (xs.drop (HT.sIx xs.length 0 lo)).take (HT.sIx xs.length xs.length hi - HT.sIx xs.length 0 lo)
def slOp (st : Store) : Val → Option Int → Option Int → Option Pv
  | .tup xs, lo, hi => some (.v (.tup (cut xs lo hi)))
  | .scr ns, lo, hi => some (.l (cut (ns.map .int) lo hi))
  | .str z, lo, hi => if z.length ≤ 16777216 then some (.v (.str ⟨(cut z.cps.toList lo hi).toArray⟩)) else none
  | v, lo, hi => (lstOf st v).map fun xs => .l (cut xs lo hi)
def revOp (st : Store) : Val → Option Pv
  | .tup xs => some (.v (.tup xs.reverse))
  | v => (lstOf st v).map fun xs => .l xs.reverse

/-! ### built-in functions -/
inductive Bi where
  | len | max | min | all | any | tuple | list | int | sorted | dict | str | minD | sortD
def toInt : Val → Option Int
  | .int i => some i
  | _ => none
def toBl : Val → Option Bool
  | .bl b => some b
  | _ => none
def mini : List Int → Option Int
  | [] => none
  | x :: xs => some (xs.foldl min x)
def maxi : List Int → Option Int
  | [] => none
  | x :: xs => some (xs.foldl max x)
/-- how many things an object has -/
def obLen : Option Ob → Option Nat
  | some (.lst xs) => some xs.length
  | some (.dK kvs) => some kvs.length
  | _ => none
def biLen (st : Store) : List Val → Option Val
  | [.str s] => if szOk s.length then some (.int s.length) else none
  | [.tup xs] => some (.int xs.length)
  | [.lst xs] => some (.int xs.length)
  | [.loc l] => (obLen st[l]?).map fun (n : Nat) => .int (n : Int)
  | _ => none
def biMax (st : Store) : List Val → Option Val
  | [.int i, .int j] => some (.int (if j > i then j else i))
  | [v] => ((seqOf st v).bind fun xs => (mapO toInt xs).bind maxi).map .int
  | _ => none
def biMin (st : Store) : List Val → Option Val
  | [.int i, .int j] => some (.int (if j < i then j else i))
  | [v] => ((seqOf st v).bind fun xs => (mapO toInt xs).bind mini).map .int
  | _ => none
def biAll (st : Store) : List Val → Option Val
  | [v] => ((lstOf st v).bind fun xs => mapO toBl xs).map fun bs => .bl (bs.all id)
  | _ => none
def biAny (st : Store) : List Val → Option Val
  | [v] => ((lstOf st v).bind fun xs => mapO toBl xs).map fun bs => .bl (bs.any id)
  | _ => none
def biInt : List Val → Option Val
  | [.int i] => some (.int i)
  | [.bl b] => some (.int (if b then 1 else 0))
  | [.str a] => if a.length ≤ 640 then (PySem.intText? a).map .int else none
  | _ => none
def biTuple (st : Store) : List Val → Option Val
  | [v] => (seqOf st v).map .tup
  | _ => none
/-- an object's things, as a list -/
def obList : Option Ob → Option (List Val)
  | some (.lst xs) => some xs
  | some (.dK kvs) => some (kvs.map fun kv => keyVal kv.1)
  | _ => none
def biList (st : Store) : List Val → Option Pv
  | [.tup xs] => some (.l xs)
  | [.lst xs] => some (.l xs)
  | [.loc l] => (obList st[l]?).map .l
  | _ => none
/-- ints by size -/
def insI (n : Int) : List Int → List Int
  | [] => [n]
  | m :: ms => if n ≤ m then n :: m :: ms else m :: insI n ms
def srt : List Int → List Int
  | [] => []
  | n :: ns => insI n (srt ns)
def keyInt : Key → Option Int
  | .inl i => some i
  | .inr _ => none
def obSort : Option Ob → Option (List Int)
  | some (.lst xs) => mapO toInt xs
  | some (.dK kvs) => if decide (kvs.length < 64) then mapO (fun kv => keyInt kv.1) kvs else none
  | _ => none
def biSorted (st : Store) : List Val → Option Pv
  | [.lst xs] => (mapO toInt xs).map fun ns => .l ((srt ns).map .int)
  | [.loc l] => (obSort st[l]?).map fun ns => .l ((srt ns).map .int)
  | _ => none
/-! #### data by their order -/
def alkB (ds : List PyData) : Bool := ds.all (fun x => ds.all fun y => PySem.W.alike x y) && ds.all notN
def minQ (x : Val × PyData) (t : List (Val × PyData)) : Val × PyData := t.foldl (fun a y => if PySem.W.dataLt y.2 a.2 then y else a) x
def minZ : List (Val × PyData) → Option Val
  | [] => none
  | x :: t => some (minQ x t).1
def minL (st : Store) (vs : List Val) : Option Val := (mapO (toD st depthD) vs).bind fun ds => if alkB ds = true then minZ (vs.zip ds) else none
def min2 (st : Store) (v w : Val) : Option Val := (toD st depthD v).bind fun d => (toD st depthD w).bind fun e => if alkB [d, e] = true then some (if PySem.W.dataLt e d then w else v) else none
def biMinD (st : Store) : List Val → Option Val
  | [.lst vs] => minL st vs
  | [v, w] => min2 st v w
  | _ => none
def tup1 : PyData → Bool
  | .tuple (_ :: _) => true
  | _ => false
def notT : PyData → Bool
  | .none => false
  | .tuple _ => false
  | _ => true
def srtB (ds : List PyData) : Bool := ds.all tup1 || ds.all notT
def srtZ (z : List (Val × PyData)) : List Val := (z.mergeSort fun a b => !PySem.W.dataLt b.2 a.2).map (·.1)
def srtV (st : Store) (vs : List Val) : Option Pv := (mapO (toD st depthD) vs).bind fun ds => if (alkB ds && srtB ds) = true then some (.l (srtZ (vs.zip ds))) else none
def obSrtV (st : Store) : Option Ob → Option Pv
  | some (.lst xs) => srtV st xs
  | _ => none
def biSortD (st : Store) : List Val → Option Pv
  | [.lst xs] => srtV st xs
  | [.loc l] => obSrtV st st[l]?
  | _ => none
/-- a place and a row -/
def padKB : List Key → Bool
  | [.inl i, .inl j] => decide (0 ≤ i) && decide (i < 6) && decide (0 ≤ j) && decide (j < 3)
  | _ => false
def obDict : Option Ob → Option Pv
  | some (.dK kvs) => some (.d kvs)
  | some (.dT kvs) => if (kvs.map (·.1)).all padKB = true then some (.t kvs) else none
  | _ => none
def pairT : Val → Option (List Key × Val)
  | .tup [k, v] => (keyT k).map fun k => (k, v)
  | _ => none
def mrg : List (List Key × Val) → List (List Key × Val) → List (List Key × Val)
  | acc, [] => acc
  | acc, kv :: kvs => mrg (put acc kv.1 kv.2) kvs
def biDict (st : Store) : List Val → Option Pv
  | [.loc l] => obDict st[l]?
  | [.dK ks vs] => some (.d (ks.zip vs))
  | [.dT ks vs] => if ks.all padKB = true then some (.t (ks.zip vs)) else none
  | [.lst vs] => (mapO pairT vs).map fun kvs => .t (mrg [] kvs)
  | _ => none
def biStr : List Val → Option Val
  | [.int i] => if decide (i.natAbs.log2 < 1920) then some (.str (toString i)) else none
  | [.str x] => some (.str x)
  | _ => none
@[simp] def biOp (st : Store) (b : Bi) (vs : List Val) : Option Pv := match b with
  | .len => (biLen st vs).map .v
  | .max => (biMax st vs).map .v
  | .min => (biMin st vs).map .v
  | .all => (biAll st vs).map .v
  | .any => (biAny st vs).map .v
  | .tuple => (biTuple st vs).map .v
  | .list => biList st vs
  | .int => (biInt vs).map .v
  | .sorted => biSorted st vs
  | .dict => biDict st vs
  | .str => (biStr vs).map .v
  | .minD => (biMinD st vs).map .v
  | .sortD => biSortD st vs

/-- kinds that isinstance is asked for -/
inductive Kd where
  | bool | int | str | tuple | list | dict
  deriving DecidableEq
def kindOf (st : Store) : Val → Option Kd
  | .bl _ => some .bool
  | .int _ => some .int
  | .str _ => some .str
  | .tup _ => some .tuple
  | .lst _ => some .list
  | .dK _ _ => some .dict
  | .dT _ _ => some .dict
  | .loc l => match st[l]? with
    | some (.lst _) => some .list
    | some (.dK _) => some .dict
    | some (.dT _) => some .dict
    | _ => none
  | _ => none
/-- is a value of a kind; None is of none of them -/
def isinOp (st : Store) : Val → Kd → Option Bool
  | .non, _ => some false
  | v, k => (kindOf st v).map fun q => decide (q = k) || (decide (q = .bool) && decide (k = .int))

/-! ### methods of built-in types -/
inductive Mt where
  | append | extend | pop | clear | insert | join | split | sindex | dget | dpop | lindex | spart
  deriving DecidableEq
def mtLst (st : Store) (m : Mt) (vs xs : List Val) : Option (Val × List Val) := match m with
  | .append => match vs with
    | [y] => some (.non, xs ++ [y])
    | _ => none
  | .extend => match vs with
    | [w] => (lstOf st w).map fun zs => (.non, xs ++ zs)
    | _ => none
  | .pop => match vs with
    | [] => xs[xs.length - 1]?.map fun y => (y, xs.dropLast)
    | [.int i] => (seqIndex? i xs.length).bind fun k => if decide (-(2 ^ 63) ≤ i) && decide (i < 2 ^ 63) then xs[k]?.map fun y => (y, xs.eraseIdx k) else none
    | _ => none
  | .clear => match vs with
    | [] => some (.non, [])
    | _ => none
  | .insert => match vs with
    | [.int i, y] => if decide (0 ≤ i) && decide (i < 2 ^ 63) then some (.non, xs.take i.toNat ++ [y] ++ xs.drop i.toNat) else none
    | _ => none
  | _ => none
def obLst : Option Ob → Option (List Val)
  | some (.lst xs) => some xs
  | _ => none
/-- a list at the place l is changed -/
def wrLst (m : Mt) (l : Nat) (vs : List Val) : M Val := fun st => match obLst st[l]? with
  | some xs => match mtLst st m vs xs with
    | some (r, ys) => if szOk ys.length = true then .ok r (st.set l (.lst ys)) else .stuck
    | none => .stuck
  | none => .stuck
def toStr : Val → Option Str
  | .str x => some x
  | _ => none
def joinOp (st : Store) (a : Str) (w : Val) : Option Str := (seqOf st w).bind fun vs => (mapO toStr vs).bind fun ys => if (ys.map (·.length)).sum + ys.length * a.length ≤ 16777216 then some (Txt.join a ys) else none
def mtStr (new : Bool) (m : Mt) (a : Str) (vs : List Val) : M Val := match m with
  | .join => match vs with
    | [w] => fun st => bnd (ofOpt (joinOp st a w)) (fun x => ret (.str x)) st
    | _ => stuck
  | .split => match vs with
    | [.str b] => if !(b.length == 0) && decide (a.length + 2 ≤ sizeLine) then mk new (.l ((Txt.split a b).map .str)) else stuck
    | _ => stuck
  | .spart => match vs with
    | [.str b] => if !(b.length == 0) && decide (a.length ≤ sizeLine) then ret (.tup [.str (Txt.partition a b).1, .str (Txt.partition a b).2.1, .str (Txt.partition a b).2.2]) else stuck
    | _ => stuck
  | .sindex => match vs with
    | [.str b] => match Builtin.Str.occurrences a b 0 a.length 1 with
      | i :: _ => ret (.int (i : Nat))
      | [] => stuck
    | _ => stuck
  | _ => stuck
/-- d.get(k, x) -/
def obGet (vs : List Val) : Option Ob → Option Val
  | some (.dK kvs) => match vs with
    | [k, x] => (keyOf k).map fun k => (look kvs k).getD x
    | _ => none
  | some (.dT kvs) => match vs with
    | [k, x] => (keyT k).map fun k => (look kvs k).getD x
    | _ => none
  | _ => none
def getDic (v : Val) (vs : List Val) : M Val := match v with
  | .loc l => fun st => ofOpt (obGet vs st[l]?) st
  | _ => stuck
/-- d.pop(k): the value, and what is left -/
def obPop (vs : List Val) : Option Ob → Option (Val × Ob)
  | some (.dK kvs) => match vs with
    | [k] => (keyOf k).bind fun k => (look kvs k).map fun v => (v, .dK (drp kvs k))
    | _ => none
  | _ => none
def popDic (v : Val) (vs : List Val) : M Val := match v with
  | .loc l => fun st => match obPop vs st[l]? with
    | some r => .ok r.1 (st.set l r.2)
    | none => .stuck
  | _ => stuck
/-- xs.index(y) -/
def idxOp (st : Store) (v y : Val) (xs : List Val) : Option Nat :=
  if flat y && xs.all flat then xs.findIdx? fun z => eqF z y
  else if decide (xs.length ≤ 100000) then (toD st depthD y).bind fun d => (mapO (toD st depthD) xs).bind fun ds => ds.findIdx? fun e => PyData.eqv e d else none
def idxLst (v : Val) (vs : List Val) : M Val := fun st => match lstOf st v with
  | some xs => match vs with
    | [y] => match idxOp st v y xs with
      | some i => .ok (.int (i : Nat)) st
      | none => .stuck
    | _ => .stuck
  | none => .stuck
def mtOp (new : Bool) (m : Mt) (v : Val) (vs : List Val) : M Val := match m with
  | .dget => getDic v vs
  | .dpop => popDic v vs
  | .lindex => idxLst v vs
  | _ => match v with
    | .loc l => wrLst m l vs
    | .str a => mtStr new m a vs
    | _ => stuck
def mtIsStr : Mt → Bool
  | .join => true
  | .split => true
  | .sindex => true
  | .spart => true
  | _ => false
def mtIsDic : Mt → Bool
  | .dget => true
  | .dpop => true
  | _ => false
def obIsDic : Option Ob → Bool
  | some (.dK _) => true
  | some (.dT _) => true
  | _ => false
def isDic (st : Store) : Val → Bool
  | .loc l => obIsDic st[l]?
  | _ => false
def isStrV : Val → Bool
  | .str _ => true
  | _ => false
/-- has the value the method's type? -/
def tyOk (m : Mt) (st : Store) (v : Val) : Bool := if mtIsStr m = true then isStrV v else if mtIsDic m = true then isDic st v else (lstOf st v).isSome

/-! ### what a call gave, cut back to the store ahead of it -/
/-- what lies behind the place base is taken into the value itself -/
def frz (st : Store) (base : Nat) : Nat → Val → Option Val
  | 0, _ => none
  | n + 1, v => match v with
    | .tup xs => (mapO (frz st base n) xs).map .tup
    | .lst xs => (mapO (frz st base n) xs).map .lst
    | .dK ks vs => (mapO (frz st base n) vs).map (.dK ks)
    | .dT ks vs => (mapO (frz st base n) vs).map (.dT ks)
    | .loc l => if l < base then some (.loc l) else match st[l]? with
      | some (.lst xs) => (mapO (frz st base n) xs).map .lst
      | some (.dK kvs) => (mapO (frz st base n) (kvs.map (·.2))).map (.dK (kvs.map (·.1)))
      | some (.dT kvs) => (mapO (frz st base n) (kvs.map (·.2))).map (.dT (kvs.map (·.1)))
      | _ => none
    | v => some v
mutual
def locLt (n : Nat) : Val → Bool
  | .tup vs => locLtL n vs
  | .lst vs => locLtL n vs
  | .dK _ vs => locLtL n vs
  | .dT _ vs => locLtL n vs
  | .loc l => decide (l < n)
  | _ => true
def locLtL (n : Nat) : List Val → Bool
  | [] => true
  | v :: vs => locLt n v && locLtL n vs
end
def obLt (n : Nat) : Ob → Bool
  | .lst vs => locLtL n vs
  | .dK kvs => locLtL n (kvs.map (·.2))
  | .dT kvs => locLtL n (kvs.map (·.2))
  | .ins _ fs => locLtL n (fs.map (·.2))
/-- may the store be cut back to st's length? -/
def CutOk (st st' : Store) : Prop := st.length ≤ st'.length ∧ (st'.take st.length = st ∨ (st'.take st.length).all (obLt st.length) = true)
open Classical in
noncomputable def cutM (m : M Val) : M Val := fun st => match m st with
  | .ok v st' => if CutOk st st' then match frz st' st.length depthD v with
      | some w => .ok w (st'.take st.length)
      | none => .stuck
    else .stuck
  | .exc c r st' => if CutOk st st' then .exc c r (st'.take st.length) else .stuck
  | .stuck => .stuck

/-- as frz, but for the place x, which must not be met -/
def frzX (st : Store) (base x : Nat) : Nat → Val → Option Val
  | 0, _ => none
  | n + 1, v => match v with
    | .tup xs => (mapO (frzX st base x n) xs).map .tup
    | .lst xs => (mapO (frzX st base x n) xs).map .lst
    | .dK ks vs => (mapO (frzX st base x n) vs).map (.dK ks)
    | .dT ks vs => (mapO (frzX st base x n) vs).map (.dT ks)
    | .loc l => if l = x then none else if l < base then some (.loc l) else match st[l]? with
      | some (.lst xs) => (mapO (frzX st base x n) xs).map .lst
      | some (.dK kvs) => (mapO (frzX st base x n) (kvs.map (·.2))).map (.dK (kvs.map (·.1)))
      | some (.dT kvs) => (mapO (frzX st base x n) (kvs.map (·.2))).map (.dT (kvs.map (·.1)))
      | _ => none
    | v => some v
/-- a list that was laid by a call: its place and what stands there -/
def newLst (base : Nat) (st : Store) : Val → Option (Nat × List Val)
  | .loc l => if l < base then none else match st[l]? with
    | some (.lst xs) => some (l, xs)
    | _ => none
  | _ => none
open Classical in
/-- cut back, but a new list that is told stays one that may be changed -/
noncomputable def keepM (m : M Val) : M Val := fun st => match m st with
  | .ok v st' => if CutOk st st' then match newLst st.length st' v with
      | some q => match mapO (frzX st' st.length q.1 depthD) q.2 with
        | some ys => .ok (.loc st.length) (st'.take st.length ++ [.lst ys])
        | none => .stuck
      | none => match frz st' st.length depthD v with
        | some w => .ok w (st'.take st.length)
        | none => .stuck
    else .stuck
  | .exc c r st' => if CutOk st st' then .exc c r (st'.take st.length) else .stuck
  | .stuck => .stuck

/-! ### the texts -/
/-- a constant of the module -/
inductive Gv where
  | int (i : Int)
  | str (s : Str)
  | tups (ss : List Str)
  deriving DecidableEq
def gvVal : Gv → Val
  | .int i => .int i
  | .str s => .str s
  | .tups ss => .tup (ss.map .str)
inductive Md where
  | raw | cut | keep
/-- what a displayed dict begins with -/
inductive Ini where
  | var (i : Nat)
  | int (i : Int)
  | lst
  | dk
  deriving DecidableEq
/-- a target of names -/
inductive Tg where
  | nm (i : Nat)
  | tup (is : List Nat)
mutual
inductive E where
  | var (i : Nat)
  | int (i : Int)
  | str (s : Str)
  | bl (b : Bool)
  | non
  | glob (x : Str) (g : Gv)
  | bin (new : Bool) (op : Operator) (a b : E)
  | neg (a : E)
  | not (a : E)
  | bop (op : BoolOp) (es : Es)
  | cmp (op : CmpOp) (a b : E)
  | chain (o1 o2 : CmpOp) (a b c : E)
  | chain3 (o1 o2 o3 : CmpOp) (a b c d : E)
  | ife (c a b : E)
  | tup (es : Es)
  | lst (new : Bool) (es : Es)
  | ix (a b : E)
  | sl (new : Bool) (a : E) (lo hi : Oe)
  | rev (new : Bool) (a : E)
  | call (f : Str) (m : Md) (es : Es)
  | bi (new : Bool) (b : Bi) (es : Es)
  | isin (a : E) (k : Kd)
  | isinC (a : E) (c : Str)
  | mth (new : Bool) (m : Mt) (o : E) (es : Es)
  | lrange (new : Bool) (a b : E)
  | lrange1 (new : Bool) (a : E)
  | dnew (t : Bool)
  | ddisp (ks : List Key) (is : List Ini)
  | fld (o : E) (f : Str) (k : Nat)
  | meth (c : Str) (m : Str) (f : Str) (md : Md) (o : E) (es : Es)
  | lc (new : Bool) (own : List Nat) (tg : Tg) (it : It) (ifs : Es) (e : E)
  | lcx (own : List Nat) (tg : Tg) (it : It) (e : E)
  | gin (neg : Bool) (a : E) (x : Str) (ss : List Str)
  | gdin (neg : Bool) (a : E) (x : Str) (kvs : List (Str × Int))
  | gdix (x : Str) (kvs : List (Str × Int)) (a : E)
  | lenset (a : E)
  | srtset (new : Bool) (a : E)
  | pick (fs : List Str) (m : Md) (ix : E) (es : Es)
  | ndict (es : Es)
inductive Es where
  | nil
  | cons (e : E) (es : Es)
inductive Oe where
  | none
  | some (e : E)
inductive It where
  | seq (e : E)
  | rng1 (a : E)
  | chars (a : E)
  | rng2 (a b : E)
  | enum (e : E)
end

/-- how many unlike ints: each once, in the order in which they are met -/
def ddS : List Int → List Int → List Int
  | acc, [] => acc
  | acc, n :: ns => ddS (if acc.any (· == n) = true then acc else acc ++ [n]) ns
/-- len(set(v)) -/
def lenSet (st : Store) (v : Val) : Option Val := (lstOf st v).bind fun xs => (mapO toInt xs).bind fun ns => if decide (ns.length < 4000) = true then some (.int ((ddS [] ns).length : Nat)) else none
/-- sorted(set(v)) -/
def srtSet (st : Store) (v : Val) : Option Pv := (lstOf st v).bind fun xs => (mapO toInt xs).bind fun ns => if decide (ns.length < 64) = true then some (.l ((srt (ddS [] ns)).map .int)) else none
noncomputable def inMd (m : Md) (F : M Val) : M Val := match m with
  | .raw => F
  | .cut => cutM F
  | .keep => keepM F
/-! ### running expressions -/
def wipe (env : Env) : List Nat → Env
  | [] => env
  | v :: vs => (wipe env vs).set v none
def setAll : List Nat → List Val → Env → Option Env
  | [], [], env => some env
  | i :: is, v :: vs, env => setAll is vs (env.set i (some v))
  | _, _, _ => none
def assignTg (tg : Tg) (v : Val) (env : Env) : Option Env := match tg with
  | .nm i => some (env.set i (some v))
  | .tup is => match v with
    | .tup vs => setAll is vs env
    | _ => none
@[simp] def getVar (env : Env) (i : Nat) : M Val := match env[i]? with
  | some (some v) => ret v
  | _ => stuck
/-- a field of an instance: its place and its name -/
def obFld (f : Str) (k : Nat) : Option Ob → Option Val
  | some (.ins _ fs) => match fs[k]? with
    | some p => if p.1 = f then some p.2 else none
    | none => none
  | _ => none
def fldOp (st : Store) (f : Str) (k : Nat) : Val → Option Val
  | .loc l => obFld f k st[l]?
  | _ => none
/-- is it an instance of the class? -/
def obIns (c : Str) : Option Ob → Bool
  | some (.ins d _) => decide (d = c)
  | _ => false
def isIns (st : Store) (c : Str) : Val → Bool
  | .loc l => obIns c st[l]?
  | _ => false
/-- a displayed dict's beginnings, one after another -/
def ini1 (env : Env) (st : Store) : Ini → Option (Val × Store)
  | .var j => match env[j]? with
    | some (some v) => some (v, st)
    | _ => none
  | .int j => some (.int j, st)
  | .lst => some (.loc st.length, st ++ [.lst []])
  | .dk => some (.loc st.length, st ++ [.dK []])
def iniS (env : Env) : List Ini → Store → Option (List Val × Store)
  | [], st => some ([], st)
  | i :: is, st => (ini1 env st i).bind fun q => (iniS env is q.2).map fun r => (q.1 :: r.1, r.2)
def dispV (ks : List Key) (vs : List Val) : M Val := if decide (ks.Nodup) && decide (ks.length = vs.length) && decide (ks.length ≤ 15) then mk true (.d (ks.zip vs)) else stuck
def dispM (ks : List Key) : Option (List Val × Store) → R Val
  | some (vs, st) => dispV ks vs st
  | none => .stuck
/-- the ints lo .. hi - 1 -/
def rangeV (lo hi : Int) : List Val := (List.range (hi - lo).toNat).map fun i => .int (lo + (i : Nat))
def rngRaw (a b : Int) : Bool := decide (-(2 ^ 62) ≤ a) && decide (a < 2 ^ 62) && decide (-(2 ^ 62) ≤ b) && decide (b < 2 ^ 62) && decide ((b - a).toNat ≤ sizeLine)
theorem rngEx : ∃ f : Int → Int → Bool, f = rngRaw := ⟨_, rfl⟩
/-- the same, shut -/
noncomputable def rngOk : Int → Int → Bool := Classical.choose rngEx
theorem rngOk_eq : rngOk = rngRaw := Classical.choose_spec rngEx
/-- the place of the list that is walked: the list itself, or its items with their numbers -/
inductive At where
  | at (l : Nat)
  | en (l : Nat)
instance : Coe Nat At := ⟨At.at⟩
/-- what is walked: its items, and the place of the list that must stand still meanwhile -/
structure Items where
  xs : List Val
  at_ : Option At
def itemsOf (st : Store) : Val → Option Items
  | .tup xs => some ⟨xs, none⟩
  | .lst xs => some ⟨xs, none⟩
  | .loc l => match st[l]? with
    | some (.lst xs) => some ⟨xs, some (.at l)⟩
    | _ => none
  | _ => none
def enumFrom : Nat → List Val → List Val
  | _, [] => []
  | n, v :: vs => .tup [.int n, v] :: enumFrom (n + 1) vs
/-- does the list still hold the same items? -/
@[simp] def Still (it : Items) (st : Store) : Prop := match it.at_ with
  | none => True
  | some (.at l) => st[l]? = some (.lst it.xs)
  | some (.en l) => ∃ vs, it.xs = enumFrom 0 vs ∧ st[l]? = some (.lst vs)
/-- the turns of a comprehension -/
noncomputable def lcLoop (turn : Val → M (Option Val)) (still : Store → Prop) : List Val → List Val → M (List Val)
  | [], acc => ret acc
  | x :: xs, acc => fun st => open Classical in if still st then
      match turn x st with
      | .ok (some y) st' => lcLoop turn still xs (acc ++ [y]) st'
      | .ok none st' => lcLoop turn still xs acc st'
      | .exc c r st' => .exc c r st'
      | .stuck => .stuck
    else .stuck
/-- within a comprehension nothing may be raised -/
@[simp] def noExc {α : Type} (m : M α) : M α := fun st => match m st with
  | .exc _ _ _ => .stuck
  | r => r
/-- the answer behind which and, or ask on -/
@[simp] def goOn : BoolOp → Bool
  | .And => true
  | .Or => false
def asBl : Val → M Bool
  | .bl b => ret b
  | _ => stuck
def asStr : Val → M Str
  | .str x => ret x
  | _ => stuck
def asInt : Val → M Int
  | .int i => ret i
  | _ => stuck
/-- a turn of the comprehension -/
noncomputable def lcTurn (tgt : Tg) (own : List Nat) (mT : Env → M Bool) (mE : Env → M Val) (env : Env) : Val → M (Option Val) := fun x => match assignTg tgt x (wipe env own) with
  | some env' => noExc (bnd (mT env') fun k => if k = true then bnd (mE env') fun y => ret (some y) else ret none)
  | none => stuck
noncomputable def lcRaw (new : Bool) (own : List Nat) (mI : Env → M Items) (tgt : Tg) (mT : Env → M Bool) (mE : Env → M Val) : Env → M Val := fun env =>
  bnd (mI env) fun is => bnd (lcLoop (lcTurn tgt own mT mE env) (Still is) is.xs []) fun ys => fun st => open Classical in if Still is st then mk new (.l ys) st else .stuck
theorem lcEx : ∃ f : Bool → List Nat → (Env → M Items) → Tg → (Env → M Bool) → (Env → M Val) → Env → M Val, f = lcRaw := ⟨_, rfl⟩
/-- the same, shut: nobody is to reckon it by the way -/
noncomputable def lcSem : Bool → List Nat → (Env → M Items) → Tg → (Env → M Bool) → (Env → M Val) → Env → M Val := Classical.choose lcEx
theorem lcSem_eq : lcSem = lcRaw := Classical.choose_spec lcEx
/-- the turns of a comprehension whose element may raise -/
noncomputable def lcxLoop (turn : Val → M Val) (still : Store → Prop) : List Val → List Val → M (List Val)
  | [], acc => ret acc
  | x :: xs, acc => fun st => open Classical in if still st then
      match turn x st with
      | .ok y st' => lcxLoop turn still xs (acc ++ [y]) st'
      | .exc c r st' => .exc c r st'
      | .stuck => .stuck
    else .stuck
noncomputable def lcxTurn (tgt : Tg) (own : List Nat) (mE : Env → M Val) (env : Env) : Val → M Val := fun x => match assignTg tgt x (wipe env own) with
  | some env' => mE env'
  | none => stuck
noncomputable def lcxRaw (own : List Nat) (mI : Env → M Items) (tgt : Tg) (mE : Env → M Val) : Env → M Val := fun env =>
  bnd (mI env) fun is => bnd (lcxLoop (lcxTurn tgt own mE env) (Still is) is.xs []) fun ys => fun st => open Classical in if Still is st then mk false (.l ys) st else .stuck
theorem lcxEx : ∃ f : List Nat → (Env → M Items) → Tg → (Env → M Val) → Env → M Val, f = lcxRaw := ⟨_, rfl⟩
noncomputable def lcxSem : List Nat → (Env → M Items) → Tg → (Env → M Val) → Env → M Val := Classical.choose lcxEx
theorem lcxSem_eq : lcxSem = lcxRaw := Classical.choose_spec lcxEx
section
variable (C : Str → List Val → M Val)
mutual
noncomputable def evE : E → Env → M Val
  | .var i, env => getVar env i
  | .int i, _ => ret (.int i)
  | .str s, _ => ret (.str s)
  | .bl b, _ => ret (.bl b)
  | .non, _ => ret .non
  | .glob _ g, _ => ret (gvVal g)
  | .bin new op a b, env => bnd (evE a env) fun v => bnd (evE b env) fun w => fun st => bnd (ofOpt (binOp st op v w)) (mk new) st
  | .neg a, env => bnd (bnd (evE a env) asInt) fun i => ret (.int (-i))
  | .not a, env => bnd (bnd (evE a env) asBl) fun b => ret (.bl (!b))
  | .bop op es, env => evB op es env
  | .cmp op a b, env => bnd (evE a env) fun v => bnd (evE b env) fun w => fun st => bnd (ofOpt (cmpOp st op v w)) (fun b => ret (.bl b)) st
  | .chain o1 o2 a b c, env => bnd (evE a env) fun v => bnd (evE b env) fun w => fun st => bnd (ofOpt (cmpOp st o1 v w)) (fun k =>
      if k = true then bnd (evE c env) fun u => fun st => bnd (ofOpt (cmpOp st o2 w u)) (fun b => ret (.bl b)) st else ret (.bl false)) st
  | .chain3 o1 o2 o3 a b c d, env => bnd (evE a env) fun v => bnd (evE b env) fun w => fun st => bnd (ofOpt (cmpOp st o1 v w)) (fun k =>
      if k = true then bnd (evE c env) fun u => fun st => bnd (ofOpt (cmpOp st o2 w u)) (fun k2 =>
        if k2 = true then bnd (evE d env) fun x => fun st => bnd (ofOpt (cmpOp st o3 u x)) (fun b => ret (.bl b)) st else ret (.bl false)) st else ret (.bl false)) st
  | .ife c a b, env => bnd (bnd (evE c env) asBl) fun k => if k = true then evE a env else evE b env
  | .tup es, env => bnd (evEs es env) fun vs => if szOk vs.length = true then ret (.tup vs) else stuck
  | .lst new es, env => bnd (evEs es env) fun vs => if szOk vs.length = true then mk new (.l vs) else stuck
  | .ix a b, env => bnd (evE a env) fun v => bnd (evE b env) fun w => fun st => bnd (ofOpt (ixOp st v w)) ret st
  | .sl new a lo hi, env => bnd (evE a env) fun v => bnd (evO lo env) fun l => bnd (evO hi env) fun h => fun st => bnd (ofOpt (slOp st v l h)) (mk new) st
  | .rev new a, env => bnd (evE a env) fun v => fun st => bnd (ofOpt (revOp st v)) (mk new) st
  | .call f m es, env => bnd (evEs es env) fun vs => inMd m (C f vs)
  | .bi new b es, env => bnd (evEs es env) fun vs => fun st => bnd (ofOpt (biOp st b vs)) (mk new) st
  | .isinC a c, env => bnd (evE a env) fun v => fun st => if isIns st c v = true then .ok (.bl true) st else .stuck
  | .isin a k, env => bnd (evE a env) fun v => fun st => bnd (ofOpt (isinOp st v k)) (fun b => ret (.bl b)) st
  | .mth new m o es, env => bnd (evE o env) fun v => fun st => if tyOk m st v = true then bnd (evEs es env) (fun vs => mtOp new m v vs) st else .stuck
  | .lrange new a b, env => bnd (bnd (evE a env) asInt) fun i => bnd (bnd (evE b env) asInt) fun j => if rngOk i j = true then mk new (.l (rangeV i j)) else stuck
  | .lrange1 new a, env => bnd (bnd (evE a env) asInt) fun j => if rngOk 0 j = true then mk new (.l (rangeV 0 j)) else stuck
  | .dnew t, _ => if t = true then mk true (.t []) else mk true (.d [])
  | .ddisp ks is, env => fun st => dispM ks (iniS env is st)
  | .fld o f k, env => bnd (evE o env) fun v => fun st => ofOpt (fldOp st f k v) st
  | .meth c _ f md o es, env => bnd (evE o env) fun v => fun st => if isIns st c v = true then bnd (evEs es env) (fun vs => inMd md (C f (v :: vs))) st else .stuck
  | .lc new own tg it ifs e, env => lcSem new own (evI it) tg (evT ifs) (evE e) env
  | .lcx own tg it e, env => lcxSem own (evI it) tg (evE e) env
  | .gin neg a _ ss, env => bnd (bnd (evE a env) asStr) fun x => ret (.bl (neg != ss.contains x))
  | .gdin neg a _ kvs, env => bnd (bnd (evE a env) asStr) fun x => ret (.bl (neg != (kvs.lookup x).isSome))
  | .gdix _ kvs a, env => bnd (bnd (evE a env) asStr) fun x => bnd (ofOpt (kvs.lookup x)) fun i => ret (.int i)
  | .lenset a, env => bnd (evE a env) fun v => fun st => bnd (ofOpt (lenSet st v)) ret st
  | .srtset new a, env => bnd (evE a env) fun v => fun st => bnd (ofOpt (srtSet st v)) (mk new) st
  | .pick fs m ix es, env => bnd (bnd (evE ix env) asInt) fun i => bnd (ofOpt (L2.atI fs i)) fun f => bnd (evEs es env) fun vs => inMd m (C f vs)
  | .ndict es, env => bnd (evEs es env) fun vs => fun st => bnd (ofOpt (dicNs st vs)) ret st
noncomputable def evEs : Es → Env → M (List Val)
  | .nil, _ => ret []
  | .cons e es, env => bnd (evE e env) fun v => bnd (evEs es env) fun vs => ret (v :: vs)
noncomputable def evO : Oe → Env → M (Option Int)
  | .none, _ => ret none
  | .some e, env => bnd (bnd (evE e env) asInt) fun i => ret (some i)
/-- and, or -/
noncomputable def evB : BoolOp → Es → Env → M Val
  | _, .nil, _ => stuck
  | _, .cons e .nil, env => evE e env
  | op, .cons e (.cons e2 es), env => bnd (bnd (evE e env) asBl) fun k => if k = goOn op then evB op (.cons e2 es) env else ret (.bl k)
/-- a clause's tests: none or one -/
noncomputable def evT : Es → Env → M Bool
  | .nil, _ => ret true
  | .cons e .nil, env => bnd (evE e env) asBl
  | .cons _ (.cons _ _), _ => stuck
noncomputable def evI : It → Env → M Items
  | .seq e, env => bnd (evE e env) fun v => fun st => ofOpt (itemsOf st v) st
  | .chars a, env => bnd (bnd (evE a env) asStr) fun z => if szOk z.length = true then ret ⟨z.cps.toList.map fun c => .str ⟨#[c]⟩, none⟩ else stuck
  | .rng1 a, env => bnd (bnd (evE a env) asInt) fun j => if rngOk 0 j = true then ret ⟨rangeV 0 j, none⟩ else stuck
  | .rng2 a b, env => bnd (bnd (evE a env) asInt) fun i => bnd (bnd (evE b env) asInt) fun j => if rngOk i j = true then ret ⟨rangeV i j, none⟩ else stuck
  | .enum e, env => bnd (evE e env) fun v => fun st => match itemsOf st v with
    | some is => match is.at_ with
      | none => .ok ⟨enumFrom 0 is.xs, none⟩ st
      | some (.at l) => .ok ⟨enumFrom 0 is.xs, some (.en l)⟩ st
      | some (.en _) => .stuck
    | none => .stuck
end
end

end Rc
/-! Rc2: how values and stores of the small language stand in the model's heap; what is carried over; the judgements. -/
namespace Rc
open PySem L2

/-! ### standing -/
/-- the addresses of the store's places; those that are reserved (a comprehension's list while it grows) -/
structure Pl where
  ps : List Addr
  rs : List Addr
instance : Membership Addr Pl := ⟨fun ρ a => a ∈ ρ.ps ∨ a ∈ ρ.rs⟩
theorem Pl.mem_iff {ρ : Pl} {a : Addr} : a ∈ ρ ↔ a ∈ ρ.ps ∨ a ∈ ρ.rs := Iff.rfl
def TupAt (K : PySem.W.Frag) (ρ : Pl) (H : Hp) (a : Addr) (ws : List V) : Prop := H a = some (.tup ws) ∧ a ∉ ρ
def KLst (K : PySem.W.Frag) (a : Addr) (xs : List V) : Prop :=
  ∃ (o : Obj) (its : Array Value) (n : Nat), K.lookup a = some o ∧ o.cls = .type "list" ∧ o.dict = none ∧ o.data = .seq its n ∧ its.size ≤ sizeLine ∧ Vals xs its.toList
/-- the script: it stands for good -/
def ScrAt (K : PySem.W.Frag) (ρ : Pl) (H : Hp) (a : Addr) (ns : List Int) : Prop := (Rd H a (.lst (ns.map V.int)) ∧ a ∉ ρ) ∨ KLst K a (ns.map V.int)
theorem ScrAt.sq {K : PySem.W.Frag} {ρ : Pl} {H : Hp} {a : Addr} {ns : List Int} (h : ScrAt K ρ H a ns) : SqL K H a (ns.map V.int) := by
  rcases h with ⟨h, _⟩ | h
  · exact .inl h
  · exact .inr h
theorem TupAt.sq {K : PySem.W.Frag} {ρ : Pl} {H : Hp} {a : Addr} {ws : List V} (h : TupAt K ρ H a ws) : SqT K H a ws := .of h.1
/-! ### dicts whose keys are tuples of tuples of ints -/
abbrev NK := List (List Int)
def hN (k : NK) : Int := reduceHash (Builtin.Tuple.tupleHashOf (k.map fun c => reduceHash (Builtin.Tuple.tupleHashOf (c.map hashInt))))
def entN (x : NK × Addr × Value) : DictEntry := ⟨hN x.1, .ref x.2.1, x.2.2⟩
def DicN (a : Addr) (xs : List (NK × Addr × Value)) : Heap → Prop := fun h => ∃ o es ep, h.get? a = some o ∧ o.ExactDict ∧ o.data = .dict es ep ∧ es.toList = xs.map entN
/-- the tuple of tuples at b -/
def NKAt (K : PySem.W.Frag) (ρ : Pl) (H : Hp) (k : NK) (b : Addr) : Prop := ∃ cs : List Addr, TupAt K ρ H b (cs.map V.ref) ∧ Paired (fun c is => TupAt K ρ H c (is.map V.int)) cs k
structure DnAt (K : PySem.W.Frag) (ρ : Pl) (H : Hp) (a : Addr) (xs : List (NK × Addr × Value)) : Prop where
  at_ : H a = some (.ext (DicN a xs))
  no : a ∉ ρ
  sys : (a == sysModules) = false
  nd : (xs.map (·.1)).Nodup
  keys : ∀ x ∈ xs, NKAt K ρ H x.1 x.2.1
theorem paired_mono {α β : Type} {R S : α → β → Prop} (h : ∀ a b, R a b → S a b) : ∀ {as : List α} {bs : List β}, Paired R as bs → Paired S as bs
  | _, _, .nil => .nil
  | _, _, .cons r t => .cons (h _ _ r) (paired_mono h t)
theorem NKAt.mono {K : PySem.W.Frag} {ρ ρ' : Pl} {H H' : Hp} (e : ∀ a o, H a = some o → a ∉ ρ → H' a = some o ∧ a ∉ ρ') {k : NK} {b : Addr} (h : NKAt K ρ H k b) : NKAt K ρ' H' k b := by
  obtain ⟨cs, h1, h2⟩ := h
  exact ⟨cs, e _ _ h1.1 h1.2, paired_mono (fun c is h => e _ _ h.1 h.2) h2⟩
theorem DnAt.mono {K : PySem.W.Frag} {ρ ρ' : Pl} {H H' : Hp} (e : ∀ a o, H a = some o → a ∉ ρ → H' a = some o ∧ a ∉ ρ') {a : Addr} {xs : List (NK × Addr × Value)} (h : DnAt K ρ H a xs) : DnAt K ρ' H' a xs :=
  ⟨(e _ _ h.at_ h.no).1, (e _ _ h.at_ h.no).2, h.sys, h.nd, fun x hx => (h.keys x hx).mono e⟩
mutual
/-- a value of the small language stands as a value of the layer -/
inductive Rep (K : PySem.W.Frag) (ρ : Pl) (H : Hp) : Val → V → Prop
  | non : Rep K ρ H .non .non
  | bl (b : Bool) : Rep K ρ H (.bl b) (.bl b)
  | int (i : Int) : Rep K ρ H (.int i) (.int i)
  | str (x : Str) : Rep K ρ H (.str x) (.str x)
  | tup {a : Addr} {ws : List V} {vs : List Val} : TupAt K ρ H a ws → RepL K ρ H vs ws → Rep K ρ H (.tup vs) (.ref a)
  | lst {a : Addr} {ws : List V} {vs : List Val} : H a = some (.lst ws) → a ∉ ρ → RepL K ρ H vs ws → Rep K ρ H (.lst vs) (.ref a)
  | dK {a : Addr} {kws : List (Key × V)} {vs : List Val} : H a = some (.dK kws) → a ∉ ρ → RepL K ρ H vs (kws.map (·.2)) → Rep K ρ H (.dK (kws.map (·.1)) vs) (.ref a)
  | dT {a : Addr} {kws : List (List Key × V)} {vs : List Val} : H a = some (.dT kws) → a ∉ ρ → RepL K ρ H vs (kws.map (·.2)) → Rep K ρ H (.dT (kws.map (·.1)) vs) (.ref a)
  | loc {l : Nat} {a : Addr} : ρ.ps[l]? = some a → Rep K ρ H (.loc l) (.ref a)
  | scr {a : Addr} {ns : List Int} : ScrAt K ρ H a ns → Rep K ρ H (.scr ns) (.ref a)
  | dN {a : Addr} {xs : List (NK × Addr × Value)} : DnAt K ρ H a xs → Rep K ρ H (.dN (xs.map (·.1))) (.ref a)
inductive RepL (K : PySem.W.Frag) (ρ : Pl) (H : Hp) : List Val → List V → Prop
  | nil : RepL K ρ H [] []
  | cons {v : Val} {vs : List Val} {w : V} {ws : List V} : Rep K ρ H v w → RepL K ρ H vs ws → RepL K ρ H (v :: vs) (w :: ws)
end

/-- an instance's class and the names of its fields -/
structure InsOk (K : PySem.W.Frag) (c : Str) (gs : List (Str × V)) : Prop where
  cls : Cls K (He.ga K c)
  nd : (gs.map (·.1)).Nodup
  noat : ∀ p ∈ gs, NoAttr K (He.ga K c) p.1
/-- the object o of the small language stands as h, at the address a -/
inductive RelOb (K : PySem.W.Frag) (ρ : Pl) (H : Hp) (a : Addr) : Ob → HO → Prop
  | lst {vs : List Val} {ws : List V} : RepL K ρ H vs ws → RelOb K ρ H a (.lst vs) (.lst ws)
  | dK {kvs : List (Key × Val)} {kws : List (Key × V)} : kvs.map (·.1) = kws.map (·.1) → RepL K ρ H (kvs.map (·.2)) (kws.map (·.2)) → RelOb K ρ H a (.dK kvs) (.dK kws)
  | dT {kvs : List (List Key × Val)} {kws : List (List Key × V)} : kvs.map (·.1) = kws.map (·.1) → RepL K ρ H (kvs.map (·.2)) (kws.map (·.2)) → RelOb K ρ H a (.dT kvs) (.dT kws)
  | ins {c : Str} {dx : Addr} {fs : List (Str × Val)} {gs : List (Str × V)} : InsOk K c gs → H dx = some (.own a) → dx ∉ ρ → fs.map (·.1) = gs.map (·.1) → RepL K ρ H (fs.map (·.2)) (gs.map (·.2)) → RelOb K ρ H a (.ins c fs) (.ins (He.ga K c) dx gs)

structure RelS (K : PySem.W.Frag) (ρ : Pl) (st : Store) (H : Hp) : Prop where
  len : ρ.ps.length = st.length
  nd : ρ.ps.Nodup
  at_ : ∀ (l : Nat) (a : Addr) (o : Ob), ρ.ps[l]? = some a → st[l]? = some o → ∃ h, H a = some h ∧ RelOb K ρ H a o h
  rs : ∀ a ∈ ρ.rs, a ∉ ρ.ps ∧ ∃ o, H a = some o

/-- a later heap: all that stands for good stands as it did -/
structure Ext0 (ρ : Pl) (H : Hp) (ρ' : Pl) (H' : Hp) : Prop where
  keep : ∀ a o, H a = some o → a ∉ ρ → H' a = some o ∧ a ∉ ρ'
  pre : ρ.ps <+: ρ'.ps
/-- .. and what is reserved, too -/
structure Ext (ρ : Pl) (H : Hp) (ρ' : Pl) (H' : Hp) : Prop extends Ext0 ρ H ρ' H' where
  rs : ρ'.rs = ρ.rs
  rk : ∀ a ∈ ρ.rs, H' a = H a

theorem Ext0.refl (ρ : Pl) (H : Hp) : Ext0 ρ H ρ H := ⟨fun _ _ h n => ⟨h, n⟩, List.prefix_refl _⟩
theorem Ext0.trans {ρ ρ1 ρ2 : Pl} {H H1 H2 : Hp} (a : Ext0 ρ H ρ1 H1) (b : Ext0 ρ1 H1 ρ2 H2) : Ext0 ρ H ρ2 H2 :=
  ⟨fun x o h n => b.keep x o (a.keep x o h n).1 (a.keep x o h n).2, a.pre.trans b.pre⟩
theorem Ext.refl (ρ : Pl) (H : Hp) : Ext ρ H ρ H := ⟨.refl _ _, rfl, fun _ _ => rfl⟩
theorem Ext.trans {ρ ρ1 ρ2 : Pl} {H H1 H2 : Hp} (a : Ext ρ H ρ1 H1) (b : Ext ρ1 H1 ρ2 H2) : Ext ρ H ρ2 H2 :=
  ⟨a.toExt0.trans b.toExt0, b.rs.trans a.rs, fun x h => (b.rk x (a.rs ▸ h)).trans (a.rk x h)⟩
theorem Ext0.rd {ρ ρ' : Pl} {H H' : Hp} {a : Addr} {u : HO} (e : Ext0 ρ H ρ' H') (h : Rd H a u) (n : a ∉ ρ) : Rd H' a u ∧ a ∉ ρ' := by
  rcases h with h | ⟨o, h⟩
  · exact ⟨.inl (e.keep a _ h n).1, (e.keep a _ h n).2⟩
  · exact ⟨.inr ⟨o, (e.keep a _ h n).1⟩, (e.keep a _ h n).2⟩
theorem Ext0.tup {K : PySem.W.Frag} {ρ ρ' : Pl} {H H' : Hp} {a : Addr} {ws : List V} (e : Ext0 ρ H ρ' H') (h : TupAt K ρ H a ws) : TupAt K ρ' H' a ws := e.keep _ _ h.1 h.2
theorem Ext0.scr {K : PySem.W.Frag} {ρ ρ' : Pl} {H H' : Hp} {a : Addr} {ns : List Int} (e : Ext0 ρ H ρ' H') (h : ScrAt K ρ H a ns) : ScrAt K ρ' H' a ns := by
  rcases h with ⟨h, n⟩ | h
  · exact .inl (e.rd h n)
  · exact .inr h
theorem Ext0.at_ {ρ ρ' : Pl} {H H' : Hp} {l : Nat} {a : Addr} (e : Ext0 ρ H ρ' H') (h : ρ.ps[l]? = some a) : ρ'.ps[l]? = some a := by
  obtain ⟨t, et⟩ := e.pre
  rw [← et, List.getElem?_append_left (List.getElem?_eq_some_iff.mp h).1]
  exact h
mutual
theorem Rep.ext0 {K : PySem.W.Frag} {ρ ρ' : Pl} {H H' : Hp} (e : Ext0 ρ H ρ' H') : ∀ {v : Val} {w : V}, Rep K ρ H v w → Rep K ρ' H' v w
  | _, _, .non => .non
  | _, _, .bl b => .bl b
  | _, _, .int i => .int i
  | _, _, .str x => .str x
  | _, _, .tup h r => .tup (e.tup h) (RepL.ext0 e r)
  | _, _, .lst h n r => .lst (e.keep _ _ h n).1 (e.keep _ _ h n).2 (RepL.ext0 e r)
  | _, _, .dK h n r => .dK (e.keep _ _ h n).1 (e.keep _ _ h n).2 (RepL.ext0 e r)
  | _, _, .dT h n r => .dT (e.keep _ _ h n).1 (e.keep _ _ h n).2 (RepL.ext0 e r)
  | _, _, .loc h => .loc (e.at_ h)
  | _, _, .scr h => .scr (e.scr h)
  | _, _, .dN h => .dN (h.mono e.keep)
theorem RepL.ext0 {K : PySem.W.Frag} {ρ ρ' : Pl} {H H' : Hp} (e : Ext0 ρ H ρ' H') : ∀ {vs : List Val} {ws : List V}, RepL K ρ H vs ws → RepL K ρ' H' vs ws
  | _, _, .nil => .nil
  | _, _, .cons h r => .cons (Rep.ext0 e h) (RepL.ext0 e r)
end
theorem Rep.ext {K : PySem.W.Frag} {ρ ρ' : Pl} {H H' : Hp} {v : Val} {w : V} (h : Rep K ρ H v w) (e : Ext ρ H ρ' H') : Rep K ρ' H' v w := h.ext0 e.toExt0
theorem RepL.ext {K : PySem.W.Frag} {ρ ρ' : Pl} {H H' : Hp} {v : List Val} {w : List V} (h : RepL K ρ H v w) (e : Ext ρ H ρ' H') : RepL K ρ' H' v w := h.ext0 e.toExt0
theorem RepL.length {K : PySem.W.Frag} {ρ : Pl} {H : Hp} : ∀ {vs : List Val} {ws : List V}, RepL K ρ H vs ws → vs.length = ws.length
  | _, _, .nil => rfl
  | _, _, .cons _ r => by rw [List.length_cons, List.length_cons, r.length]
theorem RepL.append {K : PySem.W.Frag} {ρ : Pl} {H : Hp} : ∀ {vs vs' : List Val} {ws ws' : List V}, RepL K ρ H vs ws → RepL K ρ H vs' ws' → RepL K ρ H (vs ++ vs') (ws ++ ws')
  | _, _, _, _, .nil, s => s
  | _, _, _, _, .cons h r, s => .cons h (r.append s)
theorem RepL.take {K : PySem.W.Frag} {ρ : Pl} {H : Hp} : ∀ {vs : List Val} {ws : List V} (n : Nat), RepL K ρ H vs ws → RepL K ρ H (vs.take n) (ws.take n)
  | _, _, 0, _ => by simp only [List.take_zero]; exact .nil
  | _, _, _ + 1, .nil => .nil
  | _, _, n + 1, .cons h r => .cons h (r.take n)
theorem RepL.drop {K : PySem.W.Frag} {ρ : Pl} {H : Hp} : ∀ {vs : List Val} {ws : List V} (n : Nat), RepL K ρ H vs ws → RepL K ρ H (vs.drop n) (ws.drop n)
  | _, _, 0, r => r
  | _, _, _ + 1, .nil => .nil
  | _, _, n + 1, .cons _ r => r.drop n
theorem RepL.get {K : PySem.W.Frag} {ρ : Pl} {H : Hp} : ∀ {vs : List Val} {ws : List V} {i : Nat} {v : Val}, RepL K ρ H vs ws → vs[i]? = some v → ∃ w, ws[i]? = some w ∧ Rep K ρ H v w
  | _, _, _, _, .nil, e => by simp at e
  | _, _, 0, _, .cons h _, e => by simp at e; subst e; exact ⟨_, rfl, h⟩
  | _, _, i + 1, v, .cons _ r, e => by
    obtain ⟨u, h1, h2⟩ := RepL.get (i := i) (v := v) r (by simpa using e)
    exact ⟨u, by simpa using h1, h2⟩
theorem RepL.getB {K : PySem.W.Frag} {ρ : Pl} {H : Hp} : ∀ {vs : List Val} {ws : List V} {i : Nat} {w : V}, RepL K ρ H vs ws → ws[i]? = some w → ∃ v, vs[i]? = some v ∧ Rep K ρ H v w
  | _, _, _, _, .nil, e => by simp at e
  | _, _, 0, _, .cons h _, e => by simp at e; subst e; exact ⟨_, rfl, h⟩
  | _, _, i + 1, v, .cons _ r, e => by
    obtain ⟨u, h1, h2⟩ := RepL.getB (i := i) (w := v) r (by simpa using e)
    exact ⟨u, by simpa using h1, h2⟩
theorem RepL.set {K : PySem.W.Frag} {ρ : Pl} {H : Hp} {v : Val} {w : V} (h0 : Rep K ρ H v w) : ∀ {vs : List Val} {ws : List V} (i : Nat), RepL K ρ H vs ws → RepL K ρ H (vs.set i v) (ws.set i w)
  | _, _, _, .nil => .nil
  | _, _, 0, .cons _ r => .cons h0 r
  | _, _, i + 1, .cons h r => .cons h (r.set h0 i)
theorem RepL.reverse {K : PySem.W.Frag} {ρ : Pl} {H : Hp} : ∀ {vs : List Val} {ws : List V}, RepL K ρ H vs ws → RepL K ρ H vs.reverse ws.reverse
  | _, _, .nil => .nil
  | _, _, .cons h r => by
    rw [List.reverse_cons, List.reverse_cons]
    exact r.reverse.append (.cons h .nil)
theorem RepL.rep {K : PySem.W.Frag} {ρ : Pl} {H : Hp} {vs : List Val} {ws : List V} (r : RepL K ρ H vs ws) : ∀ n : Nat, RepL K ρ H (List.replicate n vs).flatten (List.replicate n ws).flatten
  | 0 => .nil
  | n + 1 => by
    rw [List.replicate_succ, List.replicate_succ, List.flatten_cons, List.flatten_cons]
    exact r.append (r.rep n)
theorem RelOb.ext0 {K : PySem.W.Frag} {ρ ρ' : Pl} {H H' : Hp} {a : Addr} (e : Ext0 ρ H ρ' H') : ∀ {o : Ob} {h : HO}, RelOb K ρ H a o h → RelOb K ρ' H' a o h
  | _, _, .lst r => .lst (r.ext0 e)
  | _, _, .dK k r => .dK k (r.ext0 e)
  | _, _, .dT k r => .dT k (r.ext0 e)
  | _, _, .ins i d n k r => .ins i (e.keep _ _ d n).1 (e.keep _ _ d n).2 k (r.ext0 e)
theorem RelOb.ext {K : PySem.W.Frag} {ρ ρ' : Pl} {H H' : Hp} {a : Addr} {o : Ob} {h : HO} (r : RelOb K ρ H a o h) (e : Ext ρ H ρ' H') : RelOb K ρ' H' a o h := r.ext0 e.toExt0
/-- every place of the store stands in the heap -/
theorem RelS.some_of {K : PySem.W.Frag} {ρ : Pl} {st : Store} {H : Hp} (r : RelS K ρ st H) {a : Addr} (h : a ∈ ρ) : ∃ o, H a = some o := by
  rcases h with h | h
  · obtain ⟨l, hl, e⟩ := List.getElem_of_mem h
    have hl' : l < st.length := r.len ▸ hl
    obtain ⟨h, e', _⟩ := r.at_ l a st[l] (by rw [List.getElem?_eq_getElem hl, e]) (List.getElem?_eq_getElem hl')
    exact ⟨h, e'⟩
  · exact (r.rs a h).2
theorem RelS.fresh {K : PySem.W.Frag} {ρ : Pl} {st : Store} {H : Hp} (r : RelS K ρ st H) {a : Addr} (h : H a = none) : a ∉ ρ := fun m => by
  obtain ⟨o, e⟩ := r.some_of m
  rw [h] at e; cases e
theorem RelS.ne {K : PySem.W.Frag} {ρ : Pl} {st : Store} {H : Hp} (r : RelS K ρ st H) {a b : Addr} (h : H a = none) (hb : b ∈ ρ) : b ≠ a := fun z => r.fresh h (z ▸ hb)
/-- a new object that stands for good -/
theorem Ext0.laid {ρ : Pl} {H : Hp} {p : Addr} {o : HO} (h : H p = none) : Ext0 ρ H ρ (upd H p o) :=
  ⟨fun a u e n => ⟨by rw [upd_ne (ne_of_none e h)]; exact e, n⟩, List.prefix_refl _⟩
theorem RelS.laid {K : PySem.W.Frag} {ρ : Pl} {st : Store} {H : Hp} {p : Addr} {o : HO} (r : RelS K ρ st H) (h : H p = none) : RelS K ρ st (upd H p o) ∧ Ext ρ H ρ (upd H p o) := by
  have k : ∀ a ∈ ρ, upd H p o a = H a := fun a m => upd_ne (r.ne h m)
  refine ⟨⟨r.len, r.nd, fun l a o e1 e2 => ?_, fun a ha => ⟨(r.rs a ha).1, by rw [k a (.inr ha)]; exact (r.rs a ha).2⟩⟩, .laid h, rfl, fun a ha => k a (.inr ha)⟩
  obtain ⟨u, e3, e4⟩ := r.at_ l a o e1 e2
  exact ⟨u, by rw [k a (.inl (List.mem_of_getElem? e1))]; exact e3, e4.ext0 (.laid h)⟩
/-- a new object that may change: it gets the next place -/
def Pl.push (ρ : Pl) (p : Addr) : Pl := ⟨ρ.ps ++ [p], ρ.rs⟩
theorem Pl.mem_push {ρ : Pl} {a p : Addr} : a ∈ ρ.push p ↔ a ∈ ρ ∨ a = p := by
  show (a ∈ ρ.ps ++ [p] ∨ a ∈ ρ.rs) ↔ (a ∈ ρ.ps ∨ a ∈ ρ.rs) ∨ a = p
  rw [List.mem_append, List.mem_singleton]
  constructor
  · rintro ((h | h) | h)
    · exact .inl (.inl h)
    · exact .inr h
    · exact .inl (.inr h)
  · rintro ((h | h) | h)
    · exact .inl (.inl h)
    · exact .inr h
    · exact .inl (.inr h)
theorem Ext0.newLoc {ρ : Pl} {H : Hp} {p : Addr} {o : HO} (h : H p = none) : Ext0 ρ H (ρ.push p) (upd H p o) :=
  ⟨fun a u e n => ⟨by rw [upd_ne (ne_of_none e h)]; exact e, fun m => by
    rcases Pl.mem_push.mp m with m | m
    · exact n m
    · exact ne_of_none e h m⟩, List.prefix_append _ _⟩
theorem RelS.newLoc {K : PySem.W.Frag} {ρ : Pl} {st : Store} {H : Hp} {p : Addr} {o : Ob} {u : HO} (r : RelS K ρ st H) (h : H p = none) (ro : RelOb K (ρ.push p) (upd H p u) p o u) :
    RelS K (ρ.push p) (st ++ [o]) (upd H p u) ∧ Ext ρ H (ρ.push p) (upd H p u) := by
  have np := r.fresh h
  refine ⟨⟨by simp [Pl.push, r.len], ?_, fun l a q e1 e2 => ?_, fun a ha => ⟨fun m => ?_, ?_⟩⟩, .newLoc h, rfl, fun a ha => upd_ne (r.ne h (.inr ha))⟩
  · show (ρ.ps ++ [p]).Nodup
    rw [List.nodup_append]
    exact ⟨r.nd, by simp, fun a ha b hb => by rw [List.mem_singleton.mp hb]; exact fun z => np (.inl (z ▸ ha))⟩
  · have e1 : (ρ.ps ++ [p])[l]? = some a := e1
    by_cases hl : l < ρ.ps.length
    · rw [List.getElem?_append_left hl] at e1
      rw [List.getElem?_append_left (r.len ▸ hl)] at e2
      obtain ⟨x, e3, e4⟩ := r.at_ l a q e1 e2
      exact ⟨x, by rw [upd_ne (ne_of_none e3 h)]; exact e3, e4.ext0 (.newLoc h)⟩
    · rw [List.getElem?_append_right (Nat.le_of_not_lt hl)] at e1
      rw [List.getElem?_append_right (Nat.le_of_not_lt (r.len ▸ hl))] at e2
      have z : l - ρ.ps.length = 0 := by
        have := (List.getElem?_eq_some_iff.mp e1).1
        simp at this; omega
      rw [z] at e1
      rw [← r.len, z] at e2
      simp at e1 e2
      subst e1; subst e2
      exact ⟨u, upd_same, ro⟩
  · rcases List.mem_append.mp m with m | m
    · exact (r.rs a ha).1 m
    · exact r.ne h (.inr ha) (List.mem_singleton.mp m)
  · rw [upd_ne (r.ne h (.inr ha))]
    exact (r.rs a ha).2
/-- the object at a place is written -/
theorem Ext0.wrote {ρ : Pl} {H : Hp} {a : Addr} {o : HO} (h : a ∈ ρ) : Ext0 ρ H ρ (upd H a o) :=
  ⟨fun b u e n => ⟨by rw [upd_ne (fun (z : b = a) => n (z ▸ h))]; exact e, n⟩, List.prefix_refl _⟩
theorem RelS.wrote {K : PySem.W.Frag} {ρ : Pl} {st : Store} {H : Hp} {l : Nat} {a : Addr} {o : Ob} {u : HO} (r : RelS K ρ st H) (h : ρ.ps[l]? = some a) (ro : RelOb K ρ (upd H a u) a o u) :
    RelS K ρ (st.set l o) (upd H a u) ∧ Ext ρ H ρ (upd H a u) := by
  have hm : a ∈ ρ := .inl (List.mem_of_getElem? h)
  have nr : ∀ b ∈ ρ.rs, b ≠ a := fun b hb z => (r.rs b hb).1 (z ▸ List.mem_of_getElem? h)
  refine ⟨⟨by simp [r.len], r.nd, fun k b q e1 e2 => ?_, fun b hb => ⟨(r.rs b hb).1, by rw [upd_ne (nr b hb)]; exact (r.rs b hb).2⟩⟩, .wrote hm, rfl, fun b hb => upd_ne (nr b hb)⟩
  by_cases hk : k = l
  · subst hk
    rw [h] at e1; cases e1
    have hl : k < st.length := r.len ▸ (List.getElem?_eq_some_iff.mp h).1
    rw [List.getElem?_set_self hl] at e2; cases e2
    exact ⟨u, upd_same, ro⟩
  · rw [List.getElem?_set_ne (Ne.symm hk)] at e2
    obtain ⟨x, e3, e4⟩ := r.at_ k b q e1 e2
    have ne : b ≠ a := fun z => by
      subst z
      obtain ⟨h1, h2⟩ := List.getElem?_eq_some_iff.mp e1
      obtain ⟨h3, h4⟩ := List.getElem?_eq_some_iff.mp h
      exact hk ((List.getElem_inj r.nd).mp (h2.trans h4.symm))
    exact ⟨x, by rw [upd_ne ne]; exact e3, e4.ext0 (.wrote hm)⟩

/-! ### reading lists and tuples -/
section
variable {K : PySem.W.Frag} {ρ : Pl} {st : Store} {H : Hp} {v : Val} {w : V} {xs : List Val}
theorem Rep.lstOf (r : RelS K ρ st H) (h : Rep K ρ H v w) (e : Rc.lstOf st v = some xs) : ∃ a ws, w = .ref a ∧ H a = some (.lst ws) ∧ RepL K ρ H xs ws := by
  cases h with
  | lst h n q => cases e; exact ⟨_, _, rfl, h, q⟩
  | @loc l a h =>
    have e : (match st[l]? with
      | some (.lst xs) => some xs
      | _ => none) = some xs := e
    cases q : st[l]? with
    | none => rw [q] at e; cases e
    | some o =>
      rw [q] at e
      cases o with
      | lst ys =>
        cases e
        obtain ⟨u, e1, e2⟩ := r.at_ l a _ h q
        cases e2 with
        | lst q => exact ⟨_, _, rfl, e1, q⟩
      | _ => cases e
  | _ => cases e
theorem Rep.seqOf (r : RelS K ρ st H) (h : Rep K ρ H v w) (e : Rc.seqOf st v = some xs) : ∃ a ws, w = .ref a ∧ (SqL K H a ws ∨ SqT K H a ws) ∧ RepL K ρ H xs ws := by
  by_cases hv : ∃ ys, v = .tup ys
  · obtain ⟨ys, rfl⟩ := hv
    cases h with
    | tup h q => cases e; exact ⟨_, _, rfl, .inr h.sq, q⟩
  · have e' : Rc.lstOf st v = some xs := by
      cases v <;> first | exact e | exact absurd ⟨_, rfl⟩ hv
    obtain ⟨a, ws, h1, h2, h3⟩ := Rep.lstOf r h e'
    exact ⟨a, ws, h1, .inl (.of h2), h3⟩
end

/-! ### judgements -/
/-- an exception's own dict: with a row, or none -/
def ExcAt (H : Hp) (row : Option Int) (d : Option Addr) : Prop := match row with
  | none => d = none
  | some r => ∃ a, d = some a ∧ H a = some (.xd [("row", .int r)])
/-- what a run's end is to give: Q of what stands for the value; W of what is raised -/
def Post (K : PySem.W.Frag) {α β : Type} (rel : Pl → Hp → α → β → Prop) (W : WX) (σ : L2.St) (ρ : Pl) (H : Hp) (Q : β → Hp → Prop) : R α → Prop
  | .ok v st' => ∀ ρ' w H', Ext ρ H ρ' H' → RelS K ρ' st' H' → rel ρ' H' v w → Q w H'
  | .exc c row st' => ∀ ρ' d H', Ext ρ H ρ' H' → RelS K ρ' st' H' → ExcAt H' row d → W (.ref (He.ga K c)) d σ H'
  | .stuck => False
/-- the slots -/
def RelE (K : PySem.W.Frag) (ρ : Pl) (H : Hp) (env : Env) (σ : L2.St) : Prop := ∀ (i : Nat) (v : Val), env[i]? = some (some v) → ∃ w, σ[i]? = some (some w) ∧ Rep K ρ H v w
theorem RelE.ext {K : PySem.W.Frag} {ρ ρ' : Pl} {H H' : Hp} {env : Env} {σ : L2.St} (r : RelE K ρ H env σ) (e : Ext ρ H ρ' H') : RelE K ρ' H' env σ := fun i v h => by
  obtain ⟨w, h1, h2⟩ := r i v h
  exact ⟨w, h1, h2.ext e⟩
theorem RelE.ext' {K : PySem.W.Frag} {ρ ρ' : Pl} {H H' : Hp} {env : Env} {σ : L2.St} (r : RelE K ρ H env σ) (e : Ext0 ρ H ρ' H') : RelE K ρ' H' env σ := fun i v h => by
  obtain ⟨w, h1, h2⟩ := r i v h
  exact ⟨w, h1, h2.ext0 e⟩
theorem RelE.set {K : PySem.W.Frag} {ρ : Pl} {H : Hp} {env : Env} {σ : L2.St} {v : Val} {w : V} (r : RelE K ρ H env σ) (i : Nat) (hi : i < σ.length) (h : Rep K ρ H v w) : RelE K ρ H (env.set i (some v)) (σ.set i (some w)) := fun j u e => by
  by_cases hj : j = i
  · subst hj
    by_cases hl : j < env.length
    · rw [List.getElem?_set_self hl] at e
      cases e
      exact ⟨w, by rw [List.getElem?_set_self hi], h⟩
    · rw [List.set_eq_of_length_le (Nat.le_of_not_lt hl)] at e
      have := (List.getElem?_eq_some_iff.mp e).1
      exact absurd this hl
  · rw [List.getElem?_set_ne (Ne.symm hj)] at e
    obtain ⟨x, h1, h2⟩ := r j u e
    exact ⟨x, by rw [List.getElem?_set_ne (Ne.symm hj)]; exact h1, h2⟩
theorem RelE.unset {K : PySem.W.Frag} {ρ : Pl} {H : Hp} {env : Env} {σ : L2.St} (r : RelE K ρ H env σ) (i : Nat) : RelE K ρ H (env.set i none) (σ.set i none) := fun j u e => by
  by_cases hj : j = i
  · subst hj
    by_cases hl : j < env.length
    · rw [List.getElem?_set_self hl] at e; cases e
    · rw [List.set_eq_of_length_le (Nat.le_of_not_lt hl)] at e
      have := (List.getElem?_eq_some_iff.mp e).1
      exact absurd this hl
  · rw [List.getElem?_set_ne (Ne.symm hj)] at e
    obtain ⟨x, h1, h2⟩ := r j u e
    exact ⟨x, by rw [List.getElem?_set_ne (Ne.symm hj)]; exact h1, h2⟩
theorem RelE.wipe {K : PySem.W.Frag} {ρ : Pl} {H : Hp} {env : Env} {σ : L2.St} (r : RelE K ρ H env σ) : ∀ vs : List Nat, RelE K ρ H (Rc.wipe env vs) (L2.wipe σ vs)
  | [] => r
  | v :: vs => (r.wipe vs).unset v

section
variable {K : PySem.W.Frag} {α β γ δ : Type} {rel : Pl → Hp → α → β → Prop} {rel2 : Pl → Hp → γ → δ → Prop} {W : WX} {σ : L2.St} {ρ ρ1 : Pl} {H H1 : Hp} {Q : β → Hp → Prop} {Q2 : δ → Hp → Prop}
theorem Post.later {r : R α} (h : Post K rel W σ ρ H Q r) (e : Ext ρ H ρ1 H1) : Post K rel W σ ρ1 H1 Q r := by
  cases r with
  | ok v st => exact fun ρ' w H' e' s q => h ρ' w H' (e.trans e') s q
  | exc c row st => exact fun ρ' d H' e' s q => h ρ' d H' (e.trans e') s q
  | stuck => exact h
theorem Post.bnd {m : M α} {f : α → M γ} {st : Store} (h : Post K rel2 W σ ρ H Q2 (Rc.bnd m f st))
    (k : ∀ a st1 ρ1 b H1, Ext ρ H ρ1 H1 → RelS K ρ1 st1 H1 → rel ρ1 H1 a b → Post K rel2 W σ ρ1 H1 Q2 (f a st1) → Q b H1) : Post K rel W σ ρ H Q (m st) := by
  unfold Rc.bnd at h
  cases e : m st with
  | ok a st1 =>
    rw [e] at h
    exact fun ρ' w H' x s q => k a st1 ρ' w H' x s q (Post.later h x)
  | exc c row st1 =>
    rw [e] at h
    exact h
  | stuck =>
    rw [e] at h
    exact h
/-- the value is there -/
theorem Post.ret {a : α} {b : β} {st : Store} (h : Post K rel W σ ρ H Q (Rc.ret a st)) (s : RelS K ρ st H) (q : rel ρ H a b) : Q b H := h ρ b H (.refl _ _) s q
theorem Post.opt {o : Option α} {f : α → M γ} {st : Store} (h : Post K rel2 W σ ρ H Q2 (Rc.bnd (ofOpt o) f st)) : ∃ a, o = some a ∧ Post K rel2 W σ ρ H Q2 (f a st) := by
  cases o with
  | none => exact h.elim
  | some a => exact ⟨a, rfl, h⟩
end

def tG (K : PySem.W.Frag) {α β : Type} (rel : Pl → Hp → α → β → Prop) (W : WX) (m : Env → M α) : L2.St → Hp → (β → Hp → Prop) → Prop := fun σ H Q =>
  ∃ ρ env st, RelE K ρ H env σ ∧ RelS K ρ st H ∧ Post K rel W σ ρ H Q (m env st)
def relB : Pl → Hp → Bool → Bool → Prop := fun _ _ a b => a = b
def relI : Pl → Hp → Int → Int → Prop := fun _ _ a b => a = b
def relO : Pl → Hp → Option Int → Option Int → Prop := fun _ _ a b => a = b
abbrev tE (K : PySem.W.Frag) (W : WX) (m : Env → M Val) : TE := tG K (Rep K) W m
abbrev tA (K : PySem.W.Frag) (W : WX) (m : Env → M (List Val)) : TA := tG K (RepL K) W m
/-- a test -/
abbrev tT (K : PySem.W.Frag) (W : WX) (m : Env → M Val) : TT := tG K relB W fun env => bnd (m env) asBl

theorem PE.imp {X : Cx} {e : Expr} {t t' : TE} (h : PE X e t) (k : ∀ σ H Q, t' σ H Q → t σ H Q) : PE X e t' := ⟨fun pins s σ H Q I q => h.run pins s σ H Q I (k σ H Q q)⟩
theorem PT.imp {X : Cx} {e : Expr} {t t' : TT} (h : PT X e t) (k : ∀ σ H Q, t' σ H Q → t σ H Q) : PT X e t' := ⟨fun pins s σ H Q I q => h.run pins s σ H Q I (k σ H Q q)⟩
theorem PW.imp {X : Cx} {e : Expr} {t t' : TT} (h : PW X e t) (k : ∀ σ H Q, t' σ H Q → t σ H Q) : PW X e t' := ⟨fun whole pins s σ H Q I q => h.run whole pins s σ H Q I (k σ H Q q)⟩
theorem PA.imp {X : Cx} {e : List Expr} {t t' : TA} (h : PA X e t) (k : ∀ σ H Q, t' σ H Q → t σ H Q) : PA X e t' := ⟨fun pos pins s σ H Q I q => h.run pos pins s σ H Q I (k σ H Q q)⟩
theorem PS.imp {X : Cx} {e : Stmt} {t t' : TS} (h : PS X e t) (k : ∀ D σ H, t' D σ H → t D σ H) : PS X e t' := ⟨fun pins s σ H D I q => h.run pins s σ H D I (k D σ H q)⟩
theorem PSs.imp {X : Cx} {e : List Stmt} {t t' : TS} (h : PSs X e t) (k : ∀ D σ H, t' D σ H → t D σ H) : PSs X e t' := ⟨fun pins s σ H D I q => h.run pins s σ H D I (k D σ H q)⟩
theorem PI.imp {X : Cx} {tg e : Expr} {t t' : TI} (h : PI X tg e t) (k : ∀ σ H Q, t' σ H Q → t σ H Q) : PI X tg e t' := ⟨fun pins s σ H Q I q => h.run pins s σ H Q I (k σ H Q q)⟩
section
variable {K : PySem.W.Frag} {γ δ : Type} {rel2 : Pl → Hp → γ → δ → Prop} {W : WX} {σ : L2.St} {ρ : Pl} {H : Hp} {Q2 : δ → Hp → Prop}
theorem Post.asBl {v : Val} {f : Bool → M γ} {st : Store} (h : Post K rel2 W σ ρ H Q2 (Rc.bnd (asBl v) f st)) : ∃ b, v = .bl b ∧ Post K rel2 W σ ρ H Q2 (f b st) := by
  cases v <;> first | exact h.elim | exact ⟨_, rfl, h⟩
theorem Post.asInt {v : Val} {f : Int → M γ} {st : Store} (h : Post K rel2 W σ ρ H Q2 (Rc.bnd (asInt v) f st)) : ∃ b, v = .int b ∧ Post K rel2 W σ ρ H Q2 (f b st) := by
  cases v <;> first | exact h.elim | exact ⟨_, rfl, h⟩
end
theorem bnd_assoc {α β γ : Type} (m : M α) (f : α → M β) (g : β → M γ) : bnd (bnd m f) g = bnd m fun a => bnd (f a) g := by
  funext st
  unfold bnd
  cases m st <;> rfl
theorem bnd_ret {α : Type} (m : M α) : bnd m ret = m := by
  funext st
  unfold bnd ret
  cases m st <;> rfl
theorem Rep.bl_inv {K : PySem.W.Frag} {ρ : Pl} {H : Hp} {b : Bool} {w : V} (h : Rep K ρ H (.bl b) w) : w = .bl b := by cases h; rfl
theorem Rep.int_inv {K : PySem.W.Frag} {ρ : Pl} {H : Hp} {b : Int} {w : V} (h : Rep K ρ H (.int b) w) : w = .int b := by cases h; rfl
/-- a bool's place among tests: pt_val's reading -/
theorem tT_of {K : PySem.W.Frag} {W : WX} {m : Env → M Val} {σ : L2.St} {H : Hp} {Q : Bool → Hp → Prop} (h : tT K W m σ H Q) : tE K W m σ H fun x H1 => ∃ c, x = .bl c ∧ Q c H1 := by
  obtain ⟨ρ, env, st, rE, rS, p⟩ := h
  refine ⟨ρ, env, st, rE, rS, Post.bnd p fun a st1 ρ1 b H1 x s q p1 => ?_⟩
  rw [← bnd_ret (Rc.asBl a)] at p1
  obtain ⟨c, rfl, p2⟩ := p1.asBl
  exact ⟨c, q.bl_inv, p2.ret s rfl⟩
end Rc
/-! RcE: rules that the layer lacks: dict(d) and dict(pairs) with tuples as keys, enumerate of a tuple. -/
namespace Rc
open PySem L2 PySem.Spec PyProof.Rows

/-! ### keys that stand apart by their hashes -/
/-- the keys of a table of places and rows -/
def padK : List (List Key) := (List.range 6).flatMap fun (i : Nat) => (List.range 3).map fun (j : Nat) => [Sum.inl (i : Int), Sum.inl (j : Int)]
def hsh (k : List Key) : Int := reduceHash (Builtin.Tuple.tupleHashOf (k.map fun
  | .inl i => hashInt i
  | .inr _ => 0))
theorem pad_apart : ∀ a ∈ padK, ∀ b ∈ padK, hsh a = hsh b → a = b := by decide +kernel
theorem pad_ints : ∀ {k : List Key}, k ∈ padK → ∃ i j : Int, k = [.inl i, .inl j] := by
  intro k h
  unfold padK at h
  obtain ⟨i, _, h⟩ := List.mem_flatMap.mp h
  obtain ⟨j, _, rfl⟩ := List.mem_map.mp h
  exact ⟨_, _, rfl⟩
theorem hsh_eq {prog : Program} {w : World} {k : List Key} (h : k ∈ padK) : (tupleKind (mixKind prog w)).hash k = hsh k := by
  obtain ⟨i, j, rfl⟩ := pad_ints h
  rfl
theorem apart_of {prog : Program} {w : World} : ∀ {ks : List (List Key)}, (∀ k ∈ ks, k ∈ padK) → ks.Nodup → (ks.map fun k => (tupleKind (mixKind prog w)).hash k).Nodup
  | [], _, _ => List.nodup_nil
  | k :: ks, h, n => by
    have n' := List.nodup_cons.mp n
    rw [List.map_cons]
    refine List.nodup_cons.mpr ⟨fun m => ?_, apart_of (fun x hx => h x (List.mem_cons_of_mem _ hx)) n'.2⟩
    obtain ⟨x, hx, e⟩ := List.mem_map.mp m
    have hk := h k List.mem_cons_self
    have hx' := h x (List.mem_cons_of_mem _ hx)
    rw [hsh_eq hx', hsh_eq hk] at e
    exact n'.1 (pad_apart x hx' k hk e ▸ hx)
theorem kt_keys {H : Hp} {kvs : List (List Key × V)} {ys : List (List Key × Addr × Value)} (r : KT H kvs ys) : ys.map (·.1) = kvs.map (·.1) := by
  induction r with
  | nil => rfl
  | cons h _ ih => rw [List.map_cons, List.map_cons, ih, h.1]
theorem kt_tups {H : Hp} {kvs : List (List Key × V)} {ys : List (List Key × Addr × Value)} (r : KT H kvs ys) : ∀ y ∈ ys, H y.2.1 = some (.tup (y.1.map kV)) := by
  induction r with
  | nil => intro y hy; exact nomatch hy
  | cons h _ ih =>
    intro y hy
    rcases List.mem_cons.mp hy with rfl | hy
    · rw [← h.1]; exact h.2.1
    · exact ih y hy
section
variable {X : Cx}
/-- dict(d): a copy; the keys are tuples -/
theorem call_dictT (hu : X.A.units + 10 < cLine) : CallR X (.type "dict") (fun xs H Q => ∃ (a : Addr) (kvs : List (List Key × V)), xs = [.ref a] ∧ Rd H a (.dT kvs) ∧ (∀ k ∈ kvs.map (·.1), k ∈ padK) ∧ ∀ p, H p = none → Q (.ref p) (upd H p (.dT kvs))) := by
  intro pins s σ H xs us Q I r q
  obtain ⟨a, kvs, ex, hd, hp, q⟩ := q
  subst ex
  obtain ⟨u, eu, rx⟩ := vals1 r
  subst eu
  cases rx
  obtain ⟨z, lo, ys, rel, dd⟩ := dt_rd I.hok hd
  have hty : ∀ x ∈ ys, s.TypeIs (.ref x.2.1) "tuple" := fun x hx => by
    obtain ⟨_, its, _, o, h1, h2, _⟩ := (show ObjOk X.prog X.w H s.heap x.2.1 (.tup (x.1.map kV)) from I.hok _ _ (kt_tups rel x hx))
    exact ⟨o, h1, h2⟩
  have hnd : (ys.map (·.1)).Nodup := Heap.DictOfH.nodup dd
  have hap : (ys.map fun x => (tupleKind (mixKind X.prog X.w)).hash x.1).Nodup := by
    have := apart_of (prog := X.prog) (w := X.w) (ks := ys.map (·.1)) (by rw [kt_keys rel]; exact hp) hnd
    rw [List.map_map] at this
    exact this
  have hz : ys.length ≤ sizeLine := by rw [← Paired.length rel]; exact z
  refine callType_codes (Q₁ := fun ob s₁ => ob = .ref s.heap.objs.size ∧ s₁ = { s with heap := s.heap.push { cls := .type "dict", data := .dict #[] } }) PySem.F.kt_called_dict (PySem.F.kt_typeCall_dict_1 _) PySem.F.entry_dict_init (kt_code_dict_new _ ⟨rfl, rfl⟩) ?_
  rintro ob s₁ ⟨rfl, rfl⟩
  have hT : Shared.TypeIs { s with heap := s.heap.push { cls := .type "dict", data := .dict #[] } } (.ref s.heap.objs.size) "dict" := ⟨_, Heap.get?_push_size _ rfl, rfl⟩
  refine ⟨hT, PySem.F.args_dict_init_2 _ _, ?_⟩
  unfold Builtin.«dict.__init__»
  refine wpAny_bind ?_
  unfold Builtin.Dict.selfAndRest
  refine wpAny_bind (wpAny_notOrdered_dict hT ?_)
  show wpAny _ _ (pure (s.heap.objs.size, [Value.ref a])) _ _ _
  refine wpAny_pure ?_
  have hne : s.heap.objs.size ≠ a := fun e => by
    have := dd.lt_size
    rw [← e] at this
    exact absurd this (Nat.lt_irrefl _)
  have his : ∀ h' : Heap, (∀ b o, s.heap.get? b = some o → h'.get? b = some o) → ∀ y ∈ ys, (tupleKind (mixKind X.prog X.w)).is h' y.1 y.2.1 := fun h' hk y hy => by
    obtain ⟨o, its, n, e1, e2, e3, e4⟩ := key_of I.hok (kt_tups rel y hy)
    exact ⟨o, its, n, hk _ _ e1, e2, e3, e4⟩
  have dd2 : (s.heap.push { cls := .type "dict", data := .dict #[] }).DictOfH (tupleKind (mixKind X.prog X.w)) a ys := dd.at' (fun o e => Heap.get?_push_of_some _ e) (his _ fun b o e => Heap.get?_push_of_some _ e)
  refine updateFrom_dictH (A := X.A.in1) (knd := tupleKind (mixKind X.prog X.w)) (s := { s with heap := s.heap.push { cls := .type "dict", data := .dict #[] } }) .none (show X.A.units + 1 + 1 < cLine by omega) hne lo (Heap.DictOfH.new s.heap) dd2 (.inr ⟨fun x hx => ?_, hap⟩) (by simpa using hz) fun h' d1 d2 sb => ?_
  · obtain ⟨o, e1, e2⟩ := hty x hx
    exact ⟨o, Heap.get?_push_of_some _ e1, e2⟩
  · rw [storedAllH_nil_of_nodup _ hnd] at d1
    refine ⟨rfl, .ref s.heap.objs.size, upd H s.heap.objs.size (.dT kvs), I.laid (t' := s.toks) (fun b u e => (sb.2 b (Nat.ne_of_lt (Heap.lt_size e))).trans (Heap.get?_push_of_some _ e)) (Nat.le_refl _) ?_, rfl, q _ (I.hok.fresh (Nat.le_refl _))⟩
    obtain ⟨o, es, ep, e1, e2, e3, e4, _, e5⟩ := d1
    have hfr : H s.heap.objs.size = none := I.hok.fresh (Nat.le_refl _)
    refine ⟨z, beq_eq_false_iff_ne.mpr (Nat.ne_of_gt I.big), ys, KT.keeps rel fun b vs e => ?_, o, es, ep, e1, e2, e3, e4, e5⟩
    rw [upd_ne (ne_of_none e hfr)]
    exact e
/-- dict(xs) of a list of pairs (key, value), the keys tuples -/
def mrgT : List (List Key × V) → List (List Key × V) → List (List Key × V)
  | acc, [] => acc
  | acc, kv :: kvs => mrgT (putK acc kv.1 kv.2) kvs
theorem kt_mrg {H : Hp} : ∀ {kvs : List (List Key × V)} {ys : List (List Key × Addr × Value)} {acc : List (List Key × V)} {zs : List (List Key × Addr × Value)}, KT H acc zs → KT H kvs ys → KT H (mrgT acc kvs) (storedAllH zs ys)
  | _, _, _, _, r, .nil => r
  | _, _, _, _, r, .cons (a := p) (b := q) h t => by
    refine kt_mrg (acc := putK _ p.1 p.2) (zs := storedH _ q.1 q.2.1 q.2.2) ?_ t
    rw [← h.1]
    exact KT.put r p.1 h.2.1 h.2.2
theorem mrg_len : ∀ (kvs acc : List (List Key × V)), (mrgT acc kvs).length ≤ acc.length + kvs.length
  | [], acc => Nat.le_refl _
  | kv :: kvs, acc => by
    have h1 := mrg_len kvs (putK acc kv.1 kv.2)
    have h2 : (putK acc kv.1 kv.2).length ≤ acc.length + 1 := by
      unfold putK
      split <;> simp
    rw [List.length_cons]
    show (mrgT (putK acc kv.1 kv.2) kvs).length ≤ _
    omega
theorem pairsT {pins : List (Addr × Obj)} {σ : L2.St} {H : Hp} {s : Shared} (I : L2.Inv X pins σ H s) : ∀ {ps : List Addr} {kvs : List (List Key × V)}, Paired (fun p (kv : List Key × V) => ∃ b, SqT X.K H p [.ref b, kv.2] ∧ H b = some (.tup (kv.1.map kV))) ps kvs →
    ∃ ys : List (List Key × Addr × Value), KT H kvs ys ∧ ys.length = ps.length ∧ ∀ (j : Nat) (y : List Key × Addr × Value), ys[j]? = some y → ∃ (p : Addr), ps[j]? = some p ∧ s.heap.IsTuple p #[.ref y.2.1, y.2.2]
  | _, _, .nil => ⟨[], .nil, rfl, fun j q e => by simp at e⟩
  | _, _, .cons (a := p) (b := kv) h t => by
    obtain ⟨ys, r, hl, hp⟩ := pairsT I t
    obtain ⟨b, h1, h2⟩ := h
    obtain ⟨its, rv, ht, _⟩ := I.tuple h1
    obtain ⟨u, y, ei, ru, ry⟩ := vals2 rv
    subst ei
    cases ru
    refine ⟨(kv.1, b, y) :: ys, .cons ⟨rfl, h2, ry⟩ r, by rw [List.length_cons, List.length_cons, hl], fun j q e => ?_⟩
    cases j with
    | zero =>
      cases (show (kv.1, b, y) = q from Option.some.inj e)
      exact ⟨p, rfl, ht⟩
    | succ j =>
      obtain ⟨p', e1, e2⟩ := hp j q (by simpa using e)
      exact ⟨p', by simpa using e1, e2⟩
theorem call_dictPT (hc : X.calm = true) (hu : X.A.units + 10 < cLine) : CallR X (.type "dict") (fun xs H Q => ∃ (a : Addr) (ps : List Addr) (kvs : List (List Key × V)), xs = [.ref a] ∧ H a = some (.lst (ps.map V.ref)) ∧ Paired (fun p (kv : List Key × V) => ∃ b, SqT X.K H p [.ref b, kv.2] ∧ H b = some (.tup (kv.1.map kV))) ps kvs ∧
    ∀ p, H p = none → Q (.ref p) (upd H p (.dT (mrgT [] kvs)))) := by
  intro pins s σ H xs us Q I r q
  obtain ⟨a, ps, kvs, ex, hl, hps, q⟩ := q
  subst ex
  obtain ⟨u, eu, rx⟩ := vals1 r
  subst eu
  cases rx
  obtain ⟨ys, rel, hlen, hat⟩ := pairsT I hps
  obtain ⟨hz, its, n, rv, ho⟩ := (show ObjOk X.prog X.w H s.heap a (.lst (ps.map V.ref)) from I.hok a _ hl)
  have ei := refs_at rv
  subst ei
  have hzp : ps.length ≤ sizeLine := by simpa using hz
  have hok : PlainSeq "list" s.heap a (ps.map Value.ref).toArray ∧ PairItems s.heap (ps.map Value.ref).toArray (fun j => ps.getD j 0) (ys.map fun y => (Value.ref y.2.1, y.2.2)) := by
    refine ⟨⟨_, n, ho, rfl, rfl, rfl⟩, by simp [hlen], fun j k v e => ?_⟩
    rw [List.getElem?_map] at e
    obtain ⟨y, ey, e'⟩ := Option.map_eq_some_iff.mp e
    cases e'
    obtain ⟨p, e1, e2⟩ := hat j y ey
    have e3 : ps.getD j 0 = p := by rw [List.getD_eq_getElem?_getD, e1]; rfl
    dsimp only
    rw [e3]
    exact ⟨by simp [e1], .inl e2⟩
  have hfr : H s.heap.objs.size = none := I.hok.fresh (Nat.le_refl _)
  refine call_dict_pairsH (knd := tupleKind (mixKind X.prog X.w)) (ps := ys) (PairArg.list a (ps.map Value.ref).toArray (fun j => ps.getD j 0) (ys.map fun y => (Value.ref y.2.1, y.2.2))) (I.ok.hd hc) (show X.A.units + 1 + 1 < cLine by omega) hok ⟨by simp, fun i key v e => ?_⟩ (fun h' hk y hy => ?_) (by simp [hlen, hzp]) fun h' tk dd hk => ?_
  · have e : (ys.map fun y => (Value.ref y.2.1, y.2.2))[i]? = some (key, v) := e
    rw [List.getElem?_map] at e
    obtain ⟨y, ey, e'⟩ := Option.map_eq_some_iff.mp e
    cases e'
    exact ⟨y.1, y.2.1, ey, rfl⟩
  · obtain ⟨o, its, n, e1, e2, e3, e4⟩ := key_of I.hok (kt_tups rel y hy)
    exact ⟨o, its, n, hk _ _ (Nat.ne_of_lt (Heap.lt_size e1)) (by simp) e1, e2, e3, e4⟩
  · refine ⟨.ref s.heap.objs.size, upd H s.heap.objs.size (.dT (mrgT [] kvs)), I.laid (t' := tk) (fun b u e => hk b u (by simp) e) (Nat.le_refl _) ?_, rfl, q _ hfr⟩
    obtain ⟨o, es, ep, e1, e2, e3, e4, _, e5⟩ := dd
    have hml := mrg_len kvs []
    have hkl : kvs.length = ys.length := Paired.length rel
    refine ⟨by simp at hml; omega, beq_eq_false_iff_ne.mpr (Nat.ne_of_gt I.big), _, KT.keeps (kt_mrg (acc := []) (zs := []) .nil rel) fun b vs e => ?_, o, es, ep, e1, e2, e3, e4, e5⟩
    rw [upd_ne (ne_of_none e hfr)]
    exact e
end

/-! ### enumerate(tuple) -/
section
variable {prog : Program} {w : World} {A : Around} {E : Value → Shared → Prop} {s : Shared}
set_option maxHeartbeats 1000000 in
theorem meets_enumT {v : Value} {o : Obj} {Hh : Heap → Prop} (B : Begins v o Hh) :
    Meets (Builtin.«enumerate.__new__» ⟨[.type "enumerate", v], []⟩) (fun _ R s => Hh s.heap ∧
      R (.ok (.ret (.ref (s.heap.push o).objs.size))) { s with heap := (s.heap.push o).push { cls := .type "enumerate", data := .fields #[.none, .bool false, .ref s.heap.objs.size, rawInt 0, .none, .none] } }) :=
  .of_wp fun prog w A R s h => by
    obtain ⟨hp, g, d, tk, os⟩ := s
    obtain ⟨h1, h⟩ := h
    have hsb := sub_enumerate
    have q1 : ∀ {A' : Around} {E : Value → Shared → Prop} {Q : Value → Shared → Prop}, Q (.ref hp.objs.size) ⟨hp.push o, g, d, tk, os⟩ → wpAny (model prog w) A' (pyIter v) Q E ⟨hp, g, d, tk, os⟩ :=
      fun z => B.iter prog w _ _ ⟨hp, g, d, tk, os⟩ _ h1 z
    wp_walk using q1
    refine wpAny_stack_any fun st => wpAny_pure ?_
    split
    · rename_i c _ _ _ _ _
      cases (c == Value.type "enumerate")
      · wp_walk using q1
        exact ⟨_, rfl, h⟩
      · wp_walk using q1
        exact ⟨_, rfl, h⟩
    · wp_walk using q1
      exact ⟨_, rfl, h⟩
theorem call_enumT {v : Value} {o : Obj} {Hh : Heap → Prop} {Q : Value → Shared → Prop} (B : Begins v o Hh) (h1 : Hh s.heap)
    (h : ∀ h', IsEnum h' (s.heap.objs.size + 1) s.heap.objs.size 0 .none → h'.get? s.heap.objs.size = some o →
      (∀ b u, s.heap.get? b = some u → h'.get? b = some u) → Q (.ref (s.heap.objs.size + 1)) { s with heap := h' }) :
    wpAny (model prog w) A (call (.type "enumerate") [v]) Q E s := by
  refine callType_new PySem.F.called_enumerate (by decide) (PySem.F.typeCall_enumerate_1 _) (PySem.F.newCall_enumerate_1 _) (fun ob => PySem.F.args_object_init_2 ob _) PySem.F.entry_enumerate_new
    (meets_enumT B) ⟨h1, ?_⟩
  have hz : (s.heap.push o).objs.size = s.heap.objs.size + 1 := Heap.size_push ..
  show _ ∧ _
  rw [hz]
  have he : IsEnum ((s.heap.push o).push { cls := .type "enumerate", data := .fields #[.none, .bool false, .ref s.heap.objs.size, rawInt 0, .none, .none] }) (s.heap.objs.size + 1) s.heap.objs.size 0 .none := by
    have y := Heap.get?_push_size (s.heap.push o) (o := { cls := .type "enumerate", data := .fields #[.none, .bool false, .ref s.heap.objs.size, rawInt 0, .none, .none] }) rfl
    rw [hz] at y; exact y
  exact ⟨⟨_, he, rfl⟩, h _ he (Heap.get?_push_of_some _ (Heap.get?_push_size _ B.free)) fun b u x => Heap.get?_push_of_some _ (Heap.get?_push_of_some _ x)⟩
end
theorem enumT_end {prog : Program} {w : World} {A : Around} {E : Value → Shared → Prop} {s : Shared} {e it t : Addr} {c : Int} {i : Nat} {old : Value} {items : Array Value} {Q : Option Value → Shared → Prop} (hh : A.handled = none) (he : IsEnum s.heap e it c old) (hit : s.heap.IsTupleIter it t i) (ht : s.heap.IsTuple t items) (hx : items.size ≤ i)
    (hQ : ∀ h', Heap.ExtBut it s.heap h' → Q none { s with heap := h' }) : wpAny (model prog w) A (pyNext (.ref e)) Q E s := by
  have hT : s.TypeIs (.ref e) "enumerate" := ⟨_, he, rfl⟩
  unfold pyNext
  refine wpAny_bind (wpAny_attempt (wpAny_callSpecial?_slot (name := Str.ofString "__next__") hT PySem.F.slot_enumerate_next
    (wpAny_call_entry PySem.F.slot_enumerate_next hT PySem.F.entry_enumerate_next ?_ (PySem.F.args_enumerate_next_1 _))))
  show wpAny _ _ (field (.ref e) 2 >>= _) _ _ _
  refine wpAny_bind (wpAny_field he rfl (x := .ref it) rfl ?_)
  refine wpAny_bind (wpAny_nextOf_tuple_end hh hit ht (Array.getElem?_eq_none hx) fun h' x he' hx' => ?_)
  obtain ⟨o, ho, hc⟩ := hx'
  refine wpAny_bind (wpAny_isInstance (T := "StopIteration") (b := true) ⟨o, ho, hc⟩ isSubtype_stop ?_)
  exact wpAny_pure (hQ _ he')
/-- the tuple at a, each item in a new pair -/
def IteT (K : PySem.W.Frag) (a : Addr) : L2.It :=
  ⟨fun i H => ∃ (xs : List V) (x : V), SqT K H a xs ∧ xs[i]? = some x, fun i H v H' => ∃ T x, v = .ref T ∧ H T = none ∧ H' = upd H T (.tup [.int (i : Nat), x]) ∧ ∀ xs, SqT K H a xs → xs[i]? = some x, fun i H => ∃ xs : List V, SqT K H a xs ∧ xs.length ≤ i⟩
theorem turn_enumT {P : Program} {w : World} {K : PySem.W.Frag} {elts : List Expr} {kk : Nat} {tpos : Pos} (a e it : Addr) :
    Turn P w K (.Tuple elts kk tpos) (IteT K a) [e, it] e (fun i h => (∃ old, IsEnum h e it ((i : Nat) : Int) old) ∧ h.IsTupleIter it a i ∧ e ≠ it ∧ a ≠ it ∧ a ≠ e) where
  mem := by simp
  obj := fun i h st b hb => by
    obtain ⟨⟨old, he⟩, ⟨o, ho, hc, hd⟩, _⟩ := st
    have e' : b = e ∨ b = it := by simpa using hb
    rcases e' with z | z
    · rw [z]; exact ⟨_, he, fun v q => nomatch q⟩
    · rw [z]; exact ⟨o, ho, fun v q => by rw [hd] at q; cases q⟩
  keep := fun i h h' st k => let ⟨⟨old, he⟩, hi, hne⟩ := st; ⟨⟨old, k e (by simp) _ he⟩, hi.at fun o q => k it (by simp) o q, hne⟩
  item := by
    intro X hP hw hK hc i pins s σ H E I hf st hg
    subst hP hw hK
    obtain ⟨⟨old, he⟩, hit, hne, hai, hae⟩ := st
    obtain ⟨xs, x, hq, hx⟩ := hg
    obtain ⟨its, rv, p, hz⟩ := I.tuple hq
    obtain ⟨u, hu, ru⟩ := rv.get hx
    have hel : e < s.heap.objs.size := Heap.lt_size he
    have hil : it < s.heap.objs.size := by obtain ⟨_, q, _⟩ := hit; exact Heap.lt_size q
    have hlt : i < its.toArray.size := by
      have := (List.getElem?_eq_some_iff.mp hu).1
      simpa using this
    refine wpAny_pyNext_enum_itemC (fp := [it, a]) (Draws.tuple (A := X.A.in1) (I.ok.hd hc) it a hai its.toArray) he ⟨hit, p⟩ hlt hne (by simp [hne, Ne.symm hae]) fun v h' tk hv ho hit' hT hsz hk => ?_
    have ev : v = u := by
      have hv : its.toArray[i]? = some v := hv
      rw [List.getElem?_toArray, hu] at hv
      exact (Option.some.inj hv).symm
    subst ev
    refine ⟨_, rfl, wpAny_letOwnedTupleGo_enum (s := { s with heap := h', toks := tk + 1 }) ho fun h'' he' sb => ?_⟩
    have hT2 : h''.get? s.heap.objs.size = some { cls := .type "tuple", data := .seq #[.int i tk, v] } := (sb.2 _ (Nat.ne_of_gt hel)).trans hT
    have new : ObjOk X.prog X.w (upd H s.heap.objs.size (.tup [.int (i : Nat), x])) h'' s.heap.objs.size (.tup [.int (i : Nat), x]) :=
      ⟨by show 2 ≤ sizeLine; decide, [.int i tk, v], .cons ⟨_, rfl⟩ (.cons ru .nil), ⟨_, hT2, rfl, _, rfl⟩⟩
    have I1 : L2.Inv X pins σ (upd H s.heap.objs.size (.tup [.int (i : Nat), x])) { s with heap := h'', toks := tk + 1 } :=
      L2.Inv.turnedNew I (ch := [e, it]) (fun b ob hb q => (sb.2 b (fun z => hb (by simp [z]))).trans (hk b ob (fun z => hb (by simp [z])) (fun z => hb (by simp [z])) q)) hf (Nat.le_refl _) new
    refine ⟨.ref s.heap.objs.size, _, I1, rfl, ⟨_, x, rfl, I.hok.fresh (Nat.le_refl _), rfl, fun ys hy => by rw [L2.Inv.tuple_inj I hy hq]; exact hx⟩, ⟨⟨v, ?_⟩, hit'.1.at fun o q => (sb.2 it (Ne.symm hne)).trans q, hne, hai, hae⟩, fun b hb => ?_⟩
    · have e1 : ((i + 1 : Nat) : Int) = (i : Int) + 1 := by omega
      rw [e1]; exact he'
    · have hb' : b < s.heap.objs.size := by
        have e' : b = e ∨ b = it := by simpa using hb
        rcases e' with z | z
        · rw [z]; exact hel
        · rw [z]; exact hil
      rw [upd_ne (Nat.ne_of_lt hb')]
      exact (hf b hb).1
  done := by
    intro X hP hw hK hc i pins s σ H E I hf st hg
    subst hP hw hK
    obtain ⟨⟨old, he⟩, hit, hne, hai, hae⟩ := st
    obtain ⟨xs, hq, hx⟩ := hg
    obtain ⟨its, rv, p, hz⟩ := I.tuple hq
    obtain ⟨f0, f1, f2, f3, f4, f5⟩ := hf it (by simp)
    have hl := rv.length
    exact enumT_end (I.ok.hd hc) he hit p (by simp; omega) fun h' eb => ⟨rfl, I.turned (t' := s.toks) (fun b o hb q => eb b o hb q) f0 f1 f3 f4 f5⟩
  self := fun A i s Q E st h => let ⟨⟨_, he⟩, _⟩ := st; wpAny_pyIter_enum he h
def iEnum2 (K : PySem.W.Frag) (ta : TA) : TI := fun σ H R => ta σ H fun vs H1 => ∃ a xs, vs = [.ref a] ∧ ((SqT K H1 a xs ∧ (xs.length ≤ sizeLine → R (IteT K a) H1)) ∨ (SqL K H1 a xs ∧ (xs.length ≤ sizeLine → R (Ite K a) H1)))
theorem pi_enum2 {X : Cx} {e : Expr} {ta : TA} {p pos tpos : Pos} {elts : List Expr} {kk : Nat} (hg : Gl X "enumerate") (hm : X.mg "enumerate" = none) (ha : PA X [e] ta) (hs : starEach [e] X.env = [(false, eval e X.env)] := by rfl) :
    PI X (.Tuple elts kk tpos) (.Call (.Name "enumerate" p) [e] [] pos) (iEnum2 X.K ta) := by
  refine ⟨fun pins s σ H R I h => ?_⟩
  refine Call_ (ld_blt I hg hm boot_enumerate (PyProof.Rows.callWith_type1 (thn (ha.run pos pins s σ H _ I h) fun us s1 ⟨vs, H1, I1, r1, q1⟩ => ?_) hs rfl))
  obtain ⟨a, xs, ex, hq⟩ := q1
  subst ex
  cases r1 with
  | cons r rr =>
    cases rr
    cases r
    have fp2 : ∀ b ∈ [s1.heap.objs.size + 1, s1.heap.objs.size], FpOk X pins H1 b := fun b hb => by
      have e' : b = s1.heap.objs.size + 1 ∨ b = s1.heap.objs.size := by simpa using hb
      have hle : s1.heap.objs.size ≤ b := by
        rcases e' with z | z
        · rw [z]; exact Nat.le_add_right _ _
        · rw [z]; exact Nat.le_refl _
      exact I1.fpOk hle (I1.hok.fresh hle)
    rcases hq with ⟨hq, q⟩ | ⟨hq, q⟩
    · obtain ⟨its, rv, p', hz⟩ := I1.tuple hq
      refine call_enumT (begins_tuple a its.toArray) p' fun h' he hit hk => wpAny_pyIter_enum he ?_
      have I2 : L2.Inv X pins σ H1 { s1 with heap := h' } := I1.kept (t' := s1.toks) hk
      have hal : a < s1.heap.objs.size := by obtain ⟨o, z, _⟩ := p'; exact Heap.lt_size z
      exact ⟨_, _, _, _, H1, rfl, I2, turn_enumT a (s1.heap.objs.size + 1) s1.heap.objs.size, ⟨⟨.none, he⟩, ⟨_, hit, rfl, rfl⟩, Nat.succ_ne_self _, Nat.ne_of_lt hal, Nat.ne_of_lt (Nat.lt_succ_of_lt hal)⟩, fp2, q hz⟩
    · obtain ⟨its, rv, p', hz⟩ := I1.list hq
      refine call_enumT (begins_list a its.toArray) p'.isList fun h' he hit hk => wpAny_pyIter_enum he ?_
      have I2 : L2.Inv X pins σ H1 { s1 with heap := h' } := I1.kept (t' := s1.toks) hk
      exact ⟨_, _, _, _, H1, rfl, I2, turn_enum a (s1.heap.objs.size + 1) s1.heap.objs.size, ⟨⟨.none, he⟩, ⟨_, hit, rfl, rfl⟩, Nat.succ_ne_self _⟩, fp2, q hz⟩
end Rc
/-! RcN: dicts whose keys are tuples of tuples of ints: made of a list of pairs, asked. -/
namespace Rc
open PySem L2 PySem.Spec PyProof.Rows
def toN (k : NK) : NestedKey := .tup (k.map fun c => .tup (c.map .num))
theorem hashes_map (w : World) {α : Type} (f : α → NestedKey) : ∀ l : List α, NestedKey.hashes w (l.map f) = l.map fun x => NestedKey.hash w (f x)
  | [] => rfl
  | x :: l => by
    rw [List.map_cons, NestedKey.hashes, hashes_map w f l]
    rfl
theorem hash_toN (w : World) (k : NK) : (toN k).hash w = hN k := by
  unfold toN hN
  rw [NestedKey.hash, hashes_map]
  congr 3
  funext c
  rw [NestedKey.hash, hashes_map]
  rfl
theorem depth_map {α : Type} {f : α → NestedKey} {n : Nat} (h : ∀ x, (f x).depth ≤ n) : ∀ l : List α, NestedKey.depthAll (l.map f) ≤ n
  | [] => Nat.zero_le _
  | x :: l => by
    rw [List.map_cons, NestedKey.depthAll]
    exact Nat.max_le.mpr ⟨h x, depth_map h l⟩
theorem depth_toN (k : NK) : (toN k).depth ≤ 8 := by
  unfold toN
  rw [NestedKey.depth]
  have := depth_map (f := fun c : List Int => NestedKey.tup (c.map .num)) (n := 1) (fun c => by
    rw [NestedKey.depth]
    have := depth_map (f := NestedKey.num) (n := 0) (fun i => Nat.le_refl _) c
    omega) k
  omega
theorem num_inj : ∀ {a b : List Int}, a.map NestedKey.num = b.map NestedKey.num → a = b
  | [], [], _ => rfl
  | [], _ :: _, h => by simp at h
  | _ :: _, [], h => by simp at h
  | x :: a, y :: b, h => by
    rw [List.map_cons, List.map_cons] at h
    injection h with h1 h2
    injection h1 with h1
    rw [h1, num_inj h2]
theorem toN_inj {a b : NK} (h : toN a = toN b) : a = b := by
  unfold toN at h
  injection h with h
  induction a generalizing b with
  | nil => cases b with
    | nil => rfl
    | cons _ _ => simp at h
  | cons x a ih => cases b with
    | nil => simp at h
    | cons y b =>
      rw [List.map_cons, List.map_cons] at h
      injection h with h1 h2
      injection h1 with h1
      rw [num_inj h1, ih h2]
section
variable {X : Cx} {pins : List (Addr × Obj)} {σ : L2.St} {H : Hp} {s : Shared} {ρ : Pl}
theorem nums_at {h : Heap} : ∀ {is : List Int} {its : List Value}, Vals (is.map V.int) its → NestedAll h (is.map .num) its
  | [], _, .nil => .nil
  | i :: is, _, .cons r t => by
    obtain ⟨k, rfl⟩ := r
    exact .cons (.int i k) (nums_at t)
theorem nk_is (I : L2.Inv X pins σ H s) {k : NK} {b : Addr} (h : NKAt X.K ρ H k b) : NestedIs s.heap (toN k) (.ref b) := by
  obtain ⟨cs, h1, h2⟩ := h
  obtain ⟨hsz, its, rv, o, e1, e2, n, e3⟩ := (show ObjOk X.prog X.w H s.heap b (.tup (cs.map V.ref)) from I.hok b _ h1.1)
  clear hsz
  have ei := refs_at rv
  subst ei
  refine .tup e1 e2 e3 ?_
  show NestedAll s.heap _ (cs.map Value.ref)
  clear h1 rv e1 e2 e3
  induction h2 with
  | nil => exact .nil
  | cons r t ih =>
    obtain ⟨_, its, rv, o, e1, e2, n, e3⟩ := (show ObjOk X.prog X.w H s.heap _ (.tup (_ : List V)) from I.hok _ _ r.1)
    exact .cons (.tup e1 e2 e3 (by simpa using nums_at rv)) ih
def liftN (x : NK × Addr × Value) : NestedKey × Addr × Value := (toN x.1, x.2)
theorem dn_of (I : L2.Inv X pins σ H s) {a : Addr} {xs : List (NK × Addr × Value)} (h : DnAt X.K ρ H a xs) : s.heap.DictOfH (nestedKind X.prog X.w) a (xs.map liftN) := by
  obtain ⟨o, es, ep, e1, e2, e3, e4⟩ := (show ObjOk X.prog X.w H s.heap a (.ext (DicN a xs)) from I.hok a _ h.at_).1
  refine ⟨o, es, ep, e1, e2, e3, ?_, fun y hy => ?_, ?_⟩
  · rw [e4, List.map_map]
    refine List.map_congr_left fun x _ => ?_
    show entN x = ⟨(toN x.1).hash X.w, .ref x.2.1, x.2.2⟩
    rw [hash_toN]
    rfl
  · obtain ⟨x, hx, rfl⟩ := List.mem_map.mp hy
    exact ⟨nk_is I (h.keys x hx), depth_toN _⟩
  · rw [List.map_map]
    have nd := h.nd
    have : ((fun x => x.1) ∘ liftN) = fun x : NK × Addr × Value => toN x.1 := rfl
    rw [this]
    have e : (xs.map fun x => toN x.1) = (xs.map (·.1)).map toN := by rw [List.map_map]; rfl
    rw [e]
    exact List.Pairwise.map toN (fun a b hab z => hab (toN_inj z)) nd
theorem at_lift {xs : List (NK × Addr × Value)} {k : NK} : (atKey (xs.map liftN) (toN k)).isSome = decide (k ∈ xs.map (·.1)) := by
  unfold atKey
  rw [Option.isSome_map, Bool.eq_iff_iff, List.find?_isSome, decide_eq_true_eq]
  constructor
  · rintro ⟨y, hy, e⟩
    obtain ⟨x, hx, rfl⟩ := List.mem_map.mp hy
    have : toN x.1 = toN k := of_decide_eq_true e
    rw [← toN_inj this]
    exact List.mem_map.mpr ⟨x, hx, rfl⟩
  · intro h
    obtain ⟨x, hx, rfl⟩ := List.mem_map.mp h
    exact ⟨liftN x, List.mem_map.mpr ⟨x, hx, rfl⟩, decide_eq_true rfl⟩
theorem in_dicN {a b : Addr} {k : NK} {xs : List (NK × Addr × Value)} {Q : Value → Shared → Prop} {E : Value → Shared → Prop} {A : Around} (hu : A.units + 10 < cLine) (I : L2.Inv X pins σ H s) (h : DnAt X.K ρ H a xs) (hk : NKAt X.K ρ H k b) (q : ∀ s', L2.Inv X pins σ H s' → Q (.bool (decide (k ∈ xs.map (·.1)))) s') :
    wpAny (model X.prog X.w) A (compareOp .In (.ref b) (.ref a)) Q E s := by
  refine wpAny_in_heap (knd := nestedKind X.prog X.w) (k := toN k) (show A.units + 1 + 8 < cLine by omega) ⟨nk_is I hk, depth_toN k⟩ h.sys (dn_of I h) ?_
  rw [at_lift]
  exact q _ (I.tok _)
theorem notIn_dicN {a b : Addr} {k : NK} {xs : List (NK × Addr × Value)} {Q : Value → Shared → Prop} {E : Value → Shared → Prop} {A : Around} (hu : A.units + 10 < cLine) (I : L2.Inv X pins σ H s) (h : DnAt X.K ρ H a xs) (hk : NKAt X.K ρ H k b) (q : ∀ s', L2.Inv X pins σ H s' → Q (.bool (!decide (k ∈ xs.map (·.1)))) s') :
    wpAny (model X.prog X.w) A (compareOp .NotIn (.ref b) (.ref a)) Q E s := by
  refine wpAny_notIn_heap (knd := nestedKind X.prog X.w) (k := toN k) (show A.units + 1 + 8 < cLine by omega) ⟨nk_is I hk, depth_toN k⟩ h.sys (dn_of I h) ?_
  rw [at_lift]
  exact q _ (I.tok _)
/-! ### made of a list of pairs -/
theorem at_liftO {xs : List (NK × Addr × Value)} {k : NK} : (atKey (xs.map liftN) (toN k)).isSome = (atKey xs k).isSome := by
  rw [at_lift]
  unfold atKey
  rw [Option.isSome_map, Bool.eq_iff_iff, List.find?_isSome, decide_eq_true_eq]
  constructor
  · intro h
    obtain ⟨x, hx, rfl⟩ := List.mem_map.mp h
    exact ⟨x, hx, decide_eq_true rfl⟩
  · rintro ⟨x, hx, e⟩
    rw [← of_decide_eq_true e]
    exact List.mem_map.mpr ⟨x, hx, rfl⟩
theorem stored_lift {xs : List (NK × Addr × Value)} {k : NK} {a : Addr} {v : Value} : storedH (xs.map liftN) (toN k) a v = (storedH xs k a v).map liftN := by
  unfold storedH
  rw [at_liftO]
  split
  · rw [List.map_map, List.map_map]
    refine List.map_congr_left fun x _ => ?_
    show putAt (toN k) v (liftN x) = liftN (putAt k v x)
    unfold putAt
    by_cases e : x.1 = k
    · rw [if_pos e, if_pos (show (liftN x).1 = toN k by rw [← e]; rfl)]
      rfl
    · rw [if_neg e, if_neg (show ¬ (liftN x).1 = toN k from fun z => e (toN_inj z))]
  · rw [List.map_append]
    rfl
theorem storedAll_lift : ∀ {ys xs : List (NK × Addr × Value)}, storedAllH (xs.map liftN) (ys.map liftN) = (storedAllH xs ys).map liftN
  | [], xs => rfl
  | y :: ys, xs => by
    show storedAllH (storedH (xs.map liftN) (toN y.1) y.2.1 y.2.2) (ys.map liftN) = (storedAllH (storedH xs y.1 y.2.1 y.2.2) ys).map liftN
    rw [stored_lift, storedAll_lift]
theorem stored_keys {xs : List (NK × Addr × Value)} {k : NK} {a : Addr} {v : Value} : (storedH xs k a v).map (·.1) = if k ∈ xs.map (·.1) then xs.map (·.1) else xs.map (·.1) ++ [k] := by
  unfold storedH
  have h : (atKey xs k).isSome = decide (k ∈ xs.map (·.1)) := by rw [← at_liftO, at_lift]
  rw [h]
  by_cases e : k ∈ xs.map (·.1)
  · rw [if_pos (decide_eq_true e), if_pos e, List.map_map]
    refine List.map_congr_left fun x _ => ?_
    show (putAt k v x).1 = x.1
    unfold putAt
    split <;> rfl
  · rw [if_neg (by simpa using e), if_neg e, List.map_append]
    rfl
theorem storedAll_keys : ∀ {ys xs : List (NK × Addr × Value)}, (storedAllH xs ys).map (·.1) = ddN (xs.map (·.1)) (ys.map (·.1))
  | [], xs => rfl
  | y :: ys, xs => by
    show (storedAllH (storedH xs y.1 y.2.1 y.2.2) ys).map (·.1) = ddN (if y.1 ∈ xs.map (·.1) then xs.map (·.1) else xs.map (·.1) ++ [y.1]) (ys.map (·.1))
    rw [storedAll_keys, stored_keys]
theorem stored_all {P : NK → Addr → Prop} {xs : List (NK × Addr × Value)} {k : NK} {a : Addr} {v : Value} (hx : ∀ x ∈ xs, P x.1 x.2.1) (hk : P k a) : ∀ x ∈ storedH xs k a v, P x.1 x.2.1 := by
  unfold storedH
  split
  · intro x h
    obtain ⟨y, hy, rfl⟩ := List.mem_map.mp h
    unfold putAt
    split
    · exact hx y hy
    · exact hx y hy
  · intro x h
    rcases List.mem_append.mp h with h | h
    · exact hx x h
    · rw [List.mem_singleton.mp h]
      exact hk
theorem storedAll_all {P : NK → Addr → Prop} : ∀ {ys xs : List (NK × Addr × Value)}, (∀ x ∈ xs, P x.1 x.2.1) → (∀ y ∈ ys, P y.1 y.2.1) → ∀ x ∈ storedAllH xs ys, P x.1 x.2.1
  | [], xs, hx, _ => hx
  | y :: ys, xs, hx, hy => storedAll_all (ys := ys) (stored_all hx (hy y (List.mem_cons_self ..))) fun z hz => hy z (List.mem_cons_of_mem _ hz)
theorem pairsN (I : L2.Inv X pins σ H s) : ∀ {ps : List Addr} {ks : List NK}, Paired (fun p k => ∃ b v, SqT X.K H p [.ref b, v] ∧ NKAt X.K ρ H k b) ps ks →
    ∃ ys : List (NK × Addr × Value), ys.map (·.1) = ks ∧ (∀ y ∈ ys, NKAt X.K ρ H y.1 y.2.1) ∧ ys.length = ps.length ∧ ∀ (j : Nat) (y : NK × Addr × Value), ys[j]? = some y → ∃ (p : Addr), ps[j]? = some p ∧ s.heap.IsTuple p #[.ref y.2.1, y.2.2]
  | _, _, .nil => ⟨[], rfl, by simp, rfl, fun j q e => by simp at e⟩
  | _, _, .cons (a := p) (b := k) h t => by
    obtain ⟨ys, r, ha, hl, hp⟩ := pairsN I t
    obtain ⟨b, v, h1, h2⟩ := h
    obtain ⟨its, rv, ht, _⟩ := I.tuple h1
    obtain ⟨u, y, ei, ru, ry⟩ := vals2 rv
    subst ei
    cases ru
    refine ⟨(k, b, y) :: ys, by rw [List.map_cons, r], fun z hz => ?_, by rw [List.length_cons, List.length_cons, hl], fun j q e => ?_⟩
    · rcases List.mem_cons.mp hz with rfl | hz
      · exact h2
      · exact ha z hz
    · cases j with
      | zero =>
        cases (show (k, b, y) = q from Option.some.inj e)
        exact ⟨p, rfl, ht⟩
      | succ j =>
        obtain ⟨p', e1, e2⟩ := hp j q (by simpa using e)
        exact ⟨p', by simpa using e1, e2⟩
theorem call_dictN (hc : X.calm = true) (hu : X.A.units + 100 < cLine) : CallR X (.type "dict") (fun xs H Q => ∃ (ρ : Pl) (a : Addr) (ps : List Addr) (ks : List NK), xs = [.ref a] ∧ H a = some (.lst (ps.map V.ref)) ∧ (∀ p, H p = none → p ∉ ρ) ∧ Paired (fun p k => ∃ b v, SqT X.K H p [.ref b, v] ∧ NKAt X.K ρ H k b) ps ks ∧
    ∀ p xs', H p = none → DnAt X.K ρ (upd H p (.ext (DicN p xs'))) p xs' → xs'.map (·.1) = ddN [] ks → Q (.ref p) (upd H p (.ext (DicN p xs')))) := by
  intro pins s σ H xs us Q I r q
  obtain ⟨ρ, a, ps, ks, ex, hl, hρ, hps, q⟩ := q
  subst ex
  obtain ⟨u, eu, rx⟩ := vals1 r
  subst eu
  cases rx
  obtain ⟨ys, eks, hka, hlen, hat⟩ := pairsN I hps
  obtain ⟨hz, its, n, rv, ho⟩ := (show ObjOk X.prog X.w H s.heap a (.lst (ps.map V.ref)) from I.hok a _ hl)
  have ei := refs_at rv
  subst ei
  have hzp : ps.length ≤ sizeLine := by simpa using hz
  have hok : PlainSeq "list" s.heap a (ps.map Value.ref).toArray ∧ PairItems s.heap (ps.map Value.ref).toArray (fun j => ps.getD j 0) (ys.map fun y => (Value.ref y.2.1, y.2.2)) := by
    refine ⟨⟨_, n, ho, rfl, rfl, rfl⟩, by simp [hlen], fun j k v e => ?_⟩
    rw [List.getElem?_map] at e
    obtain ⟨y, ey, e'⟩ := Option.map_eq_some_iff.mp e
    cases e'
    obtain ⟨p, e1, e2⟩ := hat j y ey
    have e3 : ps.getD j 0 = p := by rw [List.getD_eq_getElem?_getD, e1]; rfl
    dsimp only
    rw [e3]
    exact ⟨by simp [e1], .inl e2⟩
  have hfr : H s.heap.objs.size = none := I.hok.fresh (Nat.le_refl _)
  refine call_dict_pairsH (knd := nestedKind X.prog X.w) (ps := ys.map liftN) (PairArg.list a (ps.map Value.ref).toArray (fun j => ps.getD j 0) (ys.map fun y => (Value.ref y.2.1, y.2.2))) (I.ok.hd hc) (show X.A.units + 1 + 1 + 8 < cLine by omega) hok ⟨by simp, fun i key v e => ?_⟩ (fun h' hk y hy => ?_) (by simp [hlen, hzp]) fun h' tk dd hk => ?_
  · have e : (ys.map fun y => (Value.ref y.2.1, y.2.2))[i]? = some (key, v) := e
    rw [List.getElem?_map] at e
    obtain ⟨y, ey, e'⟩ := Option.map_eq_some_iff.mp e
    cases e'
    exact ⟨toN y.1, y.2.1, by rw [List.getElem?_map, ey]; rfl, rfl⟩
  · obtain ⟨z, hz', rfl⟩ := List.mem_map.mp hy
    refine ⟨NestedIs.at (fun b ob vs m hb hc' => ?_) _ _ (nk_is I (hka z hz')), depth_toN _⟩
    exact hk _ _ (Nat.ne_of_lt (Heap.lt_size hb)) (by simp) hb
  · have el : storedAllH ([] : List (NestedKey × Addr × Value)) (ys.map liftN) = (storedAllH [] ys).map liftN := storedAll_lift (xs := [])
    rw [el] at dd
    obtain ⟨o, es, ep, e1, e2, e3, e4, _, e5⟩ := dd
    have e4' : es.toList = (storedAllH [] ys).map entN := by
      rw [e4, List.map_map]
      refine List.map_congr_left fun x _ => ?_
      show (⟨(toN x.1).hash X.w, .ref x.2.1, x.2.2⟩ : DictEntry) = entN x
      rw [hash_toN]
      rfl
    have nd : ((storedAllH [] ys).map (·.1)).Nodup := by
      rw [List.map_map] at e5
      have e6 : ((storedAllH [] ys).map ((fun x => x.1) ∘ liftN)) = ((storedAllH [] ys).map (·.1)).map toN := by rw [List.map_map]; rfl
      rw [e6] at e5
      exact List.Pairwise.imp (fun h z => h (congrArg toN z)) (List.pairwise_map.mp e5)
    have kx : Ext0 ρ H ρ (upd H s.heap.objs.size (.ext (DicN s.heap.objs.size (storedAllH [] ys)))) := Ext0.laid hfr
    refine ⟨.ref s.heap.objs.size, upd H s.heap.objs.size (.ext (DicN s.heap.objs.size (storedAllH [] ys))), I.laid (t' := tk) (fun b u e => hk b u (by simp) e) (Nat.le_refl _) ⟨⟨o, es, ep, e1, e2, e3, e4'⟩, ⟨o, e1⟩, fun h1 h2 p k => ?_⟩, rfl, q _ _ hfr ⟨upd_same, hρ _ hfr, beq_eq_false_iff_ne.mpr (Nat.ne_of_gt I.big), nd, fun x hx => (storedAll_all (P := fun k b => NKAt X.K ρ H k b) (by simp) hka x hx).mono kx.keep⟩ (by rw [storedAll_keys, ← eks]; rfl)⟩
    obtain ⟨o', es', ep', f1, f2, f3, f4⟩ := p
    exact ⟨o', es', ep', k _ f1, f2, f3, f4⟩
end
end Rc
/-! RcM: sorted(xs), min(xs) and min(x, y) of data. -/
namespace PySem
section
variable {prog : Program} {w : World} {A : Around} {E : Value → Shared → Prop} {s : Shared}
/-- min(a, b), compared where H stands -/
theorem call_min_twoH {a b : Value} {Q : Value → Shared → Prop}
    (h : wpAny (model prog w) A.in1 (pyIter (.ref s.heap.objs.size)) (fun it s₂ => ∃ I fp wr G n P St H bt, it = .ref I ∧ WalksS prog w A.in1 I fp wr G n P St ∧ St 0 s₂ ∧ (∀ b ∈ fp, b < s₂.heap.objs.size) ∧ 0 < n ∧
      (∀ b o, H.get? b = some o → b ∉ wr) ∧ (∀ b o, H.get? b = some o → s₂.heap.get? b = some o) ∧ CmpIn prog w A.in1 .Lt H P bt ∧ ∀ v s', P (argBest bt (n - 1)) v → Moved wr G s₂ s' → Q v s') E
      { s with heap := s.heap.push { cls := .type "tuple", data := .seq #[a, b] } }) :
    wpAny (model prog w) A (call (.builtin "min") [a, b]) Q E s := by
  have hname : (toString "min" ++ toString ".loop" : String) = "min.loop" := by decide
  refine call_function_tree F.kind_min F.plain_min F.entry_min (F.args_min2 _ _) ?_
  show wpAny _ A.in1 (Builtin.Builtins.bindParams "min" ["key", "default"] 0 ⟨[], []⟩ >>= _) _ _ s
  refine wpAny_bind (wpAny_of_eq (show Builtin.Builtins.bindParams "min" ["key", "default"] 0 ⟨[], []⟩ = pure [none, none] from rfl) ?_)
  show wpAny _ A.in1 (newTuple [a, b] >>= _) _ _ s
  refine wpAny_bind (wpAny_newObj_type ?_)
  refine wpAny_bind (wpAny_mono h (fun it s₂ h₂ => ?_) fun _ _ e => e)
  obtain ⟨I, fp, wr, G, n, P, St, H, bt, rfl, W, hst, hfp, hn, hw, hkeep, hcmp, hQ⟩ := h₂
  refine wpAny_bind (wpAny_newObj_type ?_)
  have hSf : s₂.heap.objs.size ∉ fp := fun hm => Nat.lt_irrefl _ (hfp _ hm)
  rw [hname]
  refine wpAny_pure ⟨plainId_quiet F.plain_min_loop _, codeAny_min_loop_firstH W H hw bt hcmp s₂.heap.objs.size hSf (fresh_in hkeep) _ hn (fun b o e => Heap.get?_push_of_some _ (hkeep b o e)) (W.frame 0 s₂ _ s₂.toks hst (Nat.le_refl _) fun b _ o e => Heap.get?_push_of_some _ e) (Heap.get?_push_size _ rfl) fun v s' hP hm => ?_⟩
  exact hQ v s' hP (Moved.drop_new (tk := s₂.toks) hm (Nat.le_refl _))
end
end PySem
namespace Rc
open PySem L2 PySem.Spec PyProof.Rows PySem.W
section
variable {X : Cx}
theorem depthAll_le {n : Nat} : ∀ {ds : List PyData}, (∀ d ∈ ds, d.depth ≤ n) → PyData.depthAll ds ≤ n
  | [], _ => by simp [PyData.depthAll]
  | d :: ds, h => by
    rw [PyData.depthAll]
    have h1 := h d (List.mem_cons_self ..)
    have h2 := depthAll_le (ds := ds) fun x hx => h x (List.mem_cons_of_mem _ hx)
    omega
theorem each_vals : ∀ {t : List (V × PyData)} {its : List Value}, Vals (t.map (·.1)) its → EachIs (fun u b => RelV b.1 u) its t
  | [], _, h => by cases h; exact .nil
  | _ :: _, _, h => by
    cases h with
    | cons h1 h2 => exact .cons h1 (each_vals h2)
theorem vals_each : ∀ {t : List (V × PyData)} {its : List Value}, EachIs (fun u b => RelV b.1 u) its t → Vals (t.map (·.1)) its
  | [], _, h => by cases h; exact .nil
  | _ :: _, _, h => by
    cases h with
    | cons h1 h2 => exact .cons h1 (vals_each h2)
theorem each_reads {pins : List (Addr × Obj)} {s : Shared} {σ : L2.St} {H : Hp} (I : Inv X pins σ H s) : ∀ {t : List (V × PyData)} {its : List Value}, (∀ b ∈ t, Dp X.K H b.1 b.2) → EachIs (fun u b => RelV b.1 u) its t → EachIs (fun u b => ∃ as, Reads s.heap u b.2 as) its t
  | [], _, _, h => by cases h; exact .nil
  | b :: t, _, hd, h => by
    cases h with
    | cons h1 h2 => exact .cons (Dp.reads I _ _ _ (hd b (List.mem_cons_self ..)) h1) (each_reads I (fun x hx => hd x (List.mem_cons_of_mem _ hx)) h2)
/-- sorted(xs) of data -/
theorem cr_sortD (hu : X.A.units + 100 < cLine) : CallR X (.builtin "sorted") (fun vs H Q => ∃ (a : Addr) (t : List (V × PyData)), vs = [.ref a] ∧ SqL X.K H a (t.map (·.1)) ∧ (∀ b ∈ t, Dp X.K H b.1 b.2 ∧ b.2.depth ≤ 20) ∧ AllAlike (t.map (·.2)) ∧ Sortable (t.map (·.2)) ∧ ∀ p, H p = none → Q (.ref p) (upd H p (.lst ((t.mergeSort (dataLe false (·.2))).map (·.1))))) := by
  intro pins s σ H vs us Q I r h
  obtain ⟨a, t, rfl, hs, hd, hal, hk, q⟩ := h
  obtain ⟨its, rv, hl, hz⟩ := I.list hs
  rw [Vals.ref1 r]
  have e := each_vals rv
  have er := each_reads I (fun b hb => (hd b hb).1) e
  rw [List.length_map] at hz
  refine sorted_data (enc := fun b : V × PyData => b.2) hl.isList e er hal hk hz (fun b hb => by have := (hd b hb).2; omega) fun out ho eo => ?_
  obtain ⟨ep, he'⟩ := PyProof.Rows.sortedAll_at s.heap its out.toArray
  refine ⟨.ref _, upd H (s.heap.objs.size + 1) (.lst ((t.mergeSort (dataLe false (·.2))).map (·.1))), I.laid (t' := s.toks) (fun _ _ => PyProof.Rows.sortedAll_old) (Nat.le_succ _) ⟨?_, out, ep, vals_each eo, he'⟩, rfl, q _ (I.hok.fresh (Nat.le_succ _))⟩
  rw [List.length_map, List.length_mergeSort]
  exact hz
def minP {α : Type} (k : α → PyData) (x : α) (t : List α) : α := t.foldl (fun a y => if dataLt (k y) (k a) then y else a) x
theorem getD_map' {α β : Type} {f : α → β} {d : α} {l : List α} {i : Nat} : (l.map f).getD i (f d) = f (l.getD i d) := by
  rw [List.getD_eq_getElem?_getD, List.getD_eq_getElem?_getD, List.getElem?_map]
  cases l[i]? <;> rfl
theorem vals_at {t : List (V × PyData)} : ∀ {its : List Value}, Vals (t.map (·.1)) its → ∀ {i : Nat} {v : Value}, its[i]? = some v → ∃ b, t[i]? = some b ∧ RelV b.1 v := by
  induction t with
  | nil => intro its h i v hv; cases h; simp at hv
  | cons b t ih =>
    intro its h i v hv
    cases h with
    | cons h1 h2 =>
      cases i with
      | zero =>
        have := Option.some.inj (show some _ = some v from hv)
        subst this
        exact ⟨b, rfl, h1⟩
      | succ i => exact ih h2 (by simpa using hv)
theorem best_at (x : V × PyData) (t : List (V × PyData)) : (x :: t).getD (argBest (fun i j => dataLt (((x :: t).map (·.2)).getD i .none) (((x :: t).map (·.2)).getD j .none)) t.length) (.non, .none) = minP (·.2) x t := by
  have e := (argBest_fold (fun a b : V × PyData => dataLt a.2 b.2) (.non, .none) x t t.length (Nat.le_refl _)).2
  rw [List.take_length] at e
  have : (fun i j => dataLt (((x :: t).map (·.2)).getD i .none) (((x :: t).map (·.2)).getD j .none)) = fun i j => dataLt ((x :: t).getD i (.non, .none)).2 ((x :: t).getD j (.non, .none)).2 := by
    funext i j
    rw [show (((x :: t).map (·.2)).getD i .none) = ((x :: t).getD i (V.non, PyData.none)).2 from getD_map' (d := (V.non, PyData.none)), show (((x :: t).map (·.2)).getD j .none) = ((x :: t).getD j (V.non, PyData.none)).2 from getD_map' (d := (V.non, PyData.none))]
  rw [this]
  exact e
/-- min(xs) of data -/
theorem cr_minD (hc : X.calm = true) (hu : X.A.units + 100 < cLine) : CallR X (.builtin "min") (fun vs H Q => ∃ (a : Addr) (x : V × PyData) (t : List (V × PyData)), vs = [.ref a] ∧ SqL X.K H a ((x :: t).map (·.1)) ∧ (∀ b ∈ x :: t, Dp X.K H b.1 b.2 ∧ b.2.depth ≤ 20) ∧ AlikeAll ((x :: t).map (·.2)) ∧ Q (minP (·.2) x t).1 H) := by
  intro pins s σ H vs us Q I r h
  obtain ⟨a, x, t, rfl, hs, hd, hal, q⟩ := h
  obtain ⟨its, rv, hl, hz⟩ := I.list hs
  rw [Vals.ref1 r]
  have er := each_reads I (fun b hb => (hd b hb).1) (each_vals rv)
  obtain ⟨as, hr⟩ := each_readsAll (fun b : V × PyData => b.2) er
  have hdep : PyData.depthAll ((x :: t).map (·.2)) ≤ 20 := depthAll_le fun d hm => by
    obtain ⟨b, hb, rfl⟩ := List.mem_map.mp hm
    exact (hd b hb).2
  have hn : its.length = t.length + 1 := by
    have := rv.length
    simp at this
    omega
  refine call_min_walkH (iter_listW (A := X.A.in1) (I.ok.hd hc) hl.isList fun s₂ e W st hfp hw hk => ?_)
  refine ⟨_, _, _, _, _, _, _, s.heap, _, rfl, W, st, hfp, by simp; omega, hw, hk, cmpIn_lt (A := X.A.in1) (vs := its.toArray) (by simpa using hr) hal (by show X.A.units + 1 + _ < _; omega), fun v s' hP m => ?_⟩
  obtain ⟨h', tk, rfl, hk'⟩ := moved_old e rfl m
  have e1 : its.toArray.size - 1 = t.length := by simp; omega
  rw [e1] at hP
  rw [List.getElem?_toArray] at hP
  obtain ⟨b, hb, rb⟩ := vals_at rv hP
  have hb' : (x :: t).getD (argBest (fun i j => dataLt (((x :: t).map (·.2)).getD i .none) (((x :: t).map (·.2)).getD j .none)) t.length) (.non, .none) = b := by
    rw [List.getD_eq_getElem?_getD, hb]
    rfl
  rw [best_at] at hb'
  rw [← hb'] at rb
  exact ⟨_, H, I.kept hk', rb, q⟩
/-- min(x, y) of data -/
theorem cr_min2D (hc : X.calm = true) (hu : X.A.units + 100 < cLine) : CallR X (.builtin "min") (fun vs H Q => ∃ (x y : V × PyData), vs = [x.1, y.1] ∧ (∀ b ∈ [x, y], Dp X.K H b.1 b.2 ∧ b.2.depth ≤ 20) ∧ AlikeAll ([x, y].map (·.2)) ∧ Q (minP (·.2) x [y]).1 H) := by
  intro pins s σ H vs us Q I r h
  obtain ⟨x, y, rfl, hd, hal, q⟩ := h
  obtain ⟨u, w', rfl, r1, r2⟩ := vals2 r
  have rv : Vals ([x, y].map (·.1)) [u, w'] := .cons r1 (.cons r2 .nil)
  have er := each_reads I (fun b hb => (hd b hb).1) (each_vals rv)
  obtain ⟨as, hr⟩ := each_readsAll (fun b : V × PyData => b.2) er
  have hdep : PyData.depthAll ([x, y].map (·.2)) ≤ 20 := depthAll_le fun d hm => by
    obtain ⟨b, hb, rfl⟩ := List.mem_map.mp hm
    exact (hd b hb).2
  have hT : (s.heap.push { cls := .type "tuple", data := .seq #[u, w'] }).IsTuple s.heap.objs.size #[u, w'] := ⟨_, Heap.get?_push_size _ rfl, rfl, 0, rfl⟩
  have hkp : ∀ b o, s.heap.get? b = some o → (s.heap.push { cls := .type "tuple", data := .seq #[u, w'] }).get? b = some o := fun b o e => Heap.get?_push_of_some _ e
  have hr' : ReadsAll (s.heap.push { cls := .type "tuple", data := .seq #[u, w'] }) [u, w'] ([x, y].map (·.2)) as := PyProof.Rows.ReadsAll.keeps hkp hr
  refine call_min_twoH (iter_tupleW (A := X.A.in1) (s := { s with heap := s.heap.push { cls := .type "tuple", data := .seq #[u, w'] } }) (I.ok.hd hc) hT fun s₂ e W st hfp hw hk => ?_)
  refine ⟨_, _, _, _, _, _, _, s.heap.push { cls := .type "tuple", data := .seq #[u, w'] }, _, rfl, W, st, hfp, by simp, hw, hk, cmpIn_lt (A := X.A.in1) (s := { s with heap := s.heap.push { cls := .type "tuple", data := .seq #[u, w'] } }) (vs := #[u, w']) hr' hal (by show X.A.units + 1 + _ < _; omega), fun v s' hP m => ?_⟩
  obtain ⟨h', tk, rfl, hk'⟩ := moved_old (s := { s with heap := s.heap.push { cls := .type "tuple", data := .seq #[u, w'] } }) e rfl m
  have hP : [u, w'][argBest (fun i j => dataLt (([x, y].map (·.2)).getD i .none) (([x, y].map (·.2)).getD j .none)) 1]? = some v := by
    have e : (#[u, w'] : Array Value) = [u, w'].toArray := rfl
    rw [e, List.getElem?_toArray] at hP
    exact hP
  obtain ⟨b, hb, rb⟩ := vals_at (t := [x, y]) rv hP
  have hb' : [x, y].getD (argBest (fun i j => dataLt (([x, y].map (·.2)).getD i .none) (([x, y].map (·.2)).getD j .none)) 1) (.non, .none) = b := by
    rw [List.getD_eq_getElem?_getD, hb]
    rfl
  rw [show (1 : Nat) = [y].length from rfl, best_at] at hb'
  rw [← hb'] at rb
  exact ⟨_, H, I.kept (fun b o e => hk' b o (hkp b o e)), rb, q⟩
end
end Rc
/-! RcS: sorted(set(xs)) of ints. -/
namespace Rc
open PySem PySem.Spec PyProof.Rows L2
/-- a new set -/
abbrev set0 (w : World) : Obj := { cls := .type "set", dict := none, data := .set #[] 0 (.fresh 0 0 (!w.params.followText "set-order")) }
section
variable {P : Program} {w : World} {A : Around} {E : Value → Shared → Prop} {s : Shared}
set_option maxHeartbeats 3200000 in
/-- set(xs) of a list of ints, as a set that may be walked -/
theorem call_set_lstI {l : Addr} {items : Array Value} (ns : List Int) {Q : Value → Shared → Prop} (hh : A.handled = none) (hl : s.heap.IsList l items) (hit : IntsAre items.toList ns) (hb : ns.length + 1 < scanBound)
    (h : ∀ (h' : Heap) (tk c : Nat), SetR w h' s.heap.objs.size (fun j => decide (j ∈ ns)) c → c ≤ ns.length → (∀ b o, s.heap.get? b = some o → h'.get? b = some o) → Q (.ref s.heap.objs.size) { s with heap := h', toks := tk }) :
    wpAny (model P w) A (call (.type "set") [.ref l]) Q E s := by
  have hisz : items.size = ns.length := by have q := IntsAre.length hit; rw [Array.length_toList] at q; exact q
  obtain ⟨c, tl, hmro⟩ := F.called_set.mro
  have hmade := F.called_set.made
  have hsub := F.called_set.sub
  refine wpAny_call (codeAny_of_tree (show wpAny _ _ (callAny (.type "set") _) _ _ _ from ?_))
  refine wpAny_pure ⟨Code.quiet_builtin _ (by decide +kernel), codeAny_builtin F.entry_type_call ?_⟩
  rw [Around.under_plain (weight_type_call_type "set" [.ref l] []) rfl]
  have h1 := F.called_set.notType
  have h2 := F.called_set.canCreate
  have hct := F.typeCall_set_1 (.ref l)
  repeat (any_goals (first | assumption | wp_step))
  refine codeAny_mono (code_set_led1 (.ref l) (E := E) (Q₁ := fun obj s₁ => obj = .ref s.heap.objs.size ∧ s₁ = { s with heap := s.heap.push (set0 w) }) ⟨rfl, rfl⟩) fun r s₁ hr => ?_
  cases r with
  | error e => exact hr
  | ok fl =>
    cases fl with
    | ret obj =>
      obtain ⟨rfl, rfl⟩ := hr
      have hS : (s.heap.push (set0 w)).get? s.heap.objs.size = some (set0 w) := Heap.get?_push_size _ rfl
      have hT : Shared.TypeIs { s with heap := s.heap.push (set0 w) } (.ref s.heap.objs.size) "set" := ⟨_, hS, rfl⟩
      have hli := F.called_set.init.lookup
      have hbi := F.called_set.init.bind (.ref s.heap.objs.size)
      repeat (any_goals (first | assumption | wp_step))
      refine codeAny_mono (codeAny_call_builtin (R := wants (fun r s₂ => r = .none ∧ ∃ h' tk c, s₂ = { s with heap := h', toks := tk } ∧ SetR w h' s.heap.objs.size (fun j => decide (j ∈ ns)) c ∧ c ≤ ns.length ∧ (∀ b o, s.heap.get? b = some o → h'.get? b = some o)) E) F.called_set.init.plain F.entry_set_init (check_set_init_1 hT ?_)) fun r₂ s₂ hr₂ => ?_
      · obtain ⟨ol, hol, hcl, nl, hdl⟩ := hl
        obtain ⟨ocls, odict, odata, oslots⟩ := ol
        simp only at hcl hdl
        subst hcl
        subst hdl
        have hol' : (s.heap.push (set0 w)).get? l = some { cls := .type "list", dict := odict, data := .seq items nl, slots := oslots } := Heap.get?_push_of_some _ hol
        have hsls := F.sub_list_set
        have hslf := F.sub_list_frozenset
        have hne : (Value.type "list" == Value.type "dict") = false := by decide
        have hl1 : (s.heap.push (set0 w)).IsList l items := ⟨_, hol', rfl, nl, rfl⟩
        unfold Builtin.«set.__init__» noKeywords Builtin.Frozenset.updateFrom
        generalize hPI : pyIter = PI
        wp_walk
        subst hPI
        refine wpAny_pyIter_list hl1 (wpAny_bind (wpAny_runValue ?_))
        have hlS : l < s.heap.objs.size := Heap.lt_size hol
        have hh3 : A.in1.in1.in1.handled = none := by simp [hh]
        have hneI : l ≠ (s.heap.push (set0 w)).objs.size := by rw [Heap.size_push]; exact Nat.ne_of_lt (Nat.lt_succ_of_lt hlS)
        have hSf : s.heap.objs.size ∉ [(s.heap.push (set0 w)).objs.size, l] := by
          rw [Heap.size_push]
          simp only [List.mem_cons, List.mem_singleton, List.not_mem_nil, or_false, not_or]
          exact ⟨Nat.ne_of_lt (Nat.lt_succ_self _), Nat.ne_of_gt hlS⟩
        have hval : ∀ (i : Nat) (v : Value), items[i]? = some v → ∃ k t, ns[i]? = some k ∧ v = .int k t := fun i v hv => by
          have hi : i < ns.length := by rw [← hisz]; exact (Array.getElem?_eq_some_iff.mp hv).1
          obtain ⟨t, e⟩ := PyProof.Rows.IntsAre.int_at hit i v (by rw [Array.getElem?_toList]; exact hv)
          refine ⟨ns[i], t, List.getElem?_eq_getElem hi, ?_⟩
          rw [e, List.getD_eq_getElem?_getD, List.getElem?_eq_getElem hi] <;> rfl
        refine set_update_ints ((Walks.list hh3 _ l hneI items).toS) s.heap.objs.size hSf ns hisz hb hval (items.size - 0) 0 _ (by omega) (Nat.zero_le _) ⟨⟨_, Heap.get?_push_size _ rfl, rfl, rfl⟩, (hl1.push _)⟩ ?hS0 ?hR
        case hS0 => exact ⟨0, Nat.le_refl 0, setR_new_at (Heap.get?_push_of_some _ hS)⟩
        case hR =>
          intro s' c' hm hc' hS'
          obtain ⟨h', g2, d', tk', os'⟩ := s'
          have eg : g2 = s.gens := hm.gens
          have ed : d' = s.drawn := hm.drawn
          have eo : os' = s.os := hm.os
          subst eg; subst ed; subst eo
          refine (show wpAny _ _ _ _ _ _ from wpAny_pure (show wpAny _ _ (PySem.ret Value.none) _ _ _ from ?_))
          rw [hisz] at hc'
          refine wpAny_pure ⟨rfl, h', tk', c', rfl, hS', hc', fun b o e => ?_⟩
          have hb0 : b < s.heap.objs.size := Heap.lt_size e
          have hb2 : b ≠ (s.heap.push (set0 w)).objs.size := by rw [Heap.size_push]; exact Nat.ne_of_lt (Nat.lt_succ_of_lt hb0)
          exact hm.heap b o (by simp only [List.mem_cons, List.mem_singleton, List.not_mem_nil, or_false, not_or]; exact ⟨Nat.ne_of_lt hb0, hb2⟩) (Heap.get?_push_of_some _ (Heap.get?_push_of_some _ e))
      · cases r₂ with
        | error e => exact hr₂
        | ok fl₂ =>
          cases fl₂ with
          | ret r =>
            obtain ⟨rfl, h', tk, c', rfl, hS', hc', hk'⟩ := hr₂
            repeat (any_goals (first | assumption | wp_step))
            exact h _ _ _ hS' hc' hk'
          | _ => exact hr₂.elim
    | _ => exact hr.elim
end
end Rc
/-! Rc3: the operations of the small language, over the layer's rules. -/
namespace Rc
open PySem L2

section
variable {K : PySem.W.Frag} {W : WX} {σ : L2.St} {ρ : Pl} {H : Hp} {Q : VK} {st : Store}
theorem post_v {new : Bool} {v : Val} {w : V} (p : Post K (Rep K) W σ ρ H Q (mk new (.v v) st)) (s : RelS K ρ st H) (r : Rep K ρ H v w) : Q w H := Post.ret p s r
theorem post_l {new : Bool} {vs : List Val} {ws : List V} (p : Post K (Rep K) W σ ρ H Q (mk new (.l vs) st)) (s : RelS K ρ st H) (r : RepL K ρ H vs ws) : ∀ a, H a = none → Q (.ref a) (upd H a (.lst ws)) := fun a h => by
  cases new with
  | false =>
    have p' : Post K (Rep K) W σ ρ H Q (ret (.lst vs) st) := p
    exact p' ρ (.ref a) _ (s.laid h).2 (s.laid h).1 (.lst upd_same (s.fresh h) (r.ext0 (.laid h)))
  | true =>
    have p' : Post K (Rep K) W σ ρ H Q (.ok (.loc st.length) (st ++ [.lst vs])) := p
    have z := s.newLoc (o := .lst vs) h (.lst (r.ext0 (.newLoc h)))
    refine p' (ρ.push a) (.ref a) _ z.2 z.1 (.loc ?_)
    show (ρ.ps ++ [a])[st.length]? = some a
    rw [← s.len]; simp
theorem post_dK {new : Bool} {kvs : List (Key × Val)} {kws : List (Key × V)} (p : Post K (Rep K) W σ ρ H Q (mk new (.d kvs) st)) (s : RelS K ρ st H) (hk : kvs.map (·.1) = kws.map (·.1)) (r : RepL K ρ H (kvs.map (·.2)) (kws.map (·.2))) : ∀ a, H a = none → Q (.ref a) (upd H a (.dK kws)) := fun a h => by
  cases new with
  | false =>
    have p' : Post K (Rep K) W σ ρ H Q (ret (.dK (kvs.map (·.1)) (kvs.map (·.2))) st) := p
    rw [hk] at p'
    exact p' ρ (.ref a) _ (s.laid h).2 (s.laid h).1 (.dK upd_same (s.fresh h) (r.ext0 (.laid h)))
  | true =>
    have p' : Post K (Rep K) W σ ρ H Q (.ok (.loc st.length) (st ++ [.dK kvs])) := p
    have z := s.newLoc (o := .dK kvs) (u := .dK kws) h (.dK hk (r.ext0 (.newLoc h)))
    refine p' (ρ.push a) (.ref a) _ z.2 z.1 (.loc ?_)
    show (ρ.ps ++ [a])[st.length]? = some a
    rw [← s.len]; simp
theorem post_dT0 (p : Post K (Rep K) W σ ρ H Q (mk true (.t []) st)) (s : RelS K ρ st H) : ∀ a, H a = none → Q (.ref a) (upd H a (.dT [])) := fun a h => by
  have p' : Post K (Rep K) W σ ρ H Q (.ok (.loc st.length) (st ++ [.dT []])) := p
  have z := s.newLoc (o := .dT []) (u := .dT []) h (.dT rfl .nil)
  refine p' (ρ.push a) (.ref a) _ z.2 z.1 (.loc ?_)
  show (ρ.ps ++ [a])[st.length]? = some a
  rw [← s.len]; simp
theorem post_t {vs : List Val} {ws : List V} (p : Post K (Rep K) W σ ρ H Q (ret (.tup vs) st)) (s : RelS K ρ st H) (r : RepL K ρ H vs ws) : ∀ a, H a = none → Q (.ref a) (upd H a (.tup ws)) := fun a h =>
  p ρ (.ref a) _ (s.laid h).2 (s.laid h).1 (.tup ⟨upd_same, s.fresh h⟩ (r.ext0 (.laid h)))
end

/-! ### dicts -/
section
variable {K : PySem.W.Frag} {ρ : Pl} {H : Hp} {κ : Type} [DecidableEq κ]
structure DRel (K : PySem.W.Frag) (ρ : Pl) (H : Hp) (kvs : List (κ × Val)) (kws : List (κ × V)) : Prop where
  keys : kvs.map (·.1) = kws.map (·.1)
  vals : RepL K ρ H (kvs.map (·.2)) (kws.map (·.2))
theorem DRel.ind {P : List (κ × Val) → List (κ × V) → Prop} (h0 : P [] []) (h1 : ∀ k v w kvs kws, Rep K ρ H v w → DRel K ρ H kvs kws → P kvs kws → P ((k, v) :: kvs) ((k, w) :: kws)) : ∀ {kvs : List (κ × Val)} {kws : List (κ × V)}, DRel K ρ H kvs kws → P kvs kws
  | [], [], _ => h0
  | [], _ :: _, h => by have := h.keys; simp at this
  | _ :: _, [], h => by have := h.keys; simp at this
  | (k, v) :: kvs, (j, w) :: kws, h => by
    have hk := h.keys
    simp only [List.map_cons, List.cons.injEq] at hk
    obtain ⟨rfl, hk⟩ := hk
    cases h.vals with
    | cons r q => exact h1 _ _ _ _ _ r ⟨hk, q⟩ (DRel.ind h0 h1 ⟨hk, q⟩)
theorem DRel.nil : DRel K ρ H ([] : List (κ × Val)) [] := ⟨rfl, .nil⟩
theorem DRel.cons {k : κ} {v : Val} {w : V} {kvs : List (κ × Val)} {kws : List (κ × V)} (r : Rep K ρ H v w) (h : DRel K ρ H kvs kws) : DRel K ρ H ((k, v) :: kvs) ((k, w) :: kws) := ⟨by simp [h.keys], .cons r h.vals⟩
theorem DRel.look {kvs : List (κ × Val)} {kws : List (κ × V)} (h : DRel K ρ H kvs kws) (k : κ) : (look kvs k = none ∧ valV kws k = none) ∨ ∃ v w, look kvs k = some v ∧ valV kws k = some w ∧ Rep K ρ H v w := by
  refine DRel.ind (P := fun kvs kws => (Rc.look kvs k = none ∧ valV kws k = none) ∨ ∃ v w, Rc.look kvs k = some v ∧ valV kws k = some w ∧ Rep K ρ H v w) (.inl ⟨rfl, rfl⟩) (fun j v w kvs kws r q ih => ?_) h
  by_cases e : j = k
  · exact .inr ⟨v, w, by simp [Rc.look, e], by simp [valV, e], r⟩
  · rcases ih with ⟨a, b⟩ | ⟨v', w', a, b, r'⟩
    · exact .inl ⟨by simpa [Rc.look, e] using a, by simpa [valV, e] using b⟩
    · exact .inr ⟨v', w', by simpa [Rc.look, e] using a, by simpa [valV, e] using b, r'⟩
theorem DRel.repl {kvs : List (κ × Val)} {kws : List (κ × V)} (h : DRel K ρ H kvs kws) (k : κ) {v : Val} {w : V} (r : Rep K ρ H v w) : DRel K ρ H (kvs.map fun kv => if kv.1 = k then (kv.1, v) else kv) (kws.map fun kv => if kv.1 = k then (kv.1, w) else kv) := by
  refine DRel.ind (P := fun kvs kws => DRel K ρ H (kvs.map fun kv => if kv.1 = k then (kv.1, v) else kv) (kws.map fun kv => if kv.1 = k then (kv.1, w) else kv)) .nil (fun j v' w' kvs kws r' q ih => ?_) h
  rw [List.map_cons, List.map_cons]
  by_cases e : j = k
  · rw [if_pos e, if_pos e]
    exact .cons r ih
  · rw [if_neg e, if_neg e]
    exact .cons r' ih
theorem DRel.snoc {kvs : List (κ × Val)} {kws : List (κ × V)} (h : DRel K ρ H kvs kws) (k : κ) {v : Val} {w : V} (r : Rep K ρ H v w) : DRel K ρ H (kvs ++ [(k, v)]) (kws ++ [(k, w)]) :=
  ⟨by simp [h.keys], by rw [List.map_append, List.map_append]; exact h.vals.append (.cons r .nil)⟩
theorem DRel.any {kvs : List (κ × Val)} {kws : List (κ × V)} (h : DRel K ρ H kvs kws) (k : κ) : (kvs.any fun kv => decide (kv.1 = k)) = kws.any fun kv => decide (kv.1 = k) := by
  have e : ∀ {α : Type} (l : List (κ × α)), (l.any fun kv => decide (kv.1 = k)) = (l.map (·.1)).any fun j => decide (j = k) := fun l => by
    rw [List.any_map]
    rfl
  rw [e, e, h.keys]
theorem DRel.put {kvs : List (κ × Val)} {kws : List (κ × V)} (h : DRel K ρ H kvs kws) (k : κ) {v : Val} {w : V} (r : Rep K ρ H v w) : DRel K ρ H (put kvs k v) (putK kws k w) := by
  unfold Rc.put putK
  rw [h.any k]
  split
  · exact h.repl k r
  · exact h.snoc k r
theorem DRel.drp {kvs : List (κ × Val)} {kws : List (κ × V)} (h : DRel K ρ H kvs kws) (k : κ) : DRel K ρ H (drp kvs k) (dropK kws k) := by
  refine DRel.ind (P := fun kvs kws => DRel K ρ H (Rc.drp kvs k) (dropK kws k)) .nil (fun j v w kvs kws r q ih => ?_) h
  unfold Rc.drp dropK at ih ⊢
  by_cases e : j = k
  · simpa [e] using ih
  · simpa [e] using DRel.cons r ih
theorem DRel.len {kvs : List (κ × Val)} {kws : List (κ × V)} (h : DRel K ρ H kvs kws) : kvs.length = kws.length := by
  have := congrArg List.length h.keys
  simpa using this
omit [DecidableEq κ] in
theorem DRel.ext0 {ρ' : Pl} {H' : Hp} {kvs : List (κ × Val)} {kws : List (κ × V)} (h : DRel K ρ H kvs kws) (e : Ext0 ρ H ρ' H') : DRel K ρ' H' kvs kws := ⟨h.keys, h.vals.ext0 e⟩
omit [DecidableEq κ] in
theorem DRel.zip {vs : List Val} {kws : List (κ × V)} (h : RepL K ρ H vs (kws.map (·.2))) : DRel K ρ H ((kws.map (·.1)).zip vs) kws := by
  have hl := h.length
  rw [List.length_map] at hl
  refine ⟨?_, ?_⟩
  · rw [List.map_fst_zip (by simp [hl])]
  · rw [List.map_snd_zip (by simp [hl])]
    exact h
end
theorem keyOf_rep {K : PySem.W.Frag} {ρ : Pl} {H : Hp} {v : Val} {x : V} {k : Key} (r : Rep K ρ H v x) (e : keyOf v = some k) : x = kV k := by
  cases r <;> cases e <;> rfl
theorem keysT_rep {K : PySem.W.Frag} {ρ : Pl} {H : Hp} : ∀ {vs : List Val} {ws : List V} {k : List Key}, RepL K ρ H vs ws → mapO keyOf vs = some k → ws = k.map kV
  | _, _, _, .nil, e => by cases e; rfl
  | _, _, _, .cons r q, e => by
    unfold mapO at e
    obtain ⟨d, e1, e2⟩ := Option.bind_eq_some_iff.mp e
    obtain ⟨ds, e3, rfl⟩ := Option.map_eq_some_iff.mp e2
    rw [keyOf_rep r e1, keysT_rep q e3]
    rfl
theorem keyT_rep {K : PySem.W.Frag} {ρ : Pl} {H : Hp} {v : Val} {x : V} {k : List Key} (r : Rep K ρ H v x) (e : keyT v = some k) : ∃ b, x = .ref b ∧ H b = some (.tup (k.map kV)) := by
  cases r with
  | @tup a ws vs t q =>
    have e : mapO keyOf vs = some k := e
    refine ⟨a, rfl, ?_⟩
    rw [← keysT_rep q e]
    exact t.1
  | _ => cases e
theorem Rep.keyVal {K : PySem.W.Frag} {ρ : Pl} {H : Hp} (k : Key) : Rep K ρ H (keyVal k) (kV k) := by
  cases k with
  | inl i => exact .int i
  | inr s => exact .str s
/-- an operation of two values, by what it is to give -/
def rOp (K : PySem.W.Frag) (g : Val → Val → M Val) : R2 := fun x y H Q => ∃ (W : WX) (σ : L2.St) (ρ : Pl) (st : Store) (v w : Val), RelS K ρ st H ∧ Rep K ρ H v x ∧ Rep K ρ H w y ∧ Post K (Rep K) W σ ρ H Q (g v w st)
theorem tOp_of {K : PySem.W.Frag} {W : WX} {m1 m2 : Env → M Val} {g : Val → Val → M Val} {σ : L2.St} {H : Hp} {Q : VK} (h : tE K W (fun env => bnd (m1 env) fun v => bnd (m2 env) fun w => g v w) σ H Q) : tOp (rOp K g) (tE K W m1) (tE K W m2) σ H Q := by
  obtain ⟨ρ, env, st, rE, rS, p⟩ := h
  refine ⟨ρ, env, st, rE, rS, Post.bnd p fun v st1 ρ1 x H1 e1 s1 q1 p1 => ?_⟩
  refine ⟨ρ1, env, st1, rE.ext e1, s1, Post.bnd p1 fun w st2 ρ2 y H2 e2 s2 q2 p2 => ?_⟩
  exact ⟨W, σ, ρ2, st2, v, w, s2, q1.ext e2, q2, p2⟩
def rUn (K : PySem.W.Frag) (g : Val → M Val) : V → Hp → VK → Prop := fun x H Q => ∃ (W : WX) (σ : L2.St) (ρ : Pl) (st : Store) (v : Val), RelS K ρ st H ∧ Rep K ρ H v x ∧ Post K (Rep K) W σ ρ H Q (g v st)
theorem tUn_of {K : PySem.W.Frag} {W : WX} {m1 : Env → M Val} {g : Val → M Val} {σ : L2.St} {H : Hp} {Q : VK} (h : tE K W (fun env => bnd (m1 env) g) σ H Q) : tUn (rUn K g) (tE K W m1) σ H Q := by
  obtain ⟨ρ, env, st, rE, rS, p⟩ := h
  refine ⟨ρ, env, st, rE, rS, Post.bnd p fun v st1 ρ1 x H1 e1 s1 q1 p1 => ?_⟩
  exact ⟨W, σ, ρ1, st1, v, s1, q1, p1⟩

section
variable {X : Cx}
/-! ### arithmetic -/
theorem op_add_S {new : Bool} : OpR X (binaryOp .Add) (rOp X.K fun v w st => bnd (ofOpt (opAdd st v w)) (mk new) st) := by
  intro pins s σ H x y v u Q I rx ry h
  obtain ⟨W, σ', ρ, st, a, b, rS, ra, rb, p0⟩ := h
  obtain ⟨pv, e, p⟩ := Post.opt p0
  clear p0
  unfold opAdd at e
  split at e
  · cases e; cases ra; cases rb
    exact op_add pins s σ H _ _ v u Q I rx ry ⟨_, _, rfl, rfl, post_v p rS (.int _)⟩
  · split at e
    · rename_i hz
      cases e; cases ra; cases rb
      exact op_add_str pins s σ H _ _ v u Q I rx ry ⟨_, _, rfl, rfl, of_decide_eq_true hz, post_v p rS (.str _)⟩
    · cases e
  · split at e
    · rename_i xs ys hz
      cases e
      cases ra with
      | @tup a1 ws _ ta qa =>
        cases rb with
        | @tup a2 zs _ tb qb =>
          have l1 := qa.length
          have l2 := qb.length
          have hz' : xs.length + ys.length ≤ sizeLine := of_decide_eq_true hz
          refine op_catA pins s σ H _ _ v u Q I rx ry ⟨a1, a2, ws, zs, rfl, rfl, ta.sq, tb.sq, by omega, fun e => ?_, fun _ e => ?_, fun _ _ => post_t p rS (qa.append qb)⟩
          · subst e
            have : xs = [] := List.eq_nil_of_length_eq_zero l1
            subst this
            exact Post.ret p rS (.tup tb qb)
          · subst e
            have : ys = [] := List.eq_nil_of_length_eq_zero l2
            subst this
            rw [List.append_nil] at p
            exact Post.ret p rS (.tup ta qa)
    · cases e
  · split at e
    · rename_i xs ys e1 e2
      split at e
      · rename_i hz
        cases e
        obtain ⟨a1, ws, rfl, h1, q1⟩ := ra.lstOf rS e1
        obtain ⟨a2, zs, rfl, h2, q2⟩ := rb.lstOf rS e2
        have hz' : xs.length + ys.length ≤ sizeLine := of_decide_eq_true hz
        have l1 := q1.length
        have l2 := q2.length
        exact op_cat pins s σ H _ _ v u Q I rx ry ⟨a1, a2, ws, zs, rfl, rfl, h1, h2, by omega, post_l p rS (q1.append q2)⟩
      · cases e
    · cases e
theorem post_map {K : PySem.W.Frag} {W : WX} {σ : L2.St} {ρ : Pl} {H : Hp} {Q : VK} {st : Store} {new : Bool} {o : Option Val} (p : Post K (Rep K) W σ ρ H Q (bnd (ofOpt (o.map Pv.v)) (mk new) st)) : ∃ v, o = some v ∧ Post K (Rep K) W σ ρ H Q (ret v st) := by
  cases o with
  | none => exact p.elim
  | some v => exact ⟨v, rfl, p⟩
theorem op_sub_S {new : Bool} : OpR X (binaryOp .Sub) (rOp X.K fun v w st => bnd (ofOpt ((opSub v w).map Pv.v)) (mk new) st) := by
  intro pins s σ H x y v u Q I rx ry h
  obtain ⟨W, σ', ρ, st, a, b, rS, ra, rb, p⟩ := h
  obtain ⟨pv, e, p⟩ := post_map p
  unfold opSub at e
  split at e
  · cases e; cases ra; cases rb
    exact op_sub pins s σ H _ _ v u Q I rx ry ⟨_, _, rfl, rfl, Post.ret p rS (.int _)⟩
  · cases e
theorem op_mod_S {new : Bool} : OpR X (binaryOp .Mod) (rOp X.K fun v w st => bnd (ofOpt ((opMod v w).map Pv.v)) (mk new) st) := by
  intro pins s σ H x y v u Q I rx ry h
  obtain ⟨W, σ', ρ, st, a, b, rS, ra, rb, p⟩ := h
  obtain ⟨pv, e, p⟩ := post_map p
  unfold opMod at e
  split at e
  · split at e
    · rename_i hz
      cases e; cases ra; cases rb
      exact op_mod pins s σ H _ _ v u Q I rx ry ⟨_, _, rfl, rfl, hz, Post.ret p rS (.int _)⟩
    · cases e
  · cases e
theorem op_div_S {new : Bool} : OpR X (binaryOp .FloorDiv) (rOp X.K fun v w st => bnd (ofOpt ((opDiv v w).map Pv.v)) (mk new) st) := by
  intro pins s σ H x y v u Q I rx ry h
  obtain ⟨W, σ', ρ, st, a, b, rS, ra, rb, p⟩ := h
  obtain ⟨pv, e, p⟩ := post_map p
  unfold opDiv at e
  split at e
  · split at e
    · rename_i hz
      cases e; cases ra; cases rb
      have hz' := Bool.and_eq_true_iff.mp hz
      exact op_fdiv pins s σ H _ _ v u Q I rx ry ⟨_, _, rfl, rfl, ⟨of_decide_eq_true hz'.1, of_decide_eq_true hz'.2⟩, Post.ret p rS (.int _)⟩
    · cases e
  · cases e
theorem op_pow_S {new : Bool} : OpR X (binaryOp .Pow) (rOp X.K fun v w st => bnd (ofOpt ((opPow v w).map Pv.v)) (mk new) st) := by
  intro pins s σ H x y v u Q I rx ry h
  obtain ⟨W, σ', ρ, st, a, b, rS, ra, rb, p⟩ := h
  obtain ⟨pv, e, p⟩ := post_map p
  unfold opPow at e
  split at e
  · split at e
    · rename_i hz
      cases e; cases ra; cases rb
      have hz' := Bool.and_eq_true_iff.mp hz
      have hz2 := Bool.and_eq_true_iff.mp hz'.1
      exact op_pow pins s σ H _ _ v u Q I rx ry ⟨_, _, rfl, rfl, ⟨of_decide_eq_true hz2.1, of_decide_eq_true hz2.2, of_decide_eq_true hz'.2⟩, Post.ret p rS (.int _)⟩
    · cases e
  · cases e
theorem un_neg_S : UnR X (unaryOp .USub) (rUn X.K fun v => bnd (asInt v) fun i => ret (.int (-i))) := by
  intro pins s σ H x v Q I rx h
  obtain ⟨W, σ', ρ, st, a, rS, ra, p⟩ := h
  obtain ⟨i, rfl, p⟩ := Post.asInt p
  cases ra
  exact un_neg pins s σ H _ v Q I rx ⟨_, rfl, Post.ret p rS (.int _)⟩
end

/-! ### what stands in an object -/
section
variable {K : PySem.W.Frag} {ρ : Pl} {st : Store} {H : Hp} {w : Val} {y : V} {c : Val}
/-- a list, a tuple, a dict: what is asked of it gives c -/
inductive IxIs (K : PySem.W.Frag) (ρ : Pl) (H : Hp) (c : Val) : V → V → Prop
  | seq {a : Addr} {ws : List V} {i : Int} {z : V} : SqL K H a ws → atI ws i = some z → Rep K ρ H c z → IxIs K ρ H c (.ref a) (.int i)
  | tup {a : Addr} {ws : List V} {i : Int} {z : V} : SqT K H a ws → atI ws i = some z → Rep K ρ H c z → IxIs K ρ H c (.ref a) (.int i)
  | dic {a : Addr} {y z : V} : DGet H a y (some z) → Rep K ρ H c z → IxIs K ρ H c (.ref a) y
end
/-! ### data -/
/-- all items have data -/
theorem mapO_dp {K : PySem.W.Frag} {ρ : Pl} {H : Hp} {f : Val → Option PyData} {n : Nat} (h : ∀ {v : Val} {w : V} {d : PyData}, Rep K ρ H v w → f v = some d → Dp K H w d ∧ d.canLay0 = true ∧ d.depth ≤ n) :
    ∀ {vs : List Val} {ws : List V} {ds : List PyData}, RepL K ρ H vs ws → mapO f vs = some ds → DpAll K H ws ds ∧ PyData.canLayAll0 ds = true ∧ PyData.depthAll ds ≤ n
  | _, _, _, .nil, e => by
    cases e
    exact ⟨.nil, rfl, Nat.zero_le _⟩
  | _, _, _, .cons r q, e => by
    unfold mapO at e
    obtain ⟨d, e1, e2⟩ := Option.bind_eq_some_iff.mp e
    obtain ⟨ds, e3, rfl⟩ := Option.map_eq_some_iff.mp e2
    obtain ⟨a1, a2, a3⟩ := h r e1
    obtain ⟨b1, b2, b3⟩ := mapO_dp h q e3
    refine ⟨.cons a1 b1, ?_, ?_⟩
    · show (d.canLay0 && PyData.canLayAll0 ds) = true
      rw [a2, b2]; rfl
    · show max d.depth (PyData.depthAll ds) ≤ n
      omega
/-- a value and its data -/
theorem Rep.dp {K : PySem.W.Frag} {ρ : Pl} {st : Store} {H : Hp} (rS : RelS K ρ st H) : ∀ (n : Nat) {v : Val} {w : V} {d : PyData}, Rep K ρ H v w → toD st n v = some d → Dp K H w d ∧ d.canLay0 = true ∧ d.depth ≤ n
  | 0, _, _, _, _, e => by cases e
  | n + 1, v, w, d, r, e => by
    have ih := fun {v : Val} {w : V} {d : PyData} => Rep.dp rS n (v := v) (w := w) (d := d)
    unfold toD at e
    cases r with
    | non => cases e; exact ⟨.non, rfl, Nat.zero_le _⟩
    | bl b => cases e; exact ⟨.bl b, rfl, Nat.zero_le _⟩
    | int i => cases e; exact ⟨.int i, rfl, Nat.zero_le _⟩
    | str s =>
      dsimp only at e
      split at e
      · rename_i hs
        cases e; exact ⟨.str s, hs, Nat.zero_le _⟩
      · cases e
    | @tup a ws vs t q =>
      obtain ⟨ds, e1, rfl⟩ := Option.map_eq_some_iff.mp e
      obtain ⟨h1, h2, h3⟩ := mapO_dp ih q e1
      exact ⟨.tup t.sq h1, h2, Nat.succ_le_succ h3⟩
    | @lst a ws vs t ne q =>
      obtain ⟨ds, e1, rfl⟩ := Option.map_eq_some_iff.mp e
      obtain ⟨h1, h2, h3⟩ := mapO_dp ih q e1
      exact ⟨.lst (.of t) h1, h2, Nat.succ_le_succ h3⟩
    | @loc l a h =>
      dsimp only at e
      split at e
      · rename_i xs q
        obtain ⟨u, e1, e2⟩ := rS.at_ l a _ h q
        cases e2 with
        | lst q =>
          obtain ⟨ds, e3, rfl⟩ := Option.map_eq_some_iff.mp e
          obtain ⟨h1, h2, h3⟩ := mapO_dp ih q e3
          exact ⟨.lst (.of e1) h1, h2, Nat.succ_le_succ h3⟩
      · cases e
    | dK _ _ _ => cases e
    | dT _ _ _ => cases e
    | scr _ => cases e
    | dN _ => cases e
section
variable {X : Cx}
theorem shaped_of {n : Nat} {d : PyData} (h1 : d.canLay0 = true) (h2 : d.depth ≤ n) (h3 : n ≤ 64) : SeqAt.shaped d = true := by
  unfold SeqAt.shaped
  rw [h1, Bool.true_and]
  exact decide_eq_true (Nat.le_trans h2 h3)
/-- == on values: one of two rules -/
theorem veq_ok {K : PySem.W.Frag} {ρ : Pl} {st : Store} {H : Hp} (rS : RelS K ρ st H) {v w : Val} {x y : V} {b : Bool} (rv : Rep K ρ H v x) (rw' : Rep K ρ H w y) (e : veq st v w = some b) :
    (scal x y = true ∧ decide (x = y) = b) ∨ ∃ d e', Dp K H x d ∧ Dp K H y e' ∧ SeqAt.shaped d = true ∧ SeqAt.shaped e' = true ∧ PyData.eqv d e' = b := by
  unfold veq at e
  split at e
  · cases e; cases rv; cases rw'
    exact .inl ⟨rfl, by simp⟩
  · cases e; cases rv; cases rw'
    exact .inl ⟨rfl, by simp⟩
  · cases e; cases rv; cases rw'
    exact .inl ⟨rfl, by simp⟩
  · obtain ⟨d, e1, e2⟩ := Option.bind_eq_some_iff.mp e
    obtain ⟨e', e3, e4⟩ := Option.map_eq_some_iff.mp e2
    obtain ⟨a1, a2, a3⟩ := rv.dp rS _ e1
    obtain ⟨b1, b2, b3⟩ := rw'.dp rS _ e3
    exact .inr ⟨d, e', a1, b1, shaped_of a2 a3 (by decide), shaped_of b2 b3 (by decide), e4⟩
theorem post_optB {K : PySem.W.Frag} {W : WX} {σ : L2.St} {ρ : Pl} {H : Hp} {Q : VK} {st : Store} {o : Option Bool} (p : Post K (Rep K) W σ ρ H Q (bnd (ofOpt o) (fun b => ret (.bl b)) st)) (rS : RelS K ρ st H) : ∃ b, o = some b ∧ Q (.bl b) H := by
  obtain ⟨b, e, p⟩ := Post.opt p
  exact ⟨b, e, Post.ret p rS (.bl b)⟩
abbrev gCmp (op : CmpOp) : Val → Val → M Val := fun v w st => bnd (ofOpt (cmpOp st op v w)) (fun b => ret (.bl b)) st
theorem flat_of {K : PySem.W.Frag} {ρ : Pl} {H : Hp} {v : Val} {x : V} (r : Rep K ρ H v x) (f : flat v = true) : flatV x = true := by
  cases r <;> first | rfl | cases f
theorem flat_all {K : PySem.W.Frag} {ρ : Pl} {H : Hp} : ∀ {vs : List Val} {xs : List V}, RepL K ρ H vs xs → vs.all flat = true → xs.all flatV = true
  | _, _, .nil, _ => rfl
  | _, _, .cons r q, f => by
    rw [List.all_cons, Bool.and_eq_true] at f
    rw [List.all_cons, flat_of r f.1, flat_all q f.2]; rfl
theorem eqF_of {K : PySem.W.Frag} {ρ : Pl} {H : Hp} {v w : Val} {x y : V} (r : Rep K ρ H v x) (q : Rep K ρ H w y) (f : flat v = true) (g : flat w = true) : eqF v w = eqV x y := by
  cases r <;> cases q <;> first | rfl | cases f | cases g
theorem inV_of {K : PySem.W.Frag} {ρ : Pl} {H : Hp} {w : Val} {y : V} (q : Rep K ρ H w y) (g : flat w = true) : ∀ {vs : List Val} {xs : List V}, RepL K ρ H vs xs → vs.all flat = true → (vs.any fun z => eqF z w) = inV y xs
  | _, _, .nil, _ => rfl
  | _, _, .cons r s, f => by
    rw [List.all_cons, Bool.and_eq_true] at f
    rw [List.any_cons, eqF_of r q f.1 g, inV_of q g s f.2]
    rfl
theorem inSeq_of {K : PySem.W.Frag} {ρ : Pl} {st : Store} {H : Hp} (rS : RelS K ρ st H) {v : Val} {x : V} {vs : List Val} {ws : List V} {b : Bool} (rv : Rep K ρ H v x) (q : RepL K ρ H vs ws) (e : inSeq st v vs = some b) : (flatV x = true ∧ ws.all flatV = true ∧ inV x ws = b) ∨ ∃ d ds, Dp K H x d ∧ DpAll K H ws ds ∧ SeqAt.shaped d = true ∧ PyData.canLayAll0 ds = true ∧ PyData.depthAll ds ≤ depthD ∧ (ds.any fun z => PyData.eqv z d) = b := by
  unfold inSeq at e
  split at e
  · rename_i hf
    cases e
    rw [Bool.and_eq_true] at hf
    exact .inl ⟨flat_of rv hf.1, flat_all q hf.2, (inV_of rv hf.1 q hf.2).symm⟩
  · split at e
    · obtain ⟨d, e1, e2⟩ := Option.bind_eq_some_iff.mp e
      obtain ⟨ds, e3, e4⟩ := Option.map_eq_some_iff.mp e2
      obtain ⟨a1, a2, a3⟩ := rv.dp rS _ e1
      obtain ⟨b1, b2, b3⟩ := mapO_dp (fun r e => Rep.dp rS _ r e) q e3
      exact .inr ⟨d, ds, a1, b1, shaped_of a2 a3 (by decide), b2, b3, e4⟩
    · cases e
/-- what in asks -/
inductive InIs (K : PySem.W.Frag) (H : Hp) (b : Bool) : V → V → Prop
  | str {z t : Str} : (!(Builtin.Str.occurrences t z 0 t.length 1).isEmpty) = b → InIs K H b (.str z) (.str t)
  | flat {x : V} {p : Addr} {ws : List V} : SqL K H p ws ∨ SqT K H p ws → flatV x = true → ws.all flatV = true → inV x ws = b → InIs K H b x (.ref p)
  | data {x : V} {p : Addr} {ds : List PyData} {d : PyData} : Dp K H x d → Dp K H (.ref p) (.list ds) → SeqAt.shaped d = true → SeqAt.shaped (.list ds) = true → (ds.any fun z => PyData.eqv z d) = b → InIs K H b x (.ref p)
  | dic {x : V} {p : Addr} {o : Option V} : DGet H p x o → o.isSome = b → InIs K H b x (.ref p)
  | dn {p q : Addr} {k : NK} {ρ : Pl} {xs : List (NK × Addr × Value)} : DnAt K ρ H p xs → NKAt K ρ H k q → decide (k ∈ xs.map (·.1)) = b → InIs K H b (.ref q) (.ref p)
theorem inL_of {K : PySem.W.Frag} {ρ : Pl} {st : Store} {H : Hp} (rS : RelS K ρ st H) {v : Val} {x : V} {p : Addr} {vs : List Val} {ws : List V} {b : Bool} (rv : Rep K ρ H v x) (hp : H p = some (.lst ws)) (q : RepL K ρ H vs ws) (e : inSeq st v vs = some b) : InIs K H b x (.ref p) := by
  rcases inSeq_of rS rv q e with ⟨h1, h2, h3⟩ | ⟨d, ds, h1, h2, h3, h4, h5, h6⟩
  · exact .flat (.inl (.of hp)) h1 h2 h3
  · exact .data h1 (.lst (.of hp) h2) h3 (shaped_of h4 (Nat.succ_le_succ h5) (by decide)) h6
theorem dkIn {K : PySem.W.Frag} {ρ : Pl} {H : Hp} {a : Addr} {v : Val} {x : V} {kvs : List (Key × Val)} {kws : List (Key × V)} {b : Bool} (rv : Rep K ρ H v x) (h : H a = some (.dK kws)) (d : DRel K ρ H kvs kws) (e : ((keyOf v).map fun k => (look kvs k).isSome) = some b) : InIs K H b x (.ref a) := by
  obtain ⟨k, e1, e2⟩ := Option.map_eq_some_iff.mp e
  have hx := keyOf_rep rv e1
  subst hx
  refine .dic (DGet.k (k := k) h) ?_
  rw [← e2]
  rcases d.look k with ⟨h1, h2⟩ | ⟨v', w', h1, h2, _⟩
  · rw [h1, h2]; rfl
  · rw [h1, h2]; rfl
theorem dtIn {K : PySem.W.Frag} {ρ : Pl} {H : Hp} {a : Addr} {v : Val} {x : V} {kvs : List (List Key × Val)} {kws : List (List Key × V)} {b : Bool} (rv : Rep K ρ H v x) (h : H a = some (.dT kws)) (d : DRel K ρ H kvs kws) (e : ((keyT v).map fun k => (look kvs k).isSome) = some b) : InIs K H b x (.ref a) := by
  obtain ⟨k, e1, e2⟩ := Option.map_eq_some_iff.mp e
  obtain ⟨c, rfl, hc⟩ := keyT_rep rv e1
  refine .dic (DGet.t (k := k) h hc) ?_
  rw [← e2]
  rcases d.look k with ⟨h1, h2⟩ | ⟨v', w', h1, h2, _⟩
  · rw [h1, h2]; rfl
  · rw [h1, h2]; rfl
theorem ints_repN {K : PySem.W.Frag} {ρ : Pl} {H : Hp} : ∀ {vs : List Val} {ws : List V} {ns : List Int}, RepL K ρ H vs ws → mapO toInt1 vs = some ns → ws = ns.map V.int
  | _, _, _, .nil, e => by cases e; rfl
  | _, _, _, .cons r q, e => by
    unfold mapO at e
    obtain ⟨d, e1, e2⟩ := Option.bind_eq_some_iff.mp e
    obtain ⟨ds, e3, rfl⟩ := Option.map_eq_some_iff.mp e2
    rw [ints_repN q e3]
    cases r <;> cases e1
    rfl
theorem keyN1_rep {K : PySem.W.Frag} {ρ : Pl} {H : Hp} {v : Val} {x : V} {is : List Int} (r : Rep K ρ H v x) (e : keyN1 v = some is) : ∃ c, x = .ref c ∧ TupAt K ρ H c (is.map V.int) := by
  unfold keyN1 at e
  split at e
  · cases r with
    | @tup a ws _ t q =>
      have := ints_repN q e
      subst this
      exact ⟨a, rfl, t⟩
  · cases e
theorem keysN_rep {K : PySem.W.Frag} {ρ : Pl} {H : Hp} : ∀ {vs : List Val} {ws : List V} {k : NK}, RepL K ρ H vs ws → mapO keyN1 vs = some k → ∃ cs : List Addr, ws = cs.map V.ref ∧ Paired (fun c is => TupAt K ρ H c (is.map V.int)) cs k
  | _, _, _, .nil, e => by cases e; exact ⟨[], rfl, .nil⟩
  | _, _, _, .cons r q, e => by
    unfold mapO at e
    obtain ⟨d, e1, e2⟩ := Option.bind_eq_some_iff.mp e
    obtain ⟨ds, e3, rfl⟩ := Option.map_eq_some_iff.mp e2
    obtain ⟨cs, rfl, h⟩ := keysN_rep q e3
    obtain ⟨c, rfl, t⟩ := keyN1_rep r e1
    exact ⟨c :: cs, rfl, .cons t h⟩
theorem keyN_rep {K : PySem.W.Frag} {ρ : Pl} {H : Hp} {v : Val} {x : V} {k : NK} (r : Rep K ρ H v x) (e : keyN v = some k) : ∃ b, x = .ref b ∧ NKAt K ρ H k b := by
  unfold keyN at e
  split at e
  · cases r with
    | @tup a ws _ t q =>
      obtain ⟨cs, rfl, h⟩ := keysN_rep q e
      exact ⟨a, rfl, cs, t, h⟩
  · cases e
theorem pairsN_rep {K : PySem.W.Frag} {ρ : Pl} {H : Hp} : ∀ {vs : List Val} {ws : List V} {ks : List NK}, RepL K ρ H vs ws → mapO pairN vs = some ks → ∃ ps : List Addr, ws = ps.map V.ref ∧ Paired (fun p k => ∃ b v, SqT K H p [.ref b, v] ∧ NKAt K ρ H k b) ps ks
  | _, _, _, .nil, e => by cases e; exact ⟨[], rfl, .nil⟩
  | _, _, _, .cons r q, e => by
    unfold mapO at e
    obtain ⟨d, e1, e2⟩ := Option.bind_eq_some_iff.mp e
    obtain ⟨ds, e3, rfl⟩ := Option.map_eq_some_iff.mp e2
    obtain ⟨ps, rfl, h⟩ := pairsN_rep q e3
    unfold pairN at e1
    split at e1
    · cases r with
      | @tup a ws _ t q2 =>
        cases q2 with
        | cons r1 q3 =>
          cases q3 with
          | cons r2 q4 =>
            cases q4
            obtain ⟨b, rfl, hk⟩ := keyN_rep r1 e1
            exact ⟨a :: ps, rfl, .cons ⟨b, _, t.sq, hk⟩ h⟩
    · cases e1
theorem opIn_of {K : PySem.W.Frag} {ρ : Pl} {st : Store} {H : Hp} (rS : RelS K ρ st H) {v w : Val} {x y : V} {b : Bool} (rv : Rep K ρ H v x) (rw' : Rep K ρ H w y) (e : opIn st v w = some b) : InIs K H b x y := by
  unfold opIn at e
  split at e
  · unfold inStr at e
    split at e
    · cases e; cases rv; cases rw'
      exact .str rfl
    · cases e
  · cases rw' with
    | tup t q =>
      unfold inFlat at e
      split at e
      · rename_i hf
        cases e
        rw [Bool.and_eq_true] at hf
        exact .flat (.inr t.sq) (flat_of rv hf.1) (flat_all q hf.2) (inV_of rv hf.1 q hf.2).symm
      · cases e
  · cases rw' with
    | lst t n q => exact inL_of rS rv t q e
  · rename_i l
    cases rw' with
    | @loc _ a h =>
      cases eo : st[l]? with
      | none => rw [eo] at e; cases e
      | some o =>
        rw [eo] at e
        obtain ⟨u, e1, e2⟩ := rS.at_ _ a _ h eo
        cases e2 with
        | lst q => exact inL_of rS rv e1 q e
        | dK hk q => exact dkIn rv e1 ⟨hk, q⟩ e
        | dT hk q => exact dtIn rv e1 ⟨hk, q⟩ e
        | ins _ _ _ _ _ => cases e
  · cases rw' with
    | dK t n q => exact dkIn rv t (.zip q) e
  · cases rw' with
    | dT t n q => exact dtIn rv t (.zip q) e
  · cases rw' with
    | dN h =>
      obtain ⟨k, e1, e2⟩ := Option.map_eq_some_iff.mp e
      obtain ⟨b', rfl, hk⟩ := keyN_rep rv e1
      exact .dn h hk e2
  · cases e
theorem ltD_ok {K : PySem.W.Frag} {ρ : Pl} {st : Store} {H : Hp} (rS : RelS K ρ st H) {v w : Val} {x y : V} {b : Bool} (rv : Rep K ρ H v x) (rw' : Rep K ρ H w y) (e : ltD st v w = some b) :
    ∃ d e', Dp K H x d ∧ Dp K H y e' ∧ PySem.W.alike d e' = true ∧ d ≠ .none ∧ (d.depth ≤ 10 ∧ e'.depth ≤ 10) ∧ PySem.W.dataLt d e' = b := by
  unfold ltD at e
  obtain ⟨d, e1, e2⟩ := Option.bind_eq_some_iff.mp e
  obtain ⟨e', e3, e4⟩ := Option.bind_eq_some_iff.mp e2
  obtain ⟨a1, a2, a3⟩ := rv.dp rS _ e1
  obtain ⟨b1, b2, b3⟩ := rw'.dp rS _ e3
  split at e4
  · rename_i hh
    rw [Bool.and_eq_true] at hh
    cases e4
    exact ⟨d, e', a1, b1, hh.1, fun z => by rw [z] at hh; exact absurd hh.2 (by decide), ⟨a3, b3⟩, rfl⟩
  · cases e4
theorem op_cmp_S (hu100 : X.A.units + 100 < cLine) : ∀ op : CmpOp, OpR X (compareOp op) (rOp X.K (gCmp op)) := by
  intro op pins s σ H x y v u Q I rx ry h
  have hu : X.A.units + 64 < cLine := by omega
  obtain ⟨W, σ', ρ, st, a, b, rS, ra, rb, p⟩ := h
  obtain ⟨c, e, q⟩ := post_optB p rS
  cases op with
  | Eq =>
    rcases veq_ok rS ra rb e with ⟨h1, h2⟩ | ⟨d, e', h1, h2, h3, h4, h5⟩
    · exact op_eq pins s σ H _ _ v u Q I rx ry ⟨h1, by rw [h2]; exact q⟩
    · exact op_eqD hu pins s σ H _ _ v u Q I rx ry ⟨d, e', h1, h2, h3, h4, by rw [h5]; exact q⟩
  | NotEq =>
    obtain ⟨k, e1, rfl⟩ := Option.map_eq_some_iff.mp e
    rcases veq_ok rS ra rb e1 with ⟨h1, h2⟩ | ⟨d, e', h1, h2, h3, h4, h5⟩
    · exact op_ne pins s σ H _ _ v u Q I rx ry ⟨h1, by rw [h2]; exact q⟩
    · exact op_neD hu pins s σ H _ _ v u Q I rx ry ⟨d, e', h1, h2, h3, h4, by rw [h5]; exact q⟩
  | Lt =>
    dsimp only [cmpOp] at e
    unfold cmpLt at e
    split at e
    · cases e; cases ra; cases rb
      exact op_lt pins s σ H _ _ v u Q I rx ry ⟨_, _, rfl, rfl, q⟩
    · obtain ⟨d, e', h1, h2, h3, h4, h5, rfl⟩ := ltD_ok rS ra rb e
      obtain ⟨as, r1⟩ := Dp.reads I _ _ _ h1 rx
      obtain ⟨bs, r2⟩ := Dp.reads I _ _ _ h2 ry
      exact PySem.W.lt_data r1 r2 h3 h4 (by omega) ⟨.bl _, H, I, rfl, q⟩
  | LtE =>
    dsimp only [cmpOp] at e
    unfold cmpLe at e
    split at e
    · cases e; cases ra; cases rb
      exact op_le pins s σ H _ _ v u Q I rx ry ⟨_, _, rfl, rfl, q⟩
    · obtain ⟨k, e1, rfl⟩ := Option.map_eq_some_iff.mp e
      obtain ⟨d, e', h1, h2, h3, h4, h5, rfl⟩ := ltD_ok rS rb ra e1
      obtain ⟨as, r1⟩ := Dp.reads I _ _ _ h2 rx
      obtain ⟨bs, r2⟩ := Dp.reads I _ _ _ h1 ry
      exact PySem.W.le_data r1 r2 (by rw [PySem.W.alike_comm]; exact h3) (PySem.W.ne_none_both h3 h4) (by omega) ⟨.bl _, H, I, rfl, q⟩
  | Gt =>
    dsimp only [cmpOp] at e
    unfold cmpLt at e
    split at e
    · cases e; cases ra; cases rb
      exact op_gt pins s σ H _ _ v u Q I rx ry ⟨_, _, rfl, rfl, q⟩
    · obtain ⟨d, e', h1, h2, h3, h4, h5, rfl⟩ := ltD_ok rS rb ra e
      obtain ⟨as, r1⟩ := Dp.reads I _ _ _ h2 rx
      obtain ⟨bs, r2⟩ := Dp.reads I _ _ _ h1 ry
      exact PySem.W.gt_data r1 r2 (by rw [PySem.W.alike_comm]; exact h3) (PySem.W.ne_none_both h3 h4) (by omega) ⟨.bl _, H, I, rfl, q⟩
  | GtE =>
    dsimp only [cmpOp] at e
    unfold cmpLe at e
    split at e
    · cases e; cases ra; cases rb
      exact op_ge pins s σ H _ _ v u Q I rx ry ⟨_, _, rfl, rfl, q⟩
    · obtain ⟨k, e1, rfl⟩ := Option.map_eq_some_iff.mp e
      obtain ⟨d, e', h1, h2, h3, h4, h5, rfl⟩ := ltD_ok rS ra rb e1
      obtain ⟨as, r1⟩ := Dp.reads I _ _ _ h1 rx
      obtain ⟨bs, r2⟩ := Dp.reads I _ _ _ h2 ry
      exact PySem.W.ge_data r1 r2 h3 h4 (by omega) ⟨.bl _, H, I, rfl, q⟩
  | Is =>
    dsimp only [cmpOp] at e
    unfold isOp at e
    split at e
    · cases e; cases rb
      refine op_isN pins s σ H _ _ v u Q I rx ry ⟨rfl, ?_⟩
      have : decide (x = .non) = isNon a := by cases ra <;> rfl
      rw [this]; exact q
    · cases e
  | IsNot =>
    dsimp only [cmpOp] at e
    obtain ⟨k, e0, rfl⟩ := Option.map_eq_some_iff.mp e
    clear e
    unfold isOp at e0
    split at e0
    · cases e0; cases rb
      refine op_notN pins s σ H _ _ v u Q I rx ry ⟨rfl, ?_⟩
      have : decide (x = .non) = isNon a := by cases ra <;> rfl
      rw [this]; exact q
    · cases e0
  | In =>
    dsimp only [cmpOp] at e
    cases opIn_of rS ra rb e with
    | str h => subst h; exact op_in_str pins s σ H _ _ v u Q I rx ry ⟨_, _, rfl, rfl, q⟩
    | flat h1 f1 f2 h => subst h; exact op_in_seq pins s σ H _ _ v u Q I rx ry ⟨_, _, rfl, h1, f1, f2, q⟩
    | data h1 h2 h3 h4 h => subst h; exact op_inD (by omega) pins s σ H _ _ v u Q I rx ry ⟨_, _, h1, h2, h3, h4, q⟩
    | dic g h =>
      cases ry
      exact d_in (by omega) I g rx fun s' I' => ⟨.bl _, H, I', rfl, by rw [h]; exact q⟩
    | dn h1 h2 h =>
      cases ry
      cases rx
      exact in_dicN (by omega) I h1 h2 fun s' I' => ⟨.bl _, H, I', rfl, by rw [h]; exact q⟩
  | NotIn =>
    dsimp only [cmpOp] at e
    obtain ⟨k, e0, rfl⟩ := Option.map_eq_some_iff.mp e
    cases opIn_of rS ra rb e0 with
    | str h => subst h; exact op_notin_str pins s σ H _ _ v u Q I rx ry ⟨_, _, rfl, rfl, q⟩
    | flat h1 f1 f2 h => subst h; exact op_notIn_seq pins s σ H _ _ v u Q I rx ry ⟨_, _, rfl, h1, f1, f2, q⟩
    | data h1 h2 h3 h4 h => subst h; exact op_notInD (by omega) pins s σ H _ _ v u Q I rx ry ⟨_, _, h1, h2, h3, h4, q⟩
    | dic g h =>
      cases ry
      exact d_notIn (by omega) I g rx fun s' I' => ⟨.bl _, H, I', rfl, by rw [h]; exact q⟩
    | dn h1 h2 h =>
      cases ry
      cases rx
      exact notIn_dicN (by omega) I h1 h2 fun s' I' => ⟨.bl _, H, I', rfl, by rw [h]; exact q⟩

/-! ### subscripts -/
theorem atI_rep {K : PySem.W.Frag} {ρ : Pl} {H : Hp} {vs : List Val} {ws : List V} {i : Int} {v : Val} (r : RepL K ρ H vs ws) (e : atI vs i = some v) : ∃ w, atI ws i = some w ∧ Rep K ρ H v w := by
  unfold atI at e
  obtain ⟨j, e1, e2⟩ := Option.bind_eq_some_iff.mp e
  obtain ⟨w, e3, e4⟩ := r.get e2
  refine ⟨w, ?_, e4⟩
  unfold atI
  rw [← r.length, e1]
  exact e3
theorem dkIx {K : PySem.W.Frag} {ρ : Pl} {H : Hp} {a : Addr} {v c : Val} {x : V} {kvs : List (Key × Val)} {kws : List (Key × V)} (rv : Rep K ρ H v x) (h : H a = some (.dK kws)) (d : DRel K ρ H kvs kws) (e : ((keyOf v).bind (look kvs)) = some c) : IxIs K ρ H c (.ref a) x := by
  obtain ⟨k, e1, e2⟩ := Option.bind_eq_some_iff.mp e
  have hx := keyOf_rep rv e1
  subst hx
  rcases d.look k with ⟨h1, h2⟩ | ⟨v', w', h1, h2, r⟩
  · rw [h1] at e2; cases e2
  · rw [h1] at e2; cases e2
    exact .dic (by rw [← h2]; exact DGet.k h) r
theorem dtIx {K : PySem.W.Frag} {ρ : Pl} {H : Hp} {a : Addr} {v c : Val} {x : V} {kvs : List (List Key × Val)} {kws : List (List Key × V)} (rv : Rep K ρ H v x) (h : H a = some (.dT kws)) (d : DRel K ρ H kvs kws) (e : ((keyT v).bind (look kvs)) = some c) : IxIs K ρ H c (.ref a) x := by
  obtain ⟨k, e1, e2⟩ := Option.bind_eq_some_iff.mp e
  obtain ⟨b, rfl, hb⟩ := keyT_rep rv e1
  rcases d.look k with ⟨h1, h2⟩ | ⟨v', w', h1, h2, r⟩
  · rw [h1] at e2; cases e2
  · rw [h1] at e2; cases e2
    exact .dic (by rw [← h2]; exact DGet.t h hb) r
theorem lIx {K : PySem.W.Frag} {ρ : Pl} {H : Hp} {a : Addr} {v c : Val} {x : V} {vs : List Val} {ws : List V} {i : Int} (rv : Rep K ρ H (.int i) x) (h : H a = some (.lst ws)) (q : RepL K ρ H vs ws) (e : atI vs i = some c) : IxIs K ρ H c (.ref a) x := by
  cases rv
  obtain ⟨w', e2, e3⟩ := atI_rep q e
  exact .seq (.of h) e2 e3
theorem ixOp_of {K : PySem.W.Frag} {ρ : Pl} {st : Store} {H : Hp} (rS : RelS K ρ st H) {v w c : Val} {x y : V} (rv : Rep K ρ H v x) (rw' : Rep K ρ H w y) (e : ixOp st v w = some c) :
    (∃ z i k, x = .str z ∧ y = .int i ∧ z.length ≤ sizeLine ∧ atI z.cps.toList i = some k ∧ c = .str ⟨#[k]⟩) ∨ IxIs K ρ H c x y := by
  unfold ixOp at e
  split at e
  · split at e
    · rename_i hz
      obtain ⟨k, e1, rfl⟩ := Option.map_eq_some_iff.mp e
      cases rv; cases rw'
      exact .inl ⟨_, _, k, rfl, rfl, of_decide_eq_true hz, e1, rfl⟩
    · cases e
  · cases rw'
    cases rv with
    | tup t q =>
      obtain ⟨w', e2, e3⟩ := atI_rep q e
      exact .inr (.tup t.sq e2 e3)
  · cases rv with
    | lst t n q => exact .inr (lIx (v := .non) rw' t q e)
  · rename_i l
    cases rv with
    | @loc _ a h =>
      cases eo : st[l]? with
      | none => rw [eo] at e; cases e
      | some o =>
        rw [eo] at e
        obtain ⟨u, e1, e2⟩ := rS.at_ _ a _ h eo
        cases e2 with
        | lst q =>
          unfold obIx at e
          dsimp only at e
          split at e
          · exact .inr (lIx (v := .non) rw' e1 q e)
          · cases e
        | dK hk q => exact .inr (dkIx rw' e1 ⟨hk, q⟩ e)
        | dT hk q => exact .inr (dtIx rw' e1 ⟨hk, q⟩ e)
        | ins _ _ _ _ _ => cases e
  · cases rv with
    | dK t n q => exact .inr (dkIx rw' t (.zip q) e)
  · cases rv with
    | dT t n q => exact .inr (dtIx rw' t (.zip q) e)
  · cases e
open PyProof.Rows in
/-- d[k], by values -/
theorem ix_dic {a : Addr} {y z : V} {value slice : Expr} {pins : List (Addr × Obj)} {s : Shared} {σ : L2.St} {H : Hp} {u : Value} {Q : VK} (hu : X.A.units + 1 < cLine) (I : Inv X pins σ H s) (g : DGet H a y (some z)) (ry : RelV y u) (q : Q z H)
    (hs : subscripted slice false (.ref a) u = operate [.ref a, u] (getItem (.ref a) u)) : wpAny (model X.prog X.w) X.A (subscriptTail value slice (.ref a) u) (EP X pins σ Q) X.xe s :=
  tail_any (dict_typeIs I g) PySem.F.slot_dict_getitem.lookup (d_getItem hu I g ry fun w' s3 I3 rw' => ⟨z, H, I3, rw', q⟩) hs
theorem ix_S (hu : X.A.units + 100 < cLine) : IxR X (rOp X.K fun v w st => bnd (ofOpt (ixOp st v w)) ret st) := by
  intro value slice pins s σ H x y v u Q I rx ry h hs
  obtain ⟨W, σ', ρ, st, a, b, rS, ra, rb, p0⟩ := h
  obtain ⟨c, e, p⟩ := Post.opt p0
  clear p0
  rcases ixOp_of rS ra rb e with ⟨z, i, k, rfl, rfl, hz, e1, rfl⟩ | h
  · exact ix_str value slice pins s σ H _ _ v u Q I rx ry ⟨_, _, k, rfl, rfl, hz, e1, Post.ret p rS (.str _)⟩ hs
  · cases h with
    | seq h1 h2 r => exact ix_list value slice pins s σ H _ _ v u Q I rx ry ⟨_, _, _, _, rfl, rfl, h1, h2, Post.ret p rS r⟩ hs
    | tup h1 h2 r => exact ix_tup value slice pins s σ H _ _ v u Q I rx ry ⟨_, _, _, _, rfl, rfl, h1, h2, Post.ret p rS r⟩ hs
    | dic g r =>
      cases rx
      exact ix_dic (by omega) I g ry (Post.ret p rS r) hs
/-! ### slices -/
def rSl (K : PySem.W.Frag) (g : Val → Option Int → Option Int → M Val) : V → Option Int → Option Int → Hp → VK → Prop := fun x lo hi H Q => ∃ (W : WX) (σ : L2.St) (ρ : Pl) (st : Store) (v : Val), RelS K ρ st H ∧ Rep K ρ H v x ∧ Post K (Rep K) W σ ρ H Q (g v lo hi st)
theorem cut_rep {K : PySem.W.Frag} {ρ : Pl} {H : Hp} {vs : List Val} {ws : List V} (lo hi : Option Int) (r : RepL K ρ H vs ws) : RepL K ρ H (cut vs lo hi) (cutV ws lo hi) := by
  unfold cut cutV
  rw [← r.length]
  exact (r.drop _).take _
theorem cut_whole {α : Type} {xs : List α} {lo hi : Option Int} (h : HT.sIx xs.length 0 lo = 0 ∧ HT.sIx xs.length xs.length hi = xs.length) : cut xs lo hi = xs := by
  unfold cut
  rw [h.1, h.2]
  simp
theorem repL_ints {K : PySem.W.Frag} {ρ : Pl} {H : Hp} : ∀ ns : List Int, RepL K ρ H (ns.map .int) (ns.map V.int)
  | [] => .nil
  | n :: ns => .cons (.int n) (repL_ints ns)
theorem sl_S {new : Bool} : SlR X (rSl X.K fun v lo hi st => bnd (ofOpt (slOp st v lo hi)) (mk new) st) := by
  intro pins s σ H x v vl vu lo hi sl Q I rx hs pl pu h
  obtain ⟨W, σ', ρ, st, a, rS, ra, p0⟩ := h
  obtain ⟨c, e, p⟩ := Post.opt p0
  clear p0
  unfold slOp at e
  split at e
  · cases e
    cases ra with
    | @tup a1 ws vs ta qa =>
      have hl := qa.length
      refine sl_tupA pins s σ H _ v vl vu lo hi sl Q I rx hs pl pu ⟨a1, ws, rfl, ta.sq, fun h => ?_, fun _ => post_t p rS (cut_rep lo hi qa)⟩
      rw [← hl] at h
      rw [cut_whole h] at p
      exact Post.ret p rS (.tup ta qa)
  · cases e
    cases ra with
    | scr h => exact sl_list pins s σ H _ v vl vu lo hi sl Q I rx hs pl pu ⟨_, _, rfl, h.sq, post_l p rS (cut_rep lo hi (repL_ints _))⟩
  · split at e
    · rename_i hz
      cases e
      cases ra
      exact sl_str pins s σ H _ v vl vu lo hi sl Q I rx hs pl pu ⟨_, rfl, by rw [sizeLine_eq]; exact hz, post_v p rS (.str _)⟩
    · cases e
  · obtain ⟨xs, e1, rfl⟩ := Option.map_eq_some_iff.mp e
    obtain ⟨a1, ws, rfl, h1, q1⟩ := ra.lstOf rS e1
    exact sl_list pins s σ H _ v vl vu lo hi sl Q I rx hs pl pu ⟨a1, ws, rfl, .of h1, post_l p rS (cut_rep lo hi q1)⟩
/-! ### built-in functions -/
def rCall (K : PySem.W.Frag) (g : List Val → M Val) : List V → Hp → VK → Prop := fun xs H Q => ∃ (W : WX) (σ : L2.St) (ρ : Pl) (st : Store) (vs : List Val), RelS K ρ st H ∧ RepL K ρ H vs xs ∧ Post K (Rep K) W σ ρ H Q (g vs st)
theorem repL_one {K : PySem.W.Frag} {ρ : Pl} {H : Hp} {v : Val} {xs : List V} (r : RepL K ρ H [v] xs) : ∃ x, xs = [x] ∧ Rep K ρ H v x := by
  cases r with
  | cons h q => cases q; exact ⟨_, rfl, h⟩
theorem repL_two {K : PySem.W.Frag} {ρ : Pl} {H : Hp} {v w : Val} {xs : List V} (r : RepL K ρ H [v, w] xs) : ∃ x y, xs = [x, y] ∧ Rep K ρ H v x ∧ Rep K ρ H w y := by
  cases r with
  | cons h q =>
    obtain ⟨y, rfl, h2⟩ := repL_one q
    exact ⟨_, _, rfl, h, h2⟩
theorem mapO_ints {K : PySem.W.Frag} {ρ : Pl} {H : Hp} : ∀ {vs : List Val} {ws : List V} {ns : List Int}, RepL K ρ H vs ws → mapO toInt vs = some ns → ws = ns.map V.int
  | _, _, _, .nil, e => by cases e; rfl
  | _, _, _, .cons r q, e => by
    unfold mapO at e
    obtain ⟨d, e1, e2⟩ := Option.bind_eq_some_iff.mp e
    obtain ⟨ds, e3, rfl⟩ := Option.map_eq_some_iff.mp e2
    cases r <;> cases e1
    rw [mapO_ints q e3]; rfl
theorem mapO_bls {K : PySem.W.Frag} {ρ : Pl} {H : Hp} : ∀ {vs : List Val} {ws : List V} {ns : List Bool}, RepL K ρ H vs ws → mapO toBl vs = some ns → ws = ns.map V.bl
  | _, _, _, .nil, e => by cases e; rfl
  | _, _, _, .cons r q, e => by
    unfold mapO at e
    obtain ⟨d, e1, e2⟩ := Option.bind_eq_some_iff.mp e
    obtain ⟨ds, e3, rfl⟩ := Option.map_eq_some_iff.mp e2
    cases r <;> cases e1
    rw [mapO_bls q e3]; rfl
theorem foldl_max {x m : Int} {xs : List Int} (hm : m ∈ x :: xs) (hle : ∀ y, y ∈ x :: xs → y ≤ m) : xs.foldl max x = m := by
  induction xs generalizing x with
  | nil => simp at hm; exact hm.symm
  | cons y ys ih =>
    rw [List.foldl_cons]
    have hx := hle x (by simp)
    have hy := hle y (by simp)
    refine ih ?_ fun z hz => ?_
    · rcases List.mem_cons.mp hm with e | e
      · subst e
        have : max m y = m := by omega
        rw [this]; simp
      · rcases List.mem_cons.mp e with e | e
        · subst e
          have : max x m = m := by omega
          rw [this]; simp
        · exact List.mem_cons_of_mem _ e
    · rcases List.mem_cons.mp hz with e | e
      · omega
      · exact hle z (by simp [e])
theorem foldl_min {x m : Int} {xs : List Int} (hm : m ∈ x :: xs) (hle : ∀ y, y ∈ x :: xs → m ≤ y) : xs.foldl min x = m := by
  induction xs generalizing x with
  | nil => simp at hm; exact hm.symm
  | cons y ys ih =>
    rw [List.foldl_cons]
    have hx := hle x (by simp)
    have hy := hle y (by simp)
    refine ih ?_ fun z hz => ?_
    · rcases List.mem_cons.mp hm with e | e
      · subst e
        have : min m y = m := by omega
        rw [this]; simp
      · rcases List.mem_cons.mp e with e | e
        · subst e
          have : min x m = m := by omega
          rw [this]; simp
        · exact List.mem_cons_of_mem _ e
    · rcases List.mem_cons.mp hz with e | e
      · omega
      · exact hle z (by simp [e])
theorem bi_len : CallR X (.builtin "len") (rCall X.K fun vs st => bnd (ofOpt (biLen st vs)) ret st) := by
  intro pins s σ H xs us Q I r h
  obtain ⟨W, σ', ρ, st, vs, rS, ra, p0⟩ := h
  obtain ⟨c, e, p⟩ := Post.opt p0
  clear p0
  unfold biLen at e
  split at e
  · split at e
    · rename_i hz
      cases e
      obtain ⟨x, rfl, h1⟩ := repL_one ra
      cases h1
      exact call_len pins s σ H _ us Q I r ⟨_, _, rfl, ⟨of_decide_eq_true hz, rfl⟩, Post.ret p rS (.int _)⟩
    · cases e
  · cases e
    obtain ⟨x, rfl, h1⟩ := repL_one ra
    cases h1 with
    | tup t q =>
      have qq := Post.ret p rS (.int _)
      rw [q.length] at qq
      exact call_len pins s σ H _ us Q I r ⟨_, _, rfl, .inr ⟨_, t.sq, rfl⟩, qq⟩
  · cases e
    obtain ⟨x, rfl, h1⟩ := repL_one ra
    cases h1 with
    | lst t n q =>
      have qq := Post.ret p rS (.int _)
      rw [q.length] at qq
      exact call_len pins s σ H _ us Q I r ⟨_, _, rfl, .inl ⟨_, .of t, rfl⟩, qq⟩
  · obtain ⟨n, e1, rfl⟩ := Option.map_eq_some_iff.mp e
    obtain ⟨x, rfl, h1⟩ := repL_one ra
    cases h1 with
    | @loc _ a h =>
      have qq := Post.ret p rS (.int _)
      unfold obLen at e1
      split at e1
      · rename_i eo
        cases e1
        obtain ⟨u, e3, e4⟩ := rS.at_ _ a _ h eo
        cases e4 with
        | lst q =>
          rw [q.length] at qq
          exact call_len pins s σ H _ us Q I r ⟨_, _, rfl, .inl ⟨_, .of e3, rfl⟩, qq⟩
      · rename_i eo
        cases e1
        obtain ⟨u, e3, e4⟩ := rS.at_ _ a _ h eo
        cases e4 with
        | @dK _ kws hk q =>
          rw [(DRel.mk hk q).len] at qq
          exact call_lenD pins s σ H _ us Q I r ⟨_, _, rfl, e3, qq⟩
      · cases e1
  · cases e
/-! ### max, min of a tuple of ints -/
section
open PySem PyProof.Rows
variable {prog : Program} {w : World} {A : Around} {E : Value → Shared → Prop} {s : Shared} {l : Addr}
theorem it_tup {its : Array Value} {Q : Value → Shared → Prop} (hl : s.heap.IsTuple l its)
    (h : ∀ s2 : Shared, s2 = { s with heap := s.heap.push { cls := .type "tuple_iterator", data := .fields #[.ref l, .int 0 0] } } → (s2.heap.IsTupleIter s.heap.objs.size l 0 ∧ s2.heap.IsTuple l its) →
      (∀ b ∈ [s.heap.objs.size, l], b < s2.heap.objs.size) → l ≠ s.heap.objs.size → Q (.ref s.heap.objs.size) s2) : wpAny (model prog w) A (pyIter (.ref l)) Q E s := by
  have hlt : l < s.heap.objs.size := by
    obtain ⟨_, e, _⟩ := hl
    exact Heap.lt_size e
  refine wpAny_pyIter_tuple hl (h _ rfl ⟨⟨_, Heap.get?_push_size _ rfl, rfl, rfl⟩, ?_⟩ (fun b hb => ?_) (Nat.ne_of_lt hlt))
  · exact hl.at fun o e => Heap.get?_push_of_some _ e
  · show b < (s.heap.push _).objs.size
    rw [Heap.size_push]
    rcases List.mem_cons.mp hb with e1 | hb
    · rw [e1]; exact Nat.lt_succ_self _
    · rcases List.mem_cons.mp hb with e1 | hb
      · rw [e1]; exact Nat.lt_succ_of_lt hlt
      · cases hb
theorem kept_tup {h' : Heap} (hk : ∀ b o, b ∉ [s.heap.objs.size] → (s.heap.push { cls := .type "tuple_iterator", data := .fields #[.ref l, .int 0 0] }).get? b = some o → h'.get? b = some o) : ∀ b o, s.heap.get? b = some o → h'.get? b = some o := fun b o e => by
  refine hk b o (fun hm => ?_) (Heap.get?_push_of_some _ e)
  rcases List.mem_cons.mp hm with e1 | hm
  · exact (Nat.lt_irrefl _ (e1 ▸ Heap.lt_size e)).elim
  · cases hm
theorem max_tup {its : List Value} {ns : List Int} {Q : Value → Shared → Prop} (hh : A.handled = none) (hl : s.heap.IsTuple l its.toArray) (hi : IntsAre its ns) (hne : 0 < ns.length)
    (h : ∀ h' tk M t', (∀ b o, s.heap.get? b = some o → h'.get? b = some o) → M ∈ ns → (∀ a, a ∈ ns → a ≤ M) → Q (.int M t') { s with heap := h', toks := tk }) : wpAny (model prog w) A (call (.builtin "max") [.ref l]) Q E s := by
  obtain ⟨xs, e⟩ := hi.allInts.items
  have hn : numsOf (intItems xs).toList = ns := by rw [← e]; exact hi.numsOf
  rw [nums_intItems] at hn
  subst hn
  rw [e] at hl
  have hsz : 0 < xs.size := by simpa using hne
  refine call_max_walk (it_tup hl fun s2 e st hfp hlI => ?_)
  subst e
  refine ⟨_, _, _, _, _, _, _, rfl, Walks.tuple (A := A.in1) hh _ l hlI (intItems xs), st, hfp, by simpa [intItems] using hsz, CmpOf.ints_gt (numAt xs) (fun _ _ => intItems_at), fun v h' tk hP hk => ?_⟩
  obtain ⟨t, rfl⟩ := intItems_at hP
  obtain ⟨h1, h2⟩ := argBest_gt (numAt xs) ((intItems xs).size - 1)
  have hs2 : (intItems xs).size = xs.size := by simp [intItems]
  refine h h' tk _ t (kept_tup hk) ?_ fun a ha => ?_
  · rw [numAt_eq]; exact PySem.getD_mem (by rw [List.length_map, Array.length_toList]; omega)
  · obtain ⟨j, hj, rfl⟩ := mem_getD ha
    rw [List.length_map, Array.length_toList] at hj
    rw [← numAt_eq]; exact h2 j (by omega)
theorem min_tup {its : List Value} {ns : List Int} {Q : Value → Shared → Prop} (hh : A.handled = none) (hl : s.heap.IsTuple l its.toArray) (hi : IntsAre its ns) (hne : 0 < ns.length)
    (h : ∀ h' tk M t', (∀ b o, s.heap.get? b = some o → h'.get? b = some o) → M ∈ ns → (∀ a, a ∈ ns → M ≤ a) → Q (.int M t') { s with heap := h', toks := tk }) : wpAny (model prog w) A (call (.builtin "min") [.ref l]) Q E s := by
  obtain ⟨xs, e⟩ := hi.allInts.items
  have hn : numsOf (intItems xs).toList = ns := by rw [← e]; exact hi.numsOf
  rw [nums_intItems] at hn
  subst hn
  rw [e] at hl
  have hsz : 0 < xs.size := by simpa using hne
  refine call_min_walk (it_tup hl fun s2 e st hfp hlI => ?_)
  subst e
  refine ⟨_, _, _, _, _, _, _, rfl, Walks.tuple (A := A.in1) hh _ l hlI (intItems xs), st, hfp, by simpa [intItems] using hsz, CmpOf.ints_lt (numAt xs) (fun _ _ => intItems_at), fun v h' tk hP hk => ?_⟩
  obtain ⟨t, rfl⟩ := intItems_at hP
  obtain ⟨h1, h2⟩ := argBest_lt (numAt xs) ((intItems xs).size - 1)
  have hs2 : (intItems xs).size = xs.size := by simp [intItems]
  refine h h' tk _ t (kept_tup hk) ?_ fun a ha => ?_
  · rw [numAt_eq]; exact PySem.getD_mem (by rw [List.length_map, Array.length_toList]; omega)
  · obtain ⟨j, hj, rfl⟩ := mem_getD ha
    rw [List.length_map, Array.length_toList] at hj
    rw [← numAt_eq]; exact h2 j (by omega)
end
theorem bi_max (hc : X.calm = true) : CallR X (.builtin "max") (rCall X.K fun vs st => bnd (ofOpt (biMax st vs)) ret st) := by
  intro pins s σ H xs us Q I r h
  obtain ⟨W, σ', ρ, st, vs, rS, ra, p0⟩ := h
  obtain ⟨c, e, p⟩ := Post.opt p0
  clear p0
  unfold biMax at e
  split at e
  · cases e
    obtain ⟨x, y, rfl, h1, h2⟩ := repL_two ra
    cases h1; cases h2
    exact call_max2 hc pins s σ H _ us Q I r ⟨_, _, rfl, Post.ret p rS (.int _)⟩
  · obtain ⟨m, e1, rfl⟩ := Option.map_eq_some_iff.mp e
    obtain ⟨ys, e2, e3⟩ := Option.bind_eq_some_iff.mp e1
    obtain ⟨ns, e4, e5⟩ := Option.bind_eq_some_iff.mp e3
    obtain ⟨x, rfl, h1⟩ := repL_one ra
    obtain ⟨a, ws, rfl, h2, h3⟩ := h1.seqOf rS e2
    have := mapO_ints h3 e4
    subst this
    cases ns with
    | nil => cases e5
    | cons n ns =>
      cases e5
      rcases h2 with h2 | h2
      · exact cr_max hc pins s σ H _ us Q I r ⟨a, n :: ns, rfl, h2, Nat.succ_pos _, fun m hm hle => by
          rw [← foldl_max hm hle]
          exact Post.ret p rS (.int _)⟩
      · obtain ⟨its, rv, hl, _⟩ := I.tuple h2
        rw [Vals.ref1 r]
        exact max_tup (I.ok.hd hc) hl rv.ints (Nat.succ_pos _) fun h' tk m t' hk hm hle => ⟨.int _, H, I.kept hk, ⟨_, rfl⟩, by
          rw [← foldl_max hm hle]
          exact Post.ret p rS (.int _)⟩
  · cases e
theorem bi_min (hc : X.calm = true) : CallR X (.builtin "min") (rCall X.K fun vs st => bnd (ofOpt (biMin st vs)) ret st) := by
  intro pins s σ H xs us Q I r h
  obtain ⟨W, σ', ρ, st, vs, rS, ra, p0⟩ := h
  obtain ⟨c, e, p⟩ := Post.opt p0
  clear p0
  unfold biMin at e
  split at e
  · cases e
    obtain ⟨x, y, rfl, h1, h2⟩ := repL_two ra
    cases h1; cases h2
    exact call_min2 hc pins s σ H _ us Q I r ⟨_, _, rfl, Post.ret p rS (.int _)⟩
  · obtain ⟨m, e1, rfl⟩ := Option.map_eq_some_iff.mp e
    obtain ⟨ys, e2, e3⟩ := Option.bind_eq_some_iff.mp e1
    obtain ⟨ns, e4, e5⟩ := Option.bind_eq_some_iff.mp e3
    obtain ⟨x, rfl, h1⟩ := repL_one ra
    obtain ⟨a, ws, rfl, h2, h3⟩ := h1.seqOf rS e2
    have := mapO_ints h3 e4
    subst this
    cases ns with
    | nil => cases e5
    | cons n ns =>
      cases e5
      rcases h2 with h2 | h2
      · exact cr_min hc pins s σ H _ us Q I r ⟨a, n :: ns, rfl, h2, Nat.succ_pos _, fun m hm hle => by
          rw [← foldl_min hm hle]
          exact Post.ret p rS (.int _)⟩
      · obtain ⟨its, rv, hl, _⟩ := I.tuple h2
        rw [Vals.ref1 r]
        exact min_tup (I.ok.hd hc) hl rv.ints (Nat.succ_pos _) fun h' tk m t' hk hm hle => ⟨.int _, H, I.kept hk, ⟨_, rfl⟩, by
          rw [← foldl_min hm hle]
          exact Post.ret p rS (.int _)⟩
  · cases e
theorem bi_all (hc : X.calm = true) : CallR X (.builtin "all") (rCall X.K fun vs st => bnd (ofOpt (biAll st vs)) ret st) := by
  intro pins s σ H xs us Q I r h
  obtain ⟨W, σ', ρ, st, vs, rS, ra, p0⟩ := h
  obtain ⟨c, e, p⟩ := Post.opt p0
  clear p0
  unfold biAll at e
  split at e
  · obtain ⟨bs, e1, rfl⟩ := Option.map_eq_some_iff.mp e
    obtain ⟨ys, e2, e3⟩ := Option.bind_eq_some_iff.mp e1
    obtain ⟨x, rfl, h1⟩ := repL_one ra
    obtain ⟨a, ws, rfl, h2, h3⟩ := h1.lstOf rS e2
    have := mapO_bls h3 e3
    subst this
    exact cr_all hc pins s σ H _ us Q I r ⟨a, bs, rfl, .of h2, Post.ret p rS (.bl _)⟩
  · cases e
theorem bi_any (hc : X.calm = true) : CallR X (.builtin "any") (rCall X.K fun vs st => bnd (ofOpt (biAny st vs)) ret st) := by
  intro pins s σ H xs us Q I r h
  obtain ⟨W, σ', ρ, st, vs, rS, ra, p0⟩ := h
  obtain ⟨c, e, p⟩ := Post.opt p0
  clear p0
  unfold biAny at e
  split at e
  · obtain ⟨bs, e1, rfl⟩ := Option.map_eq_some_iff.mp e
    obtain ⟨ys, e2, e3⟩ := Option.bind_eq_some_iff.mp e1
    obtain ⟨x, rfl, h1⟩ := repL_one ra
    obtain ⟨a, ws, rfl, h2, h3⟩ := h1.lstOf rS e2
    have := mapO_bls h3 e3
    subst this
    exact cr_any hc pins s σ H _ us Q I r ⟨a, bs, rfl, .of h2, Post.ret p rS (.bl _)⟩
  · cases e
theorem bi_int : CallR X (.type "int") (rCall X.K fun vs st => bnd (ofOpt (biInt vs)) ret st) := by
  intro pins s σ H xs us Q I r h
  obtain ⟨W, σ', ρ, st, vs, rS, ra, p0⟩ := h
  obtain ⟨c, e, p⟩ := Post.opt p0
  clear p0
  unfold biInt at e
  split at e
  · cases e
    obtain ⟨x, rfl, h1⟩ := repL_one ra
    cases h1
    exact call_int1 pins s σ H _ us Q I r (.inl ⟨_, rfl, Post.ret p rS (.int _)⟩)
  · cases e
    obtain ⟨x, rfl, h1⟩ := repL_one ra
    cases h1
    exact call_int1 pins s σ H _ us Q I r (.inr ⟨_, rfl, Post.ret p rS (.int _)⟩)
  · split at e
    · rename_i hz
      obtain ⟨n, e1, rfl⟩ := Option.map_eq_some_iff.mp e
      obtain ⟨x, rfl, h1⟩ := repL_one ra
      cases h1
      exact call_int_str pins s σ H _ us Q I r ⟨_, _, rfl, e1, hz, Post.ret p rS (.int _)⟩
    · cases e
  · cases e
theorem bi_tuple : CallR X (.type "tuple") (rCall X.K fun vs st => bnd (ofOpt (biTuple st vs)) ret st) := by
  intro pins s σ H xs us Q I r h
  obtain ⟨W, σ', ρ, st, vs, rS, ra, p0⟩ := h
  obtain ⟨c, e, p⟩ := Post.opt p0
  clear p0
  unfold biTuple at e
  split at e
  · obtain ⟨ys, e1, rfl⟩ := Option.map_eq_some_iff.mp e
    obtain ⟨x, rfl, h1⟩ := repL_one ra
    rename_i v
    by_cases hv : ∃ zs, v = .tup zs
    · obtain ⟨zs, rfl⟩ := hv
      cases e1
      cases h1 with
      | tup ta qa => exact call_tuple_of pins s σ H _ us Q I r ⟨_, _, rfl, .inr ⟨ta.sq, Post.ret p rS (.tup ta qa)⟩⟩
    · have e' : lstOf st v = some ys := by
        cases v <;> first | exact e1 | exact absurd ⟨_, rfl⟩ hv
      obtain ⟨a, ws, rfl, h2, h3⟩ := h1.lstOf rS e'
      exact call_tuple_of pins s σ H _ us Q I r ⟨a, ws, rfl, .inl ⟨.of h2, post_t p rS h3⟩⟩
  · cases e
theorem repL_keys {K : PySem.W.Frag} {ρ : Pl} {H : Hp} : ∀ ks : List Key, RepL K ρ H (ks.map keyVal) (ks.map kV)
  | [] => .nil
  | k :: ks => .cons (Rep.keyVal k) (repL_keys ks)
theorem keys_rep {K : PySem.W.Frag} {ρ : Pl} {H : Hp} {kvs : List (Key × Val)} {kws : List (Key × V)} (d : kvs.map (·.1) = kws.map (·.1)) : RepL K ρ H (kvs.map fun kv => keyVal kv.1) (kws.map fun kv => kV kv.1) := by
  have e1 : (kvs.map fun kv => keyVal kv.1) = (kvs.map (·.1)).map keyVal := by rw [List.map_map]; rfl
  have e2 : (kws.map fun kv => kV kv.1) = (kws.map (·.1)).map kV := by rw [List.map_map]; rfl
  rw [e1, e2, d]
  exact repL_keys _
theorem bi_list {new : Bool} (hc : X.calm = true) : CallR X (.type "list") (rCall X.K fun vs st => bnd (ofOpt (biList st vs)) (mk new) st) := by
  intro pins s σ H xs us Q I r h
  obtain ⟨W, σ', ρ, st, vs, rS, ra, p0⟩ := h
  obtain ⟨c, e, p⟩ := Post.opt p0
  clear p0
  unfold biList at e
  split at e
  · cases e
    obtain ⟨x, rfl, h1⟩ := repL_one ra
    cases h1 with
    | tup t q => exact call_list_of pins s σ H _ us Q I r ⟨_, _, rfl, .inr t.sq, post_l p rS q⟩
  · cases e
    obtain ⟨x, rfl, h1⟩ := repL_one ra
    cases h1 with
    | lst t n q => exact call_list_of pins s σ H _ us Q I r ⟨_, _, rfl, .inl (.of t), post_l p rS q⟩
  · obtain ⟨ys, e1, rfl⟩ := Option.map_eq_some_iff.mp e
    obtain ⟨x, rfl, h1⟩ := repL_one ra
    cases h1 with
    | @loc _ a h =>
      unfold obList at e1
      split at e1
      · rename_i eo
        cases e1
        obtain ⟨u, e3, e4⟩ := rS.at_ _ a _ h eo
        cases e4 with
        | lst q => exact call_list_of pins s σ H _ us Q I r ⟨_, _, rfl, .inl (.of e3), post_l p rS q⟩
      · rename_i eo
        cases e1
        obtain ⟨u, e3, e4⟩ := rS.at_ _ a _ h eo
        cases e4 with
        | dK hk q => exact call_listD hc pins s σ H _ us Q I r ⟨_, _, rfl, .inl e3, post_l p rS (keys_rep hk)⟩
      · cases e1
  · cases e
theorem insI_perm (n : Int) : ∀ l : List Int, (insI n l).Perm (n :: l)
  | [] => .refl _
  | m :: ms => by
    unfold insI
    split
    · exact .refl _
    · exact ((insI_perm n ms).cons m).trans (List.Perm.swap n m ms)
theorem srt_perm : ∀ l : List Int, (srt l).Perm l
  | [] => .refl _
  | n :: ns => (insI_perm n (srt ns)).trans ((srt_perm ns).cons n)
theorem insI_sorted (n : Int) : ∀ {l : List Int}, l.Pairwise (· ≤ ·) → (insI n l).Pairwise (· ≤ ·)
  | [], _ => by simp [insI]
  | m :: ms, h => by
    have h' := List.pairwise_cons.mp h
    unfold insI
    split
    · rename_i hc
      refine List.pairwise_cons.mpr ⟨fun x hx => ?_, h⟩
      rcases List.mem_cons.mp hx with rfl | hx
      · exact hc
      · exact Int.le_trans hc (h'.1 x hx)
    · rename_i hc
      refine List.pairwise_cons.mpr ⟨fun x hx => ?_, insI_sorted n h'.2⟩
      rcases List.mem_cons.mp ((insI_perm n ms).mem_iff.mp hx) with rfl | hx
      · omega
      · exact h'.1 x hx
theorem srt_sorted : ∀ l : List Int, (srt l).Pairwise (· ≤ ·)
  | [] => .nil
  | n :: ns => insI_sorted n (srt_sorted ns)
theorem srt_eq {a b : List Int} (h : a.Perm (srt b)) (ha : a.Pairwise (· ≤ ·)) : a = srt b :=
  h.eq_of_pairwise (fun x y _ _ h1 h2 => Int.le_antisymm h1 h2) ha (srt_sorted b)
theorem sorted_of {a b : List Int} (h : a.Perm b) (ha : a.Pairwise (· ≤ ·)) : a = srt b := srt_eq (h.trans (srt_perm b).symm) ha
theorem mapO_keys : ∀ {kvs : List (Key × Val)} {ns : List Int}, mapO (fun kv => keyInt kv.1) kvs = some ns → kvs.map (·.1) = ns.map Sum.inl
  | [], ns, e => by cases e; rfl
  | (k, v) :: kvs, ns, e => by
    unfold mapO at e
    obtain ⟨d, e1, e2⟩ := Option.bind_eq_some_iff.mp e
    obtain ⟨ds, e3, rfl⟩ := Option.map_eq_some_iff.mp e2
    cases k with
    | inl i => cases e1; rw [List.map_cons, mapO_keys e3]; rfl
    | inr _ => cases e1
theorem dps {K : PySem.W.Frag} {ρ : Pl} {st : Store} {H : Hp} (rS : RelS K ρ st H) : ∀ {vs : List Val} {ws : List V} {ds : List PyData}, RepL K ρ H vs ws → mapO (toD st depthD) vs = some ds → ∃ t : List (Val × V × PyData), t.map (·.1) = vs ∧ t.map (·.2.1) = ws ∧ t.map (·.2.2) = ds ∧ ∀ b ∈ t, Rep K ρ H b.1 b.2.1 ∧ Dp K H b.2.1 b.2.2 ∧ b.2.2.depth ≤ 20
  | _, _, _, .nil, e => by cases e; exact ⟨[], rfl, rfl, rfl, fun b hb => nomatch hb⟩
  | _, _, _, .cons (v := v) (w := w) r q, e => by
    unfold mapO at e
    obtain ⟨d, e1, e2⟩ := Option.bind_eq_some_iff.mp e
    obtain ⟨ds, e3, rfl⟩ := Option.map_eq_some_iff.mp e2
    obtain ⟨t, a1, a2, a3, a4⟩ := dps rS q e3
    obtain ⟨b1, _, b3⟩ := r.dp rS _ e1
    have b3' : d.depth ≤ 10 := b3
    refine ⟨(v, w, d) :: t, by rw [List.map_cons, a1], by rw [List.map_cons, a2], by rw [List.map_cons, a3], fun b hb => ?_⟩
    rcases List.mem_cons.mp hb with rfl | hb
    · exact ⟨r, b1, Nat.le_trans b3' (by decide)⟩
    · exact a4 b hb
theorem alk_of {ds : List PyData} (h : alkB ds = true) : (∀ x ∈ ds, ∀ y ∈ ds, PySem.W.alike x y = true) ∧ ∀ x ∈ ds, x ≠ .none := by
  unfold alkB at h
  rw [Bool.and_eq_true, List.all_eq_true, List.all_eq_true] at h
  refine ⟨fun x hx y hy => List.all_eq_true.mp (h.1 x hx) y hy, fun x hx z => ?_⟩
  have := h.2 x hx
  rw [z] at this
  cases this
theorem srt_of {ds : List PyData} (h : srtB ds = true) : PySem.W.Sortable ds := by
  unfold srtB at h
  rw [Bool.or_eq_true, List.all_eq_true, List.all_eq_true] at h
  rcases h with h | h
  · refine .inl fun d hd => ?_
    have := h d hd
    unfold tup1 at this
    split at this
    · exact ⟨_, _, rfl⟩
    · cases this
  · refine .inr fun d hd => ⟨fun z => ?_, fun xs z => ?_⟩
    · have := h d hd
      rw [z] at this
      cases this
    · have := h d hd
      rw [z] at this
      cases this
theorem min_both : ∀ (t : List (Val × V × PyData)) (b0 : Val × V × PyData), ∃ b ∈ b0 :: t, minQ (b0.1, b0.2.2) (t.map fun b => (b.1, b.2.2)) = (b.1, b.2.2) ∧ minP (·.2) (b0.2.1, b0.2.2) (t.map fun b => (b.2.1, b.2.2)) = (b.2.1, b.2.2)
  | [], b0 => ⟨b0, List.mem_cons_self .., rfl, rfl⟩
  | b1 :: t, b0 => by
    by_cases k : PySem.W.dataLt b1.2.2 b0.2.2 = true
    · obtain ⟨b, hb, e1, e2⟩ := min_both t b1
      refine ⟨b, List.mem_cons_of_mem _ hb, ?_, ?_⟩
      · rw [← e1]
        unfold minQ
        rw [List.map_cons, List.foldl_cons, if_pos k]
      · rw [← e2]
        unfold minP
        rw [List.map_cons, List.foldl_cons, if_pos k]
    · obtain ⟨b, hb, e1, e2⟩ := min_both t b0
      refine ⟨b, ?_, ?_, ?_⟩
      · rcases List.mem_cons.mp hb with rfl | hb
        · exact List.mem_cons_self ..
        · exact List.mem_cons_of_mem _ (List.mem_cons_of_mem _ hb)
      · rw [← e1]
        unfold minQ
        rw [List.map_cons, List.foldl_cons, if_neg k]
      · rw [← e2]
        unfold minP
        rw [List.map_cons, List.foldl_cons, if_neg k]
theorem zip_of (t : List (Val × V × PyData)) : (t.map (·.1)).zip (t.map (·.2.2)) = t.map fun b => (b.1, b.2.2) := by
  induction t with
  | nil => rfl
  | cons b t ih => rw [List.map_cons, List.map_cons, List.zip_cons_cons, ih, List.map_cons]
theorem repL_map {K : PySem.W.Frag} {ρ : Pl} {H : Hp} : ∀ {t : List (Val × V × PyData)}, (∀ b ∈ t, Rep K ρ H b.1 b.2.1) → RepL K ρ H (t.map (·.1)) (t.map (·.2.1))
  | [], _ => .nil
  | b :: t, h => .cons (h b (List.mem_cons_self ..)) (repL_map fun x hx => h x (List.mem_cons_of_mem _ hx))
theorem bi_minD (hc : X.calm = true) (hu : X.A.units + 100 < cLine) : CallR X (.builtin "min") (rCall X.K fun vs st => bnd (ofOpt (biMinD st vs)) ret st) := by
  intro pins s σ H xs us Q I r h
  obtain ⟨W, σ', ρ, st, vs, rS, ra, p0⟩ := h
  obtain ⟨c, e, p⟩ := Post.opt p0
  clear p0
  unfold biMinD at e
  split at e
  · obtain ⟨x, rfl, h1⟩ := repL_one ra
    cases h1 with
    | lst t n q =>
      unfold minL at e
      obtain ⟨ds, e1, e2⟩ := Option.bind_eq_some_iff.mp e
      split at e2
      · rename_i ha
        obtain ⟨tr, a1, a2, a3, a4⟩ := dps rS q e1
        subst a1 a2 a3
        rw [zip_of] at e2
        cases tr with
        | nil => cases e2
        | cons b0 tr =>
          cases e2
          obtain ⟨b, hb, m1, m2⟩ := min_both tr b0
          refine cr_minD hc hu pins s σ H _ us Q I r ⟨_, (b0.2.1, b0.2.2), tr.map fun b => (b.2.1, b.2.2), rfl, ?_, ?_, ?_, ?_⟩
          · have : ((b0.2.1, b0.2.2) :: tr.map fun b => (b.2.1, b.2.2)).map (·.1) = (b0 :: tr).map (·.2.1) := by simp
            rw [this]
            exact .of t
          · intro z hz
            have : z ∈ (b0 :: tr).map fun b => (b.2.1, b.2.2) := hz
            obtain ⟨y, hy, rfl⟩ := List.mem_map.mp this
            exact ⟨(a4 y hy).2.1, (a4 y hy).2.2⟩
          · have : ((b0.2.1, b0.2.2) :: tr.map fun b => (b.2.1, b.2.2)).map (·.2) = (b0 :: tr).map (·.2.2) := by simp
            rw [this]
            exact alk_of ha
          · rw [m2]
            have p' := Post.ret p rS (show Rep X.K ρ H (minQ (b0.1, b0.2.2) (tr.map fun b => (b.1, b.2.2))).1 b.2.1 by rw [m1]; exact (a4 b hb).1)
            exact p'
      · cases e2
  · obtain ⟨x, y, rfl, h1, h2⟩ := repL_two ra
    unfold min2 at e
    obtain ⟨d, e1, e2⟩ := Option.bind_eq_some_iff.mp e
    obtain ⟨d', e3, e4⟩ := Option.bind_eq_some_iff.mp e2
    split at e4
    · rename_i ha
      cases e4
      obtain ⟨b1, _, b3⟩ := h1.dp rS _ e1
      obtain ⟨c1, _, c3⟩ := h2.dp rS _ e3
      have b3' : d.depth ≤ 10 := b3
      have c3' : d'.depth ≤ 10 := c3
      refine cr_min2D hc hu pins s σ H _ us Q I r ⟨(x, d), (y, d'), rfl, ?_, alk_of ha, ?_⟩
      · intro z hz
        rcases List.mem_cons.mp hz with rfl | hz
        · exact ⟨b1, Nat.le_trans b3' (by decide)⟩
        · rw [List.mem_singleton.mp hz]
          exact ⟨c1, Nat.le_trans c3' (by decide)⟩
      · show Q (if PySem.W.dataLt d' d = true then (y, d') else (x, d)).1 H
        by_cases k : PySem.W.dataLt d' d = true
        · rw [if_pos k] at p ⊢
          exact Post.ret p rS h2
        · rw [if_neg k] at p ⊢
          exact Post.ret p rS h1
    · cases e4
  · cases e
theorem bi_sortD {new : Bool} (hu : X.A.units + 100 < cLine) : CallR X (.builtin "sorted") (rCall X.K fun vs st => bnd (ofOpt (biSortD st vs)) (mk new) st) := by
  intro pins s σ H xs us Q I r h
  obtain ⟨W, σ', ρ, st, vs, rS, ra, p0⟩ := h
  obtain ⟨c, e, p⟩ := Post.opt p0
  clear p0
  have fin : ∀ {vs : List Val} {ws : List V} {a : Addr}, srtV st vs = some c → xs = [.ref a] → SqL X.K H a ws → RepL X.K ρ H vs ws → wpAny (model X.prog X.w) X.A (call (.builtin "sorted") us) (EP X pins σ Q) X.xe s := by
    intro vs ws a ec ex ha q
    subst ex
    unfold srtV at ec
    obtain ⟨ds, e1, e2⟩ := Option.bind_eq_some_iff.mp ec
    split at e2
    · rename_i hh
      rw [Bool.and_eq_true] at hh
      obtain ⟨tr, a1, a2, a3, a4⟩ := dps rS q e1
      subst a1 a2 a3
      rw [zip_of] at e2
      cases e2
      have m1 : (tr.mergeSort fun a b => !PySem.W.dataLt b.2.2 a.2.2).map (fun b => (b.1, b.2.2)) = (tr.map fun b => (b.1, b.2.2)).mergeSort fun a b => !PySem.W.dataLt b.2 a.2 := List.map_mergeSort fun a _ b _ => rfl
      have m2 : (tr.mergeSort fun a b => !PySem.W.dataLt b.2.2 a.2.2).map (fun b => (b.2.1, b.2.2)) = (tr.map fun b => (b.2.1, b.2.2)).mergeSort fun a b => !PySem.W.dataLt b.2 a.2 := List.map_mergeSort fun a _ b _ => rfl
      have k1 : srtZ (tr.map fun b => (b.1, b.2.2)) = (tr.mergeSort fun a b => !PySem.W.dataLt b.2.2 a.2.2).map (·.1) := by
        unfold srtZ
        rw [← m1, List.map_map]
        rfl
      have k2 : ((tr.map fun b => (b.2.1, b.2.2)).mergeSort (PySem.W.dataLe false (·.2))).map (·.1) = (tr.mergeSort fun a b => !PySem.W.dataLt b.2.2 a.2.2).map (·.2.1) := by
        have : PySem.W.dataLe false (fun b : V × PyData => b.2) = fun a b => !PySem.W.dataLt b.2 a.2 := rfl
        rw [this, ← m2, List.map_map]
        rfl
      refine cr_sortD hu pins s σ H _ us Q I r ⟨a, tr.map fun b => (b.2.1, b.2.2), rfl, ?_, ?_, ?_, ?_, fun p' hn => ?_⟩
      · rw [List.map_map]
        exact ha
      · intro z hz
        obtain ⟨y, hy, rfl⟩ := List.mem_map.mp hz
        exact ⟨(a4 y hy).2.1, (a4 y hy).2.2⟩
      · rw [List.map_map]
        exact (alk_of hh.1).1
      · rw [List.map_map]
        exact srt_of hh.2
      · rw [k2]
        rw [k1] at p
        refine post_l p rS (repL_map fun b hb => (a4 b ?_).1) p' hn
        exact List.mem_mergeSort.mp hb
    · cases e2
  unfold biSortD at e
  split at e
  · obtain ⟨x, rfl, h1⟩ := repL_one ra
    cases h1 with
    | lst t n q => exact fin e rfl (.of t) q
  · obtain ⟨x, rfl, h1⟩ := repL_one ra
    cases h1 with
    | @loc _ a h =>
      unfold obSrtV at e
      split at e
      · rename_i eo
        obtain ⟨u, e3, e4⟩ := rS.at_ _ a _ h eo
        cases e4 with
        | lst q => exact fin e rfl (.of e3) q
      · cases e
  · cases e
theorem bi_sorted {new : Bool} (hc : X.calm = true) : CallR X (.builtin "sorted") (rCall X.K fun vs st => bnd (ofOpt (biSorted st vs)) (mk new) st) := by
  intro pins s σ H xs us Q I r h
  obtain ⟨W, σ', ρ, st, vs, rS, ra, p0⟩ := h
  obtain ⟨c, e, p⟩ := Post.opt p0
  clear p0
  have fin : ∀ {ns : List Int} {a : Addr}, c = .l ((srt ns).map .int) → xs = [.ref a] → SqL X.K H a (ns.map V.int) → wpAny (model X.prog X.w) X.A (call (.builtin "sorted") us) (EP X pins σ Q) X.xe s := by
    intro ns a ec ex ha
    subst ec ex
    refine cr_sortedI pins s σ H _ us Q I r ⟨a, ns, rfl, ha, fun ns' p' hp hs hn => ?_⟩
    rw [sorted_of hp hs]
    exact post_l p rS (repL_ints _) p' hn
  unfold biSorted at e
  split at e
  · obtain ⟨ns, e1, e2⟩ := Option.map_eq_some_iff.mp e
    obtain ⟨x, rfl, h1⟩ := repL_one ra
    cases h1 with
    | lst t n q =>
      have := mapO_ints q e1
      subst this
      exact fin e2.symm rfl (.of t)
  · obtain ⟨ns, e1, e2⟩ := Option.map_eq_some_iff.mp e
    obtain ⟨x, rfl, h1⟩ := repL_one ra
    cases h1 with
    | @loc _ a h =>
      unfold obSort at e1
      split at e1
      · rename_i eo
        obtain ⟨u, e3, e4⟩ := rS.at_ _ a _ h eo
        cases e4 with
        | lst q =>
          have := mapO_ints q e1
          subst this
          exact fin e2.symm rfl (.of e3)
      · rename_i kvs eo
        split at e1
        · rename_i hl
          obtain ⟨u, e3, e4⟩ := rS.at_ _ a _ h eo
          cases e4 with
          | @dK _ kws hk q =>
            subst e2
            have ek := mapO_keys e1
            refine call_sortedDI hc pins s σ H _ us Q I r ⟨a, kws, ns, rfl, .inl e3, hk ▸ ek, ?_, fun ys p' hp hs hn => ?_⟩
            · have := congrArg List.length ek
              simp only [List.length_map] at this
              have := of_decide_eq_true hl
              omega
            · rw [sorted_of hp hs]
              exact post_l p rS (repL_ints _) p' hn
        · cases e1
      · cases e1
  · cases e
theorem padK_of {k : List Key} (h : padKB k = true) : k ∈ padK := by
  unfold padKB at h
  split at h
  · rename_i i j
    simp only [Bool.and_eq_true, decide_eq_true_eq] at h
    obtain ⟨⟨⟨h1, h2⟩, h3⟩, h4⟩ := h
    obtain ⟨i', rfl⟩ := Int.eq_ofNat_of_zero_le h1
    obtain ⟨j', rfl⟩ := Int.eq_ofNat_of_zero_le h3
    unfold padK
    exact List.mem_flatMap.mpr ⟨i', List.mem_range.mpr (by omega), List.mem_map.mpr ⟨j', List.mem_range.mpr (by omega), rfl⟩⟩
  · cases h
theorem post_dT {K : PySem.W.Frag} {W : WX} {σ : L2.St} {ρ : Pl} {H : Hp} {Q : VK} {st : Store} {new : Bool} {kvs : List (List Key × Val)} {kws : List (List Key × V)} (p : Post K (Rep K) W σ ρ H Q (mk new (.t kvs) st)) (s : RelS K ρ st H) (d : DRel K ρ H kvs kws) : ∀ a, H a = none → Q (.ref a) (upd H a (.dT kws)) := fun a h => by
  have hk := d.keys
  have r := d.vals
  cases new with
  | true =>
    have x0 := Ext0.newLoc (ρ := ρ) (o := .dT kws) h
    have z := s.newLoc (o := .dT kvs) (u := .dT kws) h (.dT hk (r.ext0 x0))
    refine p (ρ.push a) (.ref a) _ z.2 z.1 (.loc ?_)
    show (ρ.ps ++ [a])[st.length]? = some a
    rw [← s.len, List.getElem?_append_right (Nat.le_refl _), Nat.sub_self]
    rfl
  | false =>
    have z := s.laid (o := .dT kws) h
    refine p ρ (.ref a) _ z.2 z.1 ?_
    rw [hk]
    exact .dT upd_same (s.fresh h) (r.ext z.2)
theorem pairs_rep {K : PySem.W.Frag} {ρ : Pl} {H : Hp} : ∀ {vs : List Val} {ws : List V} {kvs : List (List Key × Val)}, RepL K ρ H vs ws → mapO pairT vs = some kvs → ∃ (ps : List Addr) (kws : List (List Key × V)), ws = ps.map V.ref ∧ DRel K ρ H kvs kws ∧ Paired (fun p (kv : List Key × V) => ∃ b, SqT K H p [.ref b, kv.2] ∧ H b = some (.tup (kv.1.map kV))) ps kws
  | _, _, _, .nil, e => by cases e; exact ⟨[], [], rfl, .nil, .nil⟩
  | _, _, _, .cons (v := v) (w := w) r q, e => by
    unfold mapO at e
    obtain ⟨kv, e1, e2⟩ := Option.bind_eq_some_iff.mp e
    obtain ⟨kvs, e3, rfl⟩ := Option.map_eq_some_iff.mp e2
    obtain ⟨ps, kws, rfl, d, pr⟩ := pairs_rep q e3
    unfold pairT at e1
    split at e1
    · obtain ⟨k, e4, rfl⟩ := Option.map_eq_some_iff.mp e1
      cases r with
      | @tup a us _ t q2 =>
        obtain ⟨x, y, rfl, rx, ry⟩ := repL_two q2
        obtain ⟨b, rfl, hb⟩ := keyT_rep rx e4
        exact ⟨a :: ps, (k, y) :: kws, rfl, .cons ry d, .cons ⟨b, t.sq, hb⟩ pr⟩
    · cases e1
theorem mrg_rel {K : PySem.W.Frag} {ρ : Pl} {H : Hp} : ∀ {kvs : List (List Key × Val)} {kws : List (List Key × V)} {acc : List (List Key × Val)} {bcc : List (List Key × V)}, DRel K ρ H acc bcc → DRel K ρ H kvs kws → DRel K ρ H (mrg acc kvs) (mrgT bcc kws)
  | [], kws, acc, bcc, h, d => by
    have := d.len
    cases kws with
    | nil => exact h
    | cons _ _ => simp at this
  | kv :: kvs, kws, acc, bcc, h, d => by
    have hl := d.len
    cases kws with
    | nil => simp at hl
    | cons kw kws =>
      obtain ⟨dk, dv⟩ := d
      have e1 : kv.1 = kw.1 := by simpa using (List.cons.inj (by simpa using dk)).1
      cases dv with
      | cons r q =>
        refine mrg_rel (kvs := kvs) (kws := kws) ?_ ⟨by simpa using (List.cons.inj (by simpa using dk)).2, q⟩
        have := h.put kv.1 r
        rw [e1] at this ⊢
        exact this
theorem bi_dict {new : Bool} (hc : X.calm = true) (hu : X.A.units + 100 < cLine) : CallR X (.type "dict") (rCall X.K fun vs st => bnd (ofOpt (biDict st vs)) (mk new) st) := by
  intro pins s σ H xs us Q I r h
  obtain ⟨W, σ', ρ, st, vs, rS, ra, p0⟩ := h
  obtain ⟨c, e, p⟩ := Post.opt p0
  clear p0
  unfold biDict at e
  split at e
  · obtain ⟨x, rfl, h1⟩ := repL_one ra
    cases h1 with
    | @loc _ a h =>
      unfold obDict at e
      split at e
      · rename_i eo
        cases e
        obtain ⟨u, e3, e4⟩ := rS.at_ _ a _ h eo
        cases e4 with
        | dK hk q => exact call_dictD pins s σ H _ us Q I r ⟨_, _, rfl, .inl e3, post_dK p rS hk q⟩
      · rename_i eo
        split at e
        · rename_i hp
          cases e
          obtain ⟨u, e3, e4⟩ := rS.at_ _ a _ h eo
          cases e4 with
          | dT hk q => exact call_dictT (by omega) pins s σ H _ us Q I r ⟨_, _, rfl, .inl e3, fun k hk' => padK_of (List.all_eq_true.mp hp k (hk ▸ hk')), post_dT p rS ⟨hk, q⟩⟩
        · cases e
      · cases e
  · cases e
    obtain ⟨x, rfl, h1⟩ := repL_one ra
    cases h1 with
    | dK t n q =>
      have d := DRel.zip q
      exact call_dictD pins s σ H _ us Q I r ⟨_, _, rfl, .inl t, post_dK p rS d.keys d.vals⟩
  · split at e
    · rename_i hp
      cases e
      obtain ⟨x, rfl, h1⟩ := repL_one ra
      cases h1 with
      | dT t n q => exact call_dictT (by omega) pins s σ H _ us Q I r ⟨_, _, rfl, .inl t, fun k hk' => padK_of (List.all_eq_true.mp hp k hk'), post_dT p rS (.zip q)⟩
    · cases e
  · obtain ⟨kvs, e1, rfl⟩ := Option.map_eq_some_iff.mp e
    obtain ⟨x, rfl, h1⟩ := repL_one ra
    cases h1 with
    | lst t n q =>
      obtain ⟨ps, kws, rfl, d, pr⟩ := pairs_rep q e1
      exact call_dictPT hc (by omega) pins s σ H _ us Q I r ⟨_, ps, kws, rfl, t, pr, post_dT p rS (mrg_rel .nil d)⟩
  · cases e
/-- dict(pairs), the keys tuples of tuples -/
theorem bi_dicN (hc : X.calm = true) (hu : X.A.units + 100 < cLine) : CallR X (.type "dict") (rCall X.K fun vs st => bnd (ofOpt (dicNs st vs)) ret st) := by
  intro pins s σ H xs us Q I r h
  obtain ⟨W, σ', ρ, st, vs, rS, ra, p0⟩ := h
  obtain ⟨c, e, p⟩ := Post.opt p0
  clear p0
  unfold dicNs at e
  split at e
  · obtain ⟨x, rfl, h1⟩ := repL_one ra
    unfold dicN at e
    obtain ⟨ys, e1, e2⟩ := Option.bind_eq_some_iff.mp e
    obtain ⟨ks, e3, rfl⟩ := Option.map_eq_some_iff.mp e2
    obtain ⟨a, ws, rfl, h2, h3⟩ := h1.lstOf rS e1
    obtain ⟨ps, rfl, h4⟩ := pairsN_rep h3 e3
    refine call_dictN hc hu pins s σ H _ us Q I r ⟨ρ, a, ps, ks, rfl, h2, fun p hp => rS.fresh hp, h4, fun b xs' hb hd hk => ?_⟩
    have z := rS.laid (o := .ext (DicN b xs')) hb
    have p' : Post X.K (Rep X.K) W σ' ρ H Q (.ok (.dN (ddN [] ks)) st) := p
    refine p' ρ _ _ z.2 z.1 ?_
    rw [← hk]
    exact .dN hd
  · cases e
theorem bi_str : CallR X (.type "str") (rCall X.K fun vs st => bnd (ofOpt (biStr vs)) ret st) := by
  intro pins s σ H xs us Q I r h
  obtain ⟨W, σ', ρ, st, vs, rS, ra, p0⟩ := h
  obtain ⟨c, e, p⟩ := Post.opt p0
  clear p0
  unfold biStr at e
  split at e
  · split at e
    · rename_i hz
      cases e
      obtain ⟨x, rfl, h1⟩ := repL_one ra
      cases h1
      exact call_str_int pins s σ H _ us Q I r ⟨_, rfl, of_decide_eq_true hz, Post.ret p rS (.str _)⟩
    · cases e
  · cases e
    obtain ⟨x, rfl, h1⟩ := repL_one ra
    cases h1
    exact SkE.call_str_str pins s σ H _ us Q I r ⟨_, rfl, Post.ret p rS (.str _)⟩
  · cases e
/-! ### isinstance -/
def kdName : Kd → String
  | .bool => "bool"
  | .int => "int"
  | .str => "str"
  | .tuple => "tuple"
  | .list => "list"
  | .dict => "dict"
theorem kit_kd {K : PySem.W.Frag} (q k : Kd) : PySem.W.kitOne K (.type (kdName q)) (.type (kdName k)) = some (decide (q = k) || (decide (q = .bool) && decide (k = .int))) := by
  apply kit_ty
  cases q <;> cases k <;> decide +kernel
theorem kit_non {K : PySem.W.Frag} (k : Kd) : PySem.W.kitOne K (.type "NoneType") (.type (kdName k)) = some false := by
  apply kit_ty
  cases k <;> decide +kernel
theorem kind_ty {K : PySem.W.Frag} {ρ : Pl} {st : Store} {H : Hp} {v : Val} {x : V} {q : Kd} (rS : RelS K ρ st H) (r : Rep K ρ H v x) (e : kindOf st v = some q) : TyX K H x (.type (kdName q)) := by
  cases r with
  | bl b => cases e; exact .base (.bl b)
  | int i => cases e; exact .base (.int i)
  | str s => cases e; exact .base (.str s)
  | tup t _ =>
    cases e
    exact .base (.tup t.1)
  | lst t n _ => cases e; exact .base (.lst t)
  | dK t n _ => cases e; exact .base (.dK t)
  | dT t n _ => cases e; exact .base (.dT t)
  | @loc l a h =>
    unfold kindOf at e
    dsimp only at e
    split at e
    · rename_i xs h1
      cases e
      obtain ⟨u, e1, e2⟩ := rS.at_ l a _ h h1
      cases e2
      exact .base (.lst e1)
    · rename_i xs h1
      cases e
      obtain ⟨u, e1, e2⟩ := rS.at_ l a _ h h1
      cases e2
      exact .base (.dK e1)
    · rename_i xs h1
      cases e
      obtain ⟨u, e1, e2⟩ := rS.at_ l a _ h h1
      cases e2
      exact .base (.dT e1)
    · cases e
  | _ => cases e
theorem isin_S {k : Kd} : CallR X (.builtin "isinstance") (fun xs H Q => ∃ x, xs = [x, .ty (kdName k)] ∧ rUn X.K (fun v st => bnd (ofOpt (isinOp st v k)) (fun b => ret (.bl b)) st) x H Q) := by
  intro pins s σ H xs us Q I r h
  obtain ⟨x, rfl, W, σ', ρ, st, v, rS, ra, p⟩ := h
  obtain ⟨c, e, q⟩ := post_optB p rS
  unfold isinOp at e
  split at e
  · cases e; cases ra
    exact call_isi pins s σ H _ us Q I r ⟨_, _, _, _, false, rfl, .ty _, .base .non, kit_non k, q⟩
  · obtain ⟨kd, e1, rfl⟩ := Option.map_eq_some_iff.mp e
    exact call_isi pins s σ H _ us Q I r ⟨_, _, _, _, _, rfl, .ty _, kind_ty rS ra e1, kit_kd kd k, q⟩
end

/-! ### tuple * int -/
section
open PySem.Spec PyProof.Rows
theorem tuple_mul1 (l : Addr) (items : Array Value) (n : Nat) (dd : Option Addr) (sl : Array (Option Value)) (x : Int) (u : Tok) (c0 : (decide (x < -(2 ^ 63)) || decide (x ≥ 2 ^ 63)) = false) (c1 : (items.isEmpty || x == 1) = true) :
    Meets (Builtin.«tuple.__mul__» ⟨[.ref l, .int x u], []⟩) (fun _ R s => s.heap.get? l = some { cls := .type "tuple", dict := dd, data := .seq items n, slots := sl } ∧
      R (.ok (.ret (Value.ref l))) s) :=
  .of_wp fun prog w A R s h => by
    obtain ⟨hp, g, d, tk, os⟩ := s
    obtain ⟨hl, h⟩ := h
    have f1 := AutoSeq1.idx_int
    wp_walk using wpAny_loadPart' hl
    repeat (first
      | (refine wpAny_ite_false (decide_eq_false (by rw [c0]; exact Bool.false_ne_true)) ?_; wp_walk using wpAny_loadPart' hl)
      | (refine wpAny_ite_true (decide_eq_true c1) ?_; wp_walk using wpAny_loadPart' hl))
    exact ⟨_, rfl, h⟩
theorem tuple_mul0 (l : Addr) (items : Array Value) (n : Nat) (dd : Option Addr) (sl : Array (Option Value)) (x : Int) (u : Tok) (c0 : (decide (x < -(2 ^ 63)) || decide (x ≥ 2 ^ 63)) = false) (c1 : (items.isEmpty || x == 1) = false) (c2 : (decide (x ≤ 0) || items.isEmpty) = true) :
    Meets (Builtin.«tuple.__mul__» ⟨[.ref l, .int x u], []⟩) (fun _ R s => s.heap.get? l = some { cls := .type "tuple", dict := dd, data := .seq items n, slots := sl } ∧
      R (.ok (.ret (Value.ref s.heap.objs.size))) { s with heap := s.heap.push { cls := Value.type "tuple", data := Data.seq #[] }, toks := s.toks }) :=
  .of_wp fun prog w A R s h => by
    obtain ⟨hp, g, d, tk, os⟩ := s
    obtain ⟨hl, h⟩ := h
    have f1 := AutoSeq1.idx_int
    wp_walk using wpAny_loadPart' hl
    repeat (first
      | (refine wpAny_ite_false (decide_eq_false (by rw [c0]; exact Bool.false_ne_true)) ?_; wp_walk using wpAny_loadPart' hl)
      | (refine wpAny_ite_false (decide_eq_false (by rw [c1]; exact Bool.false_ne_true)) ?_; wp_walk using wpAny_loadPart' hl)
      | (refine wpAny_ite_true (decide_eq_true c2) ?_; wp_walk using wpAny_loadPart' hl))
    exact ⟨_, rfl, h⟩

def rRepA (K : PySem.W.Frag) : R2 := fun x y H Q => ∃ l k xs, x = .ref l ∧ y = .int k ∧ SqT K H l xs ∧ 0 ≤ k ∧ k ≤ 1000 ∧ xs.length ≤ 1000 ∧
  (xs = [] ∨ k = 1 → Q (.ref l) H) ∧ (xs ≠ [] → k ≠ 1 → ∀ p, H p = none → Q (.ref p) (upd H p (.tup (List.replicate k.toNat xs).flatten)))
theorem op_repA {X : Cx} : OpR X (binaryOp .Mult) (rRepA X.K) := by
  intro pins s σ H x y v u Q I rx ry h
  obtain ⟨l, k, xs, rfl, rfl, hT, h0, h2, hz, q1, q2⟩ := h
  by_cases hk : 2 ≤ k ∧ xs ≠ []
  · exact op_repT pins s σ H _ _ v u Q I rx ry ⟨l, k, xs, rfl, rfl, hT, hk.2, hk.1, h2, hz, q2 hk.2 (by omega)⟩
  · cases rx
    obtain ⟨t, rfl⟩ := ry
    obtain ⟨its, r, ⟨⟨cls, dd, data, sl⟩, ho, hc, n, hd⟩, hs⟩ := I.tuple hT
    simp only at hc hd
    subst hc hd
    have hle : its.length = xs.length := r.length.symm
    have c0 : (decide (k < -(2 ^ 63)) || decide (k ≥ 2 ^ 63)) = false := by
      rw [decide_eq_false (by omega), decide_eq_false (by omega)] <;> rfl
    by_cases h1 : xs = [] ∨ k = 1
    · have c1 : (its.toArray.isEmpty || k == 1) = true := by
        rcases h1 with h1 | h1
        · subst h1
          have : its = [] := List.eq_nil_of_length_eq_zero hle
          subst this
          rfl
        · subst h1; simp
      refine wpAny_binaryOp_repeat_ref (T := "tuple") (U := "int") (by decide) ⟨_, ho, rfl⟩ (fun s' => typeIs_int s' k t) noFill_tuple_mul PySem.F.fills_int_mul PySem.F.slot_int_rmul repeat_tuple PySem.F.slot_int_index.lookup
        (call_meets PySem.F.slot_int_rmul (typeIs_int s k t) PySem.F.entry_int_rmul (PySem.F.args_int_rmul_2 _ _) (int_rmul_tuple k t l its.toArray n dd sl)
          ⟨ho, rfl, ⟨_, ho, rfl⟩, call_meets PySem.F.slot_tuple_mul ⟨_, ho, rfl⟩ PySem.F.entry_tuple_mul (PySem.F.args_tuple_mul_2 _ _) (tuple_mul1 l its.toArray n dd sl k t c0 c1) ⟨ho, ?_⟩⟩)
      exact ⟨.ref l, H, I, rfl, q1 h1⟩
    · have hx : xs ≠ [] := fun e => h1 (.inl e)
      have hk1 : k ≠ 1 := fun e => h1 (.inr e)
      have hk0 : k = 0 := by
        by_cases h2 : 2 ≤ k
        · exact absurd ⟨h2, hx⟩ hk
        · omega
      subst hk0
      have hi : its.toArray.isEmpty = false := by
        cases its with
        | nil => exact absurd (List.eq_nil_of_length_eq_zero hle.symm) hx
        | cons a b => rfl
      have c1 : (its.toArray.isEmpty || (0 : Int) == 1) = false := by rw [hi]; rfl
      have c2 : (decide ((0 : Int) ≤ 0) || its.toArray.isEmpty) = true := by rw [decide_eq_true (Int.le_refl _)]; rfl
      refine wpAny_binaryOp_repeat_ref (T := "tuple") (U := "int") (by decide) ⟨_, ho, rfl⟩ (fun s' => typeIs_int s' 0 t) noFill_tuple_mul PySem.F.fills_int_mul PySem.F.slot_int_rmul repeat_tuple PySem.F.slot_int_index.lookup
        (call_meets PySem.F.slot_int_rmul (typeIs_int s 0 t) PySem.F.entry_int_rmul (PySem.F.args_int_rmul_2 _ _) (int_rmul_tuple 0 t l its.toArray n dd sl)
          ⟨ho, rfl, ⟨_, ho, rfl⟩, call_meets PySem.F.slot_tuple_mul ⟨_, ho, rfl⟩ PySem.F.entry_tuple_mul (PySem.F.args_tuple_mul_2 _ _) (tuple_mul0 l its.toArray n dd sl 0 t c0 c1 c2) ⟨ho, ?_⟩⟩)
      refine ⟨.ref s.heap.objs.size, _, I.laid (t' := s.toks) (o := .tup []) (fun b ob q => Heap.get?_push_of_some _ q) (Nat.le_refl _) ?_, rfl, q2 hx hk1 _ (I.hok.fresh (Nat.le_refl _))⟩
      exact ⟨Nat.zero_le _, [], .nil, IsTup.new _ _⟩
end
theorem op_mul_S0 {X : Cx} {new : Bool} : OpR X (binaryOp .Mult) (rOp X.K fun v w st => bnd (ofOpt ((opMul v w).map Pv.v)) (mk new) st) := by
  intro pins s σ H x y v u Q I rx ry h
  obtain ⟨W, σ', ρ, st, a, b, rS, ra, rb, p0⟩ := h
  obtain ⟨pv, e, p⟩ := post_map p0
  clear p0
  unfold opMul at e
  split at e
  · split at e
    · rename_i hz
      cases e; cases ra; cases rb
      refine op_mul pins s σ H _ _ v u Q I rx ry ⟨_, _, rfl, rfl, ?_, Post.ret p rS (.int _)⟩
      unfold mulOk at hz
      rcases Bool.or_eq_true_iff.mp hz with hz | hz
      · have := Bool.and_eq_true_iff.mp hz
        exact .inl ⟨of_decide_eq_true this.1, of_decide_eq_true this.2⟩
      · have := Bool.and_eq_true_iff.mp hz
        exact .inr ⟨of_decide_eq_true this.1, of_decide_eq_true this.2⟩
    · cases e
  · split at e
    · rename_i xs k hz
      cases e; cases rb
      simp only [Bool.and_eq_true] at hz
      have z1 := of_decide_eq_true hz.1.1
      have z2 := of_decide_eq_true hz.1.2
      have z3 : xs.length ≤ 1000 := of_decide_eq_true hz.2
      cases ra with
      | @tup a1 ws vs ta qa =>
        have hl := qa.length
        refine op_repA pins s σ H _ _ v u Q I rx ry ⟨a1, k, ws, rfl, rfl, ta.sq, z1, z2, by omega, fun h => ?_, fun _ _ => post_t p rS (qa.rep _)⟩
        have e : (List.replicate k.toNat xs).flatten = xs := by
          rcases h with h | h
          · subst h
            have : xs = [] := List.eq_nil_of_length_eq_zero hl
            subst this
            simp
          · subst h; simp
        rw [e] at p
        exact Post.ret p rS (.tup ta qa)
    · cases e
  · cases e
theorem op_mul_S {X : Cx} {new : Bool} : OpR X (binaryOp .Mult) (rOp X.K fun v w st => bnd (ofOpt (opMulL st v w)) (mk new) st) := by
  intro pins s σ H x y v u Q I rx ry h
  obtain ⟨W, σ', ρ, st, a, b, rS, ra, rb, p0⟩ := h
  have rep : ∀ (xs : List Val) (k : Int), lstOf st a = some xs → b = .int k → Post X.K (Rep X.K) W σ' ρ H Q (bnd (ofOpt (repL xs k)) (mk new) st) → rRep x y H Q := by
    intro xs k e1 eb p1
    subst eb
    obtain ⟨pv, e, p⟩ := Post.opt p1
    unfold repL at e
    split at e
    · rename_i hz
      cases e
      simp only [Bool.and_eq_true] at hz
      have z1 := of_decide_eq_true hz.1.1
      have z2 := of_decide_eq_true hz.1.2
      have z3 : xs.length ≤ 1000 := of_decide_eq_true hz.2
      obtain ⟨a1, ws, rfl, h1, q1⟩ := ra.lstOf rS e1
      cases rb
      have l1 := q1.length
      refine ⟨a1, k, ws, rfl, rfl, h1, by omega, by omega, ?_, post_l p rS (q1.rep _)⟩
      have : ws.length * k.toNat ≤ 1000 * 1000 := Nat.mul_le_mul (by omega) (by omega)
      have hs : (1000 * 1000 : Nat) ≤ sizeLine := by decide
      omega
    · cases e
  have p9 : Post X.K (Rep X.K) W σ' ρ H Q (bnd (ofOpt (opMulL st a b)) (mk new) st) := p0
  clear p0
  unfold opMulL at p9
  split at p9
  · exact op_rep pins s σ H _ _ v u Q I rx ry (rep _ _ rfl rfl p9)
  · rename_i l k
    cases hl : lstOf st (.loc l) with
    | none => rw [hl] at p9; exact p9.elim
    | some xs =>
      rw [hl] at p9
      exact op_rep pins s σ H _ _ v u Q I rx ry (rep xs k hl rfl p9)
  · exact op_mul_S0 pins s σ H x y v u Q I rx ry ⟨W, σ', ρ, st, _, _, rS, ra, rb, p9⟩
end Rc
namespace Rc
open PySem L2 PyProof.Rows HT
/-! ### the turned tuple, the turned list -/
section
variable {prog : Program} {w : World} {A : Around} {E : Value → Shared → Prop} {s : Shared}
theorem adjust_rev (n : Nat) : Builtin.Slice.sliceAdjust none none (-1) (n : Int) = ((n : Int) - 1, -1) := by
  unfold Builtin.Slice.sliceAdjust
  simp
theorem places_rev (n : Nat) : Builtin.Slice.slicePlaces ((n : Int) - 1) (-1) (-1) = n := by
  unfold Builtin.Slice.slicePlaces
  simp
  omega
theorem applied_rev {sl : Addr} {vs : Value} {n : Nat} {Q : Int × Int × Nat → Shared → Prop} (hs : s.heap.IsSliceOf sl .none .none vs) (ps : IsPart vs (some (-1)))
    (h : Q ((n : Int) - 1, -1, n) s) : wpAny (model prog w) A (Builtin.Slice.sliceApplied (.ref sl) (pure (n : Int))) Q E s := by
  obtain ⟨os, hos, hcs, hds⟩ := id hs
  unfold Builtin.Slice.sliceApplied Builtin.Slice.sliceFields
  refine wpAny_bind (wpAny_bind (wpAny_field hos hds (x := .none) rfl (wpAny_bind (wpAny_field hos hds (x := .none) rfl (wpAny_bind (wpAny_field hos hds (x := vs) rfl (wpAny_pure ?_)))))))
  refine wpAny_bind (slicePart_ ps ?_)
  show wpAny _ _ (if ((-1 : Int) == 0) = true then _ else _) _ _ s
  rw [if_neg (by decide)]
  refine wpAny_bind (slicePart_none (wpAny_bind (slicePart_none (wpAny_bind (wpAny_pure ?_)))))
  show wpAny _ _ (match Builtin.Slice.sliceAdjust none none (-1) (n : Int) with | (lo, hi) => pure (lo, (-1 : Int), Builtin.Slice.slicePlaces lo hi (-1))) _ _ s
  rw [adjust_rev n]
  show wpAny _ _ (pure ((n : Int) - 1, (-1 : Int), Builtin.Slice.slicePlaces ((n : Int) - 1) (-1) (-1))) _ _ s
  rw [places_rev]
  exact wpAny_pure h
theorem pick_rev (xs : Array Value) : ((List.range xs.size).filterMap fun (m : Nat) => xs[(((xs.size : Int) - 1) + (m : Int) * (-1)).toNat]?).toArray = xs.toList.reverse.toArray := by
  have e : (fun (m : Nat) => xs[(((xs.size : Int) - 1) + (m : Int) * (-1)).toNat]?) = (fun x => xs[x]?) ∘ fun m => xs.size - 1 - m := by
    funext m
    have : (((xs.size : Int) - 1) + (m : Int) * (-1)).toNat = xs.size - 1 - m := by omega
    rw [this]
    rfl
  rw [e, ← List.filterMap_map, PySem.W.krv_range, List.filterMap_reverse, PySem.W.krv_all]
theorem getItem_tup_rev {t sl : Addr} {items : Array Value} {vs : Value} {Q : Value → Shared → Prop} (ht : IsTup s.heap t items) (hs : s.heap.IsSliceOf sl .none .none vs) (ps : IsPart vs (some (-1)))
    (h : Q (.ref s.heap.objs.size) { s with heap := s.heap.push { cls := .type "tuple", data := .seq items.toList.reverse.toArray } })
    (hsz : items.size ≤ sizeLine) : wpAny (model prog w) A (getItem (.ref t) (.ref sl)) Q E s := by
  have htake : sizeOk (.seq items.toList.reverse.toArray) := by
    show items.toList.reverse.toArray.size ≤ sizeLine
    rw [List.size_toArray, List.length_reverse, Array.length_toList]
    exact hsz
  obtain ⟨os, hos, hcs, hds⟩ := id hs
  have hTs : s.TypeIs (.ref sl) "slice" := ⟨os, hos, hcs⟩
  unfold getItem
  try with_reducible refine wpAny_holding ?_
  first | refine wpAny_bind (wpAny_pure ?_) | skip
  refine wpAny_bind (wpAny_sequenceKey ht.typeIs (by decide) ?_)
  refine wpAny_bind (wpAny_callSpecial?_slot (name := Str.ofString "__getitem__") ht.typeIs PyProof.Rows.slot_tuple_getitem
    (wpAny_call_entry PyProof.Rows.slot_tuple_getitem ht.typeIs entry_tuple_getitem ?_ (args_tuple_getitem _ _)))
  show wpAny _ _ (Builtin.Tuple.tupleItemsOf (.ref t) >>= _) _ _ s
  refine wpAny_bind (tupleItemsOf_ ht ?_)
  refine wpAny_bind (wpAny_typeOf hTs ?_)
  rw [if_pos (by decide)]
  refine wpAny_bind (applied_rev hs ps ?_)
  have hno : ¬ ((((items.size : Int) - 1) == 0 && (-1 : Int) == 1 && items.size == items.size) = true) := by
    intro q
    rw [Bool.and_eq_true, Bool.and_eq_true] at q
    exact absurd q.1.2 (by decide)
  show wpAny _ _ (if (((items.size : Int) - 1) == 0 && (-1 : Int) == 1 && items.size == items.size) = true then _ else _) _ _ s
  rw [if_neg hno, pick_rev]
  first
    | exact wpAny_bind (m := Builtin.Tuple.tupleExact _) (wpAny_newObj_type (wpAny_pure ⟨_, rfl, wpAny_pure h⟩) htake)
    | exact wpAny_bind (m := Builtin.Tuple.tupleExact _) (wpAny_newObj_type (wpAny_bind (wpAny_pure (wpAny_pure ⟨_, rfl, wpAny_pure h⟩))) htake)
    | exact wpAny_bind (wpAny_bind (m := Builtin.Tuple.tupleExact _) (wpAny_newObj_type (wpAny_pure (wpAny_pure ⟨_, rfl, wpAny_pure h⟩)) htake))
    | exact wpAny_bind (wpAny_bind (m := Builtin.Tuple.tupleExact _) (wpAny_newObj_type (wpAny_pure ⟨_, rfl, wpAny_pure h⟩) htake))
end
section
variable {X : Cx}
def tRev (K : PySem.W.Frag) (te : TE) : TE := fun σ H Q => te σ H fun x H1 => ∃ a xs, x = .ref a ∧ ((SqL K H1 a xs ∧ ∀ p, H1 p = none → Q (.ref p) (upd H1 p (.lst xs.reverse))) ∨ (SqT K H1 a xs ∧ ∀ p, H1 p = none → Q (.ref p) (upd H1 p (.tup xs.reverse))))
theorem pe_rev {e : Expr} {te : TE} {k : Nat} {p1 p2 p3 pos : Pos} (he : PE X e te) : PE X (.Subscript e (.Slice none none (some (.UnaryOp .USub (.Constant (.int 1) k p1) p2)) p3) pos) (tRev X.K te) := by
  refine ⟨fun pins s σ H Q I h => ?_⟩
  refine Subscript_ (thn (he.run pins s σ H _ I h) fun v s1 ⟨x, H1, I1, r1, q1⟩ => ?_)
  obtain ⟨a, xs, ex, hx⟩ := q1
  subst ex
  cases r1
  have hst : PO X (some (.UnaryOp .USub (.Constant (.int 1) k p1) p2)) (tPart (tUn (rU fun i => .int (-i)) (tC (.int 1)))) := po_some (pe_un un_neg pe_int)
  refine wpAny_Slice (thn (po_none.run pins s1 σ H1 (fun o H2 => o = none ∧ H2 = H1) I1 ⟨rfl, rfl⟩) fun vl s2 ⟨l, H2, I2, pl, el, e2⟩ => ?_)
  subst el e2
  refine thn (po_none.run pins s2 σ H2 (fun o H3 => o = none ∧ H3 = H2) I2 ⟨rfl, rfl⟩) fun vu s3 ⟨u, H3, I3, pu, eu, e3⟩ => ?_
  subst eu e3
  refine thn (hst.run pins s3 σ H3 (fun o H4 => o = some (-1) ∧ H4 = H3) I3 ⟨1, rfl, -1, rfl, rfl, rfl⟩) fun vs s4 ⟨o, H4, I4, ps, eo, e4⟩ => ?_
  subst eo e4
  have I5 : Inv X pins σ H4 { s4 with heap := s4.heap.push { cls := .type "slice", data := .fields #[vl, vu, vs] } } := I4.kept (t' := s4.toks) fun b ob q => Heap.get?_push_of_some _ q
  show wpAny (model X.prog X.w) X.A (subscriptTail e (.Slice none none (some (.UnaryOp .USub (.Constant (.int 1) k p1) p2)) p3) (.ref a) (.ref s4.heap.objs.size)) (EP X pins σ Q) X.xe { s4 with heap := s4.heap.push { cls := .type "slice", data := .fields #[vl, vu, vs] } }
  rcases hx with ⟨hx, q⟩ | ⟨hx, q⟩
  · obtain ⟨its, r, ht, hz⟩ := I5.list hx
    have hlen := r.length
    refine tail_any (ops := [.ref a, .ref s4.heap.objs.size]) ht.isList.typeIs (PySem.slot_list_getitem.lookup) ?_ (by with_unfolding_all rfl)
    refine wpAny_getItem_list_slice ht.isList (Heap.IsSliceOf.new _ vl vu vs) pl pu ps (by decide) ?_ (by rw [List.size_toArray]; omega)
    rw [PySem.W.krv_pick]
    refine ⟨.ref _, _, I5.laid (t' := s4.toks) (o := .lst xs.reverse) (fun b ob q => Heap.get?_push_of_some _ q) (Nat.le_refl _) ?_, rfl, q _ (I5.hok.fresh (Nat.le_refl _))⟩
    exact ⟨by rw [List.length_reverse]; exact hz, _, 0, r.reverse, Heap.get?_push_size _ rfl⟩
  · obtain ⟨its, r, ht, hz⟩ := I5.tuple hx
    have hlen := r.length
    cases pl
    cases pu
    refine tail_any (ops := [.ref a, .ref s4.heap.objs.size]) ht.typeIs (PyProof.Rows.slot_tuple_getitem.lookup) ?_ (by with_unfolding_all rfl)
    refine getItem_tup_rev ht (Heap.IsSliceOf.new _ _ _ vs) ps ?_ (by rw [List.size_toArray]; omega)
    refine ⟨.ref _, _, I5.laid (t' := s4.toks) (o := .tup xs.reverse) (fun b ob q => Heap.get?_push_of_some _ q) (Nat.le_refl _) ?_, rfl, q _ (I5.hok.fresh (Nat.le_refl _))⟩
    exact ⟨by rw [List.length_reverse]; exact hz, _, r.reverse, IsTup.new _ _⟩
end
/-! ### methods -/
section
variable {X : Cx}
def mtName : Mt → String
  | .append => "append"
  | .extend => "extend"
  | .pop => "pop"
  | .clear => "clear"
  | .insert => "insert"
  | .join => "join"
  | .split => "split"
  | .sindex => "index"
  | .spart => "partition"
  | .dget => "get"
  | .dpop => "pop"
  | .lindex => "index"
def mtTy (m : Mt) : String := if mtIsStr m = true then "str" else if mtIsDic m = true then "dict" else "list"
def mtId : Mt → String
  | .append => "list.append"
  | .extend => "list.extend"
  | .pop => "list.pop"
  | .clear => "list.clear"
  | .insert => "list.insert"
  | .join => "str.join"
  | .split => "str.split"
  | .sindex => "str.index"
  | .spart => "str.partition"
  | .dget => "dict.get"
  | .dpop => "dict.pop"
  | .lindex => "list.index"
def rMt (K : PySem.W.Frag) (g : Val → List Val → M Val) : V → List V → Hp → VK → Prop := fun x xs H Q => ∃ (W : WX) (σ : L2.St) (ρ : Pl) (st : Store) (v : Val) (vs : List Val), RelS K ρ st H ∧ Rep K ρ H v x ∧ RepL K ρ H vs xs ∧ Post K (Rep K) W σ ρ H Q (g v vs st)
theorem RepL.dropLast {K : PySem.W.Frag} {ρ : Pl} {H : Hp} {vs : List Val} {ws : List V} (r : RepL K ρ H vs ws) : RepL K ρ H vs.dropLast ws.dropLast := by
  rw [List.dropLast_eq_take, List.dropLast_eq_take, r.length]
  exact r.take _
theorem RepL.eraseIdx {K : PySem.W.Frag} {ρ : Pl} {H : Hp} : ∀ {vs : List Val} {ws : List V} (k : Nat), RepL K ρ H vs ws → RepL K ρ H (vs.eraseIdx k) (ws.eraseIdx k)
  | _, _, _, .nil => .nil
  | _, _, 0, .cons _ r => r
  | _, _, k + 1, .cons h r => .cons h (r.eraseIdx k)
theorem mapO_strs {K : PySem.W.Frag} {ρ : Pl} {H : Hp} : ∀ {vs : List Val} {ws : List V} {ys : List Str}, RepL K ρ H vs ws → mapO toStr vs = some ys → ws = ys.map V.str
  | _, _, _, .nil, e => by cases e; rfl
  | _, _, _, .cons r q, e => by
    unfold mapO at e
    obtain ⟨d, e1, e2⟩ := Option.bind_eq_some_iff.mp e
    obtain ⟨ds, e3, rfl⟩ := Option.map_eq_some_iff.mp e2
    cases r <;> cases e1
    rw [mapO_strs q e3]; rfl
theorem repL_strs {K : PySem.W.Frag} {ρ : Pl} {H : Hp} : ∀ ys : List Str, RepL K ρ H (ys.map .str) (ys.map V.str)
  | [] => .nil
  | y :: ys => .cons (.str y) (repL_strs ys)
theorem repL_nil {K : PySem.W.Frag} {ρ : Pl} {H : Hp} {xs : List V} (r : RepL K ρ H [] xs) : xs = [] := by
  cases r
  rfl
/-- a list's change, as the heap has it -/
def rWr (m : Mt) : V → List V → Hp → VK → Prop := match m with
  | .append => rAppend
  | .extend => rExtend
  | .pop => fun x xs H Q => rPop x xs H Q ∨ rPopAt x xs H Q
  | .clear => rClear
  | .insert => fun x vs H Q => ∃ (l : Addr) (xs : List V) (i : Int) (y : V), x = .ref l ∧ vs = [.int i, y] ∧ H l = some (.lst xs) ∧ xs.length < sizeLine ∧ 0 ≤ i ∧ i < 2 ^ 63 ∧ Q .non (upd H l (.lst (xs.take i.toNat ++ [y] ++ xs.drop i.toNat)))
  | _ => fun _ _ _ _ => False
theorem wr_ok {m : Mt} : MtR X (mtId m) (rWr m) := by
  cases m with
  | append => exact mt_append
  | extend => exact mt_extend
  | pop => exact fun pins s σ H x xs v us Q I rx rv h => h.elim (mt_pop pins s σ H x xs v us Q I rx rv) (mt_popAt pins s σ H x xs v us Q I rx rv)
  | clear => exact mt_clear
  | insert => exact mt_insert
  | join => exact fun pins s σ H x xs v us Q I rx rv h => h.elim
  | split => exact fun pins s σ H x xs v us Q I rx rv h => h.elim
  | sindex => exact fun pins s σ H x xs v us Q I rx rv h => h.elim
  | spart => exact fun pins s σ H x xs v us Q I rx rv h => h.elim
  | dget => exact fun pins s σ H x xs v us Q I rx rv h => h.elim
  | dpop => exact fun pins s σ H x xs v us Q I rx rv h => h.elim
  | lindex => exact fun pins s σ H x xs v us Q I rx rv h => h.elim
theorem wr_S {m : Mt} {K : PySem.W.Frag} {ρ : Pl} {st : Store} {H : Hp} {W : WX} {σ : L2.St} {Q : VK} {l : Nat} {x : V} {vs : List Val} {xs : List V} (rS : RelS K ρ st H) (r1 : Rep K ρ H (.loc l) x) (r2 : RepL K ρ H vs xs) (p : Post K (Rep K) W σ ρ H Q (wrLst m l vs st)) : rWr m x xs H Q := by
  unfold wrLst at p
  cases hob : obLst st[l]? with
  | none => rw [hob] at p; exact p.elim
  | some zs =>
    rw [hob] at p
    dsimp only at p
    have hl : st[l]? = some (.lst zs) := by
      unfold obLst at hob
      split at hob
      · cases hob; assumption
      · cases hob
    cases r1 with
    | @loc _ a h =>
      obtain ⟨u0, e1, e2⟩ := rS.at_ _ a _ h hl
      cases e2 with
      | @lst _ ws qw =>
        cases hm : mtLst st m vs zs with
        | none => rw [hm] at p; exact p.elim
        | some q =>
          obtain ⟨r, ys⟩ := q
          rw [hm] at p
          dsimp only at p
          by_cases hz : szOk ys.length = true
          · rw [if_pos hz] at p
            have hz' : ys.length ≤ sizeLine := of_decide_eq_true hz
            have key : ∀ (r' : V) (ys' : List V), Rep K ρ H r r' → RepL K ρ H ys ys' → Q r' (upd H a (.lst ys')) := by
              intro r' ys' hr hy
              have x0 : Ext0 ρ H ρ (upd H a (.lst ys')) := .wrote (.inl (List.mem_of_getElem? h))
              have z := rS.wrote (o := .lst ys) h (.lst (hy.ext0 x0))
              exact p ρ r' _ z.2 z.1 (hr.ext0 x0)
            have hlen := qw.length
            cases m with
            | append =>
              unfold mtLst at hm
              dsimp only at hm
              split at hm
              · cases hm
                obtain ⟨w, rfl, rw1⟩ := repL_one r2
                rw [List.length_append, List.length_singleton] at hz'
                exact ⟨a, ws, w, rfl, rfl, e1, by omega, key _ _ .non (qw.append (.cons rw1 .nil))⟩
              · cases hm
            | extend =>
              unfold mtLst at hm
              dsimp only at hm
              split at hm
              · obtain ⟨us, e5, e6⟩ := Option.map_eq_some_iff.mp hm
                cases e6
                obtain ⟨w, rfl, rw1⟩ := repL_one r2
                obtain ⟨b, us', rfl, h2, h3⟩ := rw1.lstOf rS e5
                have hl3 := h3.length
                rw [List.length_append] at hz'
                exact ⟨a, b, ws, us', rfl, rfl, e1, h2, by omega, key _ _ .non (qw.append h3)⟩
              · cases hm
            | pop =>
              unfold mtLst at hm
              dsimp only at hm
              split at hm
              · obtain ⟨y, e5, e6⟩ := Option.map_eq_some_iff.mp hm
                cases e6
                have := repL_nil r2
                subst this
                obtain ⟨y', e7, ry⟩ := qw.get e5
                rw [hlen] at e7
                exact .inl ⟨a, ws, y', rfl, rfl, e1, e7, key _ _ ry qw.dropLast⟩
              · obtain ⟨k, e5, e6⟩ := Option.bind_eq_some_iff.mp hm
                split at e6
                · rename_i i hc
                  obtain ⟨y, e7, e8⟩ := Option.map_eq_some_iff.mp e6
                  cases e8
                  obtain ⟨w, rfl, rw1⟩ := repL_one r2
                  cases rw1
                  obtain ⟨y', e9, ry⟩ := qw.get e7
                  rw [hlen] at e5
                  rw [Bool.and_eq_true] at hc
                  exact .inr ⟨a, ws, i, k, y', rfl, rfl, e1, of_decide_eq_true hc.1, of_decide_eq_true hc.2, e5, e9, key _ _ ry (qw.eraseIdx k)⟩
                · cases e6
              · cases hm
            | clear =>
              unfold mtLst at hm
              dsimp only at hm
              split at hm
              · cases hm
                have := repL_nil r2
                subst this
                exact ⟨a, ws, rfl, rfl, e1, key _ _ .non .nil⟩
              · cases hm
            | insert =>
              unfold mtLst at hm
              dsimp only at hm
              split at hm
              · split at hm
                · rename_i i y hc
                  cases hm
                  obtain ⟨w1, w2, rfl, rw1, rw2⟩ := repL_two r2
                  cases rw1
                  rw [Bool.and_eq_true] at hc
                  have h0 := of_decide_eq_true hc.1
                  have h1 := of_decide_eq_true hc.2
                  simp only [List.length_append, List.length_take, List.length_drop, List.length_singleton] at hz'
                  exact ⟨a, ws, i, w2, rfl, rfl, e1, by omega, h0, h1, key _ _ .non (((qw.take _).append (.cons rw2 .nil)).append (qw.drop _))⟩
                · cases hm
              · cases hm
            | join => cases hm
            | split => cases hm
            | sindex => cases hm
            | spart => cases hm
            | dget => cases hm
            | dpop => cases hm
            | lindex => cases hm
          · rw [if_neg hz] at p
            exact p.elim
theorem mt_S0 {m : Mt} {new : Bool} (hm : mtIsDic m = false) (hi : m ≠ .lindex) : MtR X (mtId m) (rMt X.K (mtOp new m)) := by
  intro pins s σ H x xs v us Q I rx rv h
  obtain ⟨W, σ', ρ, st, a, vs, rS, r1, r2, p0⟩ := h
  have p : Post X.K (Rep X.K) W σ' ρ H Q ((match a with
    | .loc l => wrLst m l vs
    | .str a => mtStr new m a vs
    | _ => stuck) st) := by
    cases m <;> first | exact absurd rfl hi | exact p0 | (cases hm; done)
  clear p0
  split at p
  · exact wr_ok pins s σ H x xs v us Q I rx rv (wr_S rS r1 r2 p)
  · cases r1
    cases m with
    | join =>
      unfold mtStr at p
      dsimp only at p
      split at p
      · obtain ⟨z, e, p1⟩ := Post.opt p
        unfold joinOp at e
        obtain ⟨ws, e1, e2⟩ := Option.bind_eq_some_iff.mp e
        obtain ⟨ys, e3, e4⟩ := Option.bind_eq_some_iff.mp e2
        split at e4
        · rename_i hz
          cases e4
          obtain ⟨w, rfl, rw1⟩ := repL_one r2
          obtain ⟨b, us', rfl, h2, h3⟩ := rw1.seqOf rS e1
          have := mapO_strs h3 e3
          subst this
          exact mt_join pins s σ H _ _ v us Q I rx rv ⟨_, b, ys, rfl, rfl, h2, hz, Post.ret p1 rS (.str _)⟩
        · cases e4
      · exact p.elim
    | split =>
      unfold mtStr at p
      dsimp only at p
      split at p
      · split at p
        · rename_i b hz
          obtain ⟨w, rfl, rw1⟩ := repL_one r2
          cases rw1
          rw [Bool.and_eq_true, Bool.not_eq_true'] at hz
          exact mt_split pins s σ H _ _ v us Q I rx rv ⟨_, b, rfl, rfl, hz.1, of_decide_eq_true hz.2, post_l p rS (repL_strs _)⟩
        · exact p.elim
      · exact p.elim
    | spart =>
      unfold mtStr at p
      dsimp only at p
      split at p
      · split at p
        · rename_i b hz
          obtain ⟨w, rfl, rw1⟩ := repL_one r2
          cases rw1
          rw [Bool.and_eq_true, Bool.not_eq_true'] at hz
          exact mt_partition pins s σ H _ _ v us Q I rx rv ⟨_, b, rfl, rfl, hz.1, of_decide_eq_true hz.2, post_t p rS (.cons (.str _) (.cons (.str _) (.cons (.str _) .nil)))⟩
        · exact p.elim
      · exact p.elim
    | sindex =>
      unfold mtStr at p
      dsimp only at p
      split at p
      · rename_i b
        cases hz : Builtin.Str.occurrences _ b 0 _ 1 with
        | nil => rw [hz] at p; exact p.elim
        | cons i rest =>
          rw [hz] at p
          obtain ⟨w, rfl, rw1⟩ := repL_one r2
          cases rw1
          exact mt_sindex pins s σ H _ _ v us Q I rx rv ⟨_, b, i, rest, rfl, rfl, hz, Post.ret p rS (.int _)⟩
      · exact p.elim
    | append => exact p.elim
    | extend => exact p.elim
    | pop => exact p.elim
    | clear => exact p.elim
    | insert => exact p.elim
    | dget => cases hm
    | dpop => cases hm
    | lindex => exact absurd rfl hi
  · exact p.elim
theorem idx_at {α : Type} {p : α → Bool} {l : List α} {j : Nat} (h : l.findIdx? p = some j) : ∃ z, l[j]? = some z ∧ p z = true ∧ ∀ m z', m < j → l[m]? = some z' → p z' = false := by
  obtain ⟨hj, h1, h2⟩ := List.findIdx?_eq_some_iff_getElem.mp h
  refine ⟨l[j], List.getElem?_eq_getElem hj, h1, fun m z' hm e => ?_⟩
  have e2 := h2 m hm
  obtain ⟨hl, e3⟩ := List.getElem?_eq_some_iff.mp e
  rw [e3] at e2
  simpa using e2
theorem idx_S {K : PySem.W.Frag} {ρ : Pl} {st : Store} {H : Hp} (rS : RelS K ρ st H) {v y : Val} {w : V} {xs : List Val} {ws : List V} {a : Addr} {j : Nat} {Q : VK} (ry : Rep K ρ H y w) (ha : H a = some (.lst ws)) (q : RepL K ρ H xs ws) (e : idxOp st v y xs = some j) (hQ : Q (.int (j : Nat)) H) : rIndex K (.ref a) [w] H Q ∨ rIndexD K (.ref a) [w] H Q := by
  unfold idxOp at e
  split at e
  · rename_i hf
    rw [Bool.and_eq_true] at hf
    obtain ⟨z, h1, h2, h3⟩ := idx_at e
    obtain ⟨u, hu, ru⟩ := q.get h1
    have fz : ∀ {m : Nat} {z : Val}, xs[m]? = some z → flat z = true := fun h => List.all_eq_true.mp hf.2 _ (List.mem_of_getElem? h)
    refine .inl ⟨a, ws, w, j, u, rfl, rfl, .of ha, flat_of ry hf.1, flat_all q hf.2, hu, ?_, fun m z' hm hz => ?_, hQ⟩
    · rw [← eqF_of ru ry (fz h1) hf.1]; exact h2
    · obtain ⟨z2, hz2, rz2⟩ := q.getB hz
      rw [← eqF_of rz2 ry (fz hz2) hf.1]
      exact h3 m z2 hm hz2
  · split at e
    · obtain ⟨d, e1, e2⟩ := Option.bind_eq_some_iff.mp e
      obtain ⟨ds, e3, e4⟩ := Option.bind_eq_some_iff.mp e2
      obtain ⟨a1, a2, a3⟩ := ry.dp rS _ e1
      obtain ⟨b1, b2, b3⟩ := mapO_dp (fun r e => Rep.dp rS _ r e) q e3
      obtain ⟨z, h1, h2, h3⟩ := idx_at e4
      exact .inr ⟨a, w, d, ds, j, z, rfl, rfl, .lst (.of ha) b1, a1, shaped_of (d := .list ds) b2 (Nat.succ_le_succ b3) (by decide), shaped_of a2 a3 (by decide), h1, h2, h3, hQ⟩
    · cases e
theorem obGet_of {K : PySem.W.Frag} {ρ : Pl} {H : Hp} {a : Addr} {o : Ob} {u : HO} {vs : List Val} {xs : List V} {c : Val} (e1 : H a = some u) (e2 : RelOb K ρ H a o u) (r : RepL K ρ H vs xs) (e : obGet vs (some o) = some c) : ∃ y d ov, xs = [y, d] ∧ DGet H a y ov ∧ Rep K ρ H c (ov.getD d) := by
  cases e2 with
  | lst _ => cases e
  | ins _ _ _ _ _ => cases e
  | @dK kvs kws hk q =>
    unfold obGet at e
    dsimp only at e
    split at e
    · obtain ⟨k, e3, e4⟩ := Option.map_eq_some_iff.mp e
      obtain ⟨x1, x2, rfl, r1, r2⟩ := repL_two r
      have := keyOf_rep r1 e3
      subst this
      refine ⟨_, _, valV kws k, rfl, DGet.k e1, ?_⟩
      rw [← e4]
      rcases (DRel.mk hk q).look k with ⟨h1, h2⟩ | ⟨v', w', h1, h2, r'⟩
      · rw [h1, h2]; exact r2
      · rw [h1, h2]; exact r'
    · cases e
  | @dT kvs kws hk q =>
    unfold obGet at e
    dsimp only at e
    split at e
    · obtain ⟨k, e3, e4⟩ := Option.map_eq_some_iff.mp e
      obtain ⟨x1, x2, rfl, r1, r2⟩ := repL_two r
      obtain ⟨b, rfl, hb⟩ := keyT_rep r1 e3
      refine ⟨_, _, valV kws k, rfl, DGet.t e1 hb, ?_⟩
      rw [← e4]
      rcases (DRel.mk hk q).look k with ⟨h1, h2⟩ | ⟨v', w', h1, h2, r'⟩
      · rw [h1, h2]; exact r2
      · rw [h1, h2]; exact r'
    · cases e
theorem mt_S {m : Mt} {new : Bool} (hu : X.A.units + 100 < cLine) : MtR X (mtId m) (rMt X.K (mtOp new m)) := by
  by_cases hi : m = .lindex
  · subst hi
    intro pins s σ H x xs v us Q I rx rv h
    obtain ⟨W, σ', ρ, st, a, vs, rS, r1, r2, p0⟩ := h
    have p : Post X.K (Rep X.K) W σ' ρ H Q (idxLst a vs st) := p0
    clear p0
    unfold idxLst at p
    split at p
    · rename_i zs hl
      split at p
      · rename_i y
        split at p
        · rename_i j hj
          obtain ⟨w, rfl, ry⟩ := repL_one r2
          obtain ⟨ad, ws, rfl, hA, q⟩ := Rep.lstOf rS r1 hl
          rcases idx_S rS ry hA q hj (p ρ _ H (.refl _ _) rS (.int _)) with z | z
          · exact mt_index pins s σ H _ _ v us Q I rx rv z
          · exact mt_indexD (by omega) pins s σ H _ _ v us Q I rx rv z
        · exact p.elim
      · exact p.elim
    · exact p.elim
  by_cases hm : mtIsDic m = false
  · exact mt_S0 hm hi
  · intro pins s σ H x xs v us Q I rx rv h
    obtain ⟨W, σ', ρ, st, a, vs, rS, r1, r2, p0⟩ := h
    cases m with
    | dget =>
      have p : Post X.K (Rep X.K) W σ' ρ H Q (getDic a vs st) := p0
      clear p0
      unfold getDic at p
      split at p
      · rename_i l
        cases r1 with
        | @loc _ ad h =>
          cases eo : st[l]? with
          | none => rw [eo] at p; exact p.elim
          | some o =>
            rw [eo] at p
            cases eg : obGet vs (some o) with
            | none => rw [eg] at p; exact p.elim
            | some c =>
              rw [eg] at p
              obtain ⟨u, e1, e2⟩ := rS.at_ _ ad _ h eo
              obtain ⟨y, d, ov, rfl, g, rc⟩ := obGet_of e1 e2 r2 eg
              obtain ⟨u1, u2, rfl, ry, rd⟩ := vals2 rv
              cases rx
              exact d_get2 (by omega) I g ry rd fun w' s' I' rw' => ⟨_, H, I', rw', Post.ret p rS rc⟩
      · exact p.elim
    | dpop =>
      have p : Post X.K (Rep X.K) W σ' ρ H Q (popDic a vs st) := p0
      clear p0
      unfold popDic at p
      split at p
      · rename_i l
        cases r1 with
        | @loc _ ad h =>
          cases eo : st[l]? with
          | none => rw [eo] at p; exact p.elim
          | some o =>
            rw [eo] at p
            obtain ⟨u, e1, e2⟩ := rS.at_ _ ad _ h eo
            cases e2 with
            | lst _ => exact p.elim
            | ins _ _ _ _ _ => exact p.elim
            | dT _ _ => exact p.elim
            | @dK kvs kws hk q =>
              cases eg : obPop vs (some (.dK kvs)) with
              | none => rw [eg] at p; exact p.elim
              | some c =>
                rw [eg] at p
                unfold obPop at eg
                dsimp only at eg
                split at eg
                · obtain ⟨k, e3, e4⟩ := Option.bind_eq_some_iff.mp eg
                  obtain ⟨v', e5, rfl⟩ := Option.map_eq_some_iff.mp e4
                  obtain ⟨x1, rfl, r3⟩ := repL_one r2
                  have := keyOf_rep r3 e3
                  subst this
                  obtain ⟨u1, rfl, ry⟩ := vals1 rv
                  cases rx
                  have D := DRel.mk hk q
                  rcases D.look k with ⟨h1, h2⟩ | ⟨v2, w2, h1, h2, r'⟩
                  · rw [h1] at e5; cases e5
                  · rw [h1] at e5; cases e5
                    have x0 : Ext0 ρ H ρ (upd H ad (.dK (dropK kws k))) := .wrote (.inl (List.mem_of_getElem? h))
                    have D' := (D.drp k).ext0 x0
                    have z := rS.wrote (o := .dK (drp kvs k)) h (.dK D'.keys D'.vals)
                    exact d_pop I e1 ry h2 (.inl rfl) fun w' s' I' rw' => ⟨w2, _, I', rw', p ρ w2 _ z.2 z.1 (r'.ext0 x0)⟩
                · cases eg
      · exact p.elim
    | _ => exact absurd rfl hm
theorem ty_S {m : Mt} {K : PySem.W.Frag} {ρ : Pl} {st : Store} {H : Hp} {v : Val} {x : V} (rS : RelS K ρ st H) (r : Rep K ρ H v x) (h : tyOk m st v = true) : tyV K (mtTy m) x H := by
  unfold tyOk at h
  unfold mtTy
  split at h
  · rename_i hm
    rw [if_pos hm]
    cases r with
    | str z => rfl
    | non => cases h
    | bl b => cases h
    | int i => cases h
    | tup _ _ => cases h
    | lst _ _ _ => cases h
    | dK _ _ _ => cases h
    | dT _ _ _ => cases h
    | loc _ => cases h
    | scr _ => cases h
    | dN _ => cases h
  · rename_i hm
    rw [if_neg hm]
    split at h
    · rename_i hd
      rw [if_pos hd]
      unfold isDic at h
      split at h
      · rename_i l
        cases r with
        | @loc _ a hl =>
          unfold obIsDic at h
          split at h
          · rename_i eo
            obtain ⟨u, e1, e2⟩ := rS.at_ _ a _ hl eo
            cases e2 with
            | dK _ _ => exact .inr (.inr (.inl ⟨rfl, .inl ⟨_, e1⟩⟩))
          · rename_i eo
            obtain ⟨u, e1, e2⟩ := rS.at_ _ a _ hl eo
            cases e2 with
            | dT _ _ => exact .inr (.inr (.inl ⟨rfl, .inr ⟨_, e1⟩⟩))
          · cases h
      · cases h
    · rename_i hd
      rw [if_neg hd]
      obtain ⟨zs, e⟩ := Option.isSome_iff_exists.mp h
      obtain ⟨a, ws, rfl, h2, h3⟩ := r.lstOf rS e
      exact .inl ⟨rfl, ws, SqL.of h2⟩
end
end Rc
/-! Rc4: calls cut back, what is walked, comprehensions. -/
namespace Rc
open PySem L2

/-! ### cutting back -/
section
variable {K : PySem.W.Frag} {ρ' : Pl} {H : Hp} {n : Nat}
def Pl.cut (ρ : Pl) (n : Nat) : Pl := ⟨ρ.ps.take n, ρ.rs⟩
theorem Pl.not_cut {ρ : Pl} {a : Addr} (h : a ∉ ρ) : a ∉ ρ.cut n := fun m => by
  rcases m with m | m
  · exact h (.inl (List.mem_of_mem_take m))
  · exact h (.inr m)
theorem TupAt.cut {a : Addr} {ws : List V} (h : TupAt K ρ' H a ws) : TupAt K (ρ'.cut n) H a ws := ⟨h.1, Pl.not_cut h.2⟩
theorem ScrAt.cut {a : Addr} {ns : List Int} (h : ScrAt K ρ' H a ns) : ScrAt K (ρ'.cut n) H a ns := by
  rcases h with ⟨h, m⟩ | h
  · exact .inl ⟨h, Pl.not_cut m⟩
  · exact .inr h
theorem at_cut {l : Nat} {a : Addr} (h : ρ'.ps[l]? = some a) (hl : l < n) : (ρ'.cut n).ps[l]? = some a := by
  show (ρ'.ps.take n)[l]? = some a
  rw [List.getElem?_take_of_lt hl]
  exact h
mutual
theorem Rep.cut : ∀ {v : Val} {w : V}, Rep K ρ' H v w → locLt n v = true → Rep K (ρ'.cut n) H v w
  | _, _, .non, _ => .non
  | _, _, .bl b, _ => .bl b
  | _, _, .int i, _ => .int i
  | _, _, .str x, _ => .str x
  | _, _, .tup h r, l => .tup h.cut (RepL.cut r (by simpa [locLt] using l))
  | _, _, .lst h m r, l => .lst h (Pl.not_cut m) (RepL.cut r (by simpa [locLt] using l))
  | _, _, .dK h m r, l => .dK h (Pl.not_cut m) (RepL.cut r (by simpa [locLt] using l))
  | _, _, .dT h m r, l => .dT h (Pl.not_cut m) (RepL.cut r (by simpa [locLt] using l))
  | _, _, .loc h, l => .loc (at_cut h (by simpa [locLt] using l))
  | _, _, .scr h, _ => .scr h.cut
  | _, _, .dN h, _ => .dN (h.mono fun _ _ e m => ⟨e, Pl.not_cut m⟩)
theorem RepL.cut : ∀ {vs : List Val} {ws : List V}, RepL K ρ' H vs ws → locLtL n vs = true → RepL K (ρ'.cut n) H vs ws
  | _, _, .nil, _ => .nil
  | _, _, .cons h r, l => by
    have l' := Bool.and_eq_true_iff.mp (show (locLt n _ && locLtL n _) = true from l)
    exact .cons (Rep.cut h l'.1) (RepL.cut r l'.2)
end
mutual
theorem Rep.locs {ρ : Pl} : ∀ {v : Val} {w : V}, Rep K ρ H v w → locLt ρ.ps.length v = true
  | _, _, .non => rfl
  | _, _, .bl b => rfl
  | _, _, .int i => rfl
  | _, _, .str x => rfl
  | _, _, .tup h r => by simpa [locLt] using RepL.locs r
  | _, _, .lst h m r => by simpa [locLt] using RepL.locs r
  | _, _, .dK h m r => by simpa [locLt] using RepL.locs r
  | _, _, .dT h m r => by simpa [locLt] using RepL.locs r
  | _, _, .loc h => by simpa [locLt] using (List.getElem?_eq_some_iff.mp h).1
  | _, _, .scr h => rfl
  | _, _, .dN h => rfl
theorem RepL.locs {ρ : Pl} : ∀ {vs : List Val} {ws : List V}, RepL K ρ H vs ws → locLtL ρ.ps.length vs = true
  | _, _, .nil => rfl
  | _, _, .cons h r => by
    show (locLt _ _ && locLtL _ _) = true
    rw [Rep.locs h, RepL.locs r]; rfl
end
theorem RelOb.cut {a : Addr} : ∀ {o : Ob} {h : HO}, RelOb K ρ' H a o h → obLt n o = true → RelOb K (ρ'.cut n) H a o h
  | _, _, .lst r, l => .lst (r.cut l)
  | _, _, .dK k r, l => .dK k (r.cut l)
  | _, _, .dT k r, l => .dT k (r.cut l)
  | _, _, .ins i d m k r, l => .ins i d (Pl.not_cut m) k (r.cut l)
theorem RelOb.locs {ρ : Pl} {a : Addr} : ∀ {o : Ob} {h : HO}, RelOb K ρ H a o h → obLt ρ.ps.length o = true
  | _, _, .lst r => r.locs
  | _, _, .dK k r => r.locs
  | _, _, .dT k r => r.locs
  | _, _, .ins i d m k r => r.locs
theorem mapO_frz {f : Val → Option Val} (h : ∀ {v v' : Val} {w : V}, Rep K ρ' H v w → f v = some v' → Rep K (ρ'.cut n) H v' w) : ∀ {vs vs' : List Val} {ws : List V}, RepL K ρ' H vs ws → mapO f vs = some vs' → RepL K (ρ'.cut n) H vs' ws
  | _, _, _, .nil, e => by cases e; exact .nil
  | _, _, _, .cons r q, e => by
    unfold mapO at e
    obtain ⟨d, e1, e2⟩ := Option.bind_eq_some_iff.mp e
    obtain ⟨ds, e3, rfl⟩ := Option.map_eq_some_iff.mp e2
    exact .cons (h r e1) (mapO_frz h q e3)
theorem frz_rep {st' : Store} (rS : RelS K ρ' st' H) : ∀ (k : Nat) {v v' : Val} {w : V}, Rep K ρ' H v w → frz st' n k v = some v' → Rep K (ρ'.cut n) H v' w
  | 0, _, _, _, _, e => by cases e
  | k + 1, v, v', w, r, e => by
    have ih := fun {v v' : Val} {w : V} => frz_rep rS k (v := v) (v' := v') (w := w)
    unfold frz at e
    cases r with
    | non => cases e; exact .non
    | bl b => cases e; exact .bl b
    | int i => cases e; exact .int i
    | str s => cases e; exact .str s
    | scr h => cases e; exact .scr h.cut
    | dN h => cases e; exact .dN (h.mono fun _ _ e m => ⟨e, Pl.not_cut m⟩)
    | tup t q =>
      obtain ⟨ds, e1, rfl⟩ := Option.map_eq_some_iff.mp e
      exact .tup t.cut (mapO_frz ih q e1)
    | lst t m q =>
      obtain ⟨ds, e1, rfl⟩ := Option.map_eq_some_iff.mp e
      exact .lst t (Pl.not_cut m) (mapO_frz ih q e1)
    | dK t m q =>
      obtain ⟨ds, e1, rfl⟩ := Option.map_eq_some_iff.mp e
      exact .dK t (Pl.not_cut m) (mapO_frz ih q e1)
    | dT t m q =>
      obtain ⟨ds, e1, rfl⟩ := Option.map_eq_some_iff.mp e
      exact .dT t (Pl.not_cut m) (mapO_frz ih q e1)
    | @loc l a h =>
      dsimp only at e
      split at e
      · rename_i hl
        cases e
        exact .loc (at_cut h hl)
      · rename_i hl
        have na : a ∉ ρ'.cut n := fun m => by
          rcases m with m | m
          · obtain ⟨j, ej⟩ := List.getElem?_of_mem (show a ∈ ρ'.ps.take n from m)
            have hj : j < n := by
              have := (List.getElem?_eq_some_iff.mp ej).1
              rw [List.length_take] at this
              omega
            rw [List.getElem?_take_of_lt hj] at ej
            obtain ⟨h1, h2⟩ := List.getElem?_eq_some_iff.mp h
            obtain ⟨h3, h4⟩ := List.getElem?_eq_some_iff.mp ej
            have := (List.getElem_inj rS.nd).mp (h4.trans h2.symm)
            omega
          · exact (rS.rs a m).1 (List.mem_of_getElem? h)
        split at e
        · rename_i xs e0
          obtain ⟨u, e1, e2⟩ := rS.at_ l a _ h e0
          obtain ⟨ds, e3, rfl⟩ := Option.map_eq_some_iff.mp e
          cases e2 with
          | lst q => exact .lst e1 na (mapO_frz ih q e3)
        · rename_i kvs e0
          obtain ⟨u, e1, e2⟩ := rS.at_ l a _ h e0
          obtain ⟨ds, e3, rfl⟩ := Option.map_eq_some_iff.mp e
          cases e2 with
          | dK hk q =>
            rw [hk]
            exact .dK e1 na (mapO_frz ih q e3)
        · rename_i kvs e0
          obtain ⟨u, e1, e2⟩ := rS.at_ l a _ h e0
          obtain ⟨ds, e3, rfl⟩ := Option.map_eq_some_iff.mp e
          cases e2 with
          | dT hk q =>
            rw [hk]
            exact .dT e1 na (mapO_frz ih q e3)
        · cases e
end
section
variable {K : PySem.W.Frag} {ρ ρ' : Pl} {H H' : Hp} {st st' : Store} {W : WX} {σ : L2.St} {Q : VK}
theorem Ext.cut_eq (e : Ext ρ H ρ' H') (rS : RelS K ρ st H) : ρ'.cut st.length = ρ := by
  have h1 : ρ'.ps.take st.length = ρ.ps := by
    rw [← rS.len]
    exact (List.prefix_iff_eq_take.mp e.pre).symm
  show (⟨ρ'.ps.take st.length, ρ'.rs⟩ : Pl) = ρ
  rw [h1, e.rs]
theorem Ext.back (e : Ext ρ H ρ' H') : Ext ρ H ρ H' := ⟨⟨fun a o h n => ⟨(e.keep a o h n).1, n⟩, List.prefix_refl _⟩, rfl, e.rk⟩
theorem RelS.cut (rS : RelS K ρ st H) (e : Ext ρ H ρ' H') (rS' : RelS K ρ' st' H') (c : CutOk st st') : RelS K ρ (st'.take st.length) H' := by
  have ec := e.cut_eq rS
  refine ⟨?_, rS.nd, fun l a o e1 e2 => ?_, fun a ha => ⟨(rS.rs a ha).1, ?_⟩⟩
  · rw [List.length_take, rS.len]
    exact (Nat.min_eq_left c.1).symm
  · have hl : l < st.length := rS.len ▸ (List.getElem?_eq_some_iff.mp e1).1
    have e2' : st'[l]? = some o := by
      rw [List.getElem?_take_of_lt hl] at e2
      exact e2
    obtain ⟨h, e3, e4⟩ := rS'.at_ l a o (e.at_ e1) e2'
    refine ⟨h, e3, ?_⟩
    have lo : obLt st.length o = true := by
      rcases c.2 with c | c
      · rw [c] at e2
        obtain ⟨h0, _, e5⟩ := rS.at_ l a o e1 e2
        rw [← rS.len]
        exact e5.locs
      · exact List.all_eq_true.mp c o (List.mem_of_getElem? e2)
    have := e4.cut (n := st.length) lo
    rw [ec] at this
    exact this
  · rw [e.rk a ha]
    exact (rS.rs a ha).2
theorem Post.cut {m : M Val} (rS : RelS K ρ st H) (p : Post K (Rep K) W σ ρ H Q (cutM m st)) : Post K (Rep K) W σ ρ H Q (m st) := by
  unfold cutM at p
  cases e : m st with
  | ok v st' =>
    rw [e] at p
    dsimp only at p
    split at p
    · rename_i c
      split at p
      · rename_i v' ef
        intro ρ' w H' x s q
        refine p ρ w H' x.back (rS.cut x s c) ?_
        have := frz_rep s _ q ef
        rw [x.cut_eq rS] at this
        exact this
      · exact p.elim
    · exact p.elim
  | exc c row st' =>
    rw [e] at p
    dsimp only at p
    split at p
    · rename_i c
      intro ρ' d H' x s q
      exact p ρ d H' x.back (rS.cut x s c) q
    · exact p.elim
  | stuck =>
    rw [e] at p
    exact p
end

/-! ### cut back, but for one list -/
def Pl.keep (ρ : Pl) (n : Nat) (a : Addr) : Pl := ⟨ρ.ps.take n ++ [a], ρ.rs⟩
theorem Pl.not_keep {ρ : Pl} {n : Nat} {a b : Addr} (h : b ∉ ρ) (ha : a ∈ ρ) : b ∉ ρ.keep n a := fun m => by
  rcases m with m | m
  · rcases List.mem_append.mp m with m | m
    · exact h (.inl (List.mem_of_mem_take m))
    · exact h (List.mem_singleton.mp m ▸ ha)
  · exact h (.inr m)
theorem at_keep {ρ : Pl} {n l : Nat} {a b : Addr} (h : ρ.ps[l]? = some b) (hl : l < n) : (ρ.keep n a).ps[l]? = some b := by
  show (ρ.ps.take n ++ [a])[l]? = some b
  have h1 := (List.getElem?_eq_some_iff.mp h).1
  rw [List.getElem?_append_left (by rw [List.length_take]; omega), List.getElem?_take_of_lt hl]
  exact h
section
variable {K : PySem.W.Frag} {ρ' : Pl} {H : Hp} {n : Nat} {a0 : Addr}
theorem mapO_frzX {f : Val → Option Val} (h : ∀ {v v' : Val} {w : V}, Rep K ρ' H v w → f v = some v' → Rep K (ρ'.keep n a0) H v' w) : ∀ {vs vs' : List Val} {ws : List V}, RepL K ρ' H vs ws → mapO f vs = some vs' → RepL K (ρ'.keep n a0) H vs' ws
  | _, _, _, .nil, e => by cases e; exact .nil
  | _, _, _, .cons r q, e => by
    unfold mapO at e
    obtain ⟨d, e1, e2⟩ := Option.bind_eq_some_iff.mp e
    obtain ⟨ds, e3, rfl⟩ := Option.map_eq_some_iff.mp e2
    exact .cons (h r e1) (mapO_frzX h q e3)
theorem frzX_rep {st' : Store} (rS : RelS K ρ' st' H) {x : Nat} (hx : ρ'.ps[x]? = some a0) : ∀ (k : Nat) {v v' : Val} {w : V}, Rep K ρ' H v w → frzX st' n x k v = some v' → Rep K (ρ'.keep n a0) H v' w
  | 0, _, _, _, _, e => by cases e
  | k + 1, v, v', w, r, e => by
    have ih := fun {v v' : Val} {w : V} => frzX_rep rS hx k (v := v) (v' := v') (w := w)
    have ha0 : a0 ∈ ρ' := .inl (List.mem_of_getElem? hx)
    unfold frzX at e
    cases r with
    | non => cases e; exact .non
    | bl b => cases e; exact .bl b
    | int i => cases e; exact .int i
    | str s => cases e; exact .str s
    | scr h =>
      cases e
      rcases h with ⟨h, m⟩ | h
      · exact .scr (.inl ⟨h, Pl.not_keep m ha0⟩)
      · exact .scr (.inr h)
    | dN h => cases e; exact .dN (h.mono fun _ _ e m => ⟨e, Pl.not_keep m ha0⟩)
    | tup t q =>
      obtain ⟨ds, e1, rfl⟩ := Option.map_eq_some_iff.mp e
      exact .tup ⟨t.1, Pl.not_keep t.2 ha0⟩ (mapO_frzX ih q e1)
    | lst t m q =>
      obtain ⟨ds, e1, rfl⟩ := Option.map_eq_some_iff.mp e
      exact .lst t (Pl.not_keep m ha0) (mapO_frzX ih q e1)
    | dK t m q =>
      obtain ⟨ds, e1, rfl⟩ := Option.map_eq_some_iff.mp e
      exact .dK t (Pl.not_keep m ha0) (mapO_frzX ih q e1)
    | dT t m q =>
      obtain ⟨ds, e1, rfl⟩ := Option.map_eq_some_iff.mp e
      exact .dT t (Pl.not_keep m ha0) (mapO_frzX ih q e1)
    | @loc l a h =>
      dsimp only at e
      split at e
      · cases e
      · rename_i hlx
        split at e
        · rename_i hl
          cases e
          exact .loc (at_keep h hl)
        · rename_i hl
          have na : a ∉ ρ'.keep n a0 := fun m => by
            obtain ⟨h1, h2⟩ := List.getElem?_eq_some_iff.mp h
            rcases m with m | m
            · rcases List.mem_append.mp m with m | m
              · obtain ⟨j, ej⟩ := List.getElem?_of_mem (show a ∈ ρ'.ps.take n from m)
                have hj : j < n := by
                  have := (List.getElem?_eq_some_iff.mp ej).1
                  rw [List.length_take] at this
                  omega
                rw [List.getElem?_take_of_lt hj] at ej
                obtain ⟨h3, h4⟩ := List.getElem?_eq_some_iff.mp ej
                have := (List.getElem_inj rS.nd).mp (h4.trans h2.symm)
                omega
              · obtain ⟨h3, h4⟩ := List.getElem?_eq_some_iff.mp hx
                have := (List.getElem_inj rS.nd).mp (h4.trans ((List.mem_singleton.mp m).symm.trans h2.symm))
                omega
            · exact (rS.rs a m).1 (List.mem_of_getElem? h)
          split at e
          · rename_i xs e0
            obtain ⟨u, e1, e2⟩ := rS.at_ l a _ h e0
            obtain ⟨ds, e3, rfl⟩ := Option.map_eq_some_iff.mp e
            cases e2 with
            | lst q => exact .lst e1 na (mapO_frzX ih q e3)
          · rename_i kvs e0
            obtain ⟨u, e1, e2⟩ := rS.at_ l a _ h e0
            obtain ⟨ds, e3, rfl⟩ := Option.map_eq_some_iff.mp e
            cases e2 with
            | dK hk q =>
              rw [hk]
              exact .dK e1 na (mapO_frzX ih q e3)
          · rename_i kvs e0
            obtain ⟨u, e1, e2⟩ := rS.at_ l a _ h e0
            obtain ⟨ds, e3, rfl⟩ := Option.map_eq_some_iff.mp e
            cases e2 with
            | dT hk q =>
              rw [hk]
              exact .dT e1 na (mapO_frzX ih q e3)
          · cases e
end
section
variable {K : PySem.W.Frag} {ρ' : Pl} {H : Hp} {n : Nat} {a0 : Addr}
mutual
theorem Rep.keepAt (ha : a0 ∈ ρ') : ∀ {v : Val} {w : V}, Rep K ρ' H v w → locLt n v = true → Rep K (ρ'.keep n a0) H v w
  | _, _, .non, _ => .non
  | _, _, .bl b, _ => .bl b
  | _, _, .int i, _ => .int i
  | _, _, .str x, _ => .str x
  | _, _, .tup h r, l => .tup ⟨h.1, Pl.not_keep h.2 ha⟩ (RepL.keepAt ha r (by simpa [locLt] using l))
  | _, _, .lst h m r, l => .lst h (Pl.not_keep m ha) (RepL.keepAt ha r (by simpa [locLt] using l))
  | _, _, .dK h m r, l => .dK h (Pl.not_keep m ha) (RepL.keepAt ha r (by simpa [locLt] using l))
  | _, _, .dT h m r, l => .dT h (Pl.not_keep m ha) (RepL.keepAt ha r (by simpa [locLt] using l))
  | _, _, .loc h, l => .loc (at_keep h (by simpa [locLt] using l))
  | _, _, .scr (.inl h), _ => .scr (.inl ⟨h.1, Pl.not_keep h.2 ha⟩)
  | _, _, .scr (.inr h), _ => .scr (.inr h)
  | _, _, .dN h, _ => .dN (h.mono fun _ _ e m => ⟨e, Pl.not_keep m ha⟩)
theorem RepL.keepAt (ha : a0 ∈ ρ') : ∀ {vs : List Val} {ws : List V}, RepL K ρ' H vs ws → locLtL n vs = true → RepL K (ρ'.keep n a0) H vs ws
  | _, _, .nil, _ => .nil
  | _, _, .cons h r, l => by
    have l' := Bool.and_eq_true_iff.mp (show (locLt n _ && locLtL n _) = true from l)
    exact .cons (Rep.keepAt ha h l'.1) (RepL.keepAt ha r l'.2)
end
theorem RelOb.keepAt {a : Addr} (ha : a0 ∈ ρ') : ∀ {o : Ob} {h : HO}, RelOb K ρ' H a o h → obLt n o = true → RelOb K (ρ'.keep n a0) H a o h
  | _, _, .lst r, l => .lst (r.keepAt ha l)
  | _, _, .dK k r, l => .dK k (r.keepAt ha l)
  | _, _, .dT k r, l => .dT k (r.keepAt ha l)
  | _, _, .ins i d m k r, l => .ins i d (Pl.not_keep m ha) k (r.keepAt ha l)
end
/-- one place more, of an object that stands -/
theorem Ext0.take1 {ρ : Pl} {H : Hp} {a : Addr} (h : H a = none) {H' : Hp} (e : Ext ρ H ρ H') : Ext ρ H (ρ.push a) H' :=
  ⟨⟨fun b o hb n => ⟨(e.keep b o hb n).1, fun m => by
    rcases Pl.mem_push.mp m with m | m
    · exact n m
    · rw [m, h] at hb; cases hb⟩, List.prefix_append _ _⟩, rfl, e.rk⟩
theorem Post.keep {K : PySem.W.Frag} {ρ : Pl} {H : Hp} {st : Store} {W : WX} {σ : L2.St} {Q : VK} {m : M Val} (rS : RelS K ρ st H) (p : Post K (Rep K) W σ ρ H Q (keepM m st)) : Post K (Rep K) W σ ρ H Q (m st) := by
  unfold keepM at p
  cases e : m st with
  | ok v st' =>
    rw [e] at p
    dsimp only at p
    split at p
    · rename_i c
      split at p
      · rename_i q0 eq0
        split at p
        · rename_i ys ey
          intro ρ' w H' x s q
          unfold newLst at eq0
          split at eq0
          · rename_i l
            split at eq0
            · cases eq0
            · rename_i hl
              split at eq0
              · rename_i xs exs
                cases eq0
                cases q with
                | @loc _ a ha =>
                  obtain ⟨u, h1, h2⟩ := s.at_ l a _ ha exs
                  cases h2 with
                  | @lst _ ws qw =>
                    have ek : ρ'.keep st.length a = ρ.push a := by
                      have := x.cut_eq rS
                      unfold Pl.cut at this
                      unfold Pl.keep Pl.push
                      have h3 := congrArg Pl.ps this
                      dsimp only at h3
                      rw [h3, x.rs]
                    have ry : RepL K (ρ.push a) H' ys ws := by
                      rw [← ek]
                      exact mapO_frzX (fun r e => frzX_rep s ha _ r e) qw ey
                    have hna : H a = none := by
                      cases hH : H a with
                      | none => rfl
                      | some o =>
                        have : a ∉ ρ := fun m => by
                          rcases m with m | m
                          · obtain ⟨j, ej⟩ := List.getElem?_of_mem m
                            have hj : j < st.length := rS.len ▸ (List.getElem?_eq_some_iff.mp ej).1
                            have ej' := x.at_ ej
                            obtain ⟨h3, h4⟩ := List.getElem?_eq_some_iff.mp ej'
                            obtain ⟨h5, h6⟩ := List.getElem?_eq_some_iff.mp ha
                            have := (List.getElem_inj s.nd).mp (h4.trans h6.symm)
                            omega
                          · exact (s.rs a (by rw [x.rs]; exact m)).1 (List.mem_of_getElem? ha)
                        exact absurd (Or.inl (List.mem_of_getElem? ha)) (x.keep a o hH this).2
                    have rc := rS.cut x s c
                    have hlen : (st'.take st.length).length = st.length := by
                      rw [List.length_take]
                      exact Nat.min_eq_left c.1
                    have xk := Ext0.take1 hna x.back
                    have rk : RelS K (ρ.push a) (st'.take st.length ++ [.lst ys]) H' := by
                      refine ⟨by simp [Pl.push, rc.len], ?_, fun k b o e1 e2 => ?_, fun b hb => ⟨fun m => ?_, ?_⟩⟩
                      · show (ρ.ps ++ [a]).Nodup
                        rw [List.nodup_append]
                        refine ⟨rS.nd, by simp, fun b hb c' hc => ?_⟩
                        rw [List.mem_singleton.mp hc]
                        exact fun z => by
                          obtain ⟨o, ho⟩ := rS.some_of (.inl hb)
                          rw [z, hna] at ho
                          cases ho
                      · have e1 : (ρ.ps ++ [a])[k]? = some b := e1
                        by_cases hk : k < ρ.ps.length
                        · rw [List.getElem?_append_left hk] at e1
                          rw [List.getElem?_append_left (by rw [hlen, ← rS.len]; exact hk)] at e2
                          have hkl : k < st.length := rS.len ▸ hk
                          have e2' : st'[k]? = some o := by
                            rw [List.getElem?_take_of_lt hkl] at e2
                            exact e2
                          obtain ⟨y, e3, e4⟩ := s.at_ k b o (x.at_ e1) e2'
                          refine ⟨y, e3, ?_⟩
                          have lo : obLt st.length o = true := by
                            rcases c.2 with c | c
                            · rw [c] at e2
                              obtain ⟨h0, _, e5⟩ := rS.at_ k b o e1 e2
                              rw [← rS.len]
                              exact e5.locs
                            · exact List.all_eq_true.mp c o (List.mem_of_getElem? e2)
                          have := e4.keepAt (n := st.length) (.inl (List.mem_of_getElem? ha)) lo
                          rw [ek] at this
                          exact this
                        · rw [List.getElem?_append_right (Nat.le_of_not_lt hk)] at e1
                          rw [List.getElem?_append_right (by rw [hlen, ← rS.len]; exact Nat.le_of_not_lt hk)] at e2
                          have z : k - ρ.ps.length = 0 := by
                            have := (List.getElem?_eq_some_iff.mp e1).1
                            simp at this; omega
                          rw [z] at e1
                          rw [hlen, ← rS.len, z] at e2
                          simp at e1 e2
                          subst e1; subst e2
                          exact ⟨_, h1, .lst ry⟩
                      · rcases List.mem_append.mp m with m | m
                        · exact (rS.rs b hb).1 m
                        · obtain ⟨o, ho⟩ := rS.some_of (.inr hb)
                          rw [List.mem_singleton.mp m, hna] at ho
                          cases ho
                      · rw [x.rk b hb]
                        exact (rS.rs b hb).2
                    refine p (ρ.push a) (.ref a) H' xk rk (.loc ?_)
                    show (ρ.ps ++ [a])[st.length]? = some a
                    rw [← rS.len, List.getElem?_append_right (Nat.le_refl _), Nat.sub_self]
                    rfl
              · cases eq0
          · cases eq0
        · exact p.elim
      · split at p
        · rename_i v' ef
          intro ρ' w H' x s q
          refine p ρ w H' x.back (rS.cut x s c) ?_
          have := frz_rep s _ q ef
          rw [x.cut_eq rS] at this
          exact this
        · exact p.elim
    · exact p.elim
  | exc c row st' =>
    rw [e] at p
    dsimp only at p
    split at p
    · rename_i c
      intro ρ' d H' x s q
      exact p ρ d H' x.back (rS.cut x s c) q
    · exact p.elim
  | stuck =>
    rw [e] at p
    exact p.elim

/-! ### what is walked -/
/-- the iterator J gives the items, while the list stands still -/
def ItOk (K : PySem.W.Frag) (ρ0 : Pl) (H0 : Hp) (is : Items) (J : L2.It) : Prop :=
  ∀ (i : Nat) (ρ1 : Pl) (st1 : Store) (H1 : Hp), Ext0 ρ0 H0 ρ1 H1 → RelS K ρ1 st1 H1 → Still is st1 →
    (∀ v, is.xs[i]? = some v → J.go i H1 ∧ ∀ x H', J.yld i H1 x H' → Ext ρ1 H1 ρ1 H' ∧ RelS K ρ1 st1 H' ∧ Rep K ρ1 H' v x) ∧ (is.xs.length = i → J.stop i H1)
def PostI (K : PySem.W.Frag) (W : WX) (σ : L2.St) (ρ : Pl) (H : Hp) (R : L2.It → Hp → Prop) : Rc.R Items → Prop
  | .ok is st' => is.xs.length ≤ sizeLine → ∀ ρ' J H', Ext ρ H ρ' H' → RelS K ρ' st' H' → ItOk K ρ' H' is J → R J H'
  | .exc c row st' => ∀ ρ' d H', Ext ρ H ρ' H' → RelS K ρ' st' H' → ExcAt H' row d → W (.ref (He.ga K c)) d σ H'
  | .stuck => False
def tI (K : PySem.W.Frag) (W : WX) (m : Env → M Items) : TI := fun σ H R => ∃ ρ env st, RelE K ρ H env σ ∧ RelS K ρ st H ∧ PostI K W σ ρ H R (m env st)
theorem Itt.ok {K : PySem.W.Frag} {ρ : Pl} {H : Hp} {a : Addr} {vs : List Val} {ws : List V} (t : TupAt K ρ H a ws) (q : RepL K ρ H vs ws) : ItOk K ρ H ⟨vs, none⟩ (Itt K a) := by
  intro i ρ1 st1 H1 e s _
  have t1 := (e.tup t).sq
  refine ⟨fun v hv => ?_, fun hi => ⟨ws, t1, by rw [← q.length]; exact Nat.le_of_eq hi⟩⟩
  obtain ⟨w, hw, r⟩ := q.get hv
  refine ⟨⟨ws, w, t1, hw⟩, fun x H' hy => ?_⟩
  obtain ⟨rfl, hx⟩ := hy
  have := hx ws t1
  rw [hw] at this; cases this
  exact ⟨.refl _ _, s, r.ext0 e⟩
theorem Itl.ok {K : PySem.W.Frag} {ρ : Pl} {H : Hp} {a : Addr} {vs : List Val} {ws : List V} (t : H a = some (.lst ws)) (n : a ∉ ρ) (q : RepL K ρ H vs ws) : ItOk K ρ H ⟨vs, none⟩ (Itl K a) := by
  intro i ρ1 st1 H1 e s _
  have t1 : SqL K H1 a ws := .of (e.keep _ _ t n).1
  refine ⟨fun v hv => ?_, fun hi => ⟨ws, t1, by rw [← q.length]; exact Nat.le_of_eq hi⟩⟩
  obtain ⟨w, hw, r⟩ := q.get hv
  refine ⟨⟨ws, w, t1, hw⟩, fun x H' hy => ?_⟩
  obtain ⟨rfl, hx⟩ := hy
  have := hx ws t1
  rw [hw] at this; cases this
  exact ⟨.refl _ _, s, r.ext0 e⟩
theorem Itl.okLoc {K : PySem.W.Frag} {ρ : Pl} {H : Hp} {a : Addr} {l : Nat} {vs : List Val} (h : ρ.ps[l]? = some a) : ItOk K ρ H ⟨vs, some (.at l)⟩ (Itl K a) := by
  intro i ρ1 st1 H1 e s c
  have c : st1[l]? = some (.lst vs) := c
  obtain ⟨u, e1, e2⟩ := s.at_ l a _ (e.at_ h) c
  cases e2 with
  | @lst _ ws q =>
    have t1 : SqL K H1 a ws := .of e1
    refine ⟨fun v hv => ?_, fun hi => ⟨ws, t1, by rw [← q.length]; exact Nat.le_of_eq hi⟩⟩
    obtain ⟨w, hw, r⟩ := q.get hv
    refine ⟨⟨ws, w, t1, hw⟩, fun x H' hy => ?_⟩
    obtain ⟨rfl, hx⟩ := hy
    have := hx ws t1
    rw [hw] at this; cases this
    exact ⟨.refl _ _, s, r⟩
theorem Itr.ok {K : PySem.W.Frag} {ρ : Pl} {H : Hp} (lo hi : Int) : ItOk K ρ H ⟨rangeV lo hi, none⟩ (Itr lo (hi - lo).toNat) := by
  intro i ρ1 st1 H1 e s _
  refine ⟨fun v hv => ?_, fun hn => ?_⟩
  · have hv : (rangeV lo hi)[i]? = some v := hv
    unfold rangeV at hv
    rw [List.getElem?_map] at hv
    obtain ⟨j, hj, rfl⟩ := Option.map_eq_some_iff.mp hv
    obtain ⟨hl, hj⟩ := List.getElem?_eq_some_iff.mp hj
    rw [List.getElem_range] at hj
    subst hj
    rw [List.length_range] at hl
    refine ⟨hl, fun x H' hy => ?_⟩
    obtain ⟨rfl, rfl⟩ := hy
    exact ⟨.refl _ _, s, .int _⟩
  · have hn : (rangeV lo hi).length = i := hn
    unfold rangeV at hn
    rw [List.length_map, List.length_range] at hn
    exact Nat.le_of_eq hn
section
variable {X : Cx} {tg : Expr}
/-- a list or a tuple -/
def iSeq (K : PySem.W.Frag) (tl : TE) : TI := fun σ H R => tl σ H fun x H1 => ∃ a, x = .ref a ∧ ((∃ xs, SqL K H1 a xs ∧ (xs.length ≤ sizeLine → R (Itl K a) H1)) ∨ (∃ xs, SqT K H1 a xs ∧ (xs.length ≤ sizeLine → R (Itt K a) H1)))
theorem pi_seq {l : Expr} {tl : TE} (hl : PE X l tl) : PI X tg l (iSeq X.K tl) := by
  refine ⟨fun pins s σ H R I h => ?_⟩
  refine thn (hl.run pins s σ H _ I h) fun v s1 ⟨x, H1, I1, r1, q1⟩ => ?_
  obtain ⟨a, e, q⟩ := q1
  subst e
  cases r1
  rcases q with ⟨xs, hq, q⟩ | ⟨xs, hq, q⟩
  · obtain ⟨its, rv, p, hz⟩ := I1.list hq
    refine wpAny_pyIter_list p.isList ?_
    refine ⟨s1.heap.objs.size, [s1.heap.objs.size], _, _, H1, rfl, I1.kept (t' := s1.toks) fun b o e => Heap.get?_push_of_some _ e, turn_list a _, ⟨_, Heap.get?_push_size _ rfl, rfl, rfl⟩, fun b hb => ?_, q hz⟩
    have e : b = s1.heap.objs.size := by simpa using hb
    subst e
    exact I1.fpOk (Nat.le_refl _) (I1.hok.fresh (Nat.le_refl _))
  · obtain ⟨its, rv, p, hz⟩ := I1.tuple hq
    refine wpAny_pyIter_tuple (show s1.heap.IsTuple a its.toArray from p) ?_
    refine ⟨s1.heap.objs.size, [s1.heap.objs.size], _, _, H1, rfl, I1.kept (t' := s1.toks) fun b o e => Heap.get?_push_of_some _ e, turn_tuple a _, ⟨_, Heap.get?_push_size _ rfl, rfl, rfl⟩, fun b hb => ?_, q hz⟩
    have e : b = s1.heap.objs.size := by simpa using hb
    subst e
    exact I1.fpOk (Nat.le_refl _) (I1.hok.fresh (Nat.le_refl _))
theorem PostI.bnd {K : PySem.W.Frag} {α β : Type} {rel : Pl → Hp → α → β → Prop} {W : WX} {σ : L2.St} {ρ : Pl} {H : Hp} {R' : L2.It → Hp → Prop} {Q : β → Hp → Prop} {m : M α} {f : α → M Items} {st : Store} (h : PostI K W σ ρ H R' (Rc.bnd m f st))
    (k : ∀ a st1 ρ1 b H1, Ext ρ H ρ1 H1 → RelS K ρ1 st1 H1 → rel ρ1 H1 a b → PostI K W σ ρ1 H1 R' (f a st1) → Q b H1) : Post K rel W σ ρ H Q (m st) := by
  unfold Rc.bnd at h
  cases e : m st with
  | ok a st1 =>
    rw [e] at h
    dsimp only at h
    intro ρ' w H' x s q
    refine k a st1 ρ' w H' x s q ?_
    cases e2 : f a st1 with
    | ok is st2 => rw [e2] at h; exact fun hz ρ2 J H2 x2 s2 q2 => h hz ρ2 J H2 (x.trans x2) s2 q2
    | exc c row st2 => rw [e2] at h; exact fun ρ2 d H2 x2 s2 q2 => h ρ2 d H2 (x.trans x2) s2 q2
    | stuck => rw [e2] at h; exact h
  | exc c row st1 =>
    rw [e] at h
    exact h
  | stuck =>
    rw [e] at h
    exact h
theorem sim_seq {W : WX} {l : Expr} {m : Env → M Val} (hl : PE X l (tE X.K W m)) : PI X tg l (tI X.K W fun env => bnd (m env) fun v => fun st => ofOpt (itemsOf st v) st) := by
  refine PI.imp (pi_seq hl) fun σ H R h => ?_
  obtain ⟨ρ, env, st, rE, rS, p⟩ := h
  refine ⟨ρ, env, st, rE, rS, PostI.bnd p fun v st1 ρ1 x H1 e1 s1 q1 p1 => ?_⟩
  cases q1 with
  | tup t q =>
    have hl := q.length
    exact ⟨_, rfl, .inr ⟨_, t.sq, fun hz => p1 (by rw [hl]; exact hz) ρ1 _ H1 (.refl _ _) s1 (Itt.ok t q)⟩⟩
  | lst t n q =>
    have hl := q.length
    exact ⟨_, rfl, .inl ⟨_, .of t, fun hz => p1 (by rw [hl]; exact hz) ρ1 _ H1 (.refl _ _) s1 (Itl.ok t n q)⟩⟩
  | @loc l a h =>
    cases e : st1[l]? with
    | none =>
      have : itemsOf st1 (.loc l) = none := by simp only [itemsOf, e]
      rw [this] at p1
      exact p1.elim
    | some o =>
      cases o with
      | lst vs =>
        have : itemsOf st1 (.loc l) = some ⟨vs, some (.at l)⟩ := by simp only [itemsOf, e]
        rw [this] at p1
        obtain ⟨u, e3, e4⟩ := s1.at_ l a _ h e
        cases e4 with
        | lst q =>
          have hl := q.length
          exact ⟨_, rfl, .inl ⟨_, .of e3, fun hz => p1 (by rw [hl]; exact hz) ρ1 _ H1 (.refl _ _) s1 (Itl.okLoc h)⟩⟩
      | _ =>
        have : itemsOf st1 (.loc l) = none := by simp only [itemsOf, e]
        rw [this] at p1
        exact p1.elim
  | _ => exact p1.elim
theorem Its.ok {K : PySem.W.Frag} {ρ : Pl} {H : Hp} {x : Str} : ItOk K ρ H ⟨x.cps.toList.map fun c => .str ⟨#[c]⟩, none⟩ (Its x) := by
  intro i ρ1 st1 H1 e s _
  refine ⟨fun v hv => ?_, fun hi => ?_⟩
  · have hv : (x.cps.toList.map fun c => Val.str ⟨#[c]⟩)[i]? = some v := hv
    rw [List.getElem?_map] at hv
    obtain ⟨c, hc, rfl⟩ := Option.map_eq_some_iff.mp hv
    refine ⟨?_, fun y H' hy => ?_⟩
    · show i < x.cps.size
      have := (List.getElem?_eq_some_iff.mp hc).1
      rwa [Array.length_toList] at this
    · obtain ⟨rfl, c', hc', rfl⟩ := hy
      rw [Array.getElem?_toList] at hc
      rw [hc] at hc'
      cases hc'
      exact ⟨.refl _ _, s, .str _⟩
  · show x.cps.size ≤ i
    have : (x.cps.toList.map fun c => Val.str ⟨#[c]⟩).length = i := hi
    rw [List.length_map, Array.length_toList] at this
    omega
theorem enum_at : ∀ (vs : List Val) (n i : Nat), (enumFrom n vs)[i]? = (vs[i]?).map fun v => .tup [.int ((n + i : Nat) : Int), v]
  | [], _, _ => by simp [enumFrom]
  | v :: vs, n, 0 => by simp [enumFrom]
  | v :: vs, n, i + 1 => by
    rw [enumFrom, List.getElem?_cons_succ, List.getElem?_cons_succ, enum_at vs (n + 1) i, show n + 1 + i = n + (i + 1) by omega]
theorem enum_len : ∀ (vs : List Val) (n : Nat), (enumFrom n vs).length = vs.length
  | [], _ => rfl
  | v :: vs, n => by rw [enumFrom, List.length_cons, List.length_cons, enum_len vs (n + 1)]
theorem pair_new {K : PySem.W.Frag} {ρ : Pl} {st : Store} {H : Hp} {T : Addr} {v : Val} {w : V} {i : Nat} (s : RelS K ρ st H) (h : H T = none) (r : Rep K ρ H v w) : Ext ρ H ρ (upd H T (.tup [.int (i : Nat), w])) ∧ RelS K ρ st (upd H T (.tup [.int (i : Nat), w])) ∧ Rep K ρ (upd H T (.tup [.int (i : Nat), w])) (.tup [.int ((0 + i : Nat) : Int), v]) (.ref T) := by
  have z := s.laid (o := .tup [.int (i : Nat), w]) h
  refine ⟨z.2, z.1, ?_⟩
  rw [Nat.zero_add]
  exact .tup ⟨upd_same, s.fresh h⟩ (.cons (.int _) (.cons (r.ext z.2) .nil))
theorem IteT.ok {K : PySem.W.Frag} {ρ : Pl} {H : Hp} {a : Addr} {vs : List Val} {ws : List V} (t : TupAt K ρ H a ws) (q : RepL K ρ H vs ws) : ItOk K ρ H ⟨enumFrom 0 vs, none⟩ (IteT K a) := by
  intro i ρ1 st1 H1 e s _
  have t1 := (e.tup t).sq
  refine ⟨fun v hv => ?_, fun hi => ⟨ws, t1, by rw [← q.length, ← enum_len vs 0]; exact Nat.le_of_eq hi⟩⟩
  have hv : (enumFrom 0 vs)[i]? = some v := hv
  rw [enum_at] at hv
  obtain ⟨v0, hv0, rfl⟩ := Option.map_eq_some_iff.mp hv
  obtain ⟨w, hw, r⟩ := q.get hv0
  refine ⟨⟨ws, w, t1, hw⟩, fun x H' hy => ?_⟩
  obtain ⟨T, x', rfl, hT, rfl, hx⟩ := hy
  have := hx ws t1
  rw [hw] at this; cases this
  exact pair_new s hT (r.ext0 e)
theorem Ite.ok {K : PySem.W.Frag} {ρ : Pl} {H : Hp} {a : Addr} {vs : List Val} {ws : List V} (t : H a = some (.lst ws)) (n : a ∉ ρ) (q : RepL K ρ H vs ws) : ItOk K ρ H ⟨enumFrom 0 vs, none⟩ (Ite K a) := by
  intro i ρ1 st1 H1 e s _
  have t1 : SqL K H1 a ws := .of (e.keep _ _ t n).1
  refine ⟨fun v hv => ?_, fun hi => ⟨ws, t1, by rw [← q.length, ← enum_len vs 0]; exact Nat.le_of_eq hi⟩⟩
  have hv : (enumFrom 0 vs)[i]? = some v := hv
  rw [enum_at] at hv
  obtain ⟨v0, hv0, rfl⟩ := Option.map_eq_some_iff.mp hv
  obtain ⟨w, hw, r⟩ := q.get hv0
  refine ⟨⟨ws, w, t1, hw⟩, fun x H' hy => ?_⟩
  obtain ⟨T, x', rfl, hT, rfl, hx⟩ := hy
  have := hx ws t1
  rw [hw] at this; cases this
  exact pair_new s hT (r.ext0 e)
theorem enum_inj : ∀ {vs us : List Val} {n : Nat}, enumFrom n vs = enumFrom n us → vs = us
  | [], [], _, _ => rfl
  | [], _ :: _, _, h => by simp [enumFrom] at h
  | _ :: _, [], _, h => by simp [enumFrom] at h
  | v :: vs, u :: us, n, h => by
    rw [enumFrom, enumFrom] at h
    have h1 := List.cons.inj h
    have h2 := Val.tup.inj h1.1
    have h3 := (List.cons.inj (List.cons.inj h2).2).1
    rw [h3, enum_inj h1.2]
theorem Ite.okLoc {K : PySem.W.Frag} {ρ : Pl} {H : Hp} {a : Addr} {l : Nat} {vs : List Val} (h : ρ.ps[l]? = some a) : ItOk K ρ H ⟨enumFrom 0 vs, some (.en l)⟩ (Ite K a) := by
  intro i ρ1 st1 H1 e s c
  obtain ⟨us, c1, c⟩ : ∃ us, enumFrom 0 vs = enumFrom 0 us ∧ st1[l]? = some (.lst us) := c
  rw [← enum_inj c1] at c
  obtain ⟨u, e1, e2⟩ := s.at_ l a _ (e.at_ h) c
  cases e2 with
  | @lst _ ws q =>
    have t1 : SqL K H1 a ws := .of e1
    refine ⟨fun v hv => ?_, fun hi => ⟨ws, t1, by rw [← q.length, ← enum_len vs 0]; exact Nat.le_of_eq hi⟩⟩
    have hv : (enumFrom 0 vs)[i]? = some v := hv
    rw [enum_at] at hv
    obtain ⟨v0, hv0, rfl⟩ := Option.map_eq_some_iff.mp hv
    obtain ⟨w, hw, r⟩ := q.get hv0
    refine ⟨⟨ws, w, t1, hw⟩, fun x H' hy => ?_⟩
    obtain ⟨T, x', rfl, hT, rfl, hx⟩ := hy
    have := hx ws t1
    rw [hw] at this; cases this
    exact pair_new s hT r
theorem sim_enum {W : WX} {l : Expr} {m : Env → M Val} {p pos tpos : Pos} {elts : List Expr} {kk : Nat} (hg : Gl X "enumerate") (hm : X.mg "enumerate" = none) (hl : PE X l (tE X.K W m)) (hs : starEach [l] X.env = [(false, eval l X.env)]) : PI X (.Tuple elts kk tpos) (.Call (.Name "enumerate" p) [l] [] pos) (tI X.K W fun env => bnd (m env) fun v => fun st => match itemsOf st v with
    | some is => match is.at_ with
      | none => .ok ⟨enumFrom 0 is.xs, none⟩ st
      | some (.at l) => .ok ⟨enumFrom 0 is.xs, some (.en l)⟩ st
      | some (.en _) => .stuck
    | none => .stuck) := by
  refine PI.imp (pi_enum2 hg hm (pa_cons hl pa_nil hs) hs) fun σ H R h => ?_
  obtain ⟨ρ, env, st, rE, rS, p⟩ := h
  refine ⟨ρ, env, st, rE, rS, PostI.bnd p fun v st1 ρ1 x H1 e1 s1 q1 p1 => ?_⟩
  cases q1 with
  | tup t q =>
    have hl := q.length
    exact ⟨_, _, rfl, .inl ⟨t.sq, fun hz => p1 (by rw [enum_len, hl]; exact hz) ρ1 _ H1 (.refl _ _) s1 (IteT.ok t q)⟩⟩
  | lst t n q =>
    have hl := q.length
    exact ⟨_, _, rfl, .inr ⟨.of t, fun hz => p1 (by rw [enum_len, hl]; exact hz) ρ1 _ H1 (.refl _ _) s1 (Ite.ok t n q)⟩⟩
  | @loc l a h =>
    cases e : st1[l]? with
    | none =>
      have : itemsOf st1 (.loc l) = none := by simp only [itemsOf, e]
      rw [this] at p1
      exact p1.elim
    | some o =>
      cases o with
      | lst vs =>
        have : itemsOf st1 (.loc l) = some ⟨vs, some (.at l)⟩ := by simp only [itemsOf, e]
        rw [this] at p1
        obtain ⟨u, e3, e4⟩ := s1.at_ l a _ h e
        cases e4 with
        | lst q =>
          have hl := q.length
          exact ⟨_, _, rfl, .inr ⟨.of e3, fun hz => p1 (by rw [enum_len, hl]; exact hz) ρ1 _ H1 (.refl _ _) s1 (Ite.okLoc h)⟩⟩
      | _ =>
        have : itemsOf st1 (.loc l) = none := by simp only [itemsOf, e]
        rw [this] at p1
        exact p1.elim
  | _ => exact p1.elim
theorem rngOk_of {i j : Int} (h : rngOk i j = true) : -(2 ^ 62) ≤ i ∧ i < 2 ^ 62 ∧ -(2 ^ 62) ≤ j ∧ j < 2 ^ 62 ∧ (j - i).toNat ≤ sizeLine := by
  rw [rngOk_eq] at h
  unfold rngRaw at h
  simp only [Bool.and_eq_true] at h
  exact ⟨of_decide_eq_true h.1.1.1.1, of_decide_eq_true h.1.1.1.2, of_decide_eq_true h.1.1.2, of_decide_eq_true h.1.2, of_decide_eq_true h.2⟩
theorem rangeV_length (i j : Int) : (rangeV i j).length = (j - i).toNat := by
  unfold rangeV
  rw [List.length_map, List.length_range]
theorem post_asInt_I {K : PySem.W.Frag} {W : WX} {σ : L2.St} {ρ : Pl} {H : Hp} {R' : L2.It → Hp → Prop} {v : Val} {f : Int → M Items} {st : Store} (h : PostI K W σ ρ H R' (Rc.bnd (asInt v) f st)) : ∃ b, v = .int b ∧ PostI K W σ ρ H R' (f b st) := by
  cases v <;> first | exact h.elim | exact ⟨_, rfl, h⟩
theorem sim_chars {W : WX} {l : Expr} {m : Env → M Val} (hl : PE X l (tE X.K W m)) : PI X tg l (tI X.K W fun env => bnd (bnd (m env) Rc.asStr) fun z => if szOk z.length = true then ret ⟨z.cps.toList.map fun c => .str ⟨#[c]⟩, none⟩ else stuck) := by
  refine PI.imp (pi_str hl) fun σ H R h => ?_
  obtain ⟨ρ, env, st, rE, rS, p⟩ := h
  dsimp only at p
  rw [bnd_assoc] at p
  refine ⟨ρ, env, st, rE, rS, PostI.bnd p fun v st1 ρ1 x H1 e1 s1 q1 p1 => ?_⟩
  cases q1 with
  | str z =>
    refine ⟨z, rfl, ?_⟩
    have p2 : PostI X.K W σ ρ1 H1 R ((if szOk z.length = true then ret (⟨z.cps.toList.map fun c => .str ⟨#[c]⟩, none⟩ : Items) else stuck) st1) := p1
    split at p2
    · rename_i hz
      exact p2 (by show (z.cps.toList.map fun c => Val.str ⟨#[c]⟩).length ≤ _; rw [List.length_map, Array.length_toList]; exact of_decide_eq_true hz) ρ1 _ H1 (.refl _ _) s1 Its.ok
    · exact p2.elim
  | _ => exact p1.elim
theorem sim_rng1 {W : WX} {a : Expr} {m : Env → M Val} {p pos : Pos} (hg : Gl X "range") (hm : X.mg "range" = none) (ha : PE X a (tE X.K W m)) (hs : starEach [a] X.env = [(false, eval a X.env)]) :
    PI X tg (.Call (.Name "range" p) [a] [] pos) (tI X.K W fun env => bnd (bnd (m env) asInt) fun j => if rngOk 0 j = true then ret ⟨rangeV 0 j, none⟩ else stuck) := by
  refine PI.imp (pi_range1 hg hm (pa_cons ha pa_nil hs) hs) fun σ H R h => ?_
  obtain ⟨ρ, env, st, rE, rS, p⟩ := h
  dsimp only at p
  rw [bnd_assoc] at p
  refine ⟨ρ, env, st, rE, rS, PostI.bnd p fun v st1 ρ1 x H1 e1 s1 q1 p1 => ?_⟩
  obtain ⟨j, rfl, p2⟩ := post_asInt_I p1
  cases q1
  split at p2
  · rename_i hr
    obtain ⟨_, _, h3, h4, h5⟩ := rngOk_of hr
    refine ⟨j, rfl, h3, h4, ?_⟩
    have := p2 (by show (rangeV 0 j).length ≤ _; rw [rangeV_length]; exact h5) ρ1 _ H1 (.refl _ _) s1 (Itr.ok 0 j)
    rw [Int.sub_zero] at this
    exact this
  · exact p2.elim
theorem sim_rng2 {W : WX} {a b : Expr} {m m2 : Env → M Val} {p pos : Pos} (hg : Gl X "range") (hm : X.mg "range" = none) (ha : PE X a (tE X.K W m)) (hb : PE X b (tE X.K W m2)) (hs : starEach [a, b] X.env = [(false, eval a X.env), (false, eval b X.env)]) (hs2 : starEach [b] X.env = [(false, eval b X.env)]) :
    PI X tg (.Call (.Name "range" p) [a, b] [] pos) (tI X.K W fun env => bnd (bnd (m env) asInt) fun i => bnd (bnd (m2 env) asInt) fun j => if rngOk i j = true then ret ⟨rangeV i j, none⟩ else stuck) := by
  refine PI.imp (pi_range2 hg hm (pa_cons ha (pa_cons hb pa_nil hs2) (by rw [hs, hs2])) hs hs2) fun σ H R h => ?_
  obtain ⟨ρ, env, st, rE, rS, p⟩ := h
  dsimp only at p
  rw [bnd_assoc] at p
  refine ⟨ρ, env, st, rE, rS, PostI.bnd p fun v st1 ρ1 x H1 e1 s1 q1 p1 => ?_⟩
  obtain ⟨i, rfl, p1a⟩ := post_asInt_I p1
  cases q1
  rw [bnd_assoc] at p1a
  refine ⟨ρ1, env, st1, rE.ext e1, s1, PostI.bnd p1a fun v st2 ρ2 x H2 e2 s2 q2 p2 => ?_⟩
  obtain ⟨j, rfl, p2a⟩ := post_asInt_I p2
  cases q2
  split at p2a
  · rename_i hr
    obtain ⟨h1, h2, h3, h4, h5⟩ := rngOk_of hr
    exact ⟨i, j, rfl, ⟨h1, h2, h3, h4⟩, p2a (by show (rangeV i j).length ≤ _; rw [rangeV_length]; exact h5) ρ2 _ H2 (.refl _ _) s2 (Itr.ok i j)⟩
  · exact p2a.elim
end

/-! ### targets -/
def gNames : List Nat → TGs
  | [] => gNil
  | i :: is => gCons (gName i) (gNames is)
def gTg (K : PySem.W.Frag) : Tg → TG
  | .nm i => gName i
  | .tup is => gTup K is.length (gNames is)
/-- the slots of a target stand -/
def tgIn (n : Nat) : Tg → Prop
  | .nm i => i < n
  | .tup is => ∀ i ∈ is, i < n
def tgSub (vs : List Nat) : Tg → Prop
  | .nm i => i ∈ vs
  | .tup is => ∀ i ∈ is, i ∈ vs
theorem wipe_out_set (σ : L2.St) : ∀ (us : List Nat) {i : Nat} {x : Option V}, i ∉ us → L2.wipe (σ.set i x) us = (L2.wipe σ us).set i x
  | [], _, _, _ => rfl
  | u :: us, i, x, h => by
    show (L2.wipe (σ.set i x) us).set u none = ((L2.wipe σ us).set u none).set i x
    rw [wipe_out_set σ us fun m => h (by simp [m]), List.set_comm _ _ fun e => h (by simp [e])]
theorem wipe_set (σ : L2.St) : ∀ (us : List Nat) {i : Nat} {x : Option V}, i ∈ us → L2.wipe (σ.set i x) us = L2.wipe σ us
  | u :: us, i, x, h => by
    show (L2.wipe (σ.set i x) us).set u none = (L2.wipe σ us).set u none
    by_cases hu : i ∈ us
    · rw [wipe_set σ us hu]
    · have : i = u := by
        rcases List.mem_cons.mp h with h | h
        · exact h
        · exact absurd h hu
      subst this
      rw [wipe_out_set σ us hu, List.set_set]
  | [], _, _, h => by simp at h
theorem gNames_ok {K : PySem.W.Frag} {ρ : Pl} {H : Hp} {Q : L2.St → Hp → Prop} : ∀ {is : List Nat} {vs : List Val} {ws : List V} {env env' : Env} {σ : L2.St}, setAll is vs env = some env' → RepL K ρ H vs ws → RelE K ρ H env σ → (∀ i ∈ is, i < σ.length) →
    (∀ σ', RelE K ρ H env' σ' → σ'.length = σ.length → (∀ us : List Nat, (∀ i ∈ is, i ∈ us) → L2.wipe σ' us = L2.wipe σ us) → Q σ' H) → gNames is ws σ H Q
  | [], [], _, _, _, _, e, .nil, rE, _, h => by
    cases e
    exact ⟨rfl, h _ rE rfl fun _ _ => rfl⟩
  | i :: is, v :: vs, _, env, env', σ, e, .cons (w := w) (ws := ws) r q, rE, hi, h => by
    refine ⟨w, ws, rfl, ?_⟩
    refine gNames_ok (is := is) (vs := vs) (env := env.set i (some v)) (env' := env') e q (rE.set i (hi i (by simp)) r) (fun j hj => by rw [List.length_set]; exact hi j (by simp [hj])) fun σ' r' l' w' => ?_
    refine h σ' r' (by rw [l', List.length_set]) fun us hu => ?_
    rw [w' us fun j hj => hu j (by simp [hj])]
    exact wipe_set _ us (hu i (by simp))
  | [], _ :: _, _, _, _, _, e, _, _, _, _ => by cases e
  | _ :: _, [], _, _, _, _, e, _, _, _, _ => by cases e
theorem wipe_wipe (σ : L2.St) : ∀ (us vs : List Nat), (∀ i ∈ us, i ∈ vs) → L2.wipe (L2.wipe σ us) vs = L2.wipe σ vs
  | [], _, _ => rfl
  | u :: us, vs, h => by
    show L2.wipe ((L2.wipe σ us).set u none) vs = L2.wipe σ vs
    rw [wipe_set _ vs (h u (by simp))]
    exact wipe_wipe σ us vs fun i hi => h i (by simp [hi])
theorem setAll_len : ∀ {is : List Nat} {vs : List Val} {env env' : Env}, setAll is vs env = some env' → vs.length = is.length
  | [], [], _, _, _ => rfl
  | _ :: is, _ :: vs, _, _, e => by
    rw [List.length_cons, List.length_cons, setAll_len (is := is) (vs := vs) e]
  | [], _ :: _, _, _, e => by cases e
  | _ :: _, [], _, _, e => by cases e
theorem gTg_ok {K : PySem.W.Frag} {ρ : Pl} {H : Hp} {Q : L2.St → Hp → Prop} {tg : Tg} {v : Val} {w : V} {env env' : Env} {σ : L2.St} (e : assignTg tg v env = some env') (r : Rep K ρ H v w) (rE : RelE K ρ H env σ) (hi : tgIn σ.length tg)
    (h : ∀ σ', RelE K ρ H env' σ' → σ'.length = σ.length → (∀ us : List Nat, tgSub us tg → L2.wipe σ' us = L2.wipe σ us) → Q σ' H) : gTg K tg w σ H Q := by
  cases tg with
  | nm i =>
    cases e
    exact h _ (rE.set i hi r) (List.length_set ..) fun us hu => wipe_set σ us hu
  | tup is =>
    unfold assignTg at e
    dsimp only at e
    split at e
    · rename_i vs
      cases r with
      | @tup a ws _ t q =>
        refine ⟨a, ws, rfl, t.sq, ?_, gNames_ok e q rE hi h⟩
        rw [← q.length]
        exact setAll_len e
    · cases e

/-! ### comprehensions -/
def F0 : WX := fun _ _ _ _ => False
theorem RelS.resv {K : PySem.W.Frag} {ρ : Pl} {st : Store} {H : Hp} {D : Addr} {o : HO} (r : RelS K ρ st H) (h : D ∈ ρ.rs) : RelS K ρ st (upd H D o) := by
  have hD := (r.rs D h).1
  refine ⟨r.len, r.nd, fun l a q e1 e2 => ?_, fun a ha => ⟨(r.rs a ha).1, ?_⟩⟩
  · obtain ⟨u, e3, e4⟩ := r.at_ l a q e1 e2
    have : a ≠ D := fun z => hD (z ▸ List.mem_of_getElem? e1)
    exact ⟨u, by rw [upd_ne this]; exact e3, e4.ext0 (.wrote (.inr h))⟩
  · by_cases z : a = D
    · subst z; exact ⟨o, upd_same⟩
    · rw [upd_ne z]; exact (r.rs a ha).2
section
variable {K : PySem.W.Frag} {W : WX} {σ : L2.St} {ρ ρ1 : Pl} {H H1 : Hp} {Q : VK}
theorem lc_done {new : Bool} {is : Items} {st st1 : Store} {D : Addr} {acc : List Val} {wacc : List V} (nD : H1 D = none) (s1 : RelS K ρ1 st1 H1) (e0 : Ext0 ρ1 H1 ρ H) (ers : ρ.rs = D :: ρ1.rs) (rk : ∀ a ∈ ρ1.rs, H a = H1 a) (rS : RelS K ρ st H) (hD : H D = some (.lst wacc)) (q : RepL K ρ H acc wacc)
    (p : Post K (Rep K) W σ ρ1 H1 Q (open Classical in if Still is st then mk new (.l acc) st else .stuck)) : Q (.ref D) H := by
  have hDr : D ∈ ρ.rs := by rw [ers]; simp
  have nDp : D ∉ ρ.ps := (rS.rs D hDr).1
  have nD1 : D ∉ ρ1.rs := fun m => by
    obtain ⟨o, e⟩ := (s1.rs D m).2
    rw [nD] at e; cases e
  split at p
  · cases new with
    | false =>
      have e1 : Ext0 ρ H ⟨ρ.ps, ρ1.rs⟩ H := ⟨fun a o h n => ⟨h, fun m => n (by
        rcases m with m | m
        · exact .inl m
        · exact .inr (by rw [ers]; simp [m]))⟩, List.prefix_refl _⟩
      have p' : Post K (Rep K) W σ ρ1 H1 Q (.ok (.lst acc) st) := p
      refine p' ⟨ρ.ps, ρ1.rs⟩ (.ref D) H ⟨⟨fun a o h n => ?_, e0.pre⟩, rfl, rk⟩ ⟨rS.len, rS.nd, fun l a o h1 h2 => ?_, fun a ha => ?_⟩ (.lst hD (fun m => ?_) (q.ext0 e1))
      · have := e0.keep a o h n
        exact ⟨this.1, (e1.keep a o this.1 this.2).2⟩
      · obtain ⟨u, h3, h4⟩ := rS.at_ l a o h1 h2
        exact ⟨u, h3, h4.ext0 e1⟩
      · exact rS.rs a (by rw [ers]; simp [ha])
      · rcases m with m | m
        · exact nDp m
        · exact nD1 m
    | true =>
      have e1 : Ext0 ρ H ⟨ρ.ps ++ [D], ρ1.rs⟩ H := ⟨fun a o h n => ⟨h, fun m => n (by
        rcases m with m | m
        · rcases List.mem_append.mp m with m | m
          · exact .inl m
          · exact .inr (by rw [List.mem_singleton.mp m]; exact hDr)
        · exact .inr (by rw [ers]; simp [m]))⟩, List.prefix_append _ _⟩
      have p' : Post K (Rep K) W σ ρ1 H1 Q (.ok (.loc st.length) (st ++ [.lst acc])) := p
      refine p' ⟨ρ.ps ++ [D], ρ1.rs⟩ (.ref D) H ⟨⟨fun a o h n => ?_, e0.pre.trans (List.prefix_append _ _)⟩, rfl, rk⟩ ⟨by simp [rS.len], ?_, fun l a o h1 h2 => ?_, fun a ha => ⟨fun m => ?_, ?_⟩⟩ (.loc ?_)
      · have := e0.keep a o h n
        exact ⟨this.1, (e1.keep a o this.1 this.2).2⟩
      · show (ρ.ps ++ [D]).Nodup
        rw [List.nodup_append]
        exact ⟨rS.nd, by simp, fun a ha b hb => by rw [List.mem_singleton.mp hb]; exact fun z => nDp (z ▸ ha)⟩
      · have h1 : (ρ.ps ++ [D])[l]? = some a := h1
        by_cases hl : l < ρ.ps.length
        · rw [List.getElem?_append_left hl] at h1
          rw [List.getElem?_append_left (rS.len ▸ hl)] at h2
          obtain ⟨u, h3, h4⟩ := rS.at_ l a o h1 h2
          exact ⟨u, h3, h4.ext0 e1⟩
        · rw [List.getElem?_append_right (Nat.le_of_not_lt hl)] at h1
          rw [List.getElem?_append_right (Nat.le_of_not_lt (rS.len ▸ hl))] at h2
          have z : l - ρ.ps.length = 0 := by
            have := (List.getElem?_eq_some_iff.mp h1).1
            simp at this; omega
          rw [z] at h1
          rw [← rS.len, z] at h2
          simp at h1 h2
          subst h1; subst h2
          exact ⟨_, hD, .lst (q.ext0 e1)⟩
      · rcases List.mem_append.mp m with m | m
        · exact (rS.rs a (by rw [ers]; simp [ha])).1 m
        · exact nD1 (List.mem_singleton.mp m ▸ ha)
      · exact (rS.rs a (by rw [ers]; simp [ha])).2
      · show (ρ.ps ++ [D])[st.length]? = some D
        rw [← rS.len]; simp
  · exact p.elim
end
end Rc
/-! LcX: a list comprehension as a value, an exception of whose turns may leave. -/
namespace L2
open PySem PySem.Spec PyProof.Rows

theorem noteFrame_eq {x : Value} {e e' : Env} (h : e.frame = e'.frame) : noteFrame x e = noteFrame x e' := by
  unfold noteFrame PySem.frameOf
  rw [h]

/-- noted, whatever its flight is -/
theorem note_any {M : Model} {A : Around} {E : Value → Shared → Prop} {s : Shared} {Z : Obj → Prop} {base : Heap} {env : Env} {outer : List Env} {L e : Addr} {fl : Value} {Q : Unit → Shared → Prop} (hZ : HandSPX.Steady Z) (hfr : A.frames = some (env :: outer)) (hf : env.frame = some L)
    (hkb : base.StaysIn s.heap) (hen : base.get? e = none) (hl : s.heap.FunFrames base (env :: outer)) (ht : HandSPX.TracedZ s.heap base e Z fl)
    (hQ : ∀ h', HandSPX.HeldZ base (env :: outer) e Z L h' → s.heap.UpToSlots h' → Q () { s with heap := h' }) : wpAny M A (noteFrame (.ref e) env) Q E s := by
  by_cases hfl : fl = rawInt L
  · subst hfl
    exact HandSPX.againZ hf ht (hQ s.heap ⟨hkb, hen, hl, ht⟩ (Heap.UpToSlots.refl _))
  · obtain ⟨oe, vs, T, oT, ts, he, hz, hd, h1, hnT, hTe, hT, hdT, h3⟩ := ht
    unfold noteFrame
    simp only [hf]
    refine wpAny_bind (wpAny_field he hd h1 ?_)
    rw [if_pos (show (Value.ref T != Value.none) = true from by simp)]
    refine wpAny_bind (wpAny_field hT hdT h3 ?_)
    rw [if_neg (show ¬ ((fl == rawInt L) = true) from by simpa using hfl)]
    refine wpAny_bind (wpAny_setField hT hdT (Array.getElem?_eq_some_iff.mp h3).1 ?_)
    have other : ∀ b, b ≠ T → (s.heap.update T (Obj.mapFields (·.setIfInBounds 3 Value.none))).get? b = s.heap.get? b := fun b hb => Heap.get?_update_other _ _ (Ne.symm hb)
    have noRecord : ∀ b o, s.heap.get? b = some o → (∀ vs, o.data ≠ .fields vs) → b ≠ T := fun b o hb hnf q => by
      rw [q, hT] at hb; injection hb with hb; subst hb; exact hnf ts hdT
    refine HandSPX.wpAny_entryZ hZ hfr (hl.of_keeps fun b o hb hnf => ⟨o, (other b (noRecord b o hb hnf)).trans hb, rfl⟩) hf ((other e (Ne.symm hTe)).trans he)
      (fun b o hbo => (other b fun q => by rw [q, hnT] at hbo; cases hbo).trans (hkb b o hbo)) hen hd (Array.getElem?_eq_some_iff.mp h1).1 hz fun h' hN => ?_
    obtain ⟨x1, x2, x3, x4⟩ := hN
    exact hQ h' ⟨x1, hen, x2, x3⟩ fun b o hb hnf => x4 b o ((other b (noRecord b o hb hnf)).trans hb) hnf

/-- fresh, or noted, its flight anything -/
def SkyG (B : Heap) (l : List Env) (a : Addr) (Z : Obj → Prop) (h : Heap) : Prop :=
  B.StaysIn h ∧ B.get? a = none ∧ h.FunFrames B l ∧ ((∃ oe vs, h.get? a = some oe ∧ Z oe ∧ oe.data = .fields vs ∧ vs[1]? = some .none) ∨ ∃ fl, HandSPX.TracedZ h B a Z fl)
theorem Sky.g {B : Heap} {l : List Env} {a : Addr} {Z : Obj → Prop} {L : Addr} {h : Heap} (x : Sky B l a Z L h) : SkyG B l a Z h := by
  rcases x with ⟨h1, h2, h3, h4⟩ | ⟨h1, h2, h3, h4⟩ | ⟨h1, h2, h3, h4⟩
  · exact ⟨h1, h2, h3, .inl h4⟩
  · exact ⟨h1, h2, h3, .inr ⟨_, h4⟩⟩
  · exact ⟨h1, h2, h3, .inr ⟨_, h4⟩⟩
/-- an exception in the air of X, what is known of its flight told by S -/
def XS (X : Cx) (S : Heap → List Env → Addr → (Obj → Prop) → Heap → Prop) (W : WX) (u : Value) (s' : Shared) : Prop :=
  ∃ (a : Addr) (B : Heap) (sI : Shared) (pins : List (Addr × Obj)) (σ : St) (H : Hp) (cls : Value) (d : Option Addr),
    u = .ref a ∧ Inv X pins σ H sI ∧ (∀ b o, sI.heap.get? b = some o → b ∉ frs X.stack → B.get? b = some o) ∧ sI.heap.UpToSlots s'.heap ∧
      S B X.stack a (Zc cls d) s'.heap ∧ H a = none ∧ s'.os = sI.os ∧ AllBare s'.gens ∧ W cls d σ H
/-- it is in flight over the frame L -/
def TakesL (X : Cx) (L : Addr) (W : WX) : Prop := ∀ u s', XS X (fun B l a Z h => HandSPX.HeldZ B l a Z L h) W u s' → X.xe u s'
theorem Takes.l {X : Cx} {W : WX} (tk : Takes X W) : TakesL X X.env.locals W := fun u s' ⟨a, B, sI, pins, σ, H, cls, d, e, I, nb, up, sky, na, os, ag, w⟩ =>
  tk u s' ⟨a, B, sI, pins, σ, H, cls, d, e, I, nb, up, .inr (.inr sky), na, os, ag, w⟩

theorem takesL0 {X : Cx} {L : Addr} : TakesL X L (fun _ _ _ _ => False) := fun _ _ ⟨_, _, _, _, _, _, _, _, _, _, _, _, _, _, _, _, w⟩ => w.elim
/-- a comprehension's block, its exceptions taken as W says -/
abbrev Cx.blkX (X : Cx) (s : Shared) (H : Hp) (scope : Scope) (cenv : Env) (fp : List Addr) (W : WX) : Cx := (X.blk s H scope cenv fp).tr [] (XS (X.blk s H scope cenv fp) SkyG W)
section
variable {X : Cx} {s : Shared} {H : Hp} {scope : Scope} {cenv : Env} {fp : List Addr} {W : WX}
theorem blkX_in {σ : St} {H' : Hp} {s' : Shared} (I : Inv (X.blk s H scope cenv fp) [] σ H' s') : Inv (X.blkX s H scope cenv fp W) [] σ H' s' := I.toTry _
theorem blkX_out {pins : List (Addr × Obj)} {σ : St} {H' : Hp} {s' : Shared} (I : Inv (X.blkX s H scope cenv fp W) pins σ H' s') : Inv (X.blk s H scope cenv fp) [] σ H' s' := I.ofTry (pins := []) (Cx.Ok.ofTry I.ok)
theorem takes_blk : Takes (X.blkX s H scope cenv fp W) W := fun u s' ⟨a, B, sI, pins, σ, H, cls, d, e, I, nb, up, sky, na, os, ag, w⟩ =>
  ⟨a, B, sI, [], σ, H, cls, d, e, blkX_out I, nb, up, sky.g, na, os, ag, w⟩
theorem takesL_blk {L : Addr} : TakesL (X.blkX s H scope cenv fp W) L W := fun u s' ⟨a, B, sI, pins, σ, H, cls, d, e, I, nb, up, ⟨h1, h2, h3, h4⟩, na, os, ag, w⟩ =>
  ⟨a, B, sI, [], σ, H, cls, d, e, blkX_out I, nb, up, ⟨h1, h2, h3, .inr ⟨_, h4⟩⟩, na, os, ag, w⟩
end

theorem funFrames_but {h h' B B' : Heap} {C : Addr} : ∀ {l : List Env}, h.FunFrames B l → (∀ b, b ≠ C → h'.get? b = h.get? b) → (∀ b, B.get? b = none → B'.get? b = none) → C ∉ frs l → h'.FunFrames B' l
  | [], _, _, _, _ => trivial
  | env :: l, ⟨hk, ⟨L, o, hf, hb, ho, hd⟩, hr⟩, k, kb, hc => by
    have hL : L ∈ frs (env :: l) := List.mem_filterMap.mpr ⟨env, List.mem_cons_self, hf⟩
    refine ⟨hk, ⟨L, o, hf, kb L hb, (k L fun e => hc (e ▸ hL)).trans ho, hd⟩, funFrames_but hr k kb fun hm => hc ?_⟩
    obtain ⟨e, he, q⟩ := List.mem_filterMap.mp hm
    exact List.mem_filterMap.mpr ⟨e, List.mem_cons_of_mem _ he, q⟩

def postX (M : Model) (A : Around) (E : Value → Shared → Prop) (Q : Value → Shared → Prop) (acc : Value) (ce : Env) (r : Result) (s' : Shared) : Prop :=
  match r with
  | .ok _ => ∃ m, s'.heap.Ns ce.locals m ∧ ∀ h', Heap.SameBut ce.locals s'.heap h' → Q acc { s' with heap := h' }
  | .error x => ∃ m, s'.heap.Ns ce.locals m ∧ ∀ h', Heap.SameBut ce.locals s'.heap h' → wpAny M A (PySem.passOn "comprehension.variables-let-go" x ce : Sem Value) (fun _ _ => False) E { s' with heap := h' }

theorem comp_freeX {M : Model} {A : Around} {E : Value → Shared → Prop} {s : Shared} {env : Env} {e : Expr} {scope : Scope} {pos : Pos} {newAcc first : Sem Value} {g : Comprehension} {gs : List Comprehension} {cl : List (Str × Addr)} {Q : Value → Shared → Prop}
    (hcl : clausesOf e = g :: gs) (hs : ∀ x, foldedSetIterable g.iter env x = pure x) (hclos : closureFor scope env = pure cl)
    (hkind : scope.kind = .function) (hnames : ∀ x ∈ scope.names, x.2 = .local → scope.names.lookup x.1 = some .local)
    (h : wpAny M A first (fun x s₁ => wpAny M A (pyIter x) (fun it s₂ => wpAny M A newAcc (fun acc s₃ =>
      wpAny M A (newFunctionEnv scope env.globals cl [] env.qual none .none (some env)) (fun cenv s₄ =>
        codeAny M A (.compStart e 0 it acc { cenv with scope := relabel scope env }) (postX M A E Q acc { cenv with scope := relabel scope env }) s₄) E s₃) E s₂) E s₁) E s) :
    wpAny M A (comprehension e scope env pos newAcc false first none) Q E s := by
  unfold comprehension
  rw [hclos, hcl]
  refine wpAny_bind (wpAny_mono h (fun x s₁ h₁ => wpAny_bind (wpAny_standAt (wpAny_bind (wpAny_of_eq (hs x) (wpAny_bind (wpAny_holding (wpAny_mono h₁ (fun it s₂ h₂ =>
    wpAny_standIf (wpAny_bind (wpAny_mono h₂ (fun acc s₃ h₃ => wpAny_bind (wpAny_pure (wpAny_bind (wpAny_mono h₃ (fun cenv s₄ h₄ => ?_) fun _ _ h' => h')))) fun _ _ h' => h')))
      fun _ _ h' => h'))))))) fun _ _ h' => h')
  dsimp only
  have hv : ∀ x ∈ (scope.names.filter fun x => (x.2 == .local || x.2 == .cell) && x.1 != (".0" : Str)).reverse, x.2 = .local →
      Env.kindOf { cenv with scope := relabel scope env } x.1 = some .local := fun x hx hl => lookup_relabel_local (hnames x (List.mem_filter.mp (List.mem_reverse.mp hx)).1 hl)
  refine wpAny_holding (wpAny_bind (wpAny_attempt (wpAny_holding (wpAny_run (codeAny_mono h₄ fun r s' hr => ?_)))))
  cases r with
  | ok f =>
    obtain ⟨m, hn, hr⟩ := hr
    exact wpAny_bind (wpAny_holding (wpAny_comp_letGo (cenv := { cenv with scope := relabel scope env }) hkind _ s' m hv hn fun h' m' _ hs' => wpAny_pure (hr h' hs')))
  | error x =>
    obtain ⟨m, hn, hr⟩ := hr
    exact wpAny_bind (wpAny_holding (wpAny_comp_letGo (cenv := { cenv with scope := relabel scope env }) hkind _ s' m hv hn fun h' m' _ hs' => wpAny_mono (hr h' hs') (fun _ _ f => f.elim) fun _ _ y => y))

/-- [elt for target in iter if ..], an exception of its turns leaves as W says -/
def tLcX (W : WX) (wi : TI) (g : TG) (tt : TT) (te : WX → TE) (vs : List Nat) : TE := fun σ H Q => tLc wi g tt (te fun c d _ H' => W c d σ H') vs σ H Q
section
variable {X : Cx}
/-- an exception within the block leaves it -/
theorem blk_leaves {pins : List (Addr × Obj)} {σ : St} {H3 : Hp} {s3 : Shared} {scope : Scope} {ce : Env} {fp : List Addr} {W : WX} {E₀ : Env} {out : List Env} {L : Addr} {Qf : Value → Shared → Prop} {acc : Value} (I3 : Inv X pins σ H3 s3) (hs1 : X.stack = E₀ :: out) (hs2 : E₀.frame = some L) (hcf : ce.frame = some L) (cL : ce.locals = s3.heap.objs.size) (tk : TakesL X L W)
    (hfp : ∀ b ∈ fp, FpOk X pins H3 b) {u : Value} {s' : Shared} (x : XS (X.blk s3 H3 scope ce fp) SkyG (fun c d _ H' => W c d σ H') u s') :
    notedBy (model X.prog X.w) X.A ce (fun e s'' => postX (model X.prog X.w) X.A X.xe Qf acc ce (.error e) s'') u s' := by
  obtain ⟨a, B, sI, pins', σ', H', cls, d, rfl, I, nb, up, sky, na, os, ag, w⟩ := x
  have hfr : X.A.frames = some (E₀ :: out) := by rw [I3.ok.frames, hs1]
  unfold notedBy
  rw [noteFrame_eq (e' := E₀) (hcf.trans hs2.symm)]
  have nb : ∀ b o, sI.heap.get? b = some o → b ∉ frs X.stack → B.get? b = some o := nb
  have sky : SkyG B X.stack a (Zc cls d) s'.heap := sky
  have os : s'.os = sI.os := os
  have up : sI.heap.UpToSlots s'.heap := up
  -- back in the def's context
  have I7 : Inv X pins σ H' sI := I3.call' (ch := fp) I.os I.base I.hok I.bare fun b hb => ⟨(hfp b hb).2.2.2.1, (hfp b hb).2.1, (hfp b hb).2.2.2.2.1, (hfp b hb).2.2.2.2.2⟩
  have nC : H' s3.heap.objs.size = none := by
    have z : H' ce.locals = none := I.free
    rw [cL] at z
    exact z
  obtain ⟨m, hn, _⟩ := I.loc
  have hn : sI.heap.Ns ce.locals m := hn
  have fC := I3.fpOk (Nat.le_refl _) nC
  rw [← cL] at fC nC
  obtain ⟨f0, f1, f2, f3, f4, f5⟩ := fC
  have hCs : ce.locals ∉ frs X.stack := fun hm => by
    rcases List.mem_cons.mp (I3.stkSub _ hm) with z | z
    · exact f1 z
    · exact f2 z
  have key : ∀ h1, HandSPX.HeldZ B (E₀ :: out) a (Zc cls d) L h1 → s'.heap.UpToSlots h1 → postX (model X.prog X.w) X.A X.xe Qf acc ce (.error (.ref a)) { s' with heap := h1 } := by
    rintro h1 ⟨g1, g2, g3, oe, vs, T, oT, ts, he, hz, hd, hv1, hnT, hTe, hT, hdT, h3⟩ up1
    obtain ⟨oC, es, ep, hoC, hdC, rC⟩ := hn
    have hoC1 : h1.get? ce.locals = some oC := g1 _ _ (nb _ _ hoC hCs)
    refine ⟨m, ⟨oC, es, ep, hoC1, hdC, rC⟩, fun h2 sb => ?_⟩
    have aC : a ≠ ce.locals := fun e => by
      rw [e, hoC1] at he
      cases he
      rw [hdC] at hd
      cases hd
    have tC : T ≠ ce.locals := fun e => by
      rw [e, hoC1] at hT
      cases hT
      rw [hdC] at hdT
      cases hdT
    obtain ⟨B2, hB2⟩ : ∃ B2, B2 = PySem.W.hideAll B [ce.locals] := ⟨_, rfl⟩
    have ob : ∀ b o, B2.get? b = some o → B.get? b = some o ∧ b ≠ ce.locals := fun b o e => by
      rw [hB2] at e
      refine ⟨PySem.W.of_hideAll _ e, fun z => ?_⟩
      rw [PySem.W.hideAll_none [ce.locals] (by rw [z]; exact List.mem_cons_self)] at e
      cases e
    have bn : ∀ b, B.get? b = none → B2.get? b = none := fun b e => by
      cases q : B2.get? b with
      | none => rfl
      | some o => rw [(ob b o q).1] at e; cases e
    have k1 : B2.StaysIn h2 := fun b o e => (sb.2 b (ob b o e).2).trans (g1 b o (ob b o e).1)
    rw [← hs1] at g3
    have k3 : h2.FunFrames B2 X.stack := funFrames_but g3 sb.2 bn hCs
    have k4 : HandSPX.TracedZ h2 B2 a (Zc cls d) (rawInt L) := ⟨oe, vs, T, oT, ts, (sb.2 a aC).trans he, hz, hd, hv1, bn T hnT, hTe, (sb.2 T tC).trans hT, hdT, h3⟩
    unfold PySem.passOn
    refine wpAny_bind (wpAny_field ((sb.2 a aC).trans he) hd hv1 ?_)
    rw [if_neg (show ¬ ((Value.ref T == Value.none) = true) from by simp)]
    refine wpAny_bind (HandSPX.setFlight_anyZ (fr := ce.frame) k1 k3 k4 fun h4 j1 j2 j3 j4 => wpAny_throw ?_)
    rw [hcf] at j3
    refine tk _ _ ⟨a, B2, { sI with heap := PySem.W.hideAll sI.heap [ce.locals] }, pins, σ, H', cls, d, rfl, ?_, fun b o e hb => ?_, fun b o e hnf => ?_, ⟨j1, bn a g2, j2, j3⟩, na, os, ag, w⟩
    · exact I7.turned (t' := sI.toks) (it := ce.locals) (fun b o hb e => PySem.W.hideAll_get _ e (by simpa using hb)) nC f1 f3 f4 f5
    · have e1 := PySem.W.of_hideAll _ e
      rw [hB2]
      refine PySem.W.hideAll_get _ (nb b o e1 hb) fun hm => ?_
      rw [PySem.W.hideAll_none [ce.locals] hm] at e
      cases e
    · have e1 := PySem.W.of_hideAll _ e
      have hb : b ≠ ce.locals := fun z => by
        rw [PySem.W.hideAll_none [ce.locals] (by rw [z]; exact List.mem_cons_self)] at e
        cases e
      obtain ⟨sl, q1⟩ := (up.trans up1) b o e1 hnf
      obtain ⟨sl2, q2⟩ := j4 b { o with slots := sl } ((sb.2 b hb).trans q1) hnf
      exact ⟨sl2, q2⟩
  obtain ⟨g1, g2, g3, sky⟩ := sky
  rw [hs1] at g3
  rcases sky with ⟨oe, vs, he, hz, hd, h1⟩ | ⟨fl, ht⟩
  · exact HandSPX.look_newZ Zc.steady hfr g3 hs2 he g1 g2 hd h1 hz key
  · exact note_any Zc.steady hfr hs2 g1 g2 g3 ht key
/-- as a value -/
theorem pe_lcX {elt tg iter : Expr} {ifs : List Expr} {scope : Scope} {own : List (Str × Nat)} {pos : Pos} {wi : TI} {g : TG} {tt : TT} {te : WX → TE} {W : WX} {E₀ : Env} {out : List Env} {L : Addr} (hc : X.calm = true) (hN : X.N.Nodup) (hi : PI X tg iter wi) (ok : BlkOk X.N X.env.scope scope own) (hs1 : X.stack = E₀ :: out) (hs2 : E₀.frame = some L) (hs3_ : X.env.frame = some L) (tk : TakesL X L W)
    (hg : ∀ (s : Shared) (H : Hp) (C : Addr) (cl : List (Str × Addr)) (fp : List Addr) (W' : WX), PG (X.blkX s H scope (compEnvC scope cl C X.env) fp W') tg g) (ht : ∀ (s : Shared) (H : Hp) (C : Addr) (cl : List (Str × Addr)) (fp : List Addr) (W' : WX), PTs (X.blkX s H scope (compEnvC scope cl C X.env) fp W') ifs tt)
    (he : ∀ (s : Shared) (H : Hp) (C : Addr) (cl : List (Str × Addr)) (fp : List Addr) (W' : WX), PE (X.blkX s H scope (compEnvC scope cl C X.env) fp W') elt (te W')) (hs : ∀ x, foldedSetIterable iter X.env x = pure x := by intro _; rfl) :
    PE X (.ListComp elt [⟨tg, iter, ifs, 0⟩] scope pos) (tLcX W wi g tt te (own.map (·.2))) := by
  refine ⟨fun pins s σ H Q I h => ?_⟩
  rw [eval_ListComp]
  have hfree : ∀ y ∈ scope.names, y.2 = .free → ∃ c, X.env.cells.lookup y.1 = some c := fun y hy e => by
    rcases ok.free y hy e with k | k
    · exact I.ok.has _ (.inl k)
    · exact I.ok.has _ (.inr k)
  refine comp_freeX rfl hs (closure_ok hfree) ok.kind (fun y hy e => by rw [ok.uniq y hy, e])
    (thn (hi.run pins s σ H _ I h) fun xv s1 hx => thn hx fun itv s2 h2 => ?_)
  obtain ⟨it, fp, tn, J, H2, e, I2, T, st2, f2, q⟩ := h2
  subst e
  refine wpAny_newObj_type (newEnv_comp ?_) (by show 0 ≤ sizeLine; decide)
  generalize hD : s2.heap.objs.size = D
  have hDn : H2 D = none := I2.hok.fresh (Nat.le_of_eq hD)
  obtain ⟨Wn, ⟨m0, w0⟩, turn⟩ := q D hDn
  generalize hs3 : ({ s2 with heap := s2.heap.push { cls := .type "list", data := .seq ([] : List Value).toArray } } : Shared) = s3
  have I3 : Inv X pins σ (upd H2 D (.lst [])) s3 := by
    rw [← hs3]
    refine I2.laid (t' := s2.toks) (fun b o e => Heap.get?_push_of_some _ e) (Nat.le_of_eq hD) ⟨Nat.zero_le _, [], 0, .nil, ?_⟩
    rw [← hD]
    exact Heap.get?_push_size _ rfl
  have h3 : s3.heap = s2.heap.push { cls := .type "list", data := .seq ([] : List Value).toArray } := by rw [← hs3]
  have sz : ∀ b ∈ fp, b < s2.heap.objs.size := fun b hb => by
    obtain ⟨o, e, _⟩ := T.obj _ _ st2 b hb
    exact Heap.lt_size e
  have f3 : ∀ b ∈ fp, FpOk X pins (upd H2 D (.lst [])) b ∧ b < s3.heap.objs.size := fun b hb => by
    have hlt := sz b hb
    refine ⟨⟨?_, (f2 b hb).2⟩, by rw [h3, Heap.size_push]; exact Nat.lt_succ_of_lt hlt⟩
    rw [upd_ne (by rw [← hD]; exact Nat.ne_of_lt hlt)]
    exact (f2 b hb).1
  have st3 : tn 0 s3.heap := T.keep _ _ _ st2 fun b _ o e => by rw [h3]; exact Heap.get?_push_of_some _ e
  have I4 := block_start I3 ok hN f3
  obtain ⟨W', hW'⟩ : ∃ W' : WX, W' = fun c d _ H' => W c d σ H' := ⟨_, rfl⟩
  rw [← hW'] at turn
  have pg := hg s3 (upd H2 D (.lst [])) s3.heap.objs.size (cellsFrom (s3.heap.objs.size + 1) scope.names (cloFrom X.env.cells scope.names [])) fp W'
  have pt := ht s3 (upd H2 D (.lst [])) s3.heap.objs.size (cellsFrom (s3.heap.objs.size + 1) scope.names (cloFrom X.env.cells scope.names [])) fp W'
  have pe := he s3 (upd H2 D (.lst [])) s3.heap.objs.size (cellsFrom (s3.heap.objs.size + 1) scope.names (cloFrom X.env.cells scope.names [])) fp W'
  show codeAny _ _ (.compStart (.ListComp elt [⟨tg, iter, ifs, 0⟩] scope pos) 0 (.ref it) (.ref D) (compEnvC scope (cellsFrom (s3.heap.objs.size + 1) scope.names (cloFrom X.env.cells scope.names [])) s3.heap.objs.size X.env)) (postX (model X.prog X.w) X.A X.xe (EP X pins σ Q) (.ref D) (compEnvC scope (cellsFrom (s3.heap.objs.size + 1) scope.names (cloFrom X.env.cells scope.names [])) s3.heap.objs.size X.env)) { s3 with heap := pushCells (s3.heap.push { cls := .type "dict", data := .dict #[] }) scope.names }
  have nfp : ∀ b ∈ fp, (upd H2 D (.lst [])) b = none := fun b hb => (f3 b hb).1.1
  generalize hce : compEnvC scope (cellsFrom (s3.heap.objs.size + 1) scope.names (cloFrom X.env.cells scope.names [])) s3.heap.objs.size X.env = ce at I4 pg pt pe ⊢
  have cL : ce.locals = s3.heap.objs.size := by subst hce; rfl
  have cF : ce.frame = some L := by subst hce; exact hs3_
  generalize hH3 : upd H2 D (.lst []) = H3 at I3 I4 pg pt pe w0 nfp f3
  generalize hs4 : ({ s3 with heap := pushCells (s3.heap.push { cls := .type "dict", data := .dict #[] }) scope.names } : Shared) = s4 at I4 ⊢
  have st4 : tn 0 s4.heap := T.keep _ _ _ st3 fun b _ o e => by rw [← hs4]; exact pushCells_keeps _ _ _ _ (Heap.get?_push_of_some _ e)
  have stat : ∀ {σ' : St} {H' : Hp} {s' : Shared}, Inv (X.blkX s3 H3 scope ce fp W') [] σ' H' s' → (∀ b ∈ fp, H' b = none) → ∀ b ∈ fp, FpOk (X.blkX s3 H3 scope ce fp W') [] H' b := fun {σ' H' s'} I' hn b hb =>
    ⟨hn b hb, (I'.ok.exf b hb).1, I'.ok.exfs b hb, .inl hb, fun x c e => (I'.ok.exf b hb).2 x c e, fun p hp => absurd (show p ∈ ([] : List (Addr × Obj)) ++ [] from hp) (by simp)⟩
  have I4' : Inv (X.blkX s3 H3 scope ce fp W') [] _ H3 s4 := blkX_in I4
  -- what leaves
  have lv : ∀ u s', XS (X.blk s3 H3 scope ce fp) SkyG W' u s' → notedBy (model X.prog X.w) X.A ce (fun e s'' => postX (model X.prog X.w) X.A X.xe (EP X pins σ Q) (.ref D) ce (.error e) s'') u s' := fun u s' x => by
    rw [hW'] at x
    exact blk_leaves I3 hs1 hs2 cF cL tk (fun b hb => (f3 b hb).1) x
  have loop : codeAny (model X.prog X.w) X.A (.compLoop (.ListComp elt [⟨tg, iter, ifs, 0⟩] scope pos) 0 (.ref it) (.ref D) ce) (postX (model X.prog X.w) X.A X.xe (EP X pins σ Q) (.ref D) ce) s4 := by
    refine compLoop_any (fun n s' => ∃ i H', Inv (X.blkX s3 H3 scope ce fp W') [] (wipe σ (own.map (·.2))) H' s' ∧ tn i s'.heap ∧ (∀ b ∈ fp, H' b = none) ∧ Wn i n H') ?_ m0 ⟨0, H3, I4', st4, nfp, w0⟩
    rintro n s5 ⟨i, H5, I5, st5, n5, w5⟩
    rcases turn i n H5 w5 with ⟨stop, qq⟩ | ⟨go, Nx, hNx, step⟩
    · have td := T.done (X.blkX s3 H3 scope ce fp W') rfl rfl rfl hc i [] s5 _ H5 (fun _ _ => False) I5 (stat I5 n5) st5 stop
      refine thnF td fun r s6 ⟨hr, I6⟩ => ?_
      subst hr
      have I7 : Inv X pins σ H5 s6 := I3.call' (ch := fp) I6.os I6.base I6.hok I6.bare fun b hb => ⟨(f3 b hb).1.2.2.2.1, (f3 b hb).1.2.1, (f3 b hb).1.2.2.2.2.1, (f3 b hb).1.2.2.2.2.2⟩
      have nC : H5 s3.heap.objs.size = none := by
        have z : H5 ce.locals = none := I6.free
        rw [cL] at z
        exact z
      obtain ⟨m, hn, _⟩ := I6.loc
      have hn : s6.heap.Ns ce.locals m := hn
      refine ⟨m, hn, fun h'' sb => ?_⟩
      obtain ⟨f0, f1, f2, f3, f4, f5⟩ := I3.fpOk (Nat.le_refl _) nC
      rw [cL] at sb
      exact ⟨.ref D, H5, I7.turned (t' := s6.toks) (fun b o hb e => (sb.2 b hb).trans e) f0 f1 f3 f4 f5, rfl, qq⟩
    · have ti := T.item (X.blkX s3 H3 scope ce fp W') rfl rfl rfl hc i [] s5 _ H5 (fun _ _ => False) I5 (stat I5 n5) st5 go
      refine thnF ti fun r s6 ⟨u, hr, h6⟩ => ?_
      subst hr
      refine thnF h6 fun _ s7 ⟨x, H7, I7, r7, y7, st7, n7⟩ => ?_
      have I7' := I7.pinned (stat I7 n7) (T.obj _ _ st7)
      refine wpAny_mono (pg.run _ s7 _ H7 x u _ I7' r7 (step x H7 y7)) (fun _ s8 ⟨σ8, H8, I8, hw8, q8⟩ => ?_) lv
      refine wpAny_mono (pt.run _ s8 σ8 H8 _ I8 q8) (fun b s9 ⟨H9, I9, q9⟩ => ?_) lv
      have fin : ∀ {s' : Shared} {H' : Hp}, Inv (X.blkX s3 H3 scope ce fp W') ([] ++ pinsAt fp s7.heap) σ8 H' s' → Nx H' → ∃ m, m < n ∧ ∃ i H', Inv (X.blkX s3 H3 scope ce fp W') [] (wipe σ (own.map (·.2))) H' s' ∧ tn i s'.heap ∧ (∀ b ∈ fp, H' b = none) ∧ Wn i m H' := fun {s' H'} I' nx => by
        obtain ⟨m', hm, w'⟩ := hNx H' nx
        have pin' : ∀ b ∈ fp, ∀ o, s7.heap.get? b = some o → s'.heap.get? b = some o ∧ H' b = none := fun b hb o e =>
          let z := I'.pin (b, o) (List.mem_append_right _ (List.mem_append_right _ (mem_pinsAt hb e)))
          ⟨z.1, z.2.1⟩
        have hl : (wipe σ (own.map (·.2))).length = σ8.length := by rw [← hw8, wipe_length]
        refine ⟨m', hm, i + 1, H', (I'.unpinned (pins := [])).weak hl (fun j v e => ?_), T.keep _ _ _ st7 fun b hb o e => (pin' b hb o e).1, fun b hb => ?_, w'⟩
        · rw [← hw8] at e
          exact (wipe_some e).1
        · obtain ⟨o, e, _⟩ := T.obj _ _ st7 b hb
          exact (pin' b hb o e).2
      cases b with
      | false =>
        simp only [Bool.false_eq_true, if_false] at q9 ⊢
        exact fin I9 q9
      | true =>
        simp only [if_true] at q9 ⊢
        refine wpAny_mono (pe.run _ s9 σ8 H9 _ I9 q9) (fun z s10 ⟨yv, H10, I10, r10, acc, hD10, hz10, nx⟩ => ?_) lv
        exact app_ok (X := X.blkX s3 H3 scope ce fp W') I10 hD10 hz10 r10 fun s11 I11 => fin I11 nx
  exact codeAny_compStart_list loop (T.self X.A 0 _ _ _ st4 loop)
end
end L2
/-! Rc5: comprehensions, displays, calls: each construct's rule. -/
namespace Rc
open PySem L2
section
variable {X : Cx}
theorem tLc_of {K : PySem.W.Frag} {W : WX} {new : Bool} {own : List Nat} {mI : Env → M Items} {tgt : Tg} {mT : Env → M Bool} {mE : Env → M Val} {σ : L2.St} {H : Hp} {Q : VK} (hin : tgIn σ.length tgt) (hsub : tgSub own tgt)
    (h : tE K W (lcSem new own mI tgt mT mE) σ H Q) : tLc (tI K W mI) (gTg K tgt) (tG K relB F0 mT) (tE K F0 mE) own σ H Q := by
  obtain ⟨ρ, env, st, rE, rS, p⟩ := h
  refine ⟨ρ, env, st, rE, rS, ?_⟩
  rw [lcSem_eq] at p
  unfold lcRaw at p
  unfold Rc.bnd at p
  cases eI : mI env st with
  | stuck => rw [eI] at p; exact p.elim
  | exc c row st' => rw [eI] at p; exact p
  | ok is st1 =>
    rw [eI] at p
    dsimp only at p
    intro hz ρ1 J H1 x1 s1 hJ D nD
    have rE1 := rE.ext x1
    have p1 := Post.later p x1
    clear p
    refine ⟨fun i m H => ∃ ρ' st' acc wacc, m = is.xs.length - i ∧ i ≤ is.xs.length ∧ Ext0 ρ1 H1 ρ' H ∧ ρ'.rs = D :: ρ1.rs ∧ (∀ a ∈ ρ1.rs, H a = H1 a) ∧ RelS K ρ' st' H ∧ H D = some (.lst wacc) ∧ RepL K ρ' H acc wacc ∧ acc.length ≤ i ∧
      Post K (Rep K) W σ ρ1 H1 Q (bnd (lcLoop (lcTurn tgt own mT mE env) (Still is) (is.xs.drop i) acc) (fun ys => fun st => open Classical in if Still is st then mk new (.l ys) st else .stuck) st'), ?_, ?_⟩
    · have nD1 : D ∉ ρ1 := s1.fresh nD
      have e0 : Ext0 ρ1 H1 ⟨ρ1.ps, D :: ρ1.rs⟩ (upd H1 D (.lst [])) := ⟨fun a o h n => ⟨by rw [upd_ne (ne_of_none h nD)]; exact h, fun m => by
        rcases m with m | m
        · exact n (.inl m)
        · rcases List.mem_cons.mp m with m | m
          · exact ne_of_none h nD m
          · exact n (.inr m)⟩, List.prefix_refl _⟩
      refine ⟨_, ⟨ρ1.ps, D :: ρ1.rs⟩, st1, [], [], rfl, Nat.zero_le _, e0, rfl, fun a ha => upd_ne (s1.ne nD (.inr ha)), ⟨s1.len, s1.nd, fun l a o h1 h2 => ?_, fun a ha => ?_⟩, upd_same, .nil, Nat.zero_le _, p1⟩
      · obtain ⟨u, h3, h4⟩ := s1.at_ l a o h1 h2
        exact ⟨u, by rw [upd_ne (ne_of_none h3 nD)]; exact h3, h4.ext0 e0⟩
      · rcases List.mem_cons.mp ha with ha | ha
        · subst ha
          exact ⟨fun m => nD1 (.inl m), _, upd_same⟩
        · exact ⟨(s1.rs a ha).1, by rw [upd_ne (s1.ne nD (.inr ha))]; exact (s1.rs a ha).2⟩
    · intro i m H2 hW
      obtain ⟨ρ', st', acc, wacc, rfl, hi, e0, ers, rk, s2, hD, q, hacc, p2⟩ := hW
      by_cases hlt : i < is.xs.length
      · right
        have hget : is.xs[i]? = some is.xs[i] := List.getElem?_eq_getElem hlt
        rw [List.drop_eq_getElem_cons hlt] at p2
        unfold Rc.bnd lcLoop at p2
        dsimp only at p2
        by_cases hst : Still is st'
        · rw [if_pos hst] at p2
          obtain ⟨hgo, hy⟩ := (hJ i ρ' st' H2 e0 s2 hst).1 _ hget
          refine ⟨hgo, fun H' => ∃ ρ' st' acc wacc, i + 1 ≤ is.xs.length ∧ Ext0 ρ1 H1 ρ' H' ∧ ρ'.rs = D :: ρ1.rs ∧ (∀ a ∈ ρ1.rs, H' a = H1 a) ∧ RelS K ρ' st' H' ∧ H' D = some (.lst wacc) ∧ RepL K ρ' H' acc wacc ∧ acc.length ≤ i + 1 ∧
            Post K (Rep K) W σ ρ1 H1 Q (bnd (lcLoop (lcTurn tgt own mT mE env) (Still is) (is.xs.drop (i + 1)) acc) (fun ys => fun st => open Classical in if Still is st then mk new (.l ys) st else .stuck) st'), fun H' hN => ?_, fun x H3 hyl => ?_⟩
          · obtain ⟨a1, a2, a3, a4, a5, a6, a7, a8, a9, a10, a11, a12, a13⟩ := hN
            exact ⟨is.xs.length - (i + 1), by omega, a1, a2, a3, a4, rfl, a5, a6, a7, a8, a9, a10, a11, a12, a13⟩
          · obtain ⟨x3, s3, r3⟩ := hy x H3 hyl
            -- the target
            cases eA : assignTg tgt is.xs[i] (Rc.wipe env own) with
            | none =>
              have ht : lcTurn tgt own mT mE env is.xs[i] st' = .stuck := by simp only [lcTurn, eA, stuck]
              rw [ht] at p2; exact p2.elim
            | some env' =>
              have e03 : Ext0 ρ1 H1 ρ' H3 := e0.trans x3.toExt0
              refine gTg_ok eA r3 ((rE1.ext' e03).wipe own) (by rw [L2.wipe_length]; exact hin) fun σ2 rE2 l2 w2 => ⟨?_, ?_⟩
              · rw [w2 own hsub, wipe_wipe σ own own fun _ h => h]
              · have hD3 : H3 D = some (.lst wacc) := by rw [x3.rk D (by rw [ers]; simp)]; exact hD
                have rk3 : ∀ a ∈ ρ1.rs, H3 a = H1 a := fun a ha => by rw [x3.rk a (by rw [ers]; simp [ha])]; exact rk a ha
                refine ⟨ρ', env', st', rE2, s3, ?_⟩
                cases eT : mT env' st' with
                | stuck =>
                  have ht : lcTurn tgt own mT mE env is.xs[i] st' = .stuck := by simp only [lcTurn, eA, noExc, Rc.bnd, eT]
                  rw [ht] at p2; exact p2.elim
                | exc c row st4 =>
                  have ht : lcTurn tgt own mT mE env is.xs[i] st' = .stuck := by simp only [lcTurn, eA, noExc, Rc.bnd, eT]
                  rw [ht] at p2; exact p2.elim
                | ok k st4 =>
                  intro ρ4 b H4 x4 s4 hb
                  have hb : k = b := hb
                  subst hb
                  have e04 : Ext0 ρ1 H1 ρ4 H4 := e03.trans x4.toExt0
                  have ers4 : ρ4.rs = D :: ρ1.rs := x4.rs.trans ers
                  have hD4 : H4 D = some (.lst wacc) := by rw [x4.rk D (by rw [ers]; simp)]; exact hD3
                  have rk4 : ∀ a ∈ ρ1.rs, H4 a = H1 a := fun a ha => by rw [x4.rk a (by rw [ers]; simp [ha])]; exact rk3 a ha
                  have q4 := (q.ext x3).ext x4
                  cases k with
                  | false =>
                    have ht : lcTurn tgt own mT mE env is.xs[i] st' = .ok none st4 := by simp only [lcTurn, eA, noExc, Rc.bnd, eT, Rc.ret, Bool.false_eq_true, if_false]
                    rw [ht] at p2
                    exact ⟨ρ4, st4, acc, wacc, hlt, e04, ers4, rk4, s4, hD4, q4, by omega, p2⟩
                  | true =>
                    show tE K F0 mE σ2 H4 _
                    refine ⟨ρ4, env', st4, rE2.ext x4, s4, ?_⟩
                    cases eE : mE env' st4 with
                    | stuck =>
                      have ht : lcTurn tgt own mT mE env is.xs[i] st' = .stuck := by simp only [lcTurn, eA, noExc, Rc.bnd, eT, eE, if_true]
                      rw [ht] at p2; exact p2.elim
                    | exc c row st5 =>
                      have ht : lcTurn tgt own mT mE env is.xs[i] st' = .stuck := by simp only [lcTurn, eA, noExc, Rc.bnd, eT, eE, if_true]
                      rw [ht] at p2; exact p2.elim
                    | ok y st5 =>
                      have ht : lcTurn tgt own mT mE env is.xs[i] st' = .ok (some y) st5 := by simp only [lcTurn, eA, noExc, Rc.bnd, eT, eE, Rc.ret, if_true]
                      rw [ht] at p2
                      intro ρ5 w H5 x5 s5 ry
                      have hDr : D ∈ ρ5.rs := by rw [x5.rs, ers4]; simp
                      have hD5 : H5 D = some (.lst wacc) := by rw [x5.rk D (by rw [ers4]; simp)]; exact hD4
                      have lq := q.length
                      have wr : Ext0 ρ5 H5 ρ5 (upd H5 D (.lst (wacc ++ [w]))) := .wrote (.inr hDr)
                      refine ⟨wacc, hD5, by omega, ρ5, st5, acc ++ [y], wacc ++ [w], hlt, e04.trans (x5.toExt0.trans wr), x5.rs.trans ers4, fun a ha => ?_, s5.resv hDr, upd_same, ((q4.ext x5).append (.cons ry .nil)).ext0 wr, by rw [List.length_append]; simp; omega, p2⟩
                      have hne : a ≠ D := fun z => by
                        obtain ⟨o, eo⟩ := (s1.rs a ha).2
                        rw [z, nD] at eo; cases eo
                      rw [upd_ne hne, x5.rk a (by rw [ers4]; simp [ha])]
                      exact rk4 a ha
        · rw [if_neg hst] at p2
          exact p2.elim
      · have hi' : is.xs.length = i := by omega
        left
        rw [List.drop_eq_nil_of_le (by omega)] at p2
        have p3 : Post K (Rep K) W σ ρ1 H1 Q (open Classical in if Still is st' then mk new (.l acc) st' else .stuck) := p2
        have hst : Still is st' := by
          by_cases h : Still is st'
          · exact h
          · rw [if_neg h] at p3
            exact p3.elim
        exact ⟨(hJ i ρ' st' H2 e0 s2 hst).2 hi', lc_done nD s1 e0 ers rk s2 hD q p3⟩
theorem tLcX_of {K : PySem.W.Frag} {W : WX} {own : List Nat} {mI : Env → M Items} {tgt : Tg} {mE : Env → M Val} {σ : L2.St} {H : Hp} {Q : VK} (hin : tgIn σ.length tgt) (hsub : tgSub own tgt)
    (h : tE K W (lcxSem own mI tgt mE) σ H Q) : tLcX W (tI K W mI) (gTg K tgt) tYes (fun W' => tE K W' mE) own σ H Q := by
  obtain ⟨ρ, env, st, rE, rS, p⟩ := h
  refine ⟨ρ, env, st, rE, rS, ?_⟩
  rw [lcxSem_eq] at p
  unfold lcxRaw at p
  unfold Rc.bnd at p
  cases eI : mI env st with
  | stuck => rw [eI] at p; exact p.elim
  | exc c row st' => rw [eI] at p; exact p
  | ok is st1 =>
    rw [eI] at p
    dsimp only at p
    intro hz ρ1 J H1 x1 s1 hJ D nD
    have rE1 := rE.ext x1
    have p1 := Post.later p x1
    clear p
    refine ⟨fun i m H => ∃ ρ' st' acc wacc, m = is.xs.length - i ∧ i ≤ is.xs.length ∧ Ext0 ρ1 H1 ρ' H ∧ ρ'.rs = D :: ρ1.rs ∧ (∀ a ∈ ρ1.rs, H a = H1 a) ∧ RelS K ρ' st' H ∧ H D = some (.lst wacc) ∧ RepL K ρ' H acc wacc ∧ acc.length ≤ i ∧
      Post K (Rep K) W σ ρ1 H1 Q (bnd (lcxLoop (lcxTurn tgt own mE env) (Still is) (is.xs.drop i) acc) (fun ys => fun st => open Classical in if Still is st then mk false (.l ys) st else .stuck) st'), ?_, ?_⟩
    · have nD1 : D ∉ ρ1 := s1.fresh nD
      have e0 : Ext0 ρ1 H1 ⟨ρ1.ps, D :: ρ1.rs⟩ (upd H1 D (.lst [])) := ⟨fun a o h n => ⟨by rw [upd_ne (ne_of_none h nD)]; exact h, fun m => by
        rcases m with m | m
        · exact n (.inl m)
        · rcases List.mem_cons.mp m with m | m
          · exact ne_of_none h nD m
          · exact n (.inr m)⟩, List.prefix_refl _⟩
      refine ⟨_, ⟨ρ1.ps, D :: ρ1.rs⟩, st1, [], [], rfl, Nat.zero_le _, e0, rfl, fun a ha => upd_ne (s1.ne nD (.inr ha)), ⟨s1.len, s1.nd, fun l a o h1 h2 => ?_, fun a ha => ?_⟩, upd_same, .nil, Nat.zero_le _, p1⟩
      · obtain ⟨u, h3, h4⟩ := s1.at_ l a o h1 h2
        exact ⟨u, by rw [upd_ne (ne_of_none h3 nD)]; exact h3, h4.ext0 e0⟩
      · rcases List.mem_cons.mp ha with ha | ha
        · subst ha
          exact ⟨fun m => nD1 (.inl m), _, upd_same⟩
        · exact ⟨(s1.rs a ha).1, by rw [upd_ne (s1.ne nD (.inr ha))]; exact (s1.rs a ha).2⟩
    · intro i m H2 hW
      obtain ⟨ρ', st', acc, wacc, rfl, hi, e0, ers, rk, s2, hD, q, hacc, p2⟩ := hW
      by_cases hlt : i < is.xs.length
      · right
        have hget : is.xs[i]? = some is.xs[i] := List.getElem?_eq_getElem hlt
        rw [List.drop_eq_getElem_cons hlt] at p2
        unfold Rc.bnd lcxLoop at p2
        dsimp only at p2
        by_cases hst : Still is st'
        · rw [if_pos hst] at p2
          obtain ⟨hgo, hy⟩ := (hJ i ρ' st' H2 e0 s2 hst).1 _ hget
          refine ⟨hgo, fun H' => ∃ ρ' st' acc wacc, i + 1 ≤ is.xs.length ∧ Ext0 ρ1 H1 ρ' H' ∧ ρ'.rs = D :: ρ1.rs ∧ (∀ a ∈ ρ1.rs, H' a = H1 a) ∧ RelS K ρ' st' H' ∧ H' D = some (.lst wacc) ∧ RepL K ρ' H' acc wacc ∧ acc.length ≤ i + 1 ∧
            Post K (Rep K) W σ ρ1 H1 Q (bnd (lcxLoop (lcxTurn tgt own mE env) (Still is) (is.xs.drop (i + 1)) acc) (fun ys => fun st => open Classical in if Still is st then mk false (.l ys) st else .stuck) st'), fun H' hN => ?_, fun x H3 hyl => ?_⟩
          · obtain ⟨a1, a2, a3, a4, a5, a6, a7, a8, a9, a10, a11, a12, a13⟩ := hN
            exact ⟨is.xs.length - (i + 1), by omega, a1, a2, a3, a4, rfl, a5, a6, a7, a8, a9, a10, a11, a12, a13⟩
          · obtain ⟨x3, s3, r3⟩ := hy x H3 hyl
            cases eA : assignTg tgt is.xs[i] (Rc.wipe env own) with
            | none =>
              have ht : lcxTurn tgt own mE env is.xs[i] st' = .stuck := by simp only [lcxTurn, eA, stuck]
              rw [ht] at p2; exact p2.elim
            | some env' =>
              have e03 : Ext0 ρ1 H1 ρ' H3 := e0.trans x3.toExt0
              refine gTg_ok eA r3 ((rE1.ext' e03).wipe own) (by rw [L2.wipe_length]; exact hin) fun σ2 rE2 l2 w2 => ⟨?_, ?_⟩
              · rw [w2 own hsub, wipe_wipe σ own own fun _ h => h]
              · have hD3 : H3 D = some (.lst wacc) := by rw [x3.rk D (by rw [ers]; simp)]; exact hD
                have rk3 : ∀ a ∈ ρ1.rs, H3 a = H1 a := fun a ha => by rw [x3.rk a (by rw [ers]; simp [ha])]; exact rk a ha
                have q3 := q.ext x3
                show tE K (fun c d _ H' => W c d σ H') mE σ2 H3 _
                refine ⟨ρ', env', st', rE2, s3, ?_⟩
                cases eE : mE env' st' with
                | stuck =>
                  have ht : lcxTurn tgt own mE env is.xs[i] st' = .stuck := by simp only [lcxTurn, eA, eE]
                  rw [ht] at p2; exact p2.elim
                | exc c row st5 =>
                  have ht : lcxTurn tgt own mE env is.xs[i] st' = .exc c row st5 := by simp only [lcxTurn, eA, eE]
                  rw [ht] at p2
                  have p3 : Post K (Rep K) W σ ρ1 H1 Q (.exc c row st5) := p2
                  intro ρ5 d H5 x5 s5 hx
                  have ers5 : ρ5.rs = D :: ρ1.rs := x5.rs.trans ers
                  have e05 : Ext0 ρ1 H1 ρ5 H5 := e03.trans x5.toExt0
                  have e1 : Ext0 ρ5 H5 ⟨ρ5.ps, ρ1.rs⟩ H5 := ⟨fun a o h n => ⟨h, fun m => n (by
                    rcases m with m | m
                    · exact .inl m
                    · exact .inr (by rw [ers5]; simp [m]))⟩, List.prefix_refl _⟩
                  refine p3 ⟨ρ5.ps, ρ1.rs⟩ d H5 ⟨⟨fun a o h n => ?_, e05.pre⟩, rfl, fun a ha => ?_⟩ ⟨s5.len, s5.nd, fun l a o h1 h2 => ?_, fun a ha => ?_⟩ hx
                  · have := e05.keep a o h n
                    exact ⟨this.1, (e1.keep a o this.1 this.2).2⟩
                  · rw [x5.rk a (by rw [ers]; simp [ha])]
                    exact rk3 a ha
                  · obtain ⟨u, h3, h4⟩ := s5.at_ l a o h1 h2
                    exact ⟨u, h3, h4.ext0 e1⟩
                  · exact s5.rs a (by rw [ers5]; simp [ha])
                | ok y st5 =>
                  have ht : lcxTurn tgt own mE env is.xs[i] st' = .ok y st5 := by simp only [lcxTurn, eA, eE]
                  rw [ht] at p2
                  intro ρ5 w H5 x5 s5 ry
                  have hDr : D ∈ ρ5.rs := by rw [x5.rs, ers]; simp
                  have hD5 : H5 D = some (.lst wacc) := by rw [x5.rk D (by rw [ers]; simp)]; exact hD3
                  have lq := q.length
                  have wr : Ext0 ρ5 H5 ρ5 (upd H5 D (.lst (wacc ++ [w]))) := .wrote (.inr hDr)
                  refine ⟨wacc, hD5, by omega, ρ5, st5, acc ++ [y], wacc ++ [w], hlt, e03.trans (x5.toExt0.trans wr), x5.rs.trans ers, fun a ha => ?_, s5.resv hDr, upd_same, ((q3.ext x5).append (.cons ry .nil)).ext0 wr, by rw [List.length_append]; simp; omega, p2⟩
                  have hne : a ≠ D := fun z => by
                    obtain ⟨o, eo⟩ := (s1.rs a ha).2
                    rw [z, nD] at eo; cases eo
                  rw [upd_ne hne, x5.rk a (by rw [ers]; simp [ha])]
                  exact rk3 a ha
        · rw [if_neg hst] at p2
          exact p2.elim
      · have hi' : is.xs.length = i := by omega
        left
        rw [List.drop_eq_nil_of_le (by omega)] at p2
        have p3 : Post K (Rep K) W σ ρ1 H1 Q (open Classical in if Still is st' then mk false (.l acc) st' else .stuck) := p2
        have hst : Still is st' := by
          by_cases h : Still is st'
          · exact h
          · rw [if_neg h] at p3
            exact p3.elim
        exact ⟨(hJ i ρ' st' H2 e0 s2 hst).2 hi', lc_done nD s1 e0 ers rk s2 hD q p3⟩
end
end Rc
/-! Rc6: does a text of the small language say what a text of the model says? Expressions. -/
namespace Rc
open PySem L2

/-! ### the looks -/
/-- what is known of the module: names left to the built-ins, constants, defs with the count of their parameters -/
structure Sig where
  frees : List Str
  globs : List (Str × Gv)
  defs : List (Str × Nat)
  /-- classes with their __init__ -/
  clss : List (Str × Str) := []
  /-- class, method, the def's name -/
  meths : List (Str × Str × Str) := []
  /-- class, field -/
  flds : List (Str × Str) := []
  /-- tuples of texts, dicts of texts and ints: constants of the module -/
  tups : List (Str × List Str) := []
  dics : List (Str × List (Str × Int)) := []
  /-- classes that isinstance asks for -/
  insc : List Str := []
/-- where an expression stands: the scope, the names by slot, the names that may be stored, outside of except suites or not -/
structure Ct where
  sc : Scope
  N : List Str
  stor : List Str
  cal : Bool
def okHead : Expr → Bool
  | .BoolOp .. | .BinOp .. | .UnaryOp .. | .IfExp .. | .Dict .. | .ListComp .. | .Compare .. | .Call .. | .Constant .. | .Attribute .. | .Subscript .. | .Name .. | .List .. | .Tuple .. => true
  | _ => false
def okOp : Operator → Bool
  | .Add => true
  | .Sub => true
  | .Mult => true
  | .Mod => true
  | .FloorDiv => true
  | .Pow => true
  | _ => false
def isVis (sc : Scope) (x : Str) : Bool := match sc.names.lookup x with
  | some .local => true
  | some .cell => true
  | some .free => true
  | _ => false
def isGl (sc : Scope) (x : Str) : Bool := match sc.names.lookup x with
  | some .globalImplicit => true
  | _ => false
def noDbg (x : Str) : Bool := !(x == ("__debug__" : Str)) && !(x == ("__classdict__" : Str)) && !(x == ("__name__" : Str))
def ckName (ct : Ct) (i : Nat) : Expr → Bool
  | .Name x _ => decide (ct.N[i]? = some x) && ct.stor.contains x
  | _ => false
def ckNames (ct : Ct) : List Nat → List Expr → Bool
  | [], [] => true
  | i :: is, e :: es => ckName ct i e && ckNames ct is es
  | _, _ => false
def ckTg (ct : Ct) : Tg → Expr → Bool
  | .nm i, e => ckName ct i e
  | .tup is, .Tuple es _ _ => ct.cal && ckNames ct is es
  | _, _ => false
def tgSubB (own : List Nat) : Tg → Bool
  | .nm i => own.contains i
  | .tup is => is.all own.contains
def biName : Bi → Str
  | .len => "len"
  | .max => "max"
  | .min => "min"
  | .all => "all"
  | .any => "any"
  | .tuple => "tuple"
  | .list => "list"
  | .int => "int"
  | .sorted => "sorted"
  | .dict => "dict"
  | .str => "str"
  | .minD => "min"
  | .sortD => "sorted"
def ownP (N : List Str) (own : List Nat) : List (Str × Nat) := own.map fun i => (N.getD i Str.empty, i)
def storOf (sc : Scope) : List Str := sc.names.filterMap fun p => match p.2 with
  | .local => some p.1
  | .cell => some p.1
  | _ => none
def ctBlk (ct : Ct) (scope : Scope) : Ct := { ct with sc := relS scope ct.sc, stor := storOf scope }
def isRng (x : Str) : Bool := decide (x = ("range" : Str))
mutual
/-- may it stand as a test? -/
def tst : E → Bool
  | .ife _ _ _ => false
  | .not a => tst a
  | .bop _ es => tstAll es
  | _ => true
def tstAll : Es → Bool
  | .nil => true
  | .cons e es => tst e && tstAll es
end
def tst1 : Es → Bool
  | .nil => true
  | .cons e .nil => tst e
  | _ => false
def isOne : Expr → Bool
  | .Constant (.int i) _ _ => decide (i = 1)
  | _ => false
def negOne : Expr → Bool
  | .UnaryOp .USub e _ => isOne e
  | _ => false
/-- [::-1] -/
def revStep : Expr → Bool
  | .Slice none none (some e) _ => negOne e
  | _ => false
/-- a base whose method is plainly looked up -/
def plainBase : Expr → Bool
  | .Name .. | .Constant .. | .Subscript .. | .Attribute .. | .IfExp .. => true
  | .Call (.Attribute ..) _ _ _ => true
  | .Call (.Name ..) (_ :: _) _ _ => true
  | _ => false
def isTupX : Expr → Bool
  | .Tuple .. => true
  | _ => false
/-- enumerate asks for a target that is a tuple -/
def enumOk : It → Expr → Bool
  | .enum _, t => isTupX t
  | _, _ => true
def inOp (neg : Bool) (o : CmpOp) : Bool := decide (o = if neg then .NotIn else .In)
def ckKey : Key → Option Expr → Bool
  | .inl i, some (.Constant (.int j) _ _) => decide (i = j)
  | .inr s, some (.Constant (.str t) _ _) => decide (s = t)
  | _, _ => false
def ckKeys : List Key → List (Option Expr) → Bool
  | [], [] => true
  | k :: ks, e :: es => ckKey k e && ckKeys ks es
  | _, _ => false
def ckIni (ct : Ct) : Ini → Expr → Bool
  | .var i, .Name x _ => decide (ct.N[i]? = some x) && isVis ct.sc x && noDbg x
  | .int i, .Constant (.int j) _ _ => decide (i = j)
  | .lst, .List [] _ => true
  | .dk, .Dict [] [] _ => true
  | _, _ => false
def ckInis (ct : Ct) : List Ini → List Expr → Bool
  | [], [] => true
  | i :: is, e :: es => ckIni ct i e && ckInis ct is es
  | _, _ => false
def nonNil : Es → Bool
  | .nil => false
  | _ => true
/-- the names of defs -/
def ckFs (g : Sig) (ct : Ct) : List Str → List Expr → Bool
  | [], [] => true
  | f :: fs, .Name x _ :: es => decide (f = x) && isGl ct.sc x && noDbg x && (g.defs.any fun p => decide (p.1 = f)) && ckFs g ct fs es
  | _, _ => false
section
variable (g : Sig)
mutual
def ckE (ct : Ct) : E → Expr → Bool
  | .var i, .Name x _ => decide (ct.N[i]? = some x) && isVis ct.sc x && noDbg x
  | .int i, .Constant (.int j) _ _ => decide (i = j)
  | .str s, .Constant (.str t) _ _ => decide (s = t)
  | .bl b, .Constant (.bool c) _ _ => decide (b = c)
  | .non, .Constant .none _ _ => true
  | .glob x v, .Name y _ => decide (x = y) && isGl ct.sc x && noDbg x && g.globs.any fun p => decide (p.1 = x) && decide (p.2 = v)
  | .bin _ op a b, .BinOp l o r _ => decide (op = o) && okOp op && okHead l && ckE ct a l && okHead r && ckE ct b r
  | .neg a, .UnaryOp .USub e _ => okHead e && ckE ct a e
  | .not a, .UnaryOp .Not e _ => okHead e && ckE ct a e
  | .bop op es, .BoolOp o xs _ => decide (op = o) && ckEs ct es xs
  | .cmp op a b, .Compare l [o] [r] _ => decide (op = o) && okHead l && ckE ct a l && okHead r && ckE ct b r
  | .chain o1 o2 a b c, .Compare l [p1, p2] [m, r] _ => decide (o1 = p1) && decide (o2 = p2) && okHead l && ckE ct a l && okHead m && ckE ct b m && okHead r && ckE ct c r
  | .chain3 o1 o2 o3 a b c d, .Compare l [p1, p2, p3] [m, r, s] _ => decide (o1 = p1) && decide (o2 = p2) && decide (o3 = p3) && okHead l && ckE ct a l && okHead m && ckE ct b m && okHead r && ckE ct c r && okHead s && ckE ct d s
  | .ife c a b, .IfExp t l r _ => okHead t && ckE ct c t && tst c && okHead l && ckE ct a l && okHead r && ckE ct b r
  | .tup es, .Tuple xs _ _ => ckEs ct es xs
  | .lst _ es, .List xs _ => ckEs ct es xs
  | .ix a b, .Subscript l r _ => okHead l && ckE ct a l && okHead r && ckE ct b r
  | .sl _ a lo hi, .Subscript l (.Slice x y none _) _ => okHead l && ckE ct a l && ckO ct lo x && ckO ct hi y
  | .rev _ a, .Subscript l r _ => okHead l && ckE ct a l && revStep r
  | .mth _ m o es, .Call (.Attribute ob x ap) xs [] cp => ct.cal && decide (x = (mtName m : Str)) && plainBase ob && okHead ob && ckE ct o ob && (ap.endLine == cp.line) && decide (xs.length < 30) && ckEs ct es xs
  | .call f _ es, .Call (.Name x _) xs [] _ => ct.cal && decide (f = x) && isGl ct.sc x && noDbg x && ((g.defs.any fun p => decide (p.1 = f)) || (g.clss.any fun p => decide (p.1 = f))) && nonNil es && ckEs ct es xs
  | .bi _ b es, .Call (.Name x _) xs [] _ => ct.cal && decide (biName b = x) && isGl ct.sc x && noDbg x && g.frees.contains x && nonNil es && ckEs ct es xs
  | .isinC a c, .Call (.Name x _) [e, .Name y _] [] _ => decide (x = ("isinstance" : Str)) && isGl ct.sc x && g.frees.contains x && decide (y = c) && isGl ct.sc y && noDbg y && g.insc.contains c && okHead e && ckE ct a e
  | .isin a k, .Call (.Name x _) [e, .Name y _] [] _ => decide (x = ("isinstance" : Str)) && isGl ct.sc x && g.frees.contains x && decide (y = (kdName k : Str)) && isGl ct.sc y && noDbg y && g.frees.contains y && okHead e && ckE ct a e
  | .lrange _ a b, .Call (.Name x _) [.Call (.Name y _) [e1, e2] [] _] [] _ => ct.cal && decide (x = ("list" : Str)) && isGl ct.sc x && g.frees.contains x && decide (y = ("range" : Str)) && isGl ct.sc y && g.frees.contains y && okHead e1 && ckE ct a e1 && okHead e2 && ckE ct b e2
  | .lrange1 _ a, .Call (.Name x _) [.Call (.Name y _) [e1] [] _] [] _ => ct.cal && decide (x = ("list" : Str)) && isGl ct.sc x && g.frees.contains x && decide (y = ("range" : Str)) && isGl ct.sc y && g.frees.contains y && okHead e1 && ckE ct a e1
  | .dnew _, .Dict [] [] _ => true
  | .ddisp ks is, .Dict keys values _ => ckKeys ks keys && ckInis ct is values && decide (keys.length = values.length) && !keys.isEmpty && decide (keys.length ≤ 15)
  | .fld o f _, .Attribute ob x _ => decide (f = x) && plainBase ob && okHead ob && ckE ct o ob
  | .meth c m f _ o es, .Call (.Attribute ob x ap) xs [] cp => ct.cal && decide (m = x) && (g.meths.any fun p => decide (p = (c, m, f))) && plainBase ob && okHead ob && ckE ct o ob && (ap.endLine == cp.line) && decide (xs.length < 30) && ckEs ct es xs
  | .gin neg a x ss, .Compare l [o] [.Name y _] _ => inOp neg o && okHead l && ckE ct a l && decide (x = y) && isGl ct.sc x && noDbg x && (g.tups.any fun p => decide (p.1 = x) && decide (p.2 = ss))
  | .gdin neg a x ss, .Compare l [o] [.Name y _] _ => inOp neg o && okHead l && ckE ct a l && decide (x = y) && isGl ct.sc x && noDbg x && (g.dics.any fun p => decide (p.1 = x) && decide (p.2 = ss))
  | .gdix x ss a, .Subscript (.Name y _) r _ => okHead r && ckE ct a r && decide (x = y) && isGl ct.sc x && noDbg x && (g.dics.any fun p => decide (p.1 = x) && decide (p.2 = ss))
  | .lenset a, .Call (.Name x _) [.Call (.Name y _) [e1] [] _] [] _ => ct.cal && decide (x = ("len" : Str)) && isGl ct.sc x && g.frees.contains x && decide (y = ("set" : Str)) && isGl ct.sc y && g.frees.contains y && okHead e1 && ckE ct a e1
  | .srtset _ a, .Call (.Name x _) [.Call (.Name y _) [e1] [] _] [] _ => ct.cal && decide (x = ("sorted" : Str)) && isGl ct.sc x && g.frees.contains x && decide (y = ("set" : Str)) && isGl ct.sc y && g.frees.contains y && okHead e1 && ckE ct a e1
  | .pick fs _ ix es, .Call (.Subscript (.List ns _) ie _) xs [] _ => ct.cal && ckFs g ct fs ns && decide (fs.length ≤ 100) && okHead ie && ckE ct ix ie && nonNil es && ckEs ct es xs
  | .ndict es, .Call (.Name x _) xs [] _ => ct.cal && decide (x = ("dict" : Str)) && isGl ct.sc x && g.frees.contains x && nonNil es && ckEs ct es xs
  | .lcx own tg it e, .ListComp elt [⟨t, iter, [], k⟩] scope _ => enumOk it t && ct.cal && decide (k = 0) && blkC ct.N ct.sc scope (ownP ct.N own) && tgSubB own tg && ckTg (ctBlk ct scope) tg t && ckI ct it iter && okHead elt && ckE (ctBlk ct scope) e elt
  | .lc _ own tg it ifs e, .ListComp elt [⟨t, iter, fs, k⟩] scope _ => enumOk it t && ct.cal && decide (k = 0) && blkC ct.N ct.sc scope (ownP ct.N own) && tgSubB own tg && ckTg (ctBlk ct scope) tg t && ckI ct it iter && ckEs (ctBlk ct scope) ifs fs && tst1 ifs && okHead elt && ckE (ctBlk ct scope) e elt
  | _, _ => false
def ckEs (ct : Ct) : Es → List Expr → Bool
  | .nil, [] => true
  | .cons e es, x :: xs => okHead x && ckE ct e x && ckEs ct es xs
  | _, _ => false
def ckO (ct : Ct) : Oe → Option Expr → Bool
  | .none, none => true
  | .some e, some x => okHead x && ckE ct e x
  | _, _ => false
def ckI (ct : Ct) : It → Expr → Bool
  | .seq e, x => okHead x && ckE ct e x
  | .chars a, e => okHead e && ckE ct a e
  | .rng1 a, .Call (.Name y _) [e] [] _ => isRng y && isGl ct.sc y && g.frees.contains y && okHead e && ckE ct a e
  | .rng2 a b, .Call (.Name y _) [e1, e2] [] _ => isRng y && isGl ct.sc y && g.frees.contains y && okHead e1 && ckE ct a e1 && okHead e2 && ckE ct b e2
  | .enum a, .Call (.Name y _) [e] [] _ => decide (y = ("enumerate" : Str)) && isGl ct.sc y && g.frees.contains y && okHead e && ckE ct a e
  | _, _ => false
end
end

/-! ### what a look at the head tells -/
theorem isOne_of : ∀ {e : Expr}, isOne e = true → ∃ k p, e = .Constant (.int 1) k p := by
  intro e h
  unfold isOne at h
  split at h
  · rw [of_decide_eq_true h]
    exact ⟨_, _, rfl⟩
  · cases h
theorem negOne_of {e : Expr} (h : negOne e = true) : ∃ k p1 p2, e = .UnaryOp .USub (.Constant (.int 1) k p1) p2 := by
  unfold negOne at h
  split at h
  · obtain ⟨k, p, rfl⟩ := isOne_of h
    exact ⟨_, _, _, rfl⟩
  · cases h
theorem revStep_of {e : Expr} (h : revStep e = true) : ∃ k p1 p2 p3, e = .Slice none none (some (.UnaryOp .USub (.Constant (.int 1) k p1) p2)) p3 := by
  unfold revStep at h
  split at h
  · obtain ⟨k, p1, p2, rfl⟩ := negOne_of h
    exact ⟨_, _, _, _, rfl⟩
  · cases h
theorem isTupX_of {e : Expr} (h : isTupX e = true) : ∃ es k p, e = .Tuple es k p := by
  cases e <;> first | exact ⟨_, _, _, rfl⟩ | cases h
theorem head_base {e : Expr} (h : plainBase e = true) (x : Str) (env : PySem.Env) (w : Sem Value) : attributeBase e x env w = w := by
  unfold plainBase at h
  split at h <;> first | rfl | cases h
theorem head_set {e : Expr} (h : okHead e = true) (env : PySem.Env) (x : Value) : foldedSetIterable e env x = pure x := by
  cases e <;> first | rfl | cases h
theorem head_star {e : Expr} (h : okHead e = true) (es : List Expr) (env : PySem.Env) : starEach (e :: es) env = (false, eval e env) :: starEach es env := by
  cases e <;> first | rfl | cases h
theorem head_mark {e : Expr} (h : okHead e = true) (op : CmpOp) : behindInMarks op e = false := by
  cases e <;> first | rfl | cases h
theorem head_ix {e : Expr} (h : okHead e = true) : PlainIx e := by
  intro o i
  cases e <;> first | rfl | cases h
end Rc
/-! Rc7: what the looks let by runs as the small language says. Expressions. -/
namespace Rc
open PySem L2

/-- what a def of the module keeps: it ends as the small language's call does -/
def spF (K : PySem.W.Frag) (F : List Val → M Val) : Sp := fun vs H Q E => ∃ (ρ : Pl) (st : Store) (args : List Val), RelS K ρ st H ∧ RepL K ρ H args vs ∧ Post K (Rep K) (fun c d _ H => E c d H) [] ρ H Q (F args st)
abbrev spOf (K : PySem.W.Frag) (C : Str → List Val → M Val) (f : Str) : Sp := spF K (C f)
/-- C(..): a new instance, then __init__ -/
def mkNew (c : Str) (F : List Val → M Val) (args : List Val) : M Val := fun st => match F (.loc st.length :: args) (st ++ [.ins c []]) with
  | .ok v st' => if isNon v = true then .ok (.loc st.length) st' else .stuck
  | .exc e r st' => .exc e r st'
  | .stuck => .stuck
def DefOk (X : Cx) (n : Nat) (C : Str → List Val → M Val) (f : Str) : Prop :=
  ∃ (fa : Addr) (fd : FuncData) (ps : List Str), FnOk X.prog X.w X.K X.mg X.base (L2.CX X.prog X.w) (2 * n) fa fd ps (spOf X.K C f) ∧ X.mg f = some (.ref fa) ∧ PySem.W.keepIn X.K (.ref fa) = true ∧ Binds X.K fd ps []
def ClsOk (X : Cx) (n : Nat) (C : Str → List Val → M Val) (c : Str) : Prop :=
  ∃ (fi : Addr) (fd : FuncData) (ps : List Str) (F : List Val → M Val), Cls X.K (He.ga X.K c) ∧ Mk X.K (He.ga X.K c) fi ∧ FnOk X.prog X.w X.K X.mg X.base (L2.CX X.prog X.w) (2 * n) fi fd ps (spF X.K F) ∧ X.mg c = some (.ref (He.ga X.K c)) ∧ Binds X.K fd ps [] ∧ C c = mkNew c F
def MethOk (X : Cx) (n : Nat) (C : Str → List Val → M Val) (q : Str × Str × Str) : Prop :=
  ∃ (fa : Addr) (fd : FuncData) (ps : List Str), Meth X.K (He.ga X.K q.1) q.2.1 fa ∧ FnOk X.prog X.w X.K X.mg X.base (L2.CX X.prog X.w) (2 * n) fa fd ps (spOf X.K C q.2.2) ∧ Binds X.K fd ps []
def GlobOk (X : Cx) (x : Str) (v : Gv) : Prop := ∃ u w, X.mg x = some u ∧ RelV w u ∧ ∀ ρ H, Rep X.K ρ H (gvVal v) w
/-- a tuple of texts, a dict of texts and ints: they stand in the module for good -/
def TupsOk (X : Cx) (x : Str) (ss : List Str) : Prop := ∃ a, X.mg x = some (.ref a) ∧ ∀ H, SqT X.K H a (ss.map V.str)
def DicsOk (X : Cx) (x : Str) (kvs : List (Str × Int)) : Prop := ∃ a es n, X.mg x = some (.ref a) ∧ KDict X.K X.w a es n ∧ ∀ z, match kvs.lookup z with
  | some i => ∃ t, PySem.W.nsIn X.K a z = some (some (.int i t))
  | none => PySem.W.nsIn X.K a z = some none
structure Good (X : Cx) (g : Sig) (ct : Ct) (n : Nat) (C : Str → List Val → M Val) (W : WX) : Prop where
  sc : X.env.scope = ct.sc
  N : X.N = ct.N
  nd : X.N.Nodup
  stor : ∀ x ∈ ct.stor, Loc ct.sc x ∧ (X.fn x = true ∨ ct.sc.names.lookup x = some .local)
  calm : ct.cal = true → X.calm = true
  room : ct.cal = true → Room (2 * n + 1) X.A
  units : X.A.units + 100 < cLine
  takes : Takes X W
  fr : ∃ E₀ out L, X.stack = E₀ :: out ∧ E₀.frame = some L ∧ X.env.frame = some L ∧ TakesL X L W
  frees : ∀ x ∈ g.frees, X.mg x = none
  globs : ∀ p ∈ g.globs, GlobOk X p.1 p.2
  defs : ∀ p ∈ g.defs, DefOk X n C p.1
  clss : ∀ p ∈ g.clss, ClsOk X n C p.1
  meths : ∀ p ∈ g.meths, MethOk X n C p
  flds : ∀ p ∈ g.flds, NoAttr X.K (He.ga X.K p.1) p.2
  tups : ∀ p ∈ g.tups, TupsOk X p.1 p.2
  dics : ∀ p ∈ g.dics, DicsOk X p.1 p.2
  insc : ∀ c ∈ g.insc, C8.InsC X.K (He.ga X.K c) ∧ X.mg c = some (.ref (He.ga X.K c))

section
variable {X : Cx} {W : WX} {g : Sig} {ct : Ct} {n : Nat} {C : Str → List Val → M Val}
theorem Good.gl (G : Good X g ct n C W) {x : Str} (h : isGl ct.sc x = true) : Gl X x := by
  unfold isGl at h
  rw [← G.sc] at h
  show X.env.scope.names.lookup x = some .globalImplicit
  split at h
  · assumption
  · cases h
theorem Good.vis (G : Good X g ct n C W) {x : Str} (h : isVis ct.sc x = true) : Vis X.env.scope x := by
  unfold isVis at h
  rw [← G.sc] at h
  split at h
  · exact .inl (by assumption)
  · exact .inr (.inl (by assumption))
  · exact .inr (.inr (by assumption))
  · cases h
theorem dbg1 {x : Str} (h : noDbg x = true) : (x == ("__debug__" : Str)) = false ∧ (x == ("__classdict__" : Str)) = false ∧ x ≠ "__name__" := by
  unfold noDbg at h
  simp only [Bool.and_eq_true, Bool.not_eq_true'] at h
  exact ⟨h.1.1, h.1.2, fun e => by rw [e] at h; simp at h⟩
theorem Good.free (G : Good X g ct n C W) {x : Str} (h : g.frees.contains x = true) : X.mg x = none := G.frees x (List.contains_iff_mem.mp h)

/-! ### rules by constructs -/
theorem pe_no {e : Expr} {t : TE} (h : ∀ σ H Q, ¬ t σ H Q) : PE X e t := ⟨fun _ _ σ H Q _ q => (h σ H Q q).elim⟩
theorem sim_var {i : Nat} {x : Str} {pos : Pos} (hN : X.N[i]? = some x) (hv : Vis X.env.scope x) (hd : noDbg x = true) : PE X (.Name x pos) (tE X.K W fun env => getVar env i) := by
  refine PE.imp (pe_var hN hv (dbg1 hd).1 (dbg1 hd).2.1) fun σ H Q h => ?_
  obtain ⟨ρ, env, st, rE, rS, p⟩ := h
  have p : Post X.K (Rep X.K) W σ ρ H Q (getVar env i st) := p
  unfold getVar at p
  cases e : env[i]? with
  | none => rw [e] at p; exact p.elim
  | some o =>
    rw [e] at p
    cases o with
    | none => exact p.elim
    | some v =>
      obtain ⟨w, h1, h2⟩ := rE i v e
      exact ⟨w, h1, Post.ret p rS h2⟩
theorem sim_c {e : Expr} {v : Val} {w : V} (h : PE X e (tC w)) (r : ∀ ρ H, Rep X.K ρ H v w) : PE X e (tE X.K W fun _ => ret v) := by
  refine PE.imp h fun σ H Q h => ?_
  obtain ⟨ρ, env, st, rE, rS, p⟩ := h
  exact Post.ret p rS (r _ _)
theorem sim_bin {op : Operator} {new : Bool} {a b : Expr} {m1 m2 : Env → M Val} {pos : Pos} (ho : okOp op = true) (ha : PE X a (tE X.K W m1)) (hb : PE X b (tE X.K W m2)) :
    PE X (.BinOp a op b pos) (tE X.K W fun env => bnd (m1 env) fun v => bnd (m2 env) fun w => fun st => bnd (ofOpt (binOp st op v w)) (mk new) st) := by
  cases op with
  | Add => exact PE.imp (pe_op op_add_S ha hb) fun σ H Q h => tOp_of h
  | Sub => exact PE.imp (pe_op op_sub_S ha hb) fun σ H Q h => tOp_of h
  | Mult => exact PE.imp (pe_op op_mul_S ha hb) fun σ H Q h => tOp_of h
  | Mod => exact PE.imp (pe_op op_mod_S ha hb) fun σ H Q h => tOp_of h
  | FloorDiv => exact PE.imp (pe_op op_div_S ha hb) fun σ H Q h => tOp_of h
  | Pow => exact PE.imp (pe_op op_pow_S ha hb) fun σ H Q h => tOp_of h
  | _ => cases ho
theorem sim_neg {a : Expr} {m : Env → M Val} {pos : Pos} (ha : PE X a (tE X.K W m)) : PE X (.UnaryOp .USub a pos) (tE X.K W fun env => bnd (bnd (m env) asInt) fun i => ret (.int (-i))) := by
  refine PE.imp (pe_un un_neg_S ha) fun σ H Q h => tUn_of (g := fun v => bnd (asInt v) fun i => ret (.int (-i))) ?_
  simp only [bnd_assoc] at h
  exact h
/-- a value that is asked for True or False, and what goes on -/
theorem tT_bnd {K : PySem.W.Frag} {m : Env → M Val} {γ δ : Type} {rel : Pl → Hp → γ → δ → Prop} {f : Env → Bool → M γ} {σ : L2.St} {H : Hp} {Q : δ → Hp → Prop} {R : Bool → Hp → Prop} (h : tG K rel W (fun env => bnd (bnd (m env) asBl) (f env)) σ H Q)
    (k : ∀ b H1, tG K rel W (fun env => f env b) σ H1 Q → R b H1) : tT K W m σ H R := by
  obtain ⟨ρ, env, st, rE, rS, p⟩ := h
  refine ⟨ρ, env, st, rE, rS, Post.bnd p fun b st1 ρ1 c H1 e1 s1 q1 p1 => ?_⟩
  have q1 : b = c := q1
  subst q1
  exact k b H1 ⟨ρ1, env, st1, rE.ext e1, s1, p1⟩
theorem tE_ret {K : PySem.W.Frag} {v : Val} {w : V} {σ : L2.St} {H : Hp} {Q : VK} (h : tE K W (fun _ => ret v) σ H Q) (r : ∀ ρ, Rep K ρ H v w) : Q w H := by
  obtain ⟨ρ, env, st, rE, rS, p⟩ := h
  exact Post.ret p rS (r _)
theorem tT_ret {K : PySem.W.Frag} {b : Bool} {σ : L2.St} {H : Hp} {Q : Bool → Hp → Prop} (h : tT K W (fun _ => ret (.bl b)) σ H Q) : Q b H := by
  obtain ⟨ρ, env, st, rE, rS, p⟩ := h
  exact p ρ b H (.refl _ _) rS rfl
theorem sim_not {a : Expr} {m : Env → M Val} {pos : Pos} (ha : PE X a (tE X.K W m)) : PE X (.UnaryOp .Not a pos) (tE X.K W fun env => bnd (bnd (m env) asBl) fun b => ret (.bl (!b))) := by
  refine PE.imp (pe_not ha) fun σ H Q h => ?_
  refine tT_of (tT_bnd h fun b H1 h1 => ?_)
  exact tE_ret h1 fun _ => .bl _
theorem sim_notT {a : Expr} {m : Env → M Val} {pos : Pos} (ha : PT X a (tT X.K W m)) : PT X (.UnaryOp .Not a pos) (tT X.K W fun env => bnd (bnd (m env) asBl) fun b => ret (.bl (!b))) := by
  refine PT.imp (pt_not ha) fun σ H Q h => ?_
  refine tT_bnd (rel := relB) (f := fun _ b => bnd (ret (.bl (!b))) asBl) ?_ fun b H1 h1 => tT_ret h1
  unfold tT at h
  simp only [bnd_assoc] at h ⊢
  exact h
theorem sim_cmp {op : CmpOp} {a b : Expr} {m1 m2 : Env → M Val} {pos : Pos} (hu : X.A.units + 100 < cLine) (ha : PE X a (tE X.K W m1)) (hb : PE X b (tE X.K W m2)) (hm : behindInMarks op b = false) :
    PE X (.Compare a [op] [b] pos) (tE X.K W fun env => bnd (m1 env) fun v => bnd (m2 env) fun w => gCmp op v w) ∧ PT X (.Compare a [op] [b] pos) (tT X.K W fun env => bnd (m1 env) fun v => bnd (m2 env) fun w => gCmp op v w) :=
  ⟨PE.imp (pe_cmpR (op_cmp_S hu op) ha hb hm) fun σ H Q h => tOp_of h, PT.imp (pt_cmpR (op_cmp_S hu op) ha hb hm) fun σ H Q h => tOp_of (tT_of h)⟩
theorem sim_chain {o1 o2 : CmpOp} {a b c : Expr} {m1 m2 m3 : Env → M Val} {pos : Pos} (hu : X.A.units + 100 < cLine) (ha : PE X a (tE X.K W m1)) (hb : PE X b (tE X.K W m2)) (hc : PE X c (tE X.K W m3)) (hm : behindInMarks o2 c = false) :
    PE X (.Compare a [o1, o2] [b, c] pos) (tE X.K W fun env => bnd (m1 env) fun v => bnd (m2 env) fun w => fun st => bnd (ofOpt (cmpOp st o1 v w)) (fun k =>
      if k = true then bnd (m3 env) fun u => fun st => bnd (ofOpt (cmpOp st o2 w u)) (fun b => ret (.bl b)) st else ret (.bl false)) st) ∧
    PT X (.Compare a [o1, o2] [b, c] pos) (tT X.K W fun env => bnd (m1 env) fun v => bnd (m2 env) fun w => fun st => bnd (ofOpt (cmpOp st o1 v w)) (fun k =>
      if k = true then bnd (m3 env) fun u => fun st => bnd (ofOpt (cmpOp st o2 w u)) (fun b => ret (.bl b)) st else ret (.bl false)) st) := by
  have key : ∀ σ H Q, tE X.K W (fun env => bnd (m1 env) fun v => bnd (m2 env) fun w => fun st => bnd (ofOpt (cmpOp st o1 v w)) (fun k =>
      if k = true then bnd (m3 env) fun u => fun st => bnd (ofOpt (cmpOp st o2 w u)) (fun b => ret (.bl b)) st else ret (.bl false)) st) σ H Q → tChain (rOp X.K (gCmp o1)) (rOp X.K (gCmp o2)) (tE X.K W m1) (tE X.K W m2) (tE X.K W m3) σ H Q := by
    intro σ H Q h
    obtain ⟨ρ, env, st, rE, rS, p⟩ := h
    refine ⟨ρ, env, st, rE, rS, Post.bnd p fun v st1 ρ1 x H1 e1 s1 q1 p1 => ?_⟩
    refine ⟨ρ1, env, st1, rE.ext e1, s1, Post.bnd p1 fun w st2 ρ2 y H2 e2 s2 q2 p2 => ?_⟩
    obtain ⟨k, ek, p3⟩ := Post.opt p2
    refine ⟨W, σ, ρ2, st2, v, w, s2, q1.ext e2, q2, ?_⟩
    show Post X.K (Rep X.K) W σ ρ2 H2 _ (bnd (ofOpt (cmpOp st2 o1 v w)) (fun b => ret (.bl b)) st2)
    rw [ek]
    intro ρ3 z H3 e3 s3 q3
    cases q3
    refine ⟨k, rfl, ?_⟩
    cases k with
    | false => exact Post.ret (Post.later p3 e3) s3 (.bl false)
    | true =>
      show tE X.K W m3 σ H3 _
      refine ⟨ρ3, env, st2, ((rE.ext e1).ext e2).ext e3, s3, Post.bnd (Post.later p3 e3) fun u st4 ρ4 z H4 e4 s4 q4 p4 => ?_⟩
      exact ⟨W, σ, ρ4, st4, w, u, s4, (q2.ext e3).ext e4, q4, p4⟩
  have hl : lastMarks [o1, o2] [b, c] = false := hm
  exact ⟨PE.imp (pe_chain (op_cmp_S hu o1) (op_cmp_S hu o2) ha hb hc hl) key, PT.imp (pt_chain (op_cmp_S hu o1) (op_cmp_S hu o2) ha hb hc hl) fun σ H Q h => key σ H _ (tT_of h)⟩
/-- a o1 b o2 c o3 d -/
def tChain3 (r r' r'' : R2) (ta tb tc td : TE) : TE := fun σ H Q => ta σ H fun x H1 => tb σ H1 fun y H2 => r x y H2 fun z H3 => ∃ k, z = .bl k ∧
  (if k = true then tc σ H3 fun w' H4 => r' y w' H4 fun z2 H5 => ∃ k2, z2 = .bl k2 ∧ (if k2 = true then td σ H5 fun u' H6 => r'' w' u' H6 Q else Q (.bl false) H5) else Q (.bl false) H3)
section
variable {a b c d : Expr} {ta tb tc td : TE} {pos : Pos}
theorem pe_chain3 {op op' op'' : CmpOp} {r r' r'' : R2} (ho : OpR X (compareOp op) r) (ho' : OpR X (compareOp op') r') (ho'' : OpR X (compareOp op'') r'') (ha : PE X a ta) (hb : PE X b tb) (hc : PE X c tc) (hd : PE X d td)
    (hm : lastMarks [op, op', op''] [b, c, d] = false) : PE X (.Compare a [op, op', op''] [b, c, d] pos) (tChain3 r r' r'' ta tb tc td) := by
  refine ⟨fun pins s σ H Q I h => ?_⟩
  refine PyProof.Rows.Compare_chain (thn (ha.run pins s σ H _ I h) fun v s1 ⟨x, H1, I1, r1, q1⟩ => PyProof.Rows.chain_link (thn (hb.run pins s1 σ H1 _ I1 q1) fun u s2 ⟨y, H2, I2, r2, q2⟩ =>
    thn (ho pins s2 σ H2 x y v u _ I2 r1 r2 q2) fun d s3 ⟨z, H3, I3, r3, k, e, q3⟩ => ?_)) hm
  subst e
  cases r3
  refine wpAny_truthy_bool ?_
  cases k with
  | false => exact PyProof.Rows.ite_ff ⟨.bl false, H3, I3, rfl, q3⟩
  | true =>
    refine PyProof.Rows.ite_tt (PyProof.Rows.chain_link (thn (hc.run pins s3 σ H3 _ I3 q3) fun w' s4 ⟨z', H4, I4, r4, q4⟩ => thn (ho' pins s4 σ H4 y z' u w' _ I4 r2 r4 q4) fun d2 s5 ⟨z2, H5, I5, r5, k2, e2, q5⟩ => ?_))
    subst e2
    cases r5
    refine wpAny_truthy_bool ?_
    cases k2 with
    | false => exact PyProof.Rows.ite_ff ⟨.bl false, H5, I5, rfl, q5⟩
    | true => exact PyProof.Rows.ite_tt (PyProof.Rows.chain_last (thn (hd.run pins s5 σ H5 _ I5 q5) fun w3 s6 ⟨z3, H6, I6, r6, q6⟩ => ho'' pins s6 σ H6 z' z3 w' w3 Q I6 r4 r6 q6))
theorem pt_chain3 {op op' op'' : CmpOp} {r r' r'' : R2} (ho : OpR X (compareOp op) r) (ho' : OpR X (compareOp op') r') (ho'' : OpR X (compareOp op'') r'') (ha : PE X a ta) (hb : PE X b tb) (hc : PE X c tc) (hd : PE X d td)
    (hm : lastMarks [op, op', op''] [b, c, d] = false) : PT X (.Compare a [op, op', op''] [b, c, d] pos) (tTest (tChain3 r r' r'' ta tb tc td)) := by
  refine ⟨fun pins s σ H Q I h => ?_⟩
  refine PyProof.Rows.isTrue_chain (thn (ha.run pins s σ H _ I h) fun v s1 ⟨x, H1, I1, r1, q1⟩ => PyProof.Rows.test_link (thn (hb.run pins s1 σ H1 _ I1 q1) fun u s2 ⟨y, H2, I2, r2, q2⟩ =>
    thn (ho pins s2 σ H2 x y v u _ I2 r1 r2 q2) fun d s3 ⟨z, H3, I3, r3, k, e, q3⟩ => ?_)) hm
  subst e
  cases r3
  refine wpAny_truthy_bool ?_
  cases k with
  | false =>
    obtain ⟨k', e', q'⟩ := q3
    cases e'
    exact PyProof.Rows.ite_ff ⟨H3, I3, q'⟩
  | true =>
    refine PyProof.Rows.ite_tt (PyProof.Rows.test_link (thn (hc.run pins s3 σ H3 _ I3 q3) fun w' s4 ⟨z', H4, I4, r4, q4⟩ => thn (ho' pins s4 σ H4 y z' u w' _ I4 r2 r4 q4) fun d2 s5 ⟨z2, H5, I5, r5, k2, e2, q5⟩ => ?_))
    subst e2
    cases r5
    refine wpAny_truthy_bool ?_
    cases k2 with
    | false =>
      obtain ⟨k', e', q'⟩ := q5
      cases e'
      exact PyProof.Rows.ite_ff ⟨H5, I5, q'⟩
    | true =>
      refine PyProof.Rows.ite_tt (PyProof.Rows.test_last (thn (hd.run pins s5 σ H5 _ I5 q5) fun w3 s6 ⟨z3, H6, I6, r6, q6⟩ => thn (ho'' pins s6 σ H6 z' z3 w' w3 _ I6 r4 r6 q6) fun d3 s7 ⟨z4, H7, I7, r7, k3, e3, q7⟩ => ?_))
      subst e3
      cases r7
      exact wpAny_truthy_bool ⟨H7, I7, q7⟩
end
theorem sim_chain3 {o1 o2 o3 : CmpOp} {a b c d : Expr} {m1 m2 m3 m4 : Env → M Val} {pos : Pos} (hu : X.A.units + 100 < cLine) (ha : PE X a (tE X.K W m1)) (hb : PE X b (tE X.K W m2)) (hc : PE X c (tE X.K W m3)) (hd : PE X d (tE X.K W m4)) (hm : behindInMarks o3 d = false) :
    PE X (.Compare a [o1, o2, o3] [b, c, d] pos) (tE X.K W fun env => bnd (m1 env) fun v => bnd (m2 env) fun w => fun st => bnd (ofOpt (cmpOp st o1 v w)) (fun k =>
      if k = true then bnd (m3 env) fun u => fun st => bnd (ofOpt (cmpOp st o2 w u)) (fun k2 =>
        if k2 = true then bnd (m4 env) fun x => fun st => bnd (ofOpt (cmpOp st o3 u x)) (fun b => ret (.bl b)) st else ret (.bl false)) st else ret (.bl false)) st) ∧
    PT X (.Compare a [o1, o2, o3] [b, c, d] pos) (tT X.K W fun env => bnd (m1 env) fun v => bnd (m2 env) fun w => fun st => bnd (ofOpt (cmpOp st o1 v w)) (fun k =>
      if k = true then bnd (m3 env) fun u => fun st => bnd (ofOpt (cmpOp st o2 w u)) (fun k2 =>
        if k2 = true then bnd (m4 env) fun x => fun st => bnd (ofOpt (cmpOp st o3 u x)) (fun b => ret (.bl b)) st else ret (.bl false)) st else ret (.bl false)) st) := by
  have key : ∀ σ H Q, tE X.K W (fun env => bnd (m1 env) fun v => bnd (m2 env) fun w => fun st => bnd (ofOpt (cmpOp st o1 v w)) (fun k =>
      if k = true then bnd (m3 env) fun u => fun st => bnd (ofOpt (cmpOp st o2 w u)) (fun k2 =>
        if k2 = true then bnd (m4 env) fun x => fun st => bnd (ofOpt (cmpOp st o3 u x)) (fun b => ret (.bl b)) st else ret (.bl false)) st else ret (.bl false)) st) σ H Q →
      tChain3 (rOp X.K (gCmp o1)) (rOp X.K (gCmp o2)) (rOp X.K (gCmp o3)) (tE X.K W m1) (tE X.K W m2) (tE X.K W m3) (tE X.K W m4) σ H Q := by
    intro σ H Q h
    obtain ⟨ρ, env, st, rE, rS, p⟩ := h
    refine ⟨ρ, env, st, rE, rS, Post.bnd p fun v st1 ρ1 x H1 e1 s1 q1 p1 => ?_⟩
    refine ⟨ρ1, env, st1, rE.ext e1, s1, Post.bnd p1 fun w st2 ρ2 y H2 e2 s2 q2 p2 => ?_⟩
    obtain ⟨k, ek, p3⟩ := Post.opt p2
    refine ⟨W, σ, ρ2, st2, v, w, s2, q1.ext e2, q2, ?_⟩
    show Post X.K (Rep X.K) W σ ρ2 H2 _ (bnd (ofOpt (cmpOp st2 o1 v w)) (fun b => ret (.bl b)) st2)
    rw [ek]
    intro ρ3 z H3 e3 s3 q3
    cases q3
    refine ⟨k, rfl, ?_⟩
    cases k with
    | false => exact Post.ret (Post.later p3 e3) s3 (.bl false)
    | true =>
      show tE X.K W m3 σ H3 _
      refine ⟨ρ3, env, st2, ((rE.ext e1).ext e2).ext e3, s3, Post.bnd (Post.later p3 e3) fun u st4 ρ4 z H4 e4 s4 q4 p4 => ?_⟩
      obtain ⟨k2, ek2, p5⟩ := Post.opt p4
      refine ⟨W, σ, ρ4, st4, w, u, s4, (q2.ext e3).ext e4, q4, ?_⟩
      show Post X.K (Rep X.K) W σ ρ4 H4 _ (bnd (ofOpt (cmpOp st4 o2 w u)) (fun b => ret (.bl b)) st4)
      rw [ek2]
      intro ρ5 z5 H5 e5 s5 q5
      cases q5
      refine ⟨k2, rfl, ?_⟩
      cases k2 with
      | false => exact Post.ret (Post.later p5 e5) s5 (.bl false)
      | true =>
        show tE X.K W m4 σ H5 _
        refine ⟨ρ5, env, st4, ((((rE.ext e1).ext e2).ext e3).ext e4).ext e5, s5, Post.bnd (Post.later p5 e5) fun x6 st6 ρ6 z6 H6 e6 s6 q6 p6 => ?_⟩
        exact ⟨W, σ, ρ6, st6, u, x6, s6, (q4.ext e5).ext e6, q6, p6⟩
  have hl : lastMarks [o1, o2, o3] [b, c, d] = false := hm
  exact ⟨PE.imp (pe_chain3 (op_cmp_S hu o1) (op_cmp_S hu o2) (op_cmp_S hu o3) ha hb hc hd hl) key, PT.imp (pt_chain3 (op_cmp_S hu o1) (op_cmp_S hu o2) (op_cmp_S hu o3) ha hb hc hd hl) fun σ H Q h => key σ H _ (tT_of h)⟩
theorem sim_ife {c a b : Expr} {mc ma mb : Env → M Val} {pos : Pos} (hc : PT X c (tT X.K W mc)) (ha : PE X a (tE X.K W ma)) (hb : PE X b (tE X.K W mb)) :
    PE X (.IfExp c a b pos) (tE X.K W fun env => bnd (bnd (mc env) asBl) fun k => if k = true then ma env else mb env) := by
  refine PE.imp (pe_ifExp hc ha hb) fun σ H Q h => ?_
  refine tT_bnd h fun k H1 h1 => ?_
  cases k <;> exact h1
/-! ### argument lists -/
theorem sim_nil : PA X [] (tA X.K W fun _ => ret []) := by
  refine PA.imp pa_nil fun σ H Q h => ?_
  obtain ⟨ρ, env, st, rE, rS, p⟩ := h
  exact p ρ [] H (.refl _ _) rS .nil
theorem sim_cons {e : Expr} {es : List Expr} {m : Env → M Val} {ms : Env → M (List Val)} (he : PE X e (tE X.K W m)) (hs : PA X es (tA X.K W ms)) (hst : starEach (e :: es) X.env = (false, eval e X.env) :: starEach es X.env) :
    PA X (e :: es) (tA X.K W fun env => bnd (m env) fun v => bnd (ms env) fun vs => ret (v :: vs)) := by
  refine PA.imp (pa_cons he hs hst) fun σ H Q h => ?_
  obtain ⟨ρ, env, st, rE, rS, p⟩ := h
  refine ⟨ρ, env, st, rE, rS, Post.bnd p fun v st1 ρ1 x H1 e1 s1 q1 p1 => ?_⟩
  refine ⟨ρ1, env, st1, rE.ext e1, s1, Post.bnd p1 fun vs st2 ρ2 xs H2 e2 s2 q2 p2 => ?_⟩
  exact p2 ρ2 _ H2 (.refl _ _) s2 (.cons (q1.ext e2) q2)
theorem sim_tup {es : List Expr} {ms : Env → M (List Val)} {k : Nat} {pos : Pos} (h : PA X es (tA X.K W ms)) : PE X (.Tuple es k pos) (tE X.K W fun env => bnd (ms env) fun vs => if szOk vs.length = true then ret (.tup vs) else stuck) := by
  refine PE.imp (pe_tup h) fun σ H Q h => ?_
  obtain ⟨ρ, env, st, rE, rS, p⟩ := h
  refine ⟨ρ, env, st, rE, rS, Post.bnd p fun vs st1 ρ1 xs H1 e1 s1 q1 p1 => ?_⟩
  split at p1
  · rename_i hz
    exact ⟨by rw [← q1.length]; exact of_decide_eq_true hz, post_t p1 s1 q1⟩
  · exact p1.elim
theorem sim_lst {es : List Expr} {ms : Env → M (List Val)} {new : Bool} {pos : Pos} (h : PA X es (tA X.K W ms)) : PE X (.List es pos) (tE X.K W fun env => bnd (ms env) fun vs => if szOk vs.length = true then mk new (.l vs) else stuck) := by
  refine PE.imp (pe_lst h) fun σ H Q h => ?_
  obtain ⟨ρ, env, st, rE, rS, p⟩ := h
  refine ⟨ρ, env, st, rE, rS, Post.bnd p fun vs st1 ρ1 xs H1 e1 s1 q1 p1 => ?_⟩
  split at p1
  · rename_i hz
    exact ⟨by rw [← q1.length]; exact of_decide_eq_true hz, post_l p1 s1 q1⟩
  · exact p1.elim
theorem sim_ix {a b : Expr} {m1 m2 : Env → M Val} {pos : Pos} (hu : X.A.units + 100 < cLine) (ha : PE X a (tE X.K W m1)) (hb : PE X b (tE X.K W m2)) (hs : PlainIx b) :
    PE X (.Subscript a b pos) (tE X.K W fun env => bnd (m1 env) fun v => bnd (m2 env) fun w => fun st => bnd (ofOpt (ixOp st v w)) ret st) :=
  PE.imp (pe_ix (ix_S hu) ha hb hs) fun σ H Q h => tOp_of h
theorem sim_sl {a : Expr} {lo hi : Option Expr} {new : Bool} {m : Env → M Val} {ml mh : Env → M (Option Int)} {pos p2 : Pos} (ha : PE X a (tE X.K W m)) (hl : PO X lo (tG X.K relO W ml)) (hh : PO X hi (tG X.K relO W mh)) :
    PE X (.Subscript a (.Slice lo hi none p2) pos) (tE X.K W fun env => bnd (m env) fun v => bnd (ml env) fun l => bnd (mh env) fun h => fun st => bnd (ofOpt (slOp st v l h)) (mk new) st) := by
  refine PE.imp (pe_slice (sl_S (new := new)) ha hl hh) fun σ H Q h => ?_
  obtain ⟨ρ, env, st, rE, rS, p⟩ := h
  refine ⟨ρ, env, st, rE, rS, Post.bnd p fun v st1 ρ1 x H1 e1 s1 q1 p1 => ?_⟩
  refine ⟨ρ1, env, st1, rE.ext e1, s1, Post.bnd p1 fun l st2 ρ2 l' H2 e2 s2 q2 p2 => ?_⟩
  have q2 : l = l' := q2
  subst q2
  refine ⟨ρ2, env, st2, (rE.ext e1).ext e2, s2, Post.bnd p2 fun u st3 ρ3 u' H3 e3 s3 q3 p3 => ?_⟩
  have q3 : u = u' := q3
  subst q3
  exact ⟨W, σ, ρ3, st3, v, s3, (q1.ext e2).ext e3, p3⟩
theorem sim_rev {a : Expr} {new : Bool} {m : Env → M Val} {k : Nat} {p1 p2 p3 pos : Pos} (ha : PE X a (tE X.K W m)) :
    PE X (.Subscript a (.Slice none none (some (.UnaryOp .USub (.Constant (.int 1) k p1) p2)) p3) pos) (tE X.K W fun env => bnd (m env) fun v => fun st => bnd (ofOpt (revOp st v)) (mk new) st) := by
  refine PE.imp (pe_rev ha) fun σ H Q h => ?_
  obtain ⟨ρ, env, st, rE, rS, p⟩ := h
  refine ⟨ρ, env, st, rE, rS, Post.bnd p fun v st1 ρ1 x H1 e1 s1 q1 p1 => ?_⟩
  obtain ⟨c, e, p2⟩ := Post.opt p1
  clear p1
  unfold revOp at e
  split at e
  · cases e
    cases q1 with
    | @tup a1 ws vs ta qa => exact ⟨a1, ws, rfl, .inr ⟨ta.sq, post_t p2 s1 qa.reverse⟩⟩
  · obtain ⟨xs, e1, rfl⟩ := Option.map_eq_some_iff.mp e
    obtain ⟨a1, ws, rfl, h1, q2⟩ := q1.lstOf s1 e1
    exact ⟨a1, ws, rfl, .inl ⟨.of h1, post_l p2 s1 q2.reverse⟩⟩
theorem sim_oNone : PO X none (tG X.K relO W fun _ => ret none) := by
  refine ⟨fun pins s σ H Q I h => po_none.run pins s σ H Q I ?_⟩
  obtain ⟨ρ, env, st, rE, rS, p⟩ := h
  exact p ρ none H (.refl _ _) rS rfl
theorem sim_oSome {e : Expr} {m : Env → M Val} (he : PE X e (tE X.K W m)) : PO X (some e) (tG X.K relO W fun env => bnd (bnd (m env) asInt) fun i => ret (some i)) := by
  refine ⟨fun pins s σ H Q I h => (po_some he).run pins s σ H Q I ?_⟩
  obtain ⟨ρ, env, st, rE, rS, p⟩ := h
  dsimp only at p
  rw [bnd_assoc] at p
  refine ⟨ρ, env, st, rE, rS, Post.bnd p fun v st1 ρ1 x H1 e1 s1 q1 p1 => ?_⟩
  obtain ⟨i, rfl, p2⟩ := Post.asInt p1
  cases q1
  exact ⟨i, rfl, p2 ρ1 (some i) H1 (.refl _ _) s1 rfl⟩
/-! ### calls -/
theorem noStar {pos : Pos} : ∀ {es : List Expr}, (∀ e ∈ es, okHead e = true) → (backTo pos (starEach es X.env)).any (·.1) = false
  | [], _ => rfl
  | e :: es, h => by
    rw [head_star (h e (by simp))]
    show (false || (backTo pos (starEach es X.env)).any (·.1)) = false
    rw [noStar fun x hx => h x (by simp [hx])]; rfl
theorem tA_bnd {K : PySem.W.Frag} {ms : Env → M (List Val)} {f : List Val → M Val} {σ : L2.St} {H : Hp} {Q : VK} {R : List V → Hp → Prop} (h : tE K W (fun env => bnd (ms env) f) σ H Q)
    (k : ∀ ρ st vs xs H1, RelS K ρ st H1 → RepL K ρ H1 vs xs → Post K (Rep K) W σ ρ H1 Q (f vs st) → R xs H1) : tA K W ms σ H R := by
  obtain ⟨ρ, env, st, rE, rS, p⟩ := h
  exact ⟨ρ, env, st, rE, rS, Post.bnd p fun vs st1 ρ1 xs H1 e1 s1 q1 p1 => k ρ1 st1 vs xs H1 s1 q1 p1⟩
theorem sim_call {f : Str} {m : Md} {es : List Expr} {ms : Env → M (List Val)} {p pos : Pos} (D : DefOk X n C f) (hr : Room (2 * n + 1) X.A) (hg : Gl X f) (hd : noDbg f = true) (tk : Takes X W) (ha : PA X es (tA X.K W ms)) (hok : ∀ e ∈ es, okHead e = true) (hne : es ≠ []) :
    PE X (.Call (.Name f p) es [] pos) (tE X.K W fun env => bnd (ms env) fun vs => inMd m (C f vs)) := by
  obtain ⟨fa, fd, ps, F, hm, hk, hb⟩ := D
  have key : ∀ σ H Q, tE X.K W (fun env => bnd (ms env) fun vs => inMd m (C f vs)) σ H Q → tCallS (spOf X.K C f) (WE W) (tA X.K W ms) σ H Q := by
    intro σ H Q h
    refine tA_bnd h fun ρ st vs xs H1 rS q p => ?_
    refine ⟨ρ, st, vs, rS, q, ?_⟩
    cases m with
    | raw => exact p
    | cut => exact Post.cut rS p
    | keep => exact Post.keep rS p
  cases es with
  | nil =>
    exact absurd rfl hne
  | cons e es =>
    refine PE.imp (pe_callS F (hr.mono (Nat.le_succ _)) hg hm hk hb (fun σ => passAt tk σ) ha (dbg1 hd).1 (head_star (hok e (by simp)) es X.env) (noStar fun x hx => hok x (by simp [hx]))) key

theorem sim_bi {b : Bi} {new : Bool} {es : List Expr} {ms : Env → M (List Val)} {p pos : Pos} (hu : X.A.units + 100 < cLine) (hc : X.calm = true) (hg : Gl X (biName b)) (hm : X.mg (biName b) = none) (ha : PA X es (tA X.K W ms)) (hok : ∀ e ∈ es, okHead e = true) (hne : es ≠ []) :
    PE X (.Call (.Name (biName b) p) es [] pos) (tE X.K W fun env => bnd (ms env) fun vs => fun st => bnd (ofOpt (biOp st b vs)) (mk new) st) := by
  cases es with
  | nil => exact absurd rfl hne
  | cons e es =>
    have hst := head_star (hok e (by simp)) es X.env
    have hns : (backTo pos (starEach es X.env)).any (·.1) = false := noStar fun x hx => hok x (by simp [hx])
    have fin : ∀ {o : Store → List Val → Option Val} {σ : L2.St} {H : Hp} {Q : VK}, tE X.K W (fun env => bnd (ms env) fun vs => fun st => bnd (ofOpt ((o st vs).map Pv.v)) (mk new) st) σ H Q → tCB (rCall X.K fun vs st => bnd (ofOpt (o st vs)) ret st) (tA X.K W ms) σ H Q := by
      intro o σ H Q h
      refine tA_bnd h fun ρ st vs xs H1 rS q p => ⟨W, σ, ρ, st, vs, rS, q, ?_⟩
      show Post X.K (Rep X.K) W σ ρ H1 Q (bnd (ofOpt (o st vs)) ret st)
      cases e : o st vs with
      | none => rw [e] at p; exact p
      | some v => rw [e] at p; exact p
    cases b with
    | len => exact PE.imp (pe_callB bi_len hg hm PySem.boot_len ha (by decide) (by decide) hst hns) fun σ H Q h => fin (o := biLen) h
    | max => exact PE.imp (pe_callB (bi_max hc) hg hm (by decide +kernel) ha (by decide) (by decide) hst hns) fun σ H Q h => fin (o := biMax) h
    | min => exact PE.imp (pe_callB (bi_min hc) hg hm (by decide +kernel) ha (by decide) (by decide) hst hns) fun σ H Q h => fin (o := biMin) h
    | all => exact PE.imp (pe_callB (bi_all hc) hg hm (by decide +kernel) ha (by decide) (by decide) hst hns) fun σ H Q h => fin (o := biAll) h
    | any => exact PE.imp (pe_callB (bi_any hc) hg hm (by decide +kernel) ha (by decide) (by decide) hst hns) fun σ H Q h => fin (o := biAny) h
    | tuple => exact PE.imp (pe_callTy bi_tuple hg hm (by decide +kernel) ha (by decide) (by decide) hst hns) fun σ H Q h => fin (o := biTuple) h
    | int => exact PE.imp (pe_callTy bi_int hg hm (by decide +kernel) ha (by decide) (by decide) hst hns) fun σ H Q h => fin (o := fun _ => biInt) h
    | list =>
      refine PE.imp (pe_callTy (bi_list (new := new) hc) hg hm (by decide +kernel) ha (by decide) (by decide) hst hns) fun σ H Q h => ?_
      exact tA_bnd h fun ρ st vs xs H1 rS q p => ⟨W, σ, ρ, st, vs, rS, q, p⟩
    | sorted =>
      refine PE.imp (pe_callB (bi_sorted (new := new) hc) hg hm (by decide +kernel) ha (by decide) (by decide) hst hns) fun σ H Q h => ?_
      exact tA_bnd h fun ρ st vs xs H1 rS q p => ⟨W, σ, ρ, st, vs, rS, q, p⟩
    | dict =>
      refine PE.imp (pe_callTy (bi_dict (new := new) hc hu) hg hm (by decide +kernel) ha (by decide) (by decide) hst hns) fun σ H Q h => ?_
      exact tA_bnd h fun ρ st vs xs H1 rS q p => ⟨W, σ, ρ, st, vs, rS, q, p⟩
    | minD => exact PE.imp (pe_callB (bi_minD hc hu) hg hm (by decide +kernel) ha (by decide) (by decide) hst hns) fun σ H Q h => fin (o := biMinD) h
    | sortD =>
      refine PE.imp (pe_callB (bi_sortD (new := new) hu) hg hm (by decide +kernel) ha (by decide) (by decide) hst hns) fun σ H Q h => ?_
      exact tA_bnd h fun ρ st vs xs H1 rS q p => ⟨W, σ, ρ, st, vs, rS, q, p⟩
    | str => exact PE.imp (pe_callTy bi_str hg hm (by decide +kernel) ha (by decide) (by decide) hst hns) fun σ H Q h => fin (o := fun _ => biStr) h
theorem allStar {pos : Pos} : ∀ {es : List Expr}, (∀ e ∈ es, okHead e = true) → (backTo pos (starEach es X.env)).all (fun x => !x.1) = true
  | [], _ => rfl
  | e :: es, h => by
    rw [head_star (h e (by simp))]
    show (true && (backTo pos (starEach es X.env)).all (fun x => !x.1)) = true
    rw [allStar fun x hx => h x (by simp [hx])]; rfl
theorem sim_mth {m : Mt} {new : Bool} {o : Expr} {es : List Expr} {mo : Env → M Val} {ms : Env → M (List Val)} {apos cpos : Pos} (hu : X.A.units + 100 < cLine) (ho : PE X o (tE X.K W mo)) (hb : plainBase o = true) (ha : PA X es (tA X.K W ms)) (hok : ∀ e ∈ es, okHead e = true) (hline : (apos.endLine == cpos.line) = true) (hlen : es.length < 30) (hnil : es = [] → ∀ env, ms env = ret []) :
    PE X (.Call (.Attribute o (mtName m : Str) apos) es [] cpos) (tE X.K W fun env => bnd (mo env) fun v => fun st => if tyOk m st v = true then bnd (ms env) (fun vs => mtOp new m v vs) st else .stuck) := by
  have facts : PlainAttrs (mtTy m) ∧ Slot (mtTy m) (mtName m : Str) (mtId m) ∧ typeOf (.builtin (mtId m)) = pure (.type "method_descriptor") := by
    cases m with
    | append => exact ⟨PySem.F.plainAttrs_list, PySem.F.slot_list_append, PySem.F.type_list_append⟩
    | extend => exact ⟨PySem.F.plainAttrs_list, PySem.F.slot_list_extend, PySem.F.type_list_extend⟩
    | pop => exact ⟨PySem.F.plainAttrs_list, PySem.F.slot_list_pop, PySem.F.type_list_pop⟩
    | clear => exact ⟨PySem.F.plainAttrs_list, PySem.F.slot_list_clear, PySem.F.type_list_clear⟩
    | insert => exact ⟨PySem.F.plainAttrs_list, PySem.F.slot_list_insert, PySem.F.type_list_insert⟩
    | join => exact ⟨PySem.F.plainAttrs_str, PySem.F.slot_str_join, PySem.F.type_str_join⟩
    | split => exact ⟨PySem.F.plainAttrs_str, PySem.F.slot_str_split, PySem.F.type_str_split⟩
    | sindex => exact ⟨PySem.F.plainAttrs_str, PySem.F.slot_str_index, PySem.F.type_str_index⟩
    | spart => exact ⟨PySem.F.plainAttrs_str, PySem.F.slot_str_partition, PySem.F.type_str_partition⟩
    | dget => exact ⟨PySem.F.plainAttrs_dict, PySem.F.slot_dict_get, PySem.F.type_dict_get⟩
    | dpop => exact ⟨PySem.F.plainAttrs_dict, PySem.F.slot_dict_pop, PySem.F.type_dict_pop⟩
    | lindex => exact ⟨PySem.F.plainAttrs_list, PySem.F.slot_list_index, PySem.F.type_list_index⟩
  have hbase := head_base hb (mtName m : Str) X.env (eval o X.env)
  cases es with
  | nil =>
    refine PE.imp (pe_bm0 facts.1 facts.2.1 facts.2.2 (mt_S (new := new) hu) ho hbase hline) fun σ H Q h => ?_
    obtain ⟨ρ, env, st, rE, rS, p⟩ := h
    refine ⟨ρ, env, st, rE, rS, Post.bnd p fun v st1 ρ1 x H1 e1 s1 q1 p1 => ?_⟩
    split at p1
    · rename_i ht
      refine ⟨ty_S s1 q1 ht, ?_⟩
      rw [hnil rfl env] at p1
      exact ⟨W, σ, ρ1, st1, v, [], s1, q1, .nil, p1⟩
    · exact p1.elim
  | cons e es =>
    have hst := head_star (hok e (by simp)) es X.env
    have hns : (backTo cpos (starEach es X.env)).any (·.1) = false := noStar fun x hx => hok x (by simp [hx])
    have hfew : ((backTo cpos (starEach (e :: es) X.env)).all (fun x => !x.1) && (backToKw cpos (keywordEach [] X.env)).all (fun x => x.1.isSome) && decide ((e :: es).length + ([] : List Keyword).length + (if ([] : List Keyword).isEmpty then 0 else 1) < 30)) = true := by
      rw [allStar hok]
      show (true && true && decide (es.length + 1 < 30)) = true
      rw [decide_eq_true (show es.length + 1 < 30 from hlen)]
      rfl
    refine PE.imp (pe_bm facts.1 facts.2.1 facts.2.2 (mt_S (new := new) hu) ho ha hbase hfew hline hst hns) fun σ H Q h => ?_
    obtain ⟨ρ, env, st, rE, rS, p⟩ := h
    refine ⟨ρ, env, st, rE, rS, Post.bnd p fun v st1 ρ1 x H1 e1 s1 q1 p1 => ?_⟩
    split at p1
    · rename_i ht
      refine ⟨ty_S s1 q1 ht, ?_⟩
      exact ⟨ρ1, env, st1, rE.ext e1, s1, Post.bnd p1 fun vs st2 ρ2 xs H2 e2 s2 q2 p2 => ⟨W, σ, ρ2, st2, v, vs, s2, q1.ext e2, q2, p2⟩⟩
    · exact p1.elim
theorem kd_boot (k : Kd) : bootBuiltins (kdName k : Str) = some (.type (kdName k)) := by
  cases k <;> decide +kernel
theorem sim_isinC {c : Str} {e : Expr} {m : Env → M Val} {p q pos : Pos} (hg : Gl X "isinstance") (hm : X.mg "isinstance" = none) (hgc : Gl X c) (I0 : C8.InsC X.K (He.ga X.K c)) (hmc : X.mg c = some (.ref (He.ga X.K c))) (hd : noDbg c = true) (he : PE X e (tE X.K W m)) (hok : okHead e = true) :
    PE X (.Call (.Name "isinstance" p) [e, .Name c q] [] pos) (tE X.K W fun env => bnd (m env) fun v => fun st => if isIns st c v = true then .ok (.bl true) st else .stuck) := by
  have hk : PE X (.Name c q) (tC (.ref (He.ga X.K c))) := C8.pe_gc hgc ⟨_, hmc, rfl⟩ (dbg1 hd).1
  have hst := head_star hok [.Name c q] X.env
  refine PE.imp (pe_callB (C8.call_isC I0) hg hm (by decide +kernel) (pa_cons he (pa_cons hk pa_nil rfl) hst) (by decide) (by decide) hst rfl) fun σ H Q h => ?_
  obtain ⟨ρ, env, st, rE, rS, p⟩ := h
  refine ⟨ρ, env, st, rE, rS, Post.bnd p fun v st1 ρ1 x H1 e1 s1 q1 p1 => ?_⟩
  by_cases hi : isIns st1 c v = true
  · rw [if_pos hi] at p1
    unfold isIns at hi
    split at hi
    · rename_i l
      cases q1 with
      | @loc _ a hl =>
        unfold obIns at hi
        split at hi
        · rename_i c' fs eo
          have := of_decide_eq_true hi
          subst this
          obtain ⟨u, e2, e3⟩ := s1.at_ _ a _ hl eo
          cases e3 with
          | @ins _ dx _ gs io hd hn hk q => exact ⟨a, dx, gs, rfl, e2, p1 ρ1 _ H1 (.refl _ _) s1 (.bl true)⟩
        · cases hi
    · cases hi
  · rw [if_neg hi] at p1
    exact p1.elim
theorem sim_isin {k : Kd} {e : Expr} {m : Env → M Val} {p q pos : Pos} (hg : Gl X "isinstance") (hm : X.mg "isinstance" = none) (hgk : Gl X (kdName k : Str)) (hmk : X.mg (kdName k : Str) = none) (hd : noDbg (kdName k : Str) = true) (he : PE X e (tE X.K W m)) (hok : okHead e = true) :
    PE X (.Call (.Name "isinstance" p) [e, .Name (kdName k : Str) q] [] pos) (tE X.K W fun env => bnd (m env) fun v => fun st => bnd (ofOpt (isinOp st v k)) (fun b => ret (.bl b)) st) := by
  have hk : PE X (.Name (kdName k : Str) q) (tC (.ty (kdName k))) := pe_bltn hgk hmk (kd_boot k) rfl (dbg1 hd).2.2 (dbg1 hd).1
  have hst := head_star hok [.Name (kdName k : Str) q] X.env
  refine PE.imp (pe_callB (isin_S (k := k)) hg hm (by decide +kernel) (pa_cons he (pa_cons hk pa_nil rfl) hst) (by decide) (by decide) hst rfl) fun σ H Q h => ?_
  obtain ⟨ρ, env, st, rE, rS, p⟩ := h
  refine ⟨ρ, env, st, rE, rS, Post.bnd p fun v st1 ρ1 x H1 e1 s1 q1 p1 => ?_⟩
  exact ⟨x, rfl, W, σ, ρ1, st1, v, s1, q1, p1⟩
theorem Post.asStr {K : PySem.W.Frag} {W : WX} {σ : L2.St} {ρ : Pl} {H : Hp} {Q : VK} {v : Val} {f : Str → M Val} {st : Store} (h : Post K (Rep K) W σ ρ H Q (Rc.bnd (Rc.asStr v) f st)) : ∃ b, v = .str b ∧ Post K (Rep K) W σ ρ H Q (f b st) := by
  cases v <;> first | exact h.elim | exact ⟨_, rfl, h⟩
theorem inV_strs (z : Str) : ∀ ss : List Str, inV (.str z) (ss.map V.str) = ss.contains z
  | [] => rfl
  | y :: ss => by
    have ih := inV_strs z ss
    unfold inV at ih ⊢
    rw [List.map_cons, List.any_cons, ih, List.contains_cons]
    congr 1
    show (y == z) = (z == y)
    rw [Bool.eq_iff_iff, beq_iff_eq, beq_iff_eq]
    exact ⟨Eq.symm, Eq.symm⟩
theorem flat_strs (ss : List Str) : (ss.map V.str).all flatV = true := by
  rw [List.all_map]
  exact List.all_eq_true.mpr fun _ _ => rfl
theorem inOp_of {neg : Bool} {o : CmpOp} (h : inOp neg o = true) : o = if neg then .NotIn else .In := of_decide_eq_true h
theorem sim_gin {neg : Bool} {o : CmpOp} {l : Expr} {x : Str} {ss : List Str} {m : Env → M Val} {p pos : Pos} (ho : inOp neg o = true) (T : TupsOk X x ss) (hg : Gl X x) (hd : noDbg x = true) (hl : PE X l (tE X.K W m)) :
    PE X (.Compare l [o] [.Name x p] pos) (tE X.K W fun env => bnd (bnd (m env) Rc.asStr) fun z => ret (.bl (neg != ss.contains z))) ∧ PT X (.Compare l [o] [.Name x p] pos) (tT X.K W fun env => bnd (bnd (m env) Rc.asStr) fun z => ret (.bl (neg != ss.contains z))) := by
  obtain ⟨a, hm, hS⟩ := T
  have ho := inOp_of ho
  have hx : PE X (.Name x p) (tC (.ref a)) := pe_glob hg hm rfl (dbg1 hd).1
  have key : ∀ σ H Q, tE X.K W (fun env => bnd (bnd (m env) Rc.asStr) fun z => ret (.bl (neg != ss.contains z))) σ H Q → tOp (rIn X.K neg) (tE X.K W m) (tC (.ref a)) σ H Q := by
    intro σ H Q h
    obtain ⟨ρ, env, st, rE, rS, p⟩ := h
    dsimp only at p
    rw [bnd_assoc] at p
    refine ⟨ρ, env, st, rE, rS, Post.bnd p fun v st1 ρ1 y H1 e1 s1 q1 p1 => ?_⟩
    obtain ⟨z, rfl, p1a⟩ := Post.asStr p1
    cases q1
    refine ⟨a, _, rfl, .inr (hS H1), rfl, flat_strs ss, ?_⟩
    have := Post.ret p1a s1 (.bl _)
    rw [inV_strs]
    cases neg <;> simpa using this
  cases neg with
  | false =>
    subst ho
    exact ⟨PE.imp (pe_cmpR op_in_seq hl hx rfl) key, PT.imp (pt_cmpR op_in_seq hl hx rfl) fun σ H Q h => key σ H _ (tT_of h)⟩
  | true =>
    subst ho
    exact ⟨PE.imp (pe_cmpR op_notIn_seq hl hx rfl) key, PT.imp (pt_cmpR op_notIn_seq hl hx rfl) fun σ H Q h => key σ H _ (tT_of h)⟩
theorem sim_gdin {neg : Bool} {o : CmpOp} {l : Expr} {x : Str} {kvs : List (Str × Int)} {m : Env → M Val} {p pos : Pos} (ho : inOp neg o = true) (T : DicsOk X x kvs) (hg : Gl X x) (hd : noDbg x = true) (hl : PE X l (tE X.K W m)) :
    PE X (.Compare l [o] [.Name x p] pos) (tE X.K W fun env => bnd (bnd (m env) Rc.asStr) fun z => ret (.bl (neg != (kvs.lookup z).isSome))) ∧ PT X (.Compare l [o] [.Name x p] pos) (tT X.K W fun env => bnd (bnd (m env) Rc.asStr) fun z => ret (.bl (neg != (kvs.lookup z).isSome))) := by
  obtain ⟨a, es, n, hm, hK, hv⟩ := T
  have ho := inOp_of ho
  have hx : PE X (.Name x p) (tC (.ref a)) := pe_glob hg hm rfl (dbg1 hd).1
  have key : ∀ σ H Q, tE X.K W (fun env => bnd (bnd (m env) Rc.asStr) fun z => ret (.bl (neg != (kvs.lookup z).isSome))) σ H Q → tOp (fun x y H Q => ∃ (z : Str) (r : Option Value), x = .str z ∧ y = .ref a ∧ PySem.W.nsIn X.K a z = some r ∧ Q (.bl (neg != r.isSome)) H) (tE X.K W m) (tC (.ref a)) σ H Q := by
    intro σ H Q h
    obtain ⟨ρ, env, st, rE, rS, p⟩ := h
    dsimp only at p
    rw [bnd_assoc] at p
    refine ⟨ρ, env, st, rE, rS, Post.bnd p fun v st1 ρ1 y H1 e1 s1 q1 p1 => ?_⟩
    obtain ⟨z, rfl, p1a⟩ := Post.asStr p1
    cases q1
    have hq := Post.ret p1a s1 (.bl _)
    have hz := hv z
    cases e : kvs.lookup z with
    | none =>
      rw [e] at hz hq
      exact ⟨z, none, rfl, rfl, hz, hq⟩
    | some i =>
      rw [e] at hz hq
      obtain ⟨t, hz⟩ := hz
      exact ⟨z, _, rfl, rfl, hz, hq⟩
  have imp : ∀ {f g : Option Value → Bool}, (∀ r, f r = g r) → ∀ {H : Hp} {Q : VK} {x y : V}, (∃ (z : Str) (r : Option Value), x = .str z ∧ y = .ref a ∧ PySem.W.nsIn X.K a z = some r ∧ Q (.bl (f r)) H) → ∃ (z : Str) (r : Option Value), x = .str z ∧ y = .ref a ∧ PySem.W.nsIn X.K a z = some r ∧ Q (.bl (g r)) H := by
    rintro f g hfg H Q x y ⟨z, r, h1, h2, h3, h4⟩
    exact ⟨z, r, h1, h2, h3, by rw [← hfg]; exact h4⟩
  cases neg with
  | false =>
    subst ho
    exact ⟨PE.imp (pe_cmpR (r := fun x y H Q => ∃ (z : Str) (r : Option Value), x = .str z ∧ y = .ref a ∧ PySem.W.nsIn X.K a z = some r ∧ Q (.bl (false != r.isSome)) H) (fun pins s σ H x y v u Q I rx ry h => op_in_kd hK pins s σ H x y v u Q I rx ry (imp (fun r => by simp) h)) hl hx rfl) key, PT.imp (pt_cmpR (r := fun x y H Q => ∃ (z : Str) (r : Option Value), x = .str z ∧ y = .ref a ∧ PySem.W.nsIn X.K a z = some r ∧ Q (.bl (false != r.isSome)) H) (fun pins s σ H x y v u Q I rx ry h => op_in_kd hK pins s σ H x y v u Q I rx ry (imp (fun r => by simp) h)) hl hx rfl) fun σ H Q h => key σ H _ (tT_of h)⟩
  | true =>
    subst ho
    exact ⟨PE.imp (pe_cmpR (r := fun x y H Q => ∃ (z : Str) (r : Option Value), x = .str z ∧ y = .ref a ∧ PySem.W.nsIn X.K a z = some r ∧ Q (.bl (true != r.isSome)) H) (fun pins s σ H x y v u Q I rx ry h => op_notIn_kd hK pins s σ H x y v u Q I rx ry (imp (fun r => by simp) h)) hl hx rfl) key, PT.imp (pt_cmpR (r := fun x y H Q => ∃ (z : Str) (r : Option Value), x = .str z ∧ y = .ref a ∧ PySem.W.nsIn X.K a z = some r ∧ Q (.bl (true != r.isSome)) H) (fun pins s σ H x y v u Q I rx ry h => op_notIn_kd hK pins s σ H x y v u Q I rx ry (imp (fun r => by simp) h)) hl hx rfl) fun σ H Q h => key σ H _ (tT_of h)⟩
theorem sim_gdix {l : Expr} {x : Str} {kvs : List (Str × Int)} {m : Env → M Val} {p pos : Pos} (T : DicsOk X x kvs) (hg : Gl X x) (hd : noDbg x = true) (hl : PE X l (tE X.K W m)) (hs : PlainIx l) :
    PE X (.Subscript (.Name x p) l pos) (tE X.K W fun env => bnd (bnd (m env) Rc.asStr) fun z => bnd (ofOpt (kvs.lookup z)) fun i => ret (.int i)) := by
  obtain ⟨a, es, n, hm, hK, hv⟩ := T
  have hx : PE X (.Name x p) (tC (.ref a)) := pe_glob hg hm rfl (dbg1 hd).1
  have hix : IxR X (fun x y H Q => ∃ (z : Str) (u0 : Value) (v0 : V), x = .ref a ∧ y = .str z ∧ PySem.W.nsIn X.K a z = some (some u0) ∧ RelV v0 u0 ∧ Q v0 H) := by
    intro value slice pins s σ H x y v u Q I rx ry h hs
    obtain ⟨z, u0, v0, rfl, rfl, h3, h4, h5⟩ := h
    cases rx
    exact PyProof.Rows.tail_any (kd_type hK I) PySem.F.slot_dict_getitem.lookup (op_item_kd hK pins s σ H (.ref a) (.str z) _ u Q I rfl ry ⟨z, u0, v0, rfl, rfl, h3, h4, h5⟩) hs
  refine PE.imp (pe_ix hix hx hl hs) fun σ H Q h => ?_
  obtain ⟨ρ, env, st, rE, rS, p⟩ := h
  dsimp only at p
  rw [bnd_assoc] at p
  refine ⟨ρ, env, st, rE, rS, Post.bnd p fun v st1 ρ1 y H1 e1 s1 q1 p1 => ?_⟩
  obtain ⟨z, rfl, p1a⟩ := Post.asStr p1
  cases q1
  obtain ⟨i, ei, p2⟩ := Post.opt p1a
  have hz := hv z
  rw [ei] at hz
  obtain ⟨t, hz⟩ := hz
  exact ⟨z, _, .int i, rfl, rfl, hz, ⟨t, rfl⟩, Post.ret p2 s1 (.int i)⟩
theorem rg_rep {K : PySem.W.Frag} {ρ : Pl} {H : Hp} (i j : Int) : RepL K ρ H (rangeV i j) (rgV i j) := by
  unfold rangeV rgV
  generalize List.range (j - i).toNat = l
  induction l with
  | nil => exact .nil
  | cons a l ih => exact .cons (.int _) ih
theorem sim_lrange {new : Bool} {a b : Expr} {m1 m2 : Env → M Val} {p q pos pos2 : Pos} (hc : X.calm = true) (hg : Gl X "list") (hm : X.mg "list" = none) (hgr : Gl X "range") (hmr : X.mg "range" = none) (ha : PE X a (tE X.K W m1)) (hb : PE X b (tE X.K W m2)) (oa : okHead a = true) (ob : okHead b = true) :
    PE X (.Call (.Name "list" p) [.Call (.Name "range" q) [a, b] [] pos2] [] pos) (tE X.K W fun env => bnd (bnd (m1 env) asInt) fun i => bnd (bnd (m2 env) asInt) fun j => if rngOk i j = true then mk new (.l (rangeV i j)) else stuck) := by
  have hr : PRg X (.Call (.Name "range" q) [a, b] [] pos2) (tRg2 (tE X.K W m1) (tE X.K W m2)) := prg_2 hgr hmr ha hb (head_star oa [b] X.env) (head_star ob [] X.env) (noStar fun x hx => by simp at hx; subst hx; exact ob)
  refine PE.imp (pe_listRg hc hg hm hr rfl) fun σ H Q h => ?_
  obtain ⟨ρ, env, st, rE, rS, p⟩ := h
  dsimp only at p
  rw [bnd_assoc] at p
  refine ⟨ρ, env, st, rE, rS, Post.bnd p fun v st1 ρ1 x H1 e1 s1 q1 p1 => ?_⟩
  obtain ⟨i, rfl, p1a⟩ := Post.asInt p1
  cases q1
  rw [bnd_assoc] at p1a
  refine ⟨ρ1, env, st1, rE.ext e1, s1, Post.bnd p1a fun v st2 ρ2 x H2 e2 s2 q2 p2 => ?_⟩
  obtain ⟨j, rfl, p2a⟩ := Post.asInt p2
  cases q2
  split at p2a
  · rename_i hr
    obtain ⟨h1, h2, h3, h4, h5⟩ := rngOk_of hr
    exact ⟨i, j, rfl, rfl, ⟨h1, h2, h3, h4, h5⟩, post_l p2a s2 (rg_rep i j)⟩
  · exact p2a.elim
theorem sim_lrange1 {new : Bool} {a : Expr} {m1 : Env → M Val} {p q pos pos2 : Pos} (hc : X.calm = true) (hg : Gl X "list") (hm : X.mg "list" = none) (hgr : Gl X "range") (hmr : X.mg "range" = none) (ha : PE X a (tE X.K W m1)) (oa : okHead a = true) :
    PE X (.Call (.Name "list" p) [.Call (.Name "range" q) [a] [] pos2] [] pos) (tE X.K W fun env => bnd (bnd (m1 env) asInt) fun j => if rngOk 0 j = true then mk new (.l (rangeV 0 j)) else stuck) := by
  have hr : PRg X (.Call (.Name "range" q) [a] [] pos2) (tRg1 (tE X.K W m1)) := prg_1 hgr hmr ha (head_star oa [] X.env)
  refine PE.imp (pe_listRg hc hg hm hr rfl) fun σ H Q h => ?_
  obtain ⟨ρ, env, st, rE, rS, p⟩ := h
  dsimp only at p
  rw [bnd_assoc] at p
  refine ⟨ρ, env, st, rE, rS, Post.bnd p fun v st1 ρ1 x H1 e1 s1 q1 p1 => ?_⟩
  obtain ⟨i, rfl, p1a⟩ := Post.asInt p1
  cases q1
  split at p1a
  · rename_i hr
    obtain ⟨h1, h2, h3, h4, h5⟩ := rngOk_of hr
    exact ⟨i, rfl, ⟨h1, h2, h3, h4, h5⟩, post_l p1a s1 (rg_rep 0 i)⟩
  · exact p1a.elim
/-! ### len(set(xs)) -/
theorem dd_fold : ∀ (ns acc : List Int), ns.foldl PyProof.Rows.step_dedup acc = ddS acc ns
  | [], acc => rfl
  | n :: ns, acc => by
    rw [List.foldl_cons, ddS, dd_fold ns]
    unfold PyProof.Rows.step_dedup
    rfl
theorem dd_met (ns : List Int) : PyProof.Rows.firstMet (fun i => ns.getD i 0) ns.length = ddS [] ns := by
  unfold PyProof.Rows.firstMet
  have e : (List.range ns.length).map (fun i => ns.getD i 0) = ns := by
    refine List.ext_getElem (by simp) fun i h1 h2 => ?_
    simp [List.getElem?_eq_getElem h2]
  rw [e, dd_fold]
def tLenSetI (K : PySem.W.Frag) (ta : TE) : TE := fun σ H Q => ta σ H fun x H1 => ∃ (l : Addr) (ns : List Int), x = .ref l ∧ SqL K H1 l (ns.map V.int) ∧ ns.length < 4000 ∧ Q (.int ((ddS [] ns).length : Nat)) H1
open PySem.Spec PyProof.Rows in
theorem pe_lenSetI {X : Cx} {a : Expr} {ta : TE} {p p2 q pos : Pos} (hc : X.calm = true) (hg : Gl X "len") (hm : X.mg "len" = none) (hg2 : Gl X "set") (hm2 : X.mg "set" = none) (ha : PE X a ta)
    (na : starEach [a] X.env = (false, eval a X.env) :: starEach [] X.env) : PE X (.Call (.Name "len" p) [.Call (.Name "set" p2) [a] [] q] [] pos) (tLenSetI X.K ta) := by
  refine ⟨fun pins s σ H Q I h => ?_⟩
  refine Call_ (ld_blt I hg hm boot_len ?_)
  refine PyProof.Rows.callWith_builtin1 (PyProof.Rows.args_cons ?_ rfl) rfl rfl
  refine Call_ (ld_blt I hg2 hm2 boot_set ?_)
  refine PyProof.Rows.callWith_type1 (PyProof.Rows.args_cons (thn (ha.run pins s σ H _ I h) fun v s1 ⟨x, H1, I1, r1, q1⟩ => PyProof.Rows.args_nil ?_) na) na rfl
  obtain ⟨l, ns, rfl, hq, h1, q1⟩ := q1
  cases r1
  obtain ⟨its, r, pl, hz⟩ := I1.list hq
  have hsz : its.toArray.size = ns.length := by rw [List.size_toArray, ← r.length, List.length_map]
  refine call_set_list (I1.ok.hd hc) pl.isList (by simpa using r.ints) (by rw [hsz]; show _ < 4096; omega) fun h' tk hS hk => ?_
  rw [hsz] at hS
  refine PyProof.Rows.args_nil ?_
  obtain ⟨o, es, ep, t, ho, hex, hd, _, _, _, hf, hn⟩ := hS
  have hle := PyProof.Rows.firstMet_length_le (fun i => ns.getD i 0) ns.length
  have I2 : Inv X pins σ H1 { s1 with heap := h', toks := tk } := I1.kept fun b o e => hk b o (Heap.lt_size e) e
  exact call_len_set ho hex hd hf (by rw [hn]; omega) ⟨.int _, H1, I2.tok _, ⟨_, by rw [hn, dd_met]⟩, q1⟩
theorem sim_lenset {a : Expr} {m1 : Env → M Val} {p q pos pos2 : Pos} (hc : X.calm = true) (hg : Gl X "len") (hm : X.mg "len" = none) (hgr : Gl X "set") (hmr : X.mg "set" = none) (ha : PE X a (tE X.K W m1)) (oa : okHead a = true) :
    PE X (.Call (.Name "len" p) [.Call (.Name "set" q) [a] [] pos2] [] pos) (tE X.K W fun env => bnd (m1 env) fun v => fun st => bnd (ofOpt (lenSet st v)) ret st) := by
  refine PE.imp (pe_lenSetI hc hg hm hgr hmr ha (head_star oa [] X.env)) fun σ H Q h => ?_
  obtain ⟨ρ, env, st, rE, rS, p⟩ := h
  refine ⟨ρ, env, st, rE, rS, Post.bnd p fun v st1 ρ1 x H1 e1 s1 q1 p1 => ?_⟩
  obtain ⟨c, ec, p2⟩ := Post.opt p1
  unfold lenSet at ec
  obtain ⟨ys, e2, e3⟩ := Option.bind_eq_some_iff.mp ec
  obtain ⟨ns, e4, e5⟩ := Option.bind_eq_some_iff.mp e3
  obtain ⟨b, ws, rfl, h2, h3⟩ := q1.lstOf s1 e2
  have := mapO_ints h3 e4
  subst this
  split at e5
  · rename_i hl
    cases e5
    exact ⟨b, ns, rfl, .of h2, of_decide_eq_true hl, Post.ret p2 s1 (.int _)⟩
  · cases e5
/-! ### sorted(set(xs)) -/
theorem sw_ins_mem {n k : Int} : ∀ {ms : List Int}, k ∈ insI n ms ↔ k = n ∨ k ∈ ms
  | [] => by simp [insI]
  | m :: ms => by
    unfold insI
    split
    · simp
    · rw [List.mem_cons, List.mem_cons, sw_ins_mem (ms := ms)]
      exact ⟨fun h => h.elim (fun h => .inr (.inl h)) fun h => h.elim .inl fun h => .inr (.inr h), fun h => h.elim (fun h => .inr (.inl h)) fun h => h.elim .inl fun h => .inr (.inr h)⟩
theorem sw_srt_mem {k : Int} : ∀ {ms : List Int}, k ∈ srt ms ↔ k ∈ ms
  | [] => by simp [srt]
  | m :: ms => by rw [srt, sw_ins_mem, sw_srt_mem (ms := ms), List.mem_cons]
theorem sw_ins_lt {n : Int} : ∀ {ms : List Int}, ms.Pairwise (· < ·) → n ∉ ms → (insI n ms).Pairwise (· < ·)
  | [], _, _ => by simp [insI]
  | m :: ms, h, hn => by
    obtain ⟨h1, h2⟩ := List.pairwise_cons.mp h
    have hne : n ≠ m := fun z => hn (by simp [z])
    unfold insI
    split
    · rename_i hle
      refine List.pairwise_cons.mpr ⟨fun y hy => ?_, h⟩
      rcases List.mem_cons.mp hy with rfl | hy
      · omega
      · have := h1 y hy
        omega
    · rename_i hle
      refine List.pairwise_cons.mpr ⟨fun y hy => ?_, sw_ins_lt h2 fun z => hn (by simp [z])⟩
      rcases sw_ins_mem.mp hy with rfl | hy
      · omega
      · exact h1 y hy
theorem sw_srt_lt : ∀ {ms : List Int}, ms.Nodup → (srt ms).Pairwise (· < ·)
  | [], _ => by simp [srt]
  | m :: ms, h => by
    obtain ⟨h1, h2⟩ := List.nodup_cons.mp h
    exact sw_ins_lt (sw_srt_lt h2) fun z => h1 (sw_srt_mem.mp z)
theorem sw_dd_mem {k : Int} : ∀ {ns acc : List Int}, k ∈ ddS acc ns ↔ k ∈ acc ∨ k ∈ ns
  | [], acc => by simp [ddS]
  | n :: ns, acc => by
    rw [ddS, sw_dd_mem (ns := ns)]
    by_cases h : acc.any (· == n) = true
    · rw [if_pos h]
      have hm : n ∈ acc := by
        obtain ⟨y, h1, h2⟩ := List.any_eq_true.mp h
        have : y = n := by simpa using h2
        exact this ▸ h1
      constructor
      · rintro (h | h)
        · exact .inl h
        · exact .inr (by simp [h])
      · rintro (h | h)
        · exact .inl h
        · rcases List.mem_cons.mp h with rfl | h
          · exact .inl hm
          · exact .inr h
    · rw [if_neg h]
      simp only [List.mem_append, List.mem_cons, List.not_mem_nil, or_false, or_assoc]
theorem sw_dd_nodup : ∀ {ns acc : List Int}, acc.Nodup → (ddS acc ns).Nodup
  | [], acc, h => by simpa [ddS] using h
  | n :: ns, acc, h => by
    rw [ddS]
    refine sw_dd_nodup ?_
    by_cases hm : acc.any (· == n) = true
    · rw [if_pos hm]
      exact h
    · rw [if_neg hm]
      rw [List.nodup_append]
      refine ⟨h, by simp, fun x hx y hy e => ?_⟩
      simp only [List.mem_singleton] at hy
      subst e
      exact hm (List.any_eq_true.mpr ⟨x, hx, by simp [hy]⟩)
/-- rising lists with the same members are one -/
theorem sw_lt_one : ∀ {ms ks : List Int}, ms.Pairwise (· < ·) → ks.Pairwise (· < ·) → (∀ k, k ∈ ms ↔ k ∈ ks) → ms = ks
  | [], [], _, _, _ => rfl
  | [], k :: ks, _, _, h => by have := (h k).mpr (by simp); simp at this
  | m :: ms, [], _, _, h => by have := (h m).mp (by simp); simp at this
  | m :: ms, k :: ks, h1, h2, h => by
    obtain ⟨a1, a2⟩ := List.pairwise_cons.mp h1
    obtain ⟨b1, b2⟩ := List.pairwise_cons.mp h2
    have e : m = k := by
      have p := (h m).mp (by simp)
      have q := (h k).mpr (by simp)
      rcases List.mem_cons.mp p with p | p
      · exact p
      · rcases List.mem_cons.mp q with q | q
        · exact q.symm
        · have := b1 m p
          have := a1 k q
          omega
    subst e
    rw [sw_lt_one a2 b2 fun j => ?_]
    constructor
    · intro hj
      rcases List.mem_cons.mp ((h j).mp (by simp [hj])) with z | z
      · have := a1 j hj
        omega
      · exact z
    · intro hj
      rcases List.mem_cons.mp ((h j).mpr (by simp [hj])) with z | z
      · have := b1 j hj
        omega
      · exact z
def tSrtSet (K : PySem.W.Frag) (ta : TE) : TE := fun σ H Q => ta σ H fun x H1 => ∃ (l : Addr) (ns : List Int), x = .ref l ∧ SqL K H1 l (ns.map V.int) ∧ ns.length < 64 ∧ ∀ p, H1 p = none → Q (.ref p) (upd H1 p (.lst ((srt (ddS [] ns)).map V.int)))
open PySem.Spec PyProof.Rows in
theorem pe_srtSet {X : Cx} {a : Expr} {ta : TE} {p p2 q pos : Pos} (hc : X.calm = true) (hg : Gl X "sorted") (hm : X.mg "sorted" = none) (hg2 : Gl X "set") (hm2 : X.mg "set" = none) (ha : PE X a ta)
    (na : starEach [a] X.env = (false, eval a X.env) :: starEach [] X.env) : PE X (.Call (.Name "sorted" p) [.Call (.Name "set" p2) [a] [] q] [] pos) (tSrtSet X.K ta) := by
  refine ⟨fun pins s σ H Q I h => ?_⟩
  refine Call_ (ld_blt I hg hm (show bootBuiltins "sorted" = some (.builtin "sorted") by decide +kernel) ?_)
  refine PyProof.Rows.callWith_builtin1 (PyProof.Rows.args_cons ?_ rfl) rfl rfl
  refine Call_ (ld_blt I hg2 hm2 boot_set ?_)
  refine PyProof.Rows.callWith_type1 (PyProof.Rows.args_cons (thn (ha.run pins s σ H _ I h) fun v s1 ⟨x, H1, I1, r1, q1⟩ => PyProof.Rows.args_nil ?_) na) na rfl
  obtain ⟨l, ns, rfl, hq, h1, q1⟩ := q1
  cases r1
  obtain ⟨its, r, pl, hz⟩ := I1.list hq
  refine call_set_lstI (items := its.toArray) ns (I1.ok.hd hc) pl.isList (by simpa using r.ints) (by show _ < 4096; omega) fun h' tk c hS hcn hk => ?_
  refine PyProof.Rows.args_nil ?_
  have I2 : Inv X pins σ H1 { s1 with heap := h', toks := tk } := I1.kept fun b o e => hk b o e
  refine sorted_set hS (I2.ok.hd hc) (by omega) fun s' p out c2 ms k g o hp hg hi hs hm hl => ?_
  have hms : ms = srt (ddS [] ns) := sw_lt_one hs (sw_srt_lt (sw_dd_nodup List.nodup_nil)) fun j => by
    rw [hm, sw_srt_mem, sw_dd_mem]
    simp
  have hlen : (ms.map V.int).length ≤ sizeLine := by rw [List.length_map, hl, sizeLine_eq]; omega
  have hn : H1 p = none := I2.hok.fresh hp
  have J : Inv X pins σ (upd H1 p (.lst (ms.map V.int))) { ({ s1 with heap := h', toks := tk } : Shared) with heap := s'.heap, gens := s'.gens, drawn := s'.drawn, toks := s'.toks } :=
    I2.call (ch := []) (Un.laid k hp hn) (I2.hok.laid k hp ⟨hlen, out.toList, c2, vals_of_ints hi, hg⟩) (by rw [g]; exact I2.bare) (fun _ z => nomatch z)
  have e : s' = { ({ s1 with heap := h', toks := tk } : Shared) with heap := s'.heap, gens := s'.gens, drawn := s'.drawn, toks := s'.toks } := by
    cases s'
    cases s1
    cases o
    rfl
  rw [e]
  exact ⟨.ref p, _, J, rfl, hms ▸ q1 p hn⟩
theorem sim_srtset {new : Bool} {a : Expr} {m1 : Env → M Val} {p q pos pos2 : Pos} (hc : X.calm = true) (hg : Gl X "sorted") (hm : X.mg "sorted" = none) (hgr : Gl X "set") (hmr : X.mg "set" = none) (ha : PE X a (tE X.K W m1)) (oa : okHead a = true) :
    PE X (.Call (.Name "sorted" p) [.Call (.Name "set" q) [a] [] pos2] [] pos) (tE X.K W fun env => bnd (m1 env) fun v => fun st => bnd (ofOpt (srtSet st v)) (mk new) st) := by
  refine PE.imp (pe_srtSet hc hg hm hgr hmr ha (head_star oa [] X.env)) fun σ H Q h => ?_
  obtain ⟨ρ, env, st, rE, rS, p⟩ := h
  refine ⟨ρ, env, st, rE, rS, Post.bnd p fun v st1 ρ1 x H1 e1 s1 q1 p1 => ?_⟩
  obtain ⟨c, ec, p2⟩ := Post.opt p1
  unfold srtSet at ec
  obtain ⟨ys, e2, e3⟩ := Option.bind_eq_some_iff.mp ec
  obtain ⟨ns, e4, e5⟩ := Option.bind_eq_some_iff.mp e3
  obtain ⟨b, ws, rfl, h2, h3⟩ := q1.lstOf s1 e2
  have := mapO_ints h3 e4
  subst this
  split at e5
  · rename_i hl
    cases e5
    exact ⟨b, ns, rfl, .of h2, of_decide_eq_true hl, post_l p2 s1 (repL_ints _)⟩
  · cases e5
/-! ### a def out of a displayed list, called -/
theorem pa_fs : ∀ {fs : List Str} {ns : List Expr}, Paired (fun f e => DefOk X n C f ∧ Gl X f ∧ noDbg f = true ∧ ∃ p, e = .Name f p) fs ns →
    ∃ fas : List Addr, fas.length = fs.length ∧ (∀ (i : Nat) (f : Str), fs[i]? = some f → ∃ fa, fas[i]? = some fa ∧ ∃ (fd : FuncData) (ps : List Str), FnOk X.prog X.w X.K X.mg X.base (L2.CX X.prog X.w) (2 * n) fa fd ps (spOf X.K C f) ∧ PySem.W.keepIn X.K (.ref fa) = true ∧ Binds X.K fd ps []) ∧
      PA X ns (fun σ H Q => Q (fas.map V.ref) H)
  | [], [], .nil => ⟨[], rfl, fun i f h => by simp at h, PA.imp pa_nil fun σ H Q h => h⟩
  | f :: fs, _ :: ns, .cons ⟨⟨fa, fd, ps, F, hm, hk, hb⟩, hg, hd, p, e⟩ t => by
    subst e
    obtain ⟨fas, h1, h2, h3⟩ := pa_fs t
    refine ⟨fa :: fas, by simp [h1], fun i g h => ?_, PA.imp (pa_cons (pe_glob (v := .ref fa) hg hm rfl (dbg1 hd).1) h3 (head_star rfl _ X.env)) fun σ H Q h => h⟩
    cases i with
    | zero =>
      simp at h
      subst h
      exact ⟨fa, rfl, fd, ps, F, hk, hb⟩
    | succ i => exact h2 i g (by simpa using h)
theorem atI_map {α β : Type} {xs : List α} {ys : List β} {i : Int} {x : α} (hl : ys.length = xs.length) (h : L2.atI xs i = some x) : ∃ j : Nat, xs[j]? = some x ∧ L2.atI ys i = ys[j]? := by
  unfold L2.atI at h ⊢
  rw [hl]
  obtain ⟨j, e1, e2⟩ := Option.bind_eq_some_iff.mp h
  exact ⟨j, e2, by rw [e1]; rfl⟩
theorem sim_pick {fs : List Str} {ns : List Expr} {m : Md} {ix : Expr} {es : List Expr} {mi : Env → M Val} {ms : Env → M (List Val)} {p p2 pos : Pos} (hr : Room (2 * n + 1) X.A) (tk : Takes X W)
    (hf : Paired (fun f e => DefOk X n C f ∧ Gl X f ∧ noDbg f = true ∧ ∃ p, e = .Name f p) fs ns) (hz : fs.length ≤ sizeLine) (hi : PE X ix (tE X.K W mi)) (oi : okHead ix = true) (ha : PA X es (tA X.K W ms)) (hok : ∀ e ∈ es, okHead e = true) (hne : es ≠ []) :
    PE X (.Call (.Subscript (.List ns p2) ix p) es [] pos) (tE X.K W fun env => bnd (bnd (mi env) asInt) fun i => bnd (ofOpt (L2.atI fs i)) fun f => bnd (ms env) fun vs => inMd m (C f vs)) := by
  obtain ⟨fas, hl, hfa, hp⟩ := pa_fs hf
  refine ⟨fun pins s σ H Q I h => ?_⟩
  cases es with
  | nil => exact absurd rfl hne
  | cons e es =>
    obtain ⟨ρ, env, st, rE, rS, P0⟩ := h
    refine PyProof.Rows.Call_ (thn ((pe_ix ix_list (pe_lst hp) hi (head_ix oi) (pos := p)).run pins s σ H (fun v H1 => ∃ (f : Str) (fa : Addr) (fd : FuncData) (ps : List Str), v = .ref fa ∧ FnOk X.prog X.w X.K X.mg X.base (L2.CX X.prog X.w) (2 * n) fa fd ps (spOf X.K C f) ∧ PySem.W.keepIn X.K (.ref fa) = true ∧ Binds X.K fd ps [] ∧
      tE X.K W (fun env => bnd (ms env) fun vs => inMd m (C f vs)) σ H1 Q) I ⟨by rw [List.length_map, hl]; exact hz, fun b hb => ?_⟩) fun u s1 ⟨v, H1, I1, r1, q1⟩ => ?_) rfl
    · obtain ⟨rS1, ex1⟩ := rS.laid (o := .lst (fas.map V.ref)) hb
      refine ⟨ρ, env, st, rE.ext ex1, rS1, ?_⟩
      have P1 := Post.later P0 ex1
      dsimp only at P1
      rw [bnd_assoc] at P1
      refine Post.bnd P1 fun v st1 ρ1 x H1 e1 s1 q1 p1 => ?_
      obtain ⟨i, rfl, p2⟩ := Post.asInt p1
      cases q1
      obtain ⟨f, ef, p3⟩ := Post.opt p2
      obtain ⟨j, ej, ea⟩ := atI_map (ys := fas.map V.ref) (by rw [List.length_map, hl]) ef
      obtain ⟨fa, efa, fd, ps, F, hk, hb'⟩ := hfa j f ej
      have hbρ : b ∉ ρ := fun z => rS.ne hb z rfl
      have hH1 : H1 b = some (.lst (fas.map V.ref)) := (e1.keep b _ upd_same hbρ).1
      refine ⟨b, fas.map V.ref, i, .ref fa, rfl, rfl, .of hH1, by rw [ea, List.getElem?_map, efa]; rfl, f, fa, fd, ps, rfl, F, hk, hb', ?_⟩
      exact ⟨ρ1, env, st1, (rE.ext ex1).ext e1, s1, p3⟩
    · obtain ⟨f, fa, fd, ps, rfl, F, hk, hb, h1⟩ := q1
      cases r1
      have h2 : tA X.K W ms σ H1 (fun vs H1 => spOf X.K C f vs H1 Q (WE W σ)) := by
        refine tA_bnd h1 fun ρ st vs xs H1 rS q p => ?_
        refine ⟨ρ, st, vs, rS, q, ?_⟩
        cases m with
        | raw => exact p
        | cut => exact Post.cut rS p
        | keep => exact Post.keep rS p
      refine PySem.W.callWith_K (h₀ := X.base) I1.ok.mod.kin hk (thn (ha.run pos pins s1 σ H1 _ I1 h2) fun us s2 ⟨vs, H2, I2, r, q⟩ => ⟨I2.kIn, ?_⟩) (head_star (hok e (by simp)) es X.env) (noStar fun x hx => hok x (by simp [hx]))
      exact run_fnS F (hr.mono (Nat.le_succ _)) hb (passAt tk σ) I2 r q
theorem sim_ndict {es : List Expr} {ms : Env → M (List Val)} {p pos : Pos} (hu : X.A.units + 100 < cLine) (hc : X.calm = true) (hg : Gl X "dict") (hm : X.mg "dict" = none) (ha : PA X es (tA X.K W ms)) (hok : ∀ e ∈ es, okHead e = true) (hne : es ≠ []) :
    PE X (.Call (.Name "dict" p) es [] pos) (tE X.K W fun env => bnd (ms env) fun vs => fun st => bnd (ofOpt (dicNs st vs)) ret st) := by
  cases es with
  | nil => exact absurd rfl hne
  | cons e es =>
    have hst := head_star (hok e (by simp)) es X.env
    have hns : (backTo pos (starEach es X.env)).any (·.1) = false := noStar fun x hx => hok x (by simp [hx])
    refine PE.imp (pe_callTy (bi_dicN hc hu) hg hm (by decide +kernel) ha (by decide) (by decide) hst hns) fun σ H Q h => ?_
    exact tA_bnd h fun ρ st vs xs H1 rS q p => ⟨W, σ, ρ, st, vs, rS, q, p⟩
/-! ### dicts, instances -/
theorem sim_dnew {b : Bool} {pos : Pos} : PE X (.Dict [] [] pos) (tE X.K W fun _ => if b = true then mk true (.t []) else mk true (.d [])) := by
  cases b with
  | true =>
    refine PE.imp pe_dnewT fun σ H Q h => ?_
    obtain ⟨ρ, env, st, rE, rS, p⟩ := h
    exact post_dT0 p rS
  | false =>
    refine PE.imp pe_dnewK fun σ H Q h => ?_
    obtain ⟨ρ, env, st, rE, rS, p⟩ := h
    exact post_dK (new := true) (kvs := []) (kws := []) (show Post X.K (Rep X.K) W σ ρ H Q (mk true (.d []) st) from p) rS rfl .nil
theorem lookup_of_nodup {fs : List (Str × V)} (nd : (fs.map (·.1)).Nodup) : ∀ {k : Nat} {f : Str} {v : V}, fs[k]? = some (f, v) → fs.lookup f = some v := by
  induction fs with
  | nil => intro k f v h; simp at h
  | cons p fs ih =>
    intro k f v h
    obtain ⟨g, w⟩ := p
    rw [List.map_cons, List.nodup_cons] at nd
    rw [List.lookup_cons]
    cases k with
    | zero =>
      simp at h
      obtain ⟨rfl, rfl⟩ := h
      simp
    | succ k =>
      have h : fs[k]? = some (f, v) := by simpa using h
      have hne : f ≠ g := fun e => nd.1 (by
        subst e
        exact List.mem_map.mpr ⟨_, List.mem_of_getElem? h, rfl⟩)
      have : (f == g) = false := by simpa using hne
      rw [this]
      exact ih nd.2 h
theorem fld_at {K : PySem.W.Frag} {ρ : Pl} {H : Hp} {fs : List (Str × Val)} {gs : List (Str × V)} (hk : fs.map (·.1) = gs.map (·.1)) (q : RepL K ρ H (fs.map (·.2)) (gs.map (·.2))) {k : Nat} {f : Str} {v : Val} (e : fs[k]? = some (f, v)) : ∃ w, gs[k]? = some (f, w) ∧ Rep K ρ H v w := by
  have e1 : (fs.map (·.1))[k]? = some f := by rw [List.getElem?_map, e]; rfl
  have e2 : (fs.map (·.2))[k]? = some v := by rw [List.getElem?_map, e]; rfl
  rw [hk] at e1
  obtain ⟨w, e3, r⟩ := q.get e2
  rw [List.getElem?_map] at e1 e3
  obtain ⟨p, e4, e5⟩ := Option.map_eq_some_iff.mp e1
  obtain ⟨p', e6, e7⟩ := Option.map_eq_some_iff.mp e3
  rw [e4] at e6
  cases e6
  obtain ⟨a, b⟩ := p
  cases e5
  cases e7
  exact ⟨b, e4, r⟩
theorem sim_fld {o : Expr} {f : Str} {k : Nat} {mo : Env → M Val} {pos : Pos} (ho : PE X o (tE X.K W mo)) (hb : plainBase o = true) : PE X (.Attribute o f pos) (tE X.K W fun env => bnd (mo env) fun v => fun st => ofOpt (fldOp st f k v) st) := by
  refine PE.imp (pe_fld ho (head_base hb f X.env _)) fun σ H Q h => ?_
  obtain ⟨ρ, env, st, rE, rS, p⟩ := h
  refine ⟨ρ, env, st, rE, rS, Post.bnd p fun v st1 ρ1 x H1 e1 s1 q1 p1 => ?_⟩
  unfold fldOp at p1
  split at p1
  · rename_i l
    cases q1 with
    | @loc _ a hl =>
      cases eo : st1[l]? with
      | none => rw [eo] at p1; exact p1.elim
      | some ob =>
        rw [eo] at p1
        obtain ⟨u, e2, e3⟩ := s1.at_ _ a _ hl eo
        cases e3 with
        | lst _ => exact p1.elim
        | dK _ _ => exact p1.elim
        | dT _ _ => exact p1.elim
        | @ins c dx fs gs io hd hn hk q =>
          unfold obFld at p1
          dsimp only at p1
          cases ef : fs[k]? with
          | none => rw [ef] at p1; exact p1.elim
          | some pr =>
            rw [ef] at p1
            dsimp only at p1
            split at p1
            · rename_i hf
              obtain ⟨f', v'⟩ := pr
              dsimp only at hf
              subst hf
              obtain ⟨w, e4, r⟩ := fld_at hk q ef
              exact ⟨a, _, dx, gs, w, rfl, e2, io.cls, io.noat _ (List.mem_of_getElem? e4), lookup_of_nodup io.nd e4, Post.ret p1 s1 r⟩
            · exact p1.elim
  · exact p1.elim
/-- o.m(..), the call behind the look-up -/
theorem meth_wp {prog : Program} {w : World} {A : Around} {E : Value → Shared → Prop} {s : Shared} {env : PySem.Env} {o : Expr} {name : Str} {apos pos : Pos} {args : List Expr} {Q : Value → Shared → Prop}
    (hbase : attributeBase o name env (eval o env) = eval o env)
    (hfew : methodCallForm (args.length + ([] : List Keyword).length) (backTo pos (starEach args env)) (backToKw pos (keywordEach [] env)) = true)
    (hline : (apos.endLine == pos.line) = true)
    (h : wpAny (model prog w) A (eval o env) (fun ov s₁ => wpAny (model prog w) A (getMethod ov name (do return (← importBound o env).getD true)) (fun fx s₂ => wpAny (model prog w) A (callWith pos fx.1 fx.2 (backTo pos (starEach args env)) (backToKw pos (keywordEach [] env))) Q E s₂) E s₁) E s) :
    wpAny (model prog w) A (eval (.Call (.Attribute o name apos) args [] pos) env) Q E s := by
  rw [arm_eval_Call, hbase]
  refine wpAny_bind (wpAny_mono h (fun ov s₁ h₁ => ?_) fun _ _ e => e)
  refine wpAny_bind (wpAny_standAt ?_)
  have hpos : methodCallPos true o env apos pos = pure pos := by unfold methodCallPos; simp [hline]
  unfold methodCall
  rw [hfew]
  refine wpAny_bind (wpAny_holding (wpAny_mono h₁ (fun fx s₂ h₂ => ?_) fun _ _ e => e))
  exact wpAny_bind (wpAny_of_eq hpos h₂)
theorem no_meth {K : PySem.W.Frag} {c m : Str} {fa : Addr} {gs : List (Str × V)} (io : InsOk K c gs) (hm : Meth K (He.ga K c) m fa) : gs.lookup m = none := by
  cases e : gs.lookup m with
  | none => rfl
  | some v =>
    have : ∃ p ∈ gs, p.1 = m := by
      clear io
      induction gs with
      | nil => simp at e
      | cons p gs ih =>
        obtain ⟨g, w⟩ := p
        rw [List.lookup_cons] at e
        by_cases hg : m = g
        · exact ⟨_, List.mem_cons_self .., hg.symm⟩
        · have : (m == g) = false := by simpa using hg
          rw [this] at e
          obtain ⟨p, hp, he⟩ := ih e
          exact ⟨p, List.mem_cons_of_mem _ hp, he⟩
    obtain ⟨p, hp, rfl⟩ := this
    have h1 : PySem.W.findIn K (.ref (He.ga K c)) p.1 = some none := io.noat p hp
    rw [hm.at_] at h1
    cases h1
theorem sim_meth {c m f : Str} {md : Md} {o : Expr} {es : List Expr} {mo : Env → M Val} {ms : Env → M (List Val)} {apos pos : Pos} (D : MethOk X n C (c, m, f)) (hr : Room (2 * n + 1) X.A) (tk : Takes X W) (ho : PE X o (tE X.K W mo)) (hb : plainBase o = true) (ha : PA X es (tA X.K W ms)) (hok : ∀ e ∈ es, okHead e = true) (hline : (apos.endLine == pos.line) = true) (hlen : es.length < 30) (hnil : es = [] → ∀ env, ms env = ret []) :
    PE X (.Call (.Attribute o m apos) es [] pos) (tE X.K W fun env => bnd (mo env) fun v => fun st => if isIns st c v = true then bnd (ms env) (fun vs => inMd md (C f (v :: vs))) st else .stuck) := by
  obtain ⟨fa, fd, ps, hm, F, hbd⟩ := D
  refine ⟨fun pins s σ H Q I h => ?_⟩
  have hfew : methodCallForm (es.length + ([] : List Keyword).length) (backTo pos (starEach es X.env)) (backToKw pos (keywordEach [] X.env)) = true := by
    unfold methodCallForm
    rw [allStar hok]
    show (true && true && decide (es.length < 30)) = true
    rw [decide_eq_true hlen]
    rfl
  have key : tE X.K W mo σ H fun x H1 => ∃ a dx gs, x = .ref a ∧ H1 a = some (.ins (He.ga X.K c) dx gs) ∧ InsOk X.K c gs ∧ ∃ ρ1 env st1 v, RelE X.K ρ1 H1 env σ ∧ RelS X.K ρ1 st1 H1 ∧ Rep X.K ρ1 H1 v x ∧ Post X.K (Rep X.K) W σ ρ1 H1 Q (bnd (ms env) (fun vs => inMd md (C f (v :: vs))) st1) := by
    obtain ⟨ρ, env, st, rE, rS, p⟩ := h
    refine ⟨ρ, env, st, rE, rS, Post.bnd p fun v st1 ρ1 x H1 e1 s1 q1 p1 => ?_⟩
    by_cases hi : isIns st1 c v = true
    · rw [if_pos hi] at p1
      have q0 := q1
      unfold isIns at hi
      split at hi
      · rename_i l
        cases q1 with
        | @loc _ a hl =>
          unfold obIns at hi
          split at hi
          · rename_i c' fs eo
            have := of_decide_eq_true hi
            subst this
            obtain ⟨u, e2, e3⟩ := s1.at_ _ a _ hl eo
            cases e3 with
            | @ins _ dx _ gs io hd hn hk q => exact ⟨a, dx, gs, rfl, e2, io, ρ1, env, st1, _, rE.ext e1, s1, q0, p1⟩
          · cases hi
      · cases hi
    · rw [if_neg hi] at p1
      exact p1.elim
  refine meth_wp (head_base hb m X.env _) hfew hline (thn (ho.run pins s σ H _ I key) fun u s1 ⟨x, H1, I1, rx, a, dx, gs, ex, ea, io, ρ1, env, st1, v, rE, rS, rv, p⟩ => ?_)
  subst ex
  obtain rfl : u = Value.ref a := rx
  refine getmeth_ok I1 ea io.cls hm (no_meth io hm) ?_
  have call : ∀ ρ2 st2 vs xs H2 s2 us, RelS X.K ρ2 st2 H2 → RepL X.K ρ2 H2 vs xs → Rep X.K ρ2 H2 v (.ref a) → Inv X pins σ H2 s2 → Vals xs us → Post X.K (Rep X.K) W σ ρ2 H2 Q ((inMd md (C f (v :: vs))) st2) → wpAny (model X.prog X.w) X.A (call (.ref fa) (Value.ref a :: us)) (EP X pins σ Q) X.xe s2 := by
    intro ρ2 st2 vs xs H2 s2 us s2' q2 rv2 I2 rr p2
    refine run_fnSD (us := .ref a :: us) (vs := .ref a :: xs) (ds := []) (dvs := []) (E := WE W) F (hr.mono (Nat.le_succ _)) hbd .nil (passAt tk σ) I2 (.cons rfl rr) ?_
    refine ⟨ρ2, st2, v :: vs, s2', by rw [List.append_nil]; exact .cons rv2 q2, ?_⟩
    cases md with
    | raw => exact p2
    | cut => exact Post.cut s2' p2
    | keep => exact Post.keep s2' p2
  cases es with
  | nil =>
    rw [hnil rfl env] at p
    exact PySem.W.callWith_K0 (first := [.ref a]) I1.kIn hm.kp (call ρ1 st1 [] [] H1 s1 [] rS .nil rv I1 .nil p)
  | cons e es =>
    have q : tA X.K W ms σ H1 fun xs H2 => ∃ ρ2 st2 vs, RelS X.K ρ2 st2 H2 ∧ RepL X.K ρ2 H2 vs xs ∧ Rep X.K ρ2 H2 v (.ref a) ∧ Post X.K (Rep X.K) W σ ρ2 H2 Q ((inMd md (C f (v :: vs))) st2) := ⟨ρ1, env, st1, rE, rS, Post.bnd p fun vs st2 ρ2 xs H2 e2 s2 q2 p2 => ⟨ρ2, st2, vs, s2, q2, rv.ext e2, p2⟩⟩
    refine PySem.W.callWith_K (first := [.ref a]) (h₀ := X.base) I.ok.mod.kin hm.kp (thn (ha.run pos pins s1 σ H1 _ I1 q) fun us s2 ⟨xs, H2, I2, rr, ρ2, st2, vs, s2', q2, rv2, p2⟩ => ⟨I2.kIn, ?_⟩) (head_star (hok e (by simp)) es X.env) (noStar fun x hx => hok x (by simp [hx]))
    exact call ρ2 st2 vs xs H2 s2 us s2' q2 rv2 I2 rr p2
theorem run_makeS {pins : List (Addr × Obj)} {σ : L2.St} {H : Hp} {s : Shared} {Q : VK} {us : List Value} {vs : List V} {Ca fi : Addr} {fd : FuncData} {ps : List Str} {sp : Sp} {k : Nat} {E : XK} {CX : CXT} (M : Mk X.K Ca fi) (F : FnOk X.prog X.w X.K X.mg X.base CX k fi fd ps sp) (hr : Room (k + 1) X.A) (hb : Binds X.K fd ps [])
    (hx : PassesAt CX X σ E) (I : Inv X pins σ H s) (r : Vals vs us)
    (h : ∀ x dx, H x = none → H dx = none → dx ≠ x → sp (.ref x :: vs) (upd (upd H dx (.own x)) x (.ins Ca dx [])) (fun v H2 => v = .non ∧ Q (.ref x) H2) E) :
    wpAny (model X.prog X.w) X.A (call (.ref Ca) us) (EP X pins σ Q) X.xe s := by
  have hq := h (s.heap.objs.size + 1) s.heap.objs.size (I.hok.fresh (Nat.le_succ _)) (I.hok.fresh (Nat.le_refl _)) (Nat.ne_of_lt (Nat.lt_succ_self _))
  have I2 := Inv.made (C := Ca) I
  have r2 : Vals (V.ref (s.heap.objs.size + 1) :: vs) (Value.ref (s.heap.objs.size + 1) :: us) := .cons rfl r
  have hl : (Value.ref (s.heap.objs.size + 1) :: us ++ []).length = ps.length := by
    have e := r2.length
    rw [F.len _ _ _ _ hq] at e
    rw [List.append_nil]
    exact e.symm
  refine wpAny_call (make_map (f := fi) I.kIn M.makes M.init (beq_iff_eq.mp M.fn) (codeAny_mono (F.run _ X.stack _ _ ⟨Value.ref (s.heap.objs.size + 1) :: us, []⟩ (Value.ref (s.heap.objs.size + 1) :: us) _ _ E (hr.make Ca us [])
    (I2.env0.make Ca us []) (by have := hb _ (Value.ref (s.heap.objs.size + 1) :: us) I2.kIn hl; rw [List.append_nil] at this; exact this) r2 hq) fun r s' hq' => ?_))
  cases r with
  | error e => exact hx pins _ _ e s' I2 hq'
  | ok fl =>
    cases fl with
    | ret u =>
      obtain ⟨v, H', I3, rv, ev, q3⟩ := I2.after hq'
      subst ev
      exact ⟨rv, ⟨V.ref (s.heap.objs.size + 1), H', I3, rfl, q3⟩⟩
    | next => exact False.elim hq'
    | brk => exact False.elim hq'
    | cont => exact False.elim hq'
theorem sim_new {f : Str} {m : Md} {es : List Expr} {ms : Env → M (List Val)} {p pos : Pos} (D : ClsOk X n C f) (hr : Room (2 * n + 1) X.A) (hg : Gl X f) (hd : noDbg f = true) (tk : Takes X W) (ha : PA X es (tA X.K W ms)) (hok : ∀ e ∈ es, okHead e = true) (hne : es ≠ []) :
    PE X (.Call (.Name f p) es [] pos) (tE X.K W fun env => bnd (ms env) fun vs => inMd m (C f vs)) := by
  obtain ⟨fi, fd, ps, F, hcl, M, G, hm, hb, eC⟩ := D
  cases es with
  | nil => exact absurd rfl hne
  | cons e es =>
    refine ⟨fun pins s σ H Q I h => ?_⟩
    have q : tA X.K W ms σ H fun xs H2 => ∃ ρ2 st2 vs, RelS X.K ρ2 st2 H2 ∧ RepL X.K ρ2 H2 vs xs ∧ Post X.K (Rep X.K) W σ ρ2 H2 Q (mkNew f F vs st2) := by
      refine tA_bnd h fun ρ st vs xs H1 rS q p => ⟨ρ, st, vs, rS, q, ?_⟩
      rw [← eC]
      cases m with
      | raw => exact p
      | cut => exact Post.cut rS p
      | keep => exact Post.keep rS p
    refine wpAny_Call_Name_kw (ld_glob I hg hm ?_ (dbg1 hd).1)
    refine PySem.W.callWith_K (h₀ := X.base) I.ok.mod.kin M.kp (thn (ha.run pos pins s σ H _ I q) fun us s1 ⟨xs, H1, I1, rr, ρ2, st2, vs, rS, q2, p2⟩ => ⟨I1.kIn, ?_⟩) (head_star (hok e (by simp)) es X.env) (noStar fun x hx => hok x (by simp [hx]))
    refine run_makeS (E := WE W σ) M G hr hb (passAt tk σ) I1 rr fun x dx hx hdx hne => ?_
    have z1 := rS.laid (o := .own x) hdx
    have hx' : upd H1 dx (.own x) x = none := by rw [upd_ne (Ne.symm hne)]; exact hx
    have nx : dx ≠ x := hne
    have edx : upd (upd H1 dx (.own x)) x (.ins (He.ga X.K f) dx []) dx = some (.own x) := by rw [upd_ne nx, upd_same]
    have ndx : dx ∉ ρ2.push x := fun mm => by
      rcases Pl.mem_push.mp mm with mm | mm
      · exact rS.fresh hdx mm
      · exact nx mm
    have z2 := z1.1.newLoc (o := .ins f []) (u := .ins (He.ga X.K f) dx []) hx' (.ins ⟨hcl, List.nodup_nil, fun p hp => by simp at hp⟩ edx ndx rfl .nil)
    have hat : (ρ2.push x).ps[st2.length]? = some x := by
      show (ρ2.ps ++ [x])[st2.length]? = some x
      rw [← rS.len]; simp
    refine ⟨ρ2.push x, st2 ++ [.ins f []], .loc st2.length :: vs, z2.1, .cons (.loc hat) (q2.ext (z1.2.trans z2.2)), ?_⟩
    unfold mkNew at p2
    cases eF : F (.loc st2.length :: vs) (st2 ++ [.ins f []]) with
    | ok v st' =>
      rw [eF] at p2
      dsimp only at p2
      split at p2
      · rename_i hn
        intro ρ' w H' e' s' r'
        have hv : v = .non := by cases v <;> first | rfl | cases hn
        subst hv
        cases r'
        refine ⟨rfl, p2 ρ' (.ref x) H' ((z1.2.trans z2.2).trans e') s' (.loc (e'.toExt0.at_ hat))⟩
      · exact p2.elim
    | exc c r st' =>
      rw [eF] at p2
      exact fun ρ' d H' e' s' hd => p2 ρ' d H' ((z1.2.trans z2.2).trans e') s' hd
    | stuck => rw [eF] at p2; exact p2.elim
/-! ### displayed dicts -/
theorem merge_fresh : ∀ (more acc : List (Key × V)), ((acc ++ more).map (·.1)).Nodup → mergeK acc more = acc ++ more
  | [], acc, _ => by simp [mergeK]
  | p :: more, acc, h => by
    have hn : (acc.any fun kv => decide (kv.1 = p.1)) = false := by
      rw [List.any_eq_false]
      intro kv hkv
      simp only [decide_eq_true_eq]
      intro e
      rw [List.map_append, List.nodup_append] at h
      exact h.2.2 kv.1 (List.mem_map.mpr ⟨kv, hkv, rfl⟩) p.1 (by simp) e
    have e1 : putK acc p.1 p.2 = acc ++ [p] := by
      unfold putK
      rw [hn]
      rfl
    show mergeK (putK acc p.1 p.2) more = _
    rw [e1, merge_fresh more (acc ++ [p]) (by simpa using h)]
    simp
def iniT : Ini → TE
  | .var i => tVar i
  | .int j => tC (.int j)
  | .lst => tLst tNil
  | .dk => tDNewK
def iniTs : List Key → List Ini → List (TE × TE)
  | k :: ks, i :: is => (tC (kV k), iniT i) :: iniTs ks is
  | _, _ => []
theorem inis_pps {ct : Ct} (hN : X.N = ct.N) (hs : X.env.scope = ct.sc) (hv : ∀ x, isVis ct.sc x = true → Vis X.env.scope x) {pos : Pos} : ∀ {ks : List Key} {is : List Ini} {keys : List (Option Expr)} {vals : List Expr}, ckKeys ks keys = true → ckInis ct is vals = true → keys.length = vals.length → PPs X pos keys vals (iniTs ks is)
  | [], _, [], [], _, _, _ => pps_nil
  | k :: ks, i :: is, e :: keys, v :: vals, h1, h2, h3 => by
    have a := Bool.and_eq_true_iff.mp (show (ckKey k e && ckKeys ks keys) = true from h1)
    have b := Bool.and_eq_true_iff.mp (show (ckIni ct i v && ckInis ct is vals) = true from h2)
    have ih := inis_pps hN hs hv (pos := pos) a.2 b.2 (by simpa using h3)
    have hk : ∃ e', e = some e' ∧ PE X e' (tC (kV k)) := by
      have ak := a.1
      unfold ckKey at ak
      split at ak
      · have := of_decide_eq_true ak
        subst this
        exact ⟨_, rfl, pe_int⟩
      · have := of_decide_eq_true ak
        subst this
        exact ⟨_, rfl, pe_str⟩
      · cases ak
    have hi : PE X v (iniT i) := by
      have bk := b.1
      unfold ckIni at bk
      split at bk
      · simp only [Bool.and_eq_true] at bk
        exact pe_var (by rw [hN]; exact of_decide_eq_true bk.1.1) (hv _ bk.1.2) (dbg1 bk.2).1 (dbg1 bk.2).2.1
      · have := of_decide_eq_true bk
        subst this
        exact pe_int
      · exact pe_lst pa_nil
      · exact pe_dnewK
      · cases bk
    obtain ⟨e', rfl, hk⟩ := hk
    exact pps_cons hk hi ih
  | [], _, _ :: _, _, h1, _, _ => by simp [ckKeys] at h1
  | _ :: _, _, [], _, h1, _, _ => by simp [ckKeys] at h1
  | _ :: _, [], _ :: _, _ :: _, _, h2, _ => by simp [ckInis] at h2
  | _ :: _, _, _ :: _, [], _, _, h3 => by simp at h3
  | [], _, [], _ :: _, _, _, h3 => by simp at h3
theorem ini_ok {K : PySem.W.Frag} {σ : L2.St} {env : Env} {i : Ini} {ρ : Pl} {st st1 : Store} {H : Hp} {v : Val} {Q : VK} (rE : RelE K ρ H env σ) (rS : RelS K ρ st H) (e : ini1 env st i = some (v, st1)) (hq : ∀ ρ1 H1 x, Ext ρ H ρ1 H1 → RelS K ρ1 st1 H1 → Rep K ρ1 H1 v x → Q x H1) : iniT i σ H Q := by
  cases i with
  | var j =>
    unfold ini1 at e
    dsimp only at e
    split at e
    · rename_i v' ej
      cases e
      obtain ⟨w, h1, h2⟩ := rE j v ej
      exact ⟨w, h1, hq ρ H w (.refl _ _) rS h2⟩
    · cases e
  | int j => cases e; exact hq ρ H _ (.refl _ _) rS (.int j)
  | lst =>
    cases e
    exact ⟨Nat.zero_le _, fun p hp => post_l (W := fun _ _ _ _ => False) (σ := σ) (new := true) (vs := []) (st := st) (fun ρ' w H' x s r => hq ρ' H' w x s r) rS .nil p hp⟩
  | dk =>
    cases e
    exact fun p hp => post_dK (W := fun _ _ _ _ => False) (σ := σ) (new := true) (kvs := []) (kws := []) (st := st) (fun ρ' w H' x s r => hq ρ' H' w x s r) rS rfl .nil p hp
theorem inis_ok {K : PySem.W.Frag} {σ : L2.St} {env : Env} : ∀ {ks : List Key} {is : List Ini} {ρ : Pl} {st st2 : Store} {H : Hp} {vs : List Val} {R : List (V × V) → Hp → Prop}, ks.length = is.length → RelE K ρ H env σ → RelS K ρ st H → iniS env is st = some (vs, st2) →
    (∀ ρ2 H2 xs, Ext ρ H ρ2 H2 → RelS K ρ2 st2 H2 → RepL K ρ2 H2 vs xs → R (List.zip (ks.map kV) xs) H2) → tPairs (iniTs ks is) σ H R
  | [], [], ρ, st, st2, H, vs, R, _, rE, rS, e, h => by
    cases e
    exact h ρ H [] (.refl _ _) rS .nil
  | k :: ks, i :: is, ρ, st, st2, H, vs, R, hl, rE, rS, e, h => by
    unfold iniS at e
    obtain ⟨⟨v, st1⟩, e1, e2⟩ := Option.bind_eq_some_iff.mp e
    obtain ⟨⟨vs', st'⟩, e3, e4⟩ := Option.map_eq_some_iff.mp e2
    cases e4
    refine ini_ok rE rS e1 fun ρ1 H1 x e1 s1 r1 => ?_
    refine inis_ok (by simpa using hl) (rE.ext e1) s1 e3 fun ρ2 H2 xs e2 s2 r2 => ?_
    exact h ρ2 H2 (x :: xs) (e1.trans e2) s2 (.cons (r1.ext e2) r2)
  | [], _ :: _, _, _, _, _, _, _, hl, _, _, _, _ => by simp at hl
  | _ :: _, [], _, _, _, _, _, _, hl, _, _, _, _ => by simp at hl
theorem zip_keys : ∀ {ks : List Key} {xs : List V}, List.zip (ks.map kV) xs = (ks.zip xs).map fun kv => (kV kv.1, kv.2)
  | [], _ => by simp
  | _ :: _, [] => by simp
  | k :: ks, x :: xs => by
    rw [List.map_cons, List.zip_cons_cons, List.zip_cons_cons, List.map_cons, zip_keys]
theorem ckKeys_len : ∀ {ks : List Key} {keys : List (Option Expr)}, ckKeys ks keys = true → ks.length = keys.length ∧ keys.all (·.isSome) = true
  | [], [], _ => ⟨rfl, rfl⟩
  | k :: ks, e :: es, h => by
    have a := Bool.and_eq_true_iff.mp (show (ckKey k e && ckKeys ks es) = true from h)
    obtain ⟨h1, h2⟩ := ckKeys_len a.2
    refine ⟨by simp [h1], ?_⟩
    rw [List.all_cons, h2, Bool.and_true]
    have ak := a.1
    unfold ckKey at ak
    split at ak
    · rfl
    · rfl
    · cases ak
  | [], _ :: _, h => by simp [ckKeys] at h
  | _ :: _, [], h => by simp [ckKeys] at h
theorem ckInis_len {ct : Ct} : ∀ {is : List Ini} {vals : List Expr}, ckInis ct is vals = true → is.length = vals.length
  | [], [], _ => rfl
  | k :: ks, e :: es, h => by
    have a := Bool.and_eq_true_iff.mp (show (ckIni ct k e && ckInis ct ks es) = true from h)
    simp [ckInis_len a.2]
  | [], _ :: _, h => by simp [ckInis] at h
  | _ :: _, [], h => by simp [ckInis] at h
theorem sim_ddisp {ct : Ct} (hN : X.N = ct.N) (hs : X.env.scope = ct.sc) (hv : ∀ x, isVis ct.sc x = true → Vis X.env.scope x) {pos : Pos} {ks : List Key} {is : List Ini} {keys : List (Option Expr)} {vals : List Expr} (h1 : ckKeys ks keys = true) (h2 : ckInis ct is vals = true) (h3 : keys.length = vals.length) (h4 : keys ≠ []) (h5 : keys.length ≤ 15) :
    PE X (.Dict keys vals pos) (tE X.K W fun env => fun st => dispM ks (iniS env is st)) := by
  obtain ⟨kl, ka⟩ := ckKeys_len h1
  have il := ckInis_len h2
  refine PE.imp (pe_disp (inis_pps hN hs hv h1 h2 h3) ka h3 h4 h5) fun σ H Q h => ?_
  obtain ⟨ρ, env, st, rE, rS, p⟩ := h
  intro D nD
  dsimp only at p
  cases ei : iniS env is st with
  | none => rw [ei] at p; exact p.elim
  | some q =>
    obtain ⟨vs, st2⟩ := q
    rw [ei] at p
    unfold dispM dispV at p
    dsimp only at p
    split at p
    · rename_i hc
      simp only [Bool.and_eq_true, decide_eq_true_eq] at hc
      obtain ⟨⟨nd, hlen⟩, h15⟩ := hc
      have nD1 : D ∉ ρ := rS.fresh nD
      have e0 : Ext0 ρ H ⟨ρ.ps, D :: ρ.rs⟩ (upd H D (.dK [])) := ⟨fun a o h n => ⟨by rw [upd_ne (ne_of_none h nD)]; exact h, fun m => by
        rcases m with m | m
        · exact n (.inl m)
        · rcases List.mem_cons.mp m with m | m
          · exact ne_of_none h nD m
          · exact n (.inr m)⟩, List.prefix_refl _⟩
      have rS1 : RelS X.K ⟨ρ.ps, D :: ρ.rs⟩ st (upd H D (.dK [])) := by
        refine ⟨rS.len, rS.nd, fun l a o h1 h2 => ?_, fun a ha => ?_⟩
        · obtain ⟨u, h3, h4⟩ := rS.at_ l a o h1 h2
          exact ⟨u, by rw [upd_ne (ne_of_none h3 nD)]; exact h3, h4.ext0 e0⟩
        · rcases List.mem_cons.mp ha with ha | ha
          · subst ha
            exact ⟨fun m => nD1 (.inl m), _, upd_same⟩
          · exact ⟨(rS.rs a ha).1, by rw [upd_ne (rS.ne nD (.inr ha))]; exact (rS.rs a ha).2⟩
      refine inis_ok (by omega) (rE.ext' e0) rS1 ei fun ρ2 H2 xs e2 s2 r2 => ?_
      have hDr : D ∈ ρ2.rs := by rw [e2.rs]; simp
      have hD2 : H2 D = some (.dK []) := by rw [e2.rk D (by simp)]; exact upd_same
      have nDp : D ∉ ρ2.ps := (s2.rs D hDr).1
      have nDo : D ∉ ρ.rs := fun m => nD1 (.inr m)
      have hxl := r2.length
      have ekx : ((ks.zip xs).map (·.1)) = ks := List.map_fst_zip (by omega)
      have exx : ((ks.zip xs).map (·.2)) = xs := List.map_snd_zip (by omega)
      have ekv : ((ks.zip vs).map (·.1)) = ks := List.map_fst_zip (by omega)
      have exv : ((ks.zip vs).map (·.2)) = vs := List.map_snd_zip (by omega)
      refine ⟨hD2, ks.zip xs, zip_keys, by rw [List.length_zip]; omega, ?_⟩
      rw [merge_fresh (ks.zip xs) [] (by rw [List.nil_append, ekx]; exact nd), List.nil_append]
      generalize hH3 : upd H2 D (.dK (ks.zip xs)) = H3
      have hD3 : H3 D = some (.dK (ks.zip xs)) := by rw [← hH3]; exact upd_same
      have ne3 : ∀ a, a ≠ D → H3 a = H2 a := fun a ha => by rw [← hH3]; exact upd_ne ha
      have e3 : Ext0 ρ2 H2 ⟨ρ2.ps ++ [D], ρ.rs⟩ H3 := ⟨fun a o h n => ⟨by rw [ne3 a fun z => n (.inr (z ▸ hDr))]; exact h, fun m => n (by
        rcases m with m | m
        · rcases List.mem_append.mp m with m | m
          · exact .inl m
          · exact .inr (by rw [List.mem_singleton.mp m]; exact hDr)
        · exact .inr (by rw [e2.rs]; simp [m]))⟩, List.prefix_append _ _⟩
      have p' : Post X.K (Rep X.K) W σ ρ H Q (.ok (.loc st2.length) (st2 ++ [.dK (ks.zip vs)])) := p
      have e03 : Ext0 ρ H ⟨ρ2.ps ++ [D], ρ.rs⟩ H3 := e0.trans (e2.toExt0.trans e3)
      refine p' ⟨ρ2.ps ++ [D], ρ.rs⟩ (.ref D) H3 ⟨e03, rfl, fun a ha => ?_⟩ ⟨by simp [s2.len], ?_, fun l a o h1 h2 => ?_, fun a ha => ⟨fun m => ?_, ?_⟩⟩ (.loc ?_)
      · rw [ne3 a fun z => nDo (z ▸ ha), e2.rk a (by simp [ha]), upd_ne (show a ≠ D from fun z => nDo (z ▸ ha))]
      · show (ρ2.ps ++ [D]).Nodup
        rw [List.nodup_append]
        exact ⟨s2.nd, by simp, fun a ha b hb => by rw [List.mem_singleton.mp hb]; exact fun z => nDp (z ▸ ha)⟩
      · have h1 : (ρ2.ps ++ [D])[l]? = some a := h1
        by_cases hl : l < ρ2.ps.length
        · rw [List.getElem?_append_left hl] at h1
          rw [List.getElem?_append_left (s2.len ▸ hl)] at h2
          obtain ⟨u, h3, h4⟩ := s2.at_ l a o h1 h2
          exact ⟨u, by rw [ne3 a fun z => nDp (z ▸ List.mem_of_getElem? h1)]; exact h3, h4.ext0 e3⟩
        · rw [List.getElem?_append_right (Nat.le_of_not_lt hl)] at h1
          rw [List.getElem?_append_right (Nat.le_of_not_lt (s2.len ▸ hl))] at h2
          have z : l - ρ2.ps.length = 0 := by
            have := (List.getElem?_eq_some_iff.mp h1).1
            simp at this; omega
          rw [z] at h1
          rw [← s2.len, z] at h2
          simp at h1 h2
          subst h1; subst h2
          refine ⟨_, hD3, .dK (by rw [ekx, ekv]) ?_⟩
          rw [exx, exv]
          exact r2.ext0 e3
      · rcases List.mem_append.mp m with m | m
        · exact (s2.rs a (by rw [e2.rs]; simp [ha])).1 m
        · exact nDo (List.mem_singleton.mp m ▸ ha)
      · rw [ne3 a fun z => nDo (z ▸ ha)]
        exact (s2.rs a (by rw [e2.rs]; simp [ha])).2
      · show (ρ2.ps ++ [D])[st2.length]? = some D
        rw [← s2.len]; simp
    · exact p.elim
/-! ### targets, tests -/
theorem Good.name (G : Good X g ct n C W) {i : Nat} {e : Expr} (h : ckName ct i e = true) : PG X e (gName i) := by
  unfold ckName at h
  split at h
  · rename_i x pos
    rw [Bool.and_eq_true] at h
    have h1 : X.N[i]? = some x := by rw [G.N]; exact of_decide_eq_true h.1
    obtain ⟨h2, h3⟩ := G.stor x (List.contains_iff_mem.mp h.2)
    rw [← G.sc] at h2 h3
    exact pg_name G.nd h1 h2 h3
  · cases h
theorem name_at {i : Nat} {e : Expr} {es : List Expr} (h : ckName ct i e = true) (env : PySem.Env) : assignEach (e :: es) env = (false, assign e env) :: assignEach es env := by
  unfold ckName at h
  split at h
  · rfl
  · cases h
theorem Good.names (G : Good X g ct n C W) : ∀ {is : List Nat} {es : List Expr}, ckNames ct is es = true → PGs X es (gNames is) ∧ (assignEach es X.env).length = is.length ∧ (assignEach es X.env).findIdx? (·.1) = none
  | [], [], _ => ⟨pgs_nil, rfl, rfl⟩
  | i :: is, e :: es, h => by
    have h' := Bool.and_eq_true_iff.mp (show (ckName ct i e && ckNames ct is es) = true from h)
    obtain ⟨h1, h2, h3⟩ := G.names h'.2
    have ha := name_at (es := es) h'.1 X.env
    refine ⟨pgs_cons (G.name h'.1) h1 (by rw [ha]; rfl), by rw [ha, List.length_cons, h2]; rfl, ?_⟩
    rw [ha, List.findIdx?_cons]
    simp [h3]
  | [], _ :: _, h => by cases h
  | _ :: _, [], h => by cases h
theorem Good.tg (G : Good X g ct n C W) {tg : Tg} {e : Expr} (h : ckTg ct tg e = true) : PG X e (gTg X.K tg) := by
  unfold ckTg at h
  split at h
  · exact G.name h
  · rename_i is es k pos
    rw [Bool.and_eq_true] at h
    obtain ⟨h1, h2, h3⟩ := G.names h.2
    exact pg_tup (G.calm h.1) h1 h2 h3
  · cases h
theorem ckName_lt {i : Nat} {e : Expr} (h : ckName ct i e = true) : i < ct.N.length := by
  unfold ckName at h
  split at h
  · rw [Bool.and_eq_true] at h
    exact (List.getElem?_eq_some_iff.mp (of_decide_eq_true h.1)).1
  · cases h
theorem ckNames_lt : ∀ {is : List Nat} {es : List Expr}, ckNames ct is es = true → ∀ i ∈ is, i < ct.N.length
  | [], _, _, i, hi => by simp at hi
  | j :: is, e :: es, h, i, hi => by
    have h' := Bool.and_eq_true_iff.mp (show (ckName ct j e && ckNames ct is es) = true from h)
    rcases List.mem_cons.mp hi with hi | hi
    · subst hi; exact ckName_lt h'.1
    · exact ckNames_lt h'.2 i hi
  | _ :: _, [], h, _, _ => by cases h
theorem ckTg_in {tg : Tg} {e : Expr} (h : ckTg ct tg e = true) : tgIn ct.N.length tg := by
  unfold ckTg at h
  split at h
  · exact ckName_lt h
  · rw [Bool.and_eq_true] at h
    exact ckNames_lt h.2
  · cases h
theorem tgSub_of {own : List Nat} {tg : Tg} (h : tgSubB own tg = true) : tgSub own tg := by
  cases tg with
  | nm i => exact List.contains_iff_mem.mp h
  | tup is => exact fun i hi => List.contains_iff_mem.mp (List.all_eq_true.mp h i hi)
theorem ownP_snd (N : List Str) : ∀ own : List Nat, (ownP N own).map (·.2) = own := fun own => by
  unfold ownP
  rw [List.map_map]
  exact (List.map_congr_left fun _ _ => rfl).trans (List.map_id _)
/-- a comprehension's block -/
theorem Good.blk (G : Good X g ct n C W) {scope : Scope} (uq : ∀ y ∈ scope.names, scope.names.lookup y.1 = some y.2) (s : Shared) (H : Hp) (cl : List (Str × Addr)) (c : Addr) (fp : List Addr) : Good (X.blk s H scope (compEnvC scope cl c X.env) fp) g (ctBlk ct scope) n C F0 where
  sc := by
    show relabel scope X.env = relS scope ct.sc
    rw [← G.sc]; rfl
  N := G.N
  nd := G.nd
  stor := fun x hx => by
    have hx : x ∈ storOf scope := hx
    unfold storOf at hx
    obtain ⟨p, hp, he⟩ := List.mem_filterMap.mp hx
    have hl := uq p hp
    split at he
    · rename_i hk
      cases he
      rw [hk] at hl
      have := lookup_relS_keep (sc := ct.sc) (k := .local) (by decide) hl
      exact ⟨.inl this, .inr this⟩
    · rename_i hk
      cases he
      rw [hk] at hl
      have := lookup_relS_keep (sc := ct.sc) (k := .cell) (by decide) hl
      refine ⟨.inr this, .inl ?_⟩
      show (scope.names.lookup p.1 == some .cell) = true
      rw [hl]; rfl
    · cases he
  calm := G.calm
  room := G.room
  units := G.units
  takes := takes0
  fr := by
    obtain ⟨E₀, out, L, h1, h2, h3, _⟩ := G.fr
    exact ⟨E₀, out, L, h1, h2, h3, takesL0⟩
  frees := G.frees
  globs := G.globs
  defs := G.defs
  clss := G.clss
  meths := G.meths
  flds := G.flds
  tups := G.tups
  dics := G.dics
  insc := G.insc
/-- .. its exceptions taken -/
theorem Good.blkX (G : Good X g ct n C W) {scope : Scope} (uq : ∀ y ∈ scope.names, scope.names.lookup y.1 = some y.2) (s : Shared) (H : Hp) (cl : List (Str × Addr)) (c : Addr) (fp : List Addr) (W' : WX) : Good (X.blkX s H scope (compEnvC scope cl c X.env) fp W') g (ctBlk ct scope) n C W' where
  sc := by
    show relabel scope X.env = relS scope ct.sc
    rw [← G.sc]; rfl
  N := G.N
  nd := G.nd
  stor := fun x hx => by
    have hx : x ∈ storOf scope := hx
    unfold storOf at hx
    obtain ⟨p, hp, he⟩ := List.mem_filterMap.mp hx
    have hl := uq p hp
    split at he
    · rename_i hk
      cases he
      rw [hk] at hl
      have := lookup_relS_keep (sc := ct.sc) (k := .local) (by decide) hl
      exact ⟨.inl this, .inr this⟩
    · rename_i hk
      cases he
      rw [hk] at hl
      have := lookup_relS_keep (sc := ct.sc) (k := .cell) (by decide) hl
      refine ⟨.inr this, .inl ?_⟩
      show (scope.names.lookup p.1 == some .cell) = true
      rw [hl]; rfl
    · cases he
  calm := G.calm
  room := G.room
  units := G.units
  takes := takes_blk
  fr := by
    obtain ⟨E₀, out, L, h1, h2, h3, _⟩ := G.fr
    exact ⟨E₀, out, L, h1, h2, h3, takesL_blk⟩
  frees := G.frees
  globs := G.globs
  defs := G.defs
  clss := G.clss
  meths := G.meths
  flds := G.flds
  tups := G.tups
  dics := G.dics
  insc := G.insc
end
end Rc
/-! Rc8: expressions, by induction. -/
namespace Rc
open PySem L2
section
variable {g : Sig} {n : Nat} {C : Str → List Val → M Val}
theorem ptOf {X : Cx} {W : WX} {e : Expr} {m : Env → M Val} (h : PE X e (tE X.K W m)) (he : ∀ whole, isTrue e X.env whole = (do let v ← whole; standAt e.pos; holding [v] (truthy v)) := by intro _; rfl) : PT X e (tT X.K W m) :=
  PT.imp (pt_val h he) fun _ _ _ h => tT_of h
theorem both {a b : Bool} (h : (a && b) = true) : a = true ∧ b = true := Bool.and_eq_true_iff.mp h
theorem ckEs_ok {ct : Ct} : ∀ {es : Es} {xs : List Expr}, ckEs g ct es xs = true → ∀ x ∈ xs, okHead x = true
  | .nil, [], _, x, hx => by simp at hx
  | .cons e es, y :: ys, h, x, hx => by
    simp only [ckEs, Bool.and_eq_true] at h
    rcases List.mem_cons.mp hx with hx | hx
    · subst hx; exact h.1.1
    · exact ckEs_ok h.2 x hx
  | .nil, _ :: _, h, _, _ => by simp [ckEs] at h
  | .cons _ _, [], h, _, _ => by simp [ckEs] at h
theorem esNil {ct : Ct} {es : Es} {xs : List Expr} (h : ckEs g ct es xs = true) (hn : xs = []) (env : Env) : evEs C es env = ret [] := by
  cases es with
  | nil => unfold evEs; rfl
  | cons e es =>
    subst hn
    simp [ckEs] at h
theorem nonNil_of {ct : Ct} {es : Es} {xs : List Expr} (h : ckEs g ct es xs = true) (hn : nonNil es = true) : xs ≠ [] := by
  cases es with
  | nil => simp [nonNil] at hn
  | cons e es =>
    cases xs with
    | nil => simp [ckEs] at h
    | cons x xs => exact List.cons_ne_nil _ _
theorem ckFs_of {X : Cx} {ct : Ct} {W : WX} (G : Good X g ct n C W) : ∀ {fs : List Str} {ns : List Expr}, ckFs g ct fs ns = true → Paired (fun f e => DefOk X n C f ∧ Gl X f ∧ noDbg f = true ∧ ∃ p, e = .Name f p) fs ns
  | [], [], _ => .nil
  | f :: fs, e :: ns, h => by
    cases e
    case Name x p =>
      simp only [ckFs, Bool.and_eq_true] at h
      obtain ⟨⟨⟨⟨h1, h2⟩, h3⟩, h4⟩, h5⟩ := h
      have := of_decide_eq_true h1
      subst this
      obtain ⟨q, hq, hq2⟩ := List.any_eq_true.mp h4
      have D := G.defs q hq
      rw [of_decide_eq_true hq2] at D
      exact .cons ⟨D, G.gl h2, h3, p, rfl⟩ (ckFs_of G h5)
    all_goals simp [ckFs] at h
  | [], _ :: _, h => by simp [ckFs] at h
  | _ :: _, [], h => by simp [ckFs] at h
mutual
theorem soundE : ∀ (e : E) (ex : Expr) {X : Cx} {ct : Ct} {W : WX}, Good X g ct n C W → ckE g ct e ex = true → PE X ex (tE X.K W (evE C e)) ∧ (tst e = true → PT X ex (tT X.K W (evE C e)))
  | .var i, ex, X, ct, W, G, h => by
    cases ex
    case Name x pos =>
      simp only [ckE, Bool.and_eq_true] at h
      have p : PE X (.Name x pos) (tE X.K W (evE C (.var i))) := sim_var (by rw [G.N]; exact of_decide_eq_true h.1.1) (G.vis h.1.2) h.2
      exact ⟨p, fun _ => ptOf p⟩
    all_goals simp [ckE] at h
  | .int i, ex, X, ct, W, G, h => by
    cases ex
    case Constant c k pos =>
      cases c
      case int j =>
        simp only [ckE] at h
        have := of_decide_eq_true h
        subst this
        have p : PE X (.Constant (.int i) k pos) (tE X.K W (evE C (.int i))) := sim_c pe_int fun _ _ => .int i
        exact ⟨p, fun _ => ptOf p⟩
      all_goals simp [ckE] at h
    all_goals simp [ckE] at h
  | .str i, ex, X, ct, W, G, h => by
    cases ex
    case Constant c k pos =>
      cases c
      case str j =>
        simp only [ckE] at h
        have := of_decide_eq_true h
        subst this
        have p : PE X (.Constant (.str i) k pos) (tE X.K W (evE C (.str i))) := sim_c pe_str fun _ _ => .str i
        exact ⟨p, fun _ => ptOf p⟩
      all_goals simp [ckE] at h
    all_goals simp [ckE] at h
  | .bl i, ex, X, ct, W, G, h => by
    cases ex
    case Constant c k pos =>
      cases c
      case bool j =>
        simp only [ckE] at h
        have := of_decide_eq_true h
        subst this
        have p : PE X (.Constant (.bool i) k pos) (tE X.K W (evE C (.bl i))) := sim_c pe_bl fun _ _ => .bl i
        exact ⟨p, fun _ => ptOf p⟩
      all_goals simp [ckE] at h
    all_goals simp [ckE] at h
  | .non, ex, X, ct, W, G, h => by
    cases ex
    case Constant c k pos =>
      cases c
      case none =>
        have p : PE X (.Constant .none k pos) (tE X.K W (evE C .non)) := sim_c pe_non fun _ _ => .non
        exact ⟨p, fun _ => ptOf p⟩
      all_goals simp [ckE] at h
    all_goals simp [ckE] at h
  | .glob y v, ex, X, ct, W, G, h => by
    cases ex
    case Name x pos =>
      simp only [ckE, Bool.and_eq_true] at h
      have := of_decide_eq_true h.1.1.1
      subst this
      obtain ⟨q, hq, hq2⟩ := List.any_eq_true.mp h.2
      have h2 := Bool.and_eq_true_iff.mp hq2
      have e1 := of_decide_eq_true h2.1
      have e2 := of_decide_eq_true h2.2
      obtain ⟨u, w, hm, hr, hp⟩ := G.globs q hq
      rw [e1] at hm
      rw [e2] at hp
      have p : PE X (.Name y pos) (tE X.K W (evE C (.glob y v))) := sim_c (pe_glob (G.gl h.1.1.2) hm hr (dbg1 h.1.2).1) hp
      exact ⟨p, fun _ => ptOf p⟩
    all_goals simp [ckE] at h
  | .bin new op a b, ex, X, ct, W, G, h => by
    cases ex
    case BinOp l o r pos =>
      simp only [ckE, Bool.and_eq_true] at h
      obtain ⟨⟨⟨⟨⟨h1, h2⟩, h3⟩, h4⟩, h5⟩, h6⟩ := h
      have := of_decide_eq_true h1
      subst this
      have p : PE X (.BinOp l op r pos) (tE X.K W (evE C (.bin new op a b))) := sim_bin h2 (soundE a l G h4).1 (soundE b r G h6).1
      exact ⟨p, fun _ => ptOf p⟩
    all_goals simp [ckE] at h
  | .neg a, ex, X, ct, W, G, h => by
    cases ex
    case UnaryOp o e pos =>
      cases o
      case USub =>
        simp only [ckE, Bool.and_eq_true] at h
        have p : PE X (.UnaryOp .USub e pos) (tE X.K W (evE C (.neg a))) := sim_neg (soundE a e G h.2).1
        exact ⟨p, fun _ => ptOf p⟩
      all_goals simp [ckE] at h
    all_goals simp [ckE] at h
  | .not a, ex, X, ct, W, G, h => by
    cases ex
    case UnaryOp o e pos =>
      cases o
      case Not =>
        simp only [ckE, Bool.and_eq_true] at h
        exact ⟨sim_not (soundE a e G h.2).1, fun ht => sim_notT ((soundE a e G h.2).2 (by simpa [tst] using ht))⟩
      all_goals simp [ckE] at h
    all_goals simp [ckE] at h
  | .bop op es, ex, X, ct, W, G, h => by
    cases ex
    case BoolOp o xs pos =>
      simp only [ckE, Bool.and_eq_true] at h
      have := of_decide_eq_true h.1
      subst this
      have := soundB op es xs pos G h.2
      exact ⟨this.1, fun ht => (this.2 (by simpa [tst] using ht)).pt⟩
    all_goals simp [ckE] at h
  | .cmp op a b, ex, X, ct, W, G, h => by
    cases ex
    case Compare l os rs pos =>
      match os, rs, h with
      | [o], [r], h =>
        simp only [ckE, Bool.and_eq_true] at h
        obtain ⟨⟨⟨⟨h1, h2⟩, h3⟩, h4⟩, h5⟩ := h
        have := of_decide_eq_true h1
        subst this
        have q := sim_cmp (op := op) (pos := pos) G.units (soundE a l G h3).1 (soundE b r G h5).1 (head_mark h4 op)
        exact ⟨q.1, fun _ => q.2⟩
      | [], _, h => simp [ckE] at h
      | _ :: _ :: _, [], h => simp [ckE] at h
      | _ :: _ :: _, _ :: _, h => simp [ckE] at h
      | [_], [], h => simp [ckE] at h
      | [_], _ :: _ :: _, h => simp [ckE] at h
    all_goals simp [ckE] at h
  | .chain o1 o2 a b c, ex, X, ct, W, G, h => by
    cases ex
    case Compare l os rs pos =>
      match os, rs, h with
      | [p1, p2], [m, r], h =>
        simp only [ckE, Bool.and_eq_true] at h
        obtain ⟨⟨⟨⟨⟨⟨⟨h1, h2⟩, h3⟩, h4⟩, h5⟩, h6⟩, h7⟩, h8⟩ := h
        have := of_decide_eq_true h1
        subst this
        have := of_decide_eq_true h2
        subst this
        have q := sim_chain (o1 := o1) (o2 := o2) (pos := pos) G.units (soundE a l G h4).1 (soundE b m G h6).1 (soundE c r G h8).1 (head_mark h7 o2)
        exact ⟨q.1, fun _ => q.2⟩
      | [], _, h => simp [ckE] at h
      | [_], _, h => simp [ckE] at h
      | _ :: _ :: _ :: _, _, h => simp [ckE] at h
      | [_, _], [], h => simp [ckE] at h
      | [_, _], [_], h => simp [ckE] at h
      | [_, _], _ :: _ :: _ :: _, h => simp [ckE] at h
    all_goals simp [ckE] at h
  | .chain3 o1 o2 o3 a b c d, ex, X, ct, W, G, h => by
    cases ex
    case Compare l os rs pos =>
      match os, rs, h with
      | [p1, p2, p3], [m, r, s], h =>
        simp only [ckE, Bool.and_eq_true] at h
        obtain ⟨⟨⟨⟨⟨⟨⟨⟨⟨⟨h1, h2⟩, h3⟩, h4⟩, h5⟩, h6⟩, h7⟩, h8⟩, h9⟩, h10⟩, h11⟩ := h
        have := of_decide_eq_true h1
        subst this
        have := of_decide_eq_true h2
        subst this
        have := of_decide_eq_true h3
        subst this
        have q := sim_chain3 (o1 := o1) (o2 := o2) (o3 := o3) (pos := pos) G.units (soundE a l G h5).1 (soundE b m G h7).1 (soundE c r G h9).1 (soundE d s G h11).1 (head_mark h10 o3)
        exact ⟨q.1, fun _ => q.2⟩
      | [], _, h => simp [ckE] at h
      | [_], _, h => simp [ckE] at h
      | [_, _], _, h => simp [ckE] at h
      | _ :: _ :: _ :: _ :: _, _, h => simp [ckE] at h
      | [_, _, _], [], h => simp [ckE] at h
      | [_, _, _], [_], h => simp [ckE] at h
      | [_, _, _], [_, _], h => simp [ckE] at h
      | [_, _, _], _ :: _ :: _ :: _ :: _, h => simp [ckE] at h
    all_goals simp [ckE] at h
  | .ife c a b, ex, X, ct, W, G, h => by
    cases ex
    case IfExp t l r pos =>
      simp only [ckE, Bool.and_eq_true] at h
      obtain ⟨⟨⟨⟨⟨⟨h1, h2⟩, h3⟩, h4⟩, h5⟩, h6⟩, h7⟩ := h
      exact ⟨sim_ife ((soundE c t G h2).2 h3) (soundE a l G h5).1 (soundE b r G h7).1, fun ht => by simp [tst] at ht⟩
    all_goals simp [ckE] at h
  | .tup es, ex, X, ct, W, G, h => by
    cases ex
    case Tuple xs k pos =>
      simp only [ckE] at h
      have p : PE X (.Tuple xs k pos) (tE X.K W (evE C (.tup es))) := sim_tup (soundEs es xs G h)
      exact ⟨p, fun _ => ptOf p⟩
    all_goals simp [ckE] at h
  | .lst new es, ex, X, ct, W, G, h => by
    cases ex
    case List xs pos =>
      simp only [ckE] at h
      have p : PE X (.List xs pos) (tE X.K W (evE C (.lst new es))) := sim_lst (soundEs es xs G h)
      exact ⟨p, fun _ => ptOf p⟩
    all_goals simp [ckE] at h
  | .ix a b, ex, X, ct, W, G, h => by
    cases ex
    case Subscript l r pos =>
      simp only [ckE, Bool.and_eq_true] at h
      have p : PE X (.Subscript l r pos) (tE X.K W (evE C (.ix a b))) := sim_ix G.units (soundE a l G h.1.1.2).1 (soundE b r G h.2).1 (head_ix h.1.2)
      exact ⟨p, fun _ => ptOf p⟩
    all_goals simp [ckE] at h
  | .sl new a lo hi, ex, X, ct, W, G, h => by
    cases ex
    case Subscript l r pos =>
      match r, h with
      | .Slice x y none p2, h =>
        simp only [ckE, Bool.and_eq_true] at h
        have p : PE X (.Subscript l (.Slice x y none p2) pos) (tE X.K W (evE C (.sl new a lo hi))) := sim_sl (soundE a l G h.1.1.2).1 (soundO lo x G h.1.2) (soundO hi y G h.2)
        exact ⟨p, fun _ => ptOf p⟩
      | .Slice x y (some _) p2, h => simp [ckE] at h
      | .BoolOp .., h | .NamedExpr .., h | .BinOp .., h | .UnaryOp .., h | .Lambda .., h | .IfExp .., h | .Dict .., h | .Set .., h | .ListComp .., h | .SetComp .., h | .DictComp .., h | .GeneratorExp .., h | .Await .., h | .Yield .., h | .YieldFrom .., h | .Compare .., h | .Call .., h | .FormattedValue .., h | .JoinedStr .., h | .Constant .., h | .Attribute .., h | .Subscript .., h | .Starred .., h | .Name .., h | .List .., h | .Tuple .., h => simp [ckE] at h
    all_goals simp [ckE] at h
  | .rev new a, ex, X, ct, W, G, h => by
    cases ex
    case Subscript l r pos =>
      simp only [ckE, Bool.and_eq_true] at h
      obtain ⟨k, p1, p2, p3, rfl⟩ := revStep_of h.2
      have p : PE X (.Subscript l (.Slice none none (some (.UnaryOp .USub (.Constant (.int 1) k p1) p2)) p3) pos) (tE X.K W (evE C (.rev new a))) := sim_rev (soundE a l G h.1.2).1
      exact ⟨p, fun _ => ptOf p⟩
    all_goals simp [ckE] at h
  | .mth new m o es, ex, X, ct, W, G, h => by
    cases ex
    case Call fn xs kws pos =>
      cases fn
      case Attribute ob x ap =>
        cases kws with
        | nil =>
          simp only [ckE, Bool.and_eq_true] at h
          obtain ⟨⟨⟨⟨⟨⟨⟨h1, h2⟩, h3⟩, h4⟩, h5⟩, h6⟩, h7⟩, h8⟩ := h
          have := of_decide_eq_true h2
          subst this
          have p : PE X (.Call (.Attribute ob (mtName m : Str) ap) xs [] pos) (tE X.K W (evE C (.mth new m o es))) := sim_mth G.units (soundE o ob G h5).1 h3 (soundEs es xs G h8) (ckEs_ok h8) h6 (of_decide_eq_true h7) (esNil h8)
          exact ⟨p, fun _ => ptOf p⟩
        | cons _ _ => simp [ckE] at h
      all_goals simp [ckE] at h
    all_goals simp [ckE] at h
  | .call f m es, ex, X, ct, W, G, h => by
    cases ex
    case Call fn xs kws pos =>
      cases fn
      case Name x p0 =>
        cases kws with
        | nil =>
          simp only [ckE, Bool.and_eq_true] at h
          obtain ⟨⟨⟨⟨⟨⟨h1, h2⟩, h3⟩, h4⟩, h5⟩, h6⟩, h7⟩ := h
          have := of_decide_eq_true h2
          subst this
          have p : PE X (.Call (.Name f p0) xs [] pos) (tE X.K W (evE C (.call f m es))) := by
            rcases Bool.or_eq_true_iff.mp h5 with h5 | h5
            · obtain ⟨q, hq, hq2⟩ := List.any_eq_true.mp h5
              have e1 := of_decide_eq_true hq2
              have D := G.defs q hq
              rw [e1] at D
              exact sim_call D (G.room h1) (G.gl h3) h4 G.takes (soundEs es xs G h7) (ckEs_ok h7) (nonNil_of h7 h6)
            · obtain ⟨q, hq, hq2⟩ := List.any_eq_true.mp h5
              have e1 := of_decide_eq_true hq2
              have D := G.clss q hq
              rw [e1] at D
              exact sim_new D (G.room h1) (G.gl h3) h4 G.takes (soundEs es xs G h7) (ckEs_ok h7) (nonNil_of h7 h6)
          exact ⟨p, fun _ => ptOf p⟩
        | cons _ _ => simp [ckE] at h
      all_goals simp [ckE] at h
    all_goals simp [ckE] at h
  | .bi new b es, ex, X, ct, W, G, h => by
    cases ex
    case Call fn xs kws pos =>
      cases fn
      case Name x p0 =>
        cases kws with
        | nil =>
          simp only [ckE, Bool.and_eq_true] at h
          obtain ⟨⟨⟨⟨⟨⟨h1, h2⟩, h3⟩, h4⟩, h5⟩, h6⟩, h7⟩ := h
          have := of_decide_eq_true h2
          subst this
          have p : PE X (.Call (.Name (biName b) p0) xs [] pos) (tE X.K W (evE C (.bi new b es))) := sim_bi G.units (G.calm h1) (G.gl h3) (G.free h5) (soundEs es xs G h7) (ckEs_ok h7) (nonNil_of h7 h6)
          exact ⟨p, fun _ => ptOf p⟩
        | cons _ _ => simp [ckE] at h
      all_goals simp [ckE] at h
    all_goals simp [ckE] at h
  | .isinC a c, ex, X, ct, W, G, h => by
    cases ex
    case Call fn xs kws pos =>
      cases fn
      case Name x p0 =>
        cases kws with
        | nil =>
          match xs, h with
          | [e, y], h =>
            cases y
            case Name y q0 =>
              simp only [ckE, Bool.and_eq_true] at h
              obtain ⟨⟨⟨⟨⟨⟨⟨⟨h1, h2⟩, h3⟩, h4⟩, h5⟩, h6⟩, h7⟩, h8⟩, h9⟩ := h
              have := of_decide_eq_true h1
              subst this
              have := of_decide_eq_true h4
              subst this
              have hc := G.insc _ (List.contains_iff_mem.mp h7)
              have p : PE X (.Call (.Name "isinstance" p0) [e, .Name y q0] [] pos) (tE X.K W (evE C (.isinC a y))) := sim_isinC (G.gl h2) (G.free h3) (G.gl h5) hc.1 hc.2 h6 (soundE a e G h9).1 h8
              exact ⟨p, fun _ => ptOf p⟩
            all_goals simp [ckE] at h
          | [], h => simp [ckE] at h
          | [_], h => simp [ckE] at h
          | _ :: _ :: _ :: _, h => simp [ckE] at h
        | cons _ _ => simp [ckE] at h
      all_goals simp [ckE] at h
    all_goals simp [ckE] at h
  | .isin a k, ex, X, ct, W, G, h => by
    cases ex
    case Call fn xs kws pos =>
      cases fn
      case Name x p0 =>
        cases kws with
        | nil =>
          match xs, h with
          | [e, y], h =>
            cases y
            case Name y q0 =>
              simp only [ckE, Bool.and_eq_true] at h
              obtain ⟨⟨⟨⟨⟨⟨⟨⟨h1, h2⟩, h3⟩, h4⟩, h5⟩, h6⟩, h7⟩, h8⟩, h9⟩ := h
              have := of_decide_eq_true h1
              subst this
              have := of_decide_eq_true h4
              subst this
              have p : PE X (.Call (.Name "isinstance" p0) [e, .Name (kdName k : Str) q0] [] pos) (tE X.K W (evE C (.isin a k))) := sim_isin (G.gl h2) (G.free h3) (G.gl h5) (G.free h7) h6 (soundE a e G h9).1 h8
              exact ⟨p, fun _ => ptOf p⟩
            all_goals simp [ckE] at h
          | [], h => simp [ckE] at h
          | [_], h => simp [ckE] at h
          | _ :: _ :: _ :: _, h => simp [ckE] at h
        | cons _ _ => simp [ckE] at h
      all_goals simp [ckE] at h
    all_goals simp [ckE] at h
  | .lrange new a b, ex, X, ct, W, G, h => by
    cases ex
    case Call fn xs kws pos =>
      cases fn
      case Name x p0 =>
        cases kws with
        | nil =>
          match xs, h with
          | [r], h =>
            cases r
            case Call fn2 ys kws2 pos2 =>
              cases fn2
              case Name y q0 =>
                cases kws2 with
                | nil =>
                  match ys, h with
                  | [e1, e2], h =>
                    simp only [ckE, Bool.and_eq_true] at h
                    obtain ⟨⟨⟨⟨⟨⟨⟨⟨⟨⟨h1, h2⟩, h3⟩, h4⟩, h5⟩, h6⟩, h7⟩, h8⟩, h9⟩, h10⟩, h11⟩ := h
                    have := of_decide_eq_true h2
                    subst this
                    have := of_decide_eq_true h5
                    subst this
                    have p : PE X (.Call (.Name "list" p0) [.Call (.Name "range" q0) [e1, e2] [] pos2] [] pos) (tE X.K W (evE C (.lrange new a b))) := sim_lrange (G.calm h1) (G.gl h3) (G.free h4) (G.gl h6) (G.free h7) (soundE a e1 G h9).1 (soundE b e2 G h11).1 h8 h10
                    exact ⟨p, fun _ => ptOf p⟩
                  | [], h => simp [ckE] at h
                  | [_], h => simp [ckE] at h
                  | _ :: _ :: _ :: _, h => simp [ckE] at h
                | cons _ _ => simp [ckE] at h
              all_goals simp [ckE] at h
            all_goals simp [ckE] at h
          | [], h => simp [ckE] at h
          | _ :: _ :: _, h => simp [ckE] at h
        | cons _ _ => simp [ckE] at h
      all_goals simp [ckE] at h
    all_goals simp [ckE] at h
  | .lrange1 new a, ex, X, ct, W, G, h => by
    cases ex
    case Call fn xs kws pos =>
      cases fn
      case Name x p0 =>
        cases kws with
        | nil =>
          match xs, h with
          | [r], h =>
            cases r
            case Call fn2 ys kws2 pos2 =>
              cases fn2
              case Name y q0 =>
                cases kws2 with
                | nil =>
                  match ys, h with
                  | [e1], h =>
                    simp only [ckE, Bool.and_eq_true] at h
                    obtain ⟨⟨⟨⟨⟨⟨⟨⟨h1, h2⟩, h3⟩, h4⟩, h5⟩, h6⟩, h7⟩, h8⟩, h9⟩ := h
                    have := of_decide_eq_true h2
                    subst this
                    have := of_decide_eq_true h5
                    subst this
                    have p : PE X (.Call (.Name "list" p0) [.Call (.Name "range" q0) [e1] [] pos2] [] pos) (tE X.K W (evE C (.lrange1 new a))) := sim_lrange1 (G.calm h1) (G.gl h3) (G.free h4) (G.gl h6) (G.free h7) (soundE a e1 G h9).1 h8
                    exact ⟨p, fun _ => ptOf p⟩
                  | [], h => simp [ckE] at h
                  | _ :: _ :: _, h => simp [ckE] at h
                | cons _ _ => simp [ckE] at h
              all_goals simp [ckE] at h
            all_goals simp [ckE] at h
          | [], h => simp [ckE] at h
          | _ :: _ :: _, h => simp [ckE] at h
        | cons _ _ => simp [ckE] at h
      all_goals simp [ckE] at h
    all_goals simp [ckE] at h
  | .lenset a, ex, X, ct, W, G, h => by
    cases ex
    case Call fn xs kws pos =>
      cases fn
      case Name x p0 =>
        cases kws with
        | nil =>
          match xs, h with
          | [r], h =>
            cases r
            case Call fn2 ys kws2 pos2 =>
              cases fn2
              case Name y q0 =>
                cases kws2 with
                | nil =>
                  match ys, h with
                  | [e1], h =>
                    simp only [ckE, Bool.and_eq_true] at h
                    obtain ⟨⟨⟨⟨⟨⟨⟨⟨h1, h2⟩, h3⟩, h4⟩, h5⟩, h6⟩, h7⟩, h8⟩, h9⟩ := h
                    have := of_decide_eq_true h2
                    subst this
                    have := of_decide_eq_true h5
                    subst this
                    have p : PE X (.Call (.Name "len" p0) [.Call (.Name "set" q0) [e1] [] pos2] [] pos) (tE X.K W (evE C (.lenset a))) := sim_lenset (G.calm h1) (G.gl h3) (G.free h4) (G.gl h6) (G.free h7) (soundE a e1 G h9).1 h8
                    exact ⟨p, fun _ => ptOf p⟩
                  | [], h => simp [ckE] at h
                  | _ :: _ :: _, h => simp [ckE] at h
                | cons _ _ => simp [ckE] at h
              all_goals simp [ckE] at h
            all_goals simp [ckE] at h
          | [], h => simp [ckE] at h
          | _ :: _ :: _, h => simp [ckE] at h
        | cons _ _ => simp [ckE] at h
      all_goals simp [ckE] at h
    all_goals simp [ckE] at h
  | .srtset new a, ex, X, ct, W, G, h => by
    cases ex
    case Call fn xs kws pos =>
      cases fn
      case Name x p0 =>
        cases kws with
        | nil =>
          match xs, h with
          | [r], h =>
            cases r
            case Call fn2 ys kws2 pos2 =>
              cases fn2
              case Name y q0 =>
                cases kws2 with
                | nil =>
                  match ys, h with
                  | [e1], h =>
                    simp only [ckE, Bool.and_eq_true] at h
                    obtain ⟨⟨⟨⟨⟨⟨⟨⟨h1, h2⟩, h3⟩, h4⟩, h5⟩, h6⟩, h7⟩, h8⟩, h9⟩ := h
                    have := of_decide_eq_true h2
                    subst this
                    have := of_decide_eq_true h5
                    subst this
                    have p : PE X (.Call (.Name "sorted" p0) [.Call (.Name "set" q0) [e1] [] pos2] [] pos) (tE X.K W (evE C (.srtset new a))) := sim_srtset (G.calm h1) (G.gl h3) (G.free h4) (G.gl h6) (G.free h7) (soundE a e1 G h9).1 h8
                    exact ⟨p, fun _ => ptOf p⟩
                  | [], h => simp [ckE] at h
                  | _ :: _ :: _, h => simp [ckE] at h
                | cons _ _ => simp [ckE] at h
              all_goals simp [ckE] at h
            all_goals simp [ckE] at h
          | [], h => simp [ckE] at h
          | _ :: _ :: _, h => simp [ckE] at h
        | cons _ _ => simp [ckE] at h
      all_goals simp [ckE] at h
    all_goals simp [ckE] at h
  | .pick fs m ix es, ex, X, ct, W, G, h => by
    cases ex
    case Call fn xs kws pos =>
      cases fn
      case Subscript l ie p0 =>
        cases l
        case List ns p1 =>
          cases kws with
          | nil =>
            simp only [ckE, Bool.and_eq_true] at h
            obtain ⟨⟨⟨⟨⟨⟨h1, h2⟩, h2b⟩, h3⟩, h4⟩, h5⟩, h6⟩ := h
            have p : PE X (.Call (.Subscript (.List ns p1) ie p0) xs [] pos) (tE X.K W (evE C (.pick fs m ix es))) := sim_pick (G.room h1) G.takes (ckFs_of G h2) (by have := of_decide_eq_true h2b; rw [sizeLine_eq]; omega) (soundE ix ie G h4).1 h3 (soundEs es xs G h6) (ckEs_ok h6) (nonNil_of h6 h5)
            exact ⟨p, fun _ => ptOf p⟩
          | cons _ _ => simp [ckE] at h
        all_goals simp [ckE] at h
      all_goals simp [ckE] at h
    all_goals simp [ckE] at h
  | .ndict es, ex, X, ct, W, G, h => by
    cases ex
    case Call fn xs kws pos =>
      cases fn
      case Name x p0 =>
        cases kws with
        | nil =>
          simp only [ckE, Bool.and_eq_true] at h
          obtain ⟨⟨⟨⟨⟨h1, h2⟩, h3⟩, h4⟩, h5⟩, h6⟩ := h
          have := of_decide_eq_true h2
          subst this
          have p : PE X (.Call (.Name "dict" p0) xs [] pos) (tE X.K W (evE C (.ndict es))) := sim_ndict G.units (G.calm h1) (G.gl h3) (G.free h4) (soundEs es xs G h6) (ckEs_ok h6) (nonNil_of h6 h5)
          exact ⟨p, fun _ => ptOf p⟩
        | cons _ _ => simp [ckE] at h
      all_goals simp [ckE] at h
    all_goals simp [ckE] at h
  | .dnew b, ex, X, ct, W, G, h => by
    cases ex
    case Dict ks vs pos =>
      match ks, vs, h with
      | [], [], h =>
        have p : PE X (.Dict [] [] pos) (tE X.K W (evE C (.dnew b))) := by
          have e : evE C (.dnew b) = fun _ => if b = true then mk true (.t []) else mk true (.d []) := by
            funext env
            rw [evE]
          rw [e]
          exact sim_dnew
        exact ⟨p, fun _ => ptOf p⟩
      | _ :: _, _, h => simp [ckE] at h
      | [], _ :: _, h => simp [ckE] at h
    all_goals simp [ckE] at h
  | .ddisp ks is, ex, X, ct, W, G, h => by
    cases ex
    case Dict keys vals pos =>
      simp only [ckE, Bool.and_eq_true] at h
      obtain ⟨⟨⟨⟨h1, h2⟩, h3⟩, h4⟩, h5⟩ := h
      have p : PE X (.Dict keys vals pos) (tE X.K W (evE C (.ddisp ks is))) := by
        have e : evE C (.ddisp ks is) = fun env => fun st => dispM ks (iniS env is st) := by
          funext env
          rw [evE]
        rw [e]
        refine sim_ddisp G.N G.sc (fun x hx => G.vis hx) h1 h2 (of_decide_eq_true h3) (fun z => ?_) (of_decide_eq_true h5)
        subst z
        simp at h4
      exact ⟨p, fun _ => ptOf p⟩
    all_goals simp [ckE] at h
  | .fld o f k, ex, X, ct, W, G, h => by
    cases ex
    case Attribute ob x pos =>
      simp only [ckE, Bool.and_eq_true] at h
      obtain ⟨⟨⟨h1, h2⟩, h3⟩, h4⟩ := h
      have := of_decide_eq_true h1
      subst this
      have p : PE X (.Attribute ob f pos) (tE X.K W (evE C (.fld o f k))) := sim_fld (soundE o ob G h4).1 h2
      exact ⟨p, fun _ => ptOf p⟩
    all_goals simp [ckE] at h
  | .meth c m f md o es, ex, X, ct, W, G, h => by
    cases ex
    case Call fn xs kws pos =>
      cases fn
      case Attribute ob x ap =>
        cases kws with
        | nil =>
          simp only [ckE, Bool.and_eq_true] at h
          obtain ⟨⟨⟨⟨⟨⟨⟨⟨h1, h2⟩, h3⟩, h4⟩, h5⟩, h6⟩, h7⟩, h8⟩, h9⟩ := h
          have := of_decide_eq_true h2
          subst this
          obtain ⟨q, hq, hq2⟩ := List.any_eq_true.mp h3
          have e1 := of_decide_eq_true hq2
          subst e1
          have p : PE X (.Call (.Attribute ob m ap) xs [] pos) (tE X.K W (evE C (.meth c m f md o es))) := sim_meth (G.meths _ hq) (G.room h1) G.takes (soundE o ob G h6).1 h4 (soundEs es xs G h9) (ckEs_ok h9) h7 (of_decide_eq_true h8) (esNil h9)
          exact ⟨p, fun _ => ptOf p⟩
        | cons _ _ => simp [ckE] at h
      all_goals simp [ckE] at h
    all_goals simp [ckE] at h
  | .lc new own tg it ifs e, ex, X, ct, W, G, h => by
    cases ex
    case ListComp elt gens scope pos =>
      match gens, h with
      | [⟨t, iter, fs, k⟩], h =>
        simp only [ckE, Bool.and_eq_true] at h
        obtain ⟨⟨⟨⟨⟨⟨⟨⟨⟨⟨h0, h1⟩, h2⟩, h3⟩, h4⟩, h5⟩, h6⟩, h7⟩, h8⟩, h9⟩, h10⟩ := h
        have := of_decide_eq_true h2
        subst this
        have bk : BlkOk X.N X.env.scope scope (ownP ct.N own) := by
          rw [G.N, G.sc]
          exact blkOk_by h3
        have hi := soundI it iter (tg := t) h0 G h6
        have e1 : ∀ (s : Shared) (H : Hp) (c : Addr) (cl : List (Str × Addr)) (fp : List Addr), PG (X.blk s H scope (compEnvC scope cl c X.env) fp) t (gTg X.K tg) := fun s H c cl fp => (G.blk bk.uniq s H cl c fp).tg h5
        have e2 : ∀ (s : Shared) (H : Hp) (c : Addr) (cl : List (Str × Addr)) (fp : List Addr), PTs (X.blk s H scope (compEnvC scope cl c X.env) fp) fs (tG X.K relB F0 (evT C ifs)) := fun s H c cl fp => soundT ifs fs (G.blk bk.uniq s H cl c fp) h7 h8
        have e3 : ∀ (s : Shared) (H : Hp) (c : Addr) (cl : List (Str × Addr)) (fp : List Addr), PE (X.blk s H scope (compEnvC scope cl c X.env) fp) elt (tE X.K F0 (evE C e)) := fun s H c cl fp => (soundE e elt (G.blk bk.uniq s H cl c fp) h10).1
        have p : PE X (.ListComp elt [⟨t, iter, fs, 0⟩] scope pos) (tE X.K W (evE C (.lc new own tg it ifs e))) := by
          refine ⟨fun pins s σ H Q I q => ?_⟩
          refine (pe_lc (G.calm h1) G.nd hi.1 bk e1 e2 e3 hi.2).run pins s σ H Q I ?_
          rw [ownP_snd]
          refine tLc_of ?_ (tgSub_of h4) q
          rw [I.len, G.N]
          exact (show tgIn (ctBlk ct scope).N.length tg from ckTg_in h5)
        exact ⟨p, fun _ => ptOf p⟩
      | [], h => simp [ckE] at h
      | _ :: _ :: _, h => simp [ckE] at h
    all_goals simp [ckE] at h
  | .lcx own tg it e, ex, X, ct, W, G, h => by
    cases ex
    case ListComp elt gens scope pos =>
      match gens, h with
      | [⟨t, iter, [], k⟩], h =>
        simp only [ckE, Bool.and_eq_true] at h
        obtain ⟨⟨⟨⟨⟨⟨⟨⟨h0, h1⟩, h2⟩, h3⟩, h4⟩, h5⟩, h6⟩, h9⟩, h10⟩ := h
        have := of_decide_eq_true h2
        subst this
        have bk : BlkOk X.N X.env.scope scope (ownP ct.N own) := by
          rw [G.N, G.sc]
          exact blkOk_by h3
        have hi := soundI it iter (tg := t) h0 G h6
        obtain ⟨E₀, out, L, f1, f2, f3, f4⟩ := G.fr
        have p : PE X (.ListComp elt [⟨t, iter, [], 0⟩] scope pos) (tE X.K W (evE C (.lcx own tg it e))) := by
          refine ⟨fun pins s σ H Q I q => ?_⟩
          refine (pe_lcX (W := W) (g := gTg X.K tg) (tt := tYes) (te := fun W' => tE X.K W' (evE C e)) (G.calm h1) G.nd hi.1 bk f1 f2 f3 f4 (fun s H c cl fp W' => (G.blkX bk.uniq s H cl c fp W').tg h5) (fun s H c cl fp W' => pts_nil) (fun s H c cl fp W' => (soundE e elt (G.blkX bk.uniq s H cl c fp W') h10).1) hi.2).run pins s σ H Q I ?_
          rw [ownP_snd]
          refine tLcX_of ?_ (tgSub_of h4) q
          rw [I.len, G.N]
          exact (show tgIn (ctBlk ct scope).N.length tg from ckTg_in h5)
        exact ⟨p, fun _ => ptOf p⟩
      | [], h => simp [ckE] at h
      | [⟨_, _, _ :: _, _⟩], h => simp [ckE] at h
      | _ :: _ :: _, h => simp [ckE] at h
    all_goals simp [ckE] at h
  | .gin neg a x ss, ex, X, ct, W, G, h => by
    cases ex
    case Compare l ops rs pos =>
      match ops, rs, h with
      | [o], [r], h =>
        cases r
        case Name y p0 =>
          simp only [ckE, Bool.and_eq_true] at h
          obtain ⟨⟨⟨⟨⟨⟨h1, h2⟩, h3⟩, h4⟩, h5⟩, h6⟩, h7⟩ := h
          have := of_decide_eq_true h4
          subst this
          obtain ⟨q, hq, hq2⟩ := List.any_eq_true.mp h7
          have h8 := Bool.and_eq_true_iff.mp hq2
          have T := G.tups q hq
          rw [of_decide_eq_true h8.1, of_decide_eq_true h8.2] at T
          have p := sim_gin (p := p0) (pos := pos) h1 T (G.gl h5) h6 (soundE a l G h3).1
          exact ⟨p.1, fun _ => p.2⟩
        all_goals simp [ckE] at h
      | [], _, h => simp [ckE] at h
      | _ :: _ :: _, _, h => simp [ckE] at h
      | [o], [], h => simp [ckE] at h
      | [o], _ :: _ :: _, h => simp [ckE] at h
    all_goals simp [ckE] at h
  | .gdin neg a x ss, ex, X, ct, W, G, h => by
    cases ex
    case Compare l ops rs pos =>
      match ops, rs, h with
      | [o], [r], h =>
        cases r
        case Name y p0 =>
          simp only [ckE, Bool.and_eq_true] at h
          obtain ⟨⟨⟨⟨⟨⟨h1, h2⟩, h3⟩, h4⟩, h5⟩, h6⟩, h7⟩ := h
          have := of_decide_eq_true h4
          subst this
          obtain ⟨q, hq, hq2⟩ := List.any_eq_true.mp h7
          have h8 := Bool.and_eq_true_iff.mp hq2
          have T := G.dics q hq
          rw [of_decide_eq_true h8.1, of_decide_eq_true h8.2] at T
          have p := sim_gdin (p := p0) (pos := pos) h1 T (G.gl h5) h6 (soundE a l G h3).1
          exact ⟨p.1, fun _ => p.2⟩
        all_goals simp [ckE] at h
      | [], _, h => simp [ckE] at h
      | _ :: _ :: _, _, h => simp [ckE] at h
      | [o], [], h => simp [ckE] at h
      | [o], _ :: _ :: _, h => simp [ckE] at h
    all_goals simp [ckE] at h
  | .gdix x ss a, ex, X, ct, W, G, h => by
    cases ex
    case Subscript l r pos =>
      cases l
      case Name y p0 =>
        simp only [ckE, Bool.and_eq_true] at h
        obtain ⟨⟨⟨⟨⟨h2, h3⟩, h4⟩, h5⟩, h6⟩, h7⟩ := h
        have := of_decide_eq_true h4
        subst this
        obtain ⟨q, hq, hq2⟩ := List.any_eq_true.mp h7
        have h8 := Bool.and_eq_true_iff.mp hq2
        have T := G.dics q hq
        rw [of_decide_eq_true h8.1, of_decide_eq_true h8.2] at T
        have p : PE X (.Subscript (.Name x p0) r pos) (tE X.K W (evE C (.gdix x ss a))) := sim_gdix T (G.gl h5) h6 (soundE a r G h3).1 (head_ix h2)
        exact ⟨p, fun _ => ptOf p⟩
      all_goals simp [ckE] at h
    all_goals simp [ckE] at h
theorem soundEs : ∀ (es : Es) (xs : List Expr) {X : Cx} {ct : Ct} {W : WX}, Good X g ct n C W → ckEs g ct es xs = true → PA X xs (tA X.K W (evEs C es))
  | .nil, [], X, ct, W, G, h => sim_nil
  | .cons e es, x :: xs, X, ct, W, G, h => by
    simp only [ckEs, Bool.and_eq_true] at h
    exact sim_cons (soundE e x G h.1.2).1 (soundEs es xs G h.2) (head_star h.1.1 xs X.env)
  | .nil, _ :: _, X, ct, W, G, h => by simp [ckEs] at h
  | .cons _ _, [], X, ct, W, G, h => by simp [ckEs] at h
theorem soundO : ∀ (o : Oe) (x : Option Expr) {X : Cx} {ct : Ct} {W : WX}, Good X g ct n C W → ckO g ct o x = true → PO X x (tG X.K relO W (evO C o))
  | .none, none, X, ct, W, G, h => sim_oNone
  | .some e, some x, X, ct, W, G, h => by
    simp only [ckO, Bool.and_eq_true] at h
    exact sim_oSome (soundE e x G h.2).1
  | .none, some _, X, ct, W, G, h => by simp [ckO] at h
  | .some _, none, X, ct, W, G, h => by simp [ckO] at h
theorem soundB : ∀ (op : BoolOp) (es : Es) (xs : List Expr) (pos : Pos) {X : Cx} {ct : Ct} {W : WX}, Good X g ct n C W → ckEs g ct es xs = true → PE X (.BoolOp op xs pos) (tE X.K W (evB C op es)) ∧ (tstAll es = true → PW X (.BoolOp op xs pos) (tT X.K W (evB C op es)))
  | op, .nil, xs, pos, X, ct, W, G, h => by
    have no : ∀ σ H Q, ¬ tE X.K W (evB C op .nil) σ H Q := fun σ H Q q => by
      obtain ⟨ρ, env, st, rE, rS, p⟩ := q
      exact p.elim
    refine ⟨pe_no no, fun _ => ⟨fun _ _ _ σ H Q _ q => ?_⟩⟩
    obtain ⟨ρ, env, st, rE, rS, p⟩ := q
    exact p.elim
  | op, .cons e .nil, xs, pos, X, ct, W, G, h => by
    match xs, h with
    | [x], h =>
      simp only [ckEs, Bool.and_eq_true] at h
      have s := soundE e x G h.1.2
      refine ⟨pe_one s.1, fun ht => ?_⟩
      have ht' : tst e = true := by simpa [tstAll] using ht
      cases op with
      | And => exact pw_and1 (s.2 ht')
      | Or => exact pw_or1 (s.2 ht')
    | [], h => simp [ckEs] at h
    | _ :: _ :: _, h => simp [ckEs] at h
  | op, .cons e (.cons e2 es), xs, pos, X, ct, W, G, h => by
    match xs, h with
    | [], h => simp [ckEs] at h
    | [_], h => simp [ckEs] at h
    | x :: y :: xs, h =>
      simp only [ckEs, Bool.and_eq_true] at h
      have s := soundE e x G h.1.2
      have r := soundB op (.cons e2 es) (y :: xs) pos G (by simp only [ckEs, Bool.and_eq_true]; exact h.2)
      have eB : evB C op (.cons e (.cons e2 es)) = fun env => bnd (bnd (evE C e env) asBl) fun k => if k = goOn op then evB C op (.cons e2 es) env else ret (.bl k) := by
        funext env
        rw [evB]
      rw [eB]
      refine ⟨?_, fun ht => ?_⟩
      · cases op with
        | And =>
          refine PE.imp (pe_and s.1 r.1) fun σ H Q q => ?_
          refine tT_of (tT_bnd q fun b H1 h1 => ?_)
          cases b with
          | true => exact h1
          | false => exact tE_ret h1 fun _ => .bl _
        | Or =>
          refine PE.imp (pe_or s.1 r.1) fun σ H Q q => ?_
          refine tT_of (tT_bnd q fun b H1 h1 => ?_)
          cases b with
          | false => exact h1
          | true => exact tE_ret h1 fun _ => .bl _
      · have ht' : tst e = true ∧ tstAll (.cons e2 es) = true := by
          simpa [tstAll] using ht
        have q1 : ∀ {σ : L2.St} {H : Hp} {Q : Bool → Hp → Prop}, tT X.K W (fun env => bnd (bnd (evE C e env) asBl) fun k => if k = goOn op then evB C op (.cons e2 es) env else ret (.bl k)) σ H Q → tG X.K relB W (fun env => bnd (bnd (evE C e env) asBl) fun k => bnd (if k = goOn op then evB C op (.cons e2 es) env else ret (.bl k)) asBl) σ H Q := fun q => by
          have e3 : (fun env => bnd (bnd (bnd (evE C e env) asBl) fun k => if k = goOn op then evB C op (.cons e2 es) env else ret (.bl k)) asBl) = fun env => bnd (bnd (evE C e env) asBl) fun k => bnd (if k = goOn op then evB C op (.cons e2 es) env else ret (.bl k)) asBl := by
            funext env
            rw [bnd_assoc]
          rw [← e3]
          exact q
        cases op with
        | And =>
          refine PW.imp (pw_and (s.2 ht'.1) (r.2 ht'.2)) fun σ H Q q => ?_
          refine tT_bnd (q1 q) fun b H1 h1 => ?_
          cases b with
          | true => exact h1
          | false => exact tT_ret h1
        | Or =>
          refine PW.imp (pw_or (s.2 ht'.1) (r.2 ht'.2)) fun σ H Q q => ?_
          refine tT_bnd (q1 q) fun b H1 h1 => ?_
          cases b with
          | false => exact h1
          | true => exact tT_ret h1
theorem soundT : ∀ (es : Es) (xs : List Expr) {X : Cx} {ct : Ct} {W : WX}, Good X g ct n C W → ckEs g ct es xs = true → tst1 es = true → PTs X xs (tG X.K relB W (evT C es))
  | .nil, [], X, ct, W, G, h, ht => by
    refine ⟨fun pins s σ H Q I q => pts_nil.run pins s σ H Q I ?_⟩
    obtain ⟨ρ, env, st, rE, rS, p⟩ := q
    exact p ρ true H (.refl _ _) rS rfl
  | .cons e .nil, [x], X, ct, W, G, h, ht => by
    simp only [ckEs, Bool.and_eq_true] at h
    exact pts_one ((soundE e x G h.1.2).2 ht)
  | .nil, _ :: _, X, ct, W, G, h, ht => by simp [ckEs] at h
  | .cons _ .nil, [], X, ct, W, G, h, ht => by simp [ckEs] at h
  | .cons _ .nil, _ :: _ :: _, X, ct, W, G, h, ht => by simp [ckEs] at h
  | .cons _ (.cons _ _), _, X, ct, W, G, h, ht => by simp [tst1] at ht
theorem soundI : ∀ (it : It) (x : Expr) {tg : Expr} {X : Cx} {ct : Ct} {W : WX}, enumOk it tg = true → Good X g ct n C W → ckI g ct it x = true → PI X tg x (tI X.K W (evI C it)) ∧ ∀ v, foldedSetIterable x X.env v = pure v
  | .seq e, x, tg, X, ct, W, _, G, h => by
    simp only [ckI, Bool.and_eq_true] at h
    exact ⟨sim_seq (soundE e x G h.2).1, head_set h.1 X.env⟩
  | .chars e, x, tg, X, ct, W, _, G, h => by
    simp only [ckI, Bool.and_eq_true] at h
    exact ⟨sim_chars (soundE e x G h.2).1, head_set h.1 X.env⟩
  | .rng1 a, x, tg, X, ct, W, _, G, h => by
    cases x
    case Call fn xs kws pos =>
      cases fn
      case Name y q0 =>
        match xs, kws, h with
        | [e], [], h =>
          simp only [ckI, Bool.and_eq_true] at h
          obtain ⟨⟨⟨⟨h1, h2⟩, h3⟩, h4⟩, h5⟩ := h
          have := of_decide_eq_true h1
          subst this
          exact ⟨sim_rng1 (G.gl h2) (G.free h3) (soundE a e G h5).1 (head_star h4 [] X.env), fun _ => rfl⟩
        | [_], _ :: _, h => simp [ckI] at h
        | [], _, h => simp [ckI] at h
        | _ :: _ :: _, _, h => simp [ckI] at h
      all_goals simp [ckI] at h
    all_goals simp [ckI] at h
  | .rng2 a b, x, tg, X, ct, W, _, G, h => by
    cases x
    case Call fn xs kws pos =>
      cases fn
      case Name y q0 =>
        match xs, kws, h with
        | [e1, e2], [], h =>
          simp only [ckI, Bool.and_eq_true] at h
          obtain ⟨⟨⟨⟨⟨⟨h1, h2⟩, h3⟩, h4⟩, h5⟩, h6⟩, h7⟩ := h
          have := of_decide_eq_true h1
          subst this
          have st2 := head_star h6 [] X.env
          exact ⟨sim_rng2 (G.gl h2) (G.free h3) (soundE a e1 G h5).1 (soundE b e2 G h7).1 (by rw [head_star h4 [e2] X.env, st2]; rfl) st2, fun _ => rfl⟩
        | [_, _], _ :: _, h => simp [ckI] at h
        | [], _, h => simp [ckI] at h
        | [_], _, h => simp [ckI] at h
        | _ :: _ :: _ :: _, _, h => simp [ckI] at h
      all_goals simp [ckI] at h
    all_goals simp [ckI] at h
  | .enum a, x, tg, X, ct, W, ht, G, h => by
    obtain ⟨es, kk, tp, rfl⟩ := isTupX_of ht
    cases x
    case Call fn xs kws pos =>
      cases fn
      case Name y q0 =>
        match xs, kws, h with
        | [e], [], h =>
          simp only [ckI, Bool.and_eq_true] at h
          obtain ⟨⟨⟨⟨h1, h2⟩, h3⟩, h4⟩, h5⟩ := h
          have := of_decide_eq_true h1
          subst this
          exact ⟨sim_enum (G.gl h2) (G.free h3) (soundE a e G h5).1 (head_star h4 [] X.env), fun _ => rfl⟩
        | [_], _ :: _, h => simp [ckI] at h
        | [], _, h => simp [ckI] at h
        | _ :: _ :: _, _, h => simp [ckI] at h
      all_goals simp [ckI] at h
    all_goals simp [ckI] at h
end
end
end Rc
/-! Rc9: statements: how they run, the looks, and that what is let by runs so. -/
namespace Rc
open PySem L2

/-! ### texts and runs -/
mutual
inductive S where
  | asg (tg : Tg) (e : E)
  | par (i j : Nat) (a b : E)
  | sset (o i e : E)
  | fset (c : Str) (o : E) (f : Str) (k : Nat) (e : E)
  | faug (c : Str) (o : E) (f : Str) (k : Nat) (i : Int)
  | expr (e : E)
  | ret (e : E)
  | retN
  | iff (c : E) (a b : Ss)
  | forS (tg : Tg) (it : It) (body : Ss)
  | pass
  | raiseS (c : Str) (m : Str)
  | raiseR (c : Str) (a : E)
  | tryRow (i : Nat) (body : Ss) (c : Str)
  | never
  | tryS (body : Ss) (hs : Hs)
inductive Ss where
  | nil
  | cons (s : S) (ss : Ss)
  | two (s t : S) (ss : Ss)
inductive Hs where
  | nil
  | cons (c : Str) (b : Ss) (hs : Hs)
end
inductive Fl where
  | nx (env : Env)
  | rt (v : Val)
inductive RS where
  | ok (f : Fl) (st : Store)
  | exc (c : Str) (row : Option Int) (env : Env) (st : Store)
  | stuck
@[simp] def lift {α : Type} (env : Env) (m : M α) (k : α → Store → RS) : Store → RS := fun st => match m st with
  | .ok a st' => k a st'
  | .exc c r st' => .exc c r env st'
  | .stuck => .stuck
@[simp] def optS {α : Type} (o : Option α) (k : α → RS) : RS := match o with
  | some a => k a
  | none => .stuck
/-- o[i] = v -/
def setAt (st : Store) (l : Nat) (w : Val) (v : Val) : Option Ob → Option Store
  | some (.lst xs) => match w with
    | .int k => (L2.ixN xs.length k).map fun j => st.set l (.lst (xs.set j v))
    | _ => none
  | some (.dK kvs) => if decide (kvs.length < 100000) then (keyOf w).map fun k => st.set l (.dK (put kvs k v)) else none
  | some (.dT kvs) => if decide (kvs.length < 100000) then (keyT w).map fun k => st.set l (.dT (put kvs k v)) else none
  | _ => none
def setOp (st : Store) : Val → Val → Val → Option Store
  | .loc l, w, v => setAt st l w v st[l]?
  | _, _, _ => none
/-- o.f = v, in its place or as the next one -/
def putFld (f : Str) (k : Nat) (v : Val) (fs : List (Str × Val)) : Option (List (Str × Val)) := match fs[k]? with
  | some p => if p.1 = f ∧ fs.length < 100 then some (fs.set k (f, v)) else none
  | none => if decide (k = fs.length) && decide (k < 100) && fs.all (fun p => !decide (p.1 = f)) then some (fs ++ [(f, v)]) else none
def fsetAt (st : Store) (c : Str) (l : Nat) (f : Str) (k : Nat) (v : Val) : Option Ob → Option Store
  | some (.ins d fs) => if d = c then (putFld f k v fs).map fun gs => st.set l (.ins d gs) else none
  | _ => none
def fsetOp (st : Store) (c f : Str) (k : Nat) : Val → Val → Option Store
  | .loc l, v => fsetAt st c l f k v st[l]?
  | _, _ => none
def faugOp (st : Store) (c f : Str) (k : Nat) (i : Int) (o : Val) : Option Store := (fldOp st f k o).bind fun v => (toInt v).bind fun j => fsetOp st c f k o (.int (j + i))
noncomputable def forRaw (body : Env → Store → RS) (tg : Tg) (still : Store → Prop) : List Val → Env → Store → RS
  | [], env, st => open Classical in if still st then .ok (.nx env) st else .stuck
  | x :: xs, env, st => open Classical in if still st then match assignTg tg x env with
      | some env' => match body env' st with
        | .ok (.nx env2) st2 => forRaw body tg still xs env2 st2
        | r => r
      | none => .stuck
    else .stuck
theorem forEx : ∃ f : (Env → Store → RS) → Tg → (Store → Prop) → List Val → Env → Store → RS, f = forRaw := ⟨_, rfl⟩
noncomputable def forLoop : (Env → Store → RS) → Tg → (Store → Prop) → List Val → Env → Store → RS := Classical.choose forEx
theorem forLoop_eq : forLoop = forRaw := Classical.choose_spec forEx
theorem forLoop_nil {body : Env → Store → RS} {tg : Tg} {still : Store → Prop} {env : Env} {st : Store} (h : still st) : forLoop body tg still [] env st = .ok (.nx env) st := by
  rw [forLoop_eq]
  unfold forRaw
  rw [if_pos h]
theorem forLoop_cons {body : Env → Store → RS} {tg : Tg} {still : Store → Prop} {x : Val} {zs : List Val} {env env' : Env} {st : Store} (h : still st) (e : assignTg tg x env = some env') : forLoop body tg still (x :: zs) env st = match body env' st with
    | .ok (.nx env2) st2 => forLoop body tg still zs env2 st2
    | r => r := by
  rw [forLoop_eq]
  conv => lhs; unfold forRaw
  rw [if_pos h, e]
/-- names, where the store is cut back: what cannot be told is not known -/
def frzE (st : Store) (base : Nat) (env : Env) : Env := env.map fun o => o.bind (frz st base depthD)
open Classical in
noncomputable def cutE (st st' : Store) (env : Env) (k : Env → Store → RS) : RS := if CutOk st st' then k (frzE st' st.length env) (st'.take st.length) else .stuck
/-- is the class c one that the clause h takes? -/
def subOf (c h : Str) : Bool := decide (c = h) || decide (h = ("ClayError" : Str))
section
variable (C : Str → List Val → M Val) (xs : List Str)
mutual
noncomputable def exS : S → Env → Store → RS
  | .asg tg e, env => lift env (evE C e env) fun v st => optS (assignTg tg v env) fun env' => .ok (.nx env') st
  | .sset o i e, env => lift env (evE C e env) fun v => lift env (evE C o env) fun ov => lift env (evE C i env) fun iv st => optS (setOp st ov iv v) fun st' => .ok (.nx env) st'
  | .par i j a b, env => lift env (evE C a env) fun v => lift env (evE C b env) fun w st => .ok (.nx ((env.set i (some v)).set j (some w))) st
  | .fset c o f k e, env => lift env (evE C e env) fun v => lift env (evE C o env) fun ov st => optS (fsetOp st c f k ov v) fun st' => .ok (.nx env) st'
  | .faug c o f k i, env => lift env (evE C o env) fun ov st => optS (faugOp st c f k i ov) fun st' => .ok (.nx env) st'
  | .expr e, env => lift env (evE C e env) fun _ st => .ok (.nx env) st
  | .ret e, env => lift env (evE C e env) fun v st => .ok (.rt v) st
  | .retN, _ => fun st => .ok (.rt .non) st
  | .iff c a b, env => lift env (bnd (evE C c env) asBl) fun k => if k = true then exSs a env else exSs b env
  | .forS tg it body, env => lift env (evI C it env) fun is => forLoop (exSs body) tg (Still is) is.xs env
  | .pass, env => fun st => .ok (.nx env) st
  | .raiseS c _, env => fun st => .exc c none env st
  | .raiseR c a, env => lift env (evE C a env) fun v st => match v with
    | .int r => (match C c [v] st with
      | .ok _ _ => .exc c (some r) env st
      | _ => .stuck)
    | _ => .stuck
  | .never, _ => fun _ => .stuck
  | .tryRow _ body c, env => fun st => match exSs body env st with
    | .exc c1 row env' st' => if xs.contains c1 = true then (if subOf c1 c = true then (match row with
      | some r => if c1 = c then .ok (.rt (.lst [.int r])) st' else .stuck
      | none => .stuck) else .exc c1 row env' st') else .stuck
    | r => r
  | .tryS body hs, env => fun st => match exSs body env st with
    | .exc c row env' st' => if xs.contains c = true then exHs c row hs env' st' else .stuck
    | r => r
noncomputable def exSs : Ss → Env → Store → RS
  | .nil, env => fun st => .ok (.nx env) st
  | .cons s ss, env => fun st => match exS s env st with
    | .ok (.nx env') st' => exSs ss env' st'
    | r => r
  | .two s t ss, env => fun st => match exS s env st with
    | .ok (.nx env1) st1 => (match exS t env1 st1 with
      | .ok (.nx env2) st2 => cutE st st2 env2 (exSs ss)
      | _ => .stuck)
    | _ => .stuck
/-- the clauses, one after the other -/
@[simp] noncomputable def exHs (c : Str) (row : Option Int) : Hs → Env → Store → RS
  | .nil, env => fun st => .exc c row env st
  | .cons h b hs, env => fun st => if subOf c h = true then (match exSs b env st with
    | .exc _ _ _ _ => .stuck
    | r => r) else exHs c row hs env st
end
end
/-- a def: its parameters' count, its names' count, its body -/
structure Df where
  ps : Nat
  ns : Nat
  body : Ss
@[simp] def startEnv (n : Nat) (args : List Val) : Env := args.map some ++ List.replicate (n - args.length) none
@[simp] noncomputable def runDf (C : Str → List Val → M Val) (xs : List Str) (d : Df) (args : List Val) : M Val := fun st =>
  if args.length = d.ps then match exSs C xs d.body (startEnv d.ns args) st with
    | .ok (.rt v) st' => .ok v st'
    | .ok (.nx _) st' => .ok .non st'
    | .exc c row _ st' => .exc c row st'
    | .stuck => .stuck
  else .stuck
noncomputable def callF (defs : List (Str × Df)) (inits : List (Str × Str)) (xs : List Str) : Nat → Str → List Val → M Val
  | 0 => fun f => match inits.lookup f with
    | some _ => mkNew f fun _ => stuck
    | none => fun _ => stuck
  | n + 1 => fun f => match inits.lookup f with
    | some g => mkNew f (callF defs inits xs n g)
    | none => match defs.lookup f with
      | some d => runDf (callF defs inits xs n) xs d
      | none => fun _ => stuck

/-! ### the looks -/
structure SigS extends Sig where
  excs : List Str
  rows : List Str := []
def ckHdl (c : Str) : Expr → Bool
  | .Name x _ => decide (x = c)
  | _ => false
/-- a comprehension that is stored to a name at once -/
def swapB (ct : Ct) (scope : Scope) (y : Str) (py pos : Pos) : Bool :=
  decide (ct.sc.names.lookup y = some .local) && (py.line == pos.line) && !(scope.names.any fun p => p.1 == y && (p.2 == .local || p.2 == .cell))
def plainVal : Expr → Bool
  | .ListComp .. | .Tuple .. => false
  | _ => true
/-- X('m') -/
def ckMade (ct : Ct) (xs : List Str) (c m : Str) : Expr → Bool
  | .Call (.Name x _) [.Constant (.str m') _ _] [] _ => ct.cal && decide (c = x) && decide (m = m') && isGl ct.sc x && noDbg x && xs.contains x
  | _ => false
theorem ckMade_of {ct : Ct} {xs : List Str} {c m : Str} {e : Expr} (h : ckMade ct xs c m e = true) : ∃ p j p2 pos, e = .Call (.Name c p) [.Constant (.str m) j p2] [] pos ∧ ct.cal = true ∧ isGl ct.sc c = true ∧ noDbg c = true ∧ c ∈ xs := by
  unfold ckMade at h
  split at h
  · simp only [Bool.and_eq_true] at h
    obtain ⟨⟨⟨⟨⟨h1, h2⟩, h3⟩, h4⟩, h5⟩, h6⟩ := h
    have := of_decide_eq_true h2
    subst this
    have := of_decide_eq_true h3
    subst this
    exact ⟨_, _, _, _, rfl, h1, h4, h5, List.contains_iff_mem.mp h6⟩
  · cases h
def ckRaise (g : SigS) (ct : Ct) (c m : Str) : Option Expr → Option Expr → Bool
  | some e, none => ckMade ct g.excs c m e
  | _, _ => false
/-- try: .. except x as y: return [z.f] -/
def rowTry : Stmt → Option (List Stmt × Str × Str × Str × Str)
  | .Try b [.ExceptHandler (some (.Name x _)) (some y) [.Return (some (.List [.Attribute (.Name z _) f _] _)) _] _] [] [] _ => some (b, x, y, z, f)
  | _ => none
theorem rowTry_of {st : Stmt} {b : List Stmt} {x y z f : Str} (h : rowTry st = some (b, x, y, z, f)) : ∃ p p1 p2 p3 p4 p5 pos, st = .Try b [.ExceptHandler (some (.Name x p)) (some y) [.Return (some (.List [.Attribute (.Name z p1) f p2] p3)) p4] p5] [] [] pos := by
  unfold rowTry at h
  split at h
  · cases h
    exact ⟨_, _, _, _, _, _, _, rfl⟩
  · cases h
def ckInt (i : Int) : Expr → Bool
  | .Constant (.int j) _ _ => decide (i = j)
  | _ => false
def parOk (y z : Str) (py pz : Pos) (v w : Expr) : Bool := !(y == z) && (pz.line == py.line) && !(foldedForSure 8 v && foldedForSure 8 w) && !(constantsAlone 8 v && constantsAlone 8 w)
/-- a plain local name -/
def ckLoc (ct : Ct) (i : Nat) : Expr → Bool
  | .Name x _ => decide (ct.N[i]? = some x) && decide (ct.sc.names.lookup x = some .local)
  | _ => false
def noLcx : E → Bool
  | .lcx .. => false
  | _ => true
section
variable (g : SigS)
mutual
def ckS (ct : Ct) : S → Stmt → Bool
  | .asg (.nm i) e, .Assign [.Name y py] v _ => ckName ct i (.Name y py) && okHead v && ckE g.toSig ct e v && noLcx e
  | .asg (.tup is) e, .Assign [.Tuple ts k p] v _ => ckTg ct (.tup is) (.Tuple ts k p) && okHead v && plainVal v && ckE g.toSig ct e v
  | .sset o i e, .Assign [.Subscript a b _] v _ => okHead v && ckE g.toSig ct e v && okHead a && ckE g.toSig ct o a && okHead b && ckE g.toSig ct i b
  | .par i j a b, .Assign [.Tuple [.Name y py, .Name z pz] k p] (.Tuple [v, w] _ _) _ => ct.cal && ckLoc ct i (.Name y py) && ckLoc ct j (.Name z pz) && decide (i ≠ j) && parOk y z py pz v w && okHead v && ckE g.toSig ct a v && okHead w && ckE g.toSig ct b w
  | .fset c o f _ e, .Assign [.Attribute ob x _] v _ => decide (f = x) && g.flds.contains (c, f) && okHead v && ckE g.toSig ct e v && okHead ob && ckE g.toSig ct o ob
  | .faug c o f _ i, .AugAssign (.Attribute ob x _) op v _ => decide (op = .Add) && decide (f = x) && g.flds.contains (c, f) && ckInt i v && okHead ob && ckE g.toSig ct o ob
  | .expr e, .Expr v _ => okHead v && plainVal v && ckE g.toSig ct e v
  | .ret e, .Return (some v) _ => okHead v && ckE g.toSig ct e v
  | .retN, .Return none _ => true
  | .iff c a b, .If t x y _ => okHead t && tst c && ckE g.toSig ct c t && ckSs ct a x && ckSs ct b y
  | .forS tg it body, .For t x b [] _ => enumOk it t && ct.cal && ckTg ct tg t && ckI g.toSig ct it x && ckSs ct body b
  | .pass, .Pass _ => true
  | .raiseS c m, .Raise ex cause _ => !g.rows.contains c && ckRaise g ct c m ex cause
  | .raiseR c a, .Raise (some (.Call (.Name x _) [e] [] _)) none _ => ct.cal && decide (x = c) && isGl ct.sc x && noDbg x && g.rows.contains c && okHead e && ckE g.toSig ct a e
  | .never, _ => true
  | .tryRow i body c, st => (match rowTry st with
    | some (b, x, y, z, f) => decide (x = c) && isGl ct.sc x && noDbg x && g.excs.contains c && g.rows.contains c && decide (z = y) && decide (f = ("row" : Str)) && decide (ct.N[i]? = some y) && decide (ct.sc.names.lookup y = some .local) && noDbg y && ckSs ct body b
    | none => false)
  | .tryS body hs, .Try b (h :: hds) [] [] _ => ct.cal && ckSs ct body b && ckHs ct hs (h :: hds)
  | _, _ => false
def ckSs (ct : Ct) : Ss → List Stmt → Bool
  | .nil, [] => true
  | .cons s ss, x :: xs => ckS ct s x && ckSs ct ss xs
  | .two s t ss, x :: y :: xs => ckS ct s x && ckS ct t y && ckSs ct ss xs
  | _, _ => false
def ckHs (ct : Ct) : Hs → List ExceptHandler → Bool
  | .nil, [] => true
  | .cons c b hs, .ExceptHandler (some (.Name x _)) none (y :: ys) _ :: hds => decide (x = c) && isGl ct.sc x && noDbg x && g.excs.contains x && ckSs { ct with cal := false } b (y :: ys) && ckHs ct hs hds
  | _, _ => false
end
end
end Rc
/-! RcX: an own exception that carries a row: its __init__, and raise C(e). -/
namespace L2
open PySem PySem.Spec PyProof.Rows
theorem vis_parX {N P : List Str} {sc : Scope} (S : FnScope N P sc) {x : Str} (h : x ∈ P) : Vis sc x := by
  rcases S.par x h with e | e
  · exact Or.inl e
  · exact Or.inr (Or.inl e)
theorem pe_veinitC {X : Cx} {x : Str} {C0 : Addr} {e : Expr} {es : List Expr} {ta : TA} {p1 p2 pos : Pos} (hg : Gl X x) (hm : X.mg x = some (.ref C0)) (hsp : PySem.W.specialIn X.K (.ref C0) "__getattribute__" = some (some (.builtin "type.__getattribute__"))) (hrd : PySem.W.readsIn X.K C0 (.type "type") = true)
    (vV : PySem.W.findCls X.K (.ref C0) (.type "type") "__init__" = some (.val (.builtin "ValueError.__init__"))) (ha : PA X (e :: es) ta) (hdb : (x == ("__debug__" : Str)) = false) (hline : (p2.endLine == pos.line) = true)
    (hfew : methodCallForm ((e :: es).length + ([] : List Keyword).length) (backTo pos (starEach (e :: es) X.env)) (backToKw pos (keywordEach [] X.env)) = true := by rfl)
    (hb : attributeBase (.Name x p1) "__init__" X.env (eval (.Name x p1) X.env) = eval (.Name x p1) X.env := by rfl)
    (he : starEach (e :: es) X.env = (false, eval e X.env) :: starEach es X.env := by rfl) (hpl : (backTo pos (starEach es X.env)).any (·.1) = false := by rfl) :
    PE X (.Call (.Attribute (.Name x p1) "__init__" p2) (e :: es) [] pos) (tVeI X.K ta) := by
  refine ⟨fun pins s σ H Q I h => ?_⟩
  refine Rc.meth_wp hb hfew hline (ld_glob I hg hm ?_ hdb)
  refine PySem.W.method_cls I.kIn hsp (PySem.W.cls_value I.kIn hrd vV (by decide +kernel) ?_)
  show wpAny _ _ (callWith pos (Value.builtin "ValueError.__init__") [] (backTo pos (starEach (e :: es) X.env)) []) _ _ _
  refine PyProof.Rows.callWith_method1 (thn (ha.run pos pins _ σ H _ (I.tok _) h) fun us s1 ⟨vs, H1, I1, r1, a, C, ws, ev, hl, T, ea, q⟩ => ?_) he hpl
  subst ev
  cases r1 with
  | @cons _ u0 _ ur ra rw' =>
    obtain rfl : u0 = Value.ref a := ra
    have hlen : ur.length ≤ sizeLine := by
      rw [← Paired.length rw', sizeLine_eq]
      omega
    exact oinit_ok T I1 ea hlen fun s' J => ⟨.non, H1, J, rfl, q⟩
/-- what such an __init__ does -/
def spInit (K : PySem.W.Frag) : Sp := fun vs H Q E => ∃ (a C : Addr) (v : V), vs = [.ref a, v] ∧ OexC K C ∧ PySem.W.findIn K (.ref C) "row" = some none ∧ H a = some (exo a C none) ∧
  ∀ dx, H dx = none → dx ≠ a → Q .non (upd (upd H dx (exd dx [("row", v)])) a (exo a C (some dx)))
/-- its text -/
def initTx (m : Str) (p1 p2 p3 p4 p5 p6 p7 p8 p9 p10 : Pos) (j : Nat) : List Stmt := [.Expr (.Call (.Attribute (.Name "ClayError" p1) "__init__" p2) [.Name "self" p3, .Constant (.str m) j p4] [] p5) p6, .Assign [.Attribute (.Name "self" p7) "row" p8] (.Name "row" p9) p10]
theorem ok_init {P : Program} {w : World} {K : PySem.W.Frag} {mg : Str → Option Value} {base : Heap} {CX : CXT} {nm qual m : Str} {pa : Arguments} {bd : List Stmt} {sc : Scope} {f : Addr} {fd : FuncData} {C0 : Addr} {p1 p2 p3 p4 p5 p6 p7 p8 p9 p10 : Pos} {j : Nat}
    (F : FunD K nm qual pa bd sc [] [] f fd) (S : FnScope ["self", "row"] ["self", "row"] sc) (hline : (p2.endLine == p5.line) = true) (hb : bd = initTx m p1 p2 p3 p4 p5 p6 p7 p8 p9 p10 j) (hl : sc.names.lookup ("ClayError" : Str) = some .globalImplicit)
    (hm : mg "ClayError" = some (.ref C0)) (hsp : PySem.W.specialIn K (.ref C0) "__getattribute__" = some (some (.builtin "type.__getattribute__"))) (hrd : PySem.W.readsIn K C0 (.type "type") = true) (vV : PySem.W.findCls K (.ref C0) (.type "type") "__init__" = some (.val (.builtin "ValueError.__init__"))) :
    FnOk P w K mg base CX 1 f fd ["self", "row"] (spInit K) := by
  refine F.ok (CX := CX) S (fun vs H Q E h => ?_) (fun cdv A outer s H vs Q E hr h => ?_)
  · obtain ⟨a, C, v, rfl, _⟩ := h
    rfl
  · obtain ⟨a, C, v, rfl, T, hno, ea, q⟩ := h
    rw [hb]
    refine ⟨_, pss_cons (ps_expr (pe_veinitC (x := "ClayError") ?_ hm hsp hrd vV (pa_cons (pe_var (i := 0) rfl (vis_parX S List.mem_cons_self)) (pa_cons pe_str pa_nil)) (by decide) hline)) (pss_cons (ps_ost (pe_var (i := 0) rfl (vis_parX S List.mem_cons_self)) (pe_var (i := 1) rfl (vis_parX S (List.mem_cons_of_mem _ List.mem_cons_self)))) pss_nil), ?_⟩
    · exact hl
    · exact ⟨_, rfl, ⟨a, C, _, rfl, by simp, T, ea, ⟨_, rfl, ⟨_, rfl, a, C, rfl, T, hno, .inl ⟨ea, fun dx n ne => q dx n ne⟩⟩⟩⟩⟩
theorem del_upd {H : Hp} {a dx : Addr} {u v w z : HO} (ha : H a = none) (hne : dx ≠ a) : upd (del (upd (upd (upd H a u) dx v) a w) a) dx z = upd H dx z := by
  funext b
  by_cases hb : b = dx
  · subst hb
    rw [upd_same, upd_same]
  · rw [upd_ne hb, upd_ne hb]
    by_cases hc : b = a
    · subst hc
      rw [del_same, ha]
    · rw [del_ne hc, upd_ne hc, upd_ne hb, upd_ne hc]
end L2
namespace L2
open PySem PySem.Spec PyProof.Rows
/-- no exception leaves such an __init__ -/
def CXn : CXT := fun _ _ _ _ _ _ => False
theorem passN {X : Cx} {E : XK} : Passes CXn X E := fun _ _ _ _ _ _ _ h => h.elim
def oexB (K : PySem.W.Frag) (C : Addr) : Bool := (match K.lookup C with
  | some ⟨.type "type", _, .cls cd, sl⟩ => (match cd.mro, sl.toList with
    | .ref C' :: bm, [_, _, _, _, some (.builtin n), _] => C' == C && n == "ValueError.__new__" && !cd.hasDel && cd.hasDict && PySem.HandSPX.refsVE bm
    | _, _ => false)
  | _ => false) && (decide (PySem.W.findIn K (.ref C) "__setattr__" = some (some (.builtin "object.__setattr__"))) && (decide (PySem.W.subIn K (.ref C) (.type "BaseException") = some true) && (decide (PySem.W.typeIn K (.ref C) = some (.type "type")) && PySem.W.keepIn K (.ref C))))
theorem oexB_ok {K : PySem.W.Frag} {C : Addr} (h : oexB K C = true) : OexC K C := by
  unfold oexB at h
  rw [Bool.and_eq_true, Bool.and_eq_true, Bool.and_eq_true, Bool.and_eq_true] at h
  obtain ⟨h1, h2, h3, h4, h5⟩ := h
  refine ⟨?_, of_decide_eq_true h2, of_decide_eq_true h3, of_decide_eq_true h4, h5⟩
  split at h1
  · rename_i dd cd sl ho
    split at h1
    · rename_i C' bm k0 k1 k2 k3 n k5 hm hs
      simp only [Bool.and_eq_true, beq_iff_eq, Bool.not_eq_true'] at h1
      obtain ⟨⟨⟨⟨rfl, rfl⟩, hdel⟩, hdi⟩, ht⟩ := h1
      obtain ⟨nm, bs, mro, ns, qn, hd, sn, sub, ab, col, del⟩ := cd
      dsimp only at hm hdel hdi
      subst hm hdel hdi
      have hsl : sl = #[k0, k1, k2, k3, some (.builtin "ValueError.__new__"), k5] := by
        obtain ⟨l⟩ := sl
        simp only at hs
        rw [hs]
      subst hsl
      exact ⟨nm, qn, ns, bs, bm, sn, sub, ab, col, dd, k0, k1, k2, k3, k5, ho, ht⟩
    · cases h1
  · cases h1
end L2
/-! Rc10: statements, by induction. -/
namespace Rc
open PySem L2

def PostS (K : PySem.W.Frag) (W : WX) (D : Ends) (n : Nat) (ρ : Pl) (H : Hp) : RS → Prop
  | .ok (.nx env') st' => ∀ ρ' σ' H', Ext ρ H ρ' H' → RelS K ρ' st' H' → RelE K ρ' H' env' σ' → σ'.length = n → D.nx σ' H'
  | .ok (.rt v) st' => ∀ ρ' w H', Ext ρ H ρ' H' → RelS K ρ' st' H' → Rep K ρ' H' v w → D.rt w H'
  | .exc c row env' st' => ∀ ρ' d σ' H', Ext ρ H ρ' H' → RelS K ρ' st' H' → RelE K ρ' H' env' σ' → σ'.length = n → ExcAt H' row d → W (.ref (He.ga K c)) d σ' H'
  | .stuck => False
def tS (K : PySem.W.Frag) (W : WX) (n : Nat) (m : Env → Store → RS) : TS := fun D σ H => σ.length = n ∧ ∃ ρ env st, RelE K ρ H env σ ∧ RelS K ρ st H ∧ PostS K W D n ρ H (m env st)
theorem PostS.later {K : PySem.W.Frag} {W : WX} {D : Ends} {n : Nat} {ρ ρ1 : Pl} {H H1 : Hp} {r : RS} (h : PostS K W D n ρ H r) (e : Ext ρ H ρ1 H1) : PostS K W D n ρ1 H1 r := by
  cases r with
  | ok f st =>
    cases f with
    | nx env => exact fun ρ' σ' H' e' => h ρ' σ' H' (e.trans e')
    | rt v => exact fun ρ' w H' e' => h ρ' w H' (e.trans e')
  | exc c row env st => exact fun ρ' d σ' H' e' => h ρ' d σ' H' (e.trans e')
  | stuck => exact h
/-- a run of an expression, then the rest of the statement -/
theorem PostS.lift {K : PySem.W.Frag} {α β : Type} {rel : Pl → Hp → α → β → Prop} {W : WX} {D : Ends} {σ : L2.St} {ρ : Pl} {H : Hp} {env : Env} {m : M α} {k : α → Store → RS} {st : Store} {Q : β → Hp → Prop} (rE : RelE K ρ H env σ)
    (h : PostS K W D σ.length ρ H (Rc.lift env m k st)) (f : ∀ a st1 ρ1 b H1, Ext ρ H ρ1 H1 → RelS K ρ1 st1 H1 → rel ρ1 H1 a b → PostS K W D σ.length ρ1 H1 (k a st1) → Q b H1) : Post K rel W σ ρ H Q (m st) := by
  unfold Rc.lift at h
  cases e : m st with
  | ok a st1 =>
    rw [e] at h
    exact fun ρ' w H' x s q => f a st1 ρ' w H' x s q (PostS.later h x)
  | exc c row st1 =>
    rw [e] at h
    exact fun ρ' d H' x s q => h ρ' d σ H' x s (rE.ext x) rfl q
  | stuck =>
    rw [e] at h
    exact h
theorem PostS.liftI {K : PySem.W.Frag} {W : WX} {D : Ends} {σ : L2.St} {ρ : Pl} {H : Hp} {env : Env} {m : M Items} {k : Items → Store → RS} {st : Store} {R' : L2.It → Hp → Prop} (rE : RelE K ρ H env σ)
    (h : PostS K W D σ.length ρ H (Rc.lift env m k st)) (f : ∀ is st1 ρ1 J H1, is.xs.length ≤ sizeLine → Ext ρ H ρ1 H1 → RelS K ρ1 st1 H1 → ItOk K ρ1 H1 is J → PostS K W D σ.length ρ1 H1 (k is st1) → R' J H1) : PostI K W σ ρ H R' (m st) := by
  unfold Rc.lift at h
  cases e : m st with
  | ok a st1 =>
    rw [e] at h
    exact fun hz ρ' J H' x s q => f a st1 ρ' J H' hz x s q (PostS.later h x)
  | exc c row st1 =>
    rw [e] at h
    exact fun ρ' d H' x s q => h ρ' d σ H' x s (rE.ext x) rfl q
  | stuck =>
    rw [e] at h
    exact h
theorem PostS.opt {K : PySem.W.Frag} {α : Type} {W : WX} {D : Ends} {n : Nat} {ρ : Pl} {H : Hp} {o : Option α} {k : α → RS} (h : PostS K W D n ρ H (optS o k)) : ∃ a, o = some a ∧ PostS K W D n ρ H (k a) := by
  cases o with
  | none => exact h.elim
  | some a => exact ⟨a, rfl, h⟩
theorem PS.impL {X : Cx} {e : Stmt} {t t' : TS} (h : PS X e t) (k : ∀ D σ H, t' D σ H → t D σ H) : PS X e t' := ⟨fun pins s σ H D I q => h.run pins s σ H D I (k D σ H q)⟩

/-- what is known of an exception that carries a row -/
structure RowC (X : Cx) (c : Str) (n : Nat) (C : Str → List Val → M Val) : Prop where
  T : OexC X.K (He.ga X.K c)
  xf : XfC X.K (He.ga X.K c)
  hno : PySem.W.findIn X.K (.ref (He.ga X.K c)) "row" = some none
  mg : X.mg c = some (.ref (He.ga X.K c))
  stuck0 : n = 0 → ∀ ar st, C c ar st = .stuck
  ex : ∃ (fI : Addr) (fd : FuncData), PySem.W.findIn X.K (.ref (He.ga X.K c)) "__init__" = some (some (.ref fI)) ∧ PySem.W.typeIn X.K (.ref fI) = some (.type "function") ∧ FnOk X.prog X.w X.K X.mg X.base CXn 1 fI fd ["self", "row"] (spInit X.K) ∧ Binds X.K fd ["self", "row"] []
structure GoodS (X : Cx) (g : SigS) (ct : Ct) (n : Nat) (C : Str → List Val → M Val) (W : WX) : Prop extends Good X g.toSig ct n C W where
  kind : X.env.scope.kind = .function
  own : PassesOwn (model X.prog X.w) X.A X.env X.xe
  stk : X.stack = X.env :: X.outer
  frm : X.env.frame = some X.env.locals
  exm : ∀ c ∈ g.excs, ∀ h ∈ g.excs, PySem.W.exmOne X.K (.ref (He.ga X.K c)) (.ref (He.ga X.K h)) = some (subOf c h)
  rowx : ∀ c ∈ g.rows, RowC X c n C
  exc : ∀ c ∈ g.excs, X.mg c = some (.ref (He.ga X.K c)) ∧ (g.rows.contains c = false → ∀ (X' : Cx), X'.K = X.K → X'.mg = X.mg → Gl X' c → (c == ("__debug__" : Str)) = false → ∀ (m : Str) (j : Nat) (p p2 pos : Pos), PMk X' (.Call (.Name c p) [.Constant (.str m) j p2] [] pos) (fun _ H Q => Q (.ref (He.ga X.K c)) none H))
section
variable {g : SigS} {n : Nat} {C : Str → List Val → M Val} {X : Cx} {ct : Ct} {W : WX}
theorem GoodS.tr (G : GoodS X g ct n C W) {W' : WX} (pn : List (Addr × Obj)) (xe : Value → Shared → Prop) (tk : Takes (X.tr pn xe) W') (po : PassesOwn (model X.prog X.w) X.A X.env xe) : GoodS (X.tr pn xe) g ct n C W' where
  sc := G.sc
  N := G.N
  nd := G.nd
  stor := G.stor
  calm := G.calm
  room := G.room
  units := G.units
  takes := tk
  fr := ⟨_, _, _, G.stk, G.frm, G.frm, tk.l⟩
  frees := G.frees
  globs := G.globs
  defs := G.defs
  clss := G.clss
  meths := G.meths
  flds := G.flds
  tups := G.tups
  dics := G.dics
  insc := G.insc
  kind := G.kind
  own := po
  stk := G.stk
  frm := G.frm
  exm := G.exm
  rowx := fun c hc => ⟨(G.rowx c hc).T, (G.rowx c hc).xf, (G.rowx c hc).hno, (G.rowx c hc).mg, (G.rowx c hc).stuck0, (G.rowx c hc).ex⟩
  exc := G.exc
theorem GoodS.suite (G : GoodS X g ct n C W) (a : Addr) (pn : List (Addr × Obj)) : GoodS (X.suite a pn) g { ct with cal := false } n C F0 where
  sc := G.sc
  N := G.N
  nd := G.nd
  stor := G.stor
  calm := fun h => by cases h
  room := fun h => by cases h
  units := G.units
  takes := takes0
  fr := ⟨_, _, _, G.stk, G.frm, G.frm, takesL0⟩
  frees := G.frees
  globs := G.globs
  defs := G.defs
  clss := G.clss
  meths := G.meths
  flds := G.flds
  tups := G.tups
  dics := G.dics
  insc := G.insc
  kind := G.kind
  own := PassesOwn.never
  stk := G.stk
  frm := G.frm
  exm := G.exm
  rowx := fun c hc => ⟨(G.rowx c hc).T, (G.rowx c hc).xf, (G.rowx c hc).hno, (G.rowx c hc).mg, (G.rowx c hc).stuck0, (G.rowx c hc).ex⟩
  exc := G.exc
end
/-! ### rules -/
/-- every clause's class is known -/
def hsIn (xs : List Str) : Hs → Prop
  | .nil => True
  | .cons c _ hs => c ∈ xs ∧ hsIn xs hs
section
variable {g : SigS} {n : Nat} {C : Str → List Val → M Val} {X : Cx} {ct : Ct} {W : WX}
theorem sim_asg {tg : Tg} {st : Stmt} {m : Env → M Val} (h : PS X st (tAsg (tE X.K W m) (gTg X.K tg))) (hi : tgIn X.N.length tg) :
    PS X st (tS X.K W X.N.length fun env => lift env (m env) fun v st => optS (assignTg tg v env) fun env' => .ok (.nx env') st) := by
  refine PS.impL h fun D σ H q => ?_
  obtain ⟨hl, ρ, env, st, rE, rS, p⟩ := q
  rw [← hl] at p hi
  refine ⟨ρ, env, st, rE, rS, PostS.lift rE p fun v st1 ρ1 x H1 e1 s1 q1 p1 => ?_⟩
  obtain ⟨env', ea, p2⟩ := PostS.opt p1
  exact gTg_ok ea q1 (rE.ext e1) hi fun σ' rE' l' _ => p2 ρ1 σ' H1 (.refl _ _) s1 rE' l'
theorem set_S (hu : X.A.units + 100 < cLine) : PSet X (fun o i v H Q => ∃ (ρ : Pl) (st : Store) (ov iv vv : Val) (st' : Store), RelS X.K ρ st H ∧ Rep X.K ρ H ov o ∧ Rep X.K ρ H iv i ∧ Rep X.K ρ H vv v ∧ setOp st ov iv vv = some st' ∧ ∀ ρ' H', Ext ρ H ρ' H' → RelS X.K ρ' st' H' → Q H') := by
  intro pins s σ H o i v ov iv u Q I ro ri rv h
  obtain ⟨ρ, st, vo, vi, vv, st', rS, r1, r2, r3, e, q⟩ := h
  unfold setOp at e
  split at e
  · rename_i l
    cases r1 with
    | @loc _ a h =>
      have hm : a ∈ ρ := .inl (List.mem_of_getElem? h)
      unfold setAt at e
      split at e
      · rename_i xs hl
        split at e
        · obtain ⟨j, ej, rfl⟩ := Option.map_eq_some_iff.mp e
          cases r2
          obtain ⟨u0, e1, e2⟩ := rS.at_ _ a _ h hl
          cases e2 with
          | @lst _ ws qw =>
            have z := rS.wrote (o := .lst (xs.set j vv)) h (.lst ((qw.set r3 j).ext0 (.wrote hm)))
            exact set_list pins s σ H _ _ _ ov iv u Q I ro ri rv ⟨a, ws, _, j, rfl, rfl, e1, by rw [← qw.length]; exact ej, q ρ _ z.2 z.1⟩
        · cases e
      · rename_i kvs hl
        split at e
        · rename_i hz
          have hz := of_decide_eq_true hz
          obtain ⟨k, ek, rfl⟩ := Option.map_eq_some_iff.mp e
          obtain ⟨u0, e1, e2⟩ := rS.at_ _ a _ h hl
          cases e2 with
          | @dK _ kws hk qw =>
            have hy := keyOf_rep r2 ek
            subst hy
            have D := DRel.mk hk qw
            have D' := (D.put k r3).ext0 (Ext0.wrote (o := .dK (putK kws k v)) hm)
            have z := rS.wrote (o := .dK (put kvs k vv)) h (.dK D'.keys D'.vals)
            cases ro
            have hl2 := D.len
            exact d_setItem (by omega) I (DPut.k (k := k) e1 (by show _ < 16777216; omega)) ri rv fun s' I' => ⟨_, I', q ρ _ z.2 z.1⟩
        · cases e
      · rename_i kvs hl
        split at e
        · rename_i hz
          have hz := of_decide_eq_true hz
          obtain ⟨k, ek, rfl⟩ := Option.map_eq_some_iff.mp e
          obtain ⟨u0, e1, e2⟩ := rS.at_ _ a _ h hl
          cases e2 with
          | @dT _ kws hk qw =>
            obtain ⟨b, rfl, hb⟩ := keyT_rep r2 ek
            have D := DRel.mk hk qw
            have D' := (D.put k r3).ext0 (Ext0.wrote (o := .dT (putK kws k v)) hm)
            have z := rS.wrote (o := .dT (put kvs k vv)) h (.dT D'.keys D'.vals)
            cases ro
            have hl2 := D.len
            exact d_setItem (by omega) I (DPut.t (k := k) e1 hb (by show _ < 16777216; omega)) ri rv fun s' I' => ⟨_, I', q ρ _ z.2 z.1⟩
        · cases e
      · cases e
  · cases e
theorem putF_set : ∀ {gs : List (Str × V)} {k : Nat} {f : Str} {w v : V}, (gs.map (·.1)).Nodup → gs[k]? = some (f, w) → putF f v gs = gs.set k (f, v)
  | [], k, f, w, v, _, h => by simp at h
  | (g, x) :: gs, 0, f, w, v, _, h => by
    simp at h
    obtain ⟨rfl, rfl⟩ := h
    show (if g = g then _ else _) = _
    rw [if_pos rfl]
    rfl
  | (g, x) :: gs, k + 1, f, w, v, nd, h => by
    rw [List.map_cons, List.nodup_cons] at nd
    have h : gs[k]? = some (f, w) := by simpa using h
    have hne : ¬ g = f := fun e => nd.1 (by
      subst e
      exact List.mem_map.mpr ⟨_, List.mem_of_getElem? h, rfl⟩)
    show (if g = f then _ else _) = _
    rw [if_neg hne, putF_set nd.2 h]
    rfl
theorem putF_new : ∀ {gs : List (Str × V)} {f : Str} {v : V}, (∀ p ∈ gs, ¬ p.1 = f) → putF f v gs = gs ++ [(f, v)]
  | [], f, v, _ => rfl
  | (g, x) :: gs, f, v, h => by
    show (if g = f then _ else _) = _
    rw [if_neg (h (g, x) (by simp)), putF_new fun p hp => h p (by simp [hp])]
    rfl
/-- a field is written -/
theorem fset_S {K : PySem.W.Frag} {ρ : Pl} {st st' : Store} {H : Hp} {c f : Str} {k : Nat} {ov vv : Val} {x y : V} (rS : RelS K ρ st H) (ro : Rep K ρ H ov x) (rv : Rep K ρ H vv y) (hf : NoAttr K (He.ga K c) f) (e : fsetOp st c f k ov vv = some st') :
    ∃ a dx gs, x = .ref a ∧ H a = some (.ins (He.ga K c) dx gs) ∧ Cls K (He.ga K c) ∧ gs.length < 1000 ∧ RelS K ρ st' (upd H a (.ins (He.ga K c) dx (putF f y gs))) ∧ Ext ρ H ρ (upd H a (.ins (He.ga K c) dx (putF f y gs))) := by
  unfold fsetOp at e
  split at e
  · rename_i l
    cases ro with
    | @loc _ a h =>
      have hm : a ∈ ρ := .inl (List.mem_of_getElem? h)
      unfold fsetAt at e
      split at e
      · rename_i d fs eo
        split at e
        · rename_i hc
          subst hc
          obtain ⟨gs', ep, rfl⟩ := Option.map_eq_some_iff.mp e
          obtain ⟨u, e1, e2⟩ := rS.at_ _ a _ h eo
          cases e2 with
          | @ins _ dx _ gs io hd hn hk q =>
            have hlen : fs.length = gs.length := by
              have := congrArg List.length hk
              simpa using this
            have wr : ∀ {o : HO}, Ext0 ρ H ρ (upd H a o) := .wrote hm
            have hdx : ∀ {o : HO}, upd H a o dx = some (.own a) := by
              intro o
              rw [upd_ne (show dx ≠ a from fun z => hn (z ▸ hm))]
              exact hd
            unfold putFld at ep
            cases ef : fs[k]? with
            | some pr =>
              rw [ef] at ep
              dsimp only at ep
              split at ep
              · rename_i hpf
                cases ep
                obtain ⟨f', v'⟩ := pr
                obtain ⟨hpf, h100⟩ := hpf
                dsimp only at hpf
                subst hpf
                obtain ⟨w, e4, r⟩ := fld_at hk q ef
                have hk2 := (List.getElem?_eq_some_iff.mp e4).1
                have es : putF f' y gs = gs.set k (f', y) := putF_set io.nd e4
                have kn : ((gs.set k (f', y)).map (·.1)) = gs.map (·.1) := by
                  rw [List.map_set]
                  refine List.ext_getElem? fun i => ?_
                  by_cases hi : i = k
                  · subst hi
                    rw [List.getElem?_set_self (by rw [List.length_map]; exact hk2), List.getElem?_map, e4]
                    rfl
                  · rw [List.getElem?_set_ne (Ne.symm hi)]
                have io' : InsOk K d (gs.set k (f', y)) := ⟨io.cls, by rw [kn]; exact io.nd, fun p hp => by
                  rcases List.mem_or_eq_of_mem_set hp with hp | hp
                  · exact io.noat p hp
                  · subst hp; exact hf⟩
                have kf : ((fs.set k (f', vv)).map (·.1)) = (gs.set k (f', y)).map (·.1) := by
                  rw [kn, ← hk, List.map_set]
                  refine List.ext_getElem? fun i => ?_
                  by_cases hi : i = k
                  · subst hi
                    rw [List.getElem?_set_self (by rw [List.length_map]; omega), List.getElem?_map, ef]
                    rfl
                  · rw [List.getElem?_set_ne (Ne.symm hi)]
                have z := rS.wrote (o := .ins d (fs.set k (f', vv))) (u := .ins (He.ga K d) dx (putF f' y gs)) h (by
                  rw [es]
                  refine .ins io' hdx hn kf ?_
                  rw [List.map_set, List.map_set]
                  exact ((q.set rv k).ext0 wr))
                exact ⟨a, dx, gs, rfl, e1, io.cls, by omega, z.1, z.2⟩
              · cases ep
            | none =>
              rw [ef] at ep
              dsimp only at ep
              split at ep
              · rename_i hcc
                cases ep
                simp only [Bool.and_eq_true, decide_eq_true_eq, List.all_eq_true, Bool.not_eq_true', decide_eq_false_iff_not] at hcc
                obtain ⟨⟨hk1, hk2⟩, hall⟩ := hcc
                have hng : ∀ p ∈ gs, ¬ p.1 = f := fun p hp z => by
                  have : p.1 ∈ fs.map (·.1) := by rw [hk]; exact List.mem_map.mpr ⟨p, hp, rfl⟩
                  obtain ⟨p', hp', e'⟩ := List.mem_map.mp this
                  exact hall p' hp' (e'.trans z)
                have es : putF f y gs = gs ++ [(f, y)] := putF_new hng
                have io' : InsOk K d (gs ++ [(f, y)]) := ⟨io.cls, by
                  rw [List.map_append, List.nodup_append]
                  refine ⟨io.nd, by simp, fun x hx b hb => ?_⟩
                  obtain ⟨p, hp, rfl⟩ := List.mem_map.mp hx
                  simp at hb
                  subst hb
                  exact hng p hp, fun p hp => by
                  rcases List.mem_append.mp hp with hp | hp
                  · exact io.noat p hp
                  · rw [List.mem_singleton.mp hp]; exact hf⟩
                have z := rS.wrote (o := .ins d (fs ++ [(f, vv)])) (u := .ins (He.ga K d) dx (putF f y gs)) h (by
                  rw [es]
                  refine .ins io' hdx hn (by simp [hk]) ?_
                  rw [List.map_append, List.map_append]
                  exact (q.append (.cons rv .nil)).ext0 wr)
                exact ⟨a, dx, gs, rfl, e1, io.cls, by omega, z.1, z.2⟩
              · cases ep
        · cases e
      · cases e
  · cases e
theorem sim_fset {c f : Str} {k : Nat} {o v : Expr} {mo mv : Env → M Val} {pos p2 : Pos} (hv : PE X v (tE X.K W mv)) (ho : PE X o (tE X.K W mo)) (hf : NoAttr X.K (He.ga X.K c) f) (hsw : swapsWith v (some (.Attribute o f p2)) pos.line X.env = pure false) :
    PS X (.Assign [.Attribute o f p2] v pos) (tS X.K W X.N.length fun env => lift env (mv env) fun v => lift env (mo env) fun ov st => optS (fsetOp st c f k ov v) fun st' => .ok (.nx env) st') := by
  refine PS.impL (ps_fld ho hv hsw) fun D σ H q => ?_
  obtain ⟨hl, ρ, env, st, rE, rS, p⟩ := q
  rw [← hl] at p
  refine ⟨ρ, env, st, rE, rS, PostS.lift rE p fun vv st1 ρ1 x H1 e1 s1 q1 p1 => ?_⟩
  refine ⟨ρ1, env, st1, rE.ext e1, s1, PostS.lift (rE.ext e1) p1 fun vo st2 ρ2 y H2 e2 s2 q2 p2 => ?_⟩
  obtain ⟨st', es, p4⟩ := PostS.opt p2
  obtain ⟨a, dx, gs, rfl, ea, hcl, hlt, rS', x'⟩ := fset_S s2 q2 (q1.ext e2) hf es
  exact ⟨a, _, dx, gs, rfl, ea, hcl, hf, hlt, p4 ρ2 σ _ x' rS' (((rE.ext e1).ext e2).ext x') rfl⟩
theorem sim_faug {c f : Str} {k : Nat} {i : Int} {o : Expr} {mo : Env → M Val} {pos tpos p1 : Pos} {j : Nat} (ho : PE X o (tE X.K W mo)) (hf : NoAttr X.K (He.ga X.K c) f) :
    PS X (.AugAssign (.Attribute o f tpos) .Add (.Constant (.int i) j p1) pos) (tS X.K W X.N.length fun env => lift env (mo env) fun ov st => optS (faugOp st c f k i ov) fun st' => .ok (.nx env) st') := by
  refine PS.impL (ps_fldaug ho (pe_int (i := i)) in_add) fun D σ H q => ?_
  obtain ⟨hl, ρ, env, st, rE, rS, p⟩ := q
  rw [← hl] at p
  refine ⟨ρ, env, st, rE, rS, PostS.lift rE p fun vo st1 ρ1 x H1 e1 s1 q1 p1 => ?_⟩
  obtain ⟨st', es0, p4⟩ := PostS.opt p1
  unfold faugOp at es0
  obtain ⟨v, ev, es1⟩ := Option.bind_eq_some_iff.mp es0
  obtain ⟨n, en, es⟩ := Option.bind_eq_some_iff.mp es1
  clear es0 es1 p1
  have hv : v = .int n := by cases v <;> cases en; rfl
  subst hv
  obtain ⟨a, dx, gs, rfl, ea, hcl, hlt, rS', x'⟩ := fset_S s1 q1 (.int (n + i)) hf es
  clear es
  have hlk : gs.lookup f = some (.int n) := by
    unfold fldOp at ev
    split at ev
    · rename_i l
      cases q1 with
      | @loc _ _ h =>
        cases eo : st1[l]? with
        | none => rw [eo] at ev; cases ev
        | some ob =>
          rw [eo] at ev
          obtain ⟨u, e2, e3⟩ := s1.at_ _ a _ h eo
          cases e3 with
          | lst _ => cases ev
          | dK _ _ => cases ev
          | dT _ _ => cases ev
          | @ins _ _ fs gs' io hd hn hk q =>
            rw [ea] at e2
            injection e2 with e2
            injection e2 with e5 e6 e7
            subst e7
            unfold obFld at ev
            dsimp only at ev
            cases ef : fs[k]? with
            | none => rw [ef] at ev; cases ev
            | some pr =>
              rw [ef] at ev
              dsimp only at ev
              split at ev
              · rename_i hpf
                obtain ⟨f', v'⟩ := pr
                dsimp only at hpf
                subst hpf
                cases ev
                obtain ⟨w, e4, r⟩ := fld_at hk q ef
                cases r
                exact lookup_of_nodup io.nd e4
              · cases ev
    · cases ev
  exact ⟨a, _, dx, gs, .int n, rfl, ea, hcl, hf, hlk, n, i, rfl, rfl, dx, gs, ea, hlt, p4 ρ1 σ _ x' rS' ((rE.ext e1).ext x') rfl⟩
theorem sim_par {i j : Nat} {a b : Expr} {m1 m2 : Env → M Val} {st0 : Stmt} (h : PS X st0 (tPar i j (tCons (tE X.K W m1) (tCons (tE X.K W m2) tNil)))) (hi : i < X.N.length) (hj : j < X.N.length) :
    PS X st0 (tS X.K W X.N.length fun env => lift env (m1 env) fun v => lift env (m2 env) fun w st => .ok (.nx ((env.set i (some v)).set j (some w))) st) := by
  refine PS.impL h fun D σ H q => ?_
  obtain ⟨hl, ρ, env, st, rE, rS, p⟩ := q
  rw [← hl] at p hi hj
  refine ⟨ρ, env, st, rE, rS, PostS.lift rE p fun v st1 ρ1 x H1 e1 s1 q1 p1 => ?_⟩
  refine ⟨ρ1, env, st1, rE.ext e1, s1, PostS.lift (rE.ext e1) p1 fun w st2 ρ2 y H2 e2 s2 q2 p2 => ?_⟩
  refine ⟨x, y, rfl, p2 ρ2 _ H2 (.refl _ _) s2 ?_ (by simp)⟩
  exact (((rE.ext e1).ext e2).set i hi (q1.ext e2)).set j (by simpa using hj) q2
theorem sim_sset {o i v : Expr} {mo mi mv : Env → M Val} {pos p2 : Pos} (hu : X.A.units + 100 < cLine) (hv : PE X v (tE X.K W mv)) (ho : PE X o (tE X.K W mo)) (hi : PE X i (tE X.K W mi)) (hx : PlainIx i) (hsw : swapsWithSole [.Subscript o i p2] v pos.line X.env = pure false)
    (ha : ∀ v, assign (.Subscript o i p2) X.env v = (do
      let ov ← holding [v] (eval o X.env)
      let iv ← holding [v, ov] (eval i X.env)
      standAt p2
      holding [v, ov, iv] (setItem ov iv v)
      release [v, ov, iv] [])) :
    PS X (.Assign [.Subscript o i p2] v pos) (tS X.K W X.N.length fun env => lift env (mv env) fun v => lift env (mo env) fun ov => lift env (mi env) fun iv st => optS (setOp st ov iv v) fun st' => .ok (.nx env) st') := by
  refine PS.impL (ps_asg hv (pg_sub ho hi (set_S hu) ha) hsw rfl rfl) fun D σ H q => ?_
  obtain ⟨hl, ρ, env, st, rE, rS, p⟩ := q
  rw [← hl] at p
  refine ⟨ρ, env, st, rE, rS, PostS.lift rE p fun vv st1 ρ1 x H1 e1 s1 q1 p1 => ?_⟩
  refine ⟨ρ1, env, st1, rE.ext e1, s1, PostS.lift (rE.ext e1) p1 fun vo st2 ρ2 y H2 e2 s2 q2 p2 => ?_⟩
  refine ⟨ρ2, env, st2, (rE.ext e1).ext e2, s2, PostS.lift ((rE.ext e1).ext e2) p2 fun vi st3 ρ3 z H3 e3 s3 q3 p3 => ?_⟩
  obtain ⟨st', es, p4⟩ := PostS.opt p3
  exact ⟨ρ3, st3, vo, vi, vv, st', s3, q2.ext e3, q3, (q1.ext e2).ext e3, es, fun ρ' H' x s => p4 ρ' σ H' x s ((((rE.ext e1).ext e2).ext e3).ext x) rfl⟩
theorem sim_expr {v : Expr} {m : Env → M Val} {pos : Pos} (hv : PE X v (tE X.K W m)) (hs : swapsWith v none pos.line X.env = pure false) : PS X (.Expr v pos) (tS X.K W X.N.length fun env => lift env (m env) fun _ st => .ok (.nx env) st) := by
  refine PS.impL (ps_expr hv hs) fun D σ H q => ?_
  obtain ⟨hl, ρ, env, st, rE, rS, p⟩ := q
  rw [← hl] at p
  refine ⟨ρ, env, st, rE, rS, PostS.lift rE p fun vv st1 ρ1 x H1 e1 s1 q1 p1 => ?_⟩
  exact p1 ρ1 σ H1 (.refl _ _) s1 (rE.ext e1) rfl
theorem sim_ret {v : Expr} {m : Env → M Val} {pos : Pos} (hv : PE X v (tE X.K W m)) : PS X (.Return (some v) pos) (tS X.K W X.N.length fun env => lift env (m env) fun v st => .ok (.rt v) st) := by
  refine PS.impL (ps_ret hv) fun D σ H q => ?_
  obtain ⟨hl, ρ, env, st, rE, rS, p⟩ := q
  rw [← hl] at p
  refine ⟨ρ, env, st, rE, rS, PostS.lift rE p fun vv st1 ρ1 x H1 e1 s1 q1 p1 => ?_⟩
  exact p1 ρ1 x H1 (.refl _ _) s1 q1
theorem sim_if {c : Expr} {a b : List Stmt} {mc : Env → M Val} {ma mb : Env → Store → RS} {pos : Pos} (hc : PT X c (tT X.K W mc)) (ha : PSs X a (tS X.K W X.N.length ma)) (hb : PSs X b (tS X.K W X.N.length mb)) :
    PS X (.If c a b pos) (tS X.K W X.N.length fun env => lift env (bnd (mc env) asBl) fun k => if k = true then ma env else mb env) := by
  refine PS.impL (ps_if hc ha hb) fun D σ H q => ?_
  obtain ⟨hl, ρ, env, st, rE, rS, p⟩ := q
  have hl' := hl
  rw [← hl] at p
  refine ⟨ρ, env, st, rE, rS, PostS.lift rE p fun k st1 ρ1 k' H1 e1 s1 q1 p1 => ?_⟩
  have q1 : k = k' := q1
  subst q1
  rw [hl] at p1
  cases k with
  | true => exact ⟨hl', ρ1, env, st1, rE.ext e1, s1, p1⟩
  | false => exact ⟨hl', ρ1, env, st1, rE.ext e1, s1, p1⟩
theorem sim_pass {pos : Pos} : PS X (.Pass pos) (tS X.K W X.N.length fun env => fun st => .ok (.nx env) st) := by
  refine PS.impL ps_pass fun D σ H q => ?_
  obtain ⟨hl, ρ, env, st, rE, rS, p⟩ := q
  exact p ρ σ H (.refl _ _) rS rE hl
theorem sim_ssNil : PSs X [] (tS X.K W X.N.length fun env => fun st => .ok (.nx env) st) := by
  refine PSs.imp pss_nil fun D σ H q => ?_
  obtain ⟨hl, ρ, env, st, rE, rS, p⟩ := q
  exact p ρ σ H (.refl _ _) rS rE hl
theorem sim_ssCons {s : Stmt} {ss : List Stmt} {m ms : Env → Store → RS} (h1 : PS X s (tS X.K W X.N.length m)) (h2 : PSs X ss (tS X.K W X.N.length ms)) : PSs X (s :: ss) (tS X.K W X.N.length fun env => fun st => match m env st with
    | .ok (.nx env') st' => ms env' st'
    | r => r) := by
  refine PSs.imp (pss_cons h1 h2) fun D σ H q => ?_
  obtain ⟨hl, ρ, env, st, rE, rS, p⟩ := q
  refine ⟨hl, ρ, env, st, rE, rS, ?_⟩
  dsimp only at p
  cases e : m env st with
  | ok f st1 =>
    rw [e] at p
    cases f with
    | nx env1 => exact fun ρ1 σ1 H1 e1 s1 rE1 l1 => ⟨l1, ρ1, env1, st1, rE1, s1, PostS.later p e1⟩
    | rt v => exact p
  | exc c row env1 st1 => rw [e] at p; exact p
  | stuck => rw [e] at p; exact p
theorem RelE.cut {K : PySem.W.Frag} {ρ ρ' : Pl} {H H' : Hp} {st st' : Store} {env : Env} {σ : L2.St} (rS : RelS K ρ st H) (e : Ext ρ H ρ' H') (rS' : RelS K ρ' st' H') (r : RelE K ρ' H' env σ) : RelE K ρ H' (frzE st' st.length env) σ := fun i v h => by
  unfold frzE at h
  rw [List.getElem?_map] at h
  obtain ⟨o, h1, h2⟩ := Option.map_eq_some_iff.mp h
  obtain ⟨v0, rfl, h3⟩ := Option.bind_eq_some_iff.mp h2
  obtain ⟨w, h4, h5⟩ := r i v0 h1
  have := frz_rep rS' _ h5 h3
  rw [e.cut_eq rS] at this
  exact ⟨w, h4, this⟩
theorem sim_ssTwo {s t : Stmt} {ss : List Stmt} {m1 m2 ms : Env → Store → RS} (h1 : PS X s (tS X.K W X.N.length m1)) (h2 : PS X t (tS X.K W X.N.length m2)) (h3 : PSs X ss (tS X.K W X.N.length ms)) : PSs X (s :: t :: ss) (tS X.K W X.N.length fun env => fun st => match m1 env st with
    | .ok (.nx env1) st1 => (match m2 env1 st1 with
      | .ok (.nx env2) st2 => cutE st st2 env2 ms
      | _ => .stuck)
    | _ => .stuck) := by
  refine PSs.imp (pss_cons h1 (pss_cons h2 h3)) fun D σ H q => ?_
  obtain ⟨hl, ρ, env, st, rE, rS, p⟩ := q
  refine ⟨hl, ρ, env, st, rE, rS, ?_⟩
  dsimp only at p
  cases e : m1 env st with
  | ok f st1 =>
    rw [e] at p
    cases f with
    | nx env1 =>
      intro ρ1 σ1 H1 e1 s1 rE1 l1
      refine ⟨l1, ρ1, env1, st1, rE1, s1, ?_⟩
      dsimp only at p
      cases e' : m2 env1 st1 with
      | ok f st2 =>
        rw [e'] at p
        cases f with
        | nx env2 =>
          intro ρ2 σ2 H2 e2 s2 rE2 l2
          dsimp only at p
          unfold cutE at p
          split at p
          · rename_i hc
            have ee := e1.trans e2
            exact ⟨l2, ρ, _, _, RelE.cut rS ee s2 rE2, rS.cut ee s2 hc, PostS.later p ee.back⟩
          · exact p.elim
        | rt v => exact p.elim
      | exc c row env2 st2 => rw [e'] at p; exact p.elim
      | stuck => rw [e'] at p; exact p.elim
    | rt v => exact p.elim
  | exc c row env1 st1 => rw [e] at p; exact p.elim
  | stuck => rw [e] at p; exact p.elim
theorem sim_for {tgE iterE : Expr} {body : List Stmt} {tg : Tg} {mI : Env → M Items} {mb : Env → Store → RS} {pos : Pos} (hp : PassesOwn (model X.prog X.w) X.A X.env X.xe) (hc : X.calm = true) (hi : PI X tgE iterE (tI X.K W mI)) (hg : PG X tgE (gTg X.K tg)) (hb : PSs X body (tS X.K W X.N.length mb))
    (hs : ∀ x, foldedSetIterable iterE X.env x = pure x) (hin : tgIn X.N.length tg) :
    PS X (.For tgE iterE body [] pos) (tS X.K W X.N.length fun env => lift env (mI env) fun is => forLoop mb tg (Still is) is.xs env) := by
  refine PS.impL (ps_for hp hc hi hg hb hs) fun D σ H q => ?_
  obtain ⟨hl, ρ, env, st, rE, rS, p⟩ := q
  rw [← hl] at p
  refine ⟨ρ, env, st, rE, rS, PostS.liftI rE p fun is st1 ρ1 J H1 hz e1 s1 hJ p1 => ?_⟩
  rw [hl] at p1
  refine ⟨fun i m σ H => m = is.xs.length - i ∧ i ≤ is.xs.length ∧ σ.length = X.N.length ∧ ∃ ρ' env' st', Ext ρ1 H1 ρ' H ∧ RelE X.K ρ' H env' σ ∧ RelS X.K ρ' st' H ∧ PostS X.K W D X.N.length ρ' H (forLoop mb tg (Still is) (is.xs.drop i) env' st'), ⟨_, rfl, Nat.zero_le _, hl, ρ1, env, st1, .refl _ _, rE.ext e1, s1, p1⟩, fun i m σ2 H2 hW => ?_⟩
  obtain ⟨rfl, hi2, hl2, ρ2, env2, st2, e2, rE2, s2, p2⟩ := hW
  by_cases hlt : i < is.xs.length
  · right
    have hget : is.xs[i]? = some is.xs[i] := List.getElem?_eq_getElem hlt
    rw [List.drop_eq_getElem_cons hlt] at p2
    rw [forLoop_eq] at p2
    unfold forRaw at p2
    try rw [← forLoop_eq] at p2
    by_cases hst : Still is st2
    · rw [if_pos hst] at p2
      obtain ⟨hgo, hy⟩ := (hJ i ρ2 st2 H2 e2.toExt0 s2 hst).1 _ hget
      refine ⟨hgo, fun σ' H' => i + 1 ≤ is.xs.length ∧ σ'.length = X.N.length ∧ ∃ ρ' env' st', Ext ρ1 H1 ρ' H' ∧ RelE X.K ρ' H' env' σ' ∧ RelS X.K ρ' st' H' ∧ PostS X.K W D X.N.length ρ' H' (forLoop mb tg (Still is) (is.xs.drop (i + 1)) env' st'), fun σ' H' hN => ?_, fun x H3 hyl => ?_⟩
      · obtain ⟨a1, a2, a3⟩ := hN
        exact ⟨is.xs.length - (i + 1), by omega, rfl, a1, a2, a3⟩
      · obtain ⟨x3, s3, r3⟩ := hy x H3 hyl
        cases eA : assignTg tg is.xs[i] env2 with
        | none => rw [eA] at p2; exact p2.elim
        | some env3 =>
          rw [eA] at p2
          dsimp only at p2
          refine gTg_ok eA r3 (rE2.ext x3) (by rw [hl2]; exact hin) fun σ3 rE3 l3 _ => ⟨by rw [l3, hl2], ρ2, env3, st2, rE3, s3, ?_⟩
          cases eB : mb env3 st2 with
          | ok f st4 =>
            rw [eB] at p2
            cases f with
            | nx env4 => exact fun ρ4 σ4 H4 e4 s4 rE4 l4 => ⟨hlt, l4, ρ4, env4, st4, e2.trans (x3.trans e4), rE4, s4, PostS.later p2 (x3.trans e4)⟩
            | rt v => exact fun ρ4 w H4 e4 s4 q4 => p2 ρ4 w H4 (x3.trans e4) s4 q4
          | exc c row env4 st4 => rw [eB] at p2; exact fun ρ4 d σ4 H4 e4 => p2 ρ4 d σ4 H4 (x3.trans e4)
          | stuck => rw [eB] at p2; exact p2.elim
    · rw [if_neg hst] at p2
      exact p2.elim
  · left
    rw [List.drop_eq_nil_of_le (by omega)] at p2
    rw [forLoop_eq] at p2
    unfold forRaw at p2
    try rw [← forLoop_eq] at p2
    by_cases hst : Still is st2
    · rw [if_pos hst] at p2
      exact ⟨(hJ i ρ2 st2 H2 e2.toExt0 s2 hst).2 (by omega), p2 ρ2 σ2 H2 (.refl _ _) s2 rE2 hl2⟩
    · rw [if_neg hst] at p2
      exact p2.elim
theorem sim_raise {c m : Str} {p p2 pos pos2 : Pos} {j : Nat} (hc : X.calm = true) (tk : Takes X W) (mk : PMk X (.Call (.Name c p) [.Constant (.str m) j p2] [] pos2) (fun _ H Q => Q (.ref (He.ga X.K c)) none H)) :
    PS X (.Raise (some (.Call (.Name c p) [.Constant (.str m) j p2] [] pos2)) none pos) (tS X.K W X.N.length fun env => fun st => .exc c none env st) := by
  refine PS.impL (ps_raise hc tk mk) fun D σ H q => ?_
  obtain ⟨hl, ρ, env, st, rE, rS, p⟩ := q
  exact p ρ none σ H (.refl _ _) rS rE hl rfl
/-- the clauses of a try: their classes and what their suites do -/
def hsT (K : PySem.W.Frag) (n : Nat) (C : Str → List Val → M Val) (xs : List Str) : Hs → List (Value × (Addr → Value → Option Addr → TS))
  | .nil => []
  | .cons c b hs => (.ref (He.ga K c), fun _ _ _ => tS K F0 n (exSs C xs b)) :: hsT K n C xs hs
theorem wMany_of {K : PySem.W.Frag} {Wout : WX} {D : Ends} {n : Nat} {xs : List Str} {c : Str} {row : Option Int} {env : Env} {st : Store} (hex : ∀ h ∈ xs, PySem.W.exmOne K (.ref (He.ga K c)) (.ref (He.ga K h)) = some (subOf c h)) : ∀ {hs : Hs} {ρ : Pl} {H : Hp} {d : Option Addr} {σ : L2.St}, hsIn xs hs → σ.length = n → RelE K ρ H env σ → RelS K ρ st H → ExcAt H row d →
    PostS K Wout D n ρ H (exHs C xs c row hs env st) → wMany K Wout D (hsT K n C xs hs) (.ref (He.ga K c)) d σ H
  | .nil, ρ, H, d, σ, _, hl, rE, rS, hd, p => p ρ d σ H (.refl _ _) rS rE hl hd
  | .cons h b hs, ρ, H, d, σ, hin, hl, rE, rS, hd, p => by
    unfold exHs at p
    refine ⟨subOf c h, hex h hin.1, fun e a na => ?_, fun e => ?_⟩
    · rw [e] at p
      refine ⟨hl, ρ, env, st, rE, rS, ?_⟩
      rw [if_pos rfl] at p
      cases eB : exSs C xs b env st with
      | ok f st1 => rw [eB] at p; cases f <;> exact p
      | exc c1 r1 e1 st1 => rw [eB] at p; exact p.elim
      | stuck => rw [eB] at p; exact p
    · rw [e] at p
      rw [if_neg (by decide)] at p
      exact wMany_of hex hin.2 hl rE rS hd p
theorem sim_try {body : List Stmt} {h0 : ExceptHandler} {hds : List ExceptHandler} {mb : Env → Store → RS} {hs : Hs} {xs : List Str} {pos : Pos} (G : GoodS X g ct n C W) (hx : xs = g.excs) (hin : hsIn xs hs)
    (hb : ∀ (W' : WX) (pn : List (Addr × Obj)) (xe : Value → Shared → Prop), Takes (X.tr pn xe) W' → PassesOwn (model X.prog X.w) X.A X.env xe → PSs (X.tr pn xe) body (tS X.K W' X.N.length mb))
    (hh : HdsOk X (h0 :: hds) (hsT X.K X.N.length C xs hs)) :
    PS X (.Try body (h0 :: hds) [] [] pos) (tS X.K W X.N.length fun env => fun st => match mb env st with
      | .exc c row env' st' => if xs.contains c = true then exHs C xs c row hs env' st' else .stuck
      | r => r) := by
  refine PS.impL (ps_try_many G.stk G.frm G.takes hb hh) fun D σ H q => ?_
  obtain ⟨hl, ρ, env, st, rE, rS, p⟩ := q
  refine ⟨hl, ρ, env, st, rE, rS, ?_⟩
  dsimp only at p
  cases e : mb env st with
  | ok f st1 => rw [e] at p; cases f <;> exact p
  | stuck => rw [e] at p; exact p
  | exc c row env1 st1 =>
    rw [e] at p
    dsimp only at p
    by_cases hc : xs.contains c = true
    · rw [if_pos hc] at p
      intro ρ1 d σ1 H1 e1 s1 rE1 l1 hd
      subst hx
      exact wMany_of (fun h hh => G.exm c (List.contains_iff_mem.mp hc) h hh) hin l1 rE1 s1 hd (PostS.later p e1)
    · rw [if_neg hc] at p
      exact p.elim
end
/-! ### the induction -/
section
variable {g : SigS} {n : Nat} {C : Str → List Val → M Val}
def isLc : Expr → Bool
  | .ListComp .. => true
  | _ => false
def isTup : Expr → Bool
  | .Tuple .. => true
  | _ => false
theorem swNo {v : Expr} {t : Option Expr} {l : Nat} {env : PySem.Env} (h : okHead v = true) (h2 : isLc v = false) : swapsWith v t l env = pure false := by
  cases v with
  | ListComp a b c d => exact absurd h2 (by simp [isLc])
  | _ => first | rfl | (exact absurd h (by simp [okHead]))
theorem swSole {t v : Expr} {l : Nat} {env : PySem.Env} : swapsWithSole [t] v l env = swapsWith v (some t) l env := by
  unfold swapsWithSole
  rfl
theorem plain_lc {v : Expr} (h : plainVal v = true) : isLc v = false ∧ isTup v = false := by
  cases v <;> first | exact ⟨rfl, rfl⟩ | (exact absurd h (by simp [plainVal]))
theorem lc_of {v : Expr} (h : isLc v = true) : ∃ a b c d, v = .ListComp a b c d := by
  cases v <;> first | exact ⟨_, _, _, _, rfl⟩ | (exact absurd h (by simp [isLc]))
def swB (env : PySem.Env) (scope : Scope) (y : Str) (py pos : Pos) : Bool := env.kindOf y == some .local && py.line == pos.line && !(scope.names.any fun (n, k) => n == y && (k == .local || k == .cell))
theorem swEq {elt : Expr} {gs : List Comprehension} {scope : Scope} {pos py : Pos} {y : Str} {l : Nat} {env : PySem.Env} (hk : env.scope.kind = .function) : swapsWith (.ListComp elt gs scope pos) (some (.Name y py)) l env = pure (swB env scope y py pos) := by
  have hb : env.blockKind = .function := by unfold Env.blockKind; rw [hk]; rfl
  unfold swapsWith swB
  simp only [hb, Expr.pos]
  rfl
/-- a comprehension stored at once -/
theorem sound_setLc {X : Cx} {ct : Ct} {W : WX} (G : Good X g.toSig ct n C W) {new : Bool} {own : List Nat} {tg : Tg} {it : It} {ifs : Es} {e : E} {elt : Expr} {gens : List Comprehension} {scope : Scope} {pos py spos : Pos} {i : Nat} {y : Str} (hk : X.env.scope.kind = .function) (hy : X.N[i]? = some y)
    (hsw : swB X.env scope y py pos = true) (h : ckE g.toSig ct (.lc new own tg it ifs e) (.ListComp elt gens scope pos) = true) : PS X (.Assign [.Name y py] (.ListComp elt gens scope pos) spos) (tAsg (tE X.K W (evE C (.lc new own tg it ifs e))) (gName i)) := by
  match gens, h with
  | [⟨t, iter, fs, k⟩], h =>
    simp only [ckE, Bool.and_eq_true] at h
    obtain ⟨⟨⟨⟨⟨⟨⟨⟨⟨⟨h0, h1⟩, h2⟩, h3⟩, h4⟩, h5⟩, h6⟩, h7⟩, h8⟩, h9⟩, h10⟩ := h
    have := of_decide_eq_true h2
    subst this
    have bk : BlkOk X.N X.env.scope scope (ownP ct.N own) := by
      rw [G.N, G.sc]
      exact blkOk_by h3
    have hi := soundI it iter (tg := t) h0 G h6
    have e1 : ∀ (s : Shared) (H : Hp) (c : Addr) (cl : List (Str × Addr)) (fp : List Addr), PG (X.blk s H scope (compEnvC scope cl c X.env) fp) t (gTg X.K tg) := fun s H c cl fp => (G.blk bk.uniq s H cl c fp).tg h5
    have e2 : ∀ (s : Shared) (H : Hp) (c : Addr) (cl : List (Str × Addr)) (fp : List Addr), PTs (X.blk s H scope (compEnvC scope cl c X.env) fp) fs (tG X.K relB F0 (evT C ifs)) := fun s H c cl fp => soundT ifs fs (G.blk bk.uniq s H cl c fp) h7 h8
    have e3 : ∀ (s : Shared) (H : Hp) (c : Addr) (cl : List (Str × Addr)) (fp : List Addr), PE (X.blk s H scope (compEnvC scope cl c X.env) fp) elt (tE X.K F0 (evE C e)) := fun s H c cl fp => (soundE e elt (G.blk bk.uniq s H cl c fp) h10).1
    have hloc : X.env.scope.names.lookup y = some .local := by
      unfold swB at hsw
      simp only [Bool.and_eq_true] at hsw
      exact eq_of_beq hsw.1.1
    refine ⟨fun pins s σ H D I q => ?_⟩
    refine (ps_setLc (G.calm h1) G.nd hy hloc (by rw [swEq hk, hsw]) hi.1 bk e1 e2 e3 hi.2).run pins s σ H D I ?_
    rw [ownP_snd]
    refine tLc_of ?_ (tgSub_of h4) q
    rw [I.len, G.N]
    exact (show tgIn (ctBlk ct scope).N.length tg from ckTg_in h5)
  | [], h => simp [ckE] at h
  | _ :: _ :: _, h => simp [ckE] at h
theorem isLc_E {ct : Ct} {e : E} {a : Expr} {b : List Comprehension} {c : Scope} {d : Pos} (h : ckE g.toSig ct e (.ListComp a b c d) = true) (hx : noLcx e = true) : ∃ new own tg it ifs e', e = .lc new own tg it ifs e' := by
  cases e <;> first | exact ⟨_, _, _, _, _, _, rfl⟩ | (simp [noLcx] at hx; done) | simp [ckE] at h
theorem asg_nm {X : Cx} {ct : Ct} {W : WX} (G : Good X g.toSig ct n C W) {i : Nat} {e : E} {y : Str} {py spos : Pos} {v : Expr} (hk : X.env.scope.kind = .function) (h1 : ckName ct i (.Name y py) = true) (h2 : okHead v = true) (h3 : ckE g.toSig ct e v = true) (h4 : noLcx e = true) :
    PS X (.Assign [.Name y py] v spos) (tAsg (tE X.K W (evE C e)) (gTg X.K (.nm i))) := by
  by_cases hl : isLc v = true
  · obtain ⟨a, b, c, d, rfl⟩ := lc_of hl
    obtain ⟨new, own, tg, it, ifs, e', rfl⟩ := isLc_E h3 h4
    cases hs : swB X.env c y py d with
    | true =>
      refine sound_setLc G hk ?_ hs h3
      unfold ckName at h1
      rw [Bool.and_eq_true] at h1
      rw [G.N]
      exact of_decide_eq_true h1.1
    | false => exact ps_asg (soundE _ _ G h3).1 (G.name h1) (by rw [swSole, swEq hk, hs]) rfl rfl
  · have hl' : isLc v = false := by simpa using hl
    refine ps_asg (soundE _ _ G h3).1 (G.name h1) (by rw [swSole]; exact swNo h2 hl') ?_ rfl
    cases v <;> first | rfl | (exact absurd h2 (by simp [okHead]))
end
end Rc
/-! RcY: raise C(e) and except C as x: return [x.row]. -/
namespace Rc
open PySem PySem.Spec PyProof.Rows L2
/-- raise C(e), C's own __init__ keeping a row -/
theorem sim_raiseR {X : Cx} {W : WX} {c : Str} {e : Expr} {m : Env → M Val} {p pos pos2 : Pos} {fI : Addr} {fd : FuncData} {CX : CXT} (hc : X.calm = true) (tk : Takes X W) (T : OexC X.K (He.ga X.K c)) (iC : PySem.W.findIn X.K (.ref (He.ga X.K c)) "__init__" = some (some (.ref fI))) (tI : PySem.W.typeIn X.K (.ref fI) = some (.type "function"))
    (hno : PySem.W.findIn X.K (.ref (He.ga X.K c)) "row" = some none) (F1 : FnOk X.prog X.w X.K X.mg X.base CX 1 fI fd ["self", "row"] (spInit X.K)) (hr : Room 2 X.A) (hb : Binds X.K fd ["self", "row"] []) (hx : Passes CX X (fun _ _ _ => False)) (hg : Gl X c) (hm : X.mg c = some (.ref (He.ga X.K c))) (hdb : (c == ("__debug__" : Str)) = false)
    (he : PE X e (tE X.K W m)) (hs : starEach [e] X.env = (false, eval e X.env) :: starEach [] X.env) :
    PS X (.Raise (some (.Call (.Name c p) [e] [] pos2)) none pos) (tS X.K W X.N.length fun env => fun st => Rc.lift env (m env) (fun v st1 => match v with
      | .int r => .exc c (some r) env st1
      | _ => .stuck) st) := by
  refine PS.impL (ps_raise hc tk (pmk_oex T iC tI F1 hr hb .nil hx hg hm (pa_cons he pa_nil hs) hdb hs)) fun D σ H q => ?_
  obtain ⟨hl, ρ, env, st, rE, rS, p⟩ := q
  rw [← hl] at p
  refine ⟨ρ, env, st, rE, rS, PostS.lift rE p fun v st1 ρ1 b H1 e1 s1 rv p1 => ?_⟩
  cases v with
  | int r =>
    cases rv
    refine ⟨by simp, fun a na => ⟨a, _, .int r, rfl, T, hno, upd_same, fun dx n ne => ⟨rfl, dx, [("row", .int r)], upd_same, ?_, ?_, ?_⟩⟩⟩
    · rw [upd_ne ne, upd_same]
    · rw [upd_ne ne] at n
      exact n
    · dsimp only
      rw [del_upd na ne]
      rw [upd_ne ne] at n
      obtain ⟨r1, r2⟩ := s1.laid (o := .xd [("row", .int r)]) n
      exact p1 ρ1 (some dx) σ _ r2 r1 ((rE.ext e1).ext r2) rfl ⟨dx, rfl, upd_same⟩
  | _ => exact p1.elim
theorem pmk_never {X : Cx} {x : Str} {C : Addr} {e : Expr} {es : List Expr} {ta : TA} {p pos : Pos} (kC : PySem.W.keepIn X.K (.ref C) = true) (hg : Gl X x) (hm : X.mg x = some (.ref C)) (ha : PA X (e :: es) ta) (hdb : (x == ("__debug__" : Str)) = false)
    (he : starEach (e :: es) X.env = (false, eval e X.env) :: starEach es X.env) (hpl : (backTo pos (starEach es X.env)).any (·.1) = false := by rfl) : PMk X (.Call (.Name x p) (e :: es) [] pos) (fun σ H Q => ta σ H fun _ _ => False) := by
  intro pins s σ H Q I h
  refine wpAny_Call_Name_kw (ld_glob I hg hm ?_ hdb)
  refine PySem.W.callWith_K (h₀ := X.base) I.ok.mod.kin kC (thn (ha.run pos pins s σ H _ I h) fun us s1 ⟨vs, H1, I1, r1, hz⟩ => hz.elim) he hpl
/-- raise C(e) as the small language has it -/
theorem sim_raiseG {X : Cx} {g : SigS} {ct : Ct} {n : Nat} {C : Str → List Val → M Val} {W : WX} {c : Str} {e : Expr} {m : Env → M Val} {p pos pos2 : Pos} (G : GoodS X g ct n C W) (hc : X.calm = true) (hr : Room (2 * n + 1) X.A) (hrow : c ∈ g.rows) (hg : Gl X c) (hdb : (c == ("__debug__" : Str)) = false) (he : PE X e (tE X.K W m)) (hs : starEach [e] X.env = (false, eval e X.env) :: starEach [] X.env) :
    PS X (.Raise (some (.Call (.Name c p) [e] [] pos2)) none pos) (tS X.K W X.N.length fun env => Rc.lift env (m env) fun v st1 => match v with
      | .int r => (match C c [v] st1 with
        | .ok _ _ => .exc c (some r) env st1
        | _ => .stuck)
      | _ => .stuck) := by
  obtain ⟨T, xf, hno, hm, st0, fI, fd, iC, tI, F1, hb⟩ := G.rowx c hrow
  cases n with
  | zero =>
    refine PS.impL (ps_raise hc G.takes (pmk_never T.kC hg hm (pa_cons he pa_nil hs) hdb hs)) fun D σ H q => ?_
    obtain ⟨hl, ρ, env, st, rE, rS, p⟩ := q
    rw [← hl] at p
    refine ⟨ρ, env, st, rE, rS, PostS.lift rE p fun v st1 ρ1 b H1 e1 s1 rv p1 => ?_⟩
    cases v with
    | int r =>
      dsimp only at p1
      rw [st0 rfl] at p1
      exact p1.elim
    | _ => exact p1.elim
  | succ n =>
    refine PS.impL (sim_raiseR hc G.takes T iC tI hno F1 (hr.mono (by omega)) hb passN hg hm hdb he hs) fun D σ H q => ?_
    obtain ⟨hl, ρ, env, st, rE, rS, p⟩ := q
    refine ⟨hl, ρ, env, st, rE, rS, ?_⟩
    dsimp only [Rc.lift] at p ⊢
    cases em : m env st with
    | ok v st1 =>
      rw [em] at p
      dsimp only at p ⊢
      cases v with
      | int r =>
        dsimp only at p ⊢
        cases ec : C c [.int r] st1 with
        | ok a b => rw [ec] at p; exact p
        | exc a b d => rw [ec] at p; exact p.elim
        | stuck => rw [ec] at p; exact p.elim
      | _ => exact p.elim
    | exc a b d => rw [em] at p; exact p
    | stuck => rw [em] at p; exact p
/-- try: .. except c as x: return [x.row] -/
theorem sim_tryRow {X : Cx} {g : SigS} {ct : Ct} {n : Nat} {C : Str → List Val → M Val} {W : WX} {body : List Stmt} {mb : Env → Store → RS} {c x : Str} {i : Nat} {np pos pos' p1 p2 p3 p4 : Pos} (G : GoodS X g ct n C W) (hx : c ∈ g.excs) (hgl : Gl X c) (hdb : (c == ("__debug__" : Str)) = false) (hi : X.N[i]? = some x) (hln : X.env.kindOf x = some .local) (hv : Vis X.env.scope x) (hd1 : (x == ("__debug__" : Str)) = false) (hd2 : (x == ("__classdict__" : Str)) = false)
    (T : XfC X.K (He.ga X.K c)) (hno : PySem.W.findIn X.K (.ref (He.ga X.K c)) "row" = some none)
    (hb : ∀ (W' : WX) (pn : List (Addr × Obj)) (xe : Value → Shared → Prop), Takes (X.tr pn xe) W' → PassesOwn (model X.prog X.w) X.A X.env xe → PSs (X.tr pn xe) body (tS X.K W' X.N.length mb)) :
    PS X (.Try body [.ExceptHandler (some (.Name c np)) (some x) [.Return (some (.List [.Attribute (.Name x p1) "row" p2] p3)) p4] pos'] [] [] pos) (tS X.K W X.N.length fun env => fun st => match mb env st with
      | .exc c1 row env' st' => if g.excs.contains c1 = true then (if subOf c1 c = true then (match row with
        | some r => if c1 = c then .ok (.rt (.lst [.int r])) st' else .stuck
        | none => .stuck) else .exc c1 row env' st') else .stuck
      | r => r) := by
  have hs : ∀ (X' : Cx), starEach [.Attribute (.Name x p1) "row" p2] X'.env = (false, eval (.Attribute (.Name x p1) "row" p2) X'.env) :: starEach [] X'.env := fun X' => rfl
  refine PS.impL (ps_try_as G.stk G.frm G.nd hi hln ⟨hgl, hdb, .inl (G.exc c hx).1⟩ G.takes hb
    (fun a oe cls d pn hz hd => pss_cons (ps_ret (pe_lst (pa_cons (pe_xf (C := He.ga X.K c) T hno hz hd (pe_var (X := X.suite a ((a, oe) :: pn)) hi hv hd1 hd2) (head_base rfl _ _ _)) pa_nil (hs _)))) pss_nil)) fun D σ H q => ?_
  obtain ⟨hl, ρ, env, st, rE, rS, p⟩ := q
  refine ⟨hl, ρ, env, st, rE, rS, ?_⟩
  dsimp only at p
  cases e : mb env st with
  | ok f st1 => rw [e] at p; cases f <;> exact p
  | stuck => rw [e] at p; exact p
  | exc c1 row env1 st1 =>
    rw [e] at p
    dsimp only at p
    by_cases hc : g.excs.contains c1 = true
    · rw [if_pos hc] at p
      intro ρ1 d σ1 H1 e1 s1 rE1 l1 hd
      have hm := G.exm c1 (List.contains_iff_mem.mp hc) c hx
      refine ⟨subOf c1 c, hm, fun es a na => ?_, fun es => ?_⟩
      · rw [if_pos es] at p
        cases row with
        | none => exact p.elim
        | some r =>
          dsimp only at p
          by_cases hcc : c1 = c
          · rw [if_pos hcc] at p
            subst hcc
            obtain ⟨dd, hd1', hd2'⟩ := hd
            have hi' : i < σ1.length := by
              rw [l1]
              exact (List.getElem?_eq_some_iff.mp hi).1
            have p2 := PostS.later p e1
            refine ⟨.ref a, by rw [List.getElem?_set_self hi'], rfl, rfl, dd, _, .int r, hd1', hd2', rfl, by simp [sizeLine_eq], ?_⟩
            exact post_l (new := false) (vs := [.int r]) (ws := [.int r]) (W := W) (σ := σ1) (Q := D.rt) (show Post X.K (Rep X.K) W σ1 ρ1 H1 D.rt (mk false (.l [.int r]) st1) from fun ρ' w H' x s q => p2 ρ' w H' x s q) s1 (.cons (.int r) .nil)
          · rw [if_neg hcc] at p
            exact p.elim
      · rw [if_neg (by rw [es]; decide)] at p
        exact PostS.later p e1 ρ1 d σ1 H1 (.refl _ _) s1 rE1 l1 hd
    · rw [if_neg hc] at p
      exact p.elim
end Rc
/-! Rc11: statements: the induction; defs; the whole text. -/
namespace Rc
open PySem L2
section
variable {g : SigS} {n : Nat} {C : Str → List Val → M Val}
theorem ckRaiseR_of {ct : Ct} {c : Str} {a : E} {st : Stmt} (h : ckS g ct (.raiseR c a) st = true) : ∃ p e pos2 pos, st = .Raise (some (.Call (.Name c p) [e] [] pos2)) none pos ∧ ct.cal = true ∧ isGl ct.sc c = true ∧ noDbg c = true ∧ c ∈ g.rows ∧ okHead e = true ∧ ckE g.toSig ct a e = true := by
  cases st
  case Raise ex cause pos =>
    rcases ex with _ | ex
    · simp [ckS] at h
    cases ex
    case Call f args kws pos2 =>
      cases f
      case Name x p =>
        rcases args with _ | ⟨e, _ | ⟨e2, es⟩⟩
        · simp [ckS] at h
        · rcases kws with _ | ⟨k, ks⟩
          · rcases cause with _ | cs
            · simp only [ckS, Bool.and_eq_true] at h
              obtain ⟨⟨⟨⟨⟨⟨h1, h2⟩, h3⟩, h4⟩, h5⟩, h6⟩, h7⟩ := h
              have := of_decide_eq_true h2
              subst this
              exact ⟨_, _, _, _, rfl, h1, h3, h4, List.contains_iff_mem.mp h5, h6, h7⟩
            · simp [ckS] at h
          · simp [ckS] at h
        · simp [ckS] at h
      all_goals simp [ckS] at h
    all_goals simp [ckS] at h
  all_goals simp [ckS] at h
theorem ckTryRow_of {ct : Ct} {c : Str} {i : Nat} {body : Ss} {st : Stmt} (h : ckS g ct (.tryRow i body c) st = true) : ∃ b p y p1 p2 p3 p4 p5 pos, st = .Try b [.ExceptHandler (some (.Name c p)) (some y) [.Return (some (.List [.Attribute (.Name y p1) "row" p2] p3)) p4] p5] [] [] pos ∧ isGl ct.sc c = true ∧ noDbg c = true ∧ c ∈ g.excs ∧ c ∈ g.rows ∧ ct.N[i]? = some y ∧ ct.sc.names.lookup y = some .local ∧ noDbg y = true ∧ ckSs g ct body b = true := by
  simp only [ckS] at h
  cases e : rowTry st with
  | none => rw [e] at h; cases h
  | some t =>
    obtain ⟨b, x, y, z, f⟩ := t
    rw [e] at h
    obtain ⟨p, p1, p2, p3, p4, p5, pos, rfl⟩ := rowTry_of e
    simp only [Bool.and_eq_true] at h
    obtain ⟨⟨⟨⟨⟨⟨⟨⟨⟨⟨h1, h2⟩, h3⟩, h4⟩, h5⟩, h6⟩, h7⟩, h8⟩, h9⟩, h10⟩, h11⟩ := h
    have := of_decide_eq_true h1
    subst this
    have := of_decide_eq_true h6
    subst this
    have := of_decide_eq_true h7
    subst this
    exact ⟨_, _, _, _, _, _, _, _, _, rfl, h2, h3, List.contains_iff_mem.mp h4, List.contains_iff_mem.mp h5, of_decide_eq_true h8, of_decide_eq_true h9, h10, h11⟩
/-- what a look at a clause tells -/
theorem ckHs_cons {ct : Ct} {c : Str} {b : Ss} {hs : Hs} {hds : List ExceptHandler} (h : ckHs g ct (.cons c b hs) hds = true) : ∃ p0 y ys p1 hds', hds = .ExceptHandler (some (.Name c p0)) none (y :: ys) p1 :: hds' ∧ isGl ct.sc c = true ∧ noDbg c = true ∧ c ∈ g.excs ∧ ckSs g { ct with cal := false } b (y :: ys) = true ∧ ckHs g ct hs hds' = true := by
  rcases hds with _ | ⟨⟨ty, nm, bd, p1⟩, hds'⟩
  · simp [ckHs] at h
  · rcases ty with _ | ty
    · simp [ckHs] at h
    · cases ty
      case Name x p0 =>
        rcases nm with _ | nm
        · rcases bd with _ | ⟨y, ys⟩
          · simp [ckHs] at h
          · simp only [ckHs, Bool.and_eq_true] at h
            obtain ⟨⟨⟨⟨⟨h1, h2⟩, h3⟩, h4⟩, h5⟩, h6⟩ := h
            have := of_decide_eq_true h1
            subst this
            exact ⟨p0, y, ys, p1, hds', rfl, h2, h3, List.contains_iff_mem.mp h4, h5, h6⟩
        · simp [ckHs] at h
      all_goals simp [ckHs] at h
theorem ckHs_in {ct : Ct} : ∀ {hs : Hs} {hds : List ExceptHandler}, ckHs g ct hs hds = true → hsIn g.excs hs
  | .nil, _, _ => trivial
  | .cons c b hs, hds, h => by
    obtain ⟨_, _, _, _, _, _, _, _, h4, _, h6⟩ := ckHs_cons h
    exact ⟨h4, ckHs_in h6⟩
theorem sub_at {o i : Expr} {p : Pos} {env : PySem.Env} (h : okHead i = true) (v : Value) : assign (.Subscript o i p) env v = (do
      let ov ← holding [v] (eval o env)
      let iv ← holding [v, ov] (eval i env)
      standAt p
      holding [v, ov, iv] (setItem ov iv v)
      release [v, ov, iv] []) := by
  cases i <;> first | rfl | (exact absurd h (by simp [okHead]))
theorem ckInt_of {i : Int} {e : Expr} (h : ckInt i e = true) : ∃ j p, e = .Constant (.int i) j p := by
  unfold ckInt at h
  split at h
  · have := of_decide_eq_true h
    subst this
    exact ⟨_, _, rfl⟩
  · cases h
theorem swapped_par {y z : Str} {py pz p p2 : Pos} {k k2 : Nat} {v w : Expr} {env : PySem.Env} (hk : env.scope.kind = .function) (hy : env.scope.names.lookup y = some .local) (hz : env.scope.names.lookup z = some .local) (h1 : okHead v = true) (h2 : okHead w = true) (h : parOk y z py pz v w = true) :
    swappedStores [.Tuple [.Name y py, .Name z pz] k p] (.Tuple [v, w] k2 p2) env = pure (some [y, z]) := by
  unfold parOk at h
  simp only [Bool.and_eq_true, Bool.not_eq_true'] at h
  obtain ⟨⟨⟨a1, a2⟩, a3⟩, a4⟩ := h
  have hb : env.blockKind = .function := by unfold Env.blockKind; rw [hk]; rfl
  have ky : env.kindOf y = some .local := hy
  have kz : env.kindOf z = some .local := hz
  have e3 : ([v, w].all (foldedForSure 8)) = false := by simpa using a3
  have e4 : ([v, w].all (constantsAlone 8)) = false := by simpa using a4
  have hne : ¬ z = y := fun e => by subst e; simp at a1
  have hs : ([v, w].any fun | .Starred .. => true | _ => false) = false := by
    cases v <;> first | (cases w <;> first | rfl | (simp [okHead] at h2; done)) | (simp [okHead] at h1; done)
  have ef : ([Expr.Name y py, Expr.Name z pz].filterMap fun
    | .Name id pos => if env.kindOf id == some .local && pos.line == (([Expr.Name y py, Expr.Name z pz].head?.map (·.pos.line)).getD 0) then some id else none
    | _ => none) = [y, z] := by
    simp only [List.filterMap_cons, ky, kz]
    have : (pz.line == (([Expr.Name y py, Expr.Name z pz].head?.map (·.pos.line)).getD 0)) = true := a2
    rw [this]
    have : (py.line == (([Expr.Name y py, Expr.Name z pz].head?.map (·.pos.line)).getD 0)) = true := by
      show (py.line == py.line) = true
      simp
    rw [this]
    simp
  have ed : [y, z].eraseDups = [y, z] := by simp [List.eraseDups_cons, hne]
  have key : ∀ (b1 b2 : Bool) (F : List Str), b1 = false → b2 = false → F = [y, z] → (if b1 = true then pure none else if b2 = true then pure none else if (F.length != [Expr.Name y py, Expr.Name z pz].length || F.eraseDups.length != F.length) = true then pure none else if [v, w].all (foldedForSure 8) = true then pure none else if [v, w].all (constantsAlone 8) = true then (unsupported "assign.tuple-of-constant-expressions:order-of-the-stores" >>= fun (_ : PUnit) => pure (some F)) else pure (some F) : Sem (Option (List Str))) = pure (some [y, z]) := by
    intro b1 b2 F h1 h2 h3
    subst h1 h2 h3
    rw [ed, e3, e4]
    rfl
  exact key _ _ _ (by rw [hb]; rfl) hs ef
mutual
theorem soundS : ∀ (s : S) (st : Stmt) {X : Cx} {ct : Ct} {W : WX}, GoodS X g ct n C W → ckS g ct s st = true → PS X st (tS X.K W X.N.length (exS C g.excs s))
  | .asg (.nm i) e, st, X, ct, W, G, h => by
    cases st
    case Assign ts v pos =>
      rcases ts with _ | ⟨t, _ | ⟨t2, ts⟩⟩
      · simp [ckS] at h
      · cases t
        case Name y py =>
          simp only [ckS, Bool.and_eq_true] at h
          refine sim_asg (asg_nm G.toGood G.kind h.1.1.1 h.1.1.2 h.1.2 h.2) ?_
          rw [G.N]
          exact ckName_lt h.1.1.1
        all_goals simp [ckS] at h
      · cases t <;> simp [ckS] at h
    all_goals simp [ckS] at h
  | .asg (.tup is) e, st, X, ct, W, G, h => by
    cases st
    case Assign ts v pos =>
      rcases ts with _ | ⟨t, _ | ⟨t2, ts⟩⟩
      · simp [ckS] at h
      · cases t
        case Tuple es k p =>
          simp only [ckS, Bool.and_eq_true] at h
          obtain ⟨⟨⟨h1, h2⟩, h3⟩, h4⟩ := h
          have pl := plain_lc h3
          refine sim_asg (ps_asg (soundE e v G.toGood h4).1 (G.tg h1) (by rw [swSole]; exact swNo h2 pl.1) ?_ rfl) ?_
          · cases v with
            | Tuple a b c => exact absurd pl.2 (by simp [isTup])
            | _ => first | rfl | (exact absurd h2 (by simp [okHead]))
          · rw [G.N]
            exact ckTg_in h1
        all_goals simp [ckS] at h
      · cases t <;> simp [ckS] at h
    all_goals simp [ckS] at h
  | .par i j a b, st, X, ct, W, G, h => by
    cases st
    case Assign ts v pos =>
      match ts, v, h with
      | [.Tuple [.Name y py, .Name z pz] k p], .Tuple [v, w] k2 p2, h =>
        simp only [ckS, Bool.and_eq_true] at h
        obtain ⟨⟨⟨⟨⟨⟨⟨⟨h1, h2⟩, h3⟩, h4⟩, h5⟩, h6⟩, h7⟩, h8⟩, h9⟩ := h
        have a2 := Bool.and_eq_true_iff.mp (show (decide (ct.N[i]? = some y) && decide (ct.sc.names.lookup y = some .local)) = true from h2)
        have a3 := Bool.and_eq_true_iff.mp (show (decide (ct.N[j]? = some z) && decide (ct.sc.names.lookup z = some .local)) = true from h3)
        have n2 : X.N[i]? = some y := by rw [G.N]; exact of_decide_eq_true a2.1
        have n3 : X.N[j]? = some z := by rw [G.N]; exact of_decide_eq_true a3.1
        have l2 : X.env.scope.names.lookup y = some .local := by rw [G.sc]; exact of_decide_eq_true a2.2
        have l3 : X.env.scope.names.lookup z = some .local := by rw [G.sc]; exact of_decide_eq_true a3.2
        exact sim_par (a := v) (b := w) (ps_par (G.calm h1) G.nd n2 n3 (of_decide_eq_true h4) l2 l3 (pa_cons (soundE a v G.toGood h7).1 (pa_cons (soundE b w G.toGood h9).1 pa_nil (head_star h8 [] X.env)) (head_star h6 [w] X.env)) (swapped_par G.kind l2 l3 h6 h8 h5) rfl) (List.getElem?_eq_some_iff.mp n2).1 (List.getElem?_eq_some_iff.mp n3).1
    all_goals simp [ckS] at h
  | .fset c o f k e, st, X, ct, W, G, h => by
    cases st
    case Assign ts v pos =>
      rcases ts with _ | ⟨t, _ | ⟨t2, ts⟩⟩
      · simp [ckS] at h
      · cases t
        case Attribute ob x p =>
          simp only [ckS, Bool.and_eq_true] at h
          obtain ⟨⟨⟨⟨⟨h1, h2⟩, h3⟩, h4⟩, h5⟩, h6⟩ := h
          have := of_decide_eq_true h1
          subst this
          refine sim_fset (soundE e v G.toGood h4).1 (soundE o ob G.toGood h6).1 (G.flds _ (List.contains_iff_mem.mp h2)) ?_
          cases v <;> first | rfl | (exact absurd h3 (by simp [okHead]))
        all_goals simp [ckS] at h
      · cases t <;> simp [ckS] at h
    all_goals simp [ckS] at h
  | .faug c o f k i, st, X, ct, W, G, h => by
    cases st
    case AugAssign tg op v pos =>
      cases tg
      case Attribute ob x p =>
        simp only [ckS, Bool.and_eq_true] at h
        obtain ⟨⟨⟨⟨⟨h1, h2⟩, h3⟩, h4⟩, h5⟩, h6⟩ := h
        have := of_decide_eq_true h1
        subst this
        have := of_decide_eq_true h2
        subst this
        obtain ⟨j, p1, rfl⟩ := ckInt_of h4
        exact sim_faug (soundE o ob G.toGood h6).1 (G.flds _ (List.contains_iff_mem.mp h3))
      all_goals simp [ckS] at h
    all_goals simp [ckS] at h
  | .sset o i e, st, X, ct, W, G, h => by
    cases st
    case Assign ts v pos =>
      rcases ts with _ | ⟨t, _ | ⟨t2, ts⟩⟩
      · simp [ckS] at h
      · cases t
        case Subscript a b p =>
          simp only [ckS, Bool.and_eq_true] at h
          obtain ⟨⟨⟨⟨⟨h1, h2⟩, h3⟩, h4⟩, h5⟩, h6⟩ := h
          refine sim_sset G.units (soundE e v G.toGood h2).1 (soundE o a G.toGood h4).1 (soundE i b G.toGood h6).1 (head_ix h5) ?_ (sub_at h5)
          rw [swSole]
          cases v <;> first | rfl | (exact absurd h1 (by simp [okHead]))
        all_goals simp [ckS] at h
      · cases t <;> simp [ckS] at h
    all_goals simp [ckS] at h
  | .expr e, st, X, ct, W, G, h => by
    cases st
    case Expr v pos =>
      simp only [ckS, Bool.and_eq_true] at h
      exact sim_expr (soundE e v G.toGood h.2).1 (swNo h.1.1 (plain_lc h.1.2).1)
    all_goals simp [ckS] at h
  | .ret e, st, X, ct, W, G, h => by
    cases st
    case Return v pos =>
      cases v with
      | none => simp [ckS] at h
      | some v =>
        simp only [ckS, Bool.and_eq_true] at h
        exact sim_ret (soundE e v G.toGood h.2).1
    all_goals simp [ckS] at h
  | .retN, st, X, ct, W, G, h => by
    cases st
    case Return v pos =>
      cases v with
      | none =>
        refine PS.impL ps_retN fun D σ H q => ?_
        obtain ⟨hl, ρ, env, st, rE, rS, p⟩ := q
        exact p ρ .non H (.refl _ _) rS .non
      | some v => simp [ckS] at h
    all_goals simp [ckS] at h
  | .iff c a b, st, X, ct, W, G, h => by
    cases st
    case If t x y pos =>
      simp only [ckS, Bool.and_eq_true] at h
      obtain ⟨⟨⟨⟨h1, h2⟩, h3⟩, h4⟩, h5⟩ := h
      exact sim_if ((soundE c t G.toGood h3).2 h2) (soundSs a x G h4) (soundSs b y G h5)
    all_goals simp [ckS] at h
  | .forS tg it body, st, X, ct, W, G, h => by
    cases st
    case For t x b oe pos =>
      cases oe with
      | nil =>
        simp only [ckS, Bool.and_eq_true] at h
        obtain ⟨⟨⟨⟨h0, h1⟩, h2⟩, h3⟩, h4⟩ := h
        have hi := soundI it x (tg := t) h0 G.toGood h3
        refine sim_for G.own (G.calm h1) hi.1 (G.tg h2) (soundSs body b G h4) hi.2 ?_
        rw [G.N]
        exact ckTg_in h2
      | cons _ _ => simp [ckS] at h
    all_goals simp [ckS] at h
  | .pass, st, X, ct, W, G, h => by
    cases st
    case Pass pos => exact sim_pass
    all_goals simp [ckS] at h
  | .raiseS c m, st, X, ct, W, G, h => by
    cases st
    case Raise ex cause pos =>
      simp only [ckS, Bool.and_eq_true, Bool.not_eq_true'] at h
      obtain ⟨h0, h⟩ := h
      unfold ckRaise at h
      split at h
      · obtain ⟨p, j, p2, pos2, rfl, h1, h4, h5, h6⟩ := ckMade_of h
        exact sim_raise (G.calm h1) G.takes ((G.exc c h6).2 h0 X rfl rfl (G.gl h4) (dbg1 h5).1 m j p p2 _)
      · cases h
    all_goals simp [ckS] at h
  | .raiseR c a, st, X, ct, W, G, h => by
    obtain ⟨p, e, pos2, pos, rfl, h1, h2, h3, h4, h5, h6⟩ := ckRaiseR_of h
    exact sim_raiseG G (G.calm h1) (G.room h1) h4 (G.gl h2) (dbg1 h3).1 (soundE a e G.toGood h6).1 (head_star h5 _ _)
  | .never, st, X, ct, W, G, h => by
    refine ⟨fun pins s σ H D I q => ?_⟩
    obtain ⟨hl, ρ, env, st', rE, rS, p⟩ := q
    exact p.elim
  | .tryRow i body c, st, X, ct, W, G, h => by
    obtain ⟨b, p, y, p1, p2, p3, p4, p5, pos, rfl, h1, h2, h3, h4, h5, h6, h7, h8⟩ := ckTryRow_of h
    have hr := G.rowx c h4
    refine sim_tryRow G h3 (G.gl h1) (dbg1 h2).1 (by rw [G.N]; exact h5) ?_ ?_ (dbg1 h7).1 (dbg1 h7).2.1 hr.xf hr.hno (fun W' pn xe tk po => soundSs body b (G.tr pn xe tk po) h8)
    · show X.env.scope.names.lookup y = some .local
      rw [G.sc]
      exact h6
    · left
      rw [G.sc]
      exact h6
  | .tryS body hs, st, X, ct, W, G, h => by
    cases st
    case Try b hds oe fb pos =>
      rcases hds with _ | ⟨h0, hds⟩
      · simp [ckS] at h
      · rcases oe with _ | ⟨o1, oe⟩
        · rcases fb with _ | ⟨f1, fb⟩
          · simp only [ckS, Bool.and_eq_true] at h
            obtain ⟨⟨h1, h2⟩, h3⟩ := h
            exact sim_try G rfl (ckHs_in h3) (fun W' pn xe tk po => soundSs body b (G.tr pn xe tk po) h2) (soundHs hs (h0 :: hds) G h3)
          · simp [ckS] at h
        · simp [ckS] at h
    all_goals simp [ckS] at h
theorem soundSs : ∀ (ss : Ss) (sts : List Stmt) {X : Cx} {ct : Ct} {W : WX}, GoodS X g ct n C W → ckSs g ct ss sts = true → PSs X sts (tS X.K W X.N.length (exSs C g.excs ss))
  | .nil, [], X, ct, W, G, h => sim_ssNil
  | .cons s ss, x :: xs, X, ct, W, G, h => by
    simp only [ckSs, Bool.and_eq_true] at h
    exact sim_ssCons (soundS s x G h.1) (soundSs ss xs G h.2)
  | .two s t ss, x :: y :: xs, X, ct, W, G, h => by
    simp only [ckSs, Bool.and_eq_true] at h
    exact sim_ssTwo (soundS s x G h.1.1) (soundS t y G h.1.2) (soundSs ss xs G h.2)
  | .nil, _ :: _, X, ct, W, G, h => by simp [ckSs] at h
  | .cons _ _, [], X, ct, W, G, h => by simp [ckSs] at h
  | .two _ _ _, [], X, ct, W, G, h => by simp [ckSs] at h
  | .two _ _ _, [_], X, ct, W, G, h => by simp [ckSs] at h
theorem soundHs : ∀ (hs : Hs) (hds : List ExceptHandler) {X : Cx} {ct : Ct} {W : WX}, GoodS X g ct n C W → ckHs g ct hs hds = true → HdsOk X hds (hsT X.K X.N.length C g.excs hs)
  | .nil, [], X, ct, W, G, h => .nil
  | .nil, _ :: _, X, ct, W, G, h => by simp [ckHs] at h
  | .cons c b hs, hds, X, ct, W, G, h => by
    obtain ⟨p0, y, ys, p1, hds', rfl, h2, h3, h4, h5, h6⟩ := ckHs_cons h
    exact .cons ⟨G.gl h2, (dbg1 h3).1, .inl (G.exc c h4).1⟩ (fun a oe cls d pn hz hd => soundSs b (y :: ys) (G.suite a ((a, oe) :: pn)) h5) (soundHs hs hds' G h6)
end
end
end Rc
/-! Rc12: how arguments bind, whatever the count of parameters. -/
namespace Rc
open PySem L2
theorem zip_lookup {α : Type} : ∀ {ps : List Str} {us : List α} {x : Str}, us.length = ps.length → x ∈ ps → ∃ u, (ps.zip us).lookup x = some u
  | [], _, _, _, h => by simp at h
  | p :: ps, [], _, e, _ => by simp at e
  | p :: ps, u :: us, x, e, h => by
    rw [List.zip_cons_cons, List.lookup_cons]
    by_cases hx : x = p
    · subst hx; simp
    · have : (x == p) = false := by simpa using hx
      rw [this]
      exact zip_lookup (by simpa using e) (by simpa [hx] using h)
theorem mem_of_lookup {α : Type} {x : Str} {u : α} : ∀ {l : List (Str × α)}, l.lookup x = some u → (x, u) ∈ l
  | [], h => by simp at h
  | (y, v) :: l, h => by
    rw [List.lookup_cons] at h
    by_cases hx : x = y
    · subst hx
      simp at h
      subst h
      simp
    · have : (x == y) = false := by simpa using hx
      rw [this] at h
      exact List.mem_cons_of_mem _ (mem_of_lookup h)
theorem fm_congr {α β : Type} {f h : α → Option β} : ∀ (l : List α), (∀ x ∈ l, f x = h x) → l.filterMap f = l.filterMap h
  | [], _ => rfl
  | a :: l, e => by
    rw [List.filterMap_cons, List.filterMap_cons, e a (by simp), fm_congr l fun x hx => e x (by simp [hx])]
theorem zip_filterMap {α : Type} : ∀ (ps : List Str) (us : List α), ps.Nodup → us.length = ps.length → ps.filterMap (fun n => ((ps.zip us).lookup n).map (n, ·)) = ps.zip us
  | [], _, _, _ => by simp
  | p :: ps, [], _, e => by simp at e
  | p :: ps, u :: us, nd, e => by
    have nd' := List.nodup_cons.mp nd
    rw [List.zip_cons_cons, List.filterMap_cons]
    have h0 : (((p, u) :: ps.zip us).lookup p) = some u := by rw [List.lookup_cons]; simp
    rw [h0]
    show (p, u) :: _ = _
    congr 1
    refine Eq.trans (fm_congr ps fun x hx => ?_) (zip_filterMap ps us nd'.2 (by simpa using e))
    have : (x == p) = false := by
      have : x ≠ p := fun z => nd'.1 (z ▸ hx)
      simpa using this
    rw [List.lookup_cons, this]
/-- plain parameters alone -/
structure PlainPs (a : Arguments) (ps : List Str) : Prop where
  po : a.posonlyargs = []
  va : a.vararg = none
  kw : a.kwonlyargs = []
  kwa : a.kwarg = none
  ar : a.args.map (·.arg) = ps
theorem bind_gen {x qual : Str} {params : Arguments} {body : List Stmt} {scope : Scope} {ps : List Str} (pl : PlainPs params ps) (nd : ps.Nodup) (kV doc pm : Value) (an : Option Addr) (cdv ct : Value) (us : List Value) (hl : us.length = ps.length) :
    bindArgs (PySem.W.fnOf x qual params body scope .none kV doc pm an cdv ct) ⟨us, []⟩ = pure (ps.zip us) := by
  have h1 : (ps.take (ps.length - 0)).filter (fun n => ((ps.zip us).lookup n).isNone) = [] := by
    rw [Nat.sub_zero, List.take_length, List.filter_eq_nil_iff]
    intro y hy
    obtain ⟨u, e⟩ := zip_lookup hl hy
    rw [e]; simp
  have h2 := zip_filterMap ps us nd hl
  have hd : seqItems? Value.none = pure none := rfl
  unfold bindArgs
  simp only [PySem.W.fnOf, pl.po, pl.va, pl.kw, pl.kwa, pl.ar, List.map_nil, List.nil_append, List.append_nil, hl]
  simp [hd, h1, h2]
  intro y hy hno
  obtain ⟨u, e⟩ := zip_lookup hl hy
  exact absurd (mem_of_lookup e) (hno u)

/-! ### the defs of a text -/
/-- a def's text: its name, its class if it is a method, its parameters, all its names by slot, the model's own text -/
structure Tx where
  nm : Str
  qual : Str
  cls : Option Str
  ps : List Str
  N : List Str
  args : Arguments
  body : List Stmt
  sc : Scope
def atOf (t : Tx) : Str × Option Str := match t.cls with
  | none => (t.nm, none)
  | some c => (c, some t.nm)
def plainB (a : Arguments) (ps : List Str) : Bool := a.posonlyargs.isEmpty && a.vararg.isNone && a.kwonlyargs.isEmpty && a.kwarg.isNone && decide (a.args.map (·.arg) = ps)
theorem plainB_of {a : Arguments} {ps : List Str} (h : plainB a ps = true) : PlainPs a ps := by
  unfold plainB at h
  simp only [Bool.and_eq_true] at h
  obtain ⟨⟨⟨⟨h1, h2⟩, h3⟩, h4⟩, h5⟩ := h
  exact ⟨List.isEmpty_iff.mp h1, Option.isNone_iff_eq_none.mp h2, List.isEmpty_iff.mp h3, Option.isNone_iff_eq_none.mp h4, of_decide_eq_true h5⟩
def isFnKind : ScopeKind → Bool
  | .function => true
  | _ => false
def isFree : NameKind → Bool
  | .free => true
  | _ => false
def locB (sc : Scope) (x : Str) : Bool := match sc.names.lookup x with
  | some .local => true
  | some .cell => true
  | _ => false
def scopeB (N ps : List Str) (sc : Scope) : Bool := isFnKind sc.kind && !sc.isCoroutine && !sc.isGenerator && decide N.Nodup && decide (N.take ps.length = ps) && ps.all (locB sc) && sc.names.all fun y => !isFree y.2
theorem scopeB_of {N ps : List Str} {sc : Scope} (h : scopeB N ps sc = true) : FnScope N ps sc := by
  unfold scopeB at h
  simp only [Bool.and_eq_true] at h
  obtain ⟨⟨⟨⟨⟨⟨h1, h2⟩, h3⟩, h4⟩, h5⟩, h6⟩, h7⟩ := h
  refine ⟨?_, by simpa using h2, by simpa using h3, of_decide_eq_true h4, of_decide_eq_true h5, fun x hx => ?_, fun y hy => ?_⟩
  · cases e : sc.kind <;> rw [e] at h1 <;> first | rfl | cases h1
  · have := List.all_eq_true.mp h6 x hx
    unfold locB at this
    split at this
    · exact .inl (by assumption)
    · exact .inr (by assumption)
    · cases this
  · have := List.all_eq_true.mp h7 y hy
    intro e
    rw [e] at this
    simp [isFree] at this
/-- the names that a def may store -/
def storB (sc : Scope) (stor : List Str) : Bool := stor.all (locB sc)
def ctOf (t : Tx) : Ct := ⟨t.sc, t.N, t.N.filter (locB t.sc), true⟩
/-- does the small language's def say what the text says? -/
def ckDf (g : SigS) (t : Tx) (d : Df) : Bool := plainB t.args t.ps && scopeB t.N t.ps t.sc && decide (d.ps = t.ps.length) && decide (d.ns = t.N.length) && ckSs g (ctOf t) d.body t.body
theorem startEnv_rel {K : PySem.W.Frag} {ρ : Pl} {H : Hp} {args : List Val} {vs : List V} {N : List Str} (q : RepL K ρ H args vs) : RelE K ρ H (startEnv N.length args) (L2.start N vs) := by
  intro i v e
  unfold startEnv at e
  unfold L2.start
  by_cases hi : i < args.length
  · rw [List.getElem?_append_left (by simpa using hi), List.getElem?_map] at e
    obtain ⟨a, ea, eb⟩ := Option.map_eq_some_iff.mp e
    cases eb
    obtain ⟨w, ew, r⟩ := q.get ea
    refine ⟨w, ?_, r⟩
    rw [List.getElem?_append_left (by rw [List.length_map, ← q.length]; exact hi), List.getElem?_map, ew]
    rfl
  · rw [List.getElem?_append_right (by rw [List.length_map]; omega)] at e
    rw [List.getElem?_replicate] at e
    split at e <;> cases e
theorem start_length {N : List Str} {vs : List V} (h : vs.length ≤ N.length) : (L2.start N vs).length = N.length := by
  unfold L2.start
  rw [List.length_append, List.length_map, List.length_replicate]
  omega
/-- what the heap says of an exception that carries a row -/
structure RowM (K : PySem.W.Frag) (mg : Str → Option Value) (c : Str) : Prop where
  T : OexC K (He.ga K c)
  xf : XfC K (He.ga K c)
  hno : PySem.W.findIn K (.ref (He.ga K c)) "row" = some none
  mgC : mg c = some (.ref (He.ga K c))
  iC : PySem.W.findIn K (.ref (He.ga K c)) "__init__" = some (some (.ref (He.ma K (He.ga K c) "__init__")))
  tI : PySem.W.typeIn K (.ref (He.ma K (He.ga K c) "__init__")) = some (.type "function")
  mgB : mg "ClayError" = some (.ref (He.ga K "ClayError"))
  spB : PySem.W.specialIn K (.ref (He.ga K "ClayError")) "__getattribute__" = some (some (.builtin "type.__getattribute__"))
  rdB : PySem.W.readsIn K (He.ga K "ClayError") (.type "type") = true
  vB : PySem.W.findCls K (.ref (He.ga K "ClayError")) (.type "type") "__init__" = some (.val (.builtin "ValueError.__init__"))
/-- the text of its __init__ -/
def initTxB : List Stmt → Bool
  | [.Expr (.Call (.Attribute (.Name b _) i p2) [.Name s _, .Constant (.str _) _ _] [] p5) _, .Assign [.Attribute (.Name s2 _) f _] (.Name r _) _] => decide (b = ("ClayError" : Str)) && decide (i = ("__init__" : Str)) && decide (s = ("self" : Str)) && decide (s2 = ("self" : Str)) && decide (f = ("row" : Str)) && decide (r = ("row" : Str)) && (p2.endLine == p5.line)
  | _ => false
theorem initTxB_of {bd : List Stmt} (h : initTxB bd = true) : ∃ m p1 p2 p3 p4 p5 p6 p7 p8 p9 p10 j, bd = initTx m p1 p2 p3 p4 p5 p6 p7 p8 p9 p10 j ∧ (p2.endLine == p5.line) = true := by
  unfold initTxB at h
  split at h
  · simp only [Bool.and_eq_true] at h
    obtain ⟨⟨⟨⟨⟨⟨h1, h2⟩, h3⟩, h4⟩, h5⟩, h6⟩, h7⟩ := h
    rw [of_decide_eq_true h1, of_decide_eq_true h2, of_decide_eq_true h3, of_decide_eq_true h4, of_decide_eq_true h5, of_decide_eq_true h6]
    exact ⟨_, _, _, _, _, _, _, _, _, _, _, _, rfl, h7⟩
  · cases h
def initB (t : Tx) : Bool := plainB t.args t.ps && scopeB t.N t.ps t.sc && decide (t.ps = [("self" : Str), "row"]) && decide (t.N = [("self" : Str), "row"]) && decide (t.sc.names.lookup ("ClayError" : Str) = some .globalImplicit) && initTxB t.body
def rowsB (g : SigS) (ts : List Tx) : Bool := g.rows.all fun c => (g.clss.lookup c).isNone && ts.any fun t => decide (t.cls = some c) && decide (t.nm = ("__init__" : Str)) && initB t
/-- what is known of the module behind its top: the defs' function objects, constants, names left free, the exceptions, the classes -/
structure ModOk (P : Program) (w : World) (K : PySem.W.Frag) (mg : Str → Option Value) (g : SigS) (ts : List Tx) : Prop where
  frees : ∀ x ∈ g.frees, mg x = none
  globs : ∀ p ∈ g.globs, ∃ u v, mg p.1 = some u ∧ RelV v u ∧ ∀ ρ H, Rep K ρ H (gvVal p.2) v
  defs : ∀ t ∈ ts, ∃ fd, FunD K t.nm t.qual t.args t.body t.sc [] [] (He.fAd K (atOf t)) fd
  glo : ∀ t ∈ ts, t.cls = none → mg t.nm = some (.ref (He.ga K t.nm))
  exm : ∀ c ∈ g.excs, ∀ h ∈ g.excs, PySem.W.exmOne K (.ref (He.ga K c)) (.ref (He.ga K h)) = some (subOf c h)
  rowx : ∀ c ∈ g.rows, RowM K mg c
  exc : ∀ c ∈ g.excs, mg c = some (.ref (He.ga K c)) ∧ (g.rows.contains c = false → ∀ (X' : Cx), X'.K = K → X'.mg = mg → Gl X' c → (c == ("__debug__" : Str)) = false → ∀ (m : Str) (j : Nat) (p p2 pos : Pos), PMk X' (.Call (.Name c p) [.Constant (.str m) j p2] [] pos) (fun _ H Q => Q (.ref (He.ga K c)) none H))
  clss : ∀ p ∈ g.clss, Cls K (He.ga K p.1) ∧ Mk K (He.ga K p.1) (He.ma K (He.ga K p.1) "__init__") ∧ mg p.1 = some (.ref (He.ga K p.1))
  meths : ∀ p ∈ g.meths, Meth K (He.ga K p.1) p.2.1 (He.ma K (He.ga K p.1) p.2.1)
  flds : ∀ p ∈ g.flds, NoAttr K (He.ga K p.1) p.2
  tups : ∀ p ∈ g.tups, ∃ a, mg p.1 = some (.ref a) ∧ ∀ H, SqT K H a (p.2.map V.str)
  insc : ∀ c ∈ g.insc, C8.InsC K (He.ga K c) ∧ mg c = some (.ref (He.ga K c))
  dics : ∀ p ∈ g.dics, ∃ a es n, mg p.1 = some (.ref a) ∧ KDict K w a es n ∧ ∀ z, match p.2.lookup z with
    | some i => ∃ t, PySem.W.nsIn K a z = some (some (.int i t))
    | none => PySem.W.nsIn K a z = some none
/-- all methods, each __init__ among them -/
def allM (g : SigS) : List (Str × Str × Str) := g.meths ++ g.clss.map fun p => (p.1, ("__init__" : Str), p.2)
/-- the small language's program beside the texts: each def named in g has its text and is let by -/
def ckAll (g : SigS) (ts : List Tx) (defs : List (Str × Df)) : Bool := (g.defs.all fun p => (g.clss.lookup p.1).isNone && ts.any fun t => t.cls.isNone && decide (t.nm = p.1) && (match defs.lookup p.1 with
  | some d => ckDf g t d
  | none => false)) && ((allM g).all fun p => (g.clss.lookup p.2.2).isNone && ts.any fun t => decide (t.cls = some p.1) && decide (t.nm = p.2.1) && (match defs.lookup p.2.2 with
  | some d => ckDf g t d
  | none => false)) && decide ((g.clss.map (·.1)).Nodup)
section
variable {P : Program} {w : World} {K : PySem.W.Frag} {mg : Str → Option Value} {base : Heap} {g : SigS} {ts : List Tx} {defs : List (Str × Df)}
theorem ckAll_of (ck : ckAll g ts defs = true) {p : Str × Nat} (hp : p ∈ g.defs) : g.clss.lookup p.1 = none ∧ ∃ t ∈ ts, ∃ d, t.cls = none ∧ t.nm = p.1 ∧ defs.lookup p.1 = some d ∧ ckDf g t d = true := by
  unfold ckAll at ck
  simp only [Bool.and_eq_true] at ck
  have hq := Bool.and_eq_true_iff.mp (List.all_eq_true.mp ck.1.1 p hp)
  obtain ⟨t, ht, hc⟩ := List.any_eq_true.mp hq.2
  rw [Bool.and_eq_true, Bool.and_eq_true] at hc
  cases e : defs.lookup p.1 with
  | none => rw [e] at hc; exact absurd hc.2 (by simp)
  | some d => rw [e] at hc; exact ⟨Option.isNone_iff_eq_none.mp hq.1, t, ht, d, Option.isNone_iff_eq_none.mp hc.1.1, of_decide_eq_true hc.1.2, rfl, hc.2⟩
theorem ckAll_m (ck : ckAll g ts defs = true) {p : Str × Str × Str} (hp : p ∈ allM g) : g.clss.lookup p.2.2 = none ∧ ∃ t ∈ ts, ∃ d, t.cls = some p.1 ∧ t.nm = p.2.1 ∧ defs.lookup p.2.2 = some d ∧ ckDf g t d = true := by
  unfold ckAll at ck
  simp only [Bool.and_eq_true] at ck
  have hq := Bool.and_eq_true_iff.mp (List.all_eq_true.mp ck.1.2 p hp)
  obtain ⟨t, ht, hc⟩ := List.any_eq_true.mp hq.2
  rw [Bool.and_eq_true, Bool.and_eq_true] at hc
  cases e : defs.lookup p.2.2 with
  | none => rw [e] at hc; exact absurd hc.2 (by simp)
  | some d => rw [e] at hc; exact ⟨Option.isNone_iff_eq_none.mp hq.1, t, ht, d, of_decide_eq_true hc.1.1, of_decide_eq_true hc.1.2, rfl, hc.2⟩
theorem lookup_mem {α : Type} : ∀ {l : List (Str × α)}, (l.map (·.1)).Nodup → ∀ {p : Str × α}, p ∈ l → l.lookup p.1 = some p.2
  | [], _, p, h => by simp at h
  | (x, a) :: l, nd, p, h => by
    rw [List.map_cons, List.nodup_cons] at nd
    rw [List.lookup_cons]
    rcases List.mem_cons.mp h with rfl | h
    · simp
    · have hne : p.1 ≠ x := fun e => nd.1 (by rw [← e]; exact List.mem_map.mpr ⟨p, h, rfl⟩)
      have : (p.1 == x) = false := by simpa using hne
      rw [this]
      exact lookup_mem nd.2 h
theorem ckAll_c (ck : ckAll g ts defs = true) {p : Str × Str} (hp : p ∈ g.clss) : g.clss.lookup p.1 = some p.2 := by
  unfold ckAll at ck
  simp only [Bool.and_eq_true] at ck
  exact lookup_mem (of_decide_eq_true ck.2) hp
theorem binds_of {t : Tx} {d : Df} {fa : Addr} {fd : FuncData} (hk : ckDf g t d = true) (F : FunD K t.nm t.qual t.args t.body t.sc [] [] fa fd) : Binds K fd t.ps [] := by
  unfold ckDf at hk
  simp only [Bool.and_eq_true] at hk
  refine F.bindsN (bind_gen (plainB_of hk.1.1.1.1) ?_)
  have S := scopeB_of hk.1.1.1.2
  rw [← S.pre]
  exact S.nd.sublist (List.take_sublist _ _)
theorem rowC_of (M : ModOk P w K mg g ts) (rB : rowsB g ts = true) {n : Nat} {c : Str} (hc : c ∈ g.rows) (X : Cx) (hK : X.K = K) (hm : X.mg = mg) (hP : X.prog = P) (hw : X.w = w) : RowC X c n (callF defs g.clss g.excs n) := by
  subst hK hm hP hw
  obtain ⟨T, xf, hno, mgc, iC, tI, mgB, spB, rdB, vB⟩ := M.rowx c hc
  have h := List.all_eq_true.mp rB c hc
  rw [Bool.and_eq_true] at h
  obtain ⟨h0, h⟩ := h
  obtain ⟨t, ht, h⟩ := List.any_eq_true.mp h
  rw [Bool.and_eq_true, Bool.and_eq_true] at h
  obtain ⟨⟨h1, h2⟩, h3⟩ := h
  unfold initB at h3
  simp only [Bool.and_eq_true] at h3
  obtain ⟨⟨⟨⟨⟨k1, k2⟩, k3⟩, k4⟩, k5⟩, k6⟩ := h3
  have S := scopeB_of k2
  have hp := of_decide_eq_true k3
  have hn := of_decide_eq_true k4
  obtain ⟨m, p1, p2, p3, p4, p5, p6, p7, p8, p9, p10, j, hb, hl⟩ := initTxB_of k6
  obtain ⟨fd, F⟩ := M.defs t ht
  have ea : He.fAd X.K (atOf t) = He.ma X.K (He.ga X.K c) "__init__" := by
    unfold atOf
    rw [of_decide_eq_true h1, of_decide_eq_true h2]
    rfl
  rw [ea] at F
  have bd : Binds X.K fd t.ps [] := by
    refine F.bindsN (bind_gen (plainB_of k1) ?_)
    rw [← S.pre]
    exact S.nd.sublist (List.take_sublist _ _)
  rw [hp] at bd
  rw [hp, hn] at S
  refine ⟨T, xf, hno, mgc, fun e ar st => ?_, _, fd, iC, tI, ok_init F S hl hb (of_decide_eq_true k5) mgB spB rdB vB, bd⟩
  subst e
  show (match g.clss.lookup c with
    | some _ => mkNew c fun _ => stuck
    | none => fun _ => stuck) ar st = _
  rw [Option.isNone_iff_eq_none.mp h0]
  rfl
/-- what the defs keep at a depth -/
structure LevOk (P : Program) (w : World) (K : PySem.W.Frag) (mg : Str → Option Value) (base : Heap) (g : SigS) (defs : List (Str × Df)) (n : Nat) : Prop where
  d : ∀ p ∈ g.defs, ∃ (fa : Addr) (fd : FuncData) (ps : List Str), FnOk P w K mg base (L2.CX P w) (2 * n) fa fd ps (spOf K (callF defs g.clss g.excs n) p.1) ∧ mg p.1 = some (.ref fa) ∧ PySem.W.keepIn K (.ref fa) = true ∧ Binds K fd ps []
  m : ∀ p ∈ allM g, ∃ (fd : FuncData) (ps : List Str), FnOk P w K mg base (L2.CX P w) (2 * n) (He.ma K (He.ga K p.1) p.2.1) fd ps (spOf K (callF defs g.clss g.excs n) p.2.2) ∧ Binds K fd ps []
  c : ∀ p ∈ g.clss, ∃ (fd : FuncData) (ps : List Str) (F : List Val → M Val), FnOk P w K mg base (L2.CX P w) (2 * n) (He.ma K (He.ga K p.1) "__init__") fd ps (spF K F) ∧ Binds K fd ps [] ∧ callF defs g.clss g.excs n p.1 = mkNew p.1 F
/-- a def whose text is let by keeps its promise, if those that it calls keep theirs -/
theorem fnOk_step (M : ModOk P w K mg g ts) (rB : rowsB g ts = true) {n : Nat} {f : Str} {t : Tx} {d : Df} {fa : Addr} {fd : FuncData} (F : FunD K t.nm t.qual t.args t.body t.sc [] [] fa fd) (ei : g.clss.lookup f = none) (e : defs.lookup f = some d) (hk : ckDf g t d = true)
    (ih : LevOk P w K mg base g defs n) :
    FnOk P w K mg base (L2.CX P w) (2 * (n + 1)) fa fd t.ps (spOf K (callF defs g.clss g.excs (n + 1)) f) := by
  unfold ckDf at hk
  simp only [Bool.and_eq_true] at hk
  obtain ⟨⟨⟨⟨k1, k2⟩, k3⟩, k4⟩, k5⟩ := hk
  have S := scopeB_of k2
  have k3 := of_decide_eq_true k3
  have k4 := of_decide_eq_true k4
  have eC : callF defs g.clss g.excs (n + 1) f = runDf (callF defs g.clss g.excs n) g.excs d := by
    show (match g.clss.lookup f with
      | some h => mkNew f (callF defs g.clss g.excs n h)
      | none => match defs.lookup f with
        | some d => runDf (callF defs g.clss g.excs n) g.excs d
        | none => fun _ => stuck) = _
    rw [ei, e]
  have lenOk : ∀ vs H Q E, spOf K (callF defs g.clss g.excs (n + 1)) f vs H Q E → vs.length = t.ps.length := fun vs H Q E h => by
    obtain ⟨ρ, st, ar, rS, q, pp⟩ := h
    rw [eC] at pp
    unfold runDf at pp
    split at pp
    · rename_i hl
      rw [← q.length, hl, k3]
    · exact pp.elim
  show FnOk P w K mg base (L2.CX P w) (2 * n + 1 + 1) fa fd t.ps _
  refine F.ok S lenOk fun cdv A outer s H vs Q E hr h => ?_
  have hlen := lenOk vs H Q E h
  obtain ⟨ρ, st, ar, rS, q, pp⟩ := h
  rw [eC] at pp
  unfold runDf at pp
  split at pp
  · rename_i hl
    have G : GoodS (cxOf (L2.CX P w) P w K mg base t.N t.qual t.sc fa cdv A outer s H E) g (ctOf t) n (callF defs g.clss g.excs n) (fun cls d _ H => E cls d H) := {
      sc := rfl
      N := rfl
      nd := S.nd
      stor := fun x hx => by
        have hx : x ∈ t.N.filter (locB t.sc) := hx
        have := (List.mem_filter.mp hx).2
        unfold locB at this
        split at this
        · exact ⟨.inl (by assumption), .inl rfl⟩
        · exact ⟨.inr (by assumption), .inl rfl⟩
        · cases this
      calm := fun _ => rfl
      room := fun _ => hr
      units := Nat.lt_of_le_of_lt (Nat.add_le_add_left (show 100 ≤ 16 * (2 * n + 1) + 200 by omega) _) (by have := hr.un; rw [Nat.add_assoc] at this; exact this)
      takes := takes_of rfl rfl rfl rfl
      fr := ⟨_, _, _, rfl, rfl, rfl, Takes.l (W := fun cls d _ H => E cls d H) (takes_of rfl rfl rfl rfl)⟩
      frees := M.frees
      globs := M.globs
      defs := ih.d
      clss := fun p hp => by
        obtain ⟨fd, ps, F, h1, h2, h3⟩ := ih.c p hp
        obtain ⟨m1, m2, m3⟩ := M.clss p hp
        exact ⟨_, fd, ps, F, m1, m2, h1, m3, h2, h3⟩
      meths := fun p hp => by
        obtain ⟨fd, ps, h1, h2⟩ := ih.m p (List.mem_append_left _ hp)
        exact ⟨_, fd, ps, M.meths p hp, h1, h2⟩
      flds := M.flds
      tups := M.tups
      dics := M.dics
      insc := M.insc
      kind := S.kind
      own := passes_of rfl
      stk := rfl
      frm := rfl
      exm := M.exm
      rowx := fun c hc => rowC_of M rB hc _ rfl rfl rfl rfl
      exc := M.exc }
    refine ⟨_, soundSs d.body t.body G k5, ?_⟩
    have hN : vs.length ≤ t.N.length := by
      rw [hlen]
      have := congrArg List.length S.pre
      rw [List.length_take] at this
      omega
    refine ⟨start_length hN, ρ, startEnv t.N.length ar, st, startEnv_rel q, rS, ?_⟩
    rw [k4] at pp
    cases eR : exSs (callF defs g.clss g.excs n) g.excs d.body (startEnv t.N.length ar) st with
    | ok f st' =>
      rw [eR] at pp
      cases f with
      | nx env' => exact fun ρ' σ' H' x s _ _ => pp ρ' .non H' x s .non
      | rt v => exact pp
    | exc c row env' st' =>
      rw [eR] at pp
      exact fun ρ' d σ' H' x s _ _ z => pp ρ' d H' x s z
    | stuck => rw [eR] at pp; exact pp
  · exact pp.elim
theorem stuckOk {fa : Addr} {fd : FuncData} {ps : List Str} {k : Nat} {F : List Val → M Val} (h : ∀ ar st, F ar st = .stuck) : FnOk P w K mg base (L2.CX P w) k fa fd ps (spF K F) := by
  refine ⟨fun vs H Q E q => ?_, fun A outer s H args us vs Q E hr e0 hb r q => ?_⟩
  · obtain ⟨ρ, st, ar, rS, _, p⟩ := q
    rw [h] at p
    exact p.elim
  · obtain ⟨ρ, st, ar, rS, _, p⟩ := q
    rw [h] at p
    exact p.elim
theorem levOk (M : ModOk P w K mg g ts) (rB : rowsB g ts = true) (ck : ckAll g ts defs = true) : ∀ (n : Nat), LevOk P w K mg base g defs n
  | 0 => by
    have e0 : ∀ f, g.clss.lookup f = none → ∀ ar st, callF defs g.clss g.excs 0 f ar st = .stuck := fun f hf ar st => by
      show (match g.clss.lookup f with
        | some _ => mkNew f fun _ => stuck
        | none => fun _ => stuck) ar st = _
      rw [hf]
      rfl
    refine ⟨fun p hp => ?_, fun p hp => ?_, fun p hp => ?_⟩
    · obtain ⟨hi, t, ht, d, hc, en, e, hk⟩ := ckAll_of ck hp
      obtain ⟨fd, F⟩ := M.defs t ht
      have hm := M.glo t ht hc
      rw [en] at hm
      have ea : He.fAd K (atOf t) = He.ga K p.1 := by
        unfold atOf
        rw [hc, en]
        rfl
      rw [ea] at F
      exact ⟨_, fd, t.ps, stuckOk (e0 _ hi), hm, F.kp, binds_of hk F⟩
    · obtain ⟨hi, t, ht, d, hc, en, e, hk⟩ := ckAll_m ck hp
      obtain ⟨fd, F⟩ := M.defs t ht
      exact ⟨fd, t.ps, stuckOk (e0 _ hi), binds_of hk F⟩
    · have hpm : (p.1, ("__init__" : Str), p.2) ∈ allM g := List.mem_append_right _ (List.mem_map.mpr ⟨p, hp, rfl⟩)
      obtain ⟨hi, t, ht, d, hc, en, e, hk⟩ := ckAll_m ck hpm
      obtain ⟨fd, F⟩ := M.defs t ht
      refine ⟨fd, t.ps, fun _ => stuck, stuckOk fun _ _ => rfl, binds_of hk F, ?_⟩
      show (match g.clss.lookup p.1 with
        | some _ => mkNew p.1 fun _ => stuck
        | none => fun _ => stuck) = _
      rw [ckAll_c ck hp]
  | n + 1 => by
    have ih := levOk M rB ck n
    have mm : ∀ p ∈ allM g, ∃ (fd : FuncData) (ps : List Str), FnOk P w K mg base (L2.CX P w) (2 * (n + 1)) (He.ma K (He.ga K p.1) p.2.1) fd ps (spOf K (callF defs g.clss g.excs (n + 1)) p.2.2) ∧ Binds K fd ps [] := fun p hp => by
      obtain ⟨hi, t, ht, d, hc, en, e, hk⟩ := ckAll_m ck hp
      obtain ⟨fd, F⟩ := M.defs t ht
      have ea : He.fAd K (atOf t) = He.ma K (He.ga K p.1) p.2.1 := by
        unfold atOf
        rw [hc, en]
        rfl
      rw [ea] at F
      exact ⟨fd, t.ps, fnOk_step M rB F hi e hk ih, binds_of hk F⟩
    refine ⟨fun p hp => ?_, mm, fun p hp => ?_⟩
    · obtain ⟨hi, t, ht, d, hc, en, e, hk⟩ := ckAll_of ck hp
      obtain ⟨fd, F⟩ := M.defs t ht
      have hm := M.glo t ht hc
      rw [en] at hm
      have ea : He.fAd K (atOf t) = He.ga K p.1 := by
        unfold atOf
        rw [hc, en]
        rfl
      rw [ea] at F
      exact ⟨_, fd, t.ps, fnOk_step M rB F hi e hk ih, hm, F.kp, binds_of hk F⟩
    · have hpm : (p.1, ("__init__" : Str), p.2) ∈ allM g := List.mem_append_right _ (List.mem_map.mpr ⟨p, hp, rfl⟩)
      obtain ⟨fd, ps, h1, h2⟩ := ih.m _ hpm
      refine ⟨fd, ps, callF defs g.clss g.excs n p.2, h1.mono (by omega), h2, ?_⟩
      show (match g.clss.lookup p.1 with
        | some h => mkNew p.1 (callF defs g.clss g.excs n h)
        | none => match defs.lookup p.1 with
          | some d => runDf (callF defs g.clss g.excs n) g.excs d
          | none => fun _ => stuck) = _
      rw [ckAll_c ck hp]
end
/-- both looks -/
def ckAllR (g : SigS) (ts : List Tx) (defs : List (Str × Df)) : Bool := ckAll g ts defs && rowsB g ts
/-- the facts of a class that isinstance asks for -/
def insB (K : PySem.W.Frag) (c : Str) : Bool := (He.Fa.glo c).ok K && ((He.Fa.cls c).ok K && (He.eqO (PySem.W.findIn K (.ref (He.ga K c)) "__class__") (some (some (.builtin "object.__class__"))) && (He.eqO (PySem.W.specialIn K (.builtin "object.__class__") "__get__") (some (some (.builtin "getset_descriptor.__get__"))) && (decide (PySem.W.takesIn K (.builtin "object.__class__") = some true) && (decide (PySem.W.mroIn K (He.ga K c) (.type "object") = some true) && decide (PySem.W.kitOne K (.ref (He.ga K c)) (.ref (He.ga K c)) = some true))))))
theorem insB_of {K : PySem.W.Frag} {h : Heap} {mg : Str → Option Value} {c : Str} (X : K.In h) (G : h.Ns mainGlobals mg) (e : insB K c = true) : C8.InsC K (He.ga K c) ∧ mg c = some (.ref (He.ga K c)) := by
  unfold insB at e
  rw [Bool.and_eq_true, Bool.and_eq_true, Bool.and_eq_true, Bool.and_eq_true, Bool.and_eq_true, Bool.and_eq_true] at e
  obtain ⟨h1, h2, h3, h4, h5, h6, h7⟩ := e
  exact ⟨⟨He.cls_ok h2, He.eqO_ok h3, He.eqO_ok h4, of_decide_eq_true h5, of_decide_eq_true h6, of_decide_eq_true h7⟩, He.glo_ok X G h1⟩
/-- the facts of an exception that carries a row, looked up -/
def rowFa (K : PySem.W.Frag) (c : Str) : Bool := (He.Fa.glo c).ok K && (L2.oexB K (He.ga K c) && (L2.xfB K (He.ga K c) && (He.eqO (PySem.W.findIn K (.ref (He.ga K c)) "row") (some none) && (He.eqO (PySem.W.findIn K (.ref (He.ga K c)) "__init__") (some (some (.ref (He.ma K (He.ga K c) "__init__")))) && (decide (PySem.W.typeIn K (.ref (He.ma K (He.ga K c) "__init__")) = some (.type "function")) && ((He.Fa.glo "ClayError").ok K && (He.eqO (PySem.W.specialIn K (.ref (He.ga K "ClayError")) "__getattribute__") (some (some (.builtin "type.__getattribute__"))) && (PySem.W.readsIn K (He.ga K "ClayError") (.type "type") && (match PySem.W.findCls K (.ref (He.ga K "ClayError")) (.type "type") "__init__" with
  | some (.val (.builtin b)) => decide (b = "ValueError.__init__")
  | _ => false)))))))))
theorem rowFa_of {K : PySem.W.Frag} {h : Heap} {mg : Str → Option Value} {c : Str} (X : K.In h) (G : h.Ns mainGlobals mg) (e : rowFa K c = true) : RowM K mg c := by
  unfold rowFa at e
  rw [Bool.and_eq_true, Bool.and_eq_true, Bool.and_eq_true, Bool.and_eq_true, Bool.and_eq_true, Bool.and_eq_true, Bool.and_eq_true, Bool.and_eq_true, Bool.and_eq_true] at e
  obtain ⟨h1, h2, h3, h4, h5, h6, h7, h8, h9, h10⟩ := e
  refine ⟨L2.oexB_ok h2, L2.xfB_ok h3, He.eqO_ok h4, He.glo_ok X G h1, He.eqO_ok h5, of_decide_eq_true h6, He.glo_ok X G h7, He.eqO_ok h8, h9, ?_⟩
  split at h10
  · rename_i b hb
    rw [hb, of_decide_eq_true h10]
  · cases h10
end Rc
/-! Rc13: from the head's facts to the law. -/
namespace Rc
open PySem L2
def gvFa (p : Str × Gv) : List He.Fa := match p.2 with
  | .int i => [.int p.1 i]
  | .str s => [.str p.1 s]
  | .tups _ => []
def gvPlain : Gv → Bool
  | .tups _ => false
  | _ => true
/-- the facts that are asked of the head -/
def faOf (g : SigS) (ts : List Tx) : List He.Fa :=
  (ts.filter (·.cls.isNone)).map (fun t => .glo t.nm) ++ g.frees.map .free ++ g.globs.flatMap gvFa ++ g.excs.map .glo ++ (g.excs.filter fun c => !g.rows.contains c).map .exc ++ (g.excs.flatMap fun c => g.excs.map fun h => .exm c h (subOf c h)) ++ g.clss.map (fun p => .cls p.1) ++ g.clss.map (fun p => .mkr p.1) ++ g.clss.map (fun p => .glo p.1) ++ g.meths.map (fun p => .meth p.1 p.2.1) ++ g.flds.map (fun p => .noat p.1 p.2)
def ddOf (t : Tx) : He.DefD := ⟨atOf t, t.nm, t.qual, t.args, t.body, t.sc, [], []⟩
/-! ### tuples and dicts of the module -/
def entB : List DictEntry → List (Str × Int) → Bool
  | [], [] => true
  | e :: es, p :: ps => (match e.key with
    | .str x _ => decide (x = p.1)
    | _ => false) && (match e.val with
    | .int j _ => decide (j = p.2)
    | _ => false) && entB es ps
  | _, _ => false
def dicB (K : PySem.W.Frag) (a : Addr) (kvs : List (Str × Int)) : Bool := match K.lookup a with
  | some ⟨_, _, .dict es _, _⟩ => entB es.toList kvs
  | _ => false
theorem entB_of : ∀ {es : List DictEntry} {kvs : List (Str × Int)}, entB es kvs = true → es.any (·.refKey) = false ∧ ∀ z : Str, match kvs.lookup z with
    | some i => ∃ e t, es.find? (fun e => e.key.isStr z) = some e ∧ e.val = .int i t
    | none => es.find? (fun e => e.key.isStr z) = none
  | [], [], _ => ⟨rfl, fun z => rfl⟩
  | [], _ :: _, h => by cases h
  | _ :: _, [], h => by cases h
  | e :: es, p :: ps, h => by
    unfold entB at h
    simp only [Bool.and_eq_true] at h
    obtain ⟨⟨h1, h2⟩, h3⟩ := h
    obtain ⟨i1, i2⟩ := entB_of h3
    cases ek : e.key with
    | str x t =>
      rw [ek] at h1
      have hx := of_decide_eq_true h1
      cases ev : e.val with
      | int j u =>
        rw [ev] at h2
        have hj := of_decide_eq_true h2
        refine ⟨?_, fun z => ?_⟩
        · rw [List.any_cons, i1]
          unfold DictEntry.refKey
          rw [ek]
          rfl
        · rw [List.lookup_cons]
          by_cases hz : z = p.1
          · have : (z == p.1) = true := by simpa using hz
            rw [this]
            refine ⟨e, u, ?_, by rw [ev, hj]⟩
            rw [List.find?_cons_of_pos]
            rw [ek]
            show (x == z) = true
            simp [hx, hz]
          · have : (z == p.1) = false := by simpa using hz
            rw [this]
            have e2 : (e :: es).find? (fun e => e.key.isStr z) = es.find? fun e => e.key.isStr z := by
              rw [List.find?_cons_of_neg]
              rw [ek]
              show ¬ (x == z) = true
              intro hh
              have := beq_iff_eq.mp hh
              exact hz (by rw [← this, hx])
            rw [e2]
            exact i2 z
      | _ => rw [ev] at h2; cases h2
    | _ => rw [ek] at h1; cases h1
theorem dicB_of {K : PySem.W.Frag} {a : Addr} {kvs : List (Str × Int)} (h : dicB K a kvs = true) : ∀ z : Str, match kvs.lookup z with
    | some i => ∃ t, PySem.W.nsIn K a z = some (some (.int i t))
    | none => PySem.W.nsIn K a z = some none := by
  intro z
  unfold dicB at h
  split at h
  · rename_i es n sl hl
    obtain ⟨h1, h2⟩ := entB_of h
    have hz := h2 z
    have en : PySem.W.nsIn K a z = (match es.toList.find? (fun e => e.key.isStr z) with
      | some e => some (some e.val)
      | none => if es.toList.any (·.refKey) then none else some none) := by
      unfold PySem.W.nsIn
      rw [hl]
      all_goals rfl
    rw [en, h1]
    cases e : kvs.lookup z with
    | none =>
      rw [e] at hz
      rw [hz]
      rfl
    | some i =>
      rw [e] at hz
      obtain ⟨q, t, e1, e2⟩ := hz
      rw [e1]
      exact ⟨t, congrArg (fun z => some (some z)) e2⟩
  · cases h
/-- what else is asked of the head -/
def exOf (g : SigS) (K : PySem.W.Frag) : Bool := (g.tups.all fun p => (He.Fa.glo p.1).ok K && He.tupB K p.1 (p.2.map He.Dv.str)) && ((g.dics.all fun p => (He.Fa.glo p.1).ok K && dicB K (He.ga K p.1) p.2) && ((g.rows.all fun c => rowFa K c) && g.insc.all fun c => insB K c))
def tabsOf (g : SigS) : List He.Tab := g.dics.map fun p => ((fun K => He.ga K p.1), p.2.map (·.1))
theorem strs_dv (K : PySem.W.Frag) : ∀ ss : List Str, (ss.map He.Dv.str).map (He.Dv.v K) = ss.map V.str
  | [] => rfl
  | s :: ss => by rw [List.map_cons, List.map_cons, List.map_cons, strs_dv K ss]; rfl
theorem modOk_of {P : Program} {w : World} {K : PySem.W.Frag} {h : Heap} {mg : Str → Option Value} {g : SigS} {ts : List Tx} (X : K.In h) (G : h.Ns mainGlobals mg) (hp : g.globs.all (fun p => gvPlain p.2) = true) (cc : He.SaysX (faOf g ts) (ts.map ddOf) (tabsOf g) [] (exOf g) w h K) : ModOk P w K mg g ts := by
  have c := cc.t.d
  have cm := cc.more
  unfold exOf at cm
  rw [Bool.and_eq_true, Bool.and_eq_true, Bool.and_eq_true] at cm
  have fact : ∀ f ∈ faOf g ts, f.ok K = true := fun f hf => He.SaysD.facts c hf
  have mem : ∀ f, (f ∈ (ts.filter (·.cls.isNone)).map (fun t => He.Fa.glo t.nm) ∨ f ∈ g.frees.map He.Fa.free ∨ f ∈ g.globs.flatMap gvFa ∨ f ∈ g.excs.map He.Fa.glo ∨ f ∈ (g.excs.filter fun c => !g.rows.contains c).map He.Fa.exc ∨ (f ∈ g.excs.flatMap fun c => g.excs.map fun h => He.Fa.exm c h (subOf c h)) ∨ f ∈ g.clss.map (fun p => He.Fa.cls p.1) ∨ f ∈ g.clss.map (fun p => He.Fa.mkr p.1) ∨ f ∈ g.clss.map (fun p => He.Fa.glo p.1) ∨ f ∈ g.meths.map (fun p => He.Fa.meth p.1 p.2.1) ∨ f ∈ g.flds.map (fun p => He.Fa.noat p.1 p.2)) → f.ok K = true := fun f hf => fact f (by
    unfold faOf
    simp only [List.mem_append]
    rcases hf with h | h | h | h | h | h | h | h | h | h | h <;> simp only [h, true_or, or_true])
  have glo : ∀ x ∈ g.excs, mg x = some (.ref (He.ga K x)) := fun x hx => He.glo_ok X G (mem (.glo x) (by
    right; right; right; left
    exact List.mem_map.mpr ⟨x, hx, rfl⟩))
  refine ⟨fun x hx => He.free_ok X G (mem (.free x) ?_), fun p hp' => ?_, fun t ht => ?_, fun t ht hc => ?_, fun a ha b hb => He.exm_ok (mem (.exm a b (subOf a b)) ?_), fun c hc => rowFa_of X G (List.all_eq_true.mp cm.2.2.1 c hc), fun x hx => ⟨glo x hx, ?_⟩, fun p hp => ⟨?_, ?_, ?_⟩, fun p hp => ?_, fun p hp => ?_, fun p hp => ?_, fun c hc => insB_of X G (List.all_eq_true.mp cm.2.2.2 c hc), fun p hp => ?_⟩
  · right; left
    exact List.mem_map.mpr ⟨x, hx, rfl⟩
  · have hpl := List.all_eq_true.mp hp p hp'
    have mem2 : ∀ f ∈ gvFa p, f.ok K = true := fun f hf => mem f (by
      right; right; left
      exact List.mem_flatMap.mpr ⟨p, hp', hf⟩)
    obtain ⟨x, v⟩ := p
    cases v with
    | int i =>
      obtain ⟨t, e⟩ := He.int_ok X G (mem2 (.int x i) (by simp [gvFa]))
      exact ⟨_, .int i, e, ⟨t, rfl⟩, fun _ _ => .int i⟩
    | str s =>
      obtain ⟨t, e⟩ := He.str_ok X G (mem2 (.str x s) (by simp [gvFa]))
      exact ⟨_, .str s, e, ⟨t, rfl⟩, fun _ _ => .str s⟩
    | tups ss => simp [gvPlain] at hpl
  · exact He.SaysD.defs c (d := ddOf t) (List.mem_map.mpr ⟨t, ht, rfl⟩)
  · refine He.glo_ok X G (mem (.glo t.nm) ?_)
    left
    exact List.mem_map.mpr ⟨t, List.mem_filter.mpr ⟨ht, by rw [hc]; rfl⟩, rfl⟩
  · right; right; right; right; right; left
    exact List.mem_flatMap.mpr ⟨a, ha, List.mem_map.mpr ⟨b, hb, rfl⟩⟩
  · intro hrw X' eK em hg hd m j p p2 pos
    have ex := He.exc_ok (mem (.exc x) (by
      right; right; right; right; left
      exact List.mem_map.mpr ⟨x, List.mem_filter.mpr ⟨hx, by rw [hrw]; rfl⟩, rfl⟩))
    subst eK
    subst em
    exact pmk_own PySem.F.excBase_ValueError ex.1 (glo x hx) ex.2.1 (raises_own ex.2.2.1 ex.2.2.2) hg hd
  · exact He.cls_ok (mem (.cls p.1) (by
      iterate 6 right
      left
      exact List.mem_map.mpr ⟨p, hp, rfl⟩))
  · exact He.mkr_ok (mem (.mkr p.1) (by
      iterate 7 right
      left
      exact List.mem_map.mpr ⟨p, hp, rfl⟩))
  · exact He.glo_ok X G (mem (.glo p.1) (by
      iterate 8 right
      left
      exact List.mem_map.mpr ⟨p, hp, rfl⟩))
  · exact He.meth_ok (mem (.meth p.1 p.2.1) (by
      iterate 9 right
      left
      exact List.mem_map.mpr ⟨p, hp, rfl⟩))
  · exact He.noat_ok (mem (.noat p.1 p.2) (by
      iterate 10 right
      exact List.mem_map.mpr ⟨p, hp, rfl⟩))
  · have := List.all_eq_true.mp cm.1 p hp
    rw [Bool.and_eq_true] at this
    refine ⟨_, He.glo_ok X G this.1, fun H => ?_⟩
    have t := He.tupB_ok this.2 H
    rw [strs_dv] at t
    exact t
  · have := List.all_eq_true.mp cm.2.1 p hp
    rw [Bool.and_eq_true] at this
    obtain ⟨i, hi, e⟩ := List.mem_iff_getElem.mp hp
    obtain ⟨es, n, kd⟩ := cc.t.tab i (t := ((fun K => He.ga K p.1), p.2.map (·.1))) (by
      unfold tabsOf
      rw [List.getElem?_map, List.getElem?_eq_getElem hi, e]
      rfl)
    exact ⟨_, es, n, He.glo_ok X G this.1, kd, dicB_of this.2⟩
/-- a law's end, where what an exception leaves hangs on the world -/
theorem walk_ofW {l : PySem.W.OpenLaw} {n k : Nat} {q : Program} {loose : List Str} {XP : (Str → Option Value) → Heap → Prop} {YP : World → Heap → Prop} {d : DefRec} {CX : World → CXT} {x : Str}
    (hn : l.most = some n) (hn2 : n ≤ sizeLine) (hdf : d.params.defaults = []) (hr : Room k callerA)
    (F : ∀ (w : World) (mg : Str → Option Value) (fa : Addr) (h : Heap), YP w h → h.Ns mainGlobals mg → mg d.name = some (.ref fa) →
      ∃ (K : PySem.W.Frag) (fd : FuncData) (sp : Sp), K.In h ∧ (∀ (s : Shared) (u : Value), BindsTo s fd ⟨[u], []⟩ [(x, u)]) ∧
        (∀ (H : Hp) (a : Addr) (ns : List Int), ns.length ≤ n → SqL K H a (ns.map V.int) → sp [.ref a] H (fun v _ => v = .bl true) fun _ _ _ => False) ∧
        ∀ base : Heap, K.In base → base.Ns mainGlobals mg → FnOk l.prog w K mg base (CX w) k fa fd [x] sp)
    (hCX : ∀ (w : World) (H : Hp) (s : Shared) (e : Value) (s' : Shared), CX w [] H s (fun _ _ _ => False) e s' → False) :
    PySem.W.WalkO q loose XP YP l.row.toRowW d [] (fun f vs => PySem.call f vs) := by
  refine Att.attach_call hn hdf fun w s0 s1 mg mb fa o pm cd doc a vs ns G Y ho hd hcd hmg hobj hints hlen hg => ?_
  obtain ⟨K, fd, sp, KX, hb, hsp, hF⟩ := F w mg fa _ Y G.T.g hmg
  exact law_call KX G.T.g G.T.b G.T.builtins G.T.nolimit hg hobj hints (Nat.le_trans hlen hn2) hr hF hb (fun H hO hS => hsp H a ns hlen hS) fun H e s' => hCX w H s1 e s'
/-- the law, where the small language's run says True at every script -/
theorem law_of {P : Program} {w : World} {K : PySem.W.Frag} {h : Heap} {mg : Str → Option Value} {g : SigS} {ts : List Tx} {defs : List (Str × Df)} {k : Nat} {x : Str} {fa : Addr} (X : K.In h) (G : h.Ns mainGlobals mg) (hp : g.globs.all (fun p => gvPlain p.2) = true) (c : He.SaysX (faOf g ts) (ts.map ddOf) (tabsOf g) [] (exOf g) w h K)
    (ckR : ckAllR g ts defs = true) (hps : (ts.all fun t => !(t.cls.isNone && decide (t.nm = ("law" : Str))) || decide (t.ps = [x])) = true) (hd : (g.defs.any fun p => decide (p.1 = ("law" : Str))) = true) (hfa : mg ("law" : Str) = some (.ref fa))
    (run : ∀ ns : List Int, ns.length ≤ 63 → ∃ st, callF defs g.clss g.excs (k + 1) "law" [.scr ns] [] = .ok (.bl true) st) :
    ∃ (K : PySem.W.Frag) (fd : FuncData) (sp : Sp), K.In h ∧ (∀ (s : Shared) (u : Value), BindsTo s fd ⟨[u], []⟩ [(x, u)]) ∧
        (∀ (H : Hp) (a : Addr) (ns : List Int), ns.length ≤ 63 → SqL K H a (ns.map V.int) → sp [.ref a] H (fun v _ => v = .bl true) fun _ _ _ => False) ∧
        ∀ base : Heap, K.In base → base.Ns mainGlobals mg → FnOk P w K mg base (L2.CX P w) (2 * (k + 1)) fa fd [x] sp := by
  have M : ModOk P w K mg g ts := modOk_of X G hp c
  obtain ⟨ck, rB⟩ := Bool.and_eq_true_iff.mp ckR
  obtain ⟨p, hpd, hpn⟩ := List.any_eq_true.mp hd
  have en := of_decide_eq_true hpn
  obtain ⟨hi, t, ht, d, tc, tn, e, hk⟩ := ckAll_of ck hpd
  have ps : t.ps = [x] := by
    have := List.all_eq_true.mp hps t ht
    rw [tn, en, tc] at this
    simpa using this
  obtain ⟨fd, F⟩ := M.defs t ht
  have hm := M.glo t ht tc
  have ea : He.fAd K (atOf t) = He.ga K t.nm := by
    unfold atOf
    rw [tc]
    rfl
  rw [tn, en, hfa] at hm
  have ef : fa = He.ga K t.nm := by
    rw [tn, en]
    injection hm with hm
    injection hm
  rw [ea, ← ef] at F
  have hk0 := hk
  unfold ckDf at hk0
  simp only [Bool.and_eq_true] at hk0
  have bd : ∀ (s : Shared) (u : Value), BindsTo s fd ⟨[u], []⟩ [(x, u)] := fun s u => by
    have := FunD.bindsA (ps := t.ps) F (bind_gen (plainB_of hk0.1.1.1.1) (by rw [ps]; simp)) s [u] (by rw [ps]; rfl)
    rw [ps] at this
    exact this
  refine ⟨K, fd, spOf K (callF defs g.clss g.excs (k + 1)) "law", X, bd, fun H a ns hl hS => ?_, fun base _ _ => ?_⟩
  · obtain ⟨st, e⟩ := run ns hl
    refine ⟨⟨[], []⟩, [], [.scr ns], ⟨rfl, List.nodup_nil, fun l a o h => by simp at h, fun a h => by simp at h⟩, .cons (.scr ?_) .nil, ?_⟩
    · rcases hS with hS | hS
      · exact .inl ⟨hS, fun m => by rcases m with m | m <;> simp at m⟩
      · exact .inr hS
    · rw [e]
      intro ρ' w' H' _ _ q
      cases q
      rfl
  · rw [en] at hi e
    have := fnOk_step (base := base) (n := k) (f := "law") M rB F hi e hk (levOk M rB ck k)
    rw [ps] at this
    exact this
end Rc
/-! RcH: the Hook over a given list of places. -/
namespace Rc
open PySem He
def obsL (as : List Addr) (fa : List Fa) (fn : List DefD) (ts : List Tab) (ex : PySem.W.Frag → Bool) (g : Addr → Option Obj) : AlX := (obsT fa fn ts (frT g as), ex (frT g as))
def hookL (as : List Addr) (fa : List Fa) (fn : List DefD) (ts : List Tab) (ex : PySem.W.Frag → Bool) : PySem.W.Hook where
  α := AlX
  obs := fun s => obsL as fa fn ts ex s.heap.get?
  val := fun w => valX fn ts w
  says := fun w h => ∃ K : PySem.W.Frag, K.In h ∧ SaysX fa fn ts [] ex w h K
  of := fun _ _ e => ⟨_, frT_in, ⟨congrArg (fun z : AlX => z.1) e, congrArg (fun z : AlX => z.2) e, fun _ hp => (by cases hp), fun _ hp => (by cases hp), fun _ hp => (by cases hp)⟩⟩
  keeps := fun _ _ _ ⟨K, hK, c⟩ k => ⟨K, PySem.W.Frag.In.keeps hK k, ⟨c.t, c.more, c.hd, c.out, fun p hp => k _ _ (c.empty p hp)⟩⟩
theorem obsL_eq {as : List Addr} {fa : List Fa} {fn : List DefD} {ts : List Tab} {ex : PySem.W.Frag → Bool} {g : Addr → Option Obj} {s : Shared} (h : ∀ a, g a = s.heap.get? a) : obsL as fa fn ts ex g = (hookL as fa fn ts ex).obs s := by
  have e : g = s.heap.get? := funext h
  rw [e] <;> rfl
end Rc
namespace Rc
open PySem He
section
variable {α β γ σ : Type}
theorem join2 {o : Option σ} {f : σ → α} {g : σ → β} {a : α} {b : β} (h1 : o.map f = some a) (h2 : o.map g = some b) : o.map (fun s => (f s, g s)) = some (a, b) := by
  cases o with
  | none => cases h1
  | some s =>
    cases Option.some.inj h1
    cases Option.some.inj h2
    rfl
theorem join_and {o : Option σ} {f g : σ → Bool} (h1 : o.map f = some true) (h2 : o.map g = some true) : o.map (fun s => f s && g s) = some true := by
  cases o with
  | none => cases h1
  | some s =>
    have e1 : f s = true := Option.some.inj h1
    have e2 : g s = true := Option.some.inj h2
    show some (f s && g s) = _
    rw [e1, e2]
    rfl
end
/-- what is looked at, in parts -/
theorem obs_parts {σ : Type} {o : Option σ} {g : σ → Addr → Option Obj} {as : List Addr} {fa : List Fa} {fn : List DefD} {ts : List Tab} {ex : PySem.W.Frag → Bool} {w : World}
    (h1 : o.map (fun s => fa.all fun f => f.ok (frT (g s) as)) = some true) (h2 : o.map (fun s => fn.all fun d => d.ok (frT (g s) as)) = some true) (h3 : o.map (fun s => fn.map fun d => fnW (frT (g s) as) d.at_) = some (fn.map DefD.val))
    (h4 : o.map (fun s => (ts.map fun t => dicW (frT (g s) as) (t.1 (frT (g s) as)), ex (frT (g s) as))) = some (ts.map fun t => some (keysIn w.params t.2), true)) :
    o.map (fun s => obsL as fa fn ts ex (g s)) = some (valX fn ts w) := by
  cases o with
  | none => cases h1
  | some s =>
    have e1 : (fa.all fun f => f.ok (frT (g s) as)) = true := Option.some.inj h1
    have e2 : (fn.all fun d => d.ok (frT (g s) as)) = true := Option.some.inj h2
    have e3 : (fn.map fun d => fnW (frT (g s) as) d.at_) = fn.map DefD.val := Option.some.inj h3
    have e4 : (ts.map fun t => dicW (frT (g s) as) (t.1 (frT (g s) as)), ex (frT (g s) as)) = (ts.map fun t => some (keysIn w.params t.2), true) := Option.some.inj h4
    obtain ⟨e5, e6⟩ := Prod.mk.inj e4
    show some ((((fa.all fun f => f.ok (frT (g s) as)) && fn.all fun d => d.ok (frT (g s) as), fn.map fun d => fnW (frT (g s) as) d.at_), ts.map fun t => dicW (frT (g s) as) (t.1 (frT (g s) as))), ex (frT (g s) as)) = _
    rw [e1, e2, e3, e5, e6]
    rfl
theorem all_app {α : Type} {σ : Type} {o : Option σ} {k : σ → α → Bool} {a b : List α} (h1 : o.map (fun s => a.all (k s)) = some true) (h2 : o.map (fun s => b.all (k s)) = some true) : o.map (fun s => (a ++ b).all (k s)) = some true := by
  cases o with
  | none => cases h1
  | some s =>
    have e1 : a.all (k s) = true := Option.some.inj h1
    have e2 : b.all (k s) = true := Option.some.inj h2
    show some ((a ++ b).all (k s)) = _
    rw [List.all_append, e1, e2]
    rfl
end Rc
namespace L_k06
open PySem L2 Rc
def top (i : Nat) : Stmt := PySem.Challenge.pw_rolledclay_k06_whole_strips_read_back.main.body.getD i (.Pass ⟨0, 0, 0, 0⟩)
def clsBody : Stmt → List Stmt
  | .ClassDef _ _ _ b _ _ _ _ _ _ _ => b
  | _ => []
def mth (i j : Nat) : Stmt := (clsBody (top i)).getD j (.Pass ⟨0, 0, 0, 0⟩)
def t_good_cell : Tx := ⟨"good_cell", "good_cell", none, [("cell" : Str)], [("cell" : Str)], defArgs (top 3), defBody (top 3), defScope (top 3)⟩
def t_good_strip : Tx := ⟨"good_strip", "good_strip", none, [("strip" : Str)], [("strip" : Str), ("column" : Str), ("cell" : Str)], defArgs (top 11), defBody (top 11), defScope (top 11)⟩
def t_cell_in : Tx := ⟨"cell_in", "cell_in", none, [("sign" : Str)], [("sign" : Str)], defArgs (top 12), defBody (top 12), defScope (top 12)⟩
def t_read_strip : Tx := ⟨"read_strip", "read_strip", none, [("text" : Str)], [("text" : Str), ("strip" : Str), ("word" : Str), ("sign" : Str)], defArgs (top 13), defBody (top 13), defScope (top 13)⟩
def t__law_open : Tx := ⟨"_law_open", "_law_open", none, [("_law_script" : Str)], [("_law_script" : Str)], defArgs (top 15), defBody (top 15), defScope (top 15)⟩
def t__law_pull : Tx := ⟨"_law_pull", "_law_pull", none, [("_law_draw" : Str), ("_law_total_of" : Str)], [("_law_draw" : Str), ("_law_total_of" : Str), ("_law_seed" : Str), ("_law_cell" : Str), ("_law_got" : Str)], defArgs (top 16), defBody (top 16), defScope (top 16)⟩
def t__law_num : Tx := ⟨"_law_num", "_law_num", none, [("_law_found" : Str)], [("_law_found" : Str)], defArgs (top 17), defBody (top 17), defScope (top 17)⟩
def t__law_like : Tx := ⟨"_law_like", "_law_like", none, [("_law_found" : Str), ("_law_due" : Str)], [("_law_found" : Str), ("_law_due" : Str), ("_law_k" : Str)], defArgs (top 18), defBody (top 18), defScope (top 18)⟩
def t__law_sign : Tx := ⟨"_law_sign", "_law_sign", none, [("_law_draw" : Str)], [("_law_draw" : Str), ("_law_signs" : Str)], defArgs (top 19), defBody (top 19), defScope (top 19)⟩
def t__law_strip_ok : Tx := ⟨"_law_strip_ok", "_law_strip_ok", none, [("_law_strip" : Str)], [("_law_strip" : Str), ("_law_high" : Str), ("_law_column" : Str), ("_law_cell" : Str)], defArgs (top 20), defBody (top 20), defScope (top 20)⟩
def t__law_any_strip : Tx := ⟨"_law_any_strip", "_law_any_strip", none, [("_law_draw" : Str), ("_law_high" : Str)], [("_law_draw" : Str), ("_law_high" : Str), ("_law_top" : Str), ("_law_wide" : Str), ("_law_k" : Str), ("_law_row" : Str)], defArgs (top 21), defBody (top 21), defScope (top 21)⟩
def t__law_strip_words : Tx := ⟨"_law_strip_words", "_law_strip_words", none, [("_law_strip" : Str)], [("_law_strip" : Str), ("_law_column" : Str), ("_law_cell" : Str)], defArgs (top 22), defBody (top 22), defScope (top 22)⟩
def t__law_asked : Tx := ⟨"_law_asked", "_law_asked", none, [("_law_text" : Str)], [("_law_text" : Str), ("e" : Str)], defArgs (top 23), defBody (top 23), defScope (top 23)⟩
def t__law_read : Tx := ⟨"_law_read", "_law_read", none, [("_law_text" : Str)], [("_law_text" : Str), ("_law_columns" : Str), ("_law_word" : Str), ("_law_strip" : Str), ("_law_sign_here" : Str)], defArgs (top 24), defBody (top 24), defScope (top 24)⟩
def t__law_spoilt : Tx := ⟨"_law_spoilt", "_law_spoilt", none, [("_law_draw" : Str), ("_law_text" : Str)], [("_law_draw" : Str), ("_law_text" : Str), ("_law_way" : Str), ("_law_words" : Str), ("_law_at" : Str), ("_law_spot" : Str), ("_law_sign_here" : Str), ("_law_word" : Str)], defArgs (top 25), defBody (top 25), defScope (top 25)⟩
def t_law : Tx := ⟨"law", "law", none, [("_law_script" : Str)], [("_law_script" : Str), ("_law_draw" : Str), ("_law_turn" : Str), ("_law_strip" : Str), ("_law_text" : Str), ("_law_due" : Str)], defArgs (top 26), defBody (top 26), defScope (top 26)⟩
def t_BadText___init__ : Tx := ⟨"__init__", "BadText.__init__", some "BadText", [("self" : Str), ("row" : Str)], [("self" : Str), ("row" : Str)], defArgs (mth 6 0), defBody (mth 6 0), defScope (mth 6 0)⟩
def tsA : List Tx := [t_good_cell, t_good_strip, t_cell_in, t_read_strip, t__law_open, t__law_pull, t__law_num, t__law_like]
def tsB : List Tx := [t__law_sign, t__law_strip_ok, t__law_any_strip, t__law_strip_words, t__law_asked, t__law_read, t__law_spoilt, t_law, t_BadText___init__]
def ts : List Tx := tsA ++ tsB
def sg : SigS := { frees := [("all" : Str), ("bool" : Str), ("int" : Str), ("isinstance" : Str), ("len" : Str), ("list" : Str), ("range" : Str), ("str" : Str), ("tuple" : Str)], globs := [(("FIGURES" : Str), (.str "0123456789")), (("GONE" : Str), (.int (-1))), (("LAST_SIGN" : Str), (.int 9)), (("MOST_ROWS" : Str), (.int 3)), (("MOST_WIDE" : Str), (.int 12))], defs := [(("good_cell" : Str), 1), (("good_strip" : Str), 1), (("cell_in" : Str), 1), (("read_strip" : Str), 1), (("_law_open" : Str), 1), (("_law_pull" : Str), 2), (("_law_num" : Str), 1), (("_law_like" : Str), 2), (("_law_sign" : Str), 1), (("_law_strip_ok" : Str), 1), (("_law_any_strip" : Str), 2), (("_law_strip_words" : Str), 1), (("_law_asked" : Str), 1), (("_law_read" : Str), 1), (("_law_spoilt" : Str), 2), (("law" : Str), 1)], clss := [], meths := [], flds := [], tups := [], dics := [], excs := [("BadText" : Str)], rows := [("BadText" : Str)], insc := [] }
abbrev R : PySem.W.OpenRow := PySem.W.OpenLaw.row PySem.Challenge.rw_rolledclay_k06_whole_strips_read_back
abbrev hk : PySem.W.Hook := Rc.hookL (List.range 1500) (faOf sg ts) (ts.map ddOf) (tabsOf sg) (exOf sg)
def ob (s : PySem.W.SharedT) : He.AlX := Rc.obsL (List.range 1500) (faOf sg ts) (ts.map ddOf) (tabsOf sg) (exOf sg) (HandSHeadRun.getT s)
theorem ob_eq (s : PySem.W.SharedT) : ob s = hk.obs s.abs := Rc.obsL_eq (HandSHeadRun.getT_eq s)
def nm0 : List PySem.Str := [("GONE" : Str), ("LAST_SIGN" : Str), ("MOST_ROWS" : Str), ("MOST_WIDE" : Str), ("FIGURES" : Str), ("ClayError" : Str), ("BadText" : Str), ("good_cell" : Str), ("good_strip" : Str), ("cell_in" : Str), ("read_strip" : Str), ("_law_open" : Str), ("_law_pull" : Str), ("_law_num" : Str), ("_law_like" : Str), ("_law_sign" : Str), ("_law_strip_ok" : Str), ("_law_any_strip" : Str), ("_law_strip_words" : Str), ("_law_asked" : Str), ("_law_read" : Str), ("_law_spoilt" : Str)]
def nms : List PySem.Str := nm0
theorem r1 (w : World) (os : PySem.OsState) : (HandSHeadRun.endF (HandSHeadRun.stepQ (HandSHeadRun.denQ HandSHeadRun.tabQ) R.prog w) 100000 R.prog w os).map (fun s => HandSHeadRun.looksF R.prog (PySem.W.boot_heap w.params) s.abs) = some (true) := by
  kernel_rfl
theorem r2 (w : World) (os : PySem.OsState) : (HandSHeadRun.endF (HandSHeadRun.stepQ (HandSHeadRun.denQ HandSHeadRun.tabQ) R.prog w) 100000 R.prog w os).map (fun s => HandSHeadRun.seenQ (PySem.W.view R.prog [26]) nms (PySem.importedModules R.prog.main.body) (fun s => PySem.W.xlAt (PySem.W.view R.prog [26]) [] s && PySem.W.recOk R.toRowW.records s) s.abs) = some (PySem.W.openGood (PySem.W.view R.prog [26]) nms) := by
  kernel_rfl
theorem r3 (w : World) (os : PySem.OsState) : (HandSHeadRun.endF (HandSHeadRun.stepQ (HandSHeadRun.denQ HandSHeadRun.tabQ) R.prog w) 100000 R.prog w os).map (fun s => (faOf sg ts).all fun f => f.ok (He.frT (HandSHeadRun.getT s) (List.range 1500))) = some (true) := by
  kernel_rfl
theorem r4 (w : World) (os : PySem.OsState) : (HandSHeadRun.endF (HandSHeadRun.stepQ (HandSHeadRun.denQ HandSHeadRun.tabQ) R.prog w) 100000 R.prog w os).map (fun s => (tsA.map ddOf).all fun f => f.ok (He.frT (HandSHeadRun.getT s) (List.range 1500))) = some (true) := by
  kernel_rfl
theorem r5 (w : World) (os : PySem.OsState) : (HandSHeadRun.endF (HandSHeadRun.stepQ (HandSHeadRun.denQ HandSHeadRun.tabQ) R.prog w) 100000 R.prog w os).map (fun s => (tsB.map ddOf).all fun f => f.ok (He.frT (HandSHeadRun.getT s) (List.range 1500))) = some (true) := by
  kernel_rfl
theorem r6 (w : World) (os : PySem.OsState) : (HandSHeadRun.endF (HandSHeadRun.stepQ (HandSHeadRun.denQ HandSHeadRun.tabQ) R.prog w) 100000 R.prog w os).map (fun s => (ts.map ddOf).map fun d => He.fnW (He.frT (HandSHeadRun.getT s) (List.range 1500)) d.at_) = some ((ts.map ddOf).map He.DefD.val) := by
  kernel_rfl
theorem r7 (w : World) (os : PySem.OsState) : (HandSHeadRun.endF (HandSHeadRun.stepQ (HandSHeadRun.denQ HandSHeadRun.tabQ) R.prog w) 100000 R.prog w os).map (fun s => ((tabsOf sg).map fun t => He.dicW (He.frT (HandSHeadRun.getT s) (List.range 1500)) (t.1 (He.frT (HandSHeadRun.getT s) (List.range 1500))), exOf sg (He.frT (HandSHeadRun.getT s) (List.range 1500)))) = some (((tabsOf sg).map fun t => some (He.keysIn w.params t.2), true)) := by
  kernel_rfl
theorem run (w : World) : HandSHeadRun.RunEq R (PySem.W.view R.prog [26]) hk ob 100000 nms w := by
  intro os
  have h45 := Rc.all_app (k := fun s (f : He.DefD) => f.ok (He.frT (HandSHeadRun.getT s) (List.range 1500))) (r4 w os) (r5 w os)
  rw [← List.map_append, show tsA ++ tsB = ts from rfl] at h45
  exact Rc.join2 (r1 w os) (Rc.join2 (r2 w os) (Rc.obs_parts (r3 w os) h45 (r6 w os) (r7 w os)))
end L_k06
/-! Re: equations by which runs of the small language are reckoned. -/
namespace Rc
open PySem
section
variable {st : Store} {i j k : Int} {x y : Str} {b c : Bool} {vs ws : List Val} {v w : Val} {l m : Nat} {n : Nat}
@[simp] theorem e_ofS {α : Type} (a : α) : ofOpt (some a) = ret a := (rfl)
@[simp] theorem e_ofN {α : Type} : ofOpt (none : Option α) = stuck := (rfl)
@[simp] theorem e_asBl : asBl (.bl b) = ret b := (rfl)
@[simp] theorem e_asInt : asInt (.int i) = ret i := (rfl)
@[simp] theorem e_gvi : gvVal (.int i) = .int i := (rfl)
@[simp] theorem e_gvs : gvVal (.str x) = .str x := (rfl)
@[simp] theorem e_gvt {ss : List Str} : gvVal (.tups ss) = .tup (ss.map .str) := (rfl)
@[simp] theorem e_mkv {new : Bool} : mk new (.v v) = ret v := by cases new <;> exact (rfl)
@[simp] theorem e_mkf : mk false (.l vs) = ret (.lst vs) := (rfl)
@[simp] theorem e_mkt : mk true (.l vs) st = .ok (.loc st.length) (st ++ [.lst vs]) := (rfl)
@[simp] theorem e_mkd {kvs : List (Key × Val)} : mk true (.d kvs) st = .ok (.loc st.length) (st ++ [.dK kvs]) := (rfl)
@[simp] theorem e_mkdf {kvs : List (Key × Val)} : mk false (.d kvs) = ret (.dK (kvs.map (·.1)) (kvs.map (·.2))) := (rfl)
@[simp] theorem e_mkdt {kvs : List (List Key × Val)} : mk true (.t kvs) st = .ok (.loc st.length) (st ++ [.dT kvs]) := (rfl)
@[simp] theorem e_add : opAdd st (.int i) (.int j) = some (.v (.int (i + j))) := (rfl)
@[simp] theorem e_addS : opAdd st (.str x) (.str y) = if szOk (x.length + y.length) then some (.v (.str (x ++ y))) else none := (rfl)
@[simp] theorem e_addT : opAdd st (.tup vs) (.tup ws) = if szOk (vs.length + ws.length) then some (.v (.tup (vs ++ ws))) else none := (rfl)
@[simp] theorem e_addL : opAdd st (.lst vs) (.lst ws) = if szOk (vs.length + ws.length) then some (.l (vs ++ ws)) else none := (rfl)
@[simp] theorem e_sub : opSub (.int i) (.int j) = some (.int (i - j)) := (rfl)
@[simp] theorem e_mul : opMul (.int i) (.int j) = if mulOk i j then some (.int (i * j)) else none := (rfl)
@[simp] theorem e_mulL1 : opMulL st (.int i) w = (opMul (.int i) w).map Pv.v := by cases w <;> rfl
@[simp] theorem e_mulL2 : opMulL st (.tup vs) w = (opMul (.tup vs) w).map Pv.v := by cases w <;> rfl
@[simp] theorem e_mulL3 : opMulL st (.lst vs) (.int k) = if decide (0 ≤ k) && decide (k ≤ 1000) && decide (vs.length ≤ 1000) then some (Pv.l (List.replicate k.toNat vs).flatten) else none := (rfl)
@[simp] theorem e_mulT : opMul (.tup vs) (.int k) = if decide (0 ≤ k) && decide (k ≤ 1000) && decide (vs.length ≤ 1000) then some (.tup (List.replicate k.toNat vs).flatten) else none := (rfl)
@[simp] theorem e_mod : opMod (.int i) (.int j) = if 0 < j then some (.int (i % j)) else none := (rfl)
@[simp] theorem e_div : opDiv (.int i) (.int j) = if decide (0 < j) && decide (j < 1073741824) then some (.int (i / j)) else none := (rfl)
@[simp] theorem e_pow : opPow (.int i) (.int j) = if decide (0 ≤ j) && decide (j ≤ 1000000) && decide (i.natAbs < 2 ^ 64) then some (.int (i ^ j.toNat)) else none := (rfl)
@[simp] theorem e_lt : cmpLt st (.int i) (.int j) = some (decide (i < j)) := (rfl)
@[simp] theorem e_le : cmpLe st (.int i) (.int j) = some (decide (i ≤ j)) := (rfl)
@[simp] theorem e_eqi : veq st (.int i) (.int j) = some (decide (i = j)) := (rfl)
@[simp] theorem e_eqb : veq st (.bl b) (.bl c) = some (decide (b = c)) := (rfl)
@[simp] theorem e_eqs : veq st (.str x) (.str y) = some (decide (x = y)) := (rfl)
@[simp] theorem e_is : isOp v .non = some (isNon v) := (rfl)
@[simp] theorem e_n0 : isNon .non = true := (rfl)
@[simp] theorem e_n1 : isNon (.bl b) = false := (rfl)
@[simp] theorem e_n2 : isNon (.int i) = false := (rfl)
@[simp] theorem e_n3 : isNon (.str x) = false := (rfl)
@[simp] theorem e_n4 : isNon (.tup vs) = false := (rfl)
@[simp] theorem e_n5 : isNon (.lst vs) = false := (rfl)
@[simp] theorem e_n6 : isNon (.loc l) = false := (rfl)
@[simp] theorem e_lstL : lstOf st (.lst vs) = some vs := (rfl)
def obL : Option Ob → Option (List Val)
  | some (.lst xs) => some xs
  | _ => none
@[simp] theorem e_obL : obL (some (.lst vs)) = some vs := (rfl)
@[simp] theorem e_lstO : lstOf st (.loc l) = obL st[l]? := by
  unfold lstOf obL
  rfl
@[simp] theorem e_seqT : seqOf st (.tup vs) = some vs := (rfl)
@[simp] theorem e_seqL : seqOf st (.lst vs) = some vs := (rfl)
@[simp] theorem e_seqO : seqOf st (.loc l) = obL st[l]? := by
  show lstOf st (.loc l) = _
  rw [e_lstO]
@[simp] theorem e_ixT : ixOp st (.tup vs) (.int i) = L2.atI vs i := (rfl)
@[simp] theorem e_ixL : ixOp st (.lst vs) (.int i) = L2.atI vs i := (rfl)
@[simp] theorem e_ixO : ixOp st (.loc l) w = obIx w st[l]? := by cases w <;> exact (rfl)
@[simp] theorem e_obI : obIx (.int i) (some (.lst vs)) = L2.atI vs i := (rfl)
@[simp] theorem e_obK {kvs : List (Key × Val)} : obIx w (some (.dK kvs)) = (keyOf w).bind (look kvs) := (rfl)
@[simp] theorem e_obT {kvs : List (List Key × Val)} : obIx w (some (.dT kvs)) = (keyT w).bind (look kvs) := (rfl)
@[simp] theorem e_ixK {ks : List Key} : ixOp st (.dK ks vs) w = (keyOf w).bind (look (ks.zip vs)) := by cases w <;> exact (rfl)
@[simp] theorem e_ixD {ks : List (List Key)} : ixOp st (.dT ks vs) w = (keyT w).bind (look (ks.zip vs)) := by cases w <;> exact (rfl)
@[simp] theorem e_kI : keyOf (.int i) = some (.inl i) := (rfl)
@[simp] theorem e_kS : keyOf (.str x) = some (.inr x) := (rfl)
@[simp] theorem e_kT : keyT (.tup vs) = mapO keyOf vs := (rfl)
@[simp] theorem e_kvI : keyVal (.inl i) = .int i := (rfl)
@[simp] theorem e_kvS : keyVal (.inr x) = .str x := (rfl)
@[simp] theorem e_ixStr : ixOp st (.str x) (.int i) = if szOk x.length then (L2.atI x.cps.toList i).map fun c => .str ⟨#[c]⟩ else none := (rfl)
@[simp] theorem e_slT {lo hi : Option Int} : slOp st (.tup vs) lo hi = some (.v (.tup (cut vs lo hi))) := (rfl)
@[simp] theorem e_slL {lo hi : Option Int} : slOp st (.lst vs) lo hi = some (.l (cut vs lo hi)) := (rfl)
@[simp] theorem e_slS {lo hi : Option Int} {ns : List Int} : slOp st (.scr ns) lo hi = some (.l (cut (ns.map .int) lo hi)) := (rfl)
@[simp] theorem e_revT : revOp st (.tup vs) = some (.v (.tup vs.reverse)) := (rfl)
@[simp] theorem e_revL : revOp st (.lst vs) = some (.l vs.reverse) := (rfl)
@[simp] theorem e_lenT : biLen st [.tup vs] = some (.int vs.length) := (rfl)
@[simp] theorem e_lenL : biLen st [.lst vs] = some (.int vs.length) := (rfl)
@[simp] theorem e_lenO : biLen st [.loc l] = (obLen st[l]?).map fun (n : Nat) => .int (n : Int) := by
  unfold biLen
  rfl
@[simp] theorem e_obnL : obLen (some (.lst vs)) = some vs.length := (rfl)
@[simp] theorem e_obnK {kvs : List (Key × Val)} : obLen (some (.dK kvs)) = some kvs.length := (rfl)
@[simp] theorem e_lenS : biLen st [.str x] = if szOk x.length then some (.int x.length) else none := (rfl)
@[simp] theorem e_max : biMax st [.int i, .int j] = some (.int (if j > i then j else i)) := (rfl)
@[simp] theorem e_min : biMin st [.int i, .int j] = some (.int (if j < i then j else i)) := (rfl)
@[simp] theorem e_maxL : biMax st [.lst vs] = ((mapO toInt vs).bind maxi).map .int := (rfl)
@[simp] theorem e_minL : biMin st [.lst vs] = ((mapO toInt vs).bind mini).map .int := (rfl)
@[simp] theorem e_maxT : biMax st [.tup vs] = ((mapO toInt vs).bind maxi).map .int := (rfl)
@[simp] theorem e_minT : biMin st [.tup vs] = ((mapO toInt vs).bind mini).map .int := (rfl)
@[simp] theorem e_all : biAll st [.lst vs] = (mapO toBl vs).map fun bs => .bl (bs.all id) := (rfl)
@[simp] theorem e_any : biAny st [.lst vs] = (mapO toBl vs).map fun bs => .bl (bs.any id) := (rfl)
@[simp] theorem e_tupL : biTuple st [.lst vs] = some (.tup vs) := (rfl)
@[simp] theorem e_tupT : biTuple st [.tup vs] = some (.tup vs) := (rfl)
@[simp] theorem e_tupO : biTuple st [.loc l] = (obL st[l]?).map .tup := by
  show (seqOf st (.loc l)).map _ = _
  rw [e_seqO]
@[simp] theorem e_listL : biList st [.lst vs] = some (.l vs) := (rfl)
@[simp] theorem e_listT : biList st [.tup vs] = some (.l vs) := (rfl)
@[simp] theorem e_listO : biList st [.loc l] = (obList st[l]?).map .l := (rfl)
@[simp] theorem e_oblL : obList (some (.lst vs)) = some vs := (rfl)
@[simp] theorem e_oblK {kvs : List (Key × Val)} : obList (some (.dK kvs)) = some (kvs.map fun kv => keyVal kv.1) := (rfl)
@[simp] theorem e_srtL : biSorted st [.lst vs] = (mapO toInt vs).map fun ns => .l ((srt ns).map .int) := (rfl)
@[simp] theorem e_srtO : biSorted st [.loc l] = (obSort st[l]?).map fun ns => .l ((srt ns).map .int) := (rfl)
@[simp] theorem e_obsL : obSort (some (.lst vs)) = mapO toInt vs := (rfl)
@[simp] theorem e_obsK {kvs : List (Key × Val)} : obSort (some (.dK kvs)) = if decide (kvs.length < 64) then mapO (fun kv => keyInt kv.1) kvs else none := (rfl)
@[simp] theorem e_dicO : biDict st [.loc l] = obDict st[l]? := (rfl)
@[simp] theorem e_obdK {kvs : List (Key × Val)} : obDict (some (.dK kvs)) = some (.d kvs) := (rfl)
@[simp] theorem e_strI : biStr [.int i] = if decide (i.natAbs.log2 < 1920) then some (.str (toString i)) else none := (rfl)
@[simp] theorem e_strS : biStr [.str x] = some (.str x) := (rfl)
@[simp] theorem e_intI : biInt [.int i] = some (.int i) := (rfl)
@[simp] theorem e_intB : biInt [.bl b] = some (.int (if b then 1 else 0)) := (rfl)
@[simp] theorem e_isn {q : Kd} : isinOp st .non q = some false := (rfl)
@[simp] theorem e_isb {q : Kd} : isinOp st (.bl b) q = some (decide (Kd.bool = q) || decide (q = .int)) := by cases q <;> exact (rfl)
@[simp] theorem e_isi {q : Kd} : isinOp st (.int i) q = some (decide (Kd.int = q)) := by cases q <;> exact (rfl)
@[simp] theorem e_iss {q : Kd} : isinOp st (.str x) q = some (decide (Kd.str = q)) := by cases q <;> exact (rfl)
@[simp] theorem e_ist {q : Kd} : isinOp st (.tup vs) q = some (decide (Kd.tuple = q)) := by cases q <;> exact (rfl)
@[simp] theorem e_isl {q : Kd} : isinOp st (.lst vs) q = some (decide (Kd.list = q)) := by cases q <;> exact (rfl)
@[simp] theorem e_inT : opIn st v (.tup vs) = if flat v && vs.all flat then some (vs.any fun y => eqF y v) else none := (rfl)
@[simp] theorem e_inL : opIn st v (.lst vs) = inSeq st v vs := (rfl)
theorem in_flat (h : (flat v && vs.all flat) = true) : inSeq st v vs = some (vs.any fun y => eqF y v) := by
  unfold inSeq
  rw [if_pos h]
@[simp] theorem e_inN {ks : List (List (List Int))} : opIn st v (.dN ks) = (keyN v).map fun k => decide (k ∈ ks) := (rfl)
@[simp] theorem e_inO : opIn st v (.loc l) = obIn st v st[l]? := (rfl)
@[simp] theorem e_obiL : obIn st v (some (.lst vs)) = inSeq st v vs := (rfl)
@[simp] theorem e_obiK {kvs : List (Key × Val)} : obIn st v (some (.dK kvs)) = (keyOf v).map fun k => (look kvs k).isSome := (rfl)
@[simp] theorem e_obiT {kvs : List (List Key × Val)} : obIn st v (some (.dT kvs)) = (keyT v).map fun k => (look kvs k).isSome := (rfl)
@[simp] theorem e_tyS {m : Mt} {x : Str} : tyOk m st (.str x) = mtIsStr m := by cases m <;> exact (rfl)
@[simp] theorem e_tyL {m : Mt} : tyOk m st (.loc l) = (!mtIsStr m && (if mtIsDic m = true then obIsDic st[l]? else (obL st[l]?).isSome)) := by
  unfold tyOk
  rw [e_lstO]
  cases m <;> rfl
@[simp] theorem e_dk1 {kvs : List (Key × Val)} : obIsDic (some (.dK kvs)) = true := (rfl)
@[simp] theorem e_dk2 {kvs : List (List Key × Val)} : obIsDic (some (.dT kvs)) = true := (rfl)
@[simp] theorem e_md1 : mtIsDic .append = false := (rfl)
@[simp] theorem e_md2 : mtIsDic .extend = false := (rfl)
@[simp] theorem e_md3 : mtIsDic .pop = false := (rfl)
@[simp] theorem e_md4 : mtIsDic .clear = false := (rfl)
@[simp] theorem e_md5 : mtIsDic .insert = false := (rfl)
@[simp] theorem e_md6 : mtIsDic .dget = true := (rfl)
@[simp] theorem e_md7 : mtIsDic .dpop = true := (rfl)
@[simp] theorem e_ms1 : mtIsStr .append = false := (rfl)
@[simp] theorem e_ms2 : mtIsStr .extend = false := (rfl)
@[simp] theorem e_ms3 : mtIsStr .pop = false := (rfl)
@[simp] theorem e_ms4 : mtIsStr .clear = false := (rfl)
@[simp] theorem e_ms5 : mtIsStr .insert = false := (rfl)
@[simp] theorem e_ms6 : mtIsStr .join = true := (rfl)
@[simp] theorem e_ms7 : mtIsStr .split = true := (rfl)
@[simp] theorem e_ms8 : mtIsStr .sindex = true := (rfl)
@[simp] theorem e_ms9 : mtIsStr .dget = false := (rfl)
@[simp] theorem e_ms10 : mtIsStr .dpop = false := (rfl)
@[simp] theorem e_mtL1 {new : Bool} : mtOp new .append (.loc l) vs = wrLst .append l vs := (rfl)
@[simp] theorem e_mtL2 {new : Bool} : mtOp new .extend (.loc l) vs = wrLst .extend l vs := (rfl)
@[simp] theorem e_mtL3 {new : Bool} : mtOp new .pop (.loc l) vs = wrLst .pop l vs := (rfl)
@[simp] theorem e_mtL4 {new : Bool} : mtOp new .clear (.loc l) vs = wrLst .clear l vs := (rfl)
@[simp] theorem e_mtL5 {new : Bool} : mtOp new .insert (.loc l) vs = wrLst .insert l vs := (rfl)
@[simp] theorem e_mtG {new : Bool} : mtOp new .dget (.loc l) vs st = ofOpt (obGet vs st[l]?) st := (rfl)
@[simp] theorem e_obgK {kvs : List (Key × Val)} : obGet [v, w] (some (.dK kvs)) = (keyOf v).map fun k => (look kvs k).getD w := (rfl)
@[simp] theorem e_obgT {kvs : List (List Key × Val)} : obGet [v, w] (some (.dT kvs)) = (keyT v).map fun k => (look kvs k).getD w := (rfl)
theorem mt_dpop {new : Bool} {kvs : List (Key × Val)} {k : Key} {u : Val} (h : st[l]? = some (.dK kvs)) (hk : keyOf v = some k) (hu : look kvs k = some u) : mtOp new .dpop (.loc l) [v] st = .ok u (st.set l (.dK (drp kvs k))) := by
  show (match obPop [v] st[l]? with
    | some r => R.ok r.1 (st.set l r.2)
    | none => .stuck) = _
  rw [h]
  show (match (keyOf v).bind fun k => (look kvs k).map fun v => (v, Ob.dK (drp kvs k)) with
    | some r => R.ok r.1 (st.set l r.2)
    | none => .stuck) = _
  rw [hk]
  show (match (look kvs k).map fun v => (v, Ob.dK (drp kvs k)) with
    | some r => R.ok r.1 (st.set l r.2)
    | none => .stuck) = _
  rw [hu]
  rfl
@[simp] theorem e_fldO {f : Str} {k : Nat} : fldOp st f k (.loc l) = obFld f k st[l]? := (rfl)
theorem e_obF {c f : Str} {k : Nat} {fs : List (Str × Val)} (h : fs[k]? = some (f, v)) : obFld f k (some (.ins c fs)) = some v := by
  show (match fs[k]? with
    | some p => if p.1 = f then some p.2 else none
    | none => none) = _
  rw [h]
  simp
@[simp] theorem e_insO {c : Str} : isIns st c (.loc l) = obIns c st[l]? := (rfl)
@[simp] theorem e_obC {c d : Str} {fs : List (Str × Val)} : obIns c (some (.ins d fs)) = decide (d = c) := (rfl)
@[simp] theorem e_mtJ {new : Bool} {x : Str} {w : Val} : mtOp new .join (.str x) [w] st = bnd (ofOpt (joinOp st x w)) (fun x => ret (.str x)) st := (rfl)
theorem wr_append {xs : List Val} {y : Val} (h : st[l]? = some (.lst xs)) (hz : xs.length + 1 ≤ sizeLine) : wrLst .append l [y] st = .ok .non (st.set l (.lst (xs ++ [y]))) := by
  unfold wrLst
  rw [h]
  show (if szOk (xs ++ [y]).length = true then _ else _) = _
  rw [if_pos]
  show decide _ = true
  rw [List.length_append]
  exact decide_eq_true hz
@[simp] theorem e_fi : flat (.int i) = true := (rfl)
@[simp] theorem e_fs : flat (.str x) = true := (rfl)
@[simp] theorem e_fb : flat (.bl b) = true := (rfl)
@[simp] theorem e_fn : flat .non = true := (rfl)
@[simp] theorem e_fii : eqF (.int i) (.int j) = (i == j) := (rfl)
@[simp] theorem e_fss : eqF (.str x) (.str y) = (x == y) := (rfl)
@[simp] theorem e_mo0 {α β : Type} {f : α → Option β} : mapO f [] = some [] := (rfl)
theorem e_moc {α β : Type} {f : α → Option β} {a : α} {as : List α} : mapO f (a :: as) = (f a).bind fun w => (mapO f as).map (w :: ·) := (rfl)
@[simp] theorem e_moI : ∀ {ns : List Int}, mapO toInt (ns.map .int) = some ns
  | [] => rfl
  | n :: ns => by rw [List.map_cons, e_moc, e_moI]; rfl
@[simp] theorem e_moB : ∀ {bs : List Bool}, mapO toBl (bs.map .bl) = some bs
  | [] => rfl
  | n :: ns => by rw [List.map_cons, e_moc, e_moB]; rfl
@[simp] theorem e_isdT {q : Kd} {ks : List (List Key)} : isinOp st (.dT ks vs) q = some (decide (Kd.dict = q)) := by cases q <;> exact (rfl)
@[simp] theorem e_isdK {q : Kd} {ks : List Key} : isinOp st (.dK ks vs) q = some (decide (Kd.dict = q)) := by cases q <;> exact (rfl)
@[simp] theorem e_obdT {kvs : List (List Key × Val)} : obDict (some (.dT kvs)) = if (kvs.map (·.1)).all padKB = true then some (.t kvs) else none := (rfl)
@[simp] theorem e_dicK {ks : List Key} : biDict st [.dK ks vs] = some (.d (ks.zip vs)) := (rfl)
@[simp] theorem e_dicT {ks : List (List Key)} : biDict st [.dT ks vs] = if ks.all padKB = true then some (.t (ks.zip vs)) else none := (rfl)
@[simp] theorem e_dicL : biDict st [.lst vs] = (mapO pairT vs).map fun kvs => .t (mrg [] kvs) := (rfl)
@[simp] theorem e_mkdtf {kvs : List (List Key × Val)} : mk false (.t kvs) = ret (.dT (kvs.map (·.1)) (kvs.map (·.2))) := (rfl)
@[simp] theorem e_asStr {x : Str} : asStr (.str x) = ret x := (rfl)
@[simp] theorem e_md8 : mtIsDic .lindex = false := (rfl)
@[simp] theorem e_ms11 : mtIsStr .lindex = false := (rfl)
@[simp] theorem e_tyLL {m : Mt} : tyOk m st (.lst vs) = (!mtIsStr m && !mtIsDic m) := by cases m <;> exact (rfl)
theorem mt_idx {new : Bool} {v y : Val} {zs : List Val} {i : Nat} (h : lstOf st v = some zs) (hi : idxOp st v y zs = some i) : mtOp new .lindex v [y] st = .ok (.int i) st := by
  show idxLst v [y] st = _
  unfold idxLst
  rw [h]
  dsimp only
  rw [hi]
@[simp] theorem e_itT : itemsOf st (.tup vs) = some ⟨vs, none⟩ := (rfl)
@[simp] theorem e_itL : itemsOf st (.lst vs) = some ⟨vs, none⟩ := (rfl)
@[simp] theorem e_stl : Still ⟨vs, none⟩ st = True := (rfl)
@[simp] theorem e_tgN {env : Env} : assignTg (.nm n) v env = some (env.set n (some v)) := (rfl)
@[simp] theorem e_tgT {env : Env} {is : List Nat} : assignTg (.tup is) (.tup vs) env = setAll is vs env := (rfl)
@[simp] theorem e_sa0 {env : Env} : setAll [] [] env = some env := (rfl)
@[simp] theorem e_saC {env : Env} {is : List Nat} : setAll (n :: is) (v :: vs) env = setAll is vs (env.set n (some v)) := (rfl)
@[simp] theorem e_set : setOp st (.loc l) w v = setAt st l w v st[l]? := by cases w <;> exact (rfl)
@[simp] theorem e_sat : setAt st l (.int k) v (some (.lst vs)) = (L2.ixN vs.length k).map fun j => st.set l (.lst (vs.set j v)) := (rfl)
@[simp] theorem e_satK {kvs : List (Key × Val)} : setAt st l w v (some (.dK kvs)) = if decide (kvs.length < 100000) then (keyOf w).map fun k => st.set l (.dK (put kvs k v)) else none := (rfl)
@[simp] theorem e_satT {kvs : List (List Key × Val)} : setAt st l w v (some (.dT kvs)) = if decide (kvs.length < 100000) then (keyT w).map fun k => st.set l (.dT (put kvs k v)) else none := (rfl)
@[simp] theorem e_fst {c f : Str} {k : Nat} : fsetOp st c f k (.loc l) v = fsetAt st c l f k v st[l]? := (rfl)
theorem fset_at {c f : Str} {k : Nat} {fs : List (Str × Val)} {u : Val} (h : fs[k]? = some (f, u)) (hl : fs.length < 100) : fsetAt st c l f k v (some (.ins c fs)) = some (st.set l (.ins c (fs.set k (f, v)))) := by
  show (if c = c then (putFld f k v fs).map _ else none) = _
  rw [if_pos rfl]
  unfold putFld
  rw [h]
  simp [hl]
theorem fset_new {c f : Str} {fs : List (Str × Val)} (h : fs.all (fun p => !decide (p.1 = f)) = true) (hl : fs.length < 100) : fsetAt st c l f fs.length v (some (.ins c fs)) = some (st.set l (.ins c (fs ++ [(f, v)]))) := by
  show (if c = c then (putFld f fs.length v fs).map _ else none) = _
  rw [if_pos rfl]
  unfold putFld
  rw [List.getElem?_eq_none (Nat.le_refl _)]
  dsimp only
  rw [h]
  simp [hl]
end
section
variable (C : Str → List Val → M Val) (xs : List Str) (env : Env)
@[simp] theorem v_var (i : Nat) : evE C (.var i) env = getVar env i := by unfold evE; rfl
@[simp] theorem v_int (i : Int) : evE C (.int i) env = ret (.int i) := by unfold evE; rfl
@[simp] theorem v_str (s : Str) : evE C (.str s) env = ret (.str s) := by unfold evE; rfl
@[simp] theorem v_bl (b : Bool) : evE C (.bl b) env = ret (.bl b) := by unfold evE; rfl
@[simp] theorem v_non : evE C .non env = ret .non := by unfold evE; rfl
@[simp] theorem v_glob (x : Str) (g : Gv) : evE C (.glob x g) env = ret (gvVal g) := by unfold evE; rfl
@[simp] theorem v_bin (new : Bool) (op : Operator) (a b : E) : evE C (.bin new op a b) env = bnd (evE C a env) fun v => bnd (evE C b env) fun w => fun st => bnd (ofOpt (binOp st op v w)) (mk new) st := by conv => lhs; unfold evE
@[simp] theorem v_neg (a : E) : evE C (.neg a) env = bnd (bnd (evE C a env) asInt) fun i => ret (.int (-i)) := by conv => lhs; unfold evE
@[simp] theorem v_not (a : E) : evE C (.not a) env = bnd (bnd (evE C a env) asBl) fun b => ret (.bl (!b)) := by conv => lhs; unfold evE
@[simp] theorem v_bop (op : BoolOp) (es : Es) : evE C (.bop op es) env = evB C op es env := by conv => lhs; unfold evE
@[simp] theorem v_b1 (op : BoolOp) (e : E) : evB C op (.cons e .nil) env = evE C e env := by cases op <;> (conv => lhs; unfold evB)
@[simp] theorem v_and (e e2 : E) (es : Es) : evB C .And (.cons e (.cons e2 es)) env = bnd (bnd (evE C e env) asBl) fun k => if k = true then evB C .And (.cons e2 es) env else ret (.bl false) := by
  conv => lhs; unfold evB
  show bnd _ (fun k => if k = true then _ else _) = _
  congr 1
  funext k
  cases k <;> rfl
@[simp] theorem v_or (e e2 : E) (es : Es) : evB C .Or (.cons e (.cons e2 es)) env = bnd (bnd (evE C e env) asBl) fun k => if k = true then ret (.bl true) else evB C .Or (.cons e2 es) env := by
  conv => lhs; unfold evB
  show bnd _ (fun k => if k = false then _ else _) = _
  congr 1
  funext k
  cases k <;> rfl
@[simp] theorem v_cmp (op : CmpOp) (a b : E) : evE C (.cmp op a b) env = bnd (evE C a env) fun v => bnd (evE C b env) fun w => fun st => bnd (ofOpt (cmpOp st op v w)) (fun b => ret (.bl b)) st := by conv => lhs; unfold evE
@[simp] theorem v_isinC (a : E) (c : Str) : evE C (.isinC a c) env = bnd (evE C a env) fun v => fun st => if isIns st c v = true then .ok (.bl true) st else .stuck := by conv => lhs; unfold evE
@[simp] theorem v_chain (o1 o2 : CmpOp) (a b c : E) : evE C (.chain o1 o2 a b c) env = bnd (evE C a env) fun v => bnd (evE C b env) fun w => fun st => bnd (ofOpt (cmpOp st o1 v w)) (fun k =>
    if k = true then bnd (evE C c env) fun u => fun st => bnd (ofOpt (cmpOp st o2 w u)) (fun b => ret (.bl b)) st else ret (.bl false)) st := by conv => lhs; unfold evE
@[simp] theorem v_chain3 (o1 o2 o3 : CmpOp) (a b c d : E) : evE C (.chain3 o1 o2 o3 a b c d) env = bnd (evE C a env) fun v => bnd (evE C b env) fun w => fun st => bnd (ofOpt (cmpOp st o1 v w)) (fun k =>
    if k = true then bnd (evE C c env) fun u => fun st => bnd (ofOpt (cmpOp st o2 w u)) (fun k2 =>
      if k2 = true then bnd (evE C d env) fun x => fun st => bnd (ofOpt (cmpOp st o3 u x)) (fun b => ret (.bl b)) st else ret (.bl false)) st else ret (.bl false)) st := by conv => lhs; unfold evE
@[simp] theorem v_ife (c a b : E) : evE C (.ife c a b) env = bnd (bnd (evE C c env) asBl) fun k => if k = true then evE C a env else evE C b env := by conv => lhs; unfold evE
@[simp] theorem v_tup (es : Es) : evE C (.tup es) env = bnd (evEs C es env) fun vs => if szOk vs.length = true then ret (.tup vs) else stuck := by conv => lhs; unfold evE
@[simp] theorem v_lst (new : Bool) (es : Es) : evE C (.lst new es) env = bnd (evEs C es env) fun vs => if szOk vs.length = true then mk new (.l vs) else stuck := by conv => lhs; unfold evE
@[simp] theorem v_ix (a b : E) : evE C (.ix a b) env = bnd (evE C a env) fun v => bnd (evE C b env) fun w => fun st => bnd (ofOpt (ixOp st v w)) ret st := by conv => lhs; unfold evE
@[simp] theorem v_sl (new : Bool) (a : E) (lo hi : Oe) : evE C (.sl new a lo hi) env = bnd (evE C a env) fun v => bnd (evO C lo env) fun l => bnd (evO C hi env) fun h => fun st => bnd (ofOpt (slOp st v l h)) (mk new) st := by conv => lhs; unfold evE
@[simp] theorem v_rev (new : Bool) (a : E) : evE C (.rev new a) env = bnd (evE C a env) fun v => fun st => bnd (ofOpt (revOp st v)) (mk new) st := by conv => lhs; unfold evE
@[simp] theorem v_callR (f : Str) (es : Es) : evE C (.call f .raw es) env = bnd (evEs C es env) fun vs => C f vs := by
  conv => lhs; unfold evE
  rfl
@[simp] theorem v_callC (f : Str) (es : Es) : evE C (.call f .cut es) env = bnd (evEs C es env) fun vs => cutM (C f vs) := by
  conv => lhs; unfold evE
  rfl
@[simp] theorem v_methR (c m f : Str) (o : E) (es : Es) : evE C (.meth c m f .raw o es) env = bnd (evE C o env) fun v => fun st => if isIns st c v = true then bnd (evEs C es env) (fun vs => C f (v :: vs)) st else .stuck := by
  conv => lhs; unfold evE
  rfl
@[simp] theorem v_methC (c m f : Str) (o : E) (es : Es) : evE C (.meth c m f .cut o es) env = bnd (evE C o env) fun v => fun st => if isIns st c v = true then bnd (evEs C es env) (fun vs => cutM (C f (v :: vs))) st else .stuck := by
  conv => lhs; unfold evE
  rfl
@[simp] theorem v_callK (f : Str) (es : Es) : evE C (.call f .keep es) env = bnd (evEs C es env) fun vs => keepM (C f vs) := by
  conv => lhs; unfold evE
  rfl
@[simp] theorem v_methK (c m f : Str) (o : E) (es : Es) : evE C (.meth c m f .keep o es) env = bnd (evE C o env) fun v => fun st => if isIns st c v = true then bnd (evEs C es env) (fun vs => keepM (C f (v :: vs))) st else .stuck := by
  conv => lhs; unfold evE
  rfl
@[simp] theorem v_gin (neg : Bool) (a : E) (x : Str) (ss : List Str) : evE C (.gin neg a x ss) env = bnd (bnd (evE C a env) asStr) fun x => ret (.bl (neg != ss.contains x)) := by conv => lhs; unfold evE
@[simp] theorem v_gdin (neg : Bool) (a : E) (x : Str) (ss : List (Str × Int)) : evE C (.gdin neg a x ss) env = bnd (bnd (evE C a env) asStr) fun x => ret (.bl (neg != (ss.lookup x).isSome)) := by conv => lhs; unfold evE
@[simp] theorem v_gdix (a : E) (x : Str) (ss : List (Str × Int)) : evE C (.gdix x ss a) env = bnd (bnd (evE C a env) asStr) fun x => bnd (ofOpt (ss.lookup x)) fun i => ret (.int i) := by conv => lhs; unfold evE
@[simp] theorem v_enum (a : E) : evI C (.enum a) env = bnd (evE C a env) fun v => fun st => match itemsOf st v with
    | some is => match is.at_ with
      | none => .ok ⟨enumFrom 0 is.xs, none⟩ st
      | some (.at l) => .ok ⟨enumFrom 0 is.xs, some (.en l)⟩ st
      | some (.en _) => .stuck
    | none => .stuck := by
  conv => lhs; unfold evI
  try rfl
@[simp] theorem v_fld (o : E) (f : Str) (k : Nat) : evE C (.fld o f k) env = bnd (evE C o env) fun v => fun st => ofOpt (fldOp st f k v) st := by conv => lhs; unfold evE
@[simp] theorem v_dnewK : evE C (.dnew false) env = mk true (.d []) := by
  unfold evE
  rfl
@[simp] theorem v_dnewT : evE C (.dnew true) env = mk true (.t []) := by
  unfold evE
  rfl
@[simp] theorem v_ddisp (ks : List Key) (is : List Ini) : evE C (.ddisp ks is) env = fun st => dispM ks (iniS env is st) := by conv => lhs; unfold evE
@[simp] theorem v_lenset (a : E) : evE C (.lenset a) env = bnd (evE C a env) fun v => fun st => bnd (ofOpt (lenSet st v)) ret st := by conv => lhs; unfold evE
@[simp] theorem v_srtset (new : Bool) (a : E) : evE C (.srtset new a) env = bnd (evE C a env) fun v => fun st => bnd (ofOpt (srtSet st v)) (mk new) st := by conv => lhs; unfold evE
@[simp] theorem v_pick (fs : List Str) (m : Md) (ix : E) (es : Es) : evE C (.pick fs m ix es) env = bnd (bnd (evE C ix env) asInt) fun i => bnd (ofOpt (L2.atI fs i)) fun f => bnd (evEs C es env) fun vs => inMd m (C f vs) := by conv => lhs; unfold evE
@[simp] theorem v_ndict (es : Es) : evE C (.ndict es) env = bnd (evEs C es env) fun vs => fun st => bnd (ofOpt (dicNs st vs)) ret st := by conv => lhs; unfold evE
@[simp] theorem e_dicNs {st : Store} {v : Val} : dicNs st [v] = dicN st v := (rfl)
@[simp] theorem v_lrange1 (new : Bool) (a : E) : evE C (.lrange1 new a) env = bnd (bnd (evE C a env) asInt) fun j => if rngOk 0 j = true then mk new (.l (rangeV 0 j)) else stuck := by conv => lhs; unfold evE
@[simp] theorem v_bi (new : Bool) (b : Bi) (es : Es) : evE C (.bi new b es) env = bnd (evEs C es env) fun vs => fun st => bnd (ofOpt (biOp st b vs)) (mk new) st := by conv => lhs; unfold evE
@[simp] theorem v_isin (a : E) (k : Kd) : evE C (.isin a k) env = bnd (evE C a env) fun v => fun st => bnd (ofOpt (isinOp st v k)) (fun b => ret (.bl b)) st := by conv => lhs; unfold evE
@[simp] theorem v_mth (new : Bool) (m : Mt) (o : E) (es : Es) : evE C (.mth new m o es) env = bnd (evE C o env) fun v => fun st => if tyOk m st v = true then bnd (evEs C es env) (fun vs => mtOp new m v vs) st else .stuck := by conv => lhs; unfold evE
@[simp] theorem v_lrange (new : Bool) (a b : E) : evE C (.lrange new a b) env = bnd (bnd (evE C a env) asInt) fun i => bnd (bnd (evE C b env) asInt) fun j => if rngOk i j = true then mk new (.l (rangeV i j)) else stuck := by conv => lhs; unfold evE
@[simp] theorem v_lcx (own : List Nat) (tg : Tg) (it : It) (e : E) : evE C (.lcx own tg it e) env = lcxSem own (evI C it) tg (evE C e) env := by conv => lhs; unfold evE
@[simp] theorem v_lc (new : Bool) (own : List Nat) (tg : Tg) (it : It) (ifs : Es) (e : E) : evE C (.lc new own tg it ifs e) env = lcSem new own (evI C it) tg (evT C ifs) (evE C e) env := by conv => lhs; unfold evE
@[simp] theorem v_es0 : evEs C .nil env = ret [] := by unfold evEs; rfl
@[simp] theorem v_es1 (e : E) (es : Es) : evEs C (.cons e es) env = bnd (evE C e env) fun v => bnd (evEs C es env) fun vs => ret (v :: vs) := by conv => lhs; unfold evEs
@[simp] theorem v_o0 : evO C .none env = ret none := by unfold evO; rfl
@[simp] theorem v_o1 (e : E) : evO C (.some e) env = bnd (bnd (evE C e env) asInt) fun i => ret (some i) := by conv => lhs; unfold evO
@[simp] theorem v_t0 : evT C .nil env = ret true := by unfold evT; rfl
@[simp] theorem v_t1 (e : E) : evT C (.cons e .nil) env = bnd (evE C e env) asBl := by conv => lhs; unfold evT
@[simp] theorem v_seq (e : E) : evI C (.seq e) env = bnd (evE C e env) fun v => fun st => ofOpt (itemsOf st v) st := by conv => lhs; unfold evI
@[simp] theorem v_chars (a : E) : evI C (.chars a) env = bnd (bnd (evE C a env) asStr) fun z => if szOk z.length = true then ret ⟨z.cps.toList.map fun c => .str ⟨#[c]⟩, none⟩ else stuck := by conv => lhs; unfold evI
@[simp] theorem v_rng1 (a : E) : evI C (.rng1 a) env = bnd (bnd (evE C a env) asInt) fun j => if rngOk 0 j = true then ret ⟨rangeV 0 j, none⟩ else stuck := by conv => lhs; unfold evI
@[simp] theorem v_rng2 (a b : E) : evI C (.rng2 a b) env = bnd (bnd (evE C a env) asInt) fun i => bnd (bnd (evE C b env) asInt) fun j => if rngOk i j = true then ret ⟨rangeV i j, none⟩ else stuck := by conv => lhs; unfold evI
@[simp] theorem x_asg (tg : Tg) (e : E) : exS C xs (.asg tg e) env = lift env (evE C e env) fun v st => optS (assignTg tg v env) fun env' => .ok (.nx env') st := by conv => lhs; unfold exS
@[simp] theorem x_sset (o i e : E) : exS C xs (.sset o i e) env = lift env (evE C e env) fun v => lift env (evE C o env) fun ov => lift env (evE C i env) fun iv st => optS (setOp st ov iv v) fun st' => .ok (.nx env) st' := by conv => lhs; unfold exS
@[simp] theorem x_par (i j : Nat) (a b : E) : exS C xs (.par i j a b) env = lift env (evE C a env) fun v => lift env (evE C b env) fun w st => .ok (.nx ((env.set i (some v)).set j (some w))) st := by conv => lhs; unfold exS
@[simp] theorem x_fset (c : Str) (o : E) (f : Str) (k : Nat) (e : E) : exS C xs (.fset c o f k e) env = lift env (evE C e env) fun v => lift env (evE C o env) fun ov st => optS (fsetOp st c f k ov v) fun st' => .ok (.nx env) st' := by conv => lhs; unfold exS
@[simp] theorem x_faug (c : Str) (o : E) (f : Str) (k : Nat) (i : Int) : exS C xs (.faug c o f k i) env = lift env (evE C o env) fun ov st => optS (faugOp st c f k i ov) fun st' => .ok (.nx env) st' := by conv => lhs; unfold exS
@[simp] theorem x_expr (e : E) : exS C xs (.expr e) env = lift env (evE C e env) fun _ st => .ok (.nx env) st := by conv => lhs; unfold exS
@[simp] theorem x_ret (e : E) : exS C xs (.ret e) env = lift env (evE C e env) fun v st => .ok (.rt v) st := by conv => lhs; unfold exS
@[simp] theorem x_retN : exS C xs .retN env = fun st => .ok (.rt .non) st := by conv => lhs; unfold exS
@[simp] theorem x_iff (c : E) (a b : Ss) : exS C xs (.iff c a b) env = lift env (bnd (evE C c env) asBl) fun k => if k = true then exSs C xs a env else exSs C xs b env := by conv => lhs; unfold exS
@[simp] theorem x_for (tg : Tg) (it : It) (body : Ss) : exS C xs (.forS tg it body) env = lift env (evI C it env) fun is => forLoop (exSs C xs body) tg (Still is) is.xs env := by conv => lhs; unfold exS
@[simp] theorem x_pass : exS C xs .pass env = fun st => .ok (.nx env) st := by conv => lhs; unfold exS
@[simp] theorem x_raise (c m : Str) : exS C xs (.raiseS c m) env = fun st => .exc c none env st := by conv => lhs; unfold exS
@[simp] theorem x_never : exS C xs .never env = fun _ => .stuck := by conv => lhs; unfold exS
@[simp] theorem x_raiseR (c : Str) (a : E) : exS C xs (.raiseR c a) env = lift env (evE C a env) fun v st => match v with
    | .int r => (match C c [v] st with
      | .ok _ _ => .exc c (some r) env st
      | _ => .stuck)
    | _ => .stuck := by
  conv => lhs; unfold exS
  all_goals rfl
@[simp] theorem x_tryRow (i : Nat) (body : Ss) (c : Str) : exS C xs (.tryRow i body c) env = fun st => match exSs C xs body env st with
    | .exc c1 row env' st' => if xs.contains c1 = true then (if subOf c1 c = true then (match row with
      | some r => if c1 = c then .ok (.rt (.lst [.int r])) st' else .stuck
      | none => .stuck) else .exc c1 row env' st') else .stuck
    | r => r := by
  funext st
  unfold exS
  cases exSs C xs body env st <;> rfl
@[simp] theorem x_try (body : Ss) (hs : Hs) : exS C xs (.tryS body hs) env = fun st => match exSs C xs body env st with
    | .exc c row env' st' => if xs.contains c = true then exHs C xs c row hs env' st' else .stuck
    | r => r := by
  funext st
  unfold exS
  cases exSs C xs body env st <;> rfl
end
end Rc
/-! Rw: what a run of statements must come to, laid out from the end. -/
namespace Rc
open PySem
section
variable {C : Str → List Val → M Val} {xs : List Str} {env : Env} {st : Store} {N : Env → Store → Prop} {T : Val → Store → Prop}
@[simp] theorem x_nil : exSs C xs .nil env st = .ok (.nx env) st := by unfold exSs; rfl
/-- N holds where the run goes on, T where it returns -/
def WP (r : RS) (N : Env → Store → Prop) (T : Val → Store → Prop) : Prop := match r with
  | .ok (.nx e) st => N e st
  | .ok (.rt v) st => T v st
  | _ => False
/-- the same, with statements still to come -/
def WPK (r : RS) (C : Str → List Val → M Val) (xs : List Str) (ss : Ss) (N : Env → Store → Prop) (T : Val → Store → Prop) : Prop := WP r (fun e s => WP (exSs C xs ss e s) N T) T
@[simp] theorem wp_nx : WP (.ok (.nx env) st) N T = N env st := rfl
@[simp] theorem wp_rt {v : Val} : WP (.ok (.rt v) st) N T = T v st := rfl
@[simp] theorem wpk_nx {ss : Ss} : WPK (.ok (.nx env) st) C xs ss N T = WP (exSs C xs ss env st) N T := rfl
@[simp] theorem wpk_rt {ss : Ss} {v : Val} : WPK (.ok (.rt v) st) C xs ss N T = T v st := rfl
@[simp] theorem wp_cons {s : S} {ss : Ss} : WP (exSs C xs (.cons s ss) env st) N T = WPK (exS C xs s env st) C xs ss N T := by
  unfold exSs WPK
  rcases exS C xs s env st with ⟨f, st1⟩ | ⟨c, r, e, st1⟩ | _
  · cases f <;> rfl
  · rfl
  · rfl
/-- two runs of statements as one -/
def app : Ss → Ss → Ss
  | .nil, b => b
  | .cons s a, b => .cons s (app a b)
  | .two s t a, b => .two s t (app a b)
@[simp] theorem app_nil {b : Ss} : app .nil b = b := rfl
@[simp] theorem app_cons {s : S} {a b : Ss} : app (.cons s a) b = .cons s (app a b) := rfl
theorem cutE_wp {st st' : Store} {env : Env} {k : Env → Store → RS} : WP (cutE st st' env k) N T = (CutOk st st' ∧ WP (k (frzE st' st.length env) (st'.take st.length)) N T) := by
  unfold cutE
  by_cases h : CutOk st st'
  · rw [if_pos h]; simp [h]
  · rw [if_neg h]
    refine propext ⟨fun z => z.elim, fun z => absurd z.1 h⟩
theorem wp_two {s t : S} {ss : Ss} {env1 env2 : Env} {st1 st2 : Store} (h1 : exS C xs s env st = .ok (.nx env1) st1) (h2 : exS C xs t env1 st1 = .ok (.nx env2) st2) (hc : CutOk st st2) (h : WP (exSs C xs ss (frzE st2 st.length env2) (st2.take st.length)) N T) : WP (exSs C xs (.two s t ss) env st) N T := by
  unfold exSs
  rw [h1]
  dsimp only
  rw [h2]
  dsimp only
  rw [cutE_wp]
  exact ⟨hc, h⟩
theorem wp_app : ∀ {a b : Ss} {env : Env} {st : Store}, WP (exSs C xs (app a b) env st) N T = WPK (exSs C xs a env st) C xs b N T
  | .nil, b, env, st => by
    rw [app_nil, x_nil, wpk_nx]
  | .cons s a, b, env, st => by
    rw [app_cons, wp_cons]
    have ih := fun (env : Env) (st : Store) => wp_app (a := a) (b := b) (env := env) (st := st)
    unfold exSs WPK
    rcases exS C xs s env st with ⟨f, st1⟩ | ⟨c, r, e, st1⟩ | _
    · cases f
      · exact ih _ _
      · rfl
    · rfl
    · rfl
  | .two s t a, b, env, st => by
    have ih := fun (env : Env) (st : Store) => wp_app (a := a) (b := b) (env := env) (st := st)
    show WP (exSs C xs (.two s t (app a b)) env st) N T = _
    unfold exSs WPK
    rcases exS C xs s env st with ⟨f, st1⟩ | ⟨c, r, e, st1⟩ | _
    · cases f with
      | nx env1 =>
        dsimp only
        rcases exS C xs t env1 st1 with ⟨f, st2⟩ | ⟨c, r, e, st2⟩ | _
        · cases f with
          | nx env2 =>
            dsimp only
            rw [cutE_wp, cutE_wp, ih]
            rfl
          | rt v => rfl
        · rfl
        · rfl
      | rt v => rfl
    · rfl
    · rfl
@[simp] theorem wpk_ss {a b : Ss} : WPK (exSs C xs a env st) C xs b N T = WP (exSs C xs (app a b) env st) N T := wp_app.symm
@[simp] theorem ite_at {β : Type} {p : Prop} [Decidable p] {f g : Store → β} : (if p then f else g) st = if p then f st else g st := by split <;> rfl
@[simp] theorem wpk_ite {p : Prop} [Decidable p] {a b : RS} {ss : Ss} : WPK (if p then a else b) C xs ss N T = if p then WPK a C xs ss N T else WPK b C xs ss N T := by split <;> rfl
theorem wpk_wp {r : RS} {ss : Ss} : WPK r C xs ss N T = WP r (fun e s => WP (exSs C xs ss e s) N T) T := rfl
theorem wp_mono {r : RS} {N' : Env → Store → Prop} {T' : Val → Store → Prop} (h : WP r N T) (hn : ∀ e s, N e s → N' e s) (ht : ∀ v s, T v s → T' v s) : WP r N' T' := by
  rcases r with ⟨f, st1⟩ | ⟨c, r, e, st1⟩ | _
  · cases f
    · exact hn _ _ h
    · exact ht _ _ h
  · exact h
  · exact h
theorem wp_run {d : Df} {args : List Val} (hl : args.length = d.ps) (h : WP (exSs C xs d.body (startEnv d.ns args) st) (fun _ st => T .non st) T) : ∃ v st', runDf C xs d args st = .ok v st' ∧ T v st' := by
  unfold runDf
  rw [if_pos hl]
  revert h
  rcases exSs C xs d.body (startEnv d.ns args) st with ⟨f, st1⟩ | ⟨c, r, e, st1⟩ | _
  · cases f
    · intro h
      exact ⟨_, _, rfl, h⟩
    · intro h
      exact ⟨_, _, rfl, h⟩
  · exact fun h => h.elim
  · exact fun h => h.elim
theorem wp_eq {d : Df} {args : List Val} {w : Val} {st2 : Store} (hl : args.length = d.ps) (h : WP (exSs C xs d.body (startEnv d.ns args) st) (fun _ st => .non = w ∧ st = st2) (fun v st => v = w ∧ st = st2)) : runDf C xs d args st = .ok w st2 := by
  obtain ⟨v, s, e, h⟩ := wp_run (T := fun v st => v = w ∧ st = st2) hl h
  rw [e, h.1, h.2]
/-- a loop by its invariant -/
theorem wp_for {body : Env → Store → RS} {tg : Tg} {ys : List Val} (I : Env → Store → Prop) : ∀ {zs : List Val}, (∀ x ∈ zs, ∀ env st, I env st → ∃ env', assignTg tg x env = some env' ∧ WP (body env' st) I T) →
    ∀ {env : Env} {st : Store}, I env st → WP (forLoop body tg (Still ⟨ys, none⟩) zs env st) I T
  | [], _, env, st, h => by
    rw [forLoop_nil (by simp)]
    exact h
  | x :: zs, hb, env, st, h => by
    obtain ⟨env', e1, e2⟩ := hb x (List.mem_cons_self ..) env st h
    rw [forLoop_cons (by simp) e1]
    have ih := fun (env : Env) (st : Store) (h : I env st) => wp_for (ys := ys) I (fun y hy => hb y (List.mem_cons_of_mem _ hy)) h
    revert e2
    rcases body env' st with ⟨f, st1⟩ | ⟨c, r, e, st1⟩ | _
    · cases f
      · exact fun h => ih _ _ h
      · exact fun h => h
    · exact fun h => h
    · exact fun h => h
theorem wpk_for {body : Env → Store → RS} {tg : Tg} {ys : List Val} {ss : Ss} (I : Env → Store → Prop) {zs : List Val} {env : Env} {st : Store} (h0 : I env st) (hb : ∀ x ∈ zs, ∀ env st, I env st → ∃ env', assignTg tg x env = some env' ∧ WP (body env' st) I T)
    (hn : ∀ env st, I env st → WP (exSs C xs ss env st) N T) : WPK (forLoop body tg (Still ⟨ys, none⟩) zs env st) C xs ss N T :=
  wp_mono (wp_for I hb h0) hn fun _ _ h => h
end
theorem bnd_ok {α β : Type} {m : M α} {f : α → M β} {st st' : Store} {a : α} (h : m st = .ok a st') : bnd m f st = f a st' := by
  unfold bnd
  rw [h]
/-! ### comprehensions -/
/-- a comprehension whose turns leave the store alone -/
theorem lc_pure {turn : Val → M (Option Val)} {ys : List Val} {st : Store} {g : Val → Option Val} : ∀ {zs acc : List Val}, (∀ x ∈ zs, turn x st = .ok (g x) st) → lcLoop turn (Still ⟨ys, none⟩) zs acc st = .ok (acc ++ zs.filterMap g) st
  | [], acc, _ => by
    unfold lcLoop
    simp
  | x :: zs, acc, h => by
    unfold lcLoop
    rw [if_pos (by simp), h x (List.mem_cons_self ..)]
    rcases hg : g x with _ | y
    · dsimp only
      rw [lc_pure fun y hy => h y (List.mem_cons_of_mem _ hy)]
      simp [hg]
    · dsimp only
      rw [lc_pure fun y hy => h y (List.mem_cons_of_mem _ hy)]
      simp [hg]
/-- a comprehension without tests whose turns may change the store -/
theorem lc_inv {turn : Val → M (Option Val)} {ys : List Val} (I : Store → Prop) (Q : Val → Prop) : ∀ {zs acc : List Val} {st : Store}, (∀ x ∈ zs, ∀ st, I st → ∃ y st', turn x st = .ok (some y) st' ∧ Q y ∧ I st') → I st → (∀ y ∈ acc, Q y) →
    ∃ ws st', lcLoop turn (Still ⟨ys, none⟩) zs acc st = .ok ws st' ∧ ws.length = acc.length + zs.length ∧ (∀ y ∈ ws, Q y) ∧ I st'
  | [], acc, st, _, hi, hq => ⟨acc, st, by unfold lcLoop; rfl, by simp, hq, hi⟩
  | x :: zs, acc, st, h, hi, hq => by
    obtain ⟨y, st1, e, qy, h1⟩ := h x (List.mem_cons_self ..) st hi
    obtain ⟨ws, st2, e2, l, q, i⟩ := lc_inv (turn := turn) (ys := ys) I Q (zs := zs) (acc := acc ++ [y]) (fun y hy => h y (List.mem_cons_of_mem _ hy)) h1 (by
      intro z hz
      rcases List.mem_append.mp hz with hz | hz
      · exact hq z hz
      · rw [List.mem_singleton.mp hz]
        exact qy)
    refine ⟨ws, st2, ?_, ?_, q, i⟩
    · unfold lcLoop
      rw [if_pos (by simp), e]
      exact e2
    · rw [l]
      simp
      omega
section
variable {C : Str → List Val → M Val} {env : Env} {st : Store}
/-- a comprehension over frozen items, without tests, whose turns leave the store alone -/
theorem lc_map {own : List Nat} {it : It} {tg : Tg} {e : E} {zs : List Val} {st1 : Store} (f : Val → Val) (hi : evI C it env st = .ok ⟨zs, none⟩ st1) (he : ∀ x ∈ zs, ∃ env', assignTg tg x (wipe env own) = some env' ∧ evE C e env' st1 = .ok (f x) st1) :
    lcSem false own (evI C it) tg (evT C .nil) (evE C e) env st = .ok (.lst (zs.map f)) st1 := by
  rw [lcSem_eq]
  unfold lcRaw
  rw [bnd_ok hi]
  have : lcLoop (lcTurn tg own (evT C .nil) (evE C e) env) (Still ⟨zs, none⟩) zs [] st1 = .ok ([] ++ zs.filterMap fun x => some (f x)) st1 := by
    refine lc_pure fun x hx => ?_
    obtain ⟨env', e1, e2⟩ := he x hx
    unfold lcTurn
    rw [e1]
    simp [e2]
  rw [bnd_ok this]
  simp
/-- the same, with a test -/
theorem lc_filter {own : List Nat} {it : It} {tg : Tg} {e t : E} {zs : List Val} {st1 : Store} (p : Val → Bool) (f : Val → Val) (hi : evI C it env st = .ok ⟨zs, none⟩ st1) (he : ∀ x ∈ zs, ∃ env', assignTg tg x (wipe env own) = some env' ∧ evE C t env' st1 = .ok (.bl (p x)) st1 ∧ (p x = true → evE C e env' st1 = .ok (f x) st1)) :
    lcSem false own (evI C it) tg (evT C (.cons t .nil)) (evE C e) env st = .ok (.lst ((zs.filter p).map f)) st1 := by
  rw [lcSem_eq]
  unfold lcRaw
  rw [bnd_ok hi]
  have : lcLoop (lcTurn tg own (evT C (.cons t .nil)) (evE C e) env) (Still ⟨zs, none⟩) zs [] st1 = .ok ([] ++ zs.filterMap fun x => if p x = true then some (f x) else none) st1 := by
    refine lc_pure fun x hx => ?_
    obtain ⟨env', e1, e2, e3⟩ := he x hx
    unfold lcTurn
    rw [e1]
    by_cases hp : p x = true
    · simp [e2, e3 hp, hp]
    · simp [e2, hp]
  rw [bnd_ok this]
  have e : ∀ zs : List Val, (zs.filterMap fun x => if p x = true then some (f x) else none) = (zs.filter p).map f := by
    intro zs
    induction zs with
    | nil => rfl
    | cons z zs ih =>
      by_cases hp : p z = true
      · simp [hp, ih]
      · simp [hp, ih]
  simp [e]
/-- a comprehension that draws -/
theorem lc_draw {own : List Nat} {it : It} {tg : Tg} {e : E} {zs : List Val} {st1 : Store} (I : Store → Prop) (Q : Val → Prop) (hi : evI C it env st = .ok ⟨zs, none⟩ st1) (h1 : I st1) (he : ∀ x ∈ zs, ∀ st, I st → ∃ env' y st', assignTg tg x (wipe env own) = some env' ∧ evE C e env' st = .ok y st' ∧ Q y ∧ I st') :
    ∃ ws st2, lcSem false own (evI C it) tg (evT C .nil) (evE C e) env st = .ok (.lst ws) st2 ∧ ws.length = zs.length ∧ (∀ y ∈ ws, Q y) ∧ I st2 := by
  obtain ⟨ws, st2, e2, l, q, i⟩ := lc_inv (turn := lcTurn tg own (evT C .nil) (evE C e) env) (ys := zs) I Q (zs := zs) (acc := []) (st := st1) (by
    intro x hx st hi
    obtain ⟨env', y, st', e1, e2, q, i⟩ := he x hx st hi
    refine ⟨y, st', ?_, q, i⟩
    unfold lcTurn
    rw [e1]
    simp [e2]) h1 (by simp)
  refine ⟨ws, st2, ?_, by rw [l]; simp, q, i⟩
  rw [lcSem_eq]
  unfold lcRaw
  rw [bnd_ok hi]
  rw [bnd_ok e2]
  simp
end
/-! ### loops that look, and comprehensions, over carried lists -/
section
variable {C : Str → List Val → M Val} {xs : List Str} {env : Env} {st : Store} {N : Env → Store → Prop} {T : Val → Store → Prop} {α : Type}
/-- a loop that returns w at the first item that p lets not by -/
theorem wp_all {body : Env → Store → RS} {tg : Tg} {ys : List Val} (I : Env → Prop) (p : α → Bool) (w : Val) {inj : α → Val} : ∀ {ws : List α} {env : Env}, I env → (∀ x ∈ ws, ∀ env, I env → ∃ env', assignTg tg (inj x) env = some env' ∧ WP (body env' st) (fun e s => s = st ∧ I e ∧ p x = true) (fun v s => s = st ∧ v = w ∧ p x = false)) →
    WP (forLoop body tg (Still ⟨ys, none⟩) (ws.map inj) env st) (fun e s => s = st ∧ I e ∧ ws.all p = true) (fun v s => s = st ∧ v = w ∧ ws.all p = false)
  | [], env, h, _ => by
    rw [List.map_nil]
    rw [forLoop_nil (by simp)]
    exact ⟨rfl, h, rfl⟩
  | x :: ws, env, h, hb => by
    obtain ⟨env', e1, e2⟩ := hb x (List.mem_cons_self ..) env h
    rw [List.map_cons]
    rw [forLoop_cons (by simp) e1]
    have ih := fun (env : Env) (h : I env) => wp_all (body := body) (tg := tg) (ys := ys) I p w h fun y hy => hb y (List.mem_cons_of_mem _ hy)
    revert e2
    rcases body env' st with ⟨f, st1⟩ | ⟨c, r, e, st1⟩ | _
    · cases f
      · rintro ⟨rfl, hi, hp⟩
        refine wp_mono (ih _ hi) ?_ ?_
        · rintro e s ⟨rfl, i, a⟩
          exact ⟨rfl, i, by rw [List.all_cons, hp, a]; rfl⟩
        · rintro e s ⟨rfl, i, a⟩
          exact ⟨rfl, i, by rw [List.all_cons, a, Bool.and_false]⟩
      · rintro ⟨rfl, hi, hp⟩
        exact ⟨rfl, hi, by rw [List.all_cons, hp, Bool.false_and]⟩
    · exact fun h => h
    · exact fun h => h
theorem wpk_all {body : Env → Store → RS} {tg : Tg} {ys : List Val} {ss : Ss} (I : Env → Prop) (p : α → Bool) (w : Val) {inj : α → Val} {ws : List α} (h0 : I env) (hb : ∀ x ∈ ws, ∀ env, I env → ∃ env', assignTg tg (inj x) env = some env' ∧ WP (body env' st) (fun e s => s = st ∧ I e ∧ p x = true) (fun v s => s = st ∧ v = w ∧ p x = false))
    (hn : ∀ e, I e → ws.all p = true → WP (exSs C xs ss e st) N T) (ht : ws.all p = false → T w st) : WPK (forLoop body tg (Still ⟨ys, none⟩) (ws.map inj) env st) C xs ss N T := by
  refine wp_mono (wp_all I p w h0 hb) ?_ ?_
  · rintro e s ⟨rfl, i, a⟩
    exact hn e i a
  · rintro v s ⟨rfl, rfl, a⟩
    exact ht a
theorem lc_pureA {turn : Val → M (Option Val)} {ys : List Val} {g : α → Option Val} {inj : α → Val} : ∀ {ws : List α} {acc : List Val}, (∀ x ∈ ws, turn (inj x) st = .ok (g x) st) → lcLoop turn (Still ⟨ys, none⟩) (ws.map inj) acc st = .ok (acc ++ ws.filterMap g) st
  | [], acc, _ => by
    unfold lcLoop
    simp
  | x :: ws, acc, h => by
    rw [List.map_cons]
    unfold lcLoop
    rw [if_pos (by simp), h x (List.mem_cons_self ..)]
    rcases hg : g x with _ | y
    · dsimp only
      rw [lc_pureA fun y hy => h y (List.mem_cons_of_mem _ hy)]
      simp [hg]
    · dsimp only
      rw [lc_pureA fun y hy => h y (List.mem_cons_of_mem _ hy)]
      simp [hg]
theorem lc_mapA {own : List Nat} {it : It} {tg : Tg} {e : E} {st1 : Store} {ws : List α} (inj : α → Val) (f : α → Val) (hi : evI C it env st = .ok ⟨ws.map inj, none⟩ st1) (he : ∀ x ∈ ws, ∃ env', assignTg tg (inj x) (wipe env own) = some env' ∧ evE C e env' st1 = .ok (f x) st1) :
    lcSem false own (evI C it) tg (evT C .nil) (evE C e) env st = .ok (.lst (ws.map f)) st1 := by
  rw [lcSem_eq]
  unfold lcRaw
  rw [bnd_ok hi]
  have : lcLoop (lcTurn tg own (evT C .nil) (evE C e) env) (Still ⟨ws.map inj, none⟩) (ws.map inj) [] st1 = .ok ([] ++ ws.filterMap fun x => some (f x)) st1 := by
    refine lc_pureA fun x hx => ?_
    obtain ⟨env', e1, e2⟩ := he x hx
    unfold lcTurn
    rw [e1]
    simp [e2]
  rw [bnd_ok this]
  simp
theorem lc_filterA {own : List Nat} {it : It} {tg : Tg} {e t : E} {st1 : Store} {ws : List α} (inj : α → Val) (p : α → Bool) (f : α → Val) (hi : evI C it env st = .ok ⟨ws.map inj, none⟩ st1) (he : ∀ x ∈ ws, ∃ env', assignTg tg (inj x) (wipe env own) = some env' ∧ evE C t env' st1 = .ok (.bl (p x)) st1 ∧ (p x = true → evE C e env' st1 = .ok (f x) st1)) :
    lcSem false own (evI C it) tg (evT C (.cons t .nil)) (evE C e) env st = .ok (.lst ((ws.filter p).map f)) st1 := by
  rw [lcSem_eq]
  unfold lcRaw
  rw [bnd_ok hi]
  have : lcLoop (lcTurn tg own (evT C (.cons t .nil)) (evE C e) env) (Still ⟨ws.map inj, none⟩) (ws.map inj) [] st1 = .ok ([] ++ ws.filterMap fun x => if p x = true then some (f x) else none) st1 := by
    refine lc_pureA fun x hx => ?_
    obtain ⟨env', e1, e2, e3⟩ := he x hx
    unfold lcTurn
    rw [e1]
    by_cases hp : p x = true
    · simp [e2, e3 hp, hp]
    · simp [e2, hp]
  rw [bnd_ok this]
  have e : ∀ ws : List α, (ws.filterMap fun x => if p x = true then some (f x) else none) = (ws.filter p).map f := by
    intro ws
    induction ws with
    | nil => rfl
    | cons z zs ih =>
      by_cases hp : p z = true
      · simp [hp, ih]
      · simp [hp, ih]
  simp [e]
end
end Rc
namespace D
open PySem Rc
def d_good_cell : Df := ⟨1, 1, (.cons (.ret (.chain .LtE .LtE (.glob "GONE" (.int (-1))) (.var 0) (.glob "LAST_SIGN" (.int 9)))) .nil)⟩
def d_law_open : Df := ⟨1, 1, (.cons (.ret (.lst true (.cons (.bi false .list (.cons (.sl false (.var 0) .none (.some (.int 63))) .nil)) (.cons (.int 0) (.cons (.int 0) (.cons (.int 29) .nil)))))) .nil)⟩
def d_law_pull : Df := ⟨2, 5, (.cons (.iff (.bop .And (.cons (.cmp .Lt (.ix (.var 0) (.int 2)) (.var 1)) (.cons (.cmp .Lt (.ix (.var 0) (.int 1)) (.bi false .len (.cons (.ix (.var 0) (.int 0)) .nil))) .nil))) (.cons (.asg (.nm 3) (.ix (.ix (.var 0) (.int 0)) (.ix (.var 0) (.int 1)))) (.cons (.sset (.var 0) (.int 1) (.bin false .Add (.ix (.var 0) (.int 1)) (.int 1))) (.cons (.sset (.var 0) (.int 2) (.int 0)) (.cons (.iff (.cmp .GtE (.var 3) (.bin false .Pow (.int 10) (.int 18))) (.cons (.sset (.var 0) (.int 2) (.var 3)) .nil) (.cons (.sset (.var 0) (.int 3) (.bin false .Mod (.bin false .Add (.bin false .Add (.bin false .Mult (.ix (.var 0) (.int 3)) (.int 48271)) (.bin false .Mult (.bin false .Mod (.var 3) (.int 2147483629)) (.int 69621))) (.int 12345)) (.int 2147483647))) .nil)) .nil)))) .nil) (.cons (.iff (.cmp .GtE (.ix (.var 0) (.int 2)) (.var 1)) (.cons (.asg (.nm 4) (.bin false .Mod (.ix (.var 0) (.int 2)) (.var 1))) (.cons (.sset (.var 0) (.int 2) (.bin false .FloorDiv (.ix (.var 0) (.int 2)) (.var 1))) (.cons (.ret (.var 4)) .nil))) .nil) (.cons (.asg (.nm 2) (.ix (.var 0) (.int 3))) (.cons (.sset (.var 0) (.int 3) (.bin false .Mod (.bin false .Add (.bin false .Add (.bin false .Mult (.bin false .Mod (.bin false .Mult (.var 2) (.var 2)) (.int 2147483629)) (.int 5)) (.bin false .Mult (.var 2) (.int 16811))) (.int 2531011)) (.int 2147483647))) (.cons (.ret (.bin false .Mod (.bin false .Add (.bin false .FloorDiv (.ix (.var 0) (.int 3)) (.int 59)) (.bin false .Mult (.bin false .Mod (.ix (.var 0) (.int 3)) (.int 8191)) (.int 31))) (.var 1))) .nil)))))⟩
def d_law_num : Df := ⟨1, 1, (.cons (.ret (.bop .And (.cons (.isin (.var 0) .int) (.cons (.not (.isin (.var 0) .bool)) .nil)))) .nil)⟩
def d_law_like_e0 : E := (.call "_law_like" .raw (.cons (.ix (.var 0) (.var 2)) (.cons (.ix (.var 1) (.var 2)) .nil)))
def d_law_like : Df := ⟨2, 3, (.cons (.iff (.cmp .Is (.var 1) .non) (.cons (.ret (.cmp .Is (.var 0) .non)) .nil) .nil) (.cons (.iff (.isin (.var 1) .bool) (.cons (.ret (.bop .And (.cons (.isin (.var 0) .bool) (.cons (.cmp .Eq (.var 0) (.var 1)) .nil)))) .nil) .nil) (.cons (.iff (.isin (.var 1) .int) (.cons (.ret (.bop .And (.cons (.call "_law_num" .raw (.cons (.var 0) .nil)) (.cons (.cmp .Eq (.var 0) (.var 1)) .nil)))) .nil) .nil) (.cons (.iff (.isin (.var 1) .str) (.cons (.ret (.bop .And (.cons (.isin (.var 0) .str) (.cons (.cmp .Eq (.var 0) (.var 1)) .nil)))) .nil) .nil) (.cons (.iff (.bop .Or (.cons (.cmp .NotEq (.isin (.var 1) .tuple) (.isin (.var 0) .tuple)) (.cons (.cmp .NotEq (.isin (.var 1) .list) (.isin (.var 0) .list)) .nil))) (.cons (.ret (.bl false)) .nil) .nil) (.cons (.iff (.cmp .NotEq (.bi false .len (.cons (.var 0) .nil)) (.bi false .len (.cons (.var 1) .nil))) (.cons (.ret (.bl false)) .nil) .nil) (.cons (.ret (.bi false .all (.cons (.lc false [2] (.nm 2) (.rng1 (.bi false .len (.cons (.var 1) .nil))) .nil d_law_like_e0) .nil))) .nil)))))))⟩
def d_good_strip_e1 : E := (.call "good_cell" .raw (.cons (.var 2) .nil))
def d_good_strip_b0 : Ss := (.cons (.iff (.bop .Or (.cons (.cmp .Lt (.bi false .len (.cons (.var 1) .nil)) (.int 1)) (.cons (.cmp .Gt (.bi false .len (.cons (.var 1) .nil)) (.glob "MOST_ROWS" (.int 3))) (.cons (.cmp .NotEq (.bi false .len (.cons (.var 1) .nil)) (.bi false .len (.cons (.ix (.var 0) (.int 0)) .nil))) .nil)))) (.cons (.ret (.bl false)) .nil) .nil) (.cons (.iff (.not (.bi false .all (.cons (.lc false [2] (.nm 2) (.seq (.var 1)) .nil d_good_strip_e1) .nil))) (.cons (.ret (.bl false)) .nil) .nil) .nil))
def d_good_strip : Df := ⟨1, 3, (.cons (.iff (.bop .Or (.cons (.cmp .Lt (.bi false .len (.cons (.var 0) .nil)) (.int 1)) (.cons (.cmp .Gt (.bi false .len (.cons (.var 0) .nil)) (.glob "MOST_WIDE" (.int 12))) .nil))) (.cons (.ret (.bl false)) .nil) .nil) (.cons (.forS (.nm 1) (.seq (.var 0)) d_good_strip_b0) (.cons (.ret (.bl true)) .nil)))⟩
def d_law_strip_ok_e1 : E := (.chain .LtE .LtE (.neg (.int 1)) (.var 3) (.int 9))
def d_law_strip_ok_b0 : Ss := (.cons (.iff (.bop .Or (.cons (.cmp .NotEq (.bi false .len (.cons (.var 2) .nil)) (.var 1)) (.cons (.not (.bi false .all (.cons (.lc false [3] (.nm 3) (.seq (.var 2)) .nil d_law_strip_ok_e1) .nil))) .nil))) (.cons (.ret (.bl false)) .nil) .nil) .nil)
def d_law_strip_ok : Df := ⟨1, 4, (.cons (.iff (.not (.chain .LtE .LtE (.int 1) (.bi false .len (.cons (.var 0) .nil)) (.int 12))) (.cons (.ret (.bl false)) .nil) .nil) (.cons (.asg (.nm 1) (.bi false .len (.cons (.ix (.var 0) (.int 0)) .nil))) (.cons (.forS (.nm 2) (.seq (.var 0)) d_law_strip_ok_b0) (.cons (.ret (.chain .LtE .LtE (.int 1) (.var 1) (.int 3))) .nil))))⟩
def d_law_any_strip_e1 : E := (.bin false .Sub (.call "_law_pull" .raw (.cons (.var 0) (.cons (.bin false .Add (.var 2) (.int 1)) .nil))) (.int 1))
def d_law_any_strip_e0 : E := (.bi false .tuple (.cons (.lc false [5] (.nm 5) (.rng1 (.var 1)) .nil d_law_any_strip_e1) .nil))
def d_law_any_strip : Df := ⟨2, 6, (.cons (.asg (.nm 2) (.ix (.tup (.cons (.int 2) (.cons (.int 3) (.cons (.int 10) .nil)))) (.call "_law_pull" .raw (.cons (.var 0) (.cons (.int 3) .nil))))) (.cons (.asg (.nm 3) (.bin false .Add (.int 1) (.call "_law_pull" .raw (.cons (.var 0) (.cons (.ix (.tup (.cons (.int 4) (.cons (.int 12) .nil))) (.call "_law_pull" .raw (.cons (.var 0) (.cons (.int 2) .nil)))) .nil))))) (.cons (.ret (.bi false .tuple (.cons (.lc false [4] (.nm 4) (.rng1 (.var 3)) .nil d_law_any_strip_e0) .nil))) .nil)))⟩
def d_law_strip_words_e1 : E := (.ix (.str "?0123456789") (.bin false .Add (.var 2) (.int 1)))
def d_law_strip_words_e0 : E := (.mth false .join (.str "") (.cons (.lc false [2] (.nm 2) (.seq (.var 1)) .nil d_law_strip_words_e1) .nil))
def d_law_strip_words : Df := ⟨1, 3, (.cons (.ret (.mth false .join (.str " ") (.cons (.lc false [1] (.nm 1) (.seq (.var 0)) .nil d_law_strip_words_e0) .nil))) .nil)⟩
def d_BadText : Df := ⟨1, 1, (.cons .pass .nil)⟩
def d_cell_in : Df := ⟨1, 1, (.cons (.iff (.cmp .Eq (.var 0) (.str "?")) (.cons (.ret (.glob "GONE" (.int (-1)))) .nil) .nil) (.cons (.iff (.cmp .NotIn (.var 0) (.glob "FIGURES" (.str "0123456789"))) (.cons (.raiseR "BadText" (.int 0)) .nil) .nil) (.cons (.ret (.bi false .int (.cons (.var 0) .nil))) .nil)))⟩
def d_read_strip_e1 : E := (.call "cell_in" .raw (.cons (.var 3) .nil))
def d_read_strip_e0 : E := (.bi false .tuple (.cons (.lcx [3] (.nm 3) (.chars (.var 2)) d_read_strip_e1) .nil))
def d_read_strip : Df := ⟨1, 4, (.cons (.asg (.nm 1) (.bi false .tuple (.cons (.lcx [2] (.nm 2) (.seq (.mth false .split (.var 0) (.cons (.str " ") .nil))) d_read_strip_e0) .nil))) (.cons (.iff (.not (.call "good_strip" .raw (.cons (.var 1) .nil))) (.cons (.raiseR "BadText" (.int 0)) .nil) .nil) (.cons (.ret (.var 1)) .nil)))⟩
def d_law_sign : Df := ⟨1, 2, (.cons (.asg (.nm 1) (.bin false .Add (.str " 0123456789-. 0123456789-.!\"#$&'()*+,/:;<=>?@ABCDEFGHIJKLMNOPQRSTUVWXYZ[\\]^_") (.str "\n"))) (.cons (.asg (.nm 1) (.bin false .Add (.bin false .Add (.var 1) (.str "abcdefghijklmnopqrstuvwxyz{|}~")) (.str "`"))) (.cons (.ret (.ix (.var 1) (.call "_law_pull" .raw (.cons (.var 0) (.cons (.bi false .len (.cons (.var 1) .nil)) .nil))))) .nil)))⟩
def d_law_asked4 : Df := ⟨1, 2, (.cons (.tryRow 1 (.cons (.ret (.call "read_strip" .raw (.cons (.var 0) .nil))) .nil) "BadText") .nil)⟩
def d_law_read_e2 : E := (.bin false .Sub (.mth false .sindex (.str "?0123456789") (.cons (.var 4) .nil)) (.int 1))
def d_law_read_e1 : E := (.cmp .In (.var 4) (.str "?0123456789"))
def d_law_read_b0 : Ss := (.cons (.iff (.not (.bi false .all (.cons (.lc false [4] (.nm 4) (.chars (.var 2)) .nil d_law_read_e1) .nil))) (.cons (.ret .non) .nil) .nil) (.cons (.expr (.mth false .append (.var 1) (.cons (.bi false .tuple (.cons (.lc false [4] (.nm 4) (.chars (.var 2)) .nil d_law_read_e2) .nil)) .nil))) .nil))
def d_law_read : Df := ⟨1, 5, (.cons (.asg (.nm 1) (.lst true .nil)) (.cons (.forS (.nm 2) (.seq (.mth false .split (.var 0) (.cons (.str " ") .nil))) d_law_read_b0) (.cons (.asg (.nm 3) (.bi false .tuple (.cons (.var 1) .nil))) (.cons (.ret (.ife (.call "_law_strip_ok" .raw (.cons (.var 3) .nil)) (.var 3) .non)) .nil))))⟩
def d_law_spoilt_e0 : E := (.bin false .Add (.var 7) (.str "3"))
def d_law_spoilt : Df := ⟨2, 8, (.cons (.asg (.nm 2) (.call "_law_pull" .raw (.cons (.var 0) (.cons (.int 10) .nil)))) (.cons (.asg (.nm 3) (.mth true .split (.var 1) (.cons (.str " ") .nil))) (.cons (.asg (.nm 4) (.call "_law_pull" .raw (.cons (.var 0) (.cons (.bi false .len (.cons (.var 3) .nil)) .nil)))) (.cons (.iff (.cmp .Eq (.var 2) (.int 0)) (.cons (.expr (.mth false .insert (.var 3) (.cons (.var 4) (.cons (.ix (.var 3) (.call "_law_pull" .raw (.cons (.var 0) (.cons (.bi false .len (.cons (.var 3) .nil)) .nil)))) .nil)))) .nil) .nil) (.cons (.iff (.cmp .Eq (.var 2) (.int 1)) (.cons (.expr (.mth false .pop (.var 3) (.cons (.var 4) .nil))) .nil) .nil) (.cons (.iff (.cmp .Eq (.var 2) (.int 2)) (.cons (.sset (.var 3) (.var 4) (.sl false (.ix (.var 3) (.var 4)) (.some (.int 1)) .none)) .nil) .nil) (.cons (.iff (.cmp .Eq (.var 2) (.int 3)) (.cons (.sset (.var 3) (.var 4) (.bin false .Add (.ix (.var 3) (.var 4)) (.ix (.str "?07x") (.call "_law_pull" .raw (.cons (.var 0) (.cons (.int 4) .nil)))))) .nil) .nil) (.cons (.iff (.cmp .Eq (.var 2) (.int 4)) (.cons (.asg (.nm 3) (.lc true [7] (.nm 7) (.seq (.var 3)) .nil d_law_spoilt_e0)) .nil) .nil) (.cons (.iff (.cmp .Lt (.var 2) (.int 5)) (.cons (.ret (.mth false .join (.str " ") (.cons (.var 3) .nil))) .nil) .nil) (.cons (.asg (.nm 5) (.call "_law_pull" .raw (.cons (.var 0) (.cons (.bin false .Add (.bi false .len (.cons (.var 1) .nil)) (.int 1)) .nil)))) (.cons (.asg (.nm 6) (.call "_law_sign" .raw (.cons (.var 0) .nil))) (.cons (.iff (.cmp .Eq (.var 2) (.int 5)) (.cons (.ret (.bin false .Add (.sl false (.var 1) .none (.some (.var 5))) (.sl false (.var 1) (.some (.bin false .Add (.var 5) (.int 1))) .none))) .nil) .nil) (.cons (.ret (.bin false .Add (.bin false .Add (.sl false (.var 1) .none (.some (.var 5))) (.var 6)) (.sl false (.var 1) (.some (.bin false .Add (.var 5) (.bin false .Mod (.var 2) (.int 2)))) .none))) .nil)))))))))))))⟩
def d_law_k06_b0 : Ss := (.cons (.asg (.nm 3) (.call "_law_any_strip" .raw (.cons (.var 1) (.cons (.bin false .Add (.int 1) (.call "_law_pull" .raw (.cons (.var 1) (.cons (.int 3) .nil)))) .nil)))) (.cons (.iff (.not (.call "_law_like" .raw (.cons (.call "_law_asked" .raw (.cons (.call "_law_strip_words" .raw (.cons (.var 3) .nil)) .nil)) (.cons (.var 3) .nil)))) (.cons (.ret (.bl false)) .nil) .nil) (.cons (.asg (.nm 4) (.call "_law_spoilt" .raw (.cons (.var 1) (.cons (.call "_law_strip_words" .raw (.cons (.var 3) .nil)) .nil)))) (.cons (.iff (.cmp .Eq (.call "_law_pull" .raw (.cons (.var 1) (.cons (.int 3) .nil))) (.int 0)) (.cons (.asg (.nm 4) (.call "_law_spoilt" .raw (.cons (.var 1) (.cons (.var 4) .nil)))) .nil) .nil) (.cons (.asg (.nm 5) (.call "_law_read" .raw (.cons (.var 4) .nil))) (.cons (.iff (.not (.call "_law_like" .raw (.cons (.call "_law_asked" .raw (.cons (.var 4) .nil)) (.cons (.ife (.cmp .Is (.var 5) .non) (.lst false (.cons (.int 0) .nil)) (.var 5)) .nil)))) (.cons (.ret (.bl false)) .nil) .nil) .nil))))))
def d_law_k06 : Df := ⟨1, 6, (.cons (.asg (.nm 1) (.call "_law_open" .raw (.cons (.var 0) .nil))) (.cons (.forS (.nm 2) (.rng1 (.int 6)) d_law_k06_b0) (.cons (.ret (.bl true)) .nil)))⟩
end D
/-! P1: draws, cells, likeness. -/
namespace P
open PySem (Str PyData)
open Rc
abbrev Fn := List Val → M Val
theorem callF_at {defs : List (Str × Df)} {ini : List (Str × Str)} {xs : List Str} {n : Nat} {f : Str} {d : Df} (hi : ini.lookup f = none) (h : defs.lookup f = some d) : callF defs ini xs (n + 1) f = runDf (callF defs ini xs n) xs d := by
  show (match ini.lookup f with
    | some g => mkNew f (callF defs ini xs n g)
    | none => match defs.lookup f with
      | some d => runDf (callF defs ini xs n) xs d
      | none => fun _ => stuck) = _
  rw [hi, h]
variable {C : Str → List Val → M Val} {xs : List Str}
theorem mem_rangeV {lo hi : Int} {x : Val} (h : x ∈ rangeV lo hi) : ∃ i, x = .int i ∧ lo ≤ i ∧ i < hi := by
  unfold rangeV at h
  obtain ⟨k, hk, rfl⟩ := List.mem_map.mp h
  have := List.mem_range.mp hk
  exact ⟨_, rfl, by omega, by omega⟩
theorem len_rangeV (lo hi : Int) : (rangeV lo hi).length = (hi - lo).toNat := by
  unfold rangeV
  simp
/-! ### draws -/
/-- the list of a draw -/
def drawL (ns : List Int) (i r s : Int) : Ob := .lst [.lst (ns.map .int), .int i, .int r, .int s]
inductive DrawOb : Ob → Prop
  | mk (ns : List Int) (i : Nat) (r s : Int) : 0 ≤ r → 0 ≤ s → s < 2147483647 → DrawOb (drawL ns i r s)
def nextS (q : Int) : Int := (q * q % 2147483629 * 5 + q * 16811 + 2531011) % 2147483647
def outV (q n : Int) : Int := (q / 59 + q % 8191 * 31) % n
theorem nextS_ok (s : Int) : 0 ≤ nextS s ∧ nextS s < 2147483647 := ⟨Int.emod_nonneg _ (by decide), Int.emod_lt_of_pos _ (by decide)⟩
def Ok_law_pull (F : Fn) : Prop := ∀ (o : Ob), DrawOb o → ∀ (n : Int), 0 < n → n < 1073741824 → ∀ rest : Store, ∃ v o', DrawOb o' ∧ 0 ≤ v ∧ v < n ∧ F [.loc 0, .int n] (o :: rest) = .ok (.int v) (o' :: rest)
theorem d_law_pull_ok : Ok_law_pull (runDf C xs D.d_law_pull) := by
  intro o h n h0 h1 rest
  obtain ⟨ns, i, r, s, hr, hs, hs2⟩ := h
  by_cases c1 : r < n ∧ i < ns.length
  · have e0 : ns[i]? = some ns[i] := List.getElem?_eq_getElem c1.2
    by_cases c2 : 1000000000000000000 ≤ ns[i]
    · have c3 : n ≤ ns[i] := by omega
      refine ⟨ns[i] % n, drawL ns (i + 1 : Nat) (ns[i] / n) s, .mk _ _ _ _ (Int.ediv_nonneg (by omega) (by omega)) hs hs2, Int.emod_nonneg _ (by omega), Int.emod_lt_of_pos _ h0, ?_⟩
      unfold D.d_law_pull drawL
      simp [exSs, L2.atI, L2.ixN, *]
    · have c3 : ¬ n ≤ 0 := by omega
      generalize hq : (s * 48271 + ns[i] % 2147483629 * 69621 + 12345) % 2147483647 = q
      have hq0 : 0 ≤ q := by rw [← hq]; exact Int.emod_nonneg _ (by decide)
      have hq1 : q < 2147483647 := by rw [← hq]; exact Int.emod_lt_of_pos _ (by decide)
      have hq2 : -18446744073709551616 < q := by omega
      have hq3 : q < 18446744073709551616 := by omega
      refine ⟨outV (nextS q) n, drawL ns (i + 1 : Nat) 0 (nextS q), .mk _ _ _ _ (by decide) (nextS_ok q).1 (nextS_ok q).2, Int.emod_nonneg _ (by omega), Int.emod_lt_of_pos _ h0, ?_⟩
      unfold D.d_law_pull drawL
      simp [exSs, L2.atI, L2.ixN, nextS, outV, *]
  · by_cases c5 : n ≤ r
    · have c6 : ¬ r < n := by omega
      refine ⟨r % n, drawL ns i (r / n) s, .mk _ _ _ _ (Int.ediv_nonneg (by omega) (by omega)) hs hs2, Int.emod_nonneg _ (by omega), Int.emod_lt_of_pos _ h0, ?_⟩
      unfold D.d_law_pull drawL
      simp [exSs, L2.atI, L2.ixN, *]
    · have c6 : r < n := by omega
      have c7 : ¬ i < ns.length := by omega
      have hq2 : -18446744073709551616 < s := by omega
      have hq3 : s < 18446744073709551616 := by omega
      refine ⟨outV (nextS s) n, drawL ns i r (nextS s), .mk _ _ _ _ hr (nextS_ok s).1 (nextS_ok s).2, Int.emod_nonneg _ (by omega), Int.emod_lt_of_pos _ h0, ?_⟩
      unfold D.d_law_pull drawL
      simp [exSs, L2.atI, L2.ixN, nextS, outV, *]
/-! ### the script is opened -/
def Ok_law_open (F : Fn) : Prop := ∀ (ns : List Int) (st : Store), ns.length ≤ 63 → F [.scr ns] st = .ok (.loc st.length) (st ++ [drawL ns 0 0 29])
theorem d_law_open_ok : Ok_law_open (runDf C xs D.d_law_open) := by
  intro ns st h
  have e : cut (ns.map Val.int) none (some 63) = ns.map Val.int := by
    unfold cut
    rw [HT.sIx_none, show (some (63 : Int)) = some ((63 : Nat) : Int) from rfl, HT.sIx_nat]
    have : min 63 (ns.map Val.int).length = (ns.map Val.int).length := by
      rw [List.length_map]
      omega
    rw [this, Nat.sub_zero]
    simp only [List.drop_zero, List.take_length]
  unfold D.d_law_open drawL
  simp [exSs, e, PySem.sizeLine]
theorem draw0 (ns : List Int) : DrawOb (drawL ns 0 0 29) := .mk ns 0 0 29 (by decide) (by decide) (by decide)
/-! ### cells -/
def Ok_good_cell (F : Fn) : Prop := ∀ (i : Int) (st : Store), F [.int i] st = .ok (.bl (decide (-1 ≤ i) && decide (i ≤ 9))) st
theorem d_good_cell_ok : Ok_good_cell (runDf C xs D.d_good_cell) := by
  intro i st
  unfold D.d_good_cell
  by_cases h : -1 ≤ i <;> simp [exSs, h]
/-! ### likeness -/
def Ok_law_num (F : Fn) : Prop := ∀ (i : Int) (st : Store), F [.int i] st = .ok (.bl true) st
theorem d_law_num_ok : Ok_law_num (runDf C xs D.d_law_num) := by
  intro i st
  unfold D.d_law_num
  simp [exSs]
/-- plain values, no deeper than n -/
inductive plainV : Nat → Val → Prop
  | non {n : Nat} : plainV (n + 1) .non
  | bl {n : Nat} (b : Bool) : plainV (n + 1) (.bl b)
  | int {n : Nat} (i : Int) : plainV (n + 1) (.int i)
  | str {n : Nat} (x : Str) : plainV (n + 1) (.str x)
  | tup {n : Nat} {vs : List Val} : vs.length ≤ 10000 → (∀ w ∈ vs, plainV n w) → plainV (n + 1) (.tup vs)
  | lst {n : Nat} {vs : List Val} : vs.length ≤ 10000 → (∀ w ∈ vs, plainV n w) → plainV (n + 1) (.lst vs)
structure OkLike (d : Nat) (F : Fn) : Prop where
  bl : ∀ (b c : Bool) (st : Store), F [.bl b, .bl c] st = .ok (.bl (decide (b = c))) st
  int : ∀ (i j : Int) (st : Store), F [.int i, .int j] st = .ok (.bl (decide (i = j))) st
  str : ∀ (i j : Str) (st : Store), F [.str i, .str j] st = .ok (.bl (decide (i = j))) st
  non : ∀ (st : Store), F [.non, .non] st = .ok (.bl true) st
  same : ∀ (v : Val) (st : Store), plainV d v → F [v, v] st = .ok (.bl true) st
  loc : ∀ (l : Nat) (vs : List Val) (st : Store), st[l]? = some (.lst vs) → plainV d (.lst vs) → F [.loc l, .lst vs] st = .ok (.bl true) st
  loc2 : ∀ (l : Nat) (vs : List Val) (st : Store), st[l]? = some (.lst vs) → plainV d (.lst vs) → F [.lst vs, .loc l] st = .ok (.bl true) st
abbrev Ok_law_like (F : Fn) : Prop := OkLike 6 F
theorem at_int {α : Type} {zs : List α} {i : Int} (h0 : 0 ≤ i) (h1 : i < zs.length) : ∃ x ∈ zs, L2.atI zs i = some x := by
  have h2 : i.toNat < zs.length := by omega
  refine ⟨zs[i.toNat], List.getElem_mem h2, ?_⟩
  unfold L2.atI L2.ixN
  rw [if_pos h0, if_pos h1]
  simp [List.getElem?_eq_getElem h2]
theorem mo_true : ∀ {zs : List Val}, mapO toBl (zs.map fun _ => Val.bl true) = some (zs.map fun _ => true)
  | [] => rfl
  | z :: zs => by
    rw [List.map_cons, e_moc, mo_true]
    rfl
theorem rng_ok {j : Int} (h0 : 0 ≤ j) (h : j ≤ 100000) : rngOk 0 j = true := by
  rw [rngOk_eq]
  unfold rngRaw
  rw [decide_eq_true (show (-(2 ^ 62) : Int) ≤ 0 by decide), decide_eq_true (show (0 : Int) < 2 ^ 62 by decide), decide_eq_true (show -(2 ^ 62) ≤ j by omega), decide_eq_true (show j < 2 ^ 62 by omega), decide_eq_true (show (j - 0).toNat ≤ PySem.sizeLine by show _ ≤ 16777216; omega)]
  rfl
theorem like_lc {u : Val} {vs : List Val} (hu : ∀ i st, ixOp st u (.int i) = L2.atI vs i) (hlen : ∀ st, biLen st [u] = some (.int vs.length)) (h1 : vs.length ≤ 10000) (st : Store) (h2 : ∀ w ∈ vs, C "_law_like" [w, w] st = .ok (.bl true) st) :
    lcSem false [2] (evI C (.rng1 (.bi false .len (.cons (.var 1) .nil)))) (.nm 2) (evT C .nil) (evE C D.d_law_like_e0) [some u, some u, none] st = .ok (.lst ((rangeV 0 vs.length).map fun _ => .bl true)) st := by
  refine lc_map (fun _ => .bl true) ?_ ?_
  · simp [hlen, rng_ok (show (0 : Int) ≤ vs.length by omega) (by omega)]
  · intro x hx
    obtain ⟨i, rfl, i0, i1⟩ := mem_rangeV hx
    obtain ⟨y, hy, e⟩ := at_int i0 i1
    refine ⟨[some u, some u, some (.int i)], rfl, ?_⟩
    unfold D.d_law_like_e0
    simp [hu, e, h2 y hy]
theorem like_lc2 {u u' : Val} {vs : List Val} {st : Store} (hu : ∀ i, ixOp st u (.int i) = L2.atI vs i) (hu' : ∀ i, ixOp st u' (.int i) = L2.atI vs i) (hlen : biLen st [u'] = some (.int vs.length)) (h1 : vs.length ≤ 10000) (h2 : ∀ w ∈ vs, C "_law_like" [w, w] st = .ok (.bl true) st) :
    lcSem false [2] (evI C (.rng1 (.bi false .len (.cons (.var 1) .nil)))) (.nm 2) (evT C .nil) (evE C D.d_law_like_e0) [some u, some u', none] st = .ok (.lst ((rangeV 0 vs.length).map fun _ => .bl true)) st := by
  refine lc_map (fun _ => .bl true) ?_ ?_
  · simp [hlen, rng_ok (show (0 : Int) ≤ vs.length by omega) (by omega)]
  · intro x hx
    obtain ⟨i, rfl, i0, i1⟩ := mem_rangeV hx
    obtain ⟨y, hy, e⟩ := at_int i0 i1
    refine ⟨[some u, some u', some (.int i)], rfl, ?_⟩
    unfold D.d_law_like_e0
    simp [hu, hu', e, h2 y hy]
theorem isin_loc {st : Store} {l : Nat} {vs : List Val} {q : Kd} (h : st[l]? = some (.lst vs)) : isinOp st (.loc l) q = some (decide (Kd.list = q)) := by
  have hk : kindOf st (.loc l) = some .list := by
    show (match st[l]? with
      | some (.lst _) => some Kd.list
      | some (.dK _) => some Kd.dict
      | some (.dT _) => some Kd.dict
      | _ => none) = _
    rw [h]
  show (kindOf st (.loc l)).map _ = _
  rw [hk]
  cases q <;> rfl
theorem like_step {d : Nat} (hn : Ok_law_num (C "_law_num")) (hL : ∀ (v : Val) (st : Store), plainV d v → C "_law_like" [v, v] st = .ok (.bl true) st) : OkLike (d + 1) (runDf C xs D.d_law_like) := by
  refine ⟨?_, ?_, ?_, ?_, ?_, ?_, ?_⟩
  · intro b c st
    unfold D.d_law_like
    simp [exSs]
  · intro i j st
    unfold D.d_law_like
    simp [exSs, hn i]
  · intro i j st
    unfold D.d_law_like
    simp [exSs]
  · intro st
    unfold D.d_law_like
    simp [exSs]
  · intro v st hv
    refine wp_eq rfl ?_
    unfold D.d_law_like
    cases hv with
    | non => simp
    | bl b => simp
    | int i => simp [hn i]
    | str x => simp
    | @tup _ vs h1 h2 =>
      have hlc := like_lc (C := C) (u := .tup vs) (vs := vs) (fun _ _ => rfl) (fun _ => rfl) h1 st fun w hw => hL w st (h2 w hw)
      simp only [startEnv, List.map, List.length, List.replicate, List.append]
      simp [hlc, mo_true]
    | @lst _ vs h1 h2 =>
      have hlc := like_lc (C := C) (u := .lst vs) (vs := vs) (fun _ _ => rfl) (fun _ => rfl) h1 st fun w hw => hL w st (h2 w hw)
      simp only [startEnv, List.map, List.length, List.replicate, List.append]
      simp [hlc, mo_true]
  · intro l vs st hl hv
    refine wp_eq rfl ?_
    unfold D.d_law_like
    cases hv with
    | lst h1 h2 =>
      have hlc := like_lc2 (C := C) (u := .loc l) (u' := .lst vs) (vs := vs) (st := st) (fun i => by rw [e_ixO, hl]; rfl) (fun _ => rfl) rfl h1 fun w hw => hL w st (h2 w hw)
      have hi := fun q => isin_loc (q := q) hl
      simp only [startEnv, List.map, List.length, List.replicate, List.append]
      simp [hi, hl, hlc, mo_true]
  · intro l vs st hl hv
    refine wp_eq rfl ?_
    unfold D.d_law_like
    cases hv with
    | lst h1 h2 =>
      have hb : biLen st [.loc l] = some (.int vs.length) := by rw [e_lenO, hl]; rfl
      have hlc := like_lc2 (C := C) (u := .lst vs) (u' := .loc l) (vs := vs) (st := st) (fun _ => rfl) (fun i => by rw [e_ixO, hl]; rfl) hb h1 fun w hw => hL w st (h2 w hw)
      have hi := fun q => isin_loc (q := q) hl
      simp only [startEnv, List.map, List.length, List.replicate, List.append]
      simp [hi, hl, hlc, mo_true]
theorem like_rec {defs : List (Str × Df)} {ini : List (Str × Str)} {ex : List Str} (hi : ini.lookup ("_law_like" : Str) = none) (h : defs.lookup ("_law_like" : Str) = some D.d_law_like) (hn : ∀ n, Ok_law_num (callF defs ini ex (n + 1) "_law_num")) : ∀ d n, OkLike (d + 1) (callF defs ini ex (n + d + 2) "_law_like")
  | 0, n => by
    show OkLike 1 (callF defs ini ex (n + 1 + 1) "_law_like")
    rw [callF_at hi h]
    exact like_step (hn n) fun v st hv => by cases hv
  | d + 1, n => by
    show OkLike (d + 1 + 1) (callF defs ini ex (n + d + 2 + 1) "_law_like")
    rw [callF_at hi h]
    exact like_step (hn (n + d + 1)) (like_rec hi h hn d n).same
end P
/-! P2: strips. -/
namespace P
open PySem (Str PyData)
open Rc
variable {C : Str → List Val → M Val} {xs : List Str}
abbrev Col := List Int
abbrev Strip := List Col
def cv (c : Col) : Val := .tup (c.map .int)
def sv (s : Strip) : Val := .tup (s.map cv)
theorem at_zero {α : Type} {x : α} {zs : List α} : L2.atI (x :: zs) 0 = some x := by
  unfold L2.atI L2.ixN
  simp
theorem cut_le {α : Type} {zs : List α} {lo hi : Option Int} : (cut zs lo hi).length ≤ zs.length := by
  unfold cut
  simp
  omega
/-! ### good strips -/
def okCell (i : Int) : Bool := decide (-1 ≤ i) && decide (i ≤ 9)
def okCol (h : Nat) (c : Col) : Bool := decide (1 ≤ c.length) && decide (c.length ≤ 3) && decide (c.length = h) && c.all okCell
def high : Strip → Nat
  | [] => 0
  | c :: _ => c.length
def goodStrip (s : Strip) : Bool := decide (1 ≤ s.length) && decide (s.length ≤ 12) && s.all (okCol (high s))
theorem mo_all {c : Col} {p : Int → Bool} : mapO toBl (c.map fun i => .bl (p i)) = some (c.map p) := by
  rw [show (c.map fun i => Val.bl (p i)) = (c.map p).map .bl by simp]
  exact e_moB
def Ok_good_strip (F : Fn) : Prop := ∀ (s : Strip) (st : Store), F [sv s] st = .ok (.bl (goodStrip s)) st
theorem d_good_strip_ok (hg : Ok_good_cell (C "good_cell")) : Ok_good_strip (runDf C xs D.d_good_strip) := by
  intro s st
  refine wp_eq rfl ?_
  unfold D.d_good_strip sv
  rcases s with _ | ⟨c0, s⟩
  · simp [goodStrip]
  · have hat : L2.atI ((c0 :: s).map cv) 0 = some (.tup (c0.map .int)) := by rw [List.map_cons, at_zero]; rfl
    have hl : 1 ≤ (c0 :: s).length := by simp
    have hh : high (c0 :: s) = c0.length := rfl
    generalize c0 :: s = S at hat hl hh
    have h'' : ¬ (S.length : Int) < 1 := by omega
    by_cases h : S.length ≤ 12
    · have h' : ¬ (12 : Int) < (S.length : Int) := by omega
      simp [h', h'', -Still]
      refine wpk_all (fun e => ∃ q q', e = [some (.tup (S.map cv)), q, q']) (okCol c0.length) (.bl false) ⟨none, none, rfl⟩ ?_ ?_ ?_
      · rintro x hx _ ⟨q, q', rfl⟩
        refine ⟨[some (.tup (S.map cv)), some (.tup (x.map .int)), q'], rfl, ?_⟩
        have hlc : lcSem false [2] (evI C (.seq (.var 1))) (.nm 2) (evT C .nil) (evE C D.d_good_strip_e1) [some (.tup (S.map cv)), some (.tup (x.map .int)), q'] st = .ok (.lst (x.map fun i => .bl (okCell i))) st := by
          refine lc_mapA .int (fun i => .bl (okCell i)) (by simp) ?_
          intro i hi
          refine ⟨_, rfl, ?_⟩
          unfold D.d_good_strip_e1
          simp [wipe, hg _ _, okCell]
        unfold D.d_good_strip_b0
        by_cases a1 : x.length < 1
        · have a1' : (x.length : Int) < 1 := by omega
          have a0 : x.length = 0 := by omega
          simp [a1', okCol, a0]
        · have a1' : ¬ (x.length : Int) < 1 := by omega
          by_cases a2 : 3 < x.length
          · have a2' : (3 : Int) < x.length := by omega
            have : ¬ x.length ≤ 3 := by omega
            simp [a1', a2', okCol, this]
          · have a2' : ¬ (3 : Int) < x.length := by omega
            have b1 : 1 ≤ x.length := by omega
            have b2 : x.length ≤ 3 := by omega
            by_cases a3 : x.length = c0.length
            · have hc : okCol c0.length x = x.all okCell := by simp [okCol, b1, b2, a3]; rw [← a3]; simp [b1, b2]
              rw [hc]
              simp only [wp_cons, x_iff, v_bop, v_or, v_b1, v_cmp, v_not, v_bi, v_lc]
              cases a4 : x.all okCell
              · simp [a1', a2', a3.symm, hat, hlc, mo_all, a4, -List.all_eq_false, -List.all_eq_true]
              · simp [a1', a2', a3.symm, hat, hlc, mo_all, a4, -List.all_eq_false, -List.all_eq_true]
            · have a3' : ¬ (x.length : Int) = c0.length := by omega
              simp [a1', a2', a3, a3', okCol, hat]
      · rintro _ ⟨q, q', rfl⟩ ha
        simp [goodStrip, hh, ha, hl, h, -List.all_eq_true]
      · intro ha
        simp [goodStrip, hh, ha, hl, h, -List.all_eq_false]
    · have h' : (12 : Int) < S.length := by omega
      simp [goodStrip, h, h', h'']
def Ok_law_strip_ok (F : Fn) : Prop := ∀ (s : Strip) (st : Store), F [sv s] st = .ok (.bl (goodStrip s)) st
theorem d_law_strip_ok_ok : Ok_law_strip_ok (runDf C xs D.d_law_strip_ok) := by
  intro s st
  refine wp_eq rfl ?_
  unfold D.d_law_strip_ok sv
  rcases s with _ | ⟨c0, s⟩
  · simp [goodStrip]
  · have hat : L2.atI ((c0 :: s).map cv) 0 = some (.tup (c0.map .int)) := by rw [List.map_cons, at_zero]; rfl
    have hl : 1 ≤ (c0 :: s).length := by simp
    have hh : high (c0 :: s) = c0.length := rfl
    have hm : c0 ∈ c0 :: s := List.mem_cons_self ..
    generalize c0 :: s = S at hat hl hh hm
    have h'' : (1 : Int) ≤ S.length := by omega
    by_cases h : S.length ≤ 12
    · have h' : (S.length : Int) ≤ 12 := by omega
      simp [h', h'', hat, -Still]
      refine wpk_all (fun e => ∃ q q', e = [some (.tup (S.map cv)), some (.int c0.length), q, q']) (fun x : Col => decide (x.length = c0.length) && x.all okCell) (.bl false) ⟨none, none, rfl⟩ ?_ ?_ ?_
      · rintro x hx _ ⟨q, q', rfl⟩
        refine ⟨[some (.tup (S.map cv)), some (.int c0.length), some (.tup (x.map .int)), q'], rfl, ?_⟩
        have hlc : lcSem false [3] (evI C (.seq (.var 2))) (.nm 3) (evT C .nil) (evE C D.d_law_strip_ok_e1) [some (.tup (S.map cv)), some (.int c0.length), some (.tup (x.map .int)), q'] st = .ok (.lst (x.map fun i => .bl (okCell i))) st := by
          refine lc_mapA .int (fun i => .bl (okCell i)) (by simp) ?_
          intro i hi
          refine ⟨_, rfl, ?_⟩
          unfold D.d_law_strip_ok_e1
          by_cases c : -1 ≤ i <;> simp [wipe, okCell, c]
        unfold D.d_law_strip_ok_b0
        by_cases a3 : x.length = c0.length
        · cases a4 : x.all okCell
          · simp [a3, hat, hlc, mo_all, a4, -List.all_eq_false, -List.all_eq_true]
          · simp [a3, hat, hlc, mo_all, a4, -List.all_eq_false, -List.all_eq_true]
        · have a3' : ¬ (x.length : Int) = c0.length := by omega
          simp [a3, a3', hat]
      · rintro _ ⟨q, q', rfl⟩ ha
        have e : S.all (okCol c0.length) = (decide (1 ≤ c0.length) && decide (c0.length ≤ 3)) := by
          cases q1 : decide (1 ≤ c0.length) && decide (c0.length ≤ 3)
          · rw [List.all_eq_false]
            refine ⟨c0, hm, ?_⟩
            unfold okCol
            rw [q1]
            simp
          · rw [List.all_eq_true] at ha ⊢
            intro x hx
            have hx' := ha x hx
            simp only [Bool.and_eq_true, decide_eq_true_eq] at hx' q1
            unfold okCol
            simp only [Bool.and_eq_true, decide_eq_true_eq]
            exact ⟨⟨⟨by omega, by omega⟩, hx'.1⟩, hx'.2⟩
        simp only [wp_cons, x_ret, v_chain, v_int, v_var]
        have i1 : decide ((1 : Int) ≤ c0.length) = decide (1 ≤ c0.length) := by by_cases c : 1 ≤ c0.length <;> simp [c] <;> omega
        have i2 : decide ((c0.length : Int) ≤ 3) = decide (c0.length ≤ 3) := by by_cases c : c0.length ≤ 3 <;> simp [c] <;> omega
        by_cases c : 1 ≤ c0.length
        · have c' : (1 : Int) ≤ c0.length := by omega
          simp [goodStrip, hh, e, hl, h, c, c', i2, -List.all_eq_true]
        · have c' : ¬ (1 : Int) ≤ c0.length := by omega
          simp [goodStrip, hh, e, hl, h, c, c', -List.all_eq_true]
      · intro ha
        have : S.all (okCol c0.length) = false := by
          rw [List.all_eq_false] at ha ⊢
          obtain ⟨x, hx, hb⟩ := ha
          refine ⟨x, hx, ?_⟩
          intro hc
          apply hb
          unfold okCol at hc
          simp only [Bool.and_eq_true, decide_eq_true_eq] at hc ⊢
          exact ⟨hc.1.2, hc.2⟩
        simp [goodStrip, hh, this, hl, h, -List.all_eq_false]
    · have h' : ¬ (S.length : Int) ≤ 12 := by omega
      simp [goodStrip, h, h', h'']
/-! ### drawn strips -/
/-- the k-th one, as it stands -/
def nth {β : Type} (s : List (List β)) (k : Nat) : List β := s.getD k []
/-- a strip with another cell -/
def setCell (s : Strip) (k r : Nat) (c : Int) : Strip := s.set k ((nth s k).set r c)
theorem all_inj {α : Type} {f : α → Val} {q : α → Prop} : ∀ {ws : List Val}, (∀ y ∈ ws, ∃ a, y = f a ∧ q a) → ∃ as : List α, ws = as.map f ∧ ∀ a ∈ as, q a
  | [], _ => ⟨[], rfl, by simp⟩
  | w :: ws, h => by
    obtain ⟨a, rfl, qa⟩ := h w (List.mem_cons_self ..)
    obtain ⟨as, rfl, qs⟩ := all_inj fun y hy => h y (List.mem_cons_of_mem _ hy)
    refine ⟨a :: as, rfl, ?_⟩
    intro b hb
    rcases List.mem_cons.mp hb with rfl | hb
    · exact qa
    · exact qs b hb
theorem at3 {a b c : Val} {i : Int} (h0 : 0 ≤ i) (h1 : i < 3) : L2.atI [a, b, c] i = some (if i = 0 then a else if i = 1 then b else c) := by
  have : i = 0 ∨ i = 1 ∨ i = 2 := by omega
  rcases this with rfl | rfl | rfl <;> rfl
theorem at2 {a b : Val} {i : Int} (h0 : 0 ≤ i) (h1 : i < 2) : L2.atI [a, b] i = some (if i = 0 then a else b) := by
  have : i = 0 ∨ i = 1 := by omega
  rcases this with rfl | rfl <;> rfl
/-- a drawn strip of a given height -/
def Drawn (h : Int) (s : Strip) : Prop := 1 ≤ s.length ∧ s.length ≤ 12 ∧ ∀ c ∈ s, (c.length : Int) = h
end P
/-! P3: seals. -/
namespace P
open PySem (Str PyData)
open Rc
variable {C : Str → List Val → M Val} {xs : List Str}
def lost (c : Col) : Bool := c.any fun i => i == -1
def goodSeal (s : Strip) : Bool := goodStrip s && decide (s.length ≤ 6) && !(s.any lost)
theorem mo_bl {α : Type} {l : List α} {p : α → Bool} : mapO toBl (l.map fun i => .bl (p i)) = some (l.map p) := by
  rw [show (l.map fun i => Val.bl (p i)) = (l.map p).map .bl by simp]
  exact e_moB
theorem good_cols {s : Strip} (h : goodStrip s = true) : 1 ≤ s.length ∧ s.length ≤ 12 ∧ 1 ≤ high s ∧ high s ≤ 3 ∧ ∀ c ∈ s, c.length = high s ∧ ∀ i ∈ c, -1 ≤ i ∧ i ≤ 9 := by
  unfold goodStrip at h
  simp only [Bool.and_eq_true, decide_eq_true_eq, List.all_eq_true] at h
  obtain ⟨⟨h1, h2⟩, h3⟩ := h
  rcases s with _ | ⟨c0, s⟩
  · simp at h1
  · have h0 := h3 c0 (List.mem_cons_self ..)
    simp only [okCol, Bool.and_eq_true, decide_eq_true_eq, List.all_eq_true] at h0
    refine ⟨h1, h2, ?_, ?_, ?_⟩
    · exact h0.1.1.1
    · exact h0.1.1.2
    · intro c hc
      have hc' := h3 c hc
      simp only [okCol, Bool.and_eq_true, decide_eq_true_eq, List.all_eq_true] at hc'
      refine ⟨hc'.1.2, ?_⟩
      intro i hi
      have := hc'.2 i hi
      unfold okCell at this
      simp only [Bool.and_eq_true, decide_eq_true_eq] at this
      exact this
end P
/-! P4: strips turned about, broken, written. -/
namespace P
open PySem (Str PyData)
open Rc
variable {C : Str → List Val → M Val} {xs : List Str}
def turn (s : Strip) : Strip := s.reverse.map List.reverse
theorem turn_turn (s : Strip) : turn (turn s) = s := by
  unfold turn
  rw [← List.map_reverse, List.reverse_reverse, List.map_map]
  have : (List.reverse ∘ List.reverse : List Int → List Int) = id := by
    funext c
    exact List.reverse_reverse c
  rw [this, List.map_id]
theorem good_iff {s : Strip} : goodStrip s = true ↔ (1 ≤ s.length ∧ s.length ≤ 12 ∧ ∃ h, 1 ≤ h ∧ h ≤ 3 ∧ ∀ c ∈ s, c.length = h ∧ ∀ i ∈ c, -1 ≤ i ∧ i ≤ 9) := by
  constructor
  · intro h
    obtain ⟨a, b, c, d, e⟩ := good_cols h
    exact ⟨a, b, high s, c, d, e⟩
  · rintro ⟨h1, h2, h, h3, h4, h5⟩
    rcases s with _ | ⟨c0, s⟩
    · simp at h1
    · have e : high (c0 :: s) = h := (h5 c0 (List.mem_cons_self ..)).1
      unfold goodStrip
      simp only [Bool.and_eq_true, decide_eq_true_eq, List.all_eq_true]
      refine ⟨⟨h1, h2⟩, ?_⟩
      intro c hc
      obtain ⟨a1, a2⟩ := h5 c hc
      unfold okCol
      simp only [Bool.and_eq_true, decide_eq_true_eq, List.all_eq_true]
      refine ⟨⟨⟨by omega, by omega⟩, by rw [e, a1]⟩, ?_⟩
      intro i hi
      unfold okCell
      simp only [Bool.and_eq_true, decide_eq_true_eq]
      exact a2 i hi
def refused : Val := .lst [.str "refused"]
theorem plain_col {n : Nat} {c : Col} (h : c.length ≤ 10000) : plainV (n + 2) (cv c) := by
  refine .tup (by simpa using h) ?_
  intro w hw
  obtain ⟨i, _, rfl⟩ := List.mem_map.mp hw
  exact .int i
theorem plain_strip {n : Nat} {s : Strip} (h : s.length ≤ 10000) (h2 : ∀ c ∈ s, c.length ≤ 10000) : plainV (n + 3) (sv s) := by
  refine .tup (by simpa using h) ?_
  intro w hw
  obtain ⟨c, hc, rfl⟩ := List.mem_map.mp hw
  exact plain_col (h2 c hc)
theorem plain_good {n : Nat} {s : Strip} (h : goodStrip s = true) : plainV (n + 3) (sv s) := by
  obtain ⟨a, b, c, d, e⟩ := good_cols h
  exact plain_strip (by omega) fun c hc => by have := (e c hc).1; omega
end P
/-! P5: strips broken. -/
namespace P
open PySem (Str PyData)
open Rc
variable {C : Str → List Val → M Val} {xs : List Str}
def word (x : Str) : Val := .lst [.str x]
end P
/-! P6: strips written. -/
namespace P
open PySem (Str PyData)
open Rc
variable {C : Str → List Val → M Val} {xs : List Str}
/-- a cell's sign -/
def sgn (i : Int) : Str := ⟨#[("?0123456789" : Str).cps.toList.getD (i + 1).toNat 0]⟩
theorem cell_cases {i : Int} (h0 : -1 ≤ i) (h1 : i ≤ 9) : i = -1 ∨ i = 0 ∨ i = 1 ∨ i = 2 ∨ i = 3 ∨ i = 4 ∨ i = 5 ∨ i = 6 ∨ i = 7 ∨ i = 8 ∨ i = 9 := by omega
theorem sgn_b {st : Store} {i : Int} (h0 : -1 ≤ i) (h1 : i ≤ 9) : ixOp st (.str "?0123456789") (.int (i + 1)) = some (.str (sgn i)) := by
  rcases cell_cases h0 h1 with rfl | rfl | rfl | rfl | rfl | rfl | rfl | rfl | rfl | rfl | rfl <;> rfl
def colText (c : Col) : Str := PySem.Txt.join "" (c.map sgn)
def stripText (s : Strip) : Str := PySem.Txt.join " " (s.map colText)
theorem mo_strs {α : Type} {l : List α} {f : α → Str} : mapO toStr (l.map fun i => .str (f i)) = some (l.map f) := by
  induction l with
  | nil => rfl
  | cons a l ih =>
    rw [List.map_cons, e_moc, ih]
    rfl
theorem join_len {a : Str} {ys : List Str} : (PySem.Txt.join a ys).length ≤ (ys.map (·.length)).sum + ys.length * a.length := by
  unfold PySem.Txt.join
  rw [PySem.StrLaws.glued_eq_join]
  exact PySem.StrLaws.join_length_le a ys
theorem sum_le {m : Nat} : ∀ {l : List Nat}, (∀ x ∈ l, x ≤ m) → l.sum ≤ l.length * m
  | [], _ => by simp
  | x :: l, h => by
    have h1 := h x (List.mem_cons_self ..)
    have h2 := sum_le fun y hy => h y (List.mem_cons_of_mem _ hy)
    rw [List.sum_cons, List.length_cons, Nat.succ_mul]
    omega
theorem join_ok {st : Store} {a : Str} {α : Type} {l : List α} {f : α → Str} (h : ((l.map f).map (·.length)).sum + (l.map f).length * a.length ≤ 16777216) : joinOp st a (.lst (l.map fun i => .str (f i))) = some (PySem.Txt.join a (l.map f)) := by
  unfold joinOp
  show ((some _).bind _) = _
  rw [Option.bind_some, mo_strs, Option.bind_some, if_pos h]
theorem col_sum {c : Col} : ((c.map sgn).map (·.length)).sum = c.length := by
  induction c with
  | nil => rfl
  | cons i c ih =>
    rw [List.map_cons, List.map_cons, List.sum_cons, ih, List.length_cons]
    show 1 + _ = _
    omega
theorem col_len {c : Col} (h : c.length ≤ 3) : (colText c).length ≤ 3 := by
  have := join_len (a := "") (ys := c.map sgn)
  rw [col_sum, List.length_map] at this
  have e : ("" : Str).length = 0 := rfl
  rw [e] at this
  unfold colText
  omega
theorem strip_sum {s : Strip} (h1 : s.length ≤ 12) (h2 : ∀ c ∈ s, c.length ≤ 3) : ((s.map colText).map (·.length)).sum + (s.map colText).length * (" " : Str).length ≤ 16777216 := by
  have := sum_le (m := 3) (l := (s.map colText).map (·.length)) (by
    intro x hx
    obtain ⟨t, ht, rfl⟩ := List.mem_map.mp hx
    obtain ⟨c, hc, rfl⟩ := List.mem_map.mp ht
    exact col_len (h2 c hc))
  rw [List.length_map, List.length_map] at this
  have e : (" " : Str).length = 1 := rfl
  rw [e, List.length_map]
  omega
def Ok_law_strip_words (F : Fn) : Prop := ∀ (s : Strip) (st : Store), goodStrip s = true → F [sv s] st = .ok (.str (stripText s)) st
theorem d_law_strip_words_ok : Ok_law_strip_words (runDf C xs D.d_law_strip_words) := by
  intro s st h
  obtain ⟨g1, g2, g3, g4, g5⟩ := good_cols h
  refine wp_eq rfl ?_
  have hlc : lcSem false [1] (evI C (.seq (.var 0))) (.nm 1) (evT C .nil) (evE C D.d_law_strip_words_e0) [some (.tup (s.map cv)), none, none] st = .ok (.lst (s.map fun c => .str (colText c))) st := by
    refine lc_mapA cv (fun c => .str (colText c)) (by simp) ?_
    intro c hm
    refine ⟨[some (.tup (s.map cv)), some (.tup (c.map .int)), none], rfl, ?_⟩
    have h2 : lcSem false [2] (evI C (.seq (.var 1))) (.nm 2) (evT C .nil) (evE C D.d_law_strip_words_e1) [some (.tup (s.map cv)), some (.tup (c.map .int)), none] st = .ok (.lst (c.map fun i => .str (sgn i))) st := by
      refine lc_mapA .int (fun i => .str (sgn i)) (by simp) ?_
      intro i hi
      refine ⟨_, rfl, ?_⟩
      obtain ⟨a, b⟩ := (g5 c hm).2 i hi
      have := sgn_b (st := st) (i := i) a b
      unfold D.d_law_strip_words_e1
      simp [wipe, this, -e_ixStr]
    have hj := join_ok (st := st) (a := "") (l := c) (f := sgn) (by
      rw [col_sum, List.length_map]
      have e : ("" : Str).length = 0 := rfl
      have := (g5 c hm).1
      rw [e]
      omega)
    unfold D.d_law_strip_words_e0
    simp [h2, hj, colText]
  have hj := join_ok (st := st) (a := " ") (l := s) (f := colText) (strip_sum g2 fun c hm => by have := (g5 c hm).1; omega)
  unfold D.d_law_strip_words sv
  simp [hlc, hj, stripText]
end P
/-! P7: seals rolled. -/
namespace Rc
end Rc
namespace P
open PySem (Str PyData)
open Rc
variable {C : Str → List Val → M Val} {xs : List Str}
/-! ### plain values are not touched by the cut -/
/-! ### seals -/
/-- the print of a seal: n columns from a on -/
def prt (s : Strip) (a n : Nat) : Strip := (List.range n).map fun k => s.getD ((a + k) % s.length) []
theorem prt_len (s : Strip) (a n : Nat) : (prt s a n).length = n := by simp [prt]
theorem prt_mem {s : Strip} {a n : Nat} (h : 1 ≤ s.length) : ∀ c ∈ prt s a n, c ∈ s := by
  intro c hc
  unfold prt at hc
  obtain ⟨k, _, rfl⟩ := List.mem_map.mp hc
  have hlt : (a + k) % s.length < s.length := Nat.mod_lt _ (by omega)
  rw [List.getD_eq_getElem?_getD, List.getElem?_eq_getElem hlt]
  exact List.getElem_mem hlt
end P
/-! P8: rollings. -/
namespace P
open PySem (Str PyData)
open Rc
variable {C : Str → List Val → M Val} {xs : List Str}
theorem seal_len {s : Strip} (h : goodSeal s = true) : 1 ≤ s.length ∧ s.length ≤ 6 := by
  unfold goodSeal at h
  simp only [Bool.and_eq_true, decide_eq_true_eq] at h
  obtain ⟨a, _⟩ := good_cols h.1.1
  exact ⟨a, h.1.2⟩
end P
/-! P9: tables, instances; the workshop's own parts. -/
namespace Rc
open PySem
@[simp] theorem e_obFd {c f : Str} {k : Nat} {fs : List (Str × Val)} : obFld f k (some (.ins c fs)) = (fs[k]?).bind fun p => if p.1 = f then some p.2 else none := by
  show (match fs[k]? with
    | some p => if p.1 = f then some p.2 else none
    | none => none) = _
  cases fs[k]? <;> rfl
@[simp] theorem e_fsat {st : Store} {c d f : Str} {k l : Nat} {v : Val} {fs : List (Str × Val)} : fsetAt st c l f k v (some (.ins d fs)) = if d = c then (putFld f k v fs).map fun gs => st.set l (.ins d gs) else none := rfl
@[simp] theorem e_faug {st : Store} {c f : Str} {k l : Nat} {i : Int} : faugOp st c f k i (.loc l) = (obFld f k st[l]?).bind fun v => (toInt v).bind fun j => fsetAt st c l f k (.int (j + i)) st[l]? := rfl
@[simp] theorem e_toI {i : Int} : toInt (.int i) = some i := rfl
theorem wpk_seq {C : PySem.Str → List Val → M Val} {xs : List PySem.Str} {N : Env → Store → Prop} {T : Val → Store → Prop} {r : RS} {ss : Ss} (I : Env → Store → Prop) (h : WP r I T) (k : ∀ e s, I e s → WP (exSs C xs ss e s) N T) : WPK r C xs ss N T :=
  wp_mono h k fun _ _ h => h
end Rc
namespace P
open PySem (Str PyData)
open Rc
variable {C : Str → List Val → M Val} {xs : List Str}
/-! ### tables by whole numbers -/
section
variable {α : Type}
def lk (t : List (Int × α)) (n : Int) : Option α := (t.find? fun p => decide (p.1 = n)).map (·.2)
def pt (t : List (Int × α)) (n : Int) (a : α) : List (Int × α) := if (t.any fun p => decide (p.1 = n)) = true then t.map (fun p => if p.1 = n then (p.1, a) else p) else t ++ [(n, a)]
def dp (t : List (Int × α)) (n : Int) : List (Int × α) := t.filter fun p => decide (p.1 ≠ n)
def ent (f : α → Val) (p : Int × α) : Key × Val := (.inl p.1, f p.2)
theorem lk_mem {t : List (Int × α)} {n : Int} {a : α} (h : lk t n = some a) : (n, a) ∈ t := by
  unfold lk at h
  obtain ⟨p, hp, rfl⟩ := Option.map_eq_some_iff.mp h
  have h1 := List.mem_of_find?_eq_some hp
  have h2 := List.find?_some hp
  simp at h2
  rw [← h2]
  exact h1
theorem lk_any {t : List (Int × α)} {n : Int} : (t.any fun p => decide (p.1 = n)) = (lk t n).isSome := by
  unfold lk
  induction t with
  | nil => rfl
  | cons p t ih =>
    by_cases h : p.1 = n
    · simp [h]
    · simpa [h] using ih
theorem lk_none {t : List (Int × α)} {n : Int} : lk t n = none ↔ n ∉ t.map (·.1) := by
  unfold lk
  simp only [Option.map_eq_none_iff, List.find?_eq_none, decide_eq_true_eq, List.mem_map, not_exists, not_and]
theorem lk_some {t : List (Int × α)} {n : Int} (h : n ∈ t.map (·.1)) : ∃ a, lk t n = some a := by
  cases e : lk t n with
  | none => exact absurd h (lk_none.mp e)
  | some a => exact ⟨a, rfl⟩
theorem pt_keys {t : List (Int × α)} {n : Int} {a : α} : (pt t n a).map (·.1) = if n ∈ t.map (·.1) then t.map (·.1) else t.map (·.1) ++ [n] := by
  unfold pt
  by_cases h : n ∈ t.map (·.1)
  · obtain ⟨b, hb⟩ := lk_some h
    rw [lk_any, hb, if_pos (by rfl), if_pos h, List.map_map]
    refine List.map_congr_left fun p _ => ?_
    by_cases hp : p.1 = n <;> simp [hp]
  · rw [lk_any, lk_none.mpr h, if_neg (by simp), if_neg h]
    simp
theorem pt_mem {t : List (Int × α)} {n : Int} {a : α} {p : Int × α} (h : p ∈ pt t n a) : p = (n, a) ∨ (p ∈ t ∧ p.1 ≠ n) ∨ (p ∈ t ∧ n ∉ t.map (·.1)) := by
  unfold pt at h
  split at h
  · obtain ⟨q, hq, rfl⟩ := List.mem_map.mp h
    by_cases hn : q.1 = n
    · rw [if_pos hn, hn]
      exact .inl rfl
    · rw [if_neg hn]
      exact .inr (.inl ⟨hq, hn⟩)
  · rename_i hn
    rcases List.mem_append.mp h with h | h
    · refine .inr (.inr ⟨h, ?_⟩)
      rw [lk_any] at hn
      exact lk_none.mp (by simpa using hn)
    · exact .inl (List.mem_singleton.mp h)
theorem dp_mem {t : List (Int × α)} {n : Int} {p : Int × α} (h : p ∈ dp t n) : p ∈ t ∧ p.1 ≠ n := by
  unfold dp at h
  simpa using h
end
/-! ### equality of tuples of ints -/
theorem eqv_ints : ∀ {a b : List Int}, PyData.eqvAll (a.map .int) (b.map .int) = decide (a = b)
  | [], [] => by simp [PyData.eqvAll]
  | [], _ :: _ => by simp [PyData.eqvAll]
  | _ :: _, [] => by simp [PyData.eqvAll]
  | x :: a, y :: b => by
    have := @eqv_ints a b
    by_cases h : x = y <;> simp [PyData.eqvAll, PyData.eqv, this, h]
theorem toD_ints {st : Store} {n : Nat} : ∀ {a : List Int}, mapO (toD st (n + 1)) (a.map .int) = some (a.map .int)
  | [] => rfl
  | x :: a => by
    rw [List.map_cons, e_moc, toD_ints]
    rfl
@[simp] theorem veq_ints {st : Store} {a b : List Int} : veq st (.tup (a.map .int)) (.tup (b.map .int)) = some (decide (a = b)) := by
  have h : ∀ c : List Int, toD st depthD (.tup (c.map .int)) = some (.tuple (c.map .int)) := fun c => by
    show (mapO (toD st 9) (c.map .int)).map PyData.tuple = _
    rw [toD_ints]
    rfl
  show ((toD st depthD (.tup (a.map .int))).bind fun d => (toD st depthD (.tup (b.map .int))).map fun e => PyData.eqv d e) = _
  rw [h, h]
  show some (PyData.eqv (.tuple (a.map .int)) (.tuple (b.map .int))) = _
  rw [show PyData.eqv (.tuple (a.map .int)) (.tuple (b.map .int)) = PyData.eqvAll (a.map .int) (b.map .int) from rfl, eqv_ints]
/-! ### the workshop: what it is, seen from both sides -/
structure Roll where
  sn : Int
  start : Int
  size : Int
structure Thing where
  rows : Strip
  turn : Nat
  roll : Roll
  first : Int
  way : Int
structure Sh where
  high : Int
  seals : List Strip
  things : List (Int × Thing)
  given : Int
  rolls : List Roll
def whence (t : Thing) : Val := .tup ([(t.turn : Int), t.roll.sn, t.roll.start, t.roll.size].map .int)
def pVal (t : Thing) : Val := .tup [sv t.rows, whence t, .int t.first, .int t.way]
def GoodT (S : Sh) (t : Thing) : Prop := 1 ≤ t.rows.length ∧ t.first + t.rows.length ≤ 12 ∧ (∀ c ∈ t.rows, (c.length : Int) = S.high ∧ ∀ i ∈ c, -1 ≤ i ∧ i ≤ 9) ∧ 0 ≤ t.first ∧ (t.way = 0 ∨ t.way = 1) ∧ S.rolls[t.turn]? = some t.roll ∧ 0 < t.roll.size
structure GoodS (S : Sh) : Prop where
  h1 : 1 ≤ S.high
  h2 : S.high ≤ 3
  sl : S.seals.length ≤ 6
  sg : ∀ s ∈ S.seals, goodSeal s = true ∧ (high s : Int) = S.high
  g0 : S.things.length ≤ S.given
  g1 : S.given ≤ 40
  rl : S.rolls.length ≤ S.given
  nd : (S.things.map (·.1)).Nodup
  tb : ∀ p ∈ S.things, 0 ≤ p.1 ∧ p.1 < S.given
  tg : ∀ p ∈ S.things, GoodT S p.2
def shopOb (S : Sh) (a b : Nat) : Ob := .ins "Shop" [("height", .int S.high), ("rack", .loc a), ("shelf", .loc b), ("given", .int S.given), ("turns", .int S.rolls.length)]
/-- the workshop stands at l, its seals at a, its strips at b -/
structure ShopAt (st : Store) (l a b : Nat) (S : Sh) : Prop where
  o : st[l]? = some (shopOb S a b)
  r : st[a]? = some (.lst (S.seals.map sv))
  s : st[b]? = some (.dK (S.things.map (ent pVal)))
/-- two stores that are alike but for some places -/
structure Off (is : List Nat) (st st' : Store) : Prop where
  len : st'.length = st.length
  off : ∀ i, i ∉ is → st'[i]? = st[i]?
theorem Off.refl {is : List Nat} {st : Store} : Off is st st := ⟨rfl, fun _ _ => rfl⟩
theorem Off.trans {is : List Nat} {a b c : Store} (h : Off is a b) (k : Off is b c) : Off is a c := ⟨k.len.trans h.len, fun i hi => (k.off i hi).trans (h.off i hi)⟩
theorem Off.set {is : List Nat} {st : Store} {i : Nat} {o : Ob} (h : i ∈ is) : Off is st (st.set i o) := ⟨by simp, fun j hj => by
  rw [List.getElem?_set_ne]
  exact fun e => hj (e ▸ h)⟩
theorem ShopAt.off {st st' : Store} {l a b : Nat} {S : Sh} {is : List Nat} (h : ShopAt st l a b S) (k : Off is st st') (h1 : l ∉ is) (h2 : a ∉ is) (h3 : b ∉ is) : ShopAt st' l a b S := ⟨(k.off l h1).trans h.o, (k.off a h2).trans h.r, (k.off b h3).trans h.s⟩
theorem ne_of_ob {st : Store} {i j : Nat} {o p : Ob} (h : st[i]? = some o) (k : st[j]? = some p) (n : o ≠ p) : i ≠ j := fun e => by
  subst e
  rw [h] at k
  exact n (Option.some.inj k)
theorem ShopAt.ab {st : Store} {l a b : Nat} {S : Sh} (h : ShopAt st l a b S) : a ≠ b := ne_of_ob h.r h.s (by simp)
theorem lt_of_at {st : Store} {i : Nat} {o : Ob} (h : st[i]? = some o) : i < st.length := (List.getElem?_eq_some_iff.mp h).1
/-! ### its parts -/
end P
/-! P10: the workshop's deeds, as the program does them. -/
namespace P
open PySem (Str PyData)
open Rc
variable {C : Str → List Val → M Val} {xs : List Str}
/-! ### deeds -/
abbrev Out := Str × Val × Sh
def dCut (S : Sh) (s : Strip) : Out :=
  if goodSeal s = true ∧ (high s : Int) = S.high then
    if S.seals.length < 6 then ("", .int S.seals.length, { S with seals := S.seals ++ [s] }) else ("Full", .non, S)
  else ("BadSeal", .non, S)
def cellAt (s : Strip) (k r : Nat) : Int := (nth s k).getD r 0
def dChip (S : Sh) (n c r : Int) : Out :=
  if 0 ≤ n ∧ n < S.seals.length then
    if 0 ≤ c ∧ c < (nth S.seals n.toNat).length ∧ 0 ≤ r ∧ r < S.high then
      if cellAt (nth S.seals n.toNat) c.toNat r.toNat = 0 then ("Bare", .non, S)
      else ("", .int (cellAt (nth S.seals n.toNat) c.toNat r.toNat), { S with seals := S.seals.set n.toNat (setCell (nth S.seals n.toNat) c.toNat r.toNat 0) })
    else ("NoCell", .non, S)
  else ("NoSeal", .non, S)
def dRoll (S : Sh) (n a w : Int) : Out :=
  if 0 ≤ n ∧ n < S.seals.length then
    if 0 ≤ a ∧ a < (nth S.seals n.toNat).length then
      if 1 ≤ w ∧ w ≤ 12 then
        if S.given < 40 then ("", .int S.given, { S with things := S.things ++ [(S.given, ⟨prt (nth S.seals n.toNat) a.toNat w.toNat, S.rolls.length, ⟨n, a, (nth S.seals n.toNat).length⟩, 0, 0⟩)], given := S.given + 1, rolls := S.rolls ++ [⟨n, a, (nth S.seals n.toNat).length⟩] })
        else ("Full", .non, S)
      else ("BadWidth", .non, S)
    else ("BadStart", .non, S)
  else ("NoSeal", .non, S)
def dTurn (S : Sh) (n : Int) : Out := match lk S.things n with
  | some t => ("", .non, { S with things := pt S.things n { t with rows := turn t.rows, way := 1 - t.way } })
  | none => ("NoStrip", .non, S)
def dWear (S : Sh) (n c r : Int) : Out := match lk S.things n with
  | some t =>
    if 0 ≤ c ∧ c < t.rows.length ∧ 0 ≤ r ∧ r < S.high then
      if cellAt t.rows c.toNat r.toNat = -1 then ("Lost", .non, S)
      else ("", .int (cellAt t.rows c.toNat r.toNat), { S with things := pt S.things n { t with rows := setCell t.rows c.toNat r.toNat (-1) } })
    else ("NoCell", .non, S)
  | none => ("NoStrip", .non, S)
def dSnap (S : Sh) (n at_ : Int) : Out := match lk S.things n with
  | some t =>
    if 1 ≤ at_ ∧ at_ < t.rows.length then
      if S.given < 40 then ("", .int S.given, { S with
        things := pt S.things n { t with rows := t.rows.take at_.toNat, first := if t.way = 0 then t.first else t.first + (t.rows.length - at_) } ++ [(S.given, { t with rows := t.rows.drop at_.toNat, first := if t.way = 0 then t.first + at_ else t.first })],
        given := S.given + 1 })
      else ("Full", .non, S)
    else ("BadWidth", .non, S)
  | none => ("NoStrip", .non, S)
def dJoin (S : Sh) (n m : Int) : Out := match lk S.things n, lk S.things m with
  | some t, some u =>
    if n = m then ("SameOne", .non, S)
    else if t.turn = u.turn ∧ t.way = u.way ∧ (t.way = 0 → t.first + t.rows.length = u.first) ∧ (t.way = 1 → u.first + u.rows.length = t.first) then
      ("", .non, { S with things := dp (pt S.things n { t with rows := t.rows ++ u.rows, first := if t.way = 0 then t.first else u.first }) m })
    else ("NotPieces", .non, S)
  | _, _ => ("NoStrip", .non, S)
def dLose (S : Sh) (n : Int) : Out := match lk S.things n with
  | some t => ("", sv t.rows, { S with things := dp S.things n })
  | none => ("NoStrip", .non, S)
/-- how the program's run ends -/
inductive ResP (F : Fn) (args : List Val) (st : Store) (l a b : Nat) : Out → Prop
  | ok {v : Val} {S' : Sh} {st' : Store} : F args st = .ok v st' → ShopAt st' l a b S' → Off [l, a, b] st st' → ResP F args st l a b ("", v, S')
  | exc {w : Str} {S : Sh} : w ≠ "" → F args st = .exc w none st → ResP F args st l a b (w, .non, S)
theorem nw {a : String} (h : (Str.ofString a == Str.ofString "") = false) : ¬ Str.ofString a = Str.ofString "" := fun e => by rw [e] at h; simp at h
theorem seal_cols {s : Strip} (h : goodSeal s = true) : 1 ≤ s.length ∧ s.length ≤ 6 ∧ 1 ≤ high s ∧ high s ≤ 3 ∧ ∀ c ∈ s, c.length = high s ∧ ∀ i ∈ c, 0 ≤ i ∧ i ≤ 9 := by
  obtain ⟨l1, l2⟩ := seal_len h
  have h' := h
  unfold goodSeal at h'
  simp only [Bool.and_eq_true, decide_eq_true_eq] at h'
  obtain ⟨g1, g2, g3, g4, g5⟩ := good_cols h'.1.1
  refine ⟨l1, l2, g3, g4, fun c hc => ⟨(g5 c hc).1, fun i hi => ?_⟩⟩
  have := (g5 c hc).2 i hi
  have h2 := h'.2
  rw [Bool.not_eq_true', List.any_eq_false] at h2
  have h3 := h2 c hc
  unfold lost at h3
  rw [Bool.not_eq_true, List.any_eq_false] at h3
  have h4 := h3 i hi
  simp at h4
  omega
theorem nth_mem {α : Type} {s : List (List α)} {k : Nat} (h : k < s.length) : nth s k ∈ s := by
  unfold nth
  rw [List.getD_eq_getElem?_getD, List.getElem?_eq_getElem h]
  exact List.getElem_mem h
theorem high_eq {s : Strip} (h : 1 ≤ s.length) : L2.atI (s.map cv) 0 = some (.tup ((nth s 0).map .int)) ∧ high s = (nth s 0).length := by
  rcases s with _ | ⟨c, s⟩
  · simp at h
  · exact ⟨by rw [List.map_cons, at_zero]; rfl, rfl⟩
end P
/-! P11: the workshop's deeds, further. -/
namespace P
open PySem (Str PyData)
open Rc
variable {C : Str → List Val → M Val} {xs : List Str}
theorem GoodS.fresh {S : Sh} (G : GoodS S) : S.given ∉ S.things.map (·.1) := fun h => by
  obtain ⟨p, hp, e⟩ := List.mem_map.mp h
  have := (G.tb p hp).2
  omega
theorem GoodS.len {S : Sh} (G : GoodS S) : S.things.length ≤ 40 := by
  have := G.g0
  have := G.g1
  omega
theorem thing_good {S : Sh} {t : Thing} (G : GoodS S) (g : GoodT S t) : goodStrip t.rows = true := by
  obtain ⟨g1, g2, g3, g4, _⟩ := g
  have h1 := G.h1
  have h2 := G.h2
  rw [good_iff]
  refine ⟨g1, by omega, S.high.toNat, by omega, by omega, fun c hc => ?_⟩
  have := g3 c hc
  exact ⟨by omega, this.2⟩
theorem lk_pt_ne {α : Type} {n m : Int} {x : α} (h : m ≠ n) : ∀ {t : List (Int × α)}, lk (pt t n x) m = lk t m := by
  intro t
  have h3 : ¬ n = m := fun e => h e.symm
  unfold pt
  split
  · rename_i h0
    clear h0
    unfold lk
    induction t with
    | nil => rfl
    | cons p t ih =>
      by_cases h1 : p.1 = n
      · simpa [h1, h3] using ih
      · by_cases h2 : p.1 = m
        · simp [h1, h2, h]
        · simpa [h1, h2] using ih
  · unfold lk
    rw [List.find?_append]
    simp [h3]
/-! ### questions -/
def nums (S : Sh) : List Int := srt (S.things.map (·.1))
/-! ### a new one -/
def sh0 (h : Int) : Sh := ⟨h, [], [], 0, []⟩
end P
/-! P12: the workshop as the law keeps it. -/
namespace P
open PySem (Str PyData)
open Rc
variable {C : Str → List Val → M Val} {xs : List Str}
def mDict (h : Int) (a b : Nat) (g : Int) (c : Nat) : List (Key × Val) := [(.inr "high", .int h), (.inr "seals", .loc a), (.inr "strips", .loc b), (.inr "given", .int g), (.inr "rolls", .loc c)]
section
variable {h g v : Int} {a b c : Nat}
end
def rollV (r : Roll) : Val := .tup [.int r.sn, .int r.start, .int r.size]
/-- columns with their rolling and their places -/
def seqL (tu : Int) (d : Int) : Int → Strip → List (Int × Int × Col)
  | _, [] => []
  | k, c :: cs => (tu, k, c) :: seqL tu d (k + d) cs
def trip (x : Int × Int × Col) : Val := .tup [.int x.1, .int x.2.1, cv x.2.2]
def lr (t : Thing) : List (Int × Int × Col) := if t.way = 0 then seqL t.turn 1 t.first t.rows else seqL t.turn (-1) (t.first + t.rows.length - 1) t.rows
def lVal (t : Thing) : Val := .tup [.int t.way, .lst ((lr t).map trip)]
structure LawAt (st : Store) (m a b c : Nat) (S : Sh) : Prop where
  o : st[m]? = some (.dK (mDict S.high a b S.given c))
  r : st[a]? = some (.lst (S.seals.map sv))
  s : st[b]? = some (.dK (S.things.map (ent lVal)))
  q : st[c]? = some (.lst (S.rolls.map rollV))
  mb : m ≠ b
  ac : a ≠ c
theorem LawAt.off {st st' : Store} {m a b c : Nat} {S : Sh} {is : List Nat} (h : LawAt st m a b c S) (k : Off is st st') (h1 : m ∉ is) (h2 : a ∉ is) (h3 : b ∉ is) (h4 : c ∉ is) : LawAt st' m a b c S := ⟨(k.off m h1).trans h.o, (k.off a h2).trans h.r, (k.off b h3).trans h.s, (k.off c h4).trans h.q, h.mb, h.ac⟩
section
variable {st : Store} {m a b c : Nat} {S : Sh}
theorem LawAt.ma (h : LawAt st m a b c S) : m ≠ a := ne_of_ob h.o h.r (by simp)
theorem LawAt.ab (h : LawAt st m a b c S) : a ≠ b := ne_of_ob h.r h.s (by simp)
end
def ResL (F : Fn) (args : List Val) (st : Store) (m a b c : Nat) (r : Out) : Prop := ∃ st', F args st = .ok (.tup [.str r.1, r.2.1]) st' ∧ LawAt st' m a b c r.2.2 ∧ Off [m, a, b, c] st st'
/-! ### rows -/
/-! ### the law's deeds -/
end P
/-! P13: the law's deeds, further. -/
namespace P
open PySem (Str PyData)
open Rc
variable {C : Str → List Val → M Val} {xs : List Str}
theorem atI_nat {α : Type} {l : List α} {i : Nat} {x : α} (h : l[i]? = some x) : L2.atI l (i : Int) = some x := by
  have hl := (List.getElem?_eq_some_iff.mp h).1
  unfold L2.atI L2.ixN
  rw [if_pos (by omega), if_pos (by omega)]
  simpa using h
end P
/-! P14: deeds of all kinds; what is told of a workshop. -/
namespace P
open PySem (Str PyData)
open Rc
variable {C : Str → List Val → M Val} {xs : List Str}
@[simp] theorem ofs_inj {a b : String} : (Str.ofString a = Str.ofString b) = (a = b) := by
  apply propext
  constructor
  · intro h
    rw [PySem.Str.ofString_eq_toList, PySem.Str.ofString_eq_toList] at h
    injection h with h
    have h2 := congrArg Array.toList h
    simp only at h2
    have h3 : a.toList = b.toList := by
      refine (List.map_inj_right (f := Char.toNat) ?_).mp h2
      intro x y hxy
      exact Char.toNat_inj.mp hxy
    exact String.toList_inj.mp h3
  · intro h; rw [h]
inductive Deed where
  | cut (s : Strip)
  | chip (n c r : Int)
  | roll (n a w : Int)
  | turn (n : Int)
  | wear (n c r : Int)
  | snap (n c : Int)
  | join (n m : Int)
  | lose (n : Int)
def dv : Deed → Val
  | .cut s => .tup [.str "cut", sv s]
  | .chip n c r => .tup [.str "chip", .int n, .int c, .int r]
  | .roll n c r => .tup [.str "roll", .int n, .int c, .int r]
  | .turn n => .tup [.str "turn", .int n]
  | .wear n c r => .tup [.str "wear", .int n, .int c, .int r]
  | .snap n c => .tup [.str "snap", .int n, .int c]
  | .join n c => .tup [.str "join", .int n, .int c]
  | .lose n => .tup [.str "lose", .int n]
def doD (S : Sh) : Deed → Out
  | .cut s => dCut S s
  | .chip n c r => dChip S n c r
  | .roll n c r => dRoll S n c r
  | .turn n => dTurn S n
  | .wear n c r => dWear S n c r
  | .snap n c => dSnap S n c
  | .join n c => dJoin S n c
  | .lose n => dLose S n
@[simp] theorem at20 {x y : Val} : L2.atI [x, y] 0 = some x := rfl
@[simp] theorem at21 {x y : Val} : L2.atI [x, y] 1 = some y := rfl
@[simp] theorem at30 {x y z : Val} : L2.atI [x, y, z] 0 = some x := rfl
@[simp] theorem at31 {x y z : Val} : L2.atI [x, y, z] 1 = some y := rfl
@[simp] theorem at32 {x y z : Val} : L2.atI [x, y, z] 2 = some z := rfl
@[simp] theorem at40 {x y z w : Val} : L2.atI [x, y, z, w] 0 = some x := rfl
@[simp] theorem at41 {x y z w : Val} : L2.atI [x, y, z, w] 1 = some y := rfl
@[simp] theorem at42 {x y z w : Val} : L2.atI [x, y, z, w] 2 = some z := rfl
@[simp] theorem at43 {x y z w : Val} : L2.atI [x, y, z, w] 3 = some w := rfl
structure Ok_law_s_do (F : Fn) : Prop where
  run : ∀ {st : Store} {m a b c : Nat} {S : Sh}, LawAt st m a b c S → GoodS S → ∀ d : Deed, ResL F [.loc m, dv d] st m a b c (doD S d)
structure Ok_law_shop_do (F : Fn) : Prop where
  run : ∀ {st : Store} {l a b : Nat} {S : Sh}, ShopAt st l a b S → GoodS S → ∀ d : Deed, ResP F [.loc l, dv d] st l a b (doD S d)
end P
/-! P15: workshops stay good; they stand alike. -/
namespace P
open PySem (Str PyData)
open Rc
variable {C : Str → List Val → M Val} {xs : List Str}
theorem seal_of {s : Strip} {h : Nat} (h1 : 1 ≤ s.length) (h2 : s.length ≤ 6) (h3 : 1 ≤ h) (h4 : h ≤ 3) (h5 : ∀ c ∈ s, c.length = h ∧ ∀ i ∈ c, 0 ≤ i ∧ i ≤ 9) : goodSeal s = true ∧ high s = h := by
  have hg : goodStrip s = true := good_iff.mpr ⟨h1, by omega, h, h3, h4, fun c hc => ⟨(h5 c hc).1, fun i hi => by have := (h5 c hc).2 i hi; omega⟩⟩
  constructor
  · unfold goodSeal
    rw [hg, decide_eq_true h2, Bool.true_and, Bool.true_and, Bool.not_eq_true', List.any_eq_false]
    intro c hc
    unfold lost
    rw [Bool.not_eq_true, List.any_eq_false]
    intro i hi
    have := (h5 c hc).2 i hi
    simp
    omega
  · rw [(high_eq h1).2]
    exact (h5 _ (nth_mem (by omega))).1
theorem set_mem {α : Type} {l : List α} {i : Nat} {x y : α} (h : y ∈ l.set i x) : y ∈ l ∨ y = x := List.mem_or_eq_of_mem_set h
theorem setCell_mem {s : Strip} {k r : Nat} {v : Int} {c : Col} (hk : k < s.length) (h : c ∈ setCell s k r v) : c ∈ s ∨ ∃ d ∈ s, c = d.set r v := by
  unfold setCell at h
  rcases set_mem h with h | h
  · exact .inl h
  · exact .inr ⟨_, nth_mem hk, h⟩
theorem gt_mono {S S' : Sh} {t : Thing} (g : GoodT S t) (h1 : S'.high = S.high) (h2 : ∀ (i : Nat) (x : Roll), S.rolls[i]? = some x → S'.rolls[i]? = some x) : GoodT S' t := by
  obtain ⟨a, b, c, d, e, f, k⟩ := g
  exact ⟨a, b, by rw [h1]; exact c, d, e, h2 _ _ f, k⟩
theorem good_rows {S : Sh} {t t' : Thing} (g : GoodT S t) (h1 : 1 ≤ t'.rows.length) (h2 : t'.first + t'.rows.length ≤ 12) (h3 : ∀ c ∈ t'.rows, (c.length : Int) = S.high ∧ ∀ i ∈ c, -1 ≤ i ∧ i ≤ 9) (h4 : 0 ≤ t'.first) (h5 : t'.way = 0 ∨ t'.way = 1) (h6 : t'.turn = t.turn) (h7 : t'.roll = t.roll) : GoodT S t' := by
  obtain ⟨a, b, c, d, e, f, k⟩ := g
  exact ⟨h1, h2, h3, h4, h5, by rw [h6, h7]; exact f, by rw [h7]; exact k⟩
/-- one strip is another one now -/
theorem good_pt {S : Sh} (G : GoodS S) {n : Int} {t t' : Thing} (ht : lk S.things n = some t) (g : GoodT S t') : GoodS { S with things := pt S.things n t' } := by
  have hkey : n ∈ S.things.map (·.1) := List.mem_map.mpr ⟨_, lk_mem ht, rfl⟩
  have hk : (pt S.things n t').map (·.1) = S.things.map (·.1) := by rw [pt_keys, if_pos hkey]
  have hl : (pt S.things n t').length = S.things.length := by
    have := congrArg List.length hk
    simpa using this
  refine ⟨G.h1, G.h2, G.sl, G.sg, by rw [hl]; exact G.g0, G.g1, G.rl, by rw [hk]; exact G.nd, fun p hp => ?_, fun p hp => ?_⟩
  · have : p.1 ∈ S.things.map (·.1) := by rw [← hk]; exact List.mem_map.mpr ⟨p, hp, rfl⟩
    obtain ⟨q, hq, e⟩ := List.mem_map.mp this
    have := G.tb q hq
    rw [e] at this
    exact this
  · rcases pt_mem hp with rfl | ⟨h, _⟩ | ⟨h, _⟩
    · exact g
    · exact G.tg p h
    · exact G.tg p h
theorem good_dp {S : Sh} (G : GoodS S) (n : Int) : GoodS { S with things := dp S.things n } := by
  have hs : (dp S.things n).Sublist S.things := List.filter_sublist
  refine ⟨G.h1, G.h2, G.sl, G.sg, ?_, G.g1, G.rl, G.nd.sublist (hs.map _), fun p hp => G.tb p (dp_mem hp).1, fun p hp => G.tg p (dp_mem hp).1⟩
  have := hs.length_le
  have := G.g0
  show ((dp S.things n).length : Int) ≤ S.given
  omega
theorem good_add {S : Sh} (G : GoodS S) (hg : S.given < 40) {t : Thing} (g : GoodT S t) : GoodS { S with things := S.things ++ [(S.given, t)], given := S.given + 1 } := by
  have g0 := G.g0
  refine ⟨G.h1, G.h2, G.sl, G.sg, by simp; omega, by simp; omega, by have := G.rl; simp; omega, ?_, fun p hp => ?_, fun p hp => ?_⟩
  · show ((S.things ++ [(S.given, t)]).map (·.1)).Nodup
    rw [List.map_append, List.nodup_append]
    refine ⟨G.nd, by simp, fun x hx y hy e => ?_⟩
    simp at hy
    subst hy
    exact G.fresh (e ▸ hx)
  · rcases List.mem_append.mp hp with hp | hp
    · have := G.tb p hp
      exact ⟨this.1, by show p.1 < S.given + 1; omega⟩
    · rw [List.mem_singleton.mp hp]
      exact ⟨by show 0 ≤ S.given; omega, by show S.given < S.given + 1; omega⟩
  · rcases List.mem_append.mp hp with hp | hp
    · exact G.tg p hp
    · rw [List.mem_singleton.mp hp]
      exact g
theorem good_seals {S : Sh} (G : GoodS S) {q : List Strip} (h1 : q.length ≤ 6) (h2 : ∀ s ∈ q, goodSeal s = true ∧ (high s : Int) = S.high) : GoodS { S with seals := q } :=
  ⟨G.h1, G.h2, h1, h2, G.g0, G.g1, G.rl, G.nd, G.tb, G.tg⟩
theorem good_do {S : Sh} (G : GoodS S) (d : Deed) : GoodS (doD S d).2.2 := by
  have H1 := G.h1
  have H2 := G.h2
  cases d with
  | cut s =>
    show GoodS (dCut S s).2.2
    unfold dCut
    split
    · rename_i hc
      split
      · rename_i hl
        refine good_seals G (by simp; omega) fun q hq => ?_
        rcases List.mem_append.mp hq with hq | hq
        · exact G.sg q hq
        · rw [List.mem_singleton.mp hq]; exact hc
      · exact G
    · exact G
  | chip n c r =>
    show GoodS (dChip S n c r).2.2
    unfold dChip
    split
    · rename_i h1
      split
      · rename_i h2
        split
        · exact G
        · refine good_seals G (by simp; exact G.sl) fun q hq => ?_
          rcases set_mem hq with hq | hq
          · exact G.sg q hq
          · have hlt : n.toNat < S.seals.length := by omega
            obtain ⟨gs, hh⟩ := G.sg _ (nth_mem hlt)
            obtain ⟨l1, l2, l3, l4, l5⟩ := seal_cols gs
            subst hq
            have hk : c.toNat < (nth S.seals n.toNat).length := by omega
            have hl : (setCell (nth S.seals n.toNat) c.toNat r.toNat 0).length = (nth S.seals n.toNat).length := by unfold setCell; simp
            obtain ⟨z1, z2⟩ := seal_of (s := setCell (nth S.seals n.toNat) c.toNat r.toNat 0) (h := high (nth S.seals n.toNat)) (by omega) (by omega) l3 l4 (fun x hx => by
              rcases setCell_mem hk hx with hx | ⟨d, hd, rfl⟩
              · exact l5 x hx
              · refine ⟨by rw [List.length_set]; exact (l5 d hd).1, fun i hi => ?_⟩
                rcases set_mem hi with hi | hi
                · exact (l5 d hd).2 i hi
                · omega)
            exact ⟨z1, by rw [z2]; exact hh⟩
      · exact G
    · exact G
  | roll n a w =>
    show GoodS (dRoll S n a w).2.2
    unfold dRoll
    split
    · rename_i h1
      split
      · rename_i h2
        split
        · rename_i h3
          split
          · rename_i h4
            have hlt : n.toNat < S.seals.length := by omega
            obtain ⟨gs, hh⟩ := G.sg _ (nth_mem hlt)
            obtain ⟨l1, l2, l3, l4, l5⟩ := seal_cols gs
            generalize nth S.seals n.toNat = s at *
            have g0 := G.g0
            have rl := G.rl
            have hgt : GoodT { S with rolls := S.rolls ++ [⟨n, a, s.length⟩] } ⟨prt s a.toNat w.toNat, S.rolls.length, ⟨n, a, s.length⟩, 0, 0⟩ := by
              refine ⟨by rw [prt_len]; omega, by rw [prt_len]; show (0 : Int) + _ ≤ 12; omega, fun c hc => ?_, Int.le_refl 0, .inl rfl, by simp, by show (0 : Int) < s.length; omega⟩
              have := l5 c (prt_mem l1 c hc)
              exact ⟨by show (c.length : Int) = S.high; omega, fun i hi => by have := this.2 i hi; omega⟩
            refine ⟨G.h1, G.h2, G.sl, G.sg, by simp; omega, by simp; omega, by simp; omega, ?_, fun p hp => ?_, fun p hp => ?_⟩
            · show ((S.things ++ [(S.given, (_ : Thing))]).map (·.1)).Nodup
              rw [List.map_append, List.nodup_append]
              refine ⟨G.nd, by simp, fun x hx y hy e => ?_⟩
              simp at hy
              subst hy
              exact G.fresh (e ▸ hx)
            · rcases List.mem_append.mp hp with hp | hp
              · have := G.tb p hp
                exact ⟨this.1, by show p.1 < S.given + 1; omega⟩
              · rw [List.mem_singleton.mp hp]
                exact ⟨by show 0 ≤ S.given; omega, by show S.given < S.given + 1; omega⟩
            · rcases List.mem_append.mp hp with hp | hp
              · exact gt_mono (G.tg p hp) rfl fun i x hx => by
                  show (S.rolls ++ [_])[i]? = some x
                  rw [List.getElem?_append_left (List.getElem?_eq_some_iff.mp hx).1]
                  exact hx
              · rw [List.mem_singleton.mp hp]
                exact gt_mono hgt rfl fun i x hx => hx
          · exact G
        · exact G
      · exact G
    · exact G
  | turn n =>
    show GoodS (dTurn S n).2.2
    unfold dTurn
    split
    · rename_i t ht
      have g : GoodT S t := G.tg _ (lk_mem ht)
      have g' := g
      obtain ⟨a, b, c, d, e, f, k⟩ := g
      refine good_pt G ht (good_rows g' (by simp [turn]; omega) (by simp [turn]; exact b) (fun x hx => ?_) d (by show 1 - t.way = 0 ∨ 1 - t.way = 1; omega) rfl rfl)
      unfold turn at hx
      obtain ⟨y, hy, rfl⟩ := List.mem_map.mp hx
      have := c y (List.mem_reverse.mp hy)
      exact ⟨by rw [List.length_reverse]; exact this.1, fun i hi => this.2 i (List.mem_reverse.mp hi)⟩
    · exact G
  | wear n c r =>
    show GoodS (dWear S n c r).2.2
    unfold dWear
    split
    · rename_i t ht
      split
      · rename_i h2
        split
        · exact G
        · have g : GoodT S t := G.tg _ (lk_mem ht)
          have g' := g
          obtain ⟨a, b, q, d, e, f, k⟩ := g
          have hk : c.toNat < t.rows.length := by omega
          have hl : (setCell t.rows c.toNat r.toNat (-1)).length = t.rows.length := by unfold setCell; simp
          refine good_pt G ht (good_rows g' (by show 1 ≤ (setCell _ _ _ _).length; omega) (by show t.first + ((setCell _ _ _ _).length : Int) ≤ 12; omega) (fun x hx => ?_) d e rfl rfl)
          rcases setCell_mem hk hx with hx | ⟨y, hy, rfl⟩
          · exact q x hx
          · refine ⟨by rw [List.length_set]; exact (q y hy).1, fun i hi => ?_⟩
            rcases set_mem hi with hi | hi
            · exact (q y hy).2 i hi
            · omega
      · exact G
    · exact G
  | snap n c =>
    show GoodS (dSnap S n c).2.2
    unfold dSnap
    split
    · rename_i t ht
      split
      · rename_i h2
        split
        · rename_i h4
          have g : GoodT S t := G.tg _ (lk_mem ht)
          have g' := g
          obtain ⟨a, b, q, d, e, f, k⟩ := g
          have hL : GoodT S { t with rows := t.rows.take c.toNat, first := if t.way = 0 then t.first else t.first + (t.rows.length - c) } := by
            refine good_rows g' (by simp; omega) ?_ (fun x hx => q x (List.mem_of_mem_take hx)) ?_ e rfl rfl
            · dsimp only
              rw [List.length_take]
              split <;> omega
            · dsimp only
              split <;> omega
          have hR : GoodT S { t with rows := t.rows.drop c.toNat, first := if t.way = 0 then t.first + c else t.first } := by
            refine good_rows g' (by simp; omega) ?_ (fun x hx => q x (List.mem_of_mem_drop hx)) ?_ e rfl rfl
            · dsimp only
              rw [List.length_drop]
              split <;> omega
            · dsimp only
              split <;> omega
          have G1 := good_pt G ht hL
          exact good_add G1 h4 (gt_mono hR rfl fun i x hx => hx)
        · exact G
      · exact G
    · exact G
  | join n m =>
    show GoodS (dJoin S n m).2.2
    cases ht : lk S.things n with
    | none =>
      unfold dJoin
      rw [ht]
      exact G
    | some t =>
      cases hu : lk S.things m with
      | none =>
        unfold dJoin
        rw [ht, hu]
        exact G
      | some u =>
        unfold dJoin
        rw [ht, hu]
        dsimp only
        split
        · exact G
        · split
          · rename_i hc
            have g : GoodT S t := G.tg _ (lk_mem ht)
            have g2 : GoodT S u := G.tg _ (lk_mem hu)
            have g' := g
            obtain ⟨a, b, q, d, e, f, k⟩ := g
            obtain ⟨a2, b2, q2, d2, e2, f2, k2⟩ := g2
            have hg : GoodT S { t with rows := t.rows ++ u.rows, first := if t.way = 0 then t.first else u.first } := by
              refine good_rows g' ?_ ?_ (fun x hx => ?_) ?_ e rfl rfl
              · simp; omega
              · obtain ⟨c1, c2, c3, c4⟩ := hc
                dsimp only
                rw [List.length_append]
                split
                · rename_i hw
                  have := c3 hw
                  omega
                · have := c4 (by omega)
                  omega
              · rcases List.mem_append.mp hx with hx | hx
                · exact q x hx
                · exact q2 x hx
              · dsimp only
                split <;> omega
            exact good_dp (good_pt G ht hg) m
          · exact G
  | lose n =>
    show GoodS (dLose S n).2.2
    unfold dLose
    split
    · exact good_dp G n
    · exact G
/-! ### sources -/
/-! ### a workshop stands as the law's does -/
theorem plain_thing {n : Nat} {S : Sh} {t : Thing} (G : GoodS S) (g : GoodT S t) : plainV (n + 3) (sv t.rows) := plain_good (thing_good G g)
end P
/-! P16: a workshop and the law's own one, side by side. -/
namespace P
open PySem (Str PyData)
open Rc
variable {C : Str → List Val → M Val} {xs : List Str}
structure Two (rest : Store) (S : Sh) : Prop where
  p : ∀ o, ShopAt (o :: rest) 1 2 3 S
  w : ∀ o, LawAt (o :: rest) 7 4 5 6 S
  g : GoodS S
theorem same_of (S : Sh) (d : Deed) : (doD S d).1 ≠ "" → doD S d = ((doD S d).1, .non, S) := by
  cases d <;> simp only [doD]
  · unfold dCut; repeat' split
    all_goals simp
  · unfold dChip; repeat' split
    all_goals simp
  · unfold dRoll; repeat' split
    all_goals simp
  · unfold dTurn; repeat' split
    all_goals simp
  · unfold dWear; repeat' split
    all_goals simp
  · unfold dSnap; repeat' split
    all_goals simp
  · unfold dJoin; repeat' split
    all_goals simp
  · unfold dLose; repeat' split
    all_goals simp
/-- a deed tried: refusals become words -/
structure OkTried (ws : List Str) (F : Fn) : Prop where
  run : ∀ {st : Store} {l a b : Nat} {S : Sh}, ShopAt st l a b S → GoodS S → ∀ d : Deed, ((doD S d).1 ≠ "" → (doD S d).1 ∈ ws) → ∃ st', F [.loc l, dv d] st = .ok (.lst [.str (doD S d).1, (doD S d).2.1]) st' ∧ ShopAt st' l a b (doD S d).2.2 ∧ Off [l, a, b] st st'
theorem plain_deed {S : Sh} (G : GoodS S) (d : Deed) : plainV 6 (.lst [.str (doD S d).1, (doD S d).2.1]) := by
  refine .lst (by simp) fun w hw => ?_
  simp only [List.mem_cons, List.not_mem_nil, or_false] at hw
  rcases hw with rfl | rfl
  · exact .str _
  · cases d <;> simp only [doD]
    · unfold dCut; repeat' split
      all_goals first | exact .int _ | exact .non
    · unfold dChip; repeat' split
      all_goals first | exact .int _ | exact .non
    · unfold dRoll; repeat' split
      all_goals first | exact .int _ | exact .non
    · unfold dTurn; repeat' split
      all_goals first | exact .int _ | exact .non
    · unfold dWear; repeat' split
      all_goals first | exact .int _ | exact .non
    · unfold dSnap; repeat' split
      all_goals first | exact .int _ | exact .non
    · unfold dJoin; repeat' split
      all_goals first | exact .int _ | exact .non
    · unfold dLose; split
      · rename_i t ht
        exact plain_thing (n := 2) G (G.tg _ (lk_mem ht))
      · exact .non
theorem Two.next {o : Ob} {rest st1 st2 : Store} {S S' : Sh} (t : Two rest S) (h1 : ShopAt st1 1 2 3 S') (o1 : Off [1, 2, 3] (o :: rest) st1) (h2 : LawAt st2 7 4 5 6 S') (o2 : Off [7, 4, 5, 6] st1 st2) (g : GoodS S') : ∃ rest', st2 = o :: rest' ∧ Two rest' S' := by
  have e0 : st2[0]? = some o := by
    rw [o2.off 0 (by simp), o1.off 0 (by simp)]
    rfl
  have h3 := h1.off o2 (by simp) (by simp) (by simp)
  cases st2 with
  | nil => simp at e0
  | cons q r =>
    simp at e0
    subst e0
    exact ⟨r, rfl, fun o' => ⟨h3.o, h3.r, h3.s⟩, fun o' => ⟨h2.o, h2.r, h2.s, h2.q, h2.mb, h2.ac⟩, g⟩
/-- a deed done on both sides -/
theorem Two.deed {ws : List Str} {o : Ob} {rest : Store} {S : Sh} {F : Fn} (t : Two rest S) (h1 : OkTried ws F) (h2 : Ok_law_s_do (C "_law_s_do")) (d : Deed) (hw : (doD S d).1 ≠ "" → (doD S d).1 ∈ ws) : ∃ (w : Str) (v : Val) (st1 : Store) (rest' : Store) (S' : Sh), doD S d = (w, v, S') ∧ F [.loc 1, dv d] (o :: rest) = .ok (.lst [.str w, v]) st1 ∧ C "_law_s_do" [.loc 7, dv d] st1 = .ok (.tup [.str w, v]) (o :: rest') ∧ Two rest' S' ∧ plainV 6 (.lst [.str w, v]) := by
  obtain ⟨st1, e1, A1, O1⟩ := h1.run (t.p o) t.g d hw
  have w1 := (t.w o).off O1 (by simp) (by simp) (by simp) (by simp)
  obtain ⟨st2, e2, A2, O2⟩ := h2.run w1 t.g d
  obtain ⟨rest', rfl, T⟩ := t.next A1 O1 A2 O2 (good_do t.g d)
  exact ⟨_, _, st1, rest', _, rfl, e1, e2, T, plain_deed t.g d⟩
theorem high_do (S : Sh) (d : Deed) : (doD S d).2.2.high = S.high := by
  cases d <;> simp only [doD]
  · unfold dCut; repeat' split
    all_goals rfl
  · unfold dChip; repeat' split
    all_goals rfl
  · unfold dRoll; repeat' split
    all_goals rfl
  · unfold dTurn; repeat' split
    all_goals rfl
  · unfold dWear; repeat' split
    all_goals rfl
  · unfold dSnap; repeat' split
    all_goals rfl
  · unfold dJoin; repeat' split
    all_goals rfl
  · unfold dLose; repeat' split
    all_goals rfl
end P
/-! P17: numbers drawn; deeds that stand; what is told. -/
namespace P
open PySem (Str PyData)
open Rc
variable {C : Str → List Val → M Val} {xs : List Str}
theorem Two.done {o : Ob} {rest : Store} {S : Sh} {F G : Fn} (t : Two rest S) (h1 : Ok_law_shop_do F) (h2 : Ok_law_s_do G) (d : Deed) (hw : (doD S d).1 = "") : ∃ (v : Val) (st1 : Store) (rest' : Store), F [.loc 1, dv d] (o :: rest) = .ok v st1 ∧ G [.loc 7, dv d] st1 = .ok (.tup [.str "", v]) (o :: rest') ∧ Two rest' (doD S d).2.2 := by
  have r := h1.run (t.p o) t.g d
  have g := good_do t.g d
  have k : ∀ st, LawAt st 7 4 5 6 S → _ := fun st w => h2.run w t.g d
  generalize doD S d = q at *
  cases r with
  | ok e1 A1 O1 =>
    have w1 := (t.w o).off O1 (by simp) (by simp) (by simp) (by simp)
    obtain ⟨st2, e2, A2, O2⟩ := k _ w1
    obtain ⟨rest', rfl, T⟩ := t.next A1 O1 A2 O2 g
    exact ⟨_, _, rest', e1, e2, T⟩
  | exc n e => exact absurd hw n
theorem Two.grow {rest ext : Store} {S : Sh} (t : Two rest S) : Two (rest ++ ext) S := by
  have key : ∀ (o : Ob) (i : Nat) (x : Ob), (o :: rest)[i]? = some x → (o :: (rest ++ ext))[i]? = some x := fun o i x h => by
    rw [← List.cons_append, List.getElem?_append_left (List.getElem?_eq_some_iff.mp h).1]
    exact h
  exact ⟨fun o => ⟨key o _ _ (t.p o).o, key o _ _ (t.p o).r, key o _ _ (t.p o).s⟩, fun o => ⟨key o _ _ (t.w o).o, key o _ _ (t.w o).r, key o _ _ (t.w o).s, key o _ _ (t.w o).q, (t.w o).mb, (t.w o).ac⟩, t.g⟩
/-- a deed tried, whatever comes of it -/
structure Ok_law_shop_try (F : Fn) : Prop where
  run : ∀ {st : Store} {l a b : Nat} {S : Sh}, ShopAt st l a b S → GoodS S → ∀ d : Deed, ∃ st', F [.loc l, dv d] st = .ok (.lst [.str (if (doD S d).1 = "" then "" else "refused"), (doD S d).2.1]) st' ∧ ShopAt st' l a b (doD S d).2.2 ∧ Off [l, a, b] st st'
abbrev wsAll : List Str := ["BadSeal", "BadStart", "BadWidth", "Bare", "Full", "Lost", "NoCell", "NoSeal", "NoStrip", "NotPieces", "SameOne"]
def Ok_law_same_end (F : Fn) : Prop := ∀ (w w' : Str) (v : Val) (st : Store), plainV 5 v → (w = "" ↔ w' = "") → F [.lst [.str w, v], .tup [.str w', v]] st = .ok (.bl true) st
end P
/-! P18: copies of the law's workshop; two pieces; deeds drawn. -/
namespace P
open PySem (Str PyData)
open Rc
variable {C : Str → List Val → M Val} {xs : List Str}
section
variable {h : Int} {a b c x : Nat} {g : Int}
end
theorem at_grow {st ext : Store} {i : Nat} {x : Ob} (h : st[i]? = some x) : (st ++ ext)[i]? = some x := by
  rw [List.getElem?_append_left (List.getElem?_eq_some_iff.mp h).1]
  exact h
theorem LawAt.grow {st ext : Store} {m a b c : Nat} {S : Sh} (h : LawAt st m a b c S) : LawAt (st ++ ext) m a b c S := ⟨at_grow h.o, at_grow h.r, at_grow h.s, at_grow h.q, h.mb, h.ac⟩
theorem ShopAt.grow {st ext : Store} {m a b : Nat} {S : Sh} (h : ShopAt st m a b S) : ShopAt (st ++ ext) m a b S := ⟨at_grow h.o, at_grow h.r, at_grow h.s⟩
def copyL (n : Nat) (S : Sh) : Store := [.dK (mDict S.high (n + 1) (n + 2) S.given (n + 3)), .lst (S.seals.map sv), .dK (S.things.map (ent lVal)), .lst (S.rolls.map rollV)]
theorem copy_at {st : Store} {S : Sh} : LawAt (st ++ copyL st.length S) st.length (st.length + 1) (st.length + 2) (st.length + 3) S := by
  unfold copyL
  exact ⟨by simp, by simp, by simp, by simp, by omega, by omega⟩
def Ok_law_s_copy (F : Fn) : Prop := ∀ {st : Store} {m a b c : Nat} {S : Sh}, LawAt st m a b c S → F [.loc m] st = .ok (.loc st.length) (st ++ copyL st.length S)
def DeedT (S : Sh) (ws : List Str) (rest : Store) (v : Val) (st : Store) : Prop := ∃ (d : Deed) (o' : Ob) (ext : Store), DrawOb o' ∧ ((doD S d).1 ≠ "" → (doD S d).1 ∈ ws) ∧ v = dv d ∧ st = o' :: (rest ++ ext)
end P
/-! P19: deeds of every kind, drawn. -/
namespace P
open PySem (Str PyData)
open Rc
variable {C : Str → List Val → M Val} {xs : List Str}
def Ok_law_deed (F : Fn) : Prop := ∀ (o : Ob), DrawOb o → ∀ {rest : Store} {m a b c : Nat} {S : Sh}, (∀ o, LawAt (o :: rest) m a b c S) → GoodS S → ∃ v st', F [.loc 0, .loc m] (o :: rest) = .ok v st' ∧ DeedT S wsAll rest v st'
end P
/-! P20: a workshop stands as the law's does, though the law's table be in another order. -/
namespace P
open PySem (Str PyData)
open Rc
variable {C : Str → List Val → M Val} {xs : List Str}
section
variable {α : Type}
end
end P
/-! P21: deeds told by look-ups (for k38). -/
namespace P
open PySem (Str PyData)
open Rc
variable {C : Str → List Val → M Val} {xs : List Str}
end P
/-! P22: broken, turned and joined again (for k38). -/
namespace P
open PySem (Str PyData)
open Rc
variable {C : Str → List Val → M Val} {xs : List Str}
theorem ResP.done {F : Fn} {as : List Val} {st : Store} {l a b : Nat} {v : Val} {S' : Sh} (h : ResP F as st l a b (("" : Str), v, S')) : ∃ st', F as st = .ok v st' ∧ ShopAt st' l a b S' ∧ Off [l, a, b] st st' := by
  generalize ho : ((("" : Str), v, S') : Out) = o at h
  cases h with
  | ok h1 h2 h3 => cases ho; exact ⟨_, h1, h2, h3⟩
  | exc h1 h2 =>
    injection ho with q _
    exact absurd q.symm h1
end P
/-! P23: the same table in another order (for k38). -/
namespace P
open PySem (Str PyData)
open Rc
variable {C : Str → List Val → M Val} {xs : List Str}
theorem pt_nodup {α : Type} {t : List (Int × α)} {n : Int} {a : α} (h : (t.map (·.1)).Nodup) : ((pt t n a).map (·.1)).Nodup := by
  rw [pt_keys]
  split
  · exact h
  · rename_i hn
    rw [List.nodup_append]
    refine ⟨h, by simp, fun x hx y hy e => ?_⟩
    simp at hy
    exact hn (hy ▸ e ▸ hx)
end P
/-! P86: things of the store that lie apart; workshops and the law's own ones among them; twins. -/
namespace P
open PySem (Str PyData)
open Rc
variable {C : Str → List Val → M Val} {xs : List Str}
theorem Off.gro' {is : List Nat} {st st' : Store} (h : Off is st st') : st.length ≤ st'.length ∧ ∀ i, i < st.length → i ∉ is → st'[i]? = st[i]? := ⟨Nat.le_of_eq h.len.symm, fun i _ hi => h.off i hi⟩
/-- like st at the places that are not of is; it may have grown -/
structure Gro (is : List Nat) (st st' : Store) : Prop where
  len : st.length ≤ st'.length
  off : ∀ i, i < st.length → i ∉ is → st'[i]? = st[i]?
theorem Gro.refl {is : List Nat} {st : Store} : Gro is st st := ⟨Nat.le_refl _, fun _ _ _ => rfl⟩
theorem Gro.trans {is js : List Nat} {a b c : Store} (h : Gro is a b) (k : Gro js b c) (hj : ∀ j ∈ js, j ∈ is ∨ a.length ≤ j) : Gro is a c :=
  ⟨Nat.le_trans h.len k.len, fun i hi hn => by
    rw [k.off i (Nat.lt_of_lt_of_le hi h.len) (fun m => by rcases hj i m with q | q; exact hn q; omega)]
    exact h.off i hi hn⟩
theorem Gro.wid {is js : List Nat} {a b : Store} (h : Gro is a b) (hs : ∀ i ∈ is, i ∈ js) : Gro js a b := ⟨h.len, fun i hi hn => h.off i hi fun m => hn (hs i m)⟩
theorem gro_app {is : List Nat} {st ext : Store} : Gro is st (st ++ ext) := ⟨by simp, fun i hi _ => List.getElem?_append_left hi⟩
theorem gro_set {is : List Nat} {st : Store} {i : Nat} {o : Ob} (h : i ∈ is) : Gro is st (st.set i o) := ⟨by simp, fun j _ hj => by
  rw [List.getElem?_set_ne]
  exact fun e => hj (e ▸ h)⟩
/-- a thing of the store, with its places -/
structure Own where
  is : List Nat
  P : Store → Prop
  mv : ∀ {st st' : Store}, (∀ i ∈ is, st'[i]? = st[i]?) → P st → P st'
  lt : ∀ {st : Store}, P st → ∀ i ∈ is, i < st.length
structure Sep (st : Store) (os : List Own) : Prop where
  p : ∀ o ∈ os, o.P st
  nd : (os.flatMap (·.is)).Nodup
theorem Sep.perm {st : Store} {os os' : List Own} (h : Sep st os) (p : os.Perm os') : Sep st os' :=
  ⟨fun o ho => h.p o (p.mem_iff.mpr ho), (p.flatMap_right _).nodup_iff.mp h.nd⟩
theorem Sep.tail {st : Store} {o : Own} {os : List Own} (h : Sep st (o :: os)) : Sep st os :=
  ⟨fun x hx => h.p x (List.mem_cons_of_mem _ hx), by
    have := h.nd
    rw [List.flatMap_cons, List.nodup_append] at this
    exact this.2.1⟩
/-- the first thing changes, and may take new places -/
theorem Sep.step {st st' : Store} {o o' : Own} {os : List Own} {is : List Nat} (h : Sep st (o :: os)) (k : Gro is st st') (hi : ∀ i ∈ is, i ∈ o.is ∨ st.length ≤ i) (he : ∀ i ∈ o'.is, i ∈ o.is ∨ st.length ≤ i) (nd : o'.is.Nodup) (hp : o'.P st') : Sep st' (o' :: os) := by
  have hn := h.nd
  rw [List.flatMap_cons, List.nodup_append] at hn
  obtain ⟨n1, n2, n3⟩ := hn
  have hlt : ∀ x ∈ os, ∀ i ∈ x.is, i < st.length ∧ i ∉ o.is := fun x hx i hi => ⟨x.lt (h.p x (List.mem_cons_of_mem _ hx)) i hi, fun hm => n3 i hm i (List.mem_flatMap.mpr ⟨x, hx, hi⟩) rfl⟩
  constructor
  · intro x hx
    rcases List.mem_cons.mp hx with rfl | hx
    · exact hp
    · refine x.mv (fun i hm => ?_) (h.p x (List.mem_cons_of_mem _ hx))
      obtain ⟨q1, q2⟩ := hlt x hx i hm
      refine k.off i q1 fun hc => ?_
      rcases hi i hc with c | c
      · exact q2 c
      · omega
  · rw [List.flatMap_cons, List.nodup_append]
    refine ⟨nd, n2, fun i hi' j hj e => ?_⟩
    subst e
    obtain ⟨x, hx, hm⟩ := List.mem_flatMap.mp hj
    obtain ⟨q1, q2⟩ := hlt x hx i hm
    rcases he i hi' with c | c
    · exact q2 c
    · omega
/-- a new thing -/
theorem Sep.add {st st' : Store} {o' : Own} {os : List Own} {is : List Nat} (h : Sep st os) (k : Gro is st st') (hi : ∀ i ∈ is, st.length ≤ i) (he : ∀ i ∈ o'.is, st.length ≤ i) (nd : o'.is.Nodup) (hp : o'.P st') : Sep st' (o' :: os) := by
  have e0 : Sep st (⟨[], fun _ => True, fun _ _ => trivial, fun _ i hi => by simp at hi⟩ :: os) := ⟨fun o ho => by
    rcases List.mem_cons.mp ho with rfl | ho
    · trivial
    · exact h.p o ho, by simpa using h.nd⟩
  exact e0.step k (fun i m => .inr (hi i m)) (fun i m => .inr (he i m)) nd hp
/-- nothing of it changes -/
theorem Sep.still {st st' : Store} {os : List Own} {is : List Nat} (h : Sep st os) (k : Gro is st st') (hi : ∀ i ∈ is, st.length ≤ i) : Sep st' os :=
  ⟨fun x hx => x.mv (fun i hm => k.off i (x.lt (h.p x hx) i hm) fun hc => by
    have := x.lt (h.p x hx) i hm
    have := hi i hc
    omega) (h.p x hx), h.nd⟩
/-- the same, with the draw ahead of it all, whatever it is -/
structure DSep (rest : Store) (os : List Own) : Prop where
  s : ∀ o, Sep (o :: rest) os
  z : ∀ o ∈ os, 0 ∉ o.is
theorem DSep.perm {rest : Store} {os os' : List Own} (h : DSep rest os) (p : os.Perm os') : DSep rest os' := ⟨fun o => (h.s o).perm p, fun o ho => h.z o (p.mem_iff.mpr ho)⟩
theorem DSep.tail {rest : Store} {o : Own} {os : List Own} (h : DSep rest (o :: os)) : DSep rest os := ⟨fun x => (h.s x).tail, fun x hx => h.z x (List.mem_cons_of_mem _ hx)⟩
theorem head_of {x : Ob} {rest st' : Store} {is : List Nat} (k : Gro is (x :: rest) st') (hi : 0 ∉ is) : ∃ rest', st' = x :: rest' ∧ rest.length ≤ rest'.length := by
  have h := k.off 0 (by simp) hi
  have hl := k.len
  cases st' with
  | nil => simp at hl
  | cons q r =>
    simp at h
    subst h
    exact ⟨r, rfl, by simpa using hl⟩
theorem DSep.step {x : Ob} {rest st' : Store} {o o' : Own} {os : List Own} {is : List Nat} (h : DSep rest (o :: os)) (k : Gro is (x :: rest) st') (hi : ∀ i ∈ is, i ∈ o.is ∨ rest.length < i) (he : ∀ i ∈ o'.is, i ∈ o.is ∨ rest.length < i) (nd : o'.is.Nodup) (hp : o'.P st') : ∃ rest', st' = x :: rest' ∧ rest.length ≤ rest'.length ∧ DSep rest' (o' :: os) := by
  have z0 := h.z o (List.mem_cons_self ..)
  have zn : 0 ∉ is := fun m => by
    rcases hi 0 m with c | c
    · exact z0 c
    · omega
  have ze : 0 ∉ o'.is := fun m => by
    rcases he 0 m with c | c
    · exact z0 c
    · omega
  obtain ⟨rest', rfl, hl⟩ := head_of k zn
  refine ⟨rest', rfl, hl, fun y => ?_, fun o2 ho => ?_⟩
  · refine (h.s y).step (is := is) (st' := y :: rest') ⟨by simpa using hl, fun i h1 h2 => ?_⟩ (fun i m => by simpa [Nat.lt_iff_add_one_le] using hi i m) (fun i m => by simpa [Nat.lt_iff_add_one_le] using he i m) nd (o'.mv (fun i m => ?_) hp)
    · cases i with
      | zero => rfl
      | succ i =>
        have := k.off (i + 1) (by simpa using h1) h2
        simpa using this
    · cases i with
      | zero => exact absurd m ze
      | succ i => rfl
  · rcases List.mem_cons.mp ho with rfl | ho
    · exact ze
    · exact h.z o2 (List.mem_cons_of_mem _ ho)
theorem DSep.still {x : Ob} {rest st' : Store} {os : List Own} {is : List Nat} (h : DSep rest os) (k : Gro is (x :: rest) st') (hi : ∀ i ∈ is, rest.length < i) : ∃ rest', st' = x :: rest' ∧ rest.length ≤ rest'.length ∧ DSep rest' os := by
  have h' : DSep rest (⟨[], fun _ => True, fun _ _ => trivial, fun _ i hi => by simp at hi⟩ :: os) := ⟨fun y => ⟨fun o ho => by
    rcases List.mem_cons.mp ho with rfl | ho
    · trivial
    · exact (h.s y).p o ho, by simpa using (h.s y).nd⟩, fun o ho => by
    rcases List.mem_cons.mp ho with rfl | ho
    · simp
    · exact h.z o ho⟩
  obtain ⟨r, e, l, s⟩ := h'.step k (fun i m => .inr (hi i m)) (o' := ⟨[], fun _ => True, fun _ _ => trivial, fun _ i hi => by simp at hi⟩) (fun i m => by simp at m) (by simp) trivial
  exact ⟨r, e, l, s.tail⟩
theorem DSep.add {x : Ob} {rest st' : Store} {o' : Own} {os : List Own} {is : List Nat} (h : DSep rest os) (k : Gro is (x :: rest) st') (hi : ∀ i ∈ is, rest.length < i) (he : ∀ i ∈ o'.is, rest.length < i) (nd : o'.is.Nodup) (hp : o'.P st') : ∃ rest', st' = x :: rest' ∧ rest.length ≤ rest'.length ∧ DSep rest' (o' :: os) := by
  have h' : DSep rest (⟨[], fun _ => True, fun _ _ => trivial, fun _ i hi => by simp at hi⟩ :: os) := ⟨fun y => ⟨fun o ho => by
    rcases List.mem_cons.mp ho with rfl | ho
    · trivial
    · exact (h.s y).p o ho, by simpa using (h.s y).nd⟩, fun o ho => by
    rcases List.mem_cons.mp ho with rfl | ho
    · simp
    · exact h.z o ho⟩
  exact h'.step k (fun i m => .inr (hi i m)) (fun i m => .inr (he i m)) nd hp
theorem DSep.grow {rest : Store} {os : List Own} (h : DSep rest os) (ext : Store) : DSep (rest ++ ext) os := by
  refine ⟨fun y => (h.s y).still (is := []) (st' := y :: (rest ++ ext)) ?_ (by simp), h.z⟩
  have := gro_app (is := []) (st := y :: rest) (ext := ext)
  simpa using this
theorem DSep.get {rest : Store} {os : List Own} (h : DSep rest os) (x : Ob) {o : Own} (ho : o ∈ os) : o.P (x :: rest) := (h.s x).p o ho
theorem DSep.nd1 {rest : Store} {o : Own} {os : List Own} (h : DSep rest (o :: os)) (x : Ob) : o.is.Nodup := by
  have := (h.s x).nd
  rw [List.flatMap_cons, List.nodup_append] at this
  exact this.1
theorem DSep.lt {rest : Store} {os : List Own} (h : DSep rest os) (x : Ob) {o : Own} (ho : o ∈ os) : ∀ i ∈ o.is, i ≤ rest.length := fun i hi => by
  have := o.lt (h.get x ho) i hi
  simp at this
  omega
/-- two things as one -/
def Own.and (a b : Own) : Own where
  is := a.is ++ b.is
  P st := a.P st ∧ b.P st
  mv h p := ⟨a.mv (fun i hi => h i (List.mem_append.mpr (.inl hi))) p.1, b.mv (fun i hi => h i (List.mem_append.mpr (.inr hi))) p.2⟩
  lt p i hi := by
    rcases List.mem_append.mp hi with hi | hi
    · exact a.lt p.1 i hi
    · exact b.lt p.2 i hi
theorem DSep.split {rest : Store} {a b : Own} {os : List Own} : DSep rest (a.and b :: os) ↔ DSep rest (a :: b :: os) := by
  constructor
  · rintro ⟨s, z⟩
    refine ⟨fun x => ⟨fun o ho => ?_, ?_⟩, fun o ho => ?_⟩
    · have hp := (s x).p _ (List.mem_cons_self ..)
      rcases List.mem_cons.mp ho with rfl | ho
      · exact hp.1
      rcases List.mem_cons.mp ho with rfl | ho
      · exact hp.2
      · exact (s x).p o (List.mem_cons_of_mem _ ho)
    · have := (s x).nd
      simpa [Own.and, List.append_assoc] using this
    · have hz : 0 ∉ a.is ++ b.is := z _ (List.mem_cons_self ..)
      rcases List.mem_cons.mp ho with rfl | ho
      · exact fun m => hz (List.mem_append.mpr (.inl m))
      rcases List.mem_cons.mp ho with rfl | ho
      · exact fun m => hz (List.mem_append.mpr (.inr m))
      · exact z o (List.mem_cons_of_mem _ ho)
  · rintro ⟨s, z⟩
    refine ⟨fun x => ⟨fun o ho => ?_, ?_⟩, fun o ho => ?_⟩
    · rcases List.mem_cons.mp ho with rfl | ho
      · exact ⟨(s x).p _ (by simp), (s x).p _ (by simp)⟩
      · exact (s x).p o (by simp [ho])
    · have := (s x).nd
      simpa [Own.and, List.append_assoc] using this
    · rcases List.mem_cons.mp ho with rfl | ho
      · intro m
        rcases List.mem_append.mp m with m | m
        · exact z a (by simp) m
        · exact z b (by simp) m
      · exact z o (by simp [ho])
/-- the i-th one to the front -/
theorem perm_at {α : Type} : ∀ {l : List α} {i : Nat} {x : α}, l[i]? = some x → l.Perm (x :: l.eraseIdx i)
  | [], i, x, h => by simp at h
  | y :: l, 0, x, h => by
    simp at h
    subst h
    exact List.Perm.refl _
  | y :: l, i + 1, x, h => by
    have := perm_at (l := l) (i := i) (x := x) (by simpa using h)
    exact (this.cons y).trans (List.Perm.swap x y _)
theorem Off.gro {is : List Nat} {st st' : Store} (h : Off is st st') : Gro is st st' := ⟨h.gro'.1, h.gro'.2⟩
/-! ### things -/
def ownL (l : Nat) (vs : List Val) : Own where
  is := [l]
  P st := st[l]? = some (.lst vs)
  mv h p := (h l (by simp)).trans p
  lt p i hi := by
    rw [List.mem_singleton.mp hi]
    exact lt_of_at p
abbrev PlS := Nat × Nat × Nat
abbrev PlW := Nat × Nat × Nat × Nat
def ownS (p : PlS) (S : Sh) : Own where
  is := [p.1, p.2.1, p.2.2]
  P st := ShopAt st p.1 p.2.1 p.2.2 S ∧ GoodS S
  mv h p := ⟨⟨(h _ (by simp)).trans p.1.o, (h _ (by simp)).trans p.1.r, (h _ (by simp)).trans p.1.s⟩, p.2⟩
  lt p i hi := by
    simp only [List.mem_cons, List.not_mem_nil, or_false] at hi
    rcases hi with rfl | rfl | rfl
    · exact lt_of_at p.1.o
    · exact lt_of_at p.1.r
    · exact lt_of_at p.1.s
def ownW (q : PlW) (S : Sh) : Own where
  is := [q.1, q.2.1, q.2.2.1, q.2.2.2]
  P st := LawAt st q.1 q.2.1 q.2.2.1 q.2.2.2 S ∧ GoodS S
  mv h p := ⟨⟨(h _ (by simp)).trans p.1.o, (h _ (by simp)).trans p.1.r, (h _ (by simp)).trans p.1.s, (h _ (by simp)).trans p.1.q, p.1.mb, p.1.ac⟩, p.2⟩
  lt p i hi := by
    simp only [List.mem_cons, List.not_mem_nil, or_false] at hi
    rcases hi with rfl | rfl | rfl | rfl
    · exact lt_of_at p.1.o
    · exact lt_of_at p.1.r
    · exact lt_of_at p.1.s
    · exact lt_of_at p.1.q
/-! ### twins of workshops -/
def twinL (n : Nat) (S : Sh) : Store := [shopOb S (n + 3) (n + 4), .lst [], .dK [], .lst (S.seals.map sv), .dK (S.things.map (ent pVal))]
theorem twin_at {st : Store} {S : Sh} : ShopAt (st ++ twinL st.length S) st.length (st.length + 3) (st.length + 4) S := by
  unfold twinL
  exact ⟨by simp, by simp, by simp⟩
theorem DSep.twin {rest : Store} {os : List Own} {S : Sh} (D : DSep rest os) (G : GoodS S) : DSep (rest ++ twinL (rest.length + 1) S) (ownS (rest.length + 1, rest.length + 4, rest.length + 5) S :: os) := by
  have a1 := twin_at (st := Ob.lst [] :: rest) (S := S)
  obtain ⟨r, e, _, D'⟩ := D.add (is := []) (x := .lst []) (st' := (Ob.lst [] :: rest) ++ twinL (rest.length + 1) S) (o' := ownS (rest.length + 1, rest.length + 4, rest.length + 5) S) gro_app (by simp) (fun i hi => by
    simp [ownS] at hi
    omega) (by
    show [rest.length + 1, rest.length + 4, rest.length + 5].Nodup
    simp) ⟨a1, G⟩
  rw [List.cons_append] at e
  rw [(List.cons.inj e).2]
  exact D'
theorem DSep.copy {rest : Store} {os : List Own} {S : Sh} (D : DSep rest os) (G : GoodS S) : DSep (rest ++ copyL (rest.length + 1) S) (ownW (rest.length + 1, rest.length + 2, rest.length + 3, rest.length + 4) S :: os) := by
  have a1 := copy_at (st := Ob.lst [] :: rest) (S := S)
  obtain ⟨r, e, _, D'⟩ := D.add (is := []) (x := .lst []) (st' := (Ob.lst [] :: rest) ++ copyL (rest.length + 1) S) (o' := ownW (rest.length + 1, rest.length + 2, rest.length + 3, rest.length + 4) S) gro_app (by simp) (fun i hi => by
    simp [ownW] at hi
    omega) (by
    show [rest.length + 1, rest.length + 2, rest.length + 3, rest.length + 4].Nodup
    simp) ⟨a1, G⟩
  rw [List.cons_append] at e
  rw [(List.cons.inj e).2]
  exact D'
/-- a list laid anew -/
theorem DSep.newl {rest : Store} {os : List Own} (D : DSep rest os) (vs : List Val) : DSep (rest ++ [.lst vs]) (ownL (rest.length + 1) vs :: os) := by
  obtain ⟨r, e, _, D'⟩ := D.add (is := []) (x := .lst []) (st' := (Ob.lst [] :: rest) ++ [.lst vs]) (o' := ownL (rest.length + 1) vs) gro_app (by simp) (fun i hi => by
    simp [ownL] at hi
    omega) (by simp [ownL]) (by
    show ((Ob.lst [] :: rest) ++ [Ob.lst vs])[rest.length + 1]? = some (.lst vs)
    simp)
  rw [List.cons_append] at e
  rw [(List.cons.inj e).2]
  exact D'
/-- a list changes -/
theorem DSep.setl {rest : Store} {os : List Own} {l : Nat} {vs : List Val} (D : DSep rest (ownL (l + 1) vs :: os)) (ws : List Val) : DSep (rest.set l (.lst ws)) (ownL (l + 1) ws :: os) := by
  have hl : l < rest.length := by
    have := D.lt (.lst []) (List.mem_cons_self ..) (l + 1) (by simp [ownL])
    omega
  obtain ⟨r, e, _, D'⟩ := D.step (is := [l + 1]) (x := .lst []) (st' := (Ob.lst [] :: rest).set (l + 1) (.lst ws)) (o' := ownL (l + 1) ws) (gro_set (by simp)) (fun i hi => .inl hi) (fun i hi => .inl hi) (by simp [ownL]) (by
    show ((Ob.lst [] :: rest).set (l + 1) (Ob.lst ws))[l + 1]? = some (.lst ws)
    simp [hl])
  rw [List.set_cons_succ] at e
  rw [(List.cons.inj e).2]
  exact D'
theorem DSep.getl {rest : Store} {os : List Own} {l : Nat} {vs : List Val} (D : DSep rest os) (h : ownL (l + 1) vs ∈ os) : rest[l]? = some (.lst vs) := by
  have := D.get (.lst []) h
  exact this
/-- the first one goes -/
theorem DSep.drop {rest : Store} : ∀ {X os : List Own}, DSep rest (X ++ os) → DSep rest os
  | [], _, D => D
  | _ :: X, os, D => DSep.drop (X := X) D.tail
end P
/-! P87: a workshop and the law's own one as one thing. -/
namespace P
open PySem (Str PyData)
open Rc
variable {C : Str → List Val → M Val} {xs : List Str}
structure Tw where
  p : PlS
  w : PlW
  S : Sh
def ownT (t : Tw) : Own := (ownS t.p t.S).and (ownW t.w t.S)
theorem own_disj {rest : Store} {a b : Own} {os : List Own} (D : DSep rest (a.and b :: os)) : ∀ i ∈ b.is, i ∉ a.is := by
  have := D.nd1 (.lst [])
  have e : (a.and b).is = a.is ++ b.is := rfl
  rw [e, List.nodup_append] at this
  exact fun i hb ha => this.2.2 i ha i hb rfl
/-- both have changed, each at its own places -/
theorem Tw.next {o : Ob} {rest st1 st2 : Store} {t : Tw} {os : List Own} {S' : Sh} (D : DSep rest (ownT t :: os)) (g : GoodS S') (A1 : ShopAt st1 t.p.1 t.p.2.1 t.p.2.2 S') (O1 : Off [t.p.1, t.p.2.1, t.p.2.2] (o :: rest) st1) (A2 : LawAt st2 t.w.1 t.w.2.1 t.w.2.2.1 t.w.2.2.2 S') (O2 : Off [t.w.1, t.w.2.1, t.w.2.2.1, t.w.2.2.2] st1 st2) : ∃ rest', st2 = o :: rest' ∧ rest.length = rest'.length ∧ DSep rest' (ownT { t with S := S' } :: os) := by
  have dj := own_disj D
  have k : Gro (ownT t).is (o :: rest) st2 := (O1.gro.wid (js := (ownT t).is) (fun i hi => List.mem_append.mpr (.inl hi))).trans (O2.gro.wid (js := (ownT t).is) (fun i hi => List.mem_append.mpr (.inr hi))) (fun j hj => .inl hj)
  have A3 := (ownS t.p S').mv (st := st1) (st' := st2) (fun i hi => O2.off i fun m => dj i m hi) ⟨A1, g⟩
  obtain ⟨r, e, l, D'⟩ := D.step k (fun i hi => .inl hi) (o' := ownT { t with S := S' }) (fun i hi => .inl hi) (D.nd1 o) ⟨A3, A2, g⟩
  refine ⟨r, e, ?_, D'⟩
  have := O2.len
  rw [O1.len, e] at this
  simpa using this.symm
/-- the others stand meanwhile -/
theorem own_off {o : Ob} {rest st1 : Store} {a : Own} {os : List Own} {is : List Nat} (D : DSep rest (a :: os)) (O : Off is (o :: rest) st1) (h : ∀ i ∈ is, i ∈ a.is) : ∀ x ∈ os, x.P st1 := by
  intro x hx
  have nd := (D.s o).nd
  rw [List.flatMap_cons, List.nodup_append] at nd
  refine x.mv (fun i hi => O.off i fun m => ?_) (D.get o (List.mem_cons_of_mem _ hx))
  exact nd.2.2 i (h i m) i (List.mem_flatMap.mpr ⟨x, hx, hi⟩) rfl
theorem Tw.same {o : Ob} {rest : Store} {t : Tw} {os : List Own} (D : DSep rest (ownT t :: os)) (h1 : Ok_law_shop_try (C "_law_shop_try")) (h2 : Ok_law_s_do (C "_law_s_do")) (h3 : Ok_law_same_end (C "_law_same_end")) (d : Deed) : ∃ (u u' : Val) (st1 : Store) (rest' : Store), C "_law_shop_try" [.loc t.p.1, dv d] (o :: rest) = .ok u st1 ∧ C "_law_s_do" [.loc t.w.1, dv d] st1 = .ok u' (o :: rest') ∧ C "_law_same_end" [u, u'] (o :: rest') = .ok (.bl true) (o :: rest') ∧ (∀ x ∈ os, x.P st1) ∧ DSep rest' (ownT { t with S := (doD t.S d).2.2 } :: os) := by
  obtain ⟨⟨P1, G⟩, W1, _⟩ := D.get o (List.mem_cons_self ..)
  obtain ⟨st1, e1, A1, O1⟩ := h1.run P1 G d
  have W2 := (ownW t.w t.S).mv (st := o :: rest) (st' := st1) (fun i hi => O1.off i (own_disj D i hi)) ⟨W1, G⟩
  obtain ⟨st2, e2, A2, O2⟩ := h2.run W2.1 G d
  obtain ⟨rest', rfl, l, D'⟩ := Tw.next D (good_do G d) A1 O1 A2 O2
  have pl := plain_deed G d
  have pv : plainV 5 (doD t.S d).2.1 := by
    cases pl with
    | lst _ h => exact h _ (by simp)
  refine ⟨_, _, st1, rest', e1, e2, h3 _ _ _ _ pv ?_, own_off D O1 (fun i hi => List.mem_append.mpr (.inl hi)), D'⟩
  by_cases c : (doD t.S d).1 = ""
  · simp [c]
  · simp [c]
/-- a deed that is done on both sides -/
theorem Tw.done {o : Ob} {rest : Store} {t : Tw} {os : List Own} {F G : Fn} (D : DSep rest (ownT t :: os)) (h1 : Ok_law_shop_do F) (h2 : Ok_law_s_do G) (d : Deed) (hw : (doD t.S d).1 = "") : ∃ (v : Val) (st1 : Store) (rest' : Store), F [.loc t.p.1, dv d] (o :: rest) = .ok v st1 ∧ G [.loc t.w.1, dv d] st1 = .ok (.tup [.str "", v]) (o :: rest') ∧ (∀ x ∈ os, x.P st1) ∧ DSep rest' (ownT { t with S := (doD t.S d).2.2 } :: os) := by
  obtain ⟨⟨P1, gd⟩, W1, _⟩ := D.get o (List.mem_cons_self ..)
  have r := h1.run P1 gd d
  have g := good_do gd d
  have k : ∀ st, LawAt st t.w.1 t.w.2.1 t.w.2.2.1 t.w.2.2.2 t.S → _ := fun st w => h2.run w gd d
  generalize doD t.S d = q at *
  cases r with
  | ok e1 A1 O1 =>
    have W2 := (ownW t.w t.S).mv (st := o :: rest) (fun i hi => O1.off i (own_disj D i hi)) ⟨W1, gd⟩
    obtain ⟨st2, e2, A2, O2⟩ := k _ W2.1
    obtain ⟨rest', rfl, l, D'⟩ := Tw.next D g A1 O1 A2 O2
    exact ⟨_, _, rest', e1, e2, own_off D O1 (fun i hi => List.mem_append.mpr (.inl hi)), D'⟩
  | exc n e => exact absurd hw n
end P
/-! P24: a tray: what it is; the program's deeds. -/
namespace P
open PySem (Str PyData)
open Rc
variable {C : Str → List Val → M Val} {xs : List Str}
abbrev Tie := Str × Int × Int
structure Tr where
  high : Int
  kept : List (Int × Strip)
  said : List (Int × Tie)
  count : Int
  talk : Int
def tieV (t : Tie) : Val := .tup [.str t.1, .int t.2.1, .int t.2.2]
structure GoodTr (T : Tr) : Prop where
  h1 : 1 ≤ T.high
  h2 : T.high ≤ 3
  kl : T.kept.length ≤ 8
  kn : (T.kept.map (·.1)).Nodup
  kb : ∀ p ∈ T.kept, p.1 ≤ T.count
  kg : ∀ p ∈ T.kept, goodStrip p.2 = true ∧ (high p.2 : Int) = T.high
  sn : (T.said.map (·.1)).Nodup
  sb : ∀ p ∈ T.said, p.1 ≤ T.talk
  sl : (T.said.length : Int) ≤ T.talk
  sx : T.talk ≤ 60
def trayOb (T : Tr) (a b : Nat) : Ob := .ins "Tray" [("tall", .int T.high), ("kept", .loc a), ("said", .loc b), ("count", .int T.count), ("talk", .int T.talk)]
structure TrayAt (st : Store) (l a b : Nat) (T : Tr) : Prop where
  o : st[l]? = some (trayOb T a b)
  k : st[a]? = some (.dK (T.kept.map (ent sv)))
  s : st[b]? = some (.dK (T.said.map (ent tieV)))
  ab : a ≠ b
theorem TrayAt.off {st st' : Store} {l a b : Nat} {T : Tr} {is : List Nat} (h : TrayAt st l a b T) (k : Off is st st') (h1 : l ∉ is) (h2 : a ∉ is) (h3 : b ∉ is) : TrayAt st' l a b T := ⟨(k.off l h1).trans h.o, (k.off a h2).trans h.k, (k.off b h3).trans h.s, h.ab⟩
/-! ### what deeds do -/
abbrev OutT := Str × Val × Tr
def tGood (T : Tr) (s : Strip) : Prop := goodStrip s = true ∧ (high s : Int) = T.high
instance (T : Tr) (s : Strip) : Decidable (tGood T s) := by unfold tGood; infer_instance
def names (n : Int) (t : Tie) : Bool := decide (t.2.1 = n) || decide (t.2.2 = n)
def tPut (T : Tr) (s : Strip) : OutT :=
  if tGood T s then
    if T.kept.length < 8 then ("", .int (T.count + 1), { T with kept := T.kept ++ [(T.count + 1, s)], count := T.count + 1 }) else ("Full", .non, T)
  else ("BadStrip", .non, T)
def tRight (T : Tr) (n : Int) (s : Strip) : OutT := match lk T.kept n with
  | some t => if tGood T s then ("", sv t, { T with kept := pt T.kept n s }) else ("BadStrip", .non, T)
  | none => ("NoStrip", .non, T)
def tOut (T : Tr) (n : Int) : OutT := match lk T.kept n with
  | some t => ("", sv t, { T with kept := dp T.kept n, said := T.said.filter fun p => !names n p.2 })
  | none => ("NoStrip", .non, T)
def tDoubt (T : Tr) (n c r : Int) : OutT := match lk T.kept n with
  | some t =>
    if 0 ≤ c ∧ c < t.length ∧ 0 ≤ r ∧ r < T.high then
      if cellAt t c.toNat r.toNat = -1 then ("Lost", .non, T)
      else ("", .int (cellAt t c.toNat r.toNat), { T with kept := pt T.kept n (setCell t c.toNat r.toNat (-1)) })
    else ("NoCell", .non, T)
  | none => ("NoStrip", .non, T)
def tSee (T : Tr) (n c r g : Int) : OutT := match lk T.kept n with
  | some t =>
    if 0 ≤ c ∧ c < t.length ∧ 0 ≤ r ∧ r < T.high then
      if cellAt t c.toNat r.toNat = -1 then
        if 0 ≤ g ∧ g ≤ 9 then ("", .non, { T with kept := pt T.kept n (setCell t c.toNat r.toNat g) }) else ("BadSign", .non, T)
      else ("NotLost", .non, T)
    else ("NoCell", .non, T)
  | none => ("NoStrip", .non, T)
def tSay (T : Tr) (w : Str) (i j : Int) : OutT :=
  if w = "one" ∨ w = "two" then match lk T.kept i, lk T.kept j with
    | some _, some _ => if i = j then ("SameOne", .non, T) else ("", .int (T.talk + 1), { T with said := T.said ++ [(T.talk + 1, (w, i, j))], talk := T.talk + 1 })
    | _, _ => ("NoStrip", .non, T)
  else ("BadTie", .non, T)
def tUnsay (T : Tr) (n : Int) : OutT := match lk T.said n with
  | some t => ("", tieV t, { T with said := dp T.said n })
  | none => ("NoSaying", .non, T)
/-! ### the program's -/
theorem GoodTr.fresh {T : Tr} (G : GoodTr T) : T.count + 1 ∉ T.kept.map (·.1) := fun h => by
  obtain ⟨p, hp, e⟩ := List.mem_map.mp h
  have := G.kb p hp
  omega
theorem GoodTr.freshS {T : Tr} (G : GoodTr T) : T.talk + 1 ∉ T.said.map (·.1) := fun h => by
  obtain ⟨p, hp, e⟩ := List.mem_map.mp h
  have := G.sb p hp
  omega
theorem kept_cells {T : Tr} (G : GoodTr T) {n : Int} {t : Strip} (ht : lk T.kept n = some t) : 1 ≤ t.length ∧ t.length ≤ 12 ∧ (high t : Int) = T.high ∧ ∀ c ∈ t, c.length = high t ∧ ∀ i ∈ c, -1 ≤ i ∧ i ≤ 9 := by
  obtain ⟨g, e⟩ := G.kg _ (lk_mem ht)
  obtain ⟨g1, g2, g3, g4, g5⟩ := good_cols g
  exact ⟨g1, g2, e, g5⟩
end P
/-! P25: a tray, further: striking out, questions, the law's own table. -/
namespace P
open PySem (Str PyData)
open Rc
variable {C : Str → List Val → M Val} {xs : List Str}
/-! ### sayings that go -/
@[simp] theorem cut3 {x y z : Val} : cut [x, y, z] (some 1) none = [y, z] := rfl
/-! ### questions -/
def numsS (T : Tr) : List Int := srt (T.said.map (·.1))
/-- a saying as it is told -/
def tellV (T : Tr) (k : Int) : Val := match lk T.said k with
  | some t => .tup [.int k, .str t.1, .int t.2.1, .int t.2.2]
  | none => .non
def tells (T : Tr) : List Val := (numsS T).map (tellV T)
/-! ### a new one -/
end P
/-! P26: the law's own tray. -/
namespace P
open PySem (Str PyData)
open Rc
variable {C : Str → List Val → M Val} {xs : List Str}
def tDict (h : Int) (a b : Nat) (c t : Int) : List (Key × Val) := [(.inr "high", .int h), (.inr "strips", .loc a), (.inr "said", .loc b), (.inr "count", .int c), (.inr "talk", .int t)]
section
variable {h c t v : Int} {a b : Nat}
end
structure LawT (st : Store) (m a b : Nat) (T : Tr) : Prop where
  o : st[m]? = some (.dK (tDict T.high a b T.count T.talk))
  k : st[a]? = some (.dK (T.kept.map (ent sv)))
  s : st[b]? = some (.dK (T.said.map (ent tieV)))
  ma : m ≠ a
  mb : m ≠ b
  ab : a ≠ b
theorem LawT.off {st st' : Store} {m a b : Nat} {T : Tr} {is : List Nat} (h : LawT st m a b T) (k : Off is st st') (h1 : m ∉ is) (h2 : a ∉ is) (h3 : b ∉ is) : LawT st' m a b T := ⟨(k.off m h1).trans h.o, (k.off a h2).trans h.k, (k.off b h3).trans h.s, h.ma, h.mb, h.ab⟩
/-- how the law's run ends -/
def ResLT (F : Fn) (args : List Val) (st : Store) (m a b : Nat) (o : OutT) : Prop := ∃ st', F args st = .ok (.tup [.str o.1, o.2.1]) st' ∧ LawT st' m a b o.2.2 ∧ Off [m, a, b] st st'
@[simp] theorem at2m {x y : Val} : L2.atI [x, y] (-1) = some y := rfl
@[simp] theorem at3m {x y z : Val} : L2.atI [x, y, z] (-1) = some z := rfl
@[simp] theorem at50 {x y z w u : Val} : L2.atI [x, y, z, w, u] 0 = some x := rfl
@[simp] theorem at51 {x y z w u : Val} : L2.atI [x, y, z, w, u] 1 = some y := rfl
@[simp] theorem at52 {x y z w u : Val} : L2.atI [x, y, z, w, u] 2 = some z := rfl
@[simp] theorem at53 {x y z w u : Val} : L2.atI [x, y, z, w, u] 3 = some w := rfl
@[simp] theorem at54 {x y z w u : Val} : L2.atI [x, y, z, w, u] 4 = some u := rfl
inductive TDeed where
  | put (s : Strip)
  | right (n : Int) (s : Strip)
  | out (n : Int)
  | doubt (n c r : Int)
  | see (n c r g : Int)
  | say (w : Str) (i j : Int)
  | unsay (n : Int)
def tdv : TDeed → Val
  | .put s => .tup [.str "put", sv s]
  | .right n s => .tup [.str "right", .int n, sv s]
  | .out n => .tup [.str "out", .int n]
  | .doubt n c r => .tup [.str "doubt", .int n, .int c, .int r]
  | .see n c r g => .tup [.str "see", .int n, .int c, .int r, .int g]
  | .say w i j => .tup [.str "say", .str w, .int i, .int j]
  | .unsay n => .tup [.str "unsay", .int n]
def doT (T : Tr) : TDeed → OutT
  | .put s => tPut T s
  | .right n s => tRight T n s
  | .out n => tOut T n
  | .doubt n c r => tDoubt T n c r
  | .see n c r g => tSee T n c r g
  | .say w i j => tSay T w i j
  | .unsay n => tUnsay T n
end P
/-! P27: deeds of all kinds in trays; both sides. -/
namespace P
open PySem (Str PyData)
open Rc
variable {C : Str → List Val → M Val} {xs : List Str}
structure Ok_law_t_do (F : Fn) : Prop where
  run : ∀ {st : Store} {m a b : Nat} {T : Tr}, LawT st m a b T → GoodTr T → ∀ d : TDeed, ResLT F [.loc m, tdv d] st m a b (doT T d)
/-! ### what stays good -/
theorem set_good {T : Tr} {t : Strip} {c r : Nat} {g : Int} (hg : goodStrip t = true) (hh : (high t : Int) = T.high) (hc : c < t.length) (hr : r < (nth t c).length) (h1 : -1 ≤ g) (h2 : g ≤ 9) : goodStrip (setCell t c r g) = true ∧ (high (setCell t c r g) : Int) = T.high := by
  obtain ⟨g1, g2, g3, g4, g5⟩ := good_cols hg
  have hlen : (setCell t c r g).length = t.length := by unfold setCell; simp
  have hcols : ∀ d ∈ setCell t c r g, d.length = high t ∧ ∀ i ∈ d, -1 ≤ i ∧ i ≤ 9 := by
    intro d hd
    unfold setCell at hd
    rcases List.mem_or_eq_of_mem_set hd with hd | rfl
    · exact g5 d hd
    · obtain ⟨k1, k2⟩ := g5 _ (nth_mem hc)
      refine ⟨by rw [List.length_set]; exact k1, fun i hi => ?_⟩
      rcases List.mem_or_eq_of_mem_set hi with hi | rfl
      · exact k2 i hi
      · exact ⟨h1, h2⟩
  have hhigh : high (setCell t c r g) = high t := by
    have h0 : 0 < (setCell t c r g).length := by omega
    rw [(high_eq (s := setCell t c r g) (by omega)).2]
    exact (hcols _ (nth_mem h0)).1
  refine ⟨?_, by rw [hhigh]; exact hh⟩
  unfold goodStrip
  rw [Bool.and_eq_true, Bool.and_eq_true, decide_eq_true_eq, decide_eq_true_eq, List.all_eq_true, hlen, hhigh]
  refine ⟨⟨g1, g2⟩, fun d hd => ?_⟩
  obtain ⟨k1, k2⟩ := hcols d hd
  unfold okCol
  simp only [Bool.and_eq_true, decide_eq_true_eq, List.all_eq_true]
  refine ⟨⟨⟨by omega, by omega⟩, k1⟩, fun i hi => ?_⟩
  unfold okCell
  simp only [Bool.and_eq_true, decide_eq_true_eq]
  exact k2 i hi
theorem pt_len {α : Type} {t : List (Int × α)} {n : Int} {a b : α} (h : lk t n = some b) : (pt t n a).length = t.length := by
  have := congrArg List.length (pt_keys (t := t) (n := n) (a := a))
  rw [if_pos] at this
  · simpa using this
  · by_cases z : n ∈ t.map (·.1)
    · exact z
    · rw [lk_none.mpr z] at h; cases h
theorem GoodTr.put {T : Tr} (G : GoodTr T) {n : Int} {t s : Strip} (ht : lk T.kept n = some t) (hs : goodStrip s = true ∧ (high s : Int) = T.high) : GoodTr { T with kept := pt T.kept n s } where
  h1 := G.h1
  h2 := G.h2
  kl := by show (pt T.kept n s).length ≤ 8; rw [pt_len ht]; exact G.kl
  kn := pt_nodup G.kn
  kb := fun p hp => by
    rcases pt_mem hp with rfl | ⟨h, _⟩ | ⟨h, _⟩
    · exact G.kb (n, t) (lk_mem ht)
    · exact G.kb p h
    · exact G.kb p h
  kg := fun p hp => by
    rcases pt_mem hp with rfl | ⟨h, _⟩ | ⟨h, _⟩
    · exact hs
    · exact G.kg p h
    · exact G.kg p h
  sn := G.sn
  sb := G.sb
  sl := G.sl
  sx := G.sx
theorem good_doT {T : Tr} (G : GoodTr T) (hx : T.talk ≤ 59) (d : TDeed) : GoodTr (doT T d).2.2 := by
  cases d with
  | put s =>
    show GoodTr (tPut T s).2.2
    unfold tPut
    split
    · rename_i hs
      split
      · rename_i hl
        exact ⟨G.h1, G.h2, by simp; omega, by
          show ((T.kept ++ [(T.count + 1, s)]).map (·.1)).Nodup
          rw [List.map_append, List.nodup_append]
          refine ⟨G.kn, by simp, fun x hx y hy => ?_⟩
          simp at hy
          subst hy
          exact fun z => G.fresh (z ▸ hx), fun p hp => by
          rcases List.mem_append.mp hp with h | h
          · have := G.kb p h; show p.1 ≤ T.count + 1; omega
          · rw [List.mem_singleton.mp h]; exact Int.le_refl _, fun p hp => by
          rcases List.mem_append.mp hp with h | h
          · exact G.kg p h
          · rw [List.mem_singleton.mp h]; exact hs, G.sn, G.sb, G.sl, G.sx⟩
      · exact G
    · exact G
  | right n s =>
    show GoodTr (tRight T n s).2.2
    unfold tRight
    split
    · rename_i t ht
      split
      · rename_i hs
        exact G.put ht hs
      · exact G
    · exact G
  | out n =>
    show GoodTr (tOut T n).2.2
    unfold tOut
    split
    · have s1 : (dp T.kept n).Sublist T.kept := List.filter_sublist
      have s2 : (T.said.filter fun p => !names n p.2).Sublist T.said := List.filter_sublist
      exact ⟨G.h1, G.h2, Nat.le_trans s1.length_le G.kl, G.kn.sublist (s1.map _), fun p hp => G.kb p (s1.subset hp), fun p hp => G.kg p (s1.subset hp), G.sn.sublist (s2.map _), fun p hp => G.sb p (s2.subset hp), by
        have := s2.length_le
        have := G.sl
        show ((T.said.filter fun p => !names n p.2).length : Int) ≤ T.talk
        omega, G.sx⟩
    · exact G
  | doubt n c r =>
    show GoodTr (tDoubt T n c r).2.2
    unfold tDoubt
    split
    · rename_i t ht
      obtain ⟨g0, g0'⟩ := G.kg _ (lk_mem ht)
      obtain ⟨g1, g2, g3, g4⟩ := kept_cells G ht
      split
      · rename_i h2
        split
        · exact G
        · have hc : c.toNat < t.length := by omega
          have hcm := (g4 _ (nth_mem hc)).1
          exact G.put ht (set_good g0 g0' hc (by omega) (by decide) (by decide))
      · exact G
    · exact G
  | see n c r g =>
    show GoodTr (tSee T n c r g).2.2
    unfold tSee
    split
    · rename_i t ht
      obtain ⟨g0, g0'⟩ := G.kg _ (lk_mem ht)
      obtain ⟨g1, g2, g3, g4⟩ := kept_cells G ht
      split
      · rename_i h2
        split
        · split
          · rename_i hg
            have hc : c.toNat < t.length := by omega
            have hcm := (g4 _ (nth_mem hc)).1
            exact G.put ht (set_good g0 g0' hc (by omega) (by omega) (by omega))
          · exact G
        · exact G
      · exact G
    · exact G
  | say w i j =>
    show GoodTr (tSay T w i j).2.2
    unfold tSay
    split
    · split
      · split
        · exact G
        · exact ⟨G.h1, G.h2, G.kl, G.kn, G.kb, G.kg, by
            show ((T.said ++ [(T.talk + 1, (w, i, j))]).map (·.1)).Nodup
            rw [List.map_append, List.nodup_append]
            refine ⟨G.sn, by simp, fun x hx y hy => ?_⟩
            simp at hy
            subst hy
            exact fun z => G.freshS (z ▸ hx), fun p hp => by
            rcases List.mem_append.mp hp with h | h
            · have := G.sb p h; show p.1 ≤ T.talk + 1; omega
            · rw [List.mem_singleton.mp h]; exact Int.le_refl _, by
            have := G.sl
            show ((T.said ++ [(T.talk + 1, (w, i, j))]).length : Int) ≤ T.talk + 1
            simp
            omega, by show T.talk + 1 ≤ 60; omega⟩
      · exact G
    · exact G
  | unsay n =>
    show GoodTr (tUnsay T n).2.2
    unfold tUnsay
    split
    · have s2 : (dp T.said n).Sublist T.said := List.filter_sublist
      exact ⟨G.h1, G.h2, G.kl, G.kn, G.kb, G.kg, G.sn.sublist (s2.map _), fun p hp => G.sb p (s2.subset hp), by
        have := s2.length_le
        have := G.sl
        show ((dp T.said n).length : Int) ≤ T.talk
        omega, G.sx⟩
    · exact G
end P
/-! P28: a tray and the law's own one, side by side. -/
namespace P
open PySem (Str PyData)
open Rc
variable {C : Str → List Val → M Val} {xs : List Str}
structure TwoT (rest : Store) (T : Tr) : Prop where
  p : ∀ o, TrayAt (o :: rest) 1 2 3 T
  w : ∀ o, LawT (o :: rest) 6 4 5 T
  g : GoodTr T
structure OkTriedT (ws : List Str) (F : Fn) : Prop where
  run : ∀ {st : Store} {l a b : Nat} {T : Tr}, TrayAt st l a b T → GoodTr T → ∀ d : TDeed, ((doT T d).1 ≠ "" → (doT T d).1 ∈ ws) → ∃ st', F [.loc l, tdv d] st = .ok (.lst [.str (doT T d).1, (doT T d).2.1]) st' ∧ TrayAt st' l a b (doT T d).2.2 ∧ Off [l, a, b] st st'
structure Ok_law_tray_try (F : Fn) : Prop where
  run : ∀ {st : Store} {l a b : Nat} {T : Tr}, TrayAt st l a b T → GoodTr T → ∀ d : TDeed, ∃ st', F [.loc l, tdv d] st = .ok (.lst [.str (if (doT T d).1 = "" then "" else "refused"), (doT T d).2.1]) st' ∧ TrayAt st' l a b (doT T d).2.2 ∧ Off [l, a, b] st st'
theorem plain_tie {n : Nat} (t : Tie) : plainV (n + 2) (tieV t) := .tup (by simp) fun w hw => by
  simp only [List.mem_cons, List.not_mem_nil, or_false] at hw
  rcases hw with rfl | rfl | rfl
  · exact .str _
  · exact .int _
  · exact .int _
theorem plain_doT {T : Tr} (G : GoodTr T) (d : TDeed) : plainV 6 (.lst [.str (doT T d).1, (doT T d).2.1]) := by
  refine .lst (by simp) fun w hw => ?_
  simp only [List.mem_cons, List.not_mem_nil, or_false] at hw
  rcases hw with rfl | rfl
  · exact .str _
  · cases d <;> simp only [doT]
    · unfold tPut; repeat' split
      all_goals first | exact .int _ | exact .non
    · unfold tRight; split
      · rename_i t ht
        split
        · exact plain_good (n := 2) (G.kg _ (lk_mem ht)).1
        · exact .non
      · exact .non
    · unfold tOut; split
      · rename_i t ht
        exact plain_good (n := 2) (G.kg _ (lk_mem ht)).1
      · exact .non
    · unfold tDoubt; repeat' split
      all_goals first | exact .int _ | exact .non
    · unfold tSee; repeat' split
      all_goals first | exact .int _ | exact .non
    · unfold tSay; repeat' split
      all_goals first | exact .int _ | exact .non
    · unfold tUnsay; split
      · exact plain_tie (n := 3) _
      · exact .non
theorem TwoT.next {o : Ob} {rest st1 st2 : Store} {T T' : Tr} (t : TwoT rest T) (h1 : TrayAt st1 1 2 3 T') (o1 : Off [1, 2, 3] (o :: rest) st1) (h2 : LawT st2 6 4 5 T') (o2 : Off [6, 4, 5] st1 st2) (g : GoodTr T') : ∃ rest', st2 = o :: rest' ∧ TwoT rest' T' := by
  have e0 : st2[0]? = some o := by
    rw [o2.off 0 (by simp), o1.off 0 (by simp)]
    rfl
  have h3 := h1.off o2 (by simp) (by simp) (by simp)
  cases st2 with
  | nil => simp at e0
  | cons q r =>
    simp at e0
    subst e0
    exact ⟨r, rfl, fun o' => ⟨h3.o, h3.k, h3.s, h3.ab⟩, fun o' => ⟨h2.o, h2.k, h2.s, h2.ma, h2.mb, h2.ab⟩, g⟩
theorem TwoT.grow {rest ext : Store} {T : Tr} (t : TwoT rest T) : TwoT (rest ++ ext) T := by
  have key : ∀ (o : Ob) (i : Nat) (x : Ob), (o :: rest)[i]? = some x → (o :: (rest ++ ext))[i]? = some x := fun o i x h => by
    rw [← List.cons_append, List.getElem?_append_left (List.getElem?_eq_some_iff.mp h).1]
    exact h
  exact ⟨fun o => ⟨key o _ _ (t.p o).o, key o _ _ (t.p o).k, key o _ _ (t.p o).s, (t.p o).ab⟩, fun o => ⟨key o _ _ (t.w o).o, key o _ _ (t.w o).k, key o _ _ (t.w o).s, (t.w o).ma, (t.w o).mb, (t.w o).ab⟩, t.g⟩
theorem TwoT.deed {ws : List Str} {o : Ob} {rest : Store} {T : Tr} {F : Fn} (t : TwoT rest T) (hx : T.talk ≤ 59) (h1 : OkTriedT ws F) (h2 : Ok_law_t_do (C "_law_t_do")) (d : TDeed) (hw : (doT T d).1 ≠ "" → (doT T d).1 ∈ ws) : ∃ (w : Str) (v : Val) (st1 : Store) (rest' : Store) (T' : Tr), doT T d = (w, v, T') ∧ F [.loc 1, tdv d] (o :: rest) = .ok (.lst [.str w, v]) st1 ∧ C "_law_t_do" [.loc 6, tdv d] st1 = .ok (.tup [.str w, v]) (o :: rest') ∧ TwoT rest' T' ∧ plainV 6 (.lst [.str w, v]) := by
  obtain ⟨st1, e1, A1, O1⟩ := h1.run (t.p o) t.g d hw
  have w1 := (t.w o).off O1 (by simp) (by simp) (by simp)
  obtain ⟨st2, e2, A2, O2⟩ := h2.run w1 t.g d
  obtain ⟨rest', rfl, T2⟩ := t.next A1 O1 A2 O2 (good_doT t.g hx d)
  exact ⟨_, _, st1, rest', _, rfl, e1, e2, T2, plain_doT t.g d⟩
theorem TwoT.same {o : Ob} {rest : Store} {T : Tr} (t : TwoT rest T) (hx : T.talk ≤ 59) (h1 : Ok_law_tray_try (C "_law_tray_try")) (h2 : Ok_law_t_do (C "_law_t_do")) (h3 : Ok_law_same_end (C "_law_same_end")) (d : TDeed) : ∃ (u u' : Val) (st1 : Store) (rest' : Store), C "_law_tray_try" [.loc 1, tdv d] (o :: rest) = .ok u st1 ∧ C "_law_t_do" [.loc 6, tdv d] st1 = .ok u' (o :: rest') ∧ C "_law_same_end" [u, u'] (o :: rest') = .ok (.bl true) (o :: rest') ∧ TwoT rest' (doT T d).2.2 := by
  obtain ⟨st1, e1, A1, O1⟩ := h1.run (t.p o) t.g d
  have w1 := (t.w o).off O1 (by simp) (by simp) (by simp)
  obtain ⟨st2, e2, A2, O2⟩ := h2.run w1 t.g d
  obtain ⟨rest', rfl, T2⟩ := t.next A1 O1 A2 O2 (good_doT t.g hx d)
  have pl := plain_doT t.g d
  have pv : plainV 5 (doT T d).2.1 := by
    cases pl with
    | lst _ h => exact h _ (by simp)
  refine ⟨_, _, st1, rest', e1, e2, h3 _ _ _ _ pv ?_, T2⟩
  by_cases c : (doT T d).1 = ""
  · simp [c]
  · simp [c]
/-! ### it stands -/
end P
/-! P29: strips that are drawn, good ones; strips of a seal. -/
namespace Rc
inductive All2 {α β : Type} (R : α → β → Prop) : List α → List β → Prop
  | nil : All2 R [] []
  | cons {a : α} {b : β} {as : List α} {bs : List β} : R a b → All2 R as bs → All2 R (a :: as) (b :: bs)
theorem All2.len {α β : Type} {R : α → β → Prop} {as : List α} {bs : List β} (h : All2 R as bs) : bs.length = as.length := by
  induction h with
  | nil => rfl
  | cons _ _ ih => rw [List.length_cons, List.length_cons, ih]
theorem All2.map {α β γ : Type} {R : α → γ → Prop} (f : β → γ) {as : List α} {bs : List β} (h : All2 (fun a b => R a (f b)) as bs) : All2 R as (bs.map f) := by
  induction h with
  | nil => exact .nil
  | cons r _ ih => exact .cons r ih
theorem All2.inj {α β : Type} {R : α → β → Prop} {as : List α} {vs : List Val} {f : β → Val} (h : All2 (fun a v => ∃ b, v = f b ∧ R a b) as vs) : ∃ bs : List β, vs = bs.map f ∧ All2 R as bs := by
  induction h with
  | nil => exact ⟨[], rfl, .nil⟩
  | cons r _ ih =>
    obtain ⟨b, rfl, rb⟩ := r
    obtain ⟨bs, rfl, q⟩ := ih
    exact ⟨b :: bs, rfl, .cons rb q⟩
theorem All2.right {α β : Type} {R : α → β → Prop} {as : List α} {bs : List β} (h : All2 R as bs) : ∀ b ∈ bs, ∃ a ∈ as, R a b := by
  induction h with
  | nil => intro b hb; cases hb
  | cons r _ ih =>
    intro b hb
    rcases List.mem_cons.mp hb with rfl | hb
    · exact ⟨_, List.mem_cons_self .., r⟩
    · obtain ⟨a, ha, ra⟩ := ih b hb
      exact ⟨a, List.mem_cons_of_mem _ ha, ra⟩
end Rc
namespace P
open PySem (Str PyData)
open Rc
variable {C : Str → List Val → M Val} {xs : List Str}
/-- a good strip of a height -/
def GoodD (h : Int) (s : Strip) : Prop := goodStrip s = true ∧ (high s : Int) = h
theorem good_of {h : Int} {s : Strip} (h0 : 1 ≤ h) (h1 : h ≤ 3) (l1 : 1 ≤ s.length) (l2 : s.length ≤ 12) (hc : ∀ c ∈ s, (c.length : Int) = h ∧ ∀ i ∈ c, (-1 : Int) ≤ i ∧ i ≤ 9) : GoodD h s := by
  have hh : (high s : Int) = h := by
    have h2 := (high_eq (s := s) l1).2
    rw [h2]
    exact (hc _ (nth_mem (by omega))).1
  refine ⟨?_, hh⟩
  unfold goodStrip
  rw [Bool.and_eq_true, Bool.and_eq_true, decide_eq_true_eq, decide_eq_true_eq, List.all_eq_true]
  refine ⟨⟨l1, l2⟩, fun d hd => ?_⟩
  obtain ⟨k1, k2⟩ := hc d hd
  unfold okCol
  simp only [Bool.and_eq_true, decide_eq_true_eq, List.all_eq_true]
  refine ⟨⟨⟨by omega, by omega⟩, by omega⟩, fun i hi => ?_⟩
  unfold okCell
  simp only [Bool.and_eq_true, decide_eq_true_eq]
  exact k2 i hi
theorem GoodD.cols {h : Int} {s : Strip} (g : GoodD h s) : 1 ≤ s.length ∧ s.length ≤ 12 ∧ ∀ c ∈ s, (c.length : Int) = h ∧ ∀ i ∈ c, (-1 : Int) ≤ i ∧ i ≤ 9 := by
  obtain ⟨g1, g2, g3, g4, g5⟩ := good_cols g.1
  exact ⟨g1, g2, fun c hc => ⟨by rw [(g5 c hc).1]; exact g.2, (g5 c hc).2⟩⟩
theorem GoodD.drawn {h : Int} {s : Strip} (g : GoodD h s) : Drawn h s := ⟨g.cols.1, g.cols.2.1, fun c hc => (g.cols.2.2 c hc).1⟩
def Ok_any_good (F : Fn) : Prop := ∀ (o : Ob), DrawOb o → ∀ (h : Int), 1 ≤ h → h ≤ 3 → ∀ rest : Store, ∃ (s : Strip) (o' : Ob), DrawOb o' ∧ GoodD h s ∧ F [.loc 0, .int h] (o :: rest) = .ok (sv s) (o' :: rest)
theorem d_law_any_strip_good_ok (hp : Ok_law_pull (C "_law_pull")) : Ok_any_good (runDf C xs D.d_law_any_strip) := by
  intro o ho h hh0 hh1 rest
  obtain ⟨v1, o1, h1, a1, b1, e1⟩ := hp o ho 3 (by decide) (by decide) rest
  obtain ⟨v2, o2, h2, a2, b2, e2⟩ := hp o1 h1 2 (by decide) (by decide) rest
  obtain ⟨top, ht⟩ : ∃ top : Int, top = if v1 = 0 then 2 else if v1 = 1 then 3 else 10 := ⟨_, rfl⟩
  obtain ⟨m, hm⟩ : ∃ m : Int, m = if v2 = 0 then 4 else 12 := ⟨_, rfl⟩
  have t1 : L2.atI [Val.int 2, .int 3, .int 10] v1 = some (.int top) := by
    rw [at3 a1 b1, ht]
    split
    · rfl
    · split <;> rfl
  have t2 : L2.atI [Val.int 4, .int 12] v2 = some (.int m) := by
    rw [at2 a2 b2, hm]
    split <;> rfl
  have ht0 : 2 ≤ top ∧ top ≤ 10 := by
    rw [ht]
    split
    · omega
    · split <;> omega
  have hm0 : 4 ≤ m ∧ m ≤ 12 := by
    rw [hm]
    split <;> omega
  obtain ⟨v3, o3, h3, a3, b3, e3⟩ := hp o2 h2 m (by omega) (by omega) rest
  obtain ⟨ws, st, el, hlen, hq, o4, h4, rfl⟩ := lc_draw (C := C) (env := [some (.loc 0), some (.int h), some (.int top), some (.int (1 + v3)), none, none]) (st := o3 :: rest) (own := [4]) (it := .rng1 (.var 3)) (tg := .nm 4) (e := D.d_law_any_strip_e0) (zs := rangeV 0 (1 + v3)) (st1 := o3 :: rest)
    (fun st => ∃ o, DrawOb o ∧ st = o :: rest) (fun y => ∃ c : Col, y = cv c ∧ ((c.length : Int) = h ∧ ∀ i ∈ c, (-1 : Int) ≤ i ∧ i ≤ 9)) (by
      simp [rngOk_eq, rngRaw, PySem.sizeLine]
      omega) ⟨o3, h3, rfl⟩ (by
      rintro x hx _ ⟨p, hp0, rfl⟩
      obtain ⟨ws, st, el, hlen, hq, p', hp', rfl⟩ := lc_draw (C := C) (env := [some (.loc 0), some (.int h), some (.int top), some (.int (1 + v3)), some x, none]) (st := p :: rest) (own := [5]) (it := .rng1 (.var 1)) (tg := .nm 5) (e := D.d_law_any_strip_e1) (zs := rangeV 0 h) (st1 := p :: rest)
        (fun st => ∃ o, DrawOb o ∧ st = o :: rest) (fun y => ∃ i : Int, y = .int i ∧ ((-1 : Int) ≤ i ∧ i ≤ 9)) (by
          simp [rngOk_eq, rngRaw, PySem.sizeLine]
          omega) ⟨p, hp0, rfl⟩ (by
          rintro z hz _ ⟨p, hp0, rfl⟩
          obtain ⟨v, o', h', a', b', e'⟩ := hp p hp0 (top + 1) (by omega) (by omega) rest
          refine ⟨_, .int (v - 1), _, rfl, ?_, ⟨_, rfl, by omega, by omega⟩, o', h', rfl⟩
          unfold D.d_law_any_strip_e1
          simp [wipe, e'])
      obtain ⟨c, rfl, hc⟩ := all_inj hq
      refine ⟨_, cv c, _, rfl, ?_, ⟨c, rfl, ?_, hc⟩, p', hp', rfl⟩
      · unfold D.d_law_any_strip_e0
        simp [wipe, el, cv]
      · rw [List.length_map, len_rangeV] at hlen
        omega)
  obtain ⟨s, rfl, hs⟩ := all_inj hq
  rw [List.length_map, len_rangeV] at hlen
  refine ⟨s, o4, h4, good_of hh0 hh1 (by omega) (by omega) hs, ?_⟩
  unfold D.d_law_any_strip
  simp [exSs, e1, t1, e2, t2, e3, el, sv, PySem.sizeLine]
/-- the same strip with cells lost -/
def WornC (c c' : Col) : Prop := All2 (fun i j : Int => j = -1 ∨ j = i) c c'
def Worn (s s' : Strip) : Prop := All2 WornC s s'
theorem Worn.good {h : Int} {s s' : Strip} (w : Worn s s') (h0 : 1 ≤ h) (h1 : h ≤ 3) (g : GoodD h s) : GoodD h s' := by
  obtain ⟨g1, g2, g3⟩ := g.cols
  have hl := w.len
  refine good_of h0 h1 (by omega) (by omega) fun c hc => ?_
  obtain ⟨d, hd, wd⟩ := w.right c hc
  obtain ⟨k1, k2⟩ := g3 d hd
  refine ⟨by rw [wd.len]; exact k1, fun i hi => ?_⟩
  obtain ⟨j, hj, e⟩ := wd.right i hi
  rcases e with rfl | rfl
  · exact ⟨by decide, by decide⟩
  · exact k2 _ hj
end P
/-! P31: layings, in plain Lean; loops that may end early. -/
namespace Rc
def foldE {σ α β : Type} (f : σ → α → Except β σ) : σ → List α → Except β σ
  | s, [] => .ok s
  | s, x :: ws => match f s x with
    | .ok s' => foldE f s' ws
    | .error b => .error b
/-- things with their numbers -/
def ez {α : Type} : Nat → List α → List (Nat × α)
  | _, [] => []
  | n, x :: xs => (n, x) :: ez (n + 1) xs
theorem ez_get {α : Type} : ∀ (n : Nat) (xs : List α) (i : Nat), (ez n xs)[i]? = (xs[i]?).map fun x => (n + i, x)
  | _, [], i => by simp [ez]
  | n, x :: xs, 0 => by simp [ez]
  | n, x :: xs, i + 1 => by
    rw [ez, List.getElem?_cons_succ, List.getElem?_cons_succ, ez_get (n + 1) xs i, show n + 1 + i = n + (i + 1) by omega]
theorem ez_mem {α : Type} {n : Nat} {xs : List α} {q : Nat × α} (h : q ∈ ez n xs) : n ≤ q.1 ∧ xs[q.1 - n]? = some q.2 := by
  obtain ⟨i, hi⟩ := List.getElem?_of_mem h
  rw [ez_get] at hi
  obtain ⟨x, hx, rfl⟩ := Option.map_eq_some_iff.mp hi
  refine ⟨by simp, ?_⟩
  show xs[n + i - n]? = some x
  rw [show n + i - n = i by omega]
  exact hx
end Rc
namespace P
open PySem (Str PyData)
open Rc
variable {C : Str → List Val → M Val} {xs : List Str}
/-- start, side -/
abbrev Pr := Int × Int
def pv (p : Pr) : Val := .tup [.int p.1, .int p.2]
/-- a sign on a place: place, row, sign, strip, column -/
structure Sp where
  pl : Int
  row : Int
  sg : Int
  i : Int
  k : Int
abbrev Tb := List ((Int × Int) × (Int × Int × Int))
def entT (e : (Int × Int) × (Int × Int × Int)) : List Key × Val := ([.inl e.1.1, .inl e.1.2], .tup [.int e.2.1, .int e.2.2.1, .int e.2.2.2])
def tlk (tb : Tb) (k : Int × Int) : Option (Int × Int × Int) := (tb.find? fun e => decide (e.1 = k)).map (·.2)
abbrev Cl := Int × Int × Int × Int × Int
def stepE (tb : Tb) (s : Sp) : Except Cl Tb := match tlk tb (s.pl, s.row) with
  | none => .ok (tb ++ [((s.pl, s.row), (s.sg, s.i, s.k))])
  | some v => if v.1 = s.sg then .ok tb else .error (s.i, s.k, v.2.1, v.2.2, s.row)
def lying (s : Strip) (p : Pr) : Strip := if p.2 = 1 then turn s else s
def cellSp (pl i k : Int) (q : Nat × Int) : List Sp := if q.2 = -1 then [] else [⟨pl, (q.1 : Nat), q.2, i, k⟩]
def colSp (st n i : Int) (q : Nat × Col) : List Sp := (ez 0 q.2).flatMap (cellSp ((st + (q.1 : Nat)) % n) i (q.1 : Nat))
def spots (s : Strip) (i : Int) (p : Pr) (n : Int) : List Sp := (ez 0 (lying s p)).flatMap (colSp p.1 n i)
/-- a strip is laid: a clash, or the wider table -/
def lay (tb : Tb) (s : Strip) (i : Int) (p : Pr) (n : Int) : Except Cl Tb := foldE stepE tb (spots s i p n)
/-! ### tables of places and rows -/
structure TbOk (tb : Tb) : Prop where
  pad : ∀ e ∈ tb, 0 ≤ e.1.1 ∧ e.1.1 < 6 ∧ 0 ≤ e.1.2 ∧ e.1.2 < 3
  nd : (tb.map (·.1)).Nodup
theorem nodup_len : ∀ (n : Nat) (l : List Nat), l.Nodup → (∀ x ∈ l, x < n) → l.length ≤ n
  | 0, l, _, h => by
    cases l with
    | nil => simp
    | cons x l => exact absurd (h x (List.mem_cons_self ..)) (by omega)
  | n + 1, l, nd, h => by
    have h1 := nodup_len n (l.filter fun x => decide (x ≠ n)) (nd.sublist List.filter_sublist) fun x hx => by
      rw [List.mem_filter] at hx
      have := h x hx.1
      have := of_decide_eq_true hx.2
      omega
    have h2 : ∀ (l : List Nat), l.Nodup → l.length ≤ (l.filter fun x => decide (x ≠ n)).length + 1 := by
      intro l nd
      induction l with
      | nil => simp
      | cons x l ih =>
        obtain ⟨n1, n2⟩ := List.nodup_cons.mp nd
        by_cases e : x = n
        · subst e
          have : (l.filter fun y => decide (y ≠ x)) = l := by
            rw [List.filter_eq_self]
            intro y hy
            exact decide_eq_true fun z => n1 (z ▸ hy)
          rw [List.filter_cons_of_neg (by simp), this]
          simp
        · have := ih n2
          rw [List.filter_cons_of_pos (by simp [e])]
          simp only [List.length_cons]
          omega
    have := h2 l nd
    omega
theorem TbOk.len {tb : Tb} (h : TbOk tb) : tb.length ≤ 18 := by
  have h1 := nodup_len 18 (tb.map fun e => e.1.1.toNat * 3 + e.1.2.toNat) (by
    have key : ∀ (l : Tb), (∀ e ∈ l, 0 ≤ e.1.1 ∧ e.1.1 < 6 ∧ 0 ≤ e.1.2 ∧ e.1.2 < 3) → (l.map (·.1)).Nodup → (l.map fun e => e.1.1.toNat * 3 + e.1.2.toNat).Nodup := by
      intro l
      induction l with
      | nil => intro _ _; simp
      | cons e l ih =>
        intro hp nd
        rw [List.map_cons] at nd ⊢
        obtain ⟨n1, n2⟩ := List.nodup_cons.mp nd
        refine List.nodup_cons.mpr ⟨fun m => ?_, ih (fun x hx => hp x (List.mem_cons_of_mem _ hx)) n2⟩
        obtain ⟨x, hx, ex⟩ := List.mem_map.mp m
        obtain ⟨a1, a2, a3, a4⟩ := hp e (List.mem_cons_self ..)
        obtain ⟨b1, b2, b3, b4⟩ := hp x (List.mem_cons_of_mem _ hx)
        have : x.1 = e.1 := by
          obtain ⟨⟨p, r⟩, v⟩ := e
          obtain ⟨⟨p', r'⟩, v'⟩ := x
          dsimp only at *
          have e1 : p' = p := by omega
          have e2 : r' = r := by omega
          rw [e1, e2]
        exact n1 (List.mem_map.mpr ⟨x, hx, this⟩)
    exact key tb h.pad h.nd) fun x hx => by
    obtain ⟨e, he, rfl⟩ := List.mem_map.mp hx
    obtain ⟨a1, a2, a3, a4⟩ := h.pad e he
    omega
  rw [List.length_map] at h1
  exact h1
theorem TbOk.nil : TbOk [] := ⟨fun e he => (by cases he), List.nodup_nil⟩
/-! ### all layings -/
def pairsF (i : Nat) (n : Int) : List Pr := if i = 0 then [(0, 0)] else (List.range (2 * n).toNat).map fun (at_ : Nat) => ((at_ / 2 : Int), (at_ % 2 : Int))
abbrev Hd := List Pr × Tb
def grow1 (s : Strip) (i : Nat) (n : Int) (hd : Hd) : List Hd := (pairsF i n).filterMap fun p => match lay hd.2 s i p n with
  | .ok tb => some (hd.1 ++ [p], tb)
  | .error _ => none
def growA (s : Strip) (i : Nat) (n : Int) (hs : List Hd) : List Hd := hs.flatMap (grow1 s i n)
def headsL (n : Int) : Nat → List Strip → List Hd → List Hd
  | _, [], hs => hs
  | i, s :: ss, hs => headsL n (i + 1) ss (growA s i n hs)
def allL (ss : List Strip) (n : Int) : List (List Pr) := (headsL n 0 ss [([], [])]).map (·.1)
end P
/-! P32: layings, as the program finds them. -/
namespace Rc
end Rc
namespace P
open PySem (Str PyData)
open Rc
variable {C : Str → List Val → M Val} {xs : List Str}
/-! ### what is asked first -/
/-- strips that may be asked about -/
structure StripsOk (h : Int) (ss : List Strip) : Prop where
  h0 : 1 ≤ h
  h1 : h ≤ 3
  l0 : 1 ≤ ss.length
  l1 : ss.length ≤ 4
  g : ∀ s ∈ ss, GoodD h s
/-! ### a strip is laid -/
def tbOb (tb : Tb) : Ob := .dT (tb.map entT)
end P
/-! P33: all layings, as the program finds them. -/
namespace Rc
/-- a comprehension over anything that stands still, whose turns leave the store alone -/
theorem lc_pureS {turn : Val → M (Option Val)} {still : Store → Prop} {st : Store} {α : Type} {g : α → Option Val} {inj : α → Val} (hs : still st) : ∀ {ws : List α} {acc : List Val}, (∀ x ∈ ws, turn (inj x) st = .ok (g x) st) → lcLoop turn still (ws.map inj) acc st = .ok (acc ++ ws.filterMap g) st
  | [], acc, _ => by
    unfold lcLoop
    simp
  | x :: ws, acc, h => by
    rw [List.map_cons]
    unfold lcLoop
    rw [if_pos hs, h x (List.mem_cons_self ..)]
    rcases hg : g x with _ | y
    · dsimp only
      rw [lc_pureS hs fun y hy => h y (List.mem_cons_of_mem _ hy)]
      simp [hg]
    · dsimp only
      rw [lc_pureS hs fun y hy => h y (List.mem_cons_of_mem _ hy)]
      simp [hg]
theorem lc_mapS {C : PySem.Str → List Val → M Val} {env : Env} {st : Store} {α : Type} {own : List Nat} {it : It} {tg : Tg} {e : E} {st1 : Store} {ws : List α} {at_ : Option At} (inj : α → Val) (f : α → Val) (hi : evI C it env st = .ok ⟨ws.map inj, at_⟩ st1) (hs : Still ⟨ws.map inj, at_⟩ st1) (he : ∀ x ∈ ws, ∃ env', assignTg tg (inj x) (wipe env own) = some env' ∧ evE C e env' st1 = .ok (f x) st1) :
    lcSem false own (evI C it) tg (evT C .nil) (evE C e) env st = .ok (.lst (ws.map f)) st1 := by
  rw [lcSem_eq]
  unfold lcRaw
  rw [bnd_ok hi]
  have : lcLoop (lcTurn tg own (evT C .nil) (evE C e) env) (Still ⟨ws.map inj, at_⟩) (ws.map inj) [] st1 = .ok ([] ++ ws.filterMap fun x => some (f x)) st1 := by
    refine lc_pureS hs fun x hx => ?_
    obtain ⟨env', e1, e2⟩ := he x hx
    unfold lcTurn
    rw [e1]
    simp [e2]
  rw [bnd_ok this]
  simp [-Still, hs]
end Rc
namespace P
open PySem (Str PyData)
open Rc
variable {C : Str → List Val → M Val} {xs : List Str}
/-! ### beginnings of layings in the store -/
def PathAt (b : Nat) (st : Store) (w : Val) (p : List Pr) : Prop := (p = [] ∧ w = .lst []) ∨ ∃ l, b ≤ l ∧ w = .loc l ∧ st[l]? = some (.lst (p.map pv))
def HeadAt (b : Nat) (st : Store) (v : Val) (hd : Hd) : Prop := ∃ w l, v = .tup [w, .loc l] ∧ PathAt b st w hd.1 ∧ st[l]? = some (tbOb hd.2)
theorem get_app {st ext : Store} {l : Nat} {o : Ob} (h : st[l]? = some o) : (st ++ ext)[l]? = some o := by
  rw [List.getElem?_append_left (List.getElem?_eq_some_iff.mp h).1, h]
theorem PathAt.app {b : Nat} {st ext : Store} {w : Val} {p : List Pr} (h : PathAt b st w p) : PathAt b (st ++ ext) w p := by
  rcases h with h | ⟨l, h0, h1, h2⟩
  · exact .inl h
  · exact .inr ⟨l, h0, h1, get_app h2⟩
theorem HeadAt.app {b : Nat} {st ext : Store} {v : Val} {hd : Hd} (h : HeadAt b st v hd) : HeadAt b (st ++ ext) v hd := by
  obtain ⟨w, l, h1, h2, h3⟩ := h
  exact ⟨w, l, h1, h2.app, get_app h3⟩
theorem PathAt.add {b : Nat} {st : Store} {w : Val} {p : List Pr} {ys : List Val} (h : PathAt b st w p) (hz : p.length + ys.length ≤ 1000) : opAdd st w (.lst ys) = some (Pv.l (p.map pv ++ ys)) := by
  rcases h with ⟨rfl, h⟩ | ⟨l, h0, h1, h2⟩
  · subst h
    simp [PySem.sizeLine] at hz ⊢
    omega
  · subst h1
    show (match lstOf st (.loc l), lstOf st (.lst ys) with
      | some xs, some ys => if szOk (xs.length + ys.length) then some (Pv.l (xs ++ ys)) else none
      | _, _ => none) = _
    rw [e_lstO, h2]
    simp [PySem.sizeLine]
    omega
theorem PathAt.len {b : Nat} {st : Store} {w : Val} {p : List Pr} (h : PathAt b st w p) : biLen st [w] = some (.int (p.length : Nat)) := by
  rcases h with ⟨rfl, h⟩ | ⟨l, h0, h1, h2⟩
  · subst h
    simp
  · subst h1
    simp [h2]
theorem tb_pad {tb : Tb} (h : TbOk tb) : ((tb.map entT).map (·.1)).all padKB = true := by
  rw [List.all_eq_true]
  intro k hk
  rw [List.map_map] at hk
  obtain ⟨e, he, rfl⟩ := List.mem_map.mp hk
  obtain ⟨a, b, c, d⟩ := h.pad e he
  show (decide (0 ≤ e.1.1) && decide (e.1.1 < 6) && decide (0 ≤ e.1.2) && decide (e.1.2 < 3)) = true
  simp [a, b, c, d]
theorem app_at {st ext : Store} {o : Ob} : (st ++ o :: ext)[st.length]? = some o := by simp
end P
/-! P34: all layings; the least one, how many. -/
namespace P
open PySem (Str PyData)
open Rc
variable {C : Str → List Val → M Val} {xs : List Str}
theorem PathAt.loc {b : Nat} {st : Store} {w : Val} {p : List Pr} (h : PathAt b st w p) (hp : p ≠ []) : ∃ l, b ≤ l ∧ w = .loc l ∧ st[l]? = some (.lst (p.map pv)) := by
  rcases h with ⟨rfl, h⟩ | h
  · exact absurd rfl hp
  · exact h
end P
/-! P35: layings, as the laws find them. -/
namespace P
open PySem (Str PyData)
open Rc
variable {C : Str → List Val → M Val} {xs : List Str}
theorem at_nat {α : Type} {zs : List α} {i : Nat} {x : α} (h : zs[i]? = some x) : L2.atI zs (i : Nat) = some x := by
  have hl := (List.getElem?_eq_some_iff.mp h).1
  unfold L2.atI L2.ixN
  rw [if_pos (by omega), if_pos (by omega)]
  simpa using h
end P
/-! P36: all layings, as the laws find them. -/
namespace P
open PySem (Str PyData)
open Rc
variable {C : Str → List Val → M Val} {xs : List Str}
def tbF (tb : Tb) : Val := .dT (tb.map fun e => (entT e).1) (tb.map fun e => (entT e).2)
def TbV (st : Store) (v : Val) (tb : Tb) : Prop := (∃ l, v = .loc l ∧ st[l]? = some (tbOb tb)) ∨ v = tbF tb
theorem TbV.app {st ext : Store} {v : Val} {tb : Tb} (h : TbV st v tb) : TbV (st ++ ext) v tb := by
  rcases h with ⟨l, h1, h2⟩ | h
  · exact .inl ⟨l, h1, get_app h2⟩
  · exact .inr h
theorem zip_maps {α β γ : Type} {f : α → β} {g : α → γ} : ∀ {l : List α}, (l.map f).zip (l.map g) = l.map fun x => (f x, g x)
  | [] => rfl
  | x :: l => by
    show (f x, g x) :: (l.map f).zip (l.map g) = _
    rw [zip_maps]
    rfl
theorem TbV.dict {st : Store} {v : Val} {tb : Tb} (h : TbV st v tb) (ht : TbOk tb) : biDict st [v] = some (.t (tb.map entT)) := by
  have hp := tb_pad ht
  rcases h with ⟨l, h1, h2⟩ | h
  · subst h1
    rw [e_dicO, h2]
    unfold tbOb
    rw [e_obdT, if_pos hp]
  · subst h
    unfold tbF
    rw [List.map_map] at hp
    have hp2 : (tb.map fun e => (entT e).1).all padKB = true := hp
    rw [e_dicT, if_pos hp2, zip_maps]
end P
/-! P37: all layings, as the laws find them (2). -/
namespace P
open PySem (Str PyData)
open Rc
variable {C : Str → List Val → M Val} {xs : List Str}
/-! ### dicts that are made of pairs -/
/-! ### beginnings, as the laws keep them -/
end P
/-! P38: the strips that the laws draw. -/
namespace P
open PySem (Str PyData)
open Rc
variable {C : Str → List Val → M Val} {xs : List Str}
/-! ### values that are as they are -/
/-! ### the drawn strips, cut off -/
/-- lists of pairs that the laws hold -/
def PL (rest : Store) : Prop := ∀ x ∈ rest, ∃ ps : List Pr, x = .lst (ps.map pv)
theorem lt_pvs {n : Nat} : ∀ ps : List Pr, locLtL n (ps.map pv) = true
  | [] => rfl
  | a :: l => by
    show (true && locLtL n (l.map pv)) = true
    rw [lt_pvs l]
    rfl
theorem PL.lt {rest : Store} (h : PL rest) {n : Nat} : rest.all (obLt n) = true := by
  rw [List.all_eq_true]
  intro x hx
  obtain ⟨ps, rfl⟩ := h x hx
  exact lt_pvs ps
theorem PL.add {rest : Store} (h : PL rest) (ps : List Pr) : PL (rest ++ [.lst (ps.map pv)]) := by
  intro x hx
  rcases List.mem_append.mp hx with hx | hx
  · exact h x hx
  · exact ⟨ps, List.mem_singleton.mp hx⟩
end P
/-! P39: faults of layings. -/
namespace P
open PySem (Str PyData)
open Rc
variable {C : Str → List Val → M Val} {xs : List Str}
/-! ### the fault -/
def rowV (row : List Pr) : Val := .lst (row.map pv)
/-- what a fault leaves behind -/
def TbX (ext : Store) : Prop := ext = [] ∨ ∃ tb, ext = [tbOb tb]
/-! ### the law's fault -/
end P
/-! P40: rows of pairs that the laws draw and bend. -/
namespace P
open PySem (Str PyData)
open Rc
variable {C : Str → List Val → M Val} {xs : List Str}
end P
/-! P41: stores without places in them; faults are plain. -/
namespace P
open PySem (Str PyData)
open Rc
variable {C : Str → List Val → M Val} {xs : List Str}
def NL (rest : Store) : Prop := ∀ n, rest.all (obLt n) = true
theorem NL.app {a b : Store} (h1 : NL a) (h2 : NL b) : NL (a ++ b) := fun n => by rw [List.all_append, h1 n, h2 n]; rfl
theorem NL.nil : NL [] := fun _ => rfl
theorem lt_tb {n : Nat} : ∀ tb : Tb, locLtL n ((tb.map entT).map (·.2)) = true
  | [] => rfl
  | a :: l => by
    show (true && locLtL n ((l.map entT).map (·.2))) = true
    rw [lt_tb l]
    rfl
theorem NL.tb {ext : Store} (h : TbX ext) : NL ext := by
  rcases h with rfl | ⟨tb, rfl⟩
  · exact .nil
  · intro n
    show (locLtL n ((tb.map entT).map (·.2)) && true) = true
    rw [lt_tb]
    rfl
theorem NL.row {r : List Pr} : NL [.lst (r.map pv)] := fun n => by
  show (locLtL n (r.map pv) && true) = true
  rw [lt_pvs]
  rfl
theorem StripsOk.take {h : Int} {ss : List Strip} (hs : StripsOk h ss) {k : Nat} (hk : 1 ≤ k) : StripsOk h (ss.take k) := ⟨hs.h0, hs.h1, by have := hs.l0; simp; omega, by have := hs.l1; simp; omega, fun s h => hs.g s (List.mem_of_mem_take h)⟩
end P
/-! P44: layings are lists of pairs whose signs agree. -/
namespace P
open PySem (Str PyData)
open Rc
/-- signs at one place agree -/
def Cons (sps : List Sp) : Prop := ∀ x ∈ sps, ∀ y ∈ sps, x.pl = y.pl → x.row = y.row → x.sg = y.sg
theorem Cons.sub {a b : List Sp} (h : Cons b) (hs : ∀ x ∈ a, x ∈ b) : Cons a := fun x hx y hy => h x (hs x hx) y (hs y hy)
/-- a table tells the signs of spots -/
structure TbR (tb : Tb) (sps : List Sp) : Prop where
  some : ∀ k v, tlk tb k = .some v → ∃ s ∈ sps, (s.pl, s.row) = k ∧ s.sg = v.1
  all : ∀ s ∈ sps, ∃ v, tlk tb (s.pl, s.row) = .some v ∧ v.1 = s.sg
theorem TbR.nil : TbR [] [] := ⟨(fun k v h => nomatch h), (fun s h => nomatch h)⟩
theorem TbR.cons {tb : Tb} {sps : List Sp} (h : TbR tb sps) : Cons sps := by
  intro x hx y hy e1 e2
  obtain ⟨v, v1, v2⟩ := h.all x hx
  obtain ⟨w, w1, w2⟩ := h.all y hy
  rw [e1, e2, w1] at v1
  cases v1
  rw [← v2, w2]
theorem tlk_app {tb : Tb} {k k' : Int × Int} {v : Int × Int × Int} (h : tlk tb k = none) : tlk (tb ++ [(k, v)]) k' = if k = k' then .some v else tlk tb k' := by
  unfold tlk at h ⊢
  rw [List.find?_append]
  by_cases e : k = k'
  · subst e
    rw [if_pos rfl]
    have : (tb.find? fun e => decide (e.1 = k)) = none := by
      cases hf : tb.find? fun e => decide (e.1 = k) with
      | none => rfl
      | some x => rw [hf] at h; cases h
    rw [this]
    simp
  · rw [if_neg e]
    simp [e]
/-- a step goes well just where the sign agrees -/
theorem step_r {tb : Tb} {sps : List Sp} {s : Sp} (h : TbR tb sps) : (Cons (sps ++ [s]) → ∃ tb', stepE tb s = .ok tb' ∧ TbR tb' (sps ++ [s])) ∧ (∀ tb', stepE tb s = .ok tb' → TbR tb' (sps ++ [s])) := by
  have key : ∀ tb', stepE tb s = .ok tb' → TbR tb' (sps ++ [s]) := by
    intro tb' e
    unfold stepE at e
    cases hk : tlk tb (s.pl, s.row) with
    | none =>
      rw [hk] at e
      cases e
      constructor
      · intro k v hv
        rw [tlk_app hk] at hv
        by_cases ek : (s.pl, s.row) = k
        · rw [if_pos ek] at hv
          cases hv
          exact ⟨s, List.mem_append_right _ (List.mem_singleton.mpr rfl), ek, rfl⟩
        · rw [if_neg ek] at hv
          obtain ⟨t, ht, e1, e2⟩ := h.some k v hv
          exact ⟨t, List.mem_append_left _ ht, e1, e2⟩
      · intro t ht
        rw [tlk_app hk]
        rcases List.mem_append.mp ht with ht | ht
        · obtain ⟨v, e1, e2⟩ := h.all t ht
          by_cases ek : (s.pl, s.row) = (t.pl, t.row)
          · rw [← ek, hk] at e1
            cases e1
          · rw [if_neg ek]
            exact ⟨v, e1, e2⟩
        · rw [List.mem_singleton.mp ht, if_pos rfl]
          exact ⟨_, rfl, rfl⟩
    | some v =>
      rw [hk] at e
      dsimp only at e
      by_cases ev : v.1 = s.sg
      · rw [if_pos ev] at e
        cases e
        constructor
        · intro k w hw
          obtain ⟨t, ht, e1, e2⟩ := h.some k w hw
          exact ⟨t, List.mem_append_left _ ht, e1, e2⟩
        · intro t ht
          rcases List.mem_append.mp ht with ht | ht
          · exact h.all t ht
          · rw [List.mem_singleton.mp ht]
            exact ⟨v, hk, ev⟩
      · rw [if_neg ev] at e
        cases e
  refine ⟨fun hc => ?_, key⟩
  have : ∃ tb', stepE tb s = .ok tb' := by
    unfold stepE
    cases hk : tlk tb (s.pl, s.row) with
    | none => exact ⟨_, rfl⟩
    | some v =>
      obtain ⟨t, ht, e1, e2⟩ := h.some _ v hk
      have : t.sg = s.sg := hc t (List.mem_append_left _ ht) s (List.mem_append_right _ (List.mem_singleton.mpr rfl)) (congrArg Prod.fst e1) (congrArg Prod.snd e1)
      dsimp only
      rw [if_pos (by rw [← e2, this])]
      exact ⟨_, rfl⟩
  obtain ⟨tb', e⟩ := this
  exact ⟨tb', e, key tb' e⟩
theorem fold_r : ∀ {more : List Sp} {tb : Tb} {sps : List Sp}, TbR tb sps → (Cons (sps ++ more) → ∃ tb', foldE stepE tb more = .ok tb') ∧ (∀ tb', foldE stepE tb more = .ok tb' → TbR tb' (sps ++ more))
  | [], tb, sps, h => ⟨fun _ => ⟨tb, rfl⟩, fun tb' e => by cases e; simpa using h⟩
  | s :: more, tb, sps, h => by
    obtain ⟨a1, a2⟩ := step_r (s := s) h
    constructor
    · intro hc
      obtain ⟨tb1, e1, r1⟩ := a1 (hc.sub (by
        intro x hx
        rcases List.mem_append.mp hx with hx | hx
        · exact List.mem_append_left _ hx
        · rw [List.mem_singleton.mp hx]
          exact List.mem_append_right _ (List.mem_cons_self ..)))
      obtain ⟨tb2, e2⟩ := (fold_r (more := more) r1).1 (by simpa using hc)
      refine ⟨tb2, ?_⟩
      unfold foldE
      rw [e1]
      exact e2
    · intro tb' e
      unfold foldE at e
      cases e1 : stepE tb s with
      | error c => rw [e1] at e; cases e
      | ok tb1 =>
        rw [e1] at e
        have := (fold_r (more := more) (a2 tb1 e1)).2 tb' e
        simpa using this
/-- the spots of strips by a row of pairs -/
def spA (ss : List Strip) (n : Int) (row : List Pr) : List Sp := (ez 0 row).flatMap fun q => spots (ss.getD q.1 []) (q.1 : Nat) q.2 n
theorem ez_snoc {α : Type} : ∀ (i : Nat) (l : List α) (x : α), ez i (l ++ [x]) = ez i l ++ [(i + l.length, x)]
  | i, [], x => rfl
  | i, a :: l, x => by
    show (i, a) :: ez (i + 1) (l ++ [x]) = (i, a) :: (ez (i + 1) l ++ _)
    rw [ez_snoc (i + 1) l x, show i + 1 + l.length = i + (a :: l).length by simp; omega]
theorem spA_snoc {ss : List Strip} {n : Int} {row : List Pr} {q : Pr} : spA ss n (row ++ [q]) = spA ss n row ++ spots (ss.getD row.length []) (row.length : Nat) q n := by
  unfold spA
  rw [ez_snoc, List.flatMap_append]
  simp
/-- all rows of pairs -/
def pathsF (n : Int) : Nat → List (List Pr)
  | 0 => [[]]
  | k + 1 => (pathsF n k).flatMap fun p => (pairsF k n).map fun q => p ++ [q]
open Classical in
/-! ### spots, one by one -/
theorem mem_spots {s : Strip} {i : Int} {q : Pr} {n : Int} {x : Sp} : x ∈ spots s i q n ↔ ∃ (k r : Nat) (c : Col), (lying s q)[k]? = some c ∧ c[r]? = some x.sg ∧ x.sg ≠ -1 ∧ x.pl = (q.1 + (k : Nat)) % n ∧ x.row = (r : Nat) ∧ x.i = i ∧ x.k = (k : Nat) := by
  unfold spots colSp cellSp
  simp only [List.mem_flatMap]
  constructor
  · rintro ⟨⟨k, c⟩, h1, ⟨r, y⟩, h2, h3⟩
    have g1 := (ez_mem h1).2
    have g2 := (ez_mem h2).2
    simp only [Nat.sub_zero] at g1 g2
    dsimp only at h3
    by_cases hy : y = -1
    · rw [if_pos hy] at h3
      cases h3
    · rw [if_neg hy] at h3
      rw [List.mem_singleton.mp h3]
      exact ⟨k, r, c, g1, g2, hy, rfl, rfl, rfl, rfl⟩
  · rintro ⟨k, r, c, h1, h2, h3, h4, h5, h6, h7⟩
    have ezm : ∀ {α : Type} {l : List α} {k : Nat} {c : α}, l[k]? = some c → (k, c) ∈ ez 0 l := by
      intro α l k c h
      refine List.mem_of_getElem? (i := k) ?_
      rw [ez_get, h]
      simp
    refine ⟨(k, c), ezm h1, (r, x.sg), ezm h2, ?_⟩
    dsimp only
    rw [if_neg h3]
    refine List.mem_singleton.mpr ?_
    cases x
    simp only at h4 h5 h6 h7 ⊢
    rw [h4, h5, h6, h7]
/-! ### with cells lost -/
theorem all2_get {α β : Type} {R : α → β → Prop} {as : List α} {bs : List β} (h : All2 R as bs) : ∀ {i : Nat} {b : β}, bs[i]? = some b → ∃ a, as[i]? = some a ∧ R a b := by
  induction h with
  | nil => intro i b e; simp at e
  | cons hr _ ih =>
    intro i b e
    cases i with
    | zero =>
      simp at e
      subst e
      exact ⟨_, rfl, hr⟩
    | succ i =>
      simp at e
      obtain ⟨a, e1, e2⟩ := ih e
      exact ⟨a, by simpa using e1, e2⟩
theorem all2_app {α β : Type} {R : α → β → Prop} {as as' : List α} {bs bs' : List β} (h : All2 R as bs) (h' : All2 R as' bs') : All2 R (as ++ as') (bs ++ bs') := by
  induction h with
  | nil => exact h'
  | cons hr _ ih => exact .cons hr ih
theorem all2_rev {α β : Type} {R : α → β → Prop} {as : List α} {bs : List β} (h : All2 R as bs) : All2 R as.reverse bs.reverse := by
  induction h with
  | nil => exact .nil
  | cons hr _ ih =>
    rw [List.reverse_cons, List.reverse_cons]
    exact all2_app ih (.cons hr .nil)
theorem all2_both {α β : Type} {R : α → β → Prop} {S : α → β → Prop} {f : α → α} {g : β → β} (hf : ∀ a b, R a b → S (f a) (g b)) {as : List α} {bs : List β} (h : All2 R as bs) : All2 S (as.map f) (bs.map g) := by
  induction h with
  | nil => exact .nil
  | cons hr _ ih => exact .cons (hf _ _ hr) ih
theorem Worn.turn {s s' : Strip} (h : Worn s s') : Worn (turn s) (turn s') := by
  unfold P.turn
  exact all2_both (fun a b h => all2_rev h) (all2_rev h)
theorem Worn.lying {s s' : Strip} (h : Worn s s') (q : Pr) : Worn (lying s q) (lying s' q) := by
  unfold P.lying
  split
  · exact h.turn
  · exact h
theorem Worn.spots {s s' : Strip} (h : Worn s s') {i : Int} {q : Pr} {n : Int} : ∀ x ∈ spots s' i q n, x ∈ spots s i q n := by
  intro x hx
  obtain ⟨k, r, c', h1, h2, h3, h4⟩ := mem_spots.mp hx
  obtain ⟨c, g1, g2⟩ := all2_get (h.lying q) h1
  obtain ⟨y, g3, g4⟩ := all2_get g2 h2
  rcases g4 with g4 | g4
  · exact absurd g4 h3
  · rw [← g4] at g3
    exact mem_spots.mpr ⟨k, r, c, g1, g3, h3, h4⟩
end P
/-! P45: one strip twice; without the last; a laying by its number. -/
namespace P
open PySem (Str PyData)
open Rc
variable {C : Str → List Val → M Val} {xs : List Str}
/-! ### a laying by its number -/
end P
/-! P46: the signs that are seen in a laying. -/
namespace P
open PySem (Str PyData)
open Rc
variable {C : Str → List Val → M Val} {xs : List Str}
/-- the sign at a place -/
def cellT (tb : Tb) (pl r : Nat) : Int := ((tlk tb ((pl : Int), (r : Int))).map (·.1)).getD (-1)
end P
/-! P47: the same pairs round more columns. -/
namespace P
open PySem (Str PyData)
open Rc
end P
/-! P42: strips that meet. -/
namespace P
open PySem (Str PyData)
open Rc
variable {C : Str → List Val → M Val} {xs : List Str}
end P
/-! P48: strips against what is rolled of the signs seen. -/
namespace P
open PySem (Str PyData)
open Rc
variable {C : Str → List Val → M Val} {xs : List Str}
/-! ### what is rolled of the signs seen -/
theorem turn_len' {s : Strip} : (turn s).length = s.length := by unfold turn; simp
end P
/-! P49: what all layings show. -/
namespace P
open PySem (Str PyData)
open Rc
variable {C : Str → List Val → M Val} {xs : List Str}
theorem get_getD {α : Type} {l : List α} {i : Nat} {d : α} (h : i < l.length) : l[i]? = some (l.getD i d) := by
  rw [List.getD_eq_getElem?_getD, List.getElem?_eq_getElem h]
  rfl
abbrev Grid := List Col
def gV (g : Grid) : Val := .lst (g.map cv)
def gcell (g : Grid) (pl r : Nat) : Int := (g.getD pl []).getD r 0
structure GridOk (n h : Nat) (g : Grid) : Prop where
  len : g.length = n
  col : ∀ c ∈ g, c.length = h
theorem GridOk.get {n h : Nat} {g : Grid} (k : GridOk n h g) {pl : Nat} (hp : pl < n) : g[pl]? = some (g.getD pl []) ∧ (g.getD pl []).length = h := by
  have h1 : pl < g.length := by rw [k.len]; exact hp
  have h2 : g[pl]? = some (g.getD pl []) := get_getD h1
  exact ⟨h2, k.col _ (List.mem_of_getElem? h2)⟩
theorem GridOk.at1 {n h : Nat} {g : Grid} (k : GridOk n h g) {pl : Nat} (hp : pl < n) {st : Store} : ixOp st (gV g) (.int (pl : Nat)) = some (cv (g.getD pl [])) := by
  unfold gV
  rw [e_ixL]
  exact at_nat (by rw [List.getElem?_map, (k.get hp).1]; rfl)
theorem GridOk.at2 {n h : Nat} {g : Grid} (k : GridOk n h g) {pl r : Nat} (hp : pl < n) (hr : r < h) {st : Store} : ixOp st (cv (g.getD pl [])) (.int (r : Nat)) = some (.int (gcell g pl r)) := by
  have h3 : r < (g.getD pl []).length := by rw [(k.get hp).2]; exact hr
  have h4 : (g.getD pl [])[r]? = some (gcell g pl r) := get_getD h3
  unfold cv
  rw [e_ixT]
  exact at_nat (by rw [List.getElem?_map, h4]; rfl)
theorem GridOk.at_ {n h : Nat} {g : Grid} (k : GridOk n h g) {pl r : Nat} (hp : pl < n) (hr : r < h) {st : Store} : ixOp st (gV g) (.int (pl : Nat)) = some (cv (g.getD pl [])) ∧ ixOp st (cv (g.getD pl [])) (.int (r : Nat)) = some (.int (gcell g pl r)) := ⟨k.at1 hp, k.at2 hp hr⟩
/-! ### the signs that are sure -/
end P
/-! P50: the law's own grid of signs; comprehensions that lay lists. -/
namespace Rc
end Rc
namespace P
open PySem (Str PyData)
open Rc
variable {C : Str → List Val → M Val} {xs : List Str}
abbrev Gf := Nat → Nat → Int
def gUpd (f : Gf) (p q : Nat) (x : Int) : Gf := fun pl r => if pl = p ∧ r = q then x else f pl r
/-- the signs that were written so far -/
structure GrR (f : Gf) (sps : List Sp) : Prop where
  all : ∀ s ∈ sps, ∀ pl r : Nat, s.pl = (pl : Nat) → s.row = (r : Nat) → f pl r = s.sg
  some : ∀ pl r, f pl r = -1 ∨ ∃ s ∈ sps, s.pl = (pl : Nat) ∧ s.row = (r : Nat) ∧ s.sg = f pl r
theorem GrR.nil : GrR (fun _ _ => -1) [] := ⟨fun s hs => (by cases hs), fun _ _ => .inl rfl⟩
theorem GrR.add {f : Gf} {sps : List Sp} {s : Sp} {p q : Nat} (g : GrR f sps) (hc : Cons (sps ++ [s])) (hp : s.pl = (p : Nat)) (hq : s.row = (q : Nat)) : GrR (gUpd f p q s.sg) (sps ++ [s]) := by
  constructor
  · intro t ht pl r e1 e2
    unfold gUpd
    by_cases k : pl = p ∧ r = q
    · rw [if_pos k]
      exact hc s (by simp) t ht (by rw [hp, e1, k.1]) (by rw [hq, e2, k.2])
    · rw [if_neg k]
      rcases List.mem_append.mp ht with ht | ht
      · exact g.all t ht pl r e1 e2
      · rw [List.mem_singleton.mp ht] at e1 e2
        exact absurd ⟨by omega, by omega⟩ k
  · intro pl r
    unfold gUpd
    by_cases k : pl = p ∧ r = q
    · rw [if_pos k]
      exact .inr ⟨s, by simp, by rw [hp, k.1], by rw [hq, k.2], rfl⟩
    · rw [if_neg k]
      rcases g.some pl r with h | ⟨t, ht, h⟩
      · exact .inl h
      · exact .inr ⟨t, by simp [ht], h⟩
theorem GrR.cell {f : Gf} {sps : List Sp} {tb : Tb} (g : GrR f sps) (t : TbR tb sps) (pl r : Nat) : f pl r = cellT tb pl r := by
  unfold cellT
  cases e : tlk tb ((pl : Int), (r : Int)) with
  | some v =>
    obtain ⟨s, hs, h1, h2⟩ := t.some _ _ e
    have := g.all s hs pl r (congrArg Prod.fst h1) (congrArg Prod.snd h1)
    rw [this]
    exact h2
  | none =>
    rcases g.some pl r with h | ⟨s, hs, h1, h2, h3⟩
    · exact h
    · obtain ⟨v, hv, _⟩ := t.all s hs
      rw [h1, h2, e] at hv
      cases hv
end P
/-! P51: new lists that are kept; rows without a fault are layings. -/
namespace P
open PySem (Str PyData)
open Rc
variable {C : Str → List Val → M Val} {xs : List Str}
/-- a kept list whose items have no places -/
theorem NL.lst {vs : List Val} {k : Nat} (h : ∀ v ∈ vs, plainV k v) : NL [.lst vs] := by
  have key : ∀ (k : Nat) (v : Val) (n : Nat), plainV k v → locLt n v = true := by
    intro k
    induction k with
    | zero => intro v n h; cases h
    | succ k ih =>
      have each : ∀ (n : Nat) (vs : List Val), (∀ w ∈ vs, plainV k w) → locLtL n vs = true := by
        intro n vs
        induction vs with
        | nil => intro _; rfl
        | cons v vs ihv =>
          intro h
          show (locLt n v && locLtL n vs) = true
          rw [ih v n (h v (List.mem_cons_self ..)), ihv fun w hw => h w (List.mem_cons_of_mem _ hw)]
          rfl
      intro v n h
      cases h with
      | non => rfl
      | bl b => rfl
      | int i => rfl
      | str x => rfl
      | tup h1 h2 => exact each n _ h2
      | lst h1 h2 => exact each n _ h2
  intro n
  have each : ∀ (vs : List Val), (∀ w ∈ vs, plainV k w) → locLtL n vs = true := by
    intro vs
    induction vs with
    | nil => intro _; rfl
    | cons v vs ihv =>
      intro h
      show (locLt n v && locLtL n vs) = true
      rw [key k v n (h v (List.mem_cons_self ..)), ihv fun w hw => h w (List.mem_cons_of_mem _ hw)]
      rfl
  show (locLtL n vs && true) = true
  rw [each vs h]
  rfl
end P
/-! P52: len(set(xs)); the law's own sure signs. -/
namespace P
open PySem (Str PyData)
open Rc
variable {C : Str → List Val → M Val} {xs : List Str}
end P
/-! P53: layings by their order; numbers of layings; faults of rows that lie in the store. -/
namespace P
open PySem (Str PyData)
open Rc
variable {C : Str → List Val → M Val} {xs : List Str}
/-! ### rows that lie anywhere -/
structure RowAt (st : Store) (RV : Val) (row : List Pr) : Prop where
  len : ∀ ext, biLen (st ++ ext) [RV] = some (.int (row.length : Nat))
  ix : ∀ ext (i : Nat) (p : Pr), row[i]? = some p → ixOp (st ++ ext) RV (.int (i : Nat)) = some (pv p)
theorem RowAt.frozen {st : Store} {row : List Pr} : RowAt st (rowV row) row := ⟨fun ext => by unfold rowV; simp, fun ext i p h => by
  unfold rowV
  rw [e_ixL]
  exact at_nat (by rw [List.getElem?_map, h]; rfl)⟩
theorem RowAt.loc {st : Store} {l : Nat} {row : List Pr} (h : st[l]? = some (.lst (row.map pv))) : RowAt st (.loc l) row := ⟨fun ext => by
    rw [e_lenO, get_app h]
    simp, fun ext i p hp => by
    rw [e_ixO, get_app h, e_obI]
    exact at_nat (by rw [List.getElem?_map, hp]; rfl)⟩
/-! ### the order of rows -/
/-! ### numbers of layings -/
/-! ### kinds of rows -/
end P
/-! P54: papers, in plain Lean. -/
namespace P
open PySem (Str PyData)
open Rc
abbrev C3 := Int × Int × Int
structure PRow where
  ps : List Pr
  one : C3
  other : C3
/-! ### the cell of a spot: place, row, sign -/
/-! ### the order of a paper's rows -/
/-! ### what a table tells whence its signs come -/
def TbE (tb : Tb) (sps : List Sp) : Prop := ∀ k v, tlk tb k = some v → ∃ s ∈ sps, (s.pl, s.row) = k ∧ s.sg = v.1 ∧ s.i = v.2.1 ∧ s.k = v.2.2
theorem TbE.nil : TbE [] [] := fun k v h => by simp [tlk] at h
theorem TbE.step {tb tb' : Tb} {sps : List Sp} {s : Sp} (h : TbE tb sps) (e : stepE tb s = .ok tb') : TbE tb' (sps ++ [s]) := by
  unfold stepE at e
  split at e
  · rename_i hn
    cases e
    intro k v hk
    rw [tlk_app hn] at hk
    split at hk
    · rename_i ek
      cases hk
      exact ⟨s, by simp, ek, rfl, rfl, rfl⟩
    · obtain ⟨t, ht, r⟩ := h k v hk
      exact ⟨t, by simp [ht], r⟩
  · split at e
    · cases e
      intro k v hk
      obtain ⟨t, ht, r⟩ := h k v hk
      exact ⟨t, by simp [ht], r⟩
    · cases e
theorem TbE.fold {sps : List Sp} : ∀ {more : List Sp} {tb : Tb} {sps : List Sp}, TbE tb sps → (∀ tb', foldE stepE tb more = .ok tb' → TbE tb' (sps ++ more)) ∧ ∀ c, foldE stepE tb more = .error c → ∃ x ∈ sps ++ more, ∃ y ∈ sps ++ more, x.pl = y.pl ∧ x.row = y.row ∧ x.sg ≠ y.sg ∧ c = (x.i, x.k, y.i, y.k, x.row)
  | [], tb, sps, h => ⟨fun tb' e => by cases e; simpa using h, fun c e => by cases e⟩
  | s :: more, tb, sps, h => by
    constructor
    · intro tb' e
      unfold foldE at e
      cases e1 : stepE tb s with
      | error b => rw [e1] at e; cases e
      | ok t1 =>
        rw [e1] at e
        have := (TbE.fold (sps := sps) (h.step e1)).1 tb' e
        simpa using this
    · intro c e
      unfold foldE at e
      cases e1 : stepE tb s with
      | error b =>
        rw [e1] at e
        cases e
        unfold stepE at e1
        split at e1
        · cases e1
        · rename_i v hv
          split at e1
          · cases e1
          · rename_i hne
            cases e1
            obtain ⟨t, ht, h1, h2, h3, h4⟩ := h _ _ hv
            refine ⟨s, by simp, t, by simp [ht], (congrArg Prod.fst h1).symm, (congrArg Prod.snd h1).symm, fun z => hne (by rw [← h2, z]), ?_⟩
            rw [h3, h4]
      | ok t1 =>
        rw [e1] at e
        have := (TbE.fold (sps := sps) (h.step e1)).2 c e
        simpa using this
/-! ### the paper that is told -/
def rowsF (f : Pr → Option (List PRow)) : List Pr → Option (List PRow)
  | [] => some []
  | p :: ps => (f p).bind fun a => (rowsF f ps).map (a ++ ·)
def clRow (ps : List Pr) (c : Cl) : PRow := ⟨ps, (c.1, c.2.1, c.2.2.2.2), (c.2.2.1, c.2.2.2.1, c.2.2.2.2)⟩
def rowsP (ss : List Strip) (n : Int) : Nat → List Pr → Tb → Option (List PRow)
  | 0, _, _ => none
  | d + 1, ps, tb => rowsF (fun p => match lay tb (ss.getD ps.length []) (ps.length : Nat) p n with
      | .error c => some [clRow (ps ++ [p]) c]
      | .ok tb' => rowsP ss n d (ps ++ [p]) tb') (pairsF ps.length n)
/-- a head of a paper: pairs that lie without clash, and their table -/
structure PHead (ss : List Strip) (n : Int) (ps : List Pr) (tb : Tb) : Prop where
  path : ps ∈ pathsF n ps.length
  tr : TbR tb (spA ss n ps)
  te : TbE tb (spA ss n ps)
theorem PHead.nil {ss : List Strip} {n : Int} : PHead ss n [] [] := ⟨by simp [pathsF], .nil, .nil⟩
theorem PHead.next {ss : List Strip} {n : Int} {ps : List Pr} {tb tb' : Tb} {p : Pr} (h : PHead ss n ps tb) (hp : p ∈ pairsF ps.length n) (e : lay tb (ss.getD ps.length []) (ps.length : Nat) p n = .ok tb') : PHead ss n (ps ++ [p]) tb' := by
  refine ⟨?_, ?_, ?_⟩
  · rw [List.length_append]
    exact List.mem_flatMap.mpr ⟨ps, h.path, List.mem_map.mpr ⟨p, hp, rfl⟩⟩
  · rw [spA_snoc]
    exact (fold_r h.tr).2 tb' e
  · rw [spA_snoc]
    exact (TbE.fold (sps := []) h.te).1 tb' e
theorem PHead.clash {ss : List Strip} {n : Int} {ps : List Pr} {tb : Tb} {p : Pr} {c : Cl} (h : PHead ss n ps tb) (e : lay tb (ss.getD ps.length []) (ps.length : Nat) p n = .error c) : ¬ Cons (spA ss n (ps ++ [p])) := by
  rw [spA_snoc]
  intro hc
  obtain ⟨tb', e'⟩ := (fold_r h.tr).1 hc
  unfold lay at e
  rw [e] at e'
  cases e'
def paperT (ss : List Strip) (n : Int) : Option (List PRow) := rowsP ss n ss.length [] []
end P
/-! P55: the program's papers. -/
namespace P
open PySem (Str PyData)
open Rc
variable {C : Str → List Val → M Val} {xs : List Str}
def c3V (c : C3) : Val := .tup [.int c.1, .int c.2.1, .int c.2.2]
def psV (ps : List Pr) : Val := .tup (ps.map pv)
def prV (r : PRow) : Val := .tup [psV r.ps, c3V r.one, c3V r.other]
/-! ### a paper, or nothing -/
end P
/-! P56: papers that are judged: cells, rows, covers. -/
namespace P
open PySem (Str PyData)
open Rc
variable {C : Str → List Val → M Val} {xs : List Str}
/-! ### lists that lie anywhere -/
def LstAt (st : Store) (v : Val) (vs : List Val) : Prop := v = .lst vs ∨ ∃ l, v = .loc l ∧ st[l]? = some (.lst vs)
theorem LstAt.app {st ext : Store} {v : Val} {vs : List Val} (h : LstAt st v vs) : LstAt (st ++ ext) v vs := by
  rcases h with h | ⟨l, h1, h2⟩
  · exact .inl h
  · exact .inr ⟨l, h1, get_app h2⟩
theorem LstAt.iter {st : Store} {v : Val} {vs : List Val} (h : LstAt st v vs) : ∃ at_, (∀ ext, itemsOf (st ++ ext) v = some ⟨vs, at_⟩) ∧ ∀ ext, Still ⟨vs, at_⟩ (st ++ ext) := by
  rcases h with rfl | ⟨l, rfl, h2⟩
  · exact ⟨none, fun ext => rfl, fun ext => trivial⟩
  · refine ⟨some (.at l), fun ext => ?_, fun ext => get_app h2⟩
    unfold itemsOf
    dsimp only
    rw [get_app h2]
theorem LstAt.len {st : Store} {v : Val} {vs : List Val} (h : LstAt st v vs) : biLen st [v] = some (.int (vs.length : Nat)) := by
  rcases h with rfl | ⟨l, rfl, h2⟩
  · rfl
  · rw [e_lenO, h2]
    rfl
theorem LstAt.ix {st : Store} {v : Val} {vs : List Val} (h : LstAt st v vs) {i : Int} : ixOp st v (.int i) = L2.atI vs i := by
  rcases h with rfl | ⟨l, rfl, h2⟩
  · rfl
  · rw [e_ixO, h2]
    rfl
theorem LstAt.list {st : Store} {v : Val} {vs : List Val} (h : LstAt st v vs) : biList st [v] = some (.l vs) := by
  rcases h with rfl | ⟨l, rfl, h2⟩
  · rfl
  · rw [e_listO, h2]
    rfl
/-! ### cells -/
end P
/-! P57: rows that are judged; what a paper covers. -/
namespace P
open PySem (Str PyData)
open Rc
variable {C : Str → List Val → M Val} {xs : List Str}
/-! ### what a paper covers -/
end P
/-! P58: papers that are judged. -/
namespace P
open PySem (Str PyData)
open Rc
variable {C : Str → List Val → M Val} {xs : List Str}
/-! ### the law's own -/
end P
/-! P59: rows of pairs that lie anywhere; the least laying and the paper, cut off. -/
namespace P
open PySem (Str PyData)
open Rc
variable {C : Str → List Val → M Val} {xs : List Str}
theorem LstAt.row {st : Store} {v : Val} {p : List Pr} (h : LstAt st v (p.map pv)) : RowAt st v p := ⟨fun ext => by
    have := (h.app (ext := ext)).len
    rwa [List.length_map] at this, fun ext i q hq => by
    rw [(h.app (ext := ext)).ix]
    exact at_nat (by rw [List.getElem?_map, hq]; rfl)⟩
end P
/-! P60: the fewest columns. -/
namespace P
open PySem (Str PyData)
open Rc
variable {C : Str → List Val → M Val} {xs : List Str}
def PapAt (st0 st : Store) (ss : List Strip) (k : Nat) (v : Val) : Prop := (k = 0 ∧ v = .non) ∨ ∃ l rs, 0 < k ∧ v = .loc l ∧ st0.length ≤ l ∧ st[l]? = some (.lst (rs.map prV)) ∧ paperT ss (k : Nat) = some rs
theorem PapAt.app {st0 st ext : Store} {ss : List Strip} {k : Nat} {v : Val} (h : PapAt st0 st ss k v) : PapAt st0 (st ++ ext) ss k v := by
  rcases h with h | ⟨l, rs, h0, h1, h2, h3, h4⟩
  · exact .inl h
  · exact .inr ⟨l, rs, h0, h1, h2, get_app h3, h4⟩
theorem PapAt.lt {st0 st : Store} {ss : List Strip} {k : Nat} {v : Val} (h : PapAt st0 st ss k v) : v ≠ .loc st.length := by
  rcases h with ⟨_, rfl⟩ | ⟨l, rs, h0, rfl, h2, h3, h4⟩
  · intro z; cases z
  · intro z
    injection z with z
    have := (List.getElem?_eq_some_iff.mp h3).1
    omega
end P
/-! P61: strips of one seal lie as they came. -/
namespace P
open PySem (Str PyData)
open Rc
variable {C : Str → List Val → M Val} {xs : List Str}
theorem six {N : Nat} (h0 : 0 < N) (h6 : N ≤ 6) : N = 1 ∨ N = 2 ∨ N = 3 ∨ N = 4 ∨ N = 5 ∨ N = 6 := by omega
end P
/-! P62: layings under another order of strips, and with strips turned about. -/
namespace P
open PySem (Str PyData)
open Rc
variable {C : Str → List Val → M Val} {xs : List Str}
def twS (b : Bool) (s : Strip) : Strip := if b = true then turn s else s
theorem twS_twS {b : Bool} {s : Strip} : twS b (twS b s) = s := by
  cases b
  · rfl
  · exact turn_turn s
/-- strips in another order, some turned about -/
structure Rear (ss ss' : List Strip) (σ τ : Nat → Nat) (ε : Nat → Bool) : Prop where
  len : ss'.length = ss.length
  sl : ∀ i, i < ss.length → σ i < ss.length
  tl : ∀ i, i < ss.length → τ i < ss.length
  st : ∀ i, i < ss.length → σ (τ i) = i
  ts : ∀ i, i < ss.length → τ (σ i) = i
  at_ : ∀ i, i < ss.length → ss'.getD i [] = twS (ε i) (ss.getD (σ i) [])
theorem Rear.symm {ss ss' : List Strip} {σ τ : Nat → Nat} {ε : Nat → Bool} (h : Rear ss ss' σ τ ε) : Rear ss' ss τ σ (fun i => ε (τ i)) where
  len := h.len.symm
  sl := fun i hi => by rw [h.len] at hi ⊢; exact h.tl i hi
  tl := fun i hi => by rw [h.len] at hi ⊢; exact h.sl i hi
  st := fun i hi => by rw [h.len] at hi; exact h.ts i hi
  ts := fun i hi => by rw [h.len] at hi; exact h.st i hi
  at_ := fun i hi => by
    rw [h.len] at hi
    rw [h.at_ _ (h.tl i hi), h.st i hi, twS_twS]
end P
/-! P63: numbers in a drawn order. -/
namespace Rc
theorem seq_at {k n : Nat} (h : k < n) : PySem.seqIndex? ((k : Nat) : Int) n = some k := by
  unfold PySem.seqIndex?
  dsimp only
  rw [if_neg (show ¬ ((k : Nat) : Int) < 0 by omega)]
  rw [if_pos (by rw [Bool.and_eq_true]; exact ⟨decide_eq_true (by omega), decide_eq_true (by omega)⟩)]
  rfl
end Rc
namespace P
open PySem (Str PyData)
open Rc
variable {C : Str → List Val → M Val} {xs : List Str}
end P
/-! P64: the order of strips; the least of some. -/
namespace P
open PySem (Str PyData)
open Rc
variable {C : Str → List Val → M Val} {xs : List Str}
/-! ### lists by their first items that differ -/
section
variable {α : Type} [DecidableEq α] {lt : α → α → Bool}
end
/-! ### strips as data -/
/-! ### the least -/
end P
/-! P65: seals that are alike; the least of them. -/
namespace P
open PySem (Str PyData)
open Rc
variable {C : Str → List Val → M Val} {xs : List Str}
theorem go_rnd {L x : Nat} (h1 : 1 ≤ L) (h2 : L ≤ 6) (h3 : x ≤ 30) {b k : Nat} (hb : (b : Int) = (24 * (L : Int) - (x + 1 + k : Int)) % L) : L - 1 - (b + k) % L = x % L := by
  have : L = 1 ∨ L = 2 ∨ L = 3 ∨ L = 4 ∨ L = 5 ∨ L = 6 := by omega
  rcases this with rfl | rfl | rfl | rfl | rfl | rfl <;> omega
theorem prt_gt {s : Strip} {a n k : Nat} (h : k < n) : (prt s a n)[k]? = some (s.getD ((a + k) % s.length) []) := by
  unfold prt
  simp [h]
theorem turn_prt0 {s : Strip} {a n b : Nat} (h1 : 1 ≤ s.length) (h2 : s.length ≤ 6) (h3 : a < s.length) (h4 : n ≤ 12) (hb : (b : Int) = (24 * (s.length : Int) - a - n) % s.length) : turn (prt s a n) = prt (turn s) b n := by
  apply List.ext_getElem?
  intro k
  by_cases hk : k < n
  · have hl : (turn s).length = s.length := turn_len'
    rw [prt_gt hk, hl]
    have e1 : (turn (prt s a n))[k]? = ((prt s a n)[n - 1 - k]?).map List.reverse := by
      unfold turn
      rw [List.getElem?_map, List.getElem?_reverse (by rw [prt_len]; exact hk), prt_len]
    rw [e1, prt_gt (by omega)]
    have e2 : ∀ m, m < s.length → (turn s).getD m [] = (s.getD (s.length - 1 - m) []).reverse := by
      intro m hm
      unfold turn
      rw [List.getD_eq_getElem?_getD, List.getElem?_map, List.getElem?_reverse hm, List.getD_eq_getElem?_getD, List.getElem?_eq_getElem (by omega)]
      rfl
    rw [e2 _ (Nat.mod_lt _ (by omega))]
    have e3 := go_rnd (L := s.length) (x := a + (n - 1 - k)) (b := b) (k := k) h1 h2 (by omega) (by rw [hb]; congr 1; omega)
    rw [e3]
    rfl
  · rw [List.getElem?_eq_none (by unfold turn; simp [prt_len]; omega), List.getElem?_eq_none (by rw [prt_len]; omega)]
theorem prt_whole {s : Strip} : prt s 0 s.length = s := by
  apply List.ext_getElem?
  intro k
  by_cases hk : k < s.length
  · rw [prt_gt hk, Nat.zero_add, Nat.mod_eq_of_lt hk]
    exact (get_getD hk).symm
  · rw [List.getElem?_eq_none (by rw [prt_len]; omega), List.getElem?_eq_none (by omega)]
theorem prt_prt {s : Strip} {a b : Nat} : prt (prt s a s.length) b s.length = prt s ((a + b) % s.length) s.length := by
  apply List.ext_getElem?
  intro k
  by_cases hk : k < s.length
  · have hm : (b + k) % s.length < s.length := Nat.mod_lt _ (by omega)
    rw [prt_gt hk, prt_gt hk, prt_len, List.getD_eq_getElem?_getD, prt_gt hm]
    show some (s.getD ((a + (b + k) % s.length) % s.length) []) = some (s.getD (((a + b) % s.length + k) % s.length) [])
    rw [Nat.add_mod_mod, Nat.mod_add_mod, Nat.add_assoc]
  · rw [List.getElem?_eq_none (by rw [prt_len]; omega), List.getElem?_eq_none (by rw [prt_len]; omega)]
/-- the same seal, rolled from another column or turned about -/
def Kin (s t : Strip) : Prop := ∃ a, a < s.length ∧ (t = prt s a s.length ∨ t = turn (prt s a s.length))
/-- both ways of turning -/
theorem turn_any {s : Strip} (h1 : 1 ≤ s.length) (h2 : s.length ≤ 6) {a : Nat} (ha : a < s.length) : ∃ b, b < s.length ∧ turn (prt s a s.length) = prt (turn s) b s.length := by
  have p := Int.emod_nonneg (24 * (s.length : Int) - a - s.length) (show (s.length : Int) ≠ 0 by omega)
  have q := Int.emod_lt_of_pos (24 * (s.length : Int) - a - s.length) (show (0 : Int) < (s.length : Int) by omega)
  exact ⟨((24 * (s.length : Int) - a - s.length) % s.length).toNat, by omega, turn_prt0 h1 h2 ha (by omega) (by omega)⟩
theorem turn_any' {s : Strip} (h1 : 1 ≤ s.length) (h2 : s.length ≤ 6) {a : Nat} (ha : a < s.length) : ∃ b, b < s.length ∧ prt (turn s) a s.length = turn (prt s b s.length) := by
  obtain ⟨b, hb, e⟩ := turn_any (s := turn s) (by rw [turn_len']; exact h1) (by rw [turn_len']; exact h2) (a := a) (by rw [turn_len']; exact ha)
  rw [turn_len', turn_turn] at e
  rw [turn_len'] at hb
  exact ⟨b, hb, by rw [← e, turn_turn]⟩
theorem Kin.len {s t : Strip} (h : Kin s t) : t.length = s.length := by
  obtain ⟨a, _, e | e⟩ := h
  · rw [e, prt_len]
  · rw [e, turn_len', prt_len]
theorem Kin.refl {s : Strip} (h : 1 ≤ s.length) : Kin s s := ⟨0, h, .inl prt_whole.symm⟩
theorem Kin.trans {s t u : Strip} (h1 : 1 ≤ s.length) (h2 : s.length ≤ 6) (a : Kin s t) (b : Kin t u) : Kin s u := by
  have l := a.len
  obtain ⟨i, hi, ea⟩ := a
  obtain ⟨j, hj, eb⟩ := b
  rw [l] at hj eb
  have hm : ∀ x, x % s.length < s.length := fun x => Nat.mod_lt _ (by omega)
  rcases ea with ea | ea
  · rw [ea, prt_prt] at eb
    exact ⟨_, hm _, eb⟩
  · obtain ⟨c, hc, e⟩ := turn_any h1 h2 hi
    rw [ea, e] at eb
    have pp := prt_prt (s := turn s) (a := c) (b := j)
    rw [turn_len'] at pp
    rw [pp] at eb
    obtain ⟨d, hd, e2⟩ := turn_any' h1 h2 (hm (c + j))
    rw [e2] at eb
    rw [turn_turn] at eb
    exact ⟨d, hd, eb.symm⟩
theorem Kin.symm {s t : Strip} (h1 : 1 ≤ s.length) (h2 : s.length ≤ 6) (a : Kin s t) : Kin t s := by
  have l := a.len
  obtain ⟨i, hi, ea⟩ := a
  have hm : ∀ x, x % s.length < s.length := fun x => Nat.mod_lt _ (by omega)
  have z : (i + (s.length - i)) % s.length = 0 := by
    rw [show i + (s.length - i) = s.length by omega]
    exact Nat.mod_self _
  have back : prt (prt s i s.length) ((s.length - i) % s.length) s.length = s := by
    rw [prt_prt, Nat.add_mod_mod, z, prt_whole]
  rcases ea with ea | ea
  · refine ⟨(s.length - i) % s.length, by rw [l]; exact hm _, .inl ?_⟩
    rw [l, ea, back]
  · have et : turn t = prt s i s.length := by rw [ea, turn_turn]
    have e2 : s = prt (turn t) ((s.length - i) % s.length) s.length := by rw [et, back]
    obtain ⟨d, hd, e3⟩ := turn_any' (s := t) (by omega) (by omega) (a := (s.length - i) % s.length) (by rw [l]; exact hm _)
    rw [l] at e3
    refine ⟨d, hd, .inr ?_⟩
    rw [l]
    rw [e3] at e2
    exact e2
end P
/-! P66: least_turn, alike, and the law's kin. -/
namespace P
open PySem (Str PyData)
open Rc
variable {C : Str → List Val → M Val} {xs : List Str}
end P
/-! P67: papers that the law makes and bends. -/
namespace P
open PySem (Str PyData)
open Rc
variable {C : Str → List Val → M Val} {xs : List Str}
def HsAt (x : Nat) (B : Store) (v : Val) (vs : List Val) : Prop := v = .lst vs ∨ ∃ j, v = .loc (x + 1 + j) ∧ B[j]? = some (.lst vs)
theorem HsAt.at_ {st0 B ext : Store} {o : Ob} {v : Val} {vs : List Val} (h : HsAt st0.length B v vs) : LstAt (st0 ++ o :: (B ++ ext)) v vs := by
  rcases h with h | ⟨j, h1, h2⟩
  · exact .inl h
  · refine .inr ⟨_, h1, ?_⟩
    have hj := (List.getElem?_eq_some_iff.mp h2).1
    rw [List.getElem?_append_right (by omega), show st0.length + 1 + j - st0.length = j + 1 by omega, List.getElem?_cons_succ, List.getElem?_append_left hj, h2]
end P
/-! P68: papers that the law bends. -/
namespace P
open PySem (Str PyData)
open Rc
variable {C : Str → List Val → M Val} {xs : List Str}
end P
/-! P69: partings: what they are. -/
namespace P
open PySem (Str PyData)
open Rc
variable {C : Str → List Val → M Val} {xs : List Str}
/-! ### fewer strips lie where more do -/
/-! ### lists of numbers, partings -/
def chs (ss : List Strip) (l : List Nat) : List Strip := l.map fun i => ss.getD i []
abbrev Part := List (List Nat)
/-! ### ties -/
/-! ### bars -/
structure Bar where
  nums : List Int
  pap : List PRow
end P
/-! P70: partings in the store; keeps, has_all, barred, chosen. -/
namespace P
open PySem (Str PyData)
open Rc
variable {C : Str → List Val → M Val} {xs : List Str}
def nsV (l : List Nat) : List Val := l.map fun (i : Nat) => .int (i : Int)
structure PartZ (st : Store) (v : Val) (zs : List (List Nat × Val)) : Prop where
  at_ : LstAt st v (zs.map (·.2))
  each : ∀ q ∈ zs, LstAt st q.2 (nsV q.1)
def PartAt (st : Store) (v : Val) (p : Part) : Prop := ∃ zs, PartZ st v zs ∧ zs.map (·.1) = p
theorem PartZ.app {st ext : Store} {v : Val} {zs : List (List Nat × Val)} (h : PartZ st v zs) : PartZ (st ++ ext) v zs := ⟨h.at_.app, fun q hq => (h.each q hq).app⟩
theorem PartAt.app {st ext : Store} {v : Val} {p : Part} (h : PartAt st v p) : PartAt (st ++ ext) v p := by
  obtain ⟨zs, a, b⟩ := h
  exact ⟨zs, a.app, b⟩
theorem LstAt.it {st : Store} {v : Val} {vs : List Val} (h : LstAt st v vs) : ∃ at_, itemsOf st v = some ⟨vs, at_⟩ ∧ Still ⟨vs, at_⟩ st := by
  obtain ⟨at_, a, b⟩ := h.iter
  have a := a []
  have b := b []
  rw [List.append_nil] at a b
  exact ⟨at_, a, b⟩
/-! ### bars in the store -/
def barV (q : Bar × Val × Val) : Val := .tup [q.2.1, q.2.2]
structure BarZ (st : Store) (v : Val) (zs : List (Bar × Val × Val)) : Prop where
  at_ : LstAt st v (zs.map barV)
  each : ∀ q ∈ zs, LstAt st q.2.1 (q.1.nums.map .int) ∧ LstAt st q.2.2 (q.1.pap.map prV)
def BarsAt (st : Store) (v : Val) (bs : List Bar) : Prop := ∃ zs, BarZ st v zs ∧ zs.map (·.1) = bs
theorem BarsAt.app {st ext : Store} {v : Val} {bs : List Bar} (h : BarsAt st v bs) : BarsAt (st ++ ext) v bs := by
  obtain ⟨zs, a, b⟩ := h
  exact ⟨zs, ⟨a.at_.app, fun q hq => ⟨(a.each q hq).1.app, (a.each q hq).2.app⟩⟩, b⟩
end P
/-! P71: all partings, as the program finds them. -/
namespace P
open PySem (Str PyData)
open Rc
variable {C : Str → List Val → M Val} {xs : List Str}
theorem LstAt.lstOf {st : Store} {v : Val} {vs : List Val} (h : LstAt st v vs) : Rc.lstOf st v = some vs := by
  rcases h with rfl | ⟨l, rfl, h⟩
  · rfl
  · show (match st[l]? with
      | some (.lst xs) => some xs
      | _ => none) = _
    rw [h]
theorem LstAt.add {st : Store} {v w : Val} {a b : List Val} (h : LstAt st v a) (k : LstAt st w b) (hl : a.length + b.length ≤ 16777216) : opAdd st v w = some (.l (a ++ b)) := by
  have e1 := h.lstOf
  have e2 := k.lstOf
  have key : (match Rc.lstOf st v, Rc.lstOf st w with
    | some xs, some ys => if szOk (xs.length + ys.length) then some (Pv.l (xs ++ ys)) else none
    | _, _ => none) = some (Pv.l (a ++ b)) := by
    rw [e1, e2]
    show (if szOk (a.length + b.length) then some (Pv.l (a ++ b)) else none) = _
    rw [if_pos (show szOk (a.length + b.length) = true from decide_eq_true hl)]
  rcases h with rfl | ⟨l, rfl, h⟩ <;> rcases k with rfl | ⟨l', rfl, k⟩ <;> exact key
theorem LstAt.sl {st : Store} {v : Val} {vs : List Val} (h : LstAt st v vs) {lo hi : Option Int} : slOp st v lo hi = some (.l (cut vs lo hi)) := by
  have e1 := h.lstOf
  rcases h with rfl | ⟨l, rfl, h⟩
  · rfl
  · show (Rc.lstOf st (.loc l)).map _ = _
    rw [e1]
    rfl
/-- a list that stands, whatever the one place holds -/
def LstO (A B : Store) (v : Val) (vs : List Val) : Prop := ∀ o, LstAt (A ++ o :: B) v vs
theorem LstO.app {A B ext : Store} {v : Val} {vs : List Val} (h : LstO A B v vs) : LstO A (B ++ ext) v vs := fun o => by
  have := (h o).app (ext := ext)
  rwa [List.append_assoc, List.cons_append] at this
theorem LstO.of {A B : Store} {v : Val} {vs : List Val} (h : LstAt A v vs) : LstO A B v vs := fun o => h.app
theorem LstO.new {A B : Store} {vs : List Val} : LstO A (B ++ [.lst vs]) (.loc (A.length + (B.length + 1))) vs := fun o => .inr ⟨_, rfl, by
  rw [List.getElem?_append_right (by omega), show A.length + (B.length + 1) - A.length = B.length + 1 by omega, List.getElem?_cons_succ]
  exact app_at⟩
/-- a place that lies at b or behind it -/
def LocG (b : Nat) (v : Val) : Prop := ∃ l, v = .loc l ∧ b ≤ l
/-- a parting that may be changed, all of it new -/
structure PartL (b : Nat) (st : Store) (v : Val) (p : Part) : Prop where
  ex : ∃ zs : List (List Nat × Val), PartZ st v zs ∧ zs.map (·.1) = p ∧ LocG b v ∧ ∀ q ∈ zs, LocG b q.2
theorem PartL.at_ {b : Nat} {st : Store} {v : Val} {p : Part} (h : PartL b st v p) : PartAt st v p := by
  obtain ⟨zs, h1, h2, _⟩ := h.ex
  exact ⟨zs, h1, h2⟩
theorem PartL.app {b : Nat} {st ext : Store} {v : Val} {p : Part} (h : PartL b st v p) : PartL b (st ++ ext) v p := by
  obtain ⟨zs, h1, h2, h3⟩ := h.ex
  exact ⟨zs, h1.app, h2, h3⟩
structure PartO (b : Nat) (A B : Store) (v : Val) (p : Part) : Prop where
  ex : ∃ zs : List (List Nat × Val), LstO A B v (zs.map (·.2)) ∧ (∀ q ∈ zs, LstO A B q.2 (nsV q.1)) ∧ zs.map (·.1) = p ∧ LocG b v ∧ ∀ q ∈ zs, LocG b q.2
theorem PartO.app {b : Nat} {A B ext : Store} {v : Val} {p : Part} (h : PartO b A B v p) : PartO b A (B ++ ext) v p := by
  obtain ⟨zs, a, b, c⟩ := h.ex
  exact ⟨zs, a.app, fun q hq => (b q hq).app, c⟩
theorem PartO.at_ {b : Nat} {A B : Store} {v : Val} {p : Part} (h : PartO b A B v p) (o : Ob) : PartL b (A ++ o :: B) v p := by
  obtain ⟨zs, a, b, c⟩ := h.ex
  exact ⟨zs, ⟨a o, fun q hq => b q hq o⟩, c⟩
structure PartsAt (b : Nat) (st : Store) (v : Val) (ps : List Part) : Prop where
  ex : ∃ zs : List (Part × Val), LstAt st v (zs.map (·.2)) ∧ (∀ q ∈ zs, PartL b st q.2 q.1) ∧ zs.map (·.1) = ps
theorem PartsAt.app {b : Nat} {st ext : Store} {v : Val} {ps : List Part} (h : PartsAt b st v ps) : PartsAt b (st ++ ext) v ps := by
  obtain ⟨zs, a, b, c⟩ := h.ex
  exact ⟨zs, a.app, fun q hq => (b q hq).app, c⟩
end P
/-! P72: ties, lists of numbers, the least bars. -/
namespace P
open PySem (Str PyData)
open Rc
variable {C : Str → List Val → M Val} {xs : List Str}
/-! ### all lists -/
/-! ### the least bars -/
/-- bars, the list and the papers new -/
structure BarsL (b : Nat) (st : Store) (v : Val) (bs : List Bar) : Prop where
  ex : ∃ zs, BarZ st v zs ∧ zs.map (·.1) = bs ∧ LocG b v ∧ ∀ q ∈ zs, LocG b q.2.2
theorem BarsL.at_ {b : Nat} {st : Store} {v : Val} {bs : List Bar} (h : BarsL b st v bs) : BarsAt st v bs := by
  obtain ⟨zs, h1, h2, _⟩ := h.ex
  exact ⟨zs, h1, h2⟩
theorem BarsL.app {b : Nat} {st ext : Store} {v : Val} {bs : List Bar} (h : BarsL b st v bs) : BarsL b (st ++ ext) v bs := by
  obtain ⟨zs, h1, h2, h3⟩ := h.ex
  exact ⟨zs, ⟨h1.at_.app, fun q hq => ⟨(h1.each q hq).1.app, (h1.each q hq).2.app⟩⟩, h2, h3⟩
end P
/-! P73: the fewest seals. -/
namespace P
open PySem (Str PyData)
open Rc
variable {C : Str → List Val → M Val} {xs : List Str}
theorem LstAt.items {st : Store} {v : Val} {vs : List Val} (h : LstAt st v vs) : ∃ at_, (∀ ext, itemsOf (st ++ ext) v = some ⟨vs, at_⟩) ∧ ∀ ext, Still ⟨vs, at_⟩ (st ++ ext) := h.iter
/-- the layings of a parting, all new -/
structure LaysL (b : Nat) (st : Store) (v : Val) (ss : List Strip) (n : Int) (p : Part) : Prop where
  ex : ∃ zs : List (List Nat × Val), LstAt st v (zs.map (·.2)) ∧ zs.map (·.1) = p ∧ LocG b v ∧ ∀ q ∈ zs, LocG b q.2 ∧ ∃ row rest, allL (chs ss q.1) n = row :: rest ∧ LstAt st q.2 (row.map pv)
theorem LaysL.app {b : Nat} {st ext : Store} {v : Val} {ss : List Strip} {n : Int} {p : Part} (h : LaysL b st v ss n p) : LaysL b (st ++ ext) v ss n p := by
  obtain ⟨zs, h1, h2, h3, h4⟩ := h.ex
  exact ⟨zs, h1.app, h2, h3, fun q hq => by
    obtain ⟨k1, row, rest, k2, k3⟩ := h4 q hq
    exact ⟨k1, row, rest, k2, k3.app⟩⟩
/-- bars, all new -/
structure BarsN (b : Nat) (st : Store) (v : Val) (bs : List Bar) : Prop where
  ex : ∃ zs, BarZ st v zs ∧ zs.map (·.1) = bs ∧ LocG b v ∧ ∀ q ∈ zs, LocG b q.2.1 ∧ LocG b q.2.2
theorem BarsN.at_ {b : Nat} {st : Store} {v : Val} {bs : List Bar} (h : BarsN b st v bs) : BarsAt st v bs := by
  obtain ⟨zs, h1, h2, _⟩ := h.ex
  exact ⟨zs, h1, h2⟩
theorem BarsN.app {b : Nat} {st ext : Store} {v : Val} {bs : List Bar} (h : BarsN b st v bs) : BarsN b (st ++ ext) v bs := by
  obtain ⟨zs, h1, h2, h3⟩ := h.ex
  exact ⟨zs, ⟨h1.at_.app, fun q hq => ⟨(h1.each q hq).1.app, (h1.each q hq).2.app⟩⟩, h2, h3⟩
end P
/-! P74: bars judged. -/
namespace P
open PySem (Str PyData)
open Rc
variable {C : Str → List Val → M Val} {xs : List Str}
/-! ### good numbers -/
/-! ### bars judged -/
end P
/-! P75: ties that the laws draw; what the fewest seals are. -/
namespace P
open PySem (Str PyData)
open Rc
variable {C : Str → List Val → M Val} {xs : List Str}
/-! ### asked: the fewest seals, or None -/
/-! ### what the fewest are -/
end P
/-! P76: what trays are asked. -/
namespace P
open PySem (Str PyData)
open Rc
variable {C : Str → List Val → M Val} {xs : List Str}
/-! ### lists of numbers, each once -/
/-! ### the strips of some numbers -/
/-! ### sayings as ties -/
theorem TrayAt.app {st ext : Store} {l a b : Nat} {T : Tr} (h : TrayAt st l a b T) : TrayAt (st ++ ext) l a b T := by
  refine ⟨?_, ?_, ?_, h.ab⟩
  · rw [List.getElem?_append_left (lt_of_at h.o)]; exact h.o
  · rw [List.getElem?_append_left (lt_of_at h.k)]; exact h.k
  · rw [List.getElem?_append_left (lt_of_at h.s)]; exact h.s
end P
/-! P77: the six questions of trays. -/
namespace P
open PySem (Str PyData)
open Rc
variable {C : Str → List Val → M Val} {xs : List Str}
/-! ### bad counts of columns -/
/-! ### the refusal of a list of numbers -/
/-! ### columns -/
end P
/-! P78: questions of trays, asked by the law of refusals. -/
namespace P
open PySem (Str PyData)
open Rc
variable {C : Str → List Val → M Val} {xs : List Str}
/-! ### what was told may be frozen -/
/-! ### the questions -/
/-! ### asked, and due -/
/-! ### sayings stay good -/
end P
/-! P30: deeds drawn for trays. -/
namespace P
open PySem (Str PyData)
open Rc
variable {C : Str → List Val → M Val} {xs : List Str}
end P
/-! P79: trays tell as the functions do. -/
namespace P
open PySem (Str PyData)
open Rc
variable {C : Str → List Val → M Val} {xs : List Str}
theorem LawT.app {st ext : Store} {m a b : Nat} {T : Tr} (h : LawT st m a b T) : LawT (st ++ ext) m a b T := by
  refine ⟨?_, ?_, ?_, h.ma, h.mb, h.ab⟩
  · rw [List.getElem?_append_left (lt_of_at h.o)]; exact h.o
  · rw [List.getElem?_append_left (lt_of_at h.k)]; exact h.k
  · rw [List.getElem?_append_left (lt_of_at h.s)]; exact h.s
/-! ### the functions' counts -/
/-! ### a tray tells -/
end P
/-! P80: asked twice, a strip changed in between. -/
namespace P
open PySem (Str PyData)
open Rc
variable {C : Str → List Val → M Val} {xs : List Str}
end P
/-! P81: the law's own ties and partings. -/
namespace P
open PySem (Str PyData)
open Rc
variable {C : Str → List Val → M Val} {xs : List Str}
end P
/-! P82: the law's own partings. -/
namespace P
open PySem (Str PyData)
open Rc
variable {C : Str → List Val → M Val} {xs : List Str}
end P
/-! P83: seals told. -/
namespace P
open PySem (Str PyData)
open Rc
variable {C : Str → List Val → M Val} {xs : List Str}
/-! ### a parting lies among the law's own -/
end P
/-! P84: seals told by a tray. -/
namespace P
open PySem (Str PyData)
open Rc
variable {C : Str → List Val → M Val} {xs : List Str}
end P
/-! P85: seals told twice, a saying taken back in between. -/
namespace P
open PySem (Str PyData)
open Rc
variable {C : Str → List Val → M Val} {xs : List Str}
end P
/-! P88: journals: what they are, and their deeds. -/
namespace P
open PySem (Str PyData)
open Rc
variable {C : Str → List Val → M Val} {xs : List Str}
/-! ### more of things that lie apart -/
def ownN : Own := ⟨[], fun _ => True, fun _ _ => trivial, fun _ i hi => by simp at hi⟩
def ownO (j : Nat) (x : Ob) : Own where
  is := [j]
  P st := st[j]? = some x
  mv h p := (h j (by simp)).trans p
  lt p i hi := by
    rw [List.mem_singleton.mp hi]
    exact lt_of_at p
def ownAll : List Own → Own
  | [] => ownN
  | o :: os => o.and (ownAll os)
theorem Sep.split {st : Store} {a b : Own} {os : List Own} : Sep st (a.and b :: os) ↔ Sep st (a :: b :: os) := by
  constructor
  · rintro ⟨p, nd⟩
    refine ⟨fun o ho => ?_, by simpa [Own.and, List.append_assoc] using nd⟩
    have hp := p _ (List.mem_cons_self ..)
    rcases List.mem_cons.mp ho with rfl | ho
    · exact hp.1
    rcases List.mem_cons.mp ho with rfl | ho
    · exact hp.2
    · exact p o (List.mem_cons_of_mem _ ho)
  · rintro ⟨p, nd⟩
    refine ⟨fun o ho => ?_, by simpa [Own.and, List.append_assoc] using nd⟩
    rcases List.mem_cons.mp ho with rfl | ho
    · exact ⟨p _ (by simp), p _ (by simp)⟩
    · exact p o (by simp [ho])
theorem Sep.none {st : Store} {os : List Own} : Sep st (ownN :: os) ↔ Sep st os := by
  refine ⟨Sep.tail, fun h => ⟨fun o ho => ?_, by simpa [ownN] using h.nd⟩⟩
  rcases List.mem_cons.mp ho with rfl | ho
  · trivial
  · exact h.p o ho
theorem Sep.all {st : Store} : ∀ {l os : List Own}, Sep st (ownAll l :: os) ↔ Sep st (l ++ os)
  | [], os => Sep.none
  | o :: l, os => by
    show Sep st (o.and (ownAll l) :: os) ↔ Sep st (o :: (l ++ os))
    rw [Sep.split]
    have p1 : (o :: ownAll l :: os).Perm (ownAll l :: o :: os) := List.Perm.swap _ _ _
    have p2 : (l ++ o :: os).Perm (o :: (l ++ os)) := List.perm_middle
    exact ⟨fun h => (Sep.all.mp (h.perm p1)).perm p2, fun h => (Sep.all.mpr (h.perm p2.symm)).perm p1.symm⟩
theorem DSep.toS {rest : Store} {os : List Own} (D : DSep rest os) (o : Ob) : Sep (o :: rest) (ownO 0 o :: os) := by
  refine ⟨fun x hx => ?_, ?_⟩
  · rcases List.mem_cons.mp hx with rfl | hx
    · rfl
    · exact (D.s o).p x hx
  · rw [List.flatMap_cons, List.nodup_append]
    refine ⟨by simp [ownO], (D.s o).nd, fun i hi k hk e => ?_⟩
    simp [ownO] at hi
    subst hi
    subst e
    obtain ⟨x, hx, hm⟩ := List.mem_flatMap.mp hk
    exact D.z x hx hm
theorem Sep.toD {st : Store} {o : Ob} {os : List Own} (h : Sep st (ownO 0 o :: os)) : ∃ rest, st = o :: rest ∧ DSep rest os := by
  have h0 : st[0]? = some o := h.p _ (List.mem_cons_self ..)
  have nd := h.nd
  rw [List.flatMap_cons, List.nodup_append] at nd
  have z : ∀ x ∈ os, 0 ∉ x.is := fun x hx m => nd.2.2 0 (by simp [ownO]) 0 (List.mem_flatMap.mpr ⟨x, hx, m⟩) rfl
  cases st with
  | nil => simp at h0
  | cons q rest =>
    simp at h0
    subst h0
    refine ⟨rest, rfl, fun y => ⟨fun x hx => x.mv (fun i hi => ?_) (h.p x (List.mem_cons_of_mem _ hx)), nd.2.1⟩, z⟩
    cases i with
    | zero => exact absurd hi (z x hx)
    | succ i => rfl
theorem Sep.twin {st : Store} {os : List Own} {S : Sh} (D : Sep st os) (G : GoodS S) : Sep (st ++ twinL st.length S) (ownS (st.length, st.length + 3, st.length + 4) S :: os) :=
  D.add (is := []) gro_app (by simp) (fun i hi => by
    simp [ownS] at hi
    omega) (by
    show [st.length, st.length + 3, st.length + 4].Nodup
    simp) ⟨twin_at, G⟩
theorem Sep.copy {st : Store} {os : List Own} {S : Sh} (D : Sep st os) (G : GoodS S) : Sep (st ++ copyL st.length S) (ownW (st.length, st.length + 1, st.length + 2, st.length + 3) S :: os) :=
  D.add (is := []) gro_app (by simp) (fun i hi => by
    simp [ownW] at hi
    omega) (by
    show [st.length, st.length + 1, st.length + 2, st.length + 3].Nodup
    simp) ⟨copy_at, G⟩
theorem Sep.newl {st : Store} {os : List Own} (D : Sep st os) (vs : List Val) : Sep (st ++ [.lst vs]) (ownL st.length vs :: os) :=
  D.add (is := []) gro_app (by simp) (fun i hi => by
    simp [ownL] at hi
    omega) (by simp [ownL]) (by
    show (st ++ [Ob.lst vs])[st.length]? = some (.lst vs)
    simp)
theorem Sep.getl {st : Store} {os : List Own} {l : Nat} {vs : List Val} (D : Sep st os) (h : ownL l vs ∈ os) : st[l]? = some (.lst vs) := D.p _ h
theorem Sep.geto {st : Store} {os : List Own} {l : Nat} {x : Ob} (D : Sep st os) (h : ownO l x ∈ os) : st[l]? = some x := D.p _ h
theorem Sep.gets {st : Store} {os : List Own} {p : PlS} {S : Sh} (D : Sep st os) (h : ownS p S ∈ os) : ShopAt st p.1 p.2.1 p.2.2 S ∧ GoodS S := D.p _ h
theorem Sep.setl {st : Store} {os : List Own} {l : Nat} {vs : List Val} (D : Sep st (ownL l vs :: os)) (ws : List Val) : Sep (st.set l (.lst ws)) (ownL l ws :: os) := by
  have hl : l < st.length := lt_of_at (D.getl (List.mem_cons_self ..))
  exact D.step (is := [l]) (gro_set (by simp)) (fun i hi => .inl hi) (fun i hi => .inl hi) (by simp [ownL]) (by
    show (st.set l (Ob.lst ws))[l]? = some (.lst ws)
    simp [hl])
/-- a workshop changes at its places -/
theorem Sep.shop {st st' : Store} {os : List Own} {p : PlS} {S S' : Sh} (D : Sep st (ownS p S :: os)) (A : ShopAt st' p.1 p.2.1 p.2.2 S') (G : GoodS S') (O : Off [p.1, p.2.1, p.2.2] st st') : Sep st' (ownS p S' :: os) := by
  have nd := D.nd
  rw [List.flatMap_cons, List.nodup_append] at nd
  exact D.step O.gro (fun i hi => .inl hi) (fun i hi => .inl hi) nd.1 ⟨A, G⟩
theorem Sep.law {st st' : Store} {os : List Own} {p : PlW} {S S' : Sh} (D : Sep st (ownW p S :: os)) (A : LawAt st' p.1 p.2.1 p.2.2.1 p.2.2.2 S') (G : GoodS S') (O : Off [p.1, p.2.1, p.2.2.1, p.2.2.2] st st') : Sep st' (ownW p S' :: os) := by
  have nd := D.nd
  rw [List.flatMap_cons, List.nodup_append] at nd
  exact D.step O.gro (fun i hi => .inl hi) (fun i hi => .inl hi) nd.1 ⟨A, G⟩
theorem Sep.grow {st : Store} {os : List Own} (D : Sep st os) (ext : Store) : Sep (st ++ ext) os := D.still (is := []) gro_app (by simp)
/-! ### journals -/
structure Hist where
  base : Sh
  done : List (Deed × Sh)
  und : List (Deed × Sh)
def Hist.sts (H : Hist) : List Sh := H.base :: H.done.map (·.2)
def Hist.cur (H : Hist) : Sh := H.sts.getLast (by simp [Hist.sts])
def Hist.past (H : Hist) : List Sh := H.sts.dropLast
def chain : Sh → List (Deed × Sh) → Prop
  | _, [] => True
  | S, x :: l => (doD S x.1).1 = "" ∧ (doD S x.1).2.2 = x.2 ∧ chain x.2 l
structure Hist.Good (H : Hist) : Prop where
  g : GoodS H.base
  c : chain H.base (H.done ++ H.und.reverse)
def lastS (S : Sh) (l : List (Deed × Sh)) : Sh := (S :: l.map (·.2)).getLast (by simp)
theorem last_cons {S : Sh} {x : Deed × Sh} {l : List (Deed × Sh)} : lastS S (x :: l) = lastS x.2 l := by
  unfold lastS
  simp
theorem last_app {S : Sh} {x : Deed × Sh} {l : List (Deed × Sh)} : lastS S (l ++ [x]) = x.2 := by
  unfold lastS
  have e : S :: (l ++ [x]).map (·.2) = (S :: l.map (·.2)) ++ [x.2] := by simp
  simp only [e, List.getLast_concat]
theorem cur_last (H : Hist) : H.cur = lastS H.base H.done := rfl
theorem chain_app : ∀ {S : Sh} {l m : List (Deed × Sh)}, chain S (l ++ m) ↔ chain S l ∧ chain (lastS S l) m
  | S, [], m => by simp [chain, lastS]
  | S, x :: l, m => by
    rw [List.cons_append, last_cons]
    simp only [chain]
    rw [chain_app (S := x.2)]
    constructor
    · rintro ⟨a, b, c, d⟩
      exact ⟨⟨a, b, c⟩, d⟩
    · rintro ⟨⟨a, b, c⟩, d⟩
      exact ⟨a, b, c, d⟩
theorem chain_good : ∀ {S : Sh} {l : List (Deed × Sh)}, GoodS S → chain S l → ∀ T ∈ S :: l.map (·.2), GoodS T
  | S, [], g, _, T, hT => by
    simp at hT
    rw [hT]
    exact g
  | S, x :: l, g, c, T, hT => by
    rw [List.map_cons] at hT
    rcases List.mem_cons.mp hT with rfl | hT
    · exact g
    · refine chain_good (S := x.2) ?_ c.2.2 T hT
      rw [← c.2.1]
      exact good_do g _
theorem chain_high : ∀ {S : Sh} {l : List (Deed × Sh)}, chain S l → ∀ T ∈ S :: l.map (·.2), T.high = S.high
  | S, [], _, T, hT => by
    simp at hT
    rw [hT]
  | S, x :: l, c, T, hT => by
    rw [List.map_cons] at hT
    rcases List.mem_cons.mp hT with rfl | hT
    · rfl
    · rw [chain_high (S := x.2) c.2.2 T hT, ← c.2.1]
      exact high_do S _
theorem Hist.Good.gs {H : Hist} (h : H.Good) : ∀ T ∈ H.sts, GoodS T := chain_good h.g (chain_app.mp h.c).1
theorem Hist.Good.gcur {H : Hist} (h : H.Good) : GoodS H.cur := h.gs _ (List.getLast_mem _)
theorem Hist.Good.hcur {H : Hist} (h : H.Good) : H.cur.high = H.base.high := chain_high (chain_app.mp h.c).1 _ (List.getLast_mem _)
def Hist.did (H : Hist) (d : Deed) : Hist := { H with done := H.done ++ [(d, (doD H.cur d).2.2)], und := [] }
theorem Hist.Good.did {H : Hist} (h : H.Good) {d : Deed} (w : (doD H.cur d).1 = "") : (H.did d).Good := by
  refine ⟨h.g, ?_⟩
  show chain H.base ((H.done ++ [_]) ++ [])
  rw [List.append_nil, chain_app]
  exact ⟨(chain_app.mp h.c).1, w, rfl, trivial⟩
def jrOb (h : Int) (l e r u : Nat) : Ob := .ins "Journal" [("present", .loc l), ("high", .int h), ("earlier", .loc e), ("rows", .loc r), ("undone", .loc u)]
abbrev ownZ (Z : List (PlS × Sh)) : List Own := Z.map fun z => ownS z.1 z.2
/-- the parts of a journal -/
def jrL (j e r u : Nat) (p : PlS) (Z : List (PlS × Sh)) (H : Hist) : List Own := ownO j (jrOb H.base.high p.1 e r u) :: ownL e (Z.map fun z => .loc z.1.1) :: ownL r (H.done.map fun x => dv x.1) :: ownL u (H.und.map fun x => dv x.1) :: ownS p H.cur :: ownZ Z
def IsJ (O : Own) (j : Nat) (H : Hist) : Prop := ∃ e r u p Z, Z.map (·.2) = H.past ∧ O = ownAll (jrL j e r u p Z H)
end P
/-! P89: the journal's own deeds. -/
namespace P
open PySem (Str PyData)
open Rc
variable {C : Str → List Val → M Val} {xs : List Str}
theorem mem_jr {j e r u : Nat} {p : PlS} {Z : List (PlS × Sh)} {H : Hist} {os : List Own} {x : Own} (h : x ∈ jrL j e r u p Z H) : x ∈ jrL j e r u p Z H ++ os := List.mem_append.mpr (.inl h)
end P
/-! P90: journals, further: looks, doing, what is told, new ones. -/
namespace P
open PySem (Str PyData)
open Rc
variable {C : Str → List Val → M Val} {xs : List Str}
/-! ### data are like themselves -/
theorem plain_dv {n : Nat} {d : Deed} (h : ∀ s, d = .cut s → plainV (n + 2) (sv s)) : plainV (n + 3) (dv d) := by
  cases d <;> refine .tup (by simp) fun w hw => ?_ <;> simp only [List.mem_cons, List.not_mem_nil, or_false] at hw
  · rcases hw with rfl | rfl
    · exact .str _
    · exact h _ rfl
  · rcases hw with rfl | rfl | rfl | rfl
    · exact .str _
    all_goals exact .int _
  · rcases hw with rfl | rfl | rfl | rfl
    · exact .str _
    all_goals exact .int _
  · rcases hw with rfl | rfl
    · exact .str _
    all_goals exact .int _
  · rcases hw with rfl | rfl | rfl | rfl
    · exact .str _
    all_goals exact .int _
  · rcases hw with rfl | rfl | rfl
    · exact .str _
    all_goals exact .int _
  · rcases hw with rfl | rfl | rfl
    · exact .str _
    all_goals exact .int _
  · rcases hw with rfl | rfl
    · exact .str _
    all_goals exact .int _
/-! ### looks -/
end P
/-! P91: the journal's methods. -/
namespace P
open PySem (Str PyData)
open Rc
variable {C : Str → List Val → M Val} {xs : List Str}
theorem isj_ob {st : Store} {O : Own} {j : Nat} {H : Hist} {os : List Own} (h : IsJ O j H) (S : Sep st (O :: os)) : ∃ l e r u, st[j]? = some (jrOb H.base.high l e r u) := by
  obtain ⟨e, r, u, p, Z, hZ, rfl⟩ := h
  exact ⟨_, _, _, _, (Sep.all.mp S).geto (mem_jr (by simp [jrL]; exact .inl rfl))⟩
theorem done_plain {n : Nat} : ∀ {S : Sh} {l : List (Deed × Sh)}, chain S l → ∀ x ∈ l, plainV (n + 4) (dv x.1)
  | S, [], _, x, hx => by simp at hx
  | S, y :: l, c, x, hx => by
    rcases List.mem_cons.mp hx with rfl | hx
    · refine plain_dv (n := n + 1) fun s hs => ?_
      have w := c.1
      rw [hs] at w
      have gs : goodSeal s = true := by
        simp only [doD, dCut] at w
        by_cases k : goodSeal s = true ∧ (high s : Int) = S.high
        · exact k.1
        · rw [if_neg k] at w
          exact absurd w (nw (by decide))
      have hgs : goodStrip s = true := by
        unfold goodSeal at gs
        simp only [Bool.and_eq_true] at gs
        exact gs.1.1
      exact plain_good (n := n) hgs
    · exact done_plain c.2.2 x hx
theorem Hist.Good.plain {n : Nat} {H : Hist} (h : H.Good) : ∀ v ∈ H.done.map (fun x => dv x.1), plainV (n + 4) v := fun v hv => by
  obtain ⟨x, hx, rfl⟩ := List.mem_map.mp hv
  exact done_plain (chain_app.mp h.c).1 x hx
end P
/-! P92: the journal's methods, further: taking back, doing again, a new one. -/
namespace P
open PySem (Str PyData)
open Rc
variable {C : Str → List Val → M Val} {xs : List Str}
theorem wr_popL {st : Store} {l : Nat} {vs : List Val} {y : Val} (hl : st[l]? = some (.lst (vs ++ [y]))) (hz : vs.length ≤ 16777216) : wrLst .pop l [] st = .ok y (st.set l (.lst vs)) := by
  unfold wrLst
  rw [hl]
  dsimp only [obLst]
  have : mtLst st .pop [] (vs ++ [y]) = some (y, vs) := by
    simp [mtLst]
  rw [this]
  dsimp only
  rw [if_pos]
  show decide _ = true
  exact decide_eq_true hz
structure Ok_Journal_back (F : Fn) : Prop where
  non : ∀ {st : Store} {O : Own} {j : Nat} {H : Hist} {os : List Own}, IsJ O j H → Sep st (O :: os) → H.done = [] → F [.loc j] st = .exc "Nothing" none st
  run : ∀ {st : Store} {O : Own} {j : Nat} {S : Sh} {dn un : List (Deed × Sh)} {x : Deed × Sh} {os : List Own}, IsJ O j ⟨S, dn ++ [x], un⟩ → Sep st (O :: os) → dn.length + un.length ≤ 1000 → ∃ st' O', F [.loc j] st = .ok (dv x.1) st' ∧ IsJ O' j ⟨S, dn, un ++ [x]⟩ ∧ Sep st' (O' :: os) ∧ st'.length = st.length
end P
/-! P93: doing again; new journals; the law's words about them. -/
namespace P
open PySem (Str PyData)
open Rc
variable {C : Str → List Val → M Val} {xs : List Str}
structure Ok_Journal_again (F : Fn) : Prop where
  non : ∀ {st : Store} {O : Own} {j : Nat} {H : Hist} {os : List Own}, IsJ O j H → Sep st (O :: os) → H.und = [] → F [.loc j] st = .exc "Nothing" none st
  run : ∀ {st : Store} {O : Own} {j : Nat} {S : Sh} {dn un : List (Deed × Sh)} {x : Deed × Sh} {os : List Own}, IsJ O j ⟨S, dn, un ++ [x]⟩ → Hist.Good ⟨S, dn, un ++ [x]⟩ → Sep st (O :: os) → dn.length + un.length ≤ 1000 → ∃ st' O', F [.loc j] st = .ok (dv x.1) st' ∧ IsJ O' j ⟨S, dn ++ [x], un⟩ ∧ Sep st' (O' :: os) ∧ st.length ≤ st'.length
/-! ### a new one -/
end P
/-! P94: the law's words about journals. -/
namespace P
open PySem (Str PyData)
open Rc
variable {C : Str → List Val → M Val} {xs : List Str}
def Ok_law_journal_do (F : Fn) : Prop := ∀ {st : Store} {O : Own} {j : Nat} {H : Hist} {os : List Own}, IsJ O j H → Sep st (O :: os) → H.done.length ≤ 1000 → ∀ d : Deed, ∃ st' O', F [.loc j, dv d] st = .ok (.lst [.str (if (doD H.cur d).1 = "" then "" else "refused"), (doD H.cur d).2.1]) st' ∧ IsJ O' j (if (doD H.cur d).1 = "" then H.did d else H) ∧ Sep st' (O' :: os) ∧ st.length ≤ st'.length
end P
/-! P96: journals written. -/
namespace P
open PySem (Str PyData)
open Rc
variable {C : Str → List Val → M Val} {xs : List Str}
def numTxt (i : Int) : Str := Str.ofString (toString i)
def dWord : Deed → Str
  | .cut _ => "cut"
  | .chip _ _ _ => "chip"
  | .roll _ _ _ => "roll"
  | .turn _ => "turn"
  | .wear _ _ _ => "wear"
  | .snap _ _ => "snap"
  | .join _ _ => "join"
  | .lose _ => "lose"
def dNums : Deed → List Int
  | .cut _ => []
  | .chip n c r => [n, c, r]
  | .roll n a w => [n, a, w]
  | .turn n => [n]
  | .wear n c r => [n, c, r]
  | .snap n c => [n, c]
  | .join n m => [n, m]
  | .lose n => [n]
def deedTxt : Deed → Str
  | .cut s => ("cut " : Str) ++ stripText s
  | d => PySem.Txt.join " " (dWord d :: (dNums d).map numTxt)
def jTxt (h : Int) (ds : List Deed) : Str := PySem.Txt.join "\n" ((("shop " : Str) ++ numTxt h) :: ds.map deedTxt)
/-! ### how long it gets -/
end P
/-! P97: a journal's text, by the program and by the law. -/
namespace P
open PySem (Str PyData)
open Rc
variable {C : Str → List Val → M Val} {xs : List Str}
theorem items_loc2 {st : Store} {l : Nat} {vs : List Val} (h : st[l]? = some (.lst vs)) : itemsOf st (.loc l) = some ⟨vs, some (.at l)⟩ := by
  show (match st[l]? with
    | some (.lst xs) => some (⟨xs, some l⟩ : Items)
    | _ => none) = _
  rw [h]
def Ok_Journal_text (F : Fn) : Prop := ∀ {st : Store} {O : Own} {j : Nat} {H : Hist} {os : List Own}, IsJ O j H → Sep st (O :: os) → H.Good → H.done.length ≤ 1000 → F [.loc j] st = .ok (.str (jTxt H.base.high (H.done.map (·.1)))) st
/-! ### by the law -/
end P
/-! P95: two strips of unlike rollings are no pieces of one. -/
namespace Rc
theorem wpk_forU {C : PySem.Str → List Val → M Val} {xs : List PySem.Str} {N : Env → Store → Prop} {T : Val → Store → Prop} {body : Env → Store → RS} {tg : Tg} {ys zs : List Val} {x : Val} {ss : Ss} {env env' : Env} {st : Store} (e : assignTg tg x env = some env') (h : WP (body env' st) (fun e s => WPK (forLoop body tg (Still ⟨ys, none⟩) zs e s) C xs ss N T) T) : WPK (forLoop body tg (Still ⟨ys, none⟩) (x :: zs) env st) C xs ss N T := by
  rw [forLoop_cons (by simp) e]
  revert h
  rcases body env' st with ⟨f, st1⟩ | ⟨c, r, e, st1⟩ | _
  · cases f
    · exact fun h => h
    · exact fun h => h
  · exact fun h => h
  · exact fun h => h
theorem wpk_forN {C : PySem.Str → List Val → M Val} {xs : List PySem.Str} {N : Env → Store → Prop} {T : Val → Store → Prop} {body : Env → Store → RS} {tg : Tg} {ys : List Val} {ss : Ss} {env : Env} {st : Store} (h : WP (exSs C xs ss env st) N T) : WPK (forLoop body tg (Still ⟨ys, none⟩) [] env st) C xs ss N T := by
  rw [forLoop_nil (by simp)]
  exact h
end Rc
namespace P
open PySem (Str PyData)
open Rc
variable {C : Str → List Val → M Val} {xs : List Str}
section
variable {F : Fn} {st : Store} {l a b : Nat} {S : Sh} {n m c : Int} {t u : Thing}
theorem ResP.refused {F : Fn} {as : List Val} {st : Store} {l a b : Nat} {w : Str} {S' : Sh} (hw : w ≠ "") (h : ResP F as st l a b (w, .non, S')) : F as st = .exc w none st := by
  generalize ho : ((w, .non, S') : Out) = o at h
  cases h with
  | ok h1 h2 h3 =>
    injection ho with q _
    exact absurd q hw
  | exc h1 h2 => cases ho; exact h2
end
end P
/-! P98: a journal, and the law's own list of what it stood like. -/
namespace P
open PySem (Str PyData)
open Rc
variable {C : Str → List Val → M Val} {xs : List Str}
/-- a step as the law keeps it: where its workshop lies, the deed, the workshop -/
abbrev LStep := PlW × Deed × Sh
def pairV (x : LStep) : Val := .tup [dv x.2.1, .loc x.1.1]
def ownP (x : LStep) : Own := ownW x.1 x.2.2
/-- the history that the lists tell -/
def hisL (h : Int) (LD LU : List LStep) : Hist := ⟨sh0 h, LD.map (·.2), LU.map (·.2)⟩
def doneV (b : PlW) (LD : List LStep) : List Val := .tup [.non, .loc b.1] :: LD.map pairV
def lastP (b : PlW) (LD : List LStep) : PlW := (b :: LD.map (·.1)).getLast (by simp)
theorem lastP_snoc {b : PlW} {LD : List LStep} {x : LStep} : lastP b (LD ++ [x]) = x.1 := by
  unfold lastP
  have e : b :: (LD ++ [x]).map (·.1) = (b :: LD.map (·.1)) ++ [x.1] := by simp
  simp only [e, List.getLast_concat]
theorem cur_snoc {h : Int} {LD LU : List LStep} {x : LStep} : (hisL h (LD ++ [x]) LU).cur = x.2.2 := by
  rw [cur_last]
  unfold hisL
  rw [List.map_append]
  exact last_app
theorem own_last {h : Int} {b : PlW} {LD LU : List LStep} {os : List Own} : ownW (lastP b LD) (hisL h LD LU).cur ∈ ownW b (sh0 h) :: (LD.map ownP ++ os) := by
  rcases List.eq_nil_or_concat LD with rfl | ⟨LD', x, rfl⟩
  · exact List.mem_cons_self ..
  · rw [List.concat_eq_append, lastP_snoc, cur_snoc]
    refine List.mem_cons_of_mem _ (List.mem_append.mpr (.inl ?_))
    rw [List.map_append]
    exact List.mem_append.mpr (.inr (by simp [ownP]))
structure St48 (h : Int) (rest : Store) (dl ul : Nat) (b : PlW) (LD LU : List LStep) (O : Own) : Prop where
  j : IsJ O 1 (hisL h LD LU)
  g : (hisL h LD LU).Good
  d : DSep rest (O :: ownL dl (doneV b LD) :: ownL ul (LU.map pairV) :: ownW b (sh0 h) :: (LD.map ownP ++ LU.map ownP))
theorem St48.ins {h : Int} {rest : Store} {dl ul : Nat} {b : PlW} {LD LU : List LStep} {O : Own} (s : St48 h rest dl ul b LD LU O) : ∃ fs, rest[0]? = some (.ins "Journal" fs) := by
  obtain ⟨_, _, _, _, q⟩ := isj_ob s.j (s.d.s (.lst []))
  exact ⟨_, q⟩
theorem St48.grow {h : Int} {rest : Store} {dl ul : Nat} {b : PlW} {LD LU : List LStep} {O : Own} (s : St48 h rest dl ul b LD LU O) (ext : Store) : St48 h (rest ++ ext) dl ul b LD LU O := ⟨s.j, s.g, s.d.grow ext⟩
theorem St48.dl_ {h : Int} {rest : Store} {dl ul : Nat} {b : PlW} {LD LU : List LStep} {O : Own} (s : St48 h rest dl ul b LD LU O) (o : Ob) : (o :: rest)[dl]? = some (.lst (doneV b LD)) := s.d.get o (o := ownL dl _) (by simp)
theorem St48.cur {h : Int} {rest : Store} {dl ul : Nat} {b : PlW} {LD LU : List LStep} {O : Own} (s : St48 h rest dl ul b LD LU O) (o : Ob) : LawAt (o :: rest) (lastP b LD).1 (lastP b LD).2.1 (lastP b LD).2.2.1 (lastP b LD).2.2.2 (hisL h LD LU).cur :=
  (s.d.get o (o := ownW (lastP b LD) (hisL h LD LU).cur) (List.mem_cons_of_mem _ (List.mem_cons_of_mem _ (List.mem_cons_of_mem _ own_last)))).1
/-- taken back, in the journal and in the law's lists -/
theorem St48.back {h : Int} {o : Ob} {rest : Store} {dl ul : Nat} {b : PlW} {LD LU : List LStep} {x : LStep} {O : Own} {F : Fn} (hF : Ok_Journal_back F) (s : St48 h rest dl ul b (LD ++ [x]) LU O) (hl : LD.length + LU.length ≤ 1000) : ∃ r1 r2 r3 O', F [.loc 1] (o :: rest) = .ok (dv x.2.1) (o :: r1) ∧ (o :: r1)[ul]? = some (.lst (LU.map pairV)) ∧ (o :: r1)[dl]? = some (.lst (doneV b (LD ++ [x]))) ∧ wrLst .pop dl [] (o :: r1) = .ok (pairV x) (o :: r2) ∧ (o :: r2)[ul]? = some (.lst (LU.map pairV)) ∧ wrLst .append ul [pairV x] (o :: r2) = .ok .non (o :: r3) ∧ (o :: r3)[ul]? = some (.lst ((LU ++ [x]).map pairV)) ∧ St48 h r3 dl ul b LD (LU ++ [x]) O' := by
  have hh : hisL h (LD ++ [x]) LU = ⟨sh0 h, LD.map (·.2) ++ [x.2], LU.map (·.2)⟩ := by simp [hisL]
  have hJ := s.j
  rw [hh] at hJ
  have S1 := (s.d.toS o).perm (perm_at (i := 1) rfl)
  obtain ⟨st1, O', e1, hJ', S2, -⟩ := hF.run hJ S1 (by simpa using hl)
  have ed : doneV b (LD ++ [x]) = doneV b LD ++ [pairV x] := by simp [doneV]
  have eu : LU.map pairV ++ [pairV x] = (LU ++ [x]).map pairV := by simp
  rw [ed] at S2
  have m1 := S2.getl (l := dl) (vs := doneV b LD ++ [pairV x]) (by simp [List.eraseIdx])
  have m2 := S2.getl (l := ul) (vs := LU.map pairV) (by simp [List.eraseIdx])
  have w1 := wr_popL m1 (by simp [doneV]; omega)
  have S3 := (S2.perm (perm_at (i := 2) rfl)).setl (doneV b LD)
  generalize hs2 : st1.set dl (.lst (doneV b LD)) = st2 at w1 S3
  have m3 := S3.getl (l := ul) (vs := LU.map pairV) (by simp [List.eraseIdx])
  have w2 := wr_append (y := pairV x) m3 (by rw [List.length_map]; show _ ≤ 16777216; omega)
  have S4 := (S3.perm (perm_at (i := 3) rfl)).setl (LU.map pairV ++ [pairV x])
  generalize hs3 : st2.set ul (.lst (LU.map pairV ++ [pairV x])) = st3 at w2 S4
  have m4 := S4.getl (l := ul) (vs := LU.map pairV ++ [pairV x]) (by simp)
  obtain ⟨r1, rfl, -⟩ := (S2.perm (perm_at (i := 1) rfl)).toD
  obtain ⟨r2, rfl, -⟩ := (S3.perm (perm_at (i := 2) rfl)).toD
  obtain ⟨r3, rfl, D⟩ := (S4.perm (perm_at (i := 3) rfl)).toD
  refine ⟨r1, r2, r3, O', e1, m2, by rw [ed]; exact m1, w1, m3, w2, by rw [← eu]; exact m4, ?_, ?_, ?_⟩
  · have e : hisL h LD (LU ++ [x]) = ⟨sh0 h, LD.map (·.2), LU.map (·.2) ++ [x.2]⟩ := by simp [hisL]
    rw [e]
    exact hJ'
  · have g := s.g
    refine ⟨g.g, ?_⟩
    have c := g.c
    unfold hisL at c ⊢
    simpa using c
  · rw [← eu]
    refine D.perm ?_
    refine (perm_at (i := 2) rfl).trans (List.Perm.cons _ ?_)
    refine (perm_at (i := 1) rfl).trans (List.Perm.cons _ ?_)
    refine (perm_at (i := 0) rfl).trans (List.Perm.cons _ ?_)
    refine (perm_at (i := 0) rfl).trans (List.Perm.cons _ ?_)
    show List.Perm ((LD ++ [x]).map ownP ++ LU.map ownP) (LD.map ownP ++ (LU ++ [x]).map ownP)
    rw [List.map_append, List.map_append, List.append_assoc]
    exact List.Perm.append_left _ List.perm_append_comm
/-- done again -/
theorem St48.again {h : Int} {o : Ob} {rest : Store} {dl ul : Nat} {b : PlW} {LD LU : List LStep} {x : LStep} {O : Own} {F : Fn} (hF : Ok_Journal_again F) (s : St48 h rest dl ul b LD (LU ++ [x]) O) (hl : LD.length + LU.length ≤ 1000) : ∃ r1 r2 r3 O', F [.loc 1] (o :: rest) = .ok (dv x.2.1) (o :: r1) ∧ (o :: r1)[dl]? = some (.lst (doneV b LD)) ∧ (o :: r1)[ul]? = some (.lst ((LU ++ [x]).map pairV)) ∧ wrLst .pop ul [] (o :: r1) = .ok (pairV x) (o :: r2) ∧ (o :: r2)[dl]? = some (.lst (doneV b LD)) ∧ wrLst .append dl [pairV x] (o :: r2) = .ok .non (o :: r3) ∧ (o :: r3)[dl]? = some (.lst (doneV b (LD ++ [x]))) ∧ St48 h r3 dl ul b (LD ++ [x]) LU O' := by
  have hh : hisL h LD (LU ++ [x]) = ⟨sh0 h, LD.map (·.2), LU.map (·.2) ++ [x.2]⟩ := by simp [hisL]
  have hJ := s.j
  have hG := s.g
  rw [hh] at hJ hG
  have S1 := (s.d.toS o).perm (perm_at (i := 1) rfl)
  obtain ⟨st1, O', e1, hJ', S2, -⟩ := hF.run hJ hG S1 (by simpa using hl)
  have ed : doneV b LD ++ [pairV x] = doneV b (LD ++ [x]) := by simp [doneV]
  have eu : (LU ++ [x]).map pairV = LU.map pairV ++ [pairV x] := by simp
  rw [eu] at S2
  have m1 := S2.getl (l := dl) (vs := doneV b LD) (by simp [List.eraseIdx])
  have m2 := S2.getl (l := ul) (vs := LU.map pairV ++ [pairV x]) (by simp [List.eraseIdx])
  have w1 := wr_popL m2 (by simp; omega)
  have S3 := (S2.perm (perm_at (i := 3) rfl)).setl (LU.map pairV)
  generalize hs2 : st1.set ul (.lst (LU.map pairV)) = st2 at w1 S3
  have m3 := S3.getl (l := dl) (vs := doneV b LD) (by simp [List.eraseIdx])
  have w2 := wr_append (y := pairV x) m3 (by simp [doneV, PySem.sizeLine]; omega)
  have S4 := (S3.perm (perm_at (i := 3) rfl)).setl (doneV b LD ++ [pairV x])
  generalize hs3 : st2.set dl (.lst (doneV b LD ++ [pairV x])) = st3 at w2 S4
  have m4 := S4.getl (l := dl) (vs := doneV b LD ++ [pairV x]) (by simp)
  obtain ⟨r1, rfl, -⟩ := (S2.perm (perm_at (i := 1) rfl)).toD
  obtain ⟨r2, rfl, -⟩ := (S3.perm (perm_at (i := 2) rfl)).toD
  obtain ⟨r3, rfl, D⟩ := (S4.perm (perm_at (i := 3) rfl)).toD
  refine ⟨r1, r2, r3, O', e1, m1, by rw [eu]; exact m2, w1, m3, w2, by rw [← ed]; exact m4, ?_, ?_, ?_⟩
  · have e : hisL h (LD ++ [x]) LU = ⟨sh0 h, LD.map (·.2) ++ [x.2], LU.map (·.2)⟩ := by simp [hisL]
    rw [e]
    exact hJ'
  · have g := s.g
    refine ⟨g.g, ?_⟩
    have c := g.c
    unfold hisL at c ⊢
    simpa using c
  · rw [← ed]
    refine D.perm ?_
    refine (perm_at (i := 2) rfl).trans (List.Perm.cons _ ?_)
    refine (perm_at (i := 0) rfl).trans (List.Perm.cons _ ?_)
    refine (perm_at (i := 0) rfl).trans (List.Perm.cons _ ?_)
    refine (perm_at (i := 0) rfl).trans (List.Perm.cons _ ?_)
    show List.Perm (LD.map ownP ++ (LU ++ [x]).map ownP) ((LD ++ [x]).map ownP ++ LU.map ownP)
    rw [List.map_append, List.map_append, List.append_assoc]
    exact List.Perm.append_left _ List.perm_append_comm
/-- a deed, on a copy of the last workshop, and in the journal -/
theorem St48.deed {h : Int} {o : Ob} {rest : Store} {dl ul : Nat} {b : PlW} {LD LU : List LStep} {O : Own} {q : PlW} (hd : Ok_law_s_do (C "_law_s_do")) (hjo : Ok_law_journal_do (C "_law_journal_do")) (hse : Ok_law_same_end (C "_law_same_end")) (s : St48 h rest dl ul b LD LU O) (D : DSep rest (ownW q (hisL h LD LU).cur :: O :: ownL dl (doneV b LD) :: ownL ul (LU.map pairV) :: ownW b (sh0 h) :: (LD.map ownP ++ LU.map ownP))) (hl : LD.length ≤ 1000) (d : Deed) :
    ∃ st5 v u r6 O', C "_law_s_do" [.loc q.1, dv d] (o :: rest) = .ok (.tup [.str (doD (hisL h LD LU).cur d).1, v]) st5 ∧ C "_law_journal_do" [.loc 1, dv d] st5 = .ok u (o :: r6) ∧ C "_law_same_end" [u, .tup [.str (doD (hisL h LD LU).cur d).1, v]] (o :: r6) = .ok (.bl true) (o :: r6) ∧ IsJ O' 1 (if (doD (hisL h LD LU).cur d).1 = "" then (hisL h LD LU).did d else hisL h LD LU) ∧ DSep r6 (O' :: ownW q (doD (hisL h LD LU).cur d).2.2 :: ownL dl (doneV b LD) :: ownL ul (LU.map pairV) :: ownW b (sh0 h) :: (LD.map ownP ++ LU.map ownP)) := by
  have hcur := s.g.gcur
  have S1 := (D.toS o).perm (perm_at (i := 1) rfl)
  obtain ⟨st5, f5, A5, F5⟩ := hd.run (S1.p _ (List.mem_cons_self ..)).1 hcur d
  have S2 := S1.law A5 (good_do hcur d) F5
  have S3 := S2.perm (perm_at (i := 2) rfl)
  obtain ⟨st6, O1', f6, hJ1', S4, -⟩ := hjo s.j S3 (by simpa [hisL] using hl) d
  have pl := plain_deed hcur d
  have pv : plainV 5 (doD (hisL h LD LU).cur d).2.1 := by
    cases pl with
    | lst _ h => exact h _ (by simp)
  have f7 := hse (if (doD (hisL h LD LU).cur d).1 = "" then "" else "refused") (doD (hisL h LD LU).cur d).1 _ st6 pv (by
    by_cases c : (doD (hisL h LD LU).cur d).1 = ""
    · simp [c]
    · simp [c])
  obtain ⟨r6, rfl, D6⟩ := (S4.perm (perm_at (i := 2) rfl)).toD
  exact ⟨st5, _, _, r6, O1', f5, f6, f7, hJ1', D6⟩
end P
/-! P99: twins of journals; a step back or again. -/
namespace Rc
open PySem
theorem lc_new {own : List Nat} {mI : Env → M Items} {tg : Tg} {mT : Env → M Bool} {mE : Env → M Val} {env : Env} {st st' : Store} {ys : List Val} (h : lcSem false own mI tg mT mE env st = .ok (.lst ys) st') : lcSem true own mI tg mT mE env st = .ok (.loc st'.length) (st' ++ [.lst ys]) := by
  rw [lcSem_eq] at *
  unfold lcRaw at *
  revert h
  unfold bnd
  rcases mI env st with ⟨is, st1⟩ | ⟨c, r, st1⟩ | _
  · dsimp only
    rcases lcLoop (lcTurn tg own mT mE env) (Still is) is.xs [] st1 with ⟨zs, st2⟩ | ⟨c, r, st2⟩ | _
    · dsimp only
      by_cases hs : Still is st2
      · rw [if_pos hs, if_pos hs]
        intro h
        have h2 : (R.ok (Val.lst zs) st2 : R Val) = .ok (.lst ys) st' := h
        injection h2 with h3 h4
        injection h3 with h5
        subst h4
        subst h5
        rfl
      · rw [if_neg hs]
        intro h
        cases h
    · intro h; cases h
    · intro h; cases h
  · intro h; cases h
  · intro h; cases h
end Rc
namespace P
open PySem (Str PyData)
open Rc
variable {C : Str → List Val → M Val} {xs : List Str}
structure Ok_law_step_back (F : Fn) : Prop where
  back0 : ∀ {st : Store} {O : Own} {j : Nat} {H : Hist} {os : List Own}, IsJ O j H → Sep st (O :: os) → H.done = [] → F [.loc j, .bl false] st = .ok .non st
  back : ∀ {st : Store} {O : Own} {j : Nat} {S : Sh} {dn un : List (Deed × Sh)} {x : Deed × Sh} {os : List Own}, IsJ O j ⟨S, dn ++ [x], un⟩ → Sep st (O :: os) → dn.length + un.length ≤ 1000 → ∃ st' O', F [.loc j, .bl false] st = .ok (dv x.1) st' ∧ IsJ O' j ⟨S, dn, un ++ [x]⟩ ∧ Sep st' (O' :: os) ∧ st'.length = st.length
  again0 : ∀ {st : Store} {O : Own} {j : Nat} {H : Hist} {os : List Own}, IsJ O j H → Sep st (O :: os) → H.und = [] → F [.loc j, .bl true] st = .ok .non st
  again : ∀ {st : Store} {O : Own} {j : Nat} {S : Sh} {dn un : List (Deed × Sh)} {x : Deed × Sh} {os : List Own}, IsJ O j ⟨S, dn, un ++ [x]⟩ → Hist.Good ⟨S, dn, un ++ [x]⟩ → Sep st (O :: os) → dn.length + un.length ≤ 1000 → ∃ st' O', F [.loc j, .bl true] st = .ok (dv x.1) st' ∧ IsJ O' j ⟨S, dn ++ [x], un⟩ ∧ Sep st' (O' :: os) ∧ st.length ≤ st'.length
def Pre (st s : Store) : Prop := ∃ ext, s = st ++ ext
theorem Pre.refl {st : Store} : Pre st st := ⟨[], by simp⟩
theorem Pre.app {st s : Store} (h : Pre st s) (e : Store) : Pre st (s ++ e) := by
  obtain ⟨x, rfl⟩ := h
  exact ⟨x ++ e, by simp⟩
theorem Pre.set {st s : Store} (h : Pre st s) {k : Nat} (hk : st.length ≤ k) (o : Ob) : Pre st (s.set k o) := by
  obtain ⟨x, rfl⟩ := h
  exact ⟨x.set (k - st.length) o, by rw [List.set_append_right _ _ hk]⟩
end P
/-! P100: journals by turns, their law's workshops in one pool. -/
namespace P
open PySem (Str PyData)
open Rc
variable {C : Str → List Val → M Val} {xs : List Str}
structure JAt (h : Int) (rest : Store) (j dl ul : Nat) (b : PlW) (LD LU : List LStep) (O : Own) (ps os : List Own) : Prop where
  j : IsJ O j (hisL h LD LU)
  g : (hisL h LD LU).Good
  d : DSep rest (O :: ownL dl (doneV b LD) :: ownL ul (LU.map pairV) :: (ps ++ os))
  pb : ownW b (sh0 h) ∈ ps
  pl : ∀ y ∈ LD ++ LU, ownP y ∈ ps
section
variable {h : Int} {o : Ob} {rest : Store} {j dl ul : Nat} {b : PlW} {LD LU : List LStep} {O : Own} {ps os : List Own} {x : LStep} {F : Fn}
theorem JAt.dl_ (s : JAt h rest j dl ul b LD LU O ps os) (o : Ob) : (o :: rest)[dl]? = some (.lst (doneV b LD)) := s.d.get o (o := ownL dl _) (by simp)
theorem JAt.ins (s : JAt h rest j dl ul b LD LU O ps os) (o : Ob) : ∃ fs, (o :: rest)[j]? = some (.ins "Journal" fs) := by
  obtain ⟨_, _, _, _, q⟩ := isj_ob s.j (s.d.s o)
  exact ⟨_, q⟩
theorem JAt.grow (s : JAt h rest j dl ul b LD LU O ps os) (ext : Store) : JAt h (rest ++ ext) j dl ul b LD LU O ps os := ⟨s.j, s.g, s.d.grow ext, s.pb, s.pl⟩
theorem own_lastJ (s : JAt h rest j dl ul b LD LU O ps os) : ownW (lastP b LD) (hisL h LD LU).cur ∈ ps := by
  rcases List.eq_nil_or_concat LD with hz | ⟨LD', y, hz⟩
  · subst hz
    exact s.pb
  · rw [List.concat_eq_append] at hz
    subst hz
    rw [lastP_snoc, cur_snoc]
    exact s.pl y (by simp)
theorem JAt.cur (s : JAt h rest j dl ul b LD LU O ps os) (o : Ob) : LawAt (o :: rest) (lastP b LD).1 (lastP b LD).2.1 (lastP b LD).2.2.1 (lastP b LD).2.2.2 (hisL h LD LU).cur :=
  (s.d.get o (List.mem_cons_of_mem _ (List.mem_cons_of_mem _ (List.mem_cons_of_mem _ (List.mem_append.mpr (.inl (own_lastJ s))))))).1
theorem JAt.back (hF : Ok_law_step_back F) (s : JAt h rest j dl ul b (LD ++ [x]) LU O ps os) (hl : LD.length + LU.length ≤ 1000) : ∃ r1 r2 r3 O', F [.loc j, .bl false] (o :: rest) = .ok (dv x.2.1) (o :: r1) ∧ (o :: r1)[ul]? = some (.lst (LU.map pairV)) ∧ (o :: r1)[dl]? = some (.lst (doneV b (LD ++ [x]))) ∧ wrLst .pop dl [] (o :: r1) = .ok (pairV x) (o :: r2) ∧ (o :: r2)[ul]? = some (.lst (LU.map pairV)) ∧ wrLst .append ul [pairV x] (o :: r2) = .ok .non (o :: r3) ∧ (o :: r3)[ul]? = some (.lst ((LU ++ [x]).map pairV)) ∧ JAt h r3 j dl ul b LD (LU ++ [x]) O' ps os := by
  have hh : hisL h (LD ++ [x]) LU = ⟨sh0 h, LD.map (·.2) ++ [x.2], LU.map (·.2)⟩ := by simp [hisL]
  have hJ := s.j
  rw [hh] at hJ
  have S1 := (s.d.toS o).perm (perm_at (i := 1) rfl)
  obtain ⟨st1, O', e1, hJ', S2, -⟩ := hF.back hJ S1 (by simpa using hl)
  have ed : doneV b (LD ++ [x]) = doneV b LD ++ [pairV x] := by simp [doneV]
  have eu : LU.map pairV ++ [pairV x] = (LU ++ [x]).map pairV := by simp
  rw [ed] at S2
  have m1 := S2.getl (l := dl) (vs := doneV b LD ++ [pairV x]) (by simp [List.eraseIdx])
  have m2 := S2.getl (l := ul) (vs := LU.map pairV) (by simp [List.eraseIdx])
  have w1 := wr_popL m1 (by simp [doneV]; omega)
  have S3 := (S2.perm (perm_at (i := 2) rfl)).setl (doneV b LD)
  generalize hs2 : st1.set dl (.lst (doneV b LD)) = st2 at w1 S3
  have m3 := S3.getl (l := ul) (vs := LU.map pairV) (by simp [List.eraseIdx])
  have w2 := wr_append (y := pairV x) m3 (by rw [List.length_map]; show _ ≤ 16777216; omega)
  have S4 := (S3.perm (perm_at (i := 3) rfl)).setl (LU.map pairV ++ [pairV x])
  generalize hs3 : st2.set ul (.lst (LU.map pairV ++ [pairV x])) = st3 at w2 S4
  have m4 := S4.getl (l := ul) (vs := LU.map pairV ++ [pairV x]) (by simp)
  obtain ⟨r1, rfl, -⟩ := (S2.perm (perm_at (i := 1) rfl)).toD
  obtain ⟨r2, rfl, -⟩ := (S3.perm (perm_at (i := 2) rfl)).toD
  obtain ⟨r3, rfl, D⟩ := (S4.perm (perm_at (i := 3) rfl)).toD
  refine ⟨r1, r2, r3, O', e1, m2, by rw [ed]; exact m1, w1, m3, w2, by rw [← eu]; exact m4, ?_, ?_, ?_, s.pb, fun y hy => s.pl y ?_⟩
  · have e : hisL h LD (LU ++ [x]) = ⟨sh0 h, LD.map (·.2), LU.map (·.2) ++ [x.2]⟩ := by simp [hisL]
    rw [e]
    exact hJ'
  · have g := s.g
    refine ⟨g.g, ?_⟩
    have c := g.c
    unfold hisL at c ⊢
    simpa using c
  · rw [← eu]
    exact D.perm ((perm_at (i := 2) rfl).trans (List.Perm.cons _ ((perm_at (i := 1) rfl).trans (List.Perm.cons _ ((perm_at (i := 0) rfl).trans (List.Perm.cons _ (List.Perm.refl _)))))))
  · simp at hy ⊢
    rcases hy with a | a | a <;> simp [a]
theorem JAt.again (hF : Ok_law_step_back F) (s : JAt h rest j dl ul b LD (LU ++ [x]) O ps os) (hl : LD.length + LU.length ≤ 1000) : ∃ r1 r2 r3 O', F [.loc j, .bl true] (o :: rest) = .ok (dv x.2.1) (o :: r1) ∧ (o :: r1)[dl]? = some (.lst (doneV b LD)) ∧ (o :: r1)[ul]? = some (.lst ((LU ++ [x]).map pairV)) ∧ wrLst .pop ul [] (o :: r1) = .ok (pairV x) (o :: r2) ∧ (o :: r2)[dl]? = some (.lst (doneV b LD)) ∧ wrLst .append dl [pairV x] (o :: r2) = .ok .non (o :: r3) ∧ (o :: r3)[dl]? = some (.lst (doneV b (LD ++ [x]))) ∧ JAt h r3 j dl ul b (LD ++ [x]) LU O' ps os := by
  have hh : hisL h LD (LU ++ [x]) = ⟨sh0 h, LD.map (·.2), LU.map (·.2) ++ [x.2]⟩ := by simp [hisL]
  have hJ := s.j
  have hG := s.g
  rw [hh] at hJ hG
  have S1 := (s.d.toS o).perm (perm_at (i := 1) rfl)
  obtain ⟨st1, O', e1, hJ', S2, -⟩ := hF.again hJ hG S1 (by simpa using hl)
  have ed : doneV b LD ++ [pairV x] = doneV b (LD ++ [x]) := by simp [doneV]
  have eu : (LU ++ [x]).map pairV = LU.map pairV ++ [pairV x] := by simp
  rw [eu] at S2
  have m1 := S2.getl (l := dl) (vs := doneV b LD) (by simp [List.eraseIdx])
  have m2 := S2.getl (l := ul) (vs := LU.map pairV ++ [pairV x]) (by simp [List.eraseIdx])
  have w1 := wr_popL m2 (by simp; omega)
  have S3 := (S2.perm (perm_at (i := 3) rfl)).setl (LU.map pairV)
  generalize hs2 : st1.set ul (.lst (LU.map pairV)) = st2 at w1 S3
  have m3 := S3.getl (l := dl) (vs := doneV b LD) (by simp [List.eraseIdx])
  have w2 := wr_append (y := pairV x) m3 (by simp [doneV, PySem.sizeLine]; omega)
  have S4 := (S3.perm (perm_at (i := 3) rfl)).setl (doneV b LD ++ [pairV x])
  generalize hs3 : st2.set dl (.lst (doneV b LD ++ [pairV x])) = st3 at w2 S4
  have m4 := S4.getl (l := dl) (vs := doneV b LD ++ [pairV x]) (by simp)
  obtain ⟨r1, rfl, -⟩ := (S2.perm (perm_at (i := 1) rfl)).toD
  obtain ⟨r2, rfl, -⟩ := (S3.perm (perm_at (i := 2) rfl)).toD
  obtain ⟨r3, rfl, D⟩ := (S4.perm (perm_at (i := 3) rfl)).toD
  refine ⟨r1, r2, r3, O', e1, m1, by rw [eu]; exact m2, w1, m3, w2, by rw [← ed]; exact m4, ?_, ?_, ?_, s.pb, fun y hy => s.pl y ?_⟩
  · have e : hisL h (LD ++ [x]) LU = ⟨sh0 h, LD.map (·.2) ++ [x.2], LU.map (·.2)⟩ := by simp [hisL]
    rw [e]
    exact hJ'
  · have g := s.g
    refine ⟨g.g, ?_⟩
    have c := g.c
    unfold hisL at c ⊢
    simpa using c
  · rw [← ed]
    exact D.perm ((perm_at (i := 2) rfl).trans (List.Perm.cons _ ((perm_at (i := 0) rfl).trans (List.Perm.cons _ ((perm_at (i := 0) rfl).trans (List.Perm.cons _ (List.Perm.refl _)))))))
  · simp at hy ⊢
    rcases hy with a | a | a <;> simp [a]
end
theorem wr_clear2 {st : Store} {l : Nat} {vs : List Val} (h : st[l]? = some (.lst vs)) : wrLst .clear l [] st = .ok .non (st.set l (.lst [])) := by
  unfold wrLst
  rw [h]
  dsimp only [obLst]
  have : mtLst st .clear [] vs = some (.non, []) := rfl
  rw [this]
  dsimp only
  rw [if_pos]
  show decide _ = true
  exact decide_eq_true (Nat.zero_le _)
end P
/-! P101: what two journals tell. -/
namespace Rc
end Rc
namespace P
open PySem (Str PyData)
open Rc
variable {C : Str → List Val → M Val} {xs : List Str}
end P
/-! P102: twins of trays. -/
namespace P
open PySem (Str PyData)
open Rc
variable {C : Str → List Val → M Val} {xs : List Str}
section
variable {h c t : Int} {a b : Nat} {x : Val}
end
abbrev PlT := Nat × Nat × Nat
/-- a tray, wherever it lies -/
def ownR (p : PlT) (T : Tr) : Own where
  is := [p.1, p.2.1, p.2.2]
  P st := TrayAt st p.1 p.2.1 p.2.2 T ∧ GoodTr T
  mv h p := ⟨⟨(h _ (by simp)).trans p.1.o, (h _ (by simp)).trans p.1.k, (h _ (by simp)).trans p.1.s, p.1.ab⟩, p.2⟩
  lt p i hi := by
    simp only [List.mem_cons, List.not_mem_nil, or_false] at hi
    rcases hi with rfl | rfl | rfl
    · exact lt_of_at p.1.o
    · exact lt_of_at p.1.k
    · exact lt_of_at p.1.s
def ownB (q : PlT) (T : Tr) : Own where
  is := [q.1, q.2.1, q.2.2]
  P st := LawT st q.1 q.2.1 q.2.2 T ∧ GoodTr T
  mv h p := ⟨⟨(h _ (by simp)).trans p.1.o, (h _ (by simp)).trans p.1.k, (h _ (by simp)).trans p.1.s, p.1.ma, p.1.mb, p.1.ab⟩, p.2⟩
  lt p i hi := by
    simp only [List.mem_cons, List.not_mem_nil, or_false] at hi
    rcases hi with rfl | rfl | rfl
    · exact lt_of_at p.1.o
    · exact lt_of_at p.1.k
    · exact lt_of_at p.1.s
/-- a tray and the law's own one as one thing -/
structure TwT where
  p : PlT
  w : PlT
  T : Tr
def ownTT (t : TwT) : Own := (ownR t.p t.T).and (ownB t.w t.T)
theorem TwT.next {o : Ob} {rest st1 st2 : Store} {t : TwT} {os : List Own} {T' : Tr} (D : DSep rest (ownTT t :: os)) (g : GoodTr T') (A1 : TrayAt st1 t.p.1 t.p.2.1 t.p.2.2 T') (O1 : Off [t.p.1, t.p.2.1, t.p.2.2] (o :: rest) st1) (A2 : LawT st2 t.w.1 t.w.2.1 t.w.2.2 T') (O2 : Off [t.w.1, t.w.2.1, t.w.2.2] st1 st2) : ∃ rest', st2 = o :: rest' ∧ rest.length = rest'.length ∧ DSep rest' (ownTT { t with T := T' } :: os) := by
  have dj := own_disj D
  have k : Gro (ownTT t).is (o :: rest) st2 := (O1.gro.wid (js := (ownTT t).is) (fun i hi => List.mem_append.mpr (.inl hi))).trans (O2.gro.wid (js := (ownTT t).is) (fun i hi => List.mem_append.mpr (.inr hi))) (fun j hj => .inl hj)
  have A3 := (ownR t.p T').mv (st := st1) (st' := st2) (fun i hi => O2.off i fun m => dj i m hi) ⟨A1, g⟩
  obtain ⟨r, e, l, D'⟩ := D.step k (fun i hi => .inl hi) (o' := ownTT { t with T := T' }) (fun i hi => .inl hi) (D.nd1 o) ⟨A3, A2, g⟩
  refine ⟨r, e, ?_, D'⟩
  have := O2.len
  rw [O1.len, e] at this
  simpa using this.symm
theorem TwT.same {o : Ob} {rest : Store} {t : TwT} {os : List Own} (D : DSep rest (ownTT t :: os)) (hx : t.T.talk ≤ 59) (h1 : Ok_law_tray_try (C "_law_tray_try")) (h2 : Ok_law_t_do (C "_law_t_do")) (h3 : Ok_law_same_end (C "_law_same_end")) (d : TDeed) : ∃ (u u' : Val) (st1 : Store) (rest' : Store), C "_law_tray_try" [.loc t.p.1, tdv d] (o :: rest) = .ok u st1 ∧ C "_law_t_do" [.loc t.w.1, tdv d] st1 = .ok u' (o :: rest') ∧ C "_law_same_end" [u, u'] (o :: rest') = .ok (.bl true) (o :: rest') ∧ (∀ x ∈ os, x.P st1) ∧ DSep rest' (ownTT { t with T := (doT t.T d).2.2 } :: os) := by
  obtain ⟨⟨P1, G⟩, W1, _⟩ := D.get o (List.mem_cons_self ..)
  obtain ⟨st1, e1, A1, O1⟩ := h1.run P1 G d
  have W2 := (ownB t.w t.T).mv (st := o :: rest) (st' := st1) (fun i hi => O1.off i (own_disj D i hi)) ⟨W1, G⟩
  obtain ⟨st2, e2, A2, O2⟩ := h2.run W2.1 G d
  obtain ⟨rest', rfl, l, D'⟩ := TwT.next D (good_doT G hx d) A1 O1 A2 O2
  have pl := plain_doT G d
  have pv : plainV 5 (doT t.T d).2.1 := by
    cases pl with
    | lst _ h => exact h _ (by simp)
  refine ⟨_, _, st1, rest', e1, e2, h3 _ _ _ _ pv ?_, own_off D O1 (fun i hi => List.mem_append.mpr (.inl hi)), D'⟩
  by_cases c : (doT t.T d).1 = ""
  · simp [c]
  · simp [c]
end P
/-! P103: two trays asked the same. -/
namespace P
open PySem (Str PyData)
open Rc
variable {C : Str → List Val → M Val} {xs : List Str}
end P
/-! P104: strips of a workshop are of their seals (k37). -/
namespace P
open PySem (Str PyData)
open Rc
variable {C : Str → List Val → M Val} {xs : List Str}
theorem all2_set37 {α β : Type} {R : α → β → Prop} {b' : β} : ∀ {as : List α} {bs : List β}, All2 R as bs → ∀ {k : Nat}, (∀ a b, as[k]? = some a → bs[k]? = some b → R a b → R a b') → All2 R as (bs.set k b')
  | _, _, .nil, _, _ => .nil
  | _, _, .cons h1 h2, 0, hk => .cons (hk _ _ rfl rfl h1) h2
  | _, _, .cons h1 h2, k + 1, hk => .cons h1 (all2_set37 h2 (k := k) hk)
theorem all2_take37 {α β : Type} {R : α → β → Prop} : ∀ {as : List α} {bs : List β}, All2 R as bs → ∀ {k : Nat}, All2 R (as.take k) (bs.take k)
  | _, _, .nil, _ => by simpa using All2.nil
  | _, _, .cons h1 h2, 0 => .nil
  | _, _, .cons h1 h2, k + 1 => .cons h1 (all2_take37 h2)
theorem all2_drop37 {α β : Type} {R : α → β → Prop} : ∀ {as : List α} {bs : List β}, All2 R as bs → ∀ {k : Nat}, All2 R (as.drop k) (bs.drop k)
  | _, _, .nil, _ => by simpa using All2.nil
  | _, _, .cons h1 h2, 0 => .cons h1 h2
  | _, _, .cons h1 h2, k + 1 => all2_drop37 h2
theorem all2_refl37 {α : Type} {R : α → α → Prop} (h : ∀ a, R a a) : ∀ l : List α, All2 R l l
  | [] => .nil
  | a :: l => .cons (h a) (all2_refl37 h l)
theorem worn_refl37 (s : Strip) : Worn s s := all2_refl37 (fun c => all2_refl37 (fun i => .inr rfl) c) s
theorem prt_app37 {s : Strip} {a k j : Nat} : prt s a (k + j) = prt s a k ++ prt s (a + k) j := by
  unfold prt
  rw [List.range_add, List.map_append, List.map_map]
  congr 1
  refine List.map_congr_left fun x _ => ?_
  show s.getD ((a + (k + x)) % s.length) [] = _
  rw [Nat.add_assoc]
theorem turn_app37 {s t : Strip} : turn (s ++ t) = turn t ++ turn s := by
  unfold turn
  rw [List.reverse_append, List.map_append]
/-- a strip is of the seal s -/
structure TruT (s : Strip) (t : Thing) : Prop where
  sz : t.roll.size = (s.length : Nat)
  a0 : 0 ≤ t.roll.start
  a1 : t.roll.start < (s.length : Nat)
  f0 : 0 ≤ t.first
  wn : Worn (if t.way = 1 then turn (prt s (t.roll.start + t.first).toNat t.rows.length) else prt s (t.roll.start + t.first).toNat t.rows.length) t.rows
theorem TruT.turn {s : Strip} {t : Thing} (h : TruT s t) (hw : t.way = 0 ∨ t.way = 1) : TruT s { t with rows := P.turn t.rows, way := 1 - t.way } := by
  refine ⟨h.sz, h.a0, h.a1, h.f0, ?_⟩
  have w := h.wn.turn
  dsimp only
  rw [turn_len']
  rcases hw with e | e
  · rw [e, if_neg (by decide)] at w
    rw [e, if_pos (by decide)]
    exact w
  · rw [e, if_pos rfl, turn_turn] at w
    rw [e, if_neg (by decide)]
    exact w
theorem TruT.wear {s : Strip} {t : Thing} (h : TruT s t) (c r : Nat) : TruT s { t with rows := setCell t.rows c r (-1) } := by
  refine ⟨h.sz, h.a0, h.a1, h.f0, ?_⟩
  have w := h.wn
  dsimp only
  have hl : (setCell t.rows c r (-1)).length = t.rows.length := by unfold setCell; simp
  rw [hl]
  unfold setCell
  refine all2_set37 w fun a b ha hb hab => ?_
  have : nth t.rows c = b := by unfold nth; rw [List.getD_eq_getElem?_getD, hb]; rfl
  rw [this]
  exact all2_set37 hab fun _ _ _ _ _ => .inl rfl
theorem TruT.left {s : Strip} {t : Thing} (h : TruT s t) (hw : t.way = 0 ∨ t.way = 1) {k : Int} (k1 : 1 ≤ k) (k2 : k < t.rows.length) : TruT s { t with rows := t.rows.take k.toNat, first := if t.way = 0 then t.first else t.first + (t.rows.length - k) } := by
  obtain ⟨n, rfl⟩ := Int.eq_ofNat_of_zero_le (show 0 ≤ k by omega)
  rw [show ((n : Nat) : Int).toNat = n by omega]
  obtain ⟨j, hj⟩ : ∃ j, t.rows.length = n + j := ⟨t.rows.length - n, by omega⟩
  have a0 := h.a0
  have f0 := h.f0
  have w := all2_take37 h.wn (k := n)
  refine ⟨h.sz, h.a0, h.a1, ?_, ?_⟩
  · dsimp only
    split <;> omega
  · dsimp only
    rw [List.length_take, Nat.min_eq_left (by omega)]
    rw [hj] at w
    rcases hw with e | e
    · rw [e, if_neg (by decide), prt_app37, List.take_left' (prt_len _ _ _)] at w
      rw [e, if_neg (by decide), if_pos rfl]
      exact w
    · rw [e, if_pos rfl, Nat.add_comm n j, prt_app37, turn_app37, List.take_left' (by rw [turn_len', prt_len])] at w
      rw [e, if_pos rfl, if_neg (by decide)]
      rw [show (t.roll.start + (t.first + ((t.rows.length : Nat) - (n : Nat)))).toNat = (t.roll.start + t.first).toNat + j by omega]
      exact w
theorem TruT.right {s : Strip} {t : Thing} (h : TruT s t) (hw : t.way = 0 ∨ t.way = 1) {k : Int} (k1 : 1 ≤ k) (k2 : k < t.rows.length) : TruT s { t with rows := t.rows.drop k.toNat, first := if t.way = 0 then t.first + k else t.first } := by
  obtain ⟨n, rfl⟩ := Int.eq_ofNat_of_zero_le (show 0 ≤ k by omega)
  rw [show ((n : Nat) : Int).toNat = n by omega]
  obtain ⟨j, hj⟩ : ∃ j, t.rows.length = n + j := ⟨t.rows.length - n, by omega⟩
  have a0 := h.a0
  have f0 := h.f0
  have w := all2_drop37 h.wn (k := n)
  refine ⟨h.sz, h.a0, h.a1, ?_, ?_⟩
  · dsimp only
    split <;> omega
  · dsimp only
    rw [List.length_drop, show t.rows.length - n = j by omega]
    rw [hj] at w
    rcases hw with e | e
    · rw [e, if_neg (by decide), prt_app37, List.drop_left' (prt_len _ _ _)] at w
      rw [e, if_neg (by decide), if_pos rfl]
      rw [show (t.roll.start + (t.first + (n : Nat))).toNat = (t.roll.start + t.first).toNat + n by omega]
      exact w
    · rw [e, if_pos rfl, Nat.add_comm n j, prt_app37, turn_app37, List.drop_left' (by rw [turn_len', prt_len])] at w
      rw [e, if_pos rfl, if_neg (by decide)]
      exact w
theorem TruT.join {s : Strip} {t u : Thing} (h : TruT s t) (h' : TruT s u) (hr : u.roll = t.roll) (hy : t.way = u.way) (hw : t.way = 0 ∨ t.way = 1) (k0 : t.way = 0 → t.first + t.rows.length = u.first) (k1 : t.way = 1 → u.first + u.rows.length = t.first) : TruT s { t with rows := t.rows ++ u.rows, first := if t.way = 0 then t.first else u.first } := by
  have a0 := h.a0
  have f0 := h.f0
  have g0 := h'.f0
  have w := h.wn
  have w' := h'.wn
  rw [hr, ← hy] at w'
  refine ⟨h.sz, h.a0, h.a1, ?_, ?_⟩
  · dsimp only
    split <;> omega
  · dsimp only
    rw [List.length_append]
    rcases hw with e | e
    · have k := k0 e
      rw [e, if_neg (by decide)] at w w'
      rw [e, if_neg (by decide), if_pos rfl, prt_app37]
      rw [show (t.roll.start + u.first).toNat = (t.roll.start + t.first).toNat + t.rows.length by omega] at w'
      exact all2_app w w'
    · have k := k1 e
      rw [e, if_pos rfl] at w w'
      rw [e, if_pos rfl, if_neg (by decide), Nat.add_comm, prt_app37, turn_app37]
      rw [show (t.roll.start + t.first).toNat = (t.roll.start + u.first).toNat + u.rows.length by omega] at w
      exact all2_app w w'
def sinceOf (σ : List (Int × Int)) (n : Int) : Int := (lk σ n).getD 0
def Tru (S : Sh) (σ : List (Int × Int)) : Prop := ∀ p ∈ S.things, sinceOf σ p.2.roll.sn ≤ (p.2.turn : Int) → ∃ (i : Nat) (s : Strip), p.2.roll.sn = i ∧ S.seals[i]? = some s ∧ TruT s p.2
end P
/-! P105: deeds keep strips of their seals (k37). -/
namespace P
open PySem (Str PyData)
open Rc
variable {C : Str → List Val → M Val} {xs : List Str}
/-- what the law notes of a chipping -/
def sinceD (S : Sh) (σ : List (Int × Int)) : Deed → List (Int × Int)
  | .chip n c r => if (dChip S n c r).1 = "" then pt σ n S.rolls.length else σ
  | _ => σ
theorem since_ne {σ : List (Int × Int)} {n m v : Int} (h : m ≠ n) : sinceOf (pt σ n v) m = sinceOf σ m := by
  unfold sinceOf
  rw [lk_pt_ne h]
theorem lk_pt_eq37 {α : Type} {n : Int} {x : α} : ∀ {t : List (Int × α)}, lk (pt t n x) n = some x := by
  intro t
  have hm : n ∈ (pt t n x).map (·.1) := by
    unfold pt
    split
    · rename_i h
      rw [lk_any] at h
      obtain ⟨a, ha⟩ := Option.isSome_iff_exists.mp h
      refine List.mem_map.mpr ⟨(n, x), List.mem_map.mpr ⟨(n, a), lk_mem ha, by simp⟩, rfl⟩
    · simp
  obtain ⟨a, ha⟩ := lk_some hm
  rcases pt_mem (lk_mem ha) with e | ⟨_, e⟩ | ⟨h1, h2⟩
  · rw [ha, (Prod.mk.inj e).2]
  · exact absurd rfl e
  · exact absurd (List.mem_map.mpr ⟨_, h1, rfl⟩) h2
theorem since_eq {σ : List (Int × Int)} {n v : Int} : sinceOf (pt σ n v) n = v := by
  unfold sinceOf
  rw [lk_pt_eq37]
  rfl
/-- a strip that has come of another of the same rolling -/
theorem Tru.put {S : Sh} {σ : List (Int × Int)} {n : Int} {t t' : Thing} (h : Tru S σ) (ht : lk S.things n = some t) (hr : t'.roll = t.roll) (hu : t'.turn = t.turn) (f : ∀ s, TruT s t → TruT s t') : sinceOf σ t'.roll.sn ≤ (t'.turn : Int) → ∃ (i : Nat) (s : Strip), t'.roll.sn = i ∧ S.seals[i]? = some s ∧ TruT s t' := by
  intro hs
  rw [hr, hu] at hs
  obtain ⟨i, s, e1, e2, e3⟩ := h _ (lk_mem ht) hs
  exact ⟨i, s, by rw [hr]; exact e1, e2, f s e3⟩
theorem tru_do {S : Sh} {σ : List (Int × Int)} (G : GoodS S) (h : Tru S σ) (d : Deed) : Tru (doD S d).2.2 (sinceD S σ d) := by
  have way : ∀ {n : Int} {t : Thing}, lk S.things n = some t → t.way = 0 ∨ t.way = 1 := fun ht => (G.tg _ (lk_mem ht)).2.2.2.2.1
  cases d with
  | cut s =>
    simp only [doD, sinceD]
    unfold dCut
    split
    · split
      · intro p hp hs
        obtain ⟨i, s', e1, e2, e3⟩ := h p hp hs
        refine ⟨i, s', e1, ?_, e3⟩
        dsimp only
        rw [List.getElem?_append_left (List.getElem?_eq_some_iff.mp e2).1]
        exact e2
      · exact h
    · exact h
  | chip n c r =>
    simp only [doD, sinceD]
    by_cases k : (dChip S n c r).1 = ""
    · rw [if_pos k]
      unfold dChip at k ⊢
      split
      · rename_i k1
        rw [if_pos k1] at k
        split
        · rename_i k2
          rw [if_pos k2] at k
          split
          · rename_i k3
            rw [if_pos k3] at k
            exact absurd k (nw rfl)
          · intro p hp hs
            by_cases e : p.2.roll.sn = n
            · rw [e, since_eq] at hs
              have hr := (G.tg p hp).2.2.2.2.2.1
              have := (List.getElem?_eq_some_iff.mp hr).1
              omega
            · rw [since_ne e] at hs
              obtain ⟨i, s', e1, e2, e3⟩ := h p hp hs
              refine ⟨i, s', e1, ?_, e3⟩
              dsimp only
              rw [List.getElem?_set_ne (by omega)]
              exact e2
        · rename_i k2
          rw [if_neg k2] at k
          exact absurd k (nw rfl)
      · rename_i k1
        rw [if_neg k1] at k
        exact absurd k (nw rfl)
    · rw [if_neg k]
      unfold dChip at k ⊢
      split
      · rename_i k1
        rw [if_pos k1] at k
        split
        · rename_i k2
          rw [if_pos k2] at k
          split
          · exact h
          · rename_i k3
            rw [if_neg k3] at k
            exact absurd rfl k
        · exact h
      · exact h
  | roll n a w =>
    simp only [doD, sinceD]
    unfold dRoll
    split
    · rename_i k1
      split
      · rename_i k2
        split
        · rename_i k3
          split
          · intro p hp hs
            rcases List.mem_append.mp hp with hp | hp
            · exact h p hp hs
            · rw [List.mem_singleton.mp hp]
              have hlt : n.toNat < S.seals.length := by omega
              have hn : nth S.seals n.toNat = S.seals[n.toNat]'hlt := by
                unfold nth
                rw [List.getD_eq_getElem?_getD, List.getElem?_eq_getElem hlt]
                rfl
              refine ⟨n.toNat, nth S.seals n.toNat, by dsimp only; omega, by rw [hn]; exact List.getElem?_eq_getElem hlt, ⟨rfl, k2.1, k2.2, by simp, ?_⟩⟩
              dsimp only
              rw [if_neg (by decide), prt_len, show (a + 0).toNat = a.toNat by omega]
              exact worn_refl37 _
          · exact h
        · exact h
      · exact h
    · exact h
  | turn n =>
    simp only [doD, sinceD]
    unfold dTurn
    cases ht : lk S.things n with
    | none => exact h
    | some t =>
      intro p hp
      rcases pt_mem hp with rfl | ⟨hp, _⟩ | ⟨hp, _⟩
      · exact h.put ht rfl rfl fun s k => k.turn (way ht)
      · exact h p hp
      · exact h p hp
  | wear n c r =>
    simp only [doD, sinceD]
    unfold dWear
    cases ht : lk S.things n with
    | none => exact h
    | some t =>
      dsimp only
      split
      · split
        · exact h
        · intro p hp
          rcases pt_mem hp with rfl | ⟨hp, _⟩ | ⟨hp, _⟩
          · exact h.put ht rfl rfl fun s k => k.wear _ _
          · exact h p hp
          · exact h p hp
      · exact h
  | snap n c =>
    simp only [doD, sinceD]
    unfold dSnap
    cases ht : lk S.things n with
    | none => exact h
    | some t =>
      dsimp only
      split
      · rename_i k1
        split
        · intro p hp
          rcases List.mem_append.mp hp with hp | hp
          · rcases pt_mem hp with rfl | ⟨hp, _⟩ | ⟨hp, _⟩
            · exact h.put ht rfl rfl fun s k => k.left (way ht) k1.1 k1.2
            · exact h p hp
            · exact h p hp
          · rw [List.mem_singleton.mp hp]
            exact h.put ht rfl rfl fun s k => k.right (way ht) k1.1 k1.2
        · exact h
      · exact h
  | join n m =>
    simp only [doD, sinceD]
    unfold dJoin
    cases ht : lk S.things n with
    | none => exact h
    | some t =>
      cases hu : lk S.things m with
      | none => exact h
      | some u =>
        dsimp only
        split
        · exact h
        · split
          · rename_i k1
            have r1 := (G.tg _ (lk_mem ht)).2.2.2.2.2.1
            have r2 := (G.tg _ (lk_mem hu)).2.2.2.2.2.1
            dsimp only at r1 r2
            rw [k1.1] at r1
            have hr : u.roll = t.roll := by
              rw [r1] at r2
              exact (Option.some.inj r2).symm
            intro p hp
            rcases pt_mem (dp_mem hp).1 with rfl | ⟨hp, _⟩ | ⟨hp, _⟩
            · intro hs
              dsimp only at hs
              obtain ⟨i, s, e1, e2, e3⟩ := h _ (lk_mem ht) hs
              obtain ⟨i', s', f1, f2, f3⟩ := h _ (lk_mem hu) (by dsimp only; rw [hr, ← k1.1]; exact hs)
              dsimp only at e1 f1
              rw [hr] at f1
              have : i' = i := by omega
              subst this
              rw [e2] at f2
              rw [← Option.some.inj f2] at f3
              exact ⟨i', s, e1, e2, e3.join f3 hr k1.2.1 (way ht) k1.2.2.1 k1.2.2.2⟩
            · exact h p hp
            · exact h p hp
          · exact h
  | lose n =>
    simp only [doD, sinceD]
    unfold dLose
    cases ht : lk S.things n with
    | none => exact h
    | some t => exact fun p hp => h p (dp_mem hp).1
end P
/-! P106: what k37 needs besides. -/
namespace P
open PySem (Str PyData)
open Rc
variable {C : Str → List Val → M Val} {xs : List Str}
end P
/-! P107: what k58 asks: the count, the sure signs. -/
namespace P
open PySem (Str PyData)
open Rc
variable {C : Str → List Val → M Val} {xs : List Str}
end P
/-! P108: a turn of k58. -/
namespace P
open PySem (Str PyData)
open Rc
variable {C : Str → List Val → M Val} {xs : List Str}
end P
/-! P109: two trays asked six questions (k58). -/
namespace P
open PySem (Str PyData)
open Rc
variable {C : Str → List Val → M Val} {xs : List Str}
section
variable {st : Store} {l a b m c d : Nat} {T : Tr} {n : Int} {ns : List Int} {v : Val}
end
end P
/-! P110: the fault of a row that lies at a place (k58). -/
namespace P
open PySem (Str PyData)
open Rc
variable {C : Str → List Val → M Val} {xs : List Str}
end P
/-! P111: told lists are changed, all of them new (k58). -/
namespace P
open PySem (Str PyData)
open Rc
variable {C : Str → List Val → M Val} {xs : List Str}
/-- the store at the start, places that stay, places that are changed -/
structure Fr58 (A : Store) (F : List (Nat × List Val)) (LL : List Nat) (i : Nat) (st : Store) : Prop where
  ex : ∃ ext, st = A ++ ext
  f : ∀ q ∈ F, st[q.1]? = some (.lst q.2)
  l : ∀ l ∈ LL, A.length ≤ l ∧ ∃ vs, st[l]? = some (.lst vs) ∧ vs.length ≤ 30000 + i
  d : ∀ l ∈ LL, ∀ q ∈ F, l ≠ q.1
section
variable {A : Store} {F : List (Nat × List Val)} {LL : List Nat} {i l : Nat} {st : Store} {vs : List Val}
theorem Fr58.set (h : Fr58 A F LL i st) (hl : l ∈ LL) (hv : vs.length ≤ 30000 + (i + 1)) : Fr58 A F LL (i + 1) (st.set l (.lst vs)) := by
  obtain ⟨ext, rfl⟩ := h.ex
  obtain ⟨h1, us, h2, _⟩ := h.l l hl
  have hlt := lt_of_at h2
  refine ⟨⟨ext.set (l - A.length) (.lst vs), ?_⟩, fun q hq => ?_, fun k hk => ?_, h.d⟩
  · rw [List.set_append_right _ _ h1]
  · rw [List.getElem?_set_ne (h.d l hl q hq)]
    exact h.f q hq
  · obtain ⟨k1, ws, k2, k3⟩ := h.l k hk
    refine ⟨k1, ?_⟩
    by_cases e : l = k
    · subst e
      exact ⟨vs, List.getElem?_set_self hlt, hv⟩
    · exact ⟨ws, by rw [List.getElem?_set_ne e]; exact k2, by omega⟩
theorem Fr58.append (h : Fr58 A F LL i st) (hl : l ∈ LL) (hi : i ≤ 1000) (y : Val) : ∃ st', wrLst .append l [y] st = .ok .non st' ∧ Fr58 A F LL (i + 1) st' := by
  obtain ⟨h1, us, h2, h3⟩ := h.l l hl
  exact ⟨_, wr_append (y := y) h2 (by simp [PySem.sizeLine]; omega), h.set hl (by rw [List.length_append, List.length_singleton]; omega)⟩
theorem Fr58.clear (h : Fr58 A F LL i st) (hl : l ∈ LL) : ∃ st', wrLst .clear l [] st = .ok .non st' ∧ Fr58 A F LL (i + 1) st' := by
  obtain ⟨h1, us, h2, h3⟩ := h.l l hl
  exact ⟨_, wr_clear2 h2, h.set hl (by simp)⟩
end
end P
/-! P112: seals of two trays (k58). -/
namespace P
open PySem (Str PyData)
open Rc
variable {C : Str → List Val → M Val} {xs : List Str}
end P
/-! P113: the law's own looker of bars. -/
namespace P
open PySem (Str PyData)
open Rc
variable {C : Str → List Val → M Val} {xs : List Str}
/-! ### lists of numbers -/
/-! ### the law's partings are the partings -/
/-! ### bars judged by the law -/
end P
/-! P114: what fewest_seals tells, judged by the law. -/
namespace P
open PySem (Str PyData)
open Rc
variable {C : Str → List Val → M Val} {xs : List Str}
/-! ### what is told -/
end P
/-! P115: bars that the law makes and bends. -/
namespace P
open PySem (Str PyData)
open Rc
variable {C : Str → List Val → M Val} {xs : List Str}
/-! ### bent bars -/
end P
/-! P116: what asking refuses (k12). -/
namespace P
open PySem (Str PyData)
open Rc
variable {C : Str → List Val → M Val} {xs : List Str}
/-! ### the refusal of all that is asked -/
/-! ### ties -/
end P
/-! P117: what the law of k12 asks. -/
namespace P
open PySem (Str PyData)
open Rc
variable {C : Str → List Val → M Val} {xs : List Str}
/-! ### bent lists -/
end P
/-! P118: ties bent, doors. -/
namespace P
open PySem (Str PyData)
open Rc
variable {C : Str → List Val → M Val} {xs : List Str}
/-! ### ties -/
/-! ### doors -/
end P
/-! P119: all that may be asked comes to an end (k54). -/
namespace P
open PySem (Str PyData)
open Rc
variable {C : Str → List Val → M Val} {xs : List Str}
/-! ### comprehensions whose turns change the store -/
/-! ### ends -/
section
variable {F : Fn} {st : Store} {h n : Int} {ss : List Strip} (hs : StripsOk h ss) (n0 : 0 < n) (n6 : n ≤ 6)
include hs n0 n6
end
/-! ### all functions called -/
/-! ### all questions of a tray -/
end P
/-! P120: the parting by the seals used (k56). -/
namespace P
open PySem (Str PyData)
open Rc
variable {C : Str → List Val → M Val} {xs : List Str}
/-! ### strips of one seal lie -/
end P
/-! P121: strips rolled, turned, worn, broken (k56). -/
namespace P
open PySem (Str PyData)
open Rc
variable {C : Str → List Val → M Val} {xs : List Str}
theorem head_off56 {o : Ob} {rest s' : Store} {l a b : Nat} (h : Off [l, a, b] (o :: rest) s') (h1 : 0 < l) (h2 : 0 < a) (h3 : 0 < b) : ∃ rest', s' = o :: rest' := by
  have h0 := h.off 0 (by simp; omega)
  cases s' with
  | nil => simp at h0
  | cons x t =>
    simp at h0
    exact ⟨t, by rw [h0]⟩
/-- the workshop at 1 2 3, a list of numbers at L -/
structure SW (seals : List Strip) (h : Int) (L : Nat) (ns : List Int) (S : Sh) (o : Ob) (rest : Store) : Prop where
  d : DrawOb o
  at_ : ∀ o, ShopAt (o :: rest) 1 2 3 S
  g : GoodS S
  t : Tru S []
  se : S.seals = seals
  hi : S.high = h
  l : ∀ o, (o :: rest)[L]? = some (.lst (ns.map .int))
  l3 : 3 < L
  ks : ∀ n ∈ ns, n ∈ S.things.map (·.1)
section
variable {seals : List Strip} {h : Int} {L : Nat} {ns : List Int} {S : Sh} {o : Ob} {rest : Store}
theorem shop_any {o : Ob} {rest : Store} {S : Sh} (a : ShopAt (o :: rest) 1 2 3 S) (o' : Ob) : ShopAt (o' :: rest) 1 2 3 S := ⟨a.o, a.r, a.s⟩
theorem SW.draw (w : SW seals h L ns S o rest) {o' : Ob} (ho : DrawOb o') : SW seals h L ns S o' rest := { w with d := ho }
def plainD : Deed → Prop
  | .roll _ _ _ => True
  | .turn _ => True
  | .wear _ _ _ => True
  | .snap _ _ => True
  | _ => False
theorem plain_since {d : Deed} (p : plainD d) : sinceD S [] d = [] := by cases d <;> first | rfl | exact p.elim
theorem plain_seals {d : Deed} (p : plainD d) : (doD S d).2.2.seals = S.seals := by
  cases d with
  | roll n a w => simp only [doD]; unfold dRoll; repeat' split
                  all_goals rfl
  | turn n => simp only [doD]; unfold dTurn; split <;> rfl
  | wear n a w => simp only [doD]; unfold dWear; repeat' split
                  all_goals rfl
  | snap n a => simp only [doD]; unfold dSnap; repeat' split
                all_goals rfl
  | _ => exact p.elim
theorem pt_sub {α : Type} {t : List (Int × α)} {n k : Int} {a : α} (h : k ∈ t.map (·.1)) : k ∈ (pt t n a).map (·.1) := by
  rw [pt_keys]
  split
  · exact h
  · exact List.mem_append_left _ h
theorem plain_keys {d : Deed} (p : plainD d) {k : Int} (hk : k ∈ S.things.map (·.1)) : k ∈ (doD S d).2.2.things.map (·.1) := by
  cases d with
  | roll n a w =>
    simp only [doD]; unfold dRoll; repeat' split
    all_goals first | exact hk | (show k ∈ (S.things ++ _).map (·.1); rw [List.map_append]; exact List.mem_append_left _ hk)
  | turn n =>
    simp only [doD]; unfold dTurn; split
    · exact pt_sub hk
    · exact hk
  | wear n a w =>
    simp only [doD]; unfold dWear; repeat' split
    all_goals first | exact hk | exact pt_sub hk
  | snap n a =>
    simp only [doD]; unfold dSnap; repeat' split
    all_goals first | exact hk | (show k ∈ (pt S.things n _ ++ _).map (·.1); rw [List.map_append]; exact List.mem_append_left _ (pt_sub hk))
  | _ => exact p.elim
theorem SW.next (w : SW seals h L ns S o rest) {d : Deed} (p : plainD d) {st' : Store} (a : ShopAt st' 1 2 3 (doD S d).2.2) (f : Off [1, 2, 3] (o :: rest) st') : ∃ rest', st' = o :: rest' ∧ SW seals h L ns (doD S d).2.2 o rest' := by
  obtain ⟨rest', rfl⟩ := head_off56 f (by omega) (by omega) (by omega)
  have tr := tru_do w.g w.t d
  rw [plain_since p] at tr
  refine ⟨rest', rfl, ⟨w.d, fun o' => shop_any a o', good_do w.g d, tr, by rw [plain_seals p]; exact w.se, by rw [high_do]; exact w.hi, fun o' => ?_, w.l3, fun n hn => plain_keys p (w.ks n hn)⟩⟩
  have hf := f.off L (by have := w.l3; simp; omega)
  have hl := w.l o
  rw [← hf] at hl
  have h3 := w.l3
  obtain ⟨m, rfl⟩ : ∃ m, L = m + 1 := ⟨L - 1, by omega⟩
  exact hl
/-- a deed of the workshop that ends well -/
theorem SW.deed (w : SW seals h L ns S o rest) {d : Deed} (p : plainD d) {F : Fn} {args : List Val} (r : ResP F args (o :: rest) 1 2 3 (doD S d)) (hw : (doD S d).1 = ("" : Str)) : ∃ rest', F args (o :: rest) = .ok (doD S d).2.1 (o :: rest') ∧ SW seals h L ns (doD S d).2.2 o rest' := by
  have key : ∃ st', F args (o :: rest) = .ok (doD S d).2.1 st' ∧ ShopAt st' 1 2 3 (doD S d).2.2 ∧ Off [1, 2, 3] (o :: rest) st' := by
    generalize doD S d = O at *
    cases r with
    | ok a b c => exact ⟨_, a, b, c⟩
    | exc a b => exact absurd hw a
  obtain ⟨st', e, a, f⟩ := key
  obtain ⟨rest', rfl, w'⟩ := w.next p a f
  exact ⟨rest', e, w'⟩
theorem SW.app (w : SW seals h L ns S o rest) (n : Int) (hn : n ∈ S.things.map (·.1)) (hz : ns.length ≤ 100) : ∃ rest', wrLst .append L [.int n] (o :: rest) = .ok .non (o :: rest') ∧ SW seals h L (ns ++ [n]) S o rest' := by
  have hl := w.l o
  have h3 := w.l3
  have e := wr_append (y := .int n) hl (by simp [PySem.sizeLine]; omega)
  obtain ⟨m, rfl⟩ : ∃ m, L = m + 1 := ⟨L - 1, by omega⟩
  refine ⟨rest.set m (.lst (ns.map .int ++ [.int n])), by rw [e, List.set_cons_succ], ⟨w.d, fun o' => ?_, w.g, w.t, w.se, w.hi, fun o' => ?_, h3, fun k hk => ?_⟩⟩
  · have a := w.at_ o'
    have ne : ∀ i, i < 4 → (o' :: rest.set m (.lst (ns.map .int ++ [.int n])))[i]? = (o' :: rest)[i]? := fun i hi => by
      show ((o' :: rest).set (m + 1) _)[i]? = _
      rw [List.getElem?_set_ne (by omega)]
    exact ⟨by rw [ne 1 (by omega)]; exact a.o, by rw [ne 2 (by omega)]; exact a.r, by rw [ne 3 (by omega)]; exact a.s⟩
  · show ((o' :: rest).set (m + 1) _)[m + 1]? = _
    rw [List.getElem?_set_self (lt_of_at (w.l o'))]
    rw [List.map_append]
    rfl
  · rcases List.mem_append.mp hk with hk | hk
    · exact w.ks k hk
    · rw [List.mem_singleton.mp hk]; exact hn
end
/-! ### the strips of a law -/
end P
/-! P122: the fewest seals of a tray, cut off; true sayings (k56). -/
namespace P
open PySem (Str PyData)
open Rc
variable {C : Str → List Val → M Val} {xs : List Str}
/-! ### comprehensions over a list at a place, whose turns change the store -/
/-! ### the fewest seals, cut off -/
/-! ### true sayings -/
end P
/-! P123: k56's shop and tray, plain. -/
namespace P
open PySem (Str PyData)
open Rc
variable {C : Str → List Val → M Val} {xs : List Str}
end P
/-! P124: strips read back (the good ones). -/
namespace Rc
/-- all of them, or none -/
def oMap {α β : Type} (f : α → Option β) : List α → Option (List β)
  | [] => some []
  | x :: xs => match f x with
    | none => none
    | some y => (oMap f xs).map (y :: ·)
theorem lcx_mapM {C : PySem.Str → List Val → M Val} {env : Env} {st st1 : Store} {α : Type} {own : List Nat} {it : It} {tg : Tg} {e : E} {ws : List α} {c : PySem.Str} {r : Option Int} (inj : α → Val) (f : α → Option Val) (hi : evI C it env st = .ok ⟨ws.map inj, none⟩ st1)
    (he : ∀ x ∈ ws, ∃ env', assignTg tg (inj x) (wipe env own) = some env' ∧ evE C e env' st1 = (match f x with | some y => R.ok y st1 | none => R.exc c r st1)) :
    lcxSem own (evI C it) tg (evE C e) env st = (match oMap f ws with | some ys => R.ok (.lst ys) st1 | none => R.exc c r st1) := by
  rw [lcxSem_eq]
  unfold lcxRaw
  rw [bnd_ok hi]
  have : ∀ (zs : List α) (acc : List Val), (∀ x ∈ zs, ∃ env', assignTg tg (inj x) (wipe env own) = some env' ∧ evE C e env' st1 = (match f x with | some y => R.ok y st1 | none => R.exc c r st1)) →
      lcxLoop (lcxTurn tg own (evE C e) env) (Still ⟨ws.map inj, none⟩) (zs.map inj) acc st1 = (match oMap f zs with | some ys => R.ok (acc ++ ys) st1 | none => R.exc c r st1) := by
    intro zs
    induction zs with
    | nil =>
      intro acc _
      unfold oMap
      simp [lcxLoop, ret]
    | cons x zs ih =>
      intro acc h
      obtain ⟨env', e1, e2⟩ := h x (List.mem_cons_self ..)
      rw [List.map_cons]
      unfold lcxLoop
      rw [if_pos (by simp)]
      have ht : lcxTurn tg own (evE C e) env (inj x) st1 = (match f x with | some y => R.ok y st1 | none => R.exc c r st1) := by
        unfold lcxTurn
        rw [e1]
        exact e2
      rw [ht]
      unfold oMap
      cases hf : f x with
      | none => rfl
      | some y =>
        dsimp only
        rw [ih (acc ++ [y]) fun z hz => h z (List.mem_cons_of_mem _ hz)]
        cases oMap f zs with
        | none => rfl
        | some ys => simp
  have key := this ws [] he
  cases ho : oMap f ws with
  | none =>
    rw [ho] at key
    unfold bnd
    rw [key]
  | some ys =>
    rw [ho] at key
    rw [bnd_ok key]
    simp
theorem oMap_some {α β : Type} {f : α → Option β} {g : α → β} : ∀ {l : List α}, (∀ x ∈ l, f x = some (g x)) → oMap f l = some (l.map g)
  | [], _ => rfl
  | x :: l, h => by
    unfold oMap
    rw [h x (List.mem_cons_self ..)]
    dsimp only
    rw [oMap_some fun y hy => h y (List.mem_cons_of_mem _ hy)]
    rfl
end Rc
namespace P
open PySem (Str PyData)
open Rc
variable {C : Str → List Val → M Val} {xs : List Str}
def sgC (i : Int) : Nat := ("?0123456789" : Str).cps.toList.getD (i + 1).toNat 0
theorem tl_empty : TL.tl ("" : Str) = [] := rfl
theorem joinL_nil : ∀ l : List (List Nat), TL.joinL [] l = l.flatten
  | [] => rfl
  | [p] => by simp [TL.joinL]
  | p :: q :: r => by
    show p ++ ([] ++ TL.joinL [] (q :: r)) = _
    rw [List.nil_append, joinL_nil (q :: r)]
    rfl
theorem colText_cps (c : Col) : (colText c).cps.toList = c.map sgC := by
  unfold colText
  rw [TL.join_eq]
  show TL.tl _ = _
  rw [TL.tl_join, tl_empty, joinL_nil]
  induction c with
  | nil => rfl
  | cons i c ih =>
    rw [List.map_cons, List.map_cons, List.flatten_cons, ih]
    rfl
theorem sgC_sp {i : Int} (h0 : -1 ≤ i) (h1 : i ≤ 9) : sgC i ≠ 32 := by
  rcases cell_cases h0 h1 with rfl | rfl | rfl | rfl | rfl | rfl | rfl | rfl | rfl | rfl | rfl <;> decide +kernel
theorem strip_split {s : Strip} (h : goodStrip s = true) : PySem.Txt.split (stripText s) " " = s.map colText := by
  obtain ⟨g1, g2, g3, g4, g5⟩ := good_cols h
  unfold stripText
  refine TL.split_join (s := 32) (S := []) rfl (by decide +kernel) (fun e => ?_) fun p hp => ?_
  · have := List.map_eq_nil_iff.mp e
    rw [this] at g1
    simp at g1
  · obtain ⟨c, hc, rfl⟩ := List.mem_map.mp hp
    show 32 ∉ (colText c).cps.toList
    rw [colText_cps]
    intro hm
    obtain ⟨i, hi, e⟩ := List.mem_map.mp hm
    obtain ⟨a, b⟩ := (g5 c hc).2 i hi
    exact sgC_sp a b e
end P
/-! P125: numbers and deeds read back. -/
namespace P
open PySem (Str PyData)
open Rc
variable {C : Str → List Val → M Val} {xs : List Str}
theorem figs_in {st : Store} {k : Nat} (h0 : 48 ≤ k) (h1 : k ≤ 57) : opIn st (.str ⟨#[k]⟩) (.str "0123456789") = some true := by
  show some (!(PySem.Builtin.Str.occurrences ("0123456789" : Str) ⟨#[k]⟩ 0 ("0123456789" : Str).length 1).isEmpty) = _
  rw [PySem.StrLaws.found_one, decide_eq_true]
  have : k = 48 ∨ k = 49 ∨ k = 50 ∨ k = 51 ∨ k = 52 ∨ k = 53 ∨ k = 54 ∨ k = 55 ∨ k = 56 ∨ k = 57 := by omega
  rcases this with rfl | rfl | rfl | rfl | rfl | rfl | rfl | rfl | rfl | rfl <;> decide +kernel
theorem chars_any {z : Str} {env : Env} {st : Store} {j : Nat} (h : env[j]? = some (some (.str z))) (hl : z.length ≤ 16777216) : evI C (.chars (.var j)) env st = .ok ⟨z.cps.toList.map fun k => .str ⟨#[k]⟩, none⟩ st := by
  have hz : szOk z.length = true := decide_eq_true hl
  simp only [v_chars, v_var]
  unfold getVar
  rw [h]
  show (if szOk z.length = true then ret (⟨z.cps.toList.map fun k => .str ⟨#[k]⟩, none⟩ : Items) else stuck) st = _
  rw [if_pos hz]
  rfl
end P
/-! P126: deeds read back. -/
namespace P
open PySem (Str PyData)
open Rc
variable {C : Str → List Val → M Val} {xs : List Str}
end P
/-! P127: the first line of a journal's text; the lines. -/
namespace P
open PySem (Str PyData)
open Rc
variable {C : Str → List Val → M Val} {xs : List Str}
end P
/-! P128: a journal read back. -/
namespace P
open PySem (Str PyData)
open Rc
variable {C : Str → List Val → M Val} {xs : List Str}
end P
/-! P129: k49's look at a journal read back. -/
namespace P
open PySem (Str PyData)
open Rc
variable {C : Str → List Val → M Val} {xs : List Str}
/-- a journal, the law's list of its deeds, the law's workshops in a pool -/
structure KAt (h : Int) (rest : Store) (j dl : Nat) (b : PlW) (LD : List LStep) (O : Own) (ps os : List Own) : Prop where
  j : IsJ O j (hisL h LD [])
  g : (hisL h LD []).Good
  d : DSep rest (O :: ownL dl (doneV b LD) :: (ps ++ os))
  pb : ownW b (sh0 h) ∈ ps
  pl : ∀ y ∈ LD, ownP y ∈ ps
theorem KAt.dl_ {h : Int} {rest : Store} {j dl : Nat} {b : PlW} {LD : List LStep} {O : Own} {ps os : List Own} (s : KAt h rest j dl b LD O ps os) (o : Ob) : (o :: rest)[dl]? = some (.lst (doneV b LD)) := s.d.get o (o := ownL dl _) (by simp)
theorem own_lastK {h : Int} {rest : Store} {j dl : Nat} {b : PlW} {LD : List LStep} {O : Own} {ps os : List Own} (s : KAt h rest j dl b LD O ps os) : ownW (lastP b LD) (hisL h LD []).cur ∈ ps := by
  have := own_last (h := h) (b := b) (LD := LD) (LU := []) (os := ps)
  rcases List.mem_cons.mp this with e | e
  · rw [e]; exact s.pb
  · rcases List.mem_append.mp e with e | e
    · obtain ⟨y, hy, e⟩ := List.mem_map.mp e
      rw [← e]
      exact s.pl y hy
    · exact e
theorem KAt.cur {h : Int} {rest : Store} {j dl : Nat} {b : PlW} {LD : List LStep} {O : Own} {ps os : List Own} (s : KAt h rest j dl b LD O ps os) (o : Ob) : LawAt (o :: rest) (lastP b LD).1 (lastP b LD).2.1 (lastP b LD).2.2.1 (lastP b LD).2.2.2 (hisL h LD []).cur :=
  (s.d.get o (List.mem_cons_of_mem _ (List.mem_cons_of_mem _ (List.mem_append.mpr (.inl (own_lastK s)))))).1
end P
/-! P130: k47's plain deeds. -/
namespace P
open PySem (Str PyData)
open Rc
variable {C : Str → List Val → M Val} {xs : List Str}
end P
/-! P131: k49's journal in the making. -/
namespace P
open PySem (Str PyData)
open Rc
variable {C : Str → List Val → M Val} {xs : List Str}
/-- a journal (with its undone deeds), the law's list of its deeds, the law's workshops in a pool -/
structure MAt (h : Int) (rest : Store) (j dl : Nat) (b : PlW) (LD : List LStep) (LU : List (Deed × Sh)) (O : Own) (ps os : List Own) : Prop where
  j : IsJ O j ⟨sh0 h, LD.map (·.2), LU⟩
  g : (⟨sh0 h, LD.map (·.2), LU⟩ : Hist).Good
  d : DSep rest (O :: ownL dl (doneV b LD) :: (ps ++ os))
  pb : ownW b (sh0 h) ∈ ps
  pl : ∀ y ∈ LD, ownP y ∈ ps
section
variable {h : Int} {o : Ob} {rest : Store} {j dl : Nat} {b : PlW} {LD : List LStep} {LU : List (Deed × Sh)} {O : Own} {ps os : List Own}
theorem MAt.dl_ (s : MAt h rest j dl b LD LU O ps os) (o : Ob) : (o :: rest)[dl]? = some (.lst (doneV b LD)) := s.d.get o (o := ownL dl _) (by simp)
theorem MAt.own (s : MAt h rest j dl b LD LU O ps os) : ownW (lastP b LD) (⟨sh0 h, LD.map (·.2), LU⟩ : Hist).cur ∈ ps := by
  have := own_last (h := h) (b := b) (LD := LD) (LU := []) (os := ps)
  rcases List.mem_cons.mp this with e | e
  · have e : ownW (lastP b LD) (⟨sh0 h, LD.map (·.2), LU⟩ : Hist).cur = ownW b (sh0 h) := e
    rw [e]; exact s.pb
  · rcases List.mem_append.mp e with e | e
    · obtain ⟨y, hy, e⟩ := List.mem_map.mp e
      have e : ownP y = ownW (lastP b LD) (⟨sh0 h, LD.map (·.2), LU⟩ : Hist).cur := e
      rw [← e]
      exact s.pl y hy
    · exact e
theorem MAt.cur (s : MAt h rest j dl b LD LU O ps os) (o : Ob) : LawAt (o :: rest) (lastP b LD).1 (lastP b LD).2.1 (lastP b LD).2.2.1 (lastP b LD).2.2.2 (⟨sh0 h, LD.map (·.2), LU⟩ : Hist).cur :=
  (s.d.get o (List.mem_cons_of_mem _ (List.mem_cons_of_mem _ (List.mem_append.mpr (.inl s.own))))).1
/-- a turn: copy, deed, the law's doing, the journal's doing -/
theorem MAt.turn (hco : Ok_law_s_copy (C "_law_s_copy")) (hde : Ok_law_deed (C "_law_deed")) (hd : Ok_law_s_do (C "_law_s_do")) (hjo : Ok_law_journal_do (C "_law_journal_do")) (ho : DrawOb o) (s : MAt h rest j dl b LD LU O ps os) (hl : LD.length ≤ 900) :
    ∃ (q : Nat) (r0 : Store) (d : Deed) (p2 : Ob) (r1 : Store) (w : Str) (v : Val) (st5 : Store), C "_law_s_copy" [.loc (lastP b LD).1] (o :: rest) = .ok (.loc q) (o :: r0) ∧ (o :: rest)[dl]? = some (.lst (doneV b LD)) ∧ C "_law_deed" [.loc 0, .loc q] (o :: r0) = .ok (dv d) (p2 :: r1) ∧ DrawOb p2 ∧
      C "_law_s_do" [.loc q, dv d] (p2 :: r1) = .ok (.tup [.str w, v]) st5 ∧
      ((w ≠ "" ∧ ∃ u r6 O' ps', C "_law_journal_do" [.loc j, dv d] st5 = .ok u (p2 :: r6) ∧ MAt h r6 j dl b LD LU O' ps' os) ∨
       (w = "" ∧ st5[dl]? = some (.lst (doneV b LD)) ∧ ∃ st6 u r7 O' y ps', wrLst .append dl [.tup [dv d, .loc q]] st5 = .ok .non st6 ∧ C "_law_journal_do" [.loc j, dv d] st6 = .ok u (p2 :: r7) ∧ MAt h r7 j dl b (LD ++ [y]) [] O' ps' os)) := by
  have hcur := s.g.gcur
  have e2 := hco (s.cur o)
  rw [List.cons_append, List.length_cons] at e2
  have D1 := s.d.copy hcur
  obtain ⟨q, hq⟩ : ∃ q : PlW, q = (rest.length + 1, rest.length + 2, rest.length + 3, rest.length + 4) := ⟨_, rfl⟩
  rw [← hq] at D1
  have hq1 : rest.length + 1 = q.1 := by rw [hq]
  rw [hq1] at e2 D1
  obtain ⟨_, _, f4, d, p2, ext, g2, hw, rfl, rfl⟩ := hde o ho (fun o => (D1.get o (List.mem_cons_self ..)).1) hcur
  have D2 := D1.grow ext
  have S1 := (D2.toS p2).perm (perm_at (i := 1) rfl)
  obtain ⟨st5, f5, A5, F5⟩ := hd.run (S1.p _ (List.mem_cons_self ..)).1 hcur d
  have S2 := S1.law A5 (good_do hcur d) F5
  refine ⟨q.1, _, d, p2, _, _, _, st5, e2, s.dl_ o, f4, g2, f5, ?_⟩
  by_cases c : (doD (⟨sh0 h, LD.map (·.2), LU⟩ : Hist).cur d).1 = ""
  · right
    obtain ⟨y, hy⟩ : ∃ y : LStep, y = (q, d, (doD (⟨sh0 h, LD.map (·.2), LU⟩ : Hist).cur d).2.2) := ⟨_, rfl⟩
    have ed : doneV b LD ++ [pairV y] = doneV b (LD ++ [y]) := by simp [doneV]
    have hpv : pairV y = .tup [dv d, .loc q.1] := by rw [hy]; rfl
    have hoy : ownW q (doD (⟨sh0 h, LD.map (·.2), LU⟩ : Hist).cur d).2.2 = ownP y := by rw [hy]; rfl
    rw [hoy] at S2
    have m1 := S2.getl (l := dl) (vs := doneV b LD) (by simp)
    have w1 := wr_append (y := pairV y) m1 (by simp [doneV, PySem.sizeLine]; omega)
    have S3 := (S2.perm (perm_at (i := 3) rfl)).setl (doneV b LD ++ [pairV y])
    generalize hs6 : st5.set dl (.lst (doneV b LD ++ [pairV y])) = st6 at w1 S3
    obtain ⟨st8, O', f6, hJ', S6, -⟩ := hjo s.j (S3.perm (perm_at (i := 3) rfl)) (by simp; omega) d
    rw [if_pos c] at hJ'
    obtain ⟨r8, rfl, D8⟩ := (S6.perm (perm_at (i := 3) rfl)).toD
    rw [hpv] at w1
    have e : (⟨sh0 h, (LD ++ [y]).map (·.2), []⟩ : Hist) = (⟨sh0 h, LD.map (·.2), LU⟩ : Hist).did d := by
      rw [hy]
      simp [Hist.did]
    refine ⟨c, m1, st6, _, r8, O', y, [ownP y] ++ ps, w1, f6, ⟨by rw [e]; exact hJ', by rw [e]; exact s.g.did c, ?_, List.mem_append.mpr (.inr s.pb), fun z hz => ?_⟩⟩
    · rw [← ed]
      exact D8
    · rcases List.mem_append.mp hz with hz | hz
      · exact List.mem_append.mpr (.inr (s.pl z hz))
      · rw [List.mem_singleton.mp hz]
        exact List.mem_append.mpr (.inl (by simp))
  · left
    have hs2 : (doD (⟨sh0 h, LD.map (·.2), LU⟩ : Hist).cur d).2.2 = (⟨sh0 h, LD.map (·.2), LU⟩ : Hist).cur := by rw [same_of _ d c]
    rw [hs2] at S2
    obtain ⟨st8, O', f6, hJ', S6, -⟩ := hjo s.j (S2.perm (perm_at (i := 2) rfl)) (by simp; omega) d
    rw [if_neg c] at hJ'
    obtain ⟨r8, rfl, D8⟩ := (S6.perm (perm_at (i := 2) rfl)).toD
    refine ⟨c, _, r8, O', [ownW q (⟨sh0 h, LD.map (·.2), LU⟩ : Hist).cur] ++ ps, f6, ⟨hJ', s.g, D8.perm (List.Perm.cons _ (perm_at (i := 1) rfl)), List.mem_append.mpr (.inr s.pb), fun z hz => List.mem_append.mpr (.inr (s.pl z hz))⟩⟩
end
end P
/-! P132: k49's journal made. -/
namespace P
open PySem (Str PyData)
open Rc
variable {C : Str → List Val → M Val} {xs : List Str}
theorem MAt.back {h : Int} {o : Ob} {rest : Store} {j dl : Nat} {b : PlW} {LD : List LStep} {y : LStep} {LU : List (Deed × Sh)} {O : Own} {ps os : List Own} (hb : Ok_Journal_back (C "Journal.back")) (s : MAt h rest j dl b (LD ++ [y]) LU O ps os) (hl : LD.length + LU.length ≤ 1000) :
    ∃ r1 r2 O', C "Journal.back" [.loc j] (o :: rest) = .ok (dv y.2.1) (o :: r1) ∧ (o :: r1)[dl]? = some (.lst (doneV b (LD ++ [y]))) ∧ wrLst .pop dl [] (o :: r1) = .ok (pairV y) (o :: r2) ∧ MAt h r2 j dl b LD (LU ++ [y.2]) O' ps os := by
  have hJ := s.j
  have hh : (⟨sh0 h, (LD ++ [y]).map (·.2), LU⟩ : Hist) = ⟨sh0 h, LD.map (·.2) ++ [y.2], LU⟩ := by simp
  rw [hh] at hJ
  obtain ⟨st1, O', e1, hJ', S2, -⟩ := hb.run hJ ((s.d.toS o).perm (perm_at (i := 1) rfl)) (by simpa using hl)
  obtain ⟨r1, rfl, D2⟩ := (S2.perm (perm_at (i := 1) rfl)).toD
  have ed : doneV b (LD ++ [y]) = doneV b LD ++ [pairV y] := by simp [doneV]
  rw [ed] at D2
  have S3 := D2.toS o
  have m1 := S3.getl (l := dl) (vs := doneV b LD ++ [pairV y]) (by simp)
  have w1 := wr_popL m1 (by simp [doneV]; omega)
  have S4 := (S3.perm (perm_at (i := 2) rfl)).setl (doneV b LD)
  generalize (o :: r1).set dl (.lst (doneV b LD)) = st7 at w1 S4
  obtain ⟨r2, rfl, D4⟩ := (S4.perm (perm_at (i := 1) rfl)).toD
  refine ⟨r1, r2, O', e1, by rw [ed]; exact m1, w1, ⟨hJ', ⟨s.g.g, ?_⟩, D4.perm (perm_at (i := 1) rfl), s.pb, fun z hz => s.pl z (List.mem_append_left _ hz)⟩⟩
  have := s.g.c
  simpa using this
end P
/-! P133: k49: two journals, one list; a step backwards. -/
namespace P
open PySem (Str PyData)
open Rc
variable {C : Str → List Val → M Val} {xs : List Str}
structure NAt (h : Int) (rest : Store) (j k dl : Nat) (b : PlW) (LD : List LStep) (LU LV : List (Deed × Sh)) (O Q : Own) (ps os : List Own) : Prop where
  j : IsJ O j ⟨sh0 h, LD.map (·.2), LU⟩
  g : (⟨sh0 h, LD.map (·.2), LU⟩ : Hist).Good
  k : IsJ Q k ⟨sh0 h, LD.map (·.2), LV⟩
  gk : (⟨sh0 h, LD.map (·.2), LV⟩ : Hist).Good
  d : DSep rest (O :: Q :: ownL dl (doneV b LD) :: (ps ++ os))
  pb : ownW b (sh0 h) ∈ ps
  pl : ∀ y ∈ LD, ownP y ∈ ps
theorem good_back {h : Int} {LD : List LStep} {y : LStep} {LU : List (Deed × Sh)} (g : (⟨sh0 h, (LD ++ [y]).map (·.2), LU⟩ : Hist).Good) : (⟨sh0 h, LD.map (·.2), LU ++ [y.2]⟩ : Hist).Good := by
  refine ⟨g.g, ?_⟩
  have := g.c
  simpa using this
theorem NAt.back {h : Int} {o : Ob} {rest : Store} {j k dl : Nat} {b : PlW} {LD : List LStep} {y : LStep} {LU LV : List (Deed × Sh)} {O Q : Own} {ps os : List Own} (hsb : Ok_law_step_back (C "_law_step_back")) (s : NAt h rest j k dl b (LD ++ [y]) LU LV O Q ps os) (hl : LD.length + LU.length ≤ 1000) (hv : LD.length + LV.length ≤ 1000) :
    ∃ st1 st2 r3 O' Q', C "_law_step_back" [.loc k, .bl false] (o :: rest) = .ok (dv y.2.1) st1 ∧ st1[dl]? = some (.lst (doneV b (LD ++ [y]))) ∧ C "_law_step_back" [.loc j, .bl false] st1 = .ok (dv y.2.1) st2 ∧ st2[dl]? = some (.lst (doneV b (LD ++ [y]))) ∧ wrLst .pop dl [] st2 = .ok (pairV y) (o :: r3) ∧ NAt h r3 j k dl b LD (LU ++ [y.2]) (LV ++ [y.2]) O' Q' ps os := by
  have hJ := s.j
  have hK := s.k
  have hh : ∀ U : List (Deed × Sh), (⟨sh0 h, (LD ++ [y]).map (·.2), U⟩ : Hist) = ⟨sh0 h, LD.map (·.2) ++ [y.2], U⟩ := fun U => by simp
  rw [hh] at hJ hK
  have ed : doneV b (LD ++ [y]) = doneV b LD ++ [pairV y] := by simp [doneV]
  have D := s.d
  rw [ed] at D
  have S0 := (D.toS o).perm (perm_at (i := 2) rfl)
  obtain ⟨st1, Q', e1, hK', S1, -⟩ := hsb.back hK S0 (by simpa using hv)
  have m1 := S1.getl (l := dl) (vs := doneV b LD ++ [pairV y]) (by simp [List.eraseIdx])
  obtain ⟨st2, O', e2, hJ', S2, -⟩ := hsb.back hJ (S1.perm (perm_at (i := 2) rfl)) (by simpa using hl)
  have m2 := S2.getl (l := dl) (vs := doneV b LD ++ [pairV y]) (by simp [List.eraseIdx])
  have w1 := wr_popL m2 (by simp [doneV]; omega)
  have S3 := (S2.perm (perm_at (i := 3) rfl)).setl (doneV b LD)
  generalize st2.set dl (.lst (doneV b LD)) = st3 at w1 S3
  obtain ⟨r3, rfl, D3⟩ := (S3.perm (perm_at (i := 3) rfl)).toD
  exact ⟨st1, st2, r3, O', Q', e1, by rw [ed]; exact m1, e2, by rw [ed]; exact m2, w1, ⟨hJ', good_back s.g, hK', good_back s.gk, D3.perm (List.perm_middle (l₁ := [O', Q'])).symm, s.pb, fun z hz => s.pl z (List.mem_append_left _ hz)⟩⟩
end P
/-! P134: k49: backwards. -/
namespace P
open PySem (Str PyData)
open Rc
variable {C : Str → List Val → M Val} {xs : List Str}
theorem NAt.dl_ {h : Int} {rest : Store} {j k dl : Nat} {b : PlW} {LD : List LStep} {LU LV : List (Deed × Sh)} {O Q : Own} {ps os : List Own} (s : NAt h rest j k dl b LD LU LV O Q ps os) (o : Ob) : (o :: rest)[dl]? = some (.lst (doneV b LD)) := s.d.get o (o := ownL dl _) (by simp)
theorem NAt.grow {h : Int} {rest : Store} {j k dl : Nat} {b : PlW} {LD : List LStep} {LU LV : List (Deed × Sh)} {O Q : Own} {ps os : List Own} (s : NAt h rest j k dl b LD LU LV O Q ps os) (ext : Store) : NAt h (rest ++ ext) j k dl b LD LU LV O Q ps os := ⟨s.j, s.g, s.k, s.gk, s.d.grow ext, s.pb, s.pl⟩
end P
/-! P135: k49: a turn of both journals. -/
namespace P
open PySem (Str PyData)
open Rc
variable {C : Str → List Val → M Val} {xs : List Str}
section
variable {h : Int} {o : Ob} {rest : Store} {j k dl : Nat} {b : PlW} {LD : List LStep} {LU LV : List (Deed × Sh)} {O Q : Own} {ps os : List Own}
theorem NAt.mj_ (s : NAt h rest j k dl b LD LU LV O Q ps os) : MAt h rest j dl b LD LU O ps (Q :: os) := ⟨s.j, s.g, s.d.perm (List.Perm.cons _ (by
  refine (perm_at (i := 1) rfl).trans (List.Perm.cons _ ?_)
  exact List.perm_middle.symm)), s.pb, s.pl⟩
theorem NAt.turn (hco : Ok_law_s_copy (C "_law_s_copy")) (hde : Ok_law_deed (C "_law_deed")) (hd : Ok_law_s_do (C "_law_s_do")) (hse : Ok_law_same_end (C "_law_same_end")) (hjo : Ok_law_journal_do (C "_law_journal_do")) (hjt : Ok_Journal_text (C "Journal.text")) (ho : DrawOb o) (s : NAt h rest j k dl b LD LU LV O Q ps os) (hl : LD.length ≤ 900) :
    ∃ (q : Nat) (r0 : Store) (d : Deed) (p2 : Ob) (r1 : Store) (w : Str) (v : Val) (st5 : Store) (u : Val) (st6 r7 : Store) (O' Q' : Own) (T : Str), C "_law_s_copy" [.loc (lastP b LD).1] (o :: rest) = .ok (.loc q) (o :: r0) ∧ (o :: rest)[dl]? = some (.lst (doneV b LD)) ∧ C "_law_deed" [.loc 0, .loc q] (o :: r0) = .ok (dv d) (p2 :: r1) ∧ DrawOb p2 ∧
      C "_law_s_do" [.loc q, dv d] (p2 :: r1) = .ok (.tup [.str w, v]) st5 ∧ C "_law_journal_do" [.loc k, dv d] st5 = .ok u st6 ∧ (∀ st, C "_law_same_end" [u, .tup [.str w, v]] st = .ok (.bl true) st) ∧ C "_law_journal_do" [.loc j, dv d] st6 = .ok u (p2 :: r7) ∧
      (∃ a1 a2 a3 a4, (p2 :: r7)[k]? = some (jrOb h a1 a2 a3 a4)) ∧ (∃ a1 a2 a3 a4, (p2 :: r7)[j]? = some (jrOb h a1 a2 a3 a4)) ∧ C "Journal.text" [.loc k] (p2 :: r7) = .ok (.str T) (p2 :: r7) ∧ C "Journal.text" [.loc j] (p2 :: r7) = .ok (.str T) (p2 :: r7) ∧
      ((w ≠ "" ∧ ∃ W, NAt h r7 j k dl b LD LU LV O' Q' (W :: ps) os) ∨
       (w = "" ∧ (p2 :: r7)[dl]? = some (.lst (doneV b LD)) ∧ ∃ r8 y, wrLst .append dl [.tup [dv d, .loc q]] (p2 :: r7) = .ok .non (p2 :: r8) ∧ NAt h r8 j k dl b (LD ++ [y]) [] [] O' Q' (ownP y :: ps) os)) := by
  have hcur := s.g.gcur
  have e2 := hco (s.mj_.cur o)
  rw [List.cons_append, List.length_cons] at e2
  have D1 := s.d.copy hcur
  obtain ⟨q, hq⟩ : ∃ q : PlW, q = (rest.length + 1, rest.length + 2, rest.length + 3, rest.length + 4) := ⟨_, rfl⟩
  rw [← hq] at D1
  have hq1 : rest.length + 1 = q.1 := by rw [hq]
  rw [hq1] at e2 D1
  obtain ⟨_, _, f4, d, p2, ext, g2, hw, rfl, rfl⟩ := hde o ho (fun o => (D1.get o (List.mem_cons_self ..)).1) hcur
  have D2 := D1.grow ext
  have S1 := (D2.toS p2).perm (perm_at (i := 1) rfl)
  obtain ⟨st5, f5, A5, F5⟩ := hd.run (S1.p _ (List.mem_cons_self ..)).1 hcur d
  have S2 := S1.law A5 (good_do hcur d) F5
  have pl := plain_deed hcur d
  have pv : plainV 5 (doD (⟨sh0 h, LD.map (·.2), LU⟩ : Hist).cur d).2.1 := by
    cases pl with
    | lst _ h => exact h _ (by simp)
  have hse' := fun st => hse (if (doD (⟨sh0 h, LD.map (·.2), LU⟩ : Hist).cur d).1 = "" then "" else "refused") (doD (⟨sh0 h, LD.map (·.2), LU⟩ : Hist).cur d).1 _ st pv (by
    by_cases c : (doD (⟨sh0 h, LD.map (·.2), LU⟩ : Hist).cur d).1 = ""
    · simp [c]
    · simp [c])
  obtain ⟨st6, Q', f6, hK', S3, -⟩ := hjo s.k (S2.perm (perm_at (i := 3) rfl)) (by simp; omega) d
  obtain ⟨st7, O', f7, hJ', S4, -⟩ := hjo s.j (S3.perm (perm_at (i := 3) rfl)) (by simp; omega) d
  obtain ⟨r7, rfl, D7⟩ := (S4.perm (perm_at (i := 3) rfl)).toD
  have SK := (D7.toS p2).perm (perm_at (i := 2) rfl)
  have SJ := (D7.toS p2).perm (perm_at (i := 1) rfl)
  have hck : (⟨sh0 h, LD.map (·.2), LV⟩ : Hist).cur = (⟨sh0 h, LD.map (·.2), LU⟩ : Hist).cur := rfl
  rw [hck] at f6 hK'
  by_cases c : (doD (⟨sh0 h, LD.map (·.2), LU⟩ : Hist).cur d).1 = ""
  · rw [if_pos c] at hJ' hK' f6 f7
    have t1 := hjt hK' SK (s.gk.did c) (by simp [Hist.did]; omega)
    have t2 := hjt hJ' SJ (s.g.did c) (by simp [Hist.did]; omega)
    obtain ⟨y, hy⟩ : ∃ y : LStep, y = (q, d, (doD (⟨sh0 h, LD.map (·.2), LU⟩ : Hist).cur d).2.2) := ⟨_, rfl⟩
    have ed : doneV b LD ++ [pairV y] = doneV b (LD ++ [y]) := by simp [doneV]
    have hpv : pairV y = .tup [dv d, .loc q.1] := by rw [hy]; rfl
    have hoy : ownW q (doD (⟨sh0 h, LD.map (·.2), LU⟩ : Hist).cur d).2.2 = ownP y := by rw [hy]; rfl
    rw [hoy] at D7
    have S7 := D7.toS p2
    have m1 := S7.getl (l := dl) (vs := doneV b LD) (by simp)
    have w1 := wr_append (y := pairV y) m1 (by simp [doneV, PySem.sizeLine]; omega)
    have S8 := (S7.perm (perm_at (i := 4) rfl)).setl (doneV b LD ++ [pairV y])
    generalize (p2 :: r7).set dl (.lst (doneV b LD ++ [pairV y])) = st8 at w1 S8
    obtain ⟨r8, rfl, D8⟩ := (S8.perm (perm_at (i := 1) rfl)).toD
    rw [hpv] at w1
    have e : ∀ U, (⟨sh0 h, (LD ++ [y]).map (·.2), []⟩ : Hist) = (⟨sh0 h, LD.map (·.2), U⟩ : Hist).did d := fun U => by
      rw [hy]
      simp [Hist.did]
      rfl
    refine ⟨q.1, _, d, p2, _, _, _, st5, _, st6, r7, O', Q', _, e2, s.dl_ o, f4, g2, f5, f6, fun st => by have := hse' st; rw [if_pos c] at this; exact this, f7, isj_ob hK' SK, isj_ob hJ' SJ, t1, t2, .inr ⟨c, m1, r8, y, w1, ⟨by rw [e LU]; exact hJ', by rw [e LU]; exact s.g.did c, by rw [e LV]; exact hK', by rw [e LV]; exact s.gk.did c, ?_, List.mem_cons_of_mem _ s.pb, fun z hz => ?_⟩⟩⟩
    · rw [← ed]
      exact D8.perm (List.perm_middle (l₁ := [O', Q'])).symm
    · rcases List.mem_append.mp hz with hz | hz
      · exact List.mem_cons_of_mem _ (s.pl z hz)
      · rw [List.mem_singleton.mp hz]
        exact List.mem_cons_self ..
  · rw [if_neg c] at hJ' hK' f6 f7
    have t1 := hjt hK' SK s.gk (by simp; omega)
    have t2 := hjt hJ' SJ s.g (by simp; omega)
    have hs2 : (doD (⟨sh0 h, LD.map (·.2), LU⟩ : Hist).cur d).2.2 = (⟨sh0 h, LD.map (·.2), LU⟩ : Hist).cur := by rw [same_of _ d c]
    exact ⟨q.1, _, d, p2, _, _, _, st5, _, st6, r7, O', Q', _, e2, s.dl_ o, f4, g2, f5, f6, fun st => by have := hse' st; rw [if_neg c] at this; exact this, f7, isj_ob hK' SK, isj_ob hJ' SJ, t1, t2, .inl ⟨c, _, ⟨hJ', s.g, hK', s.gk, D7.perm (List.Perm.cons _ (List.Perm.cons _ (perm_at (i := 1) rfl))), List.mem_cons_of_mem _ s.pb, fun z hz => List.mem_cons_of_mem _ (s.pl z hz)⟩⟩⟩
end
end P
/-! P136: k49's look at a journal read back, the list at a place or not. -/
namespace P
open PySem (Str PyData)
open Rc
variable {C : Str → List Val → M Val} {xs : List Str}
/-- a journal, the law's workshops in a pool -/
structure KV (h : Int) (rest : Store) (j : Nat) (b : PlW) (LD : List LStep) (O : Own) (ps os : List Own) : Prop where
  j : IsJ O j (hisL h LD [])
  g : (hisL h LD []).Good
  d : DSep rest (O :: (ps ++ os))
  pb : ownW b (sh0 h) ∈ ps
  pl : ∀ y ∈ LD, ownP y ∈ ps
theorem own_lastV {h : Int} {rest : Store} {j : Nat} {b : PlW} {LD : List LStep} {O : Own} {ps os : List Own} (s : KV h rest j b LD O ps os) : ownW (lastP b LD) (hisL h LD []).cur ∈ ps := by
  have := own_last (h := h) (b := b) (LD := LD) (LU := []) (os := ps)
  rcases List.mem_cons.mp this with e | e
  · rw [e]; exact s.pb
  · rcases List.mem_append.mp e with e | e
    · obtain ⟨y, hy, e⟩ := List.mem_map.mp e
      rw [← e]
      exact s.pl y hy
    · exact e
theorem KV.cur {h : Int} {rest : Store} {j : Nat} {b : PlW} {LD : List LStep} {O : Own} {ps os : List Own} (s : KV h rest j b LD O ps os) (o : Ob) : LawAt (o :: rest) (lastP b LD).1 (lastP b LD).2.1 (lastP b LD).2.2.1 (lastP b LD).2.2.2 (hisL h LD []).cur :=
  (s.d.get o (List.mem_cons_of_mem _ (List.mem_append.mpr (.inl (own_lastV s))))).1
end P
/-! P137: k47's journal and its lists of steps. -/
namespace P
open PySem (Str PyData)
open Rc
variable {C : Str → List Val → M Val} {xs : List Str}
/-- a journal, the law's lists of its steps done and undone, the law's workshops in a pool -/
structure GAt (h : Int) (rest : Store) (j dl ul : Nat) (b : PlW) (LD LU : List LStep) (O : Own) (ps os : List Own) : Prop where
  j : IsJ O j (hisL h LD LU)
  g : (hisL h LD LU).Good
  d : DSep rest (O :: ownL dl (LD.map pairV) :: ownL ul (LU.map pairV) :: (ps ++ os))
  pb : ownW b (sh0 h) ∈ ps
  pl : ∀ y ∈ LD ++ LU, ownP y ∈ ps
section
variable {h : Int} {o : Ob} {rest : Store} {j dl ul : Nat} {b : PlW} {LD LU : List LStep} {O : Own} {ps os : List Own} {x : LStep}
theorem GAt.dl_ (s : GAt h rest j dl ul b LD LU O ps os) (o : Ob) : (o :: rest)[dl]? = some (.lst (LD.map pairV)) := s.d.get o (o := ownL dl _) (by simp)
theorem GAt.grow (s : GAt h rest j dl ul b LD LU O ps os) (ext : Store) : GAt h (rest ++ ext) j dl ul b LD LU O ps os := ⟨s.j, s.g, s.d.grow ext, s.pb, s.pl⟩
theorem own_lastG (s : GAt h rest j dl ul b LD LU O ps os) : ownW (lastP b LD) (hisL h LD LU).cur ∈ ps := by
  rcases List.eq_nil_or_concat LD with hz | ⟨LD', y, hz⟩
  · subst hz
    exact s.pb
  · rw [List.concat_eq_append] at hz
    subst hz
    rw [lastP_snoc, cur_snoc]
    exact s.pl y (by simp)
theorem GAt.cur (s : GAt h rest j dl ul b LD LU O ps os) (o : Ob) : LawAt (o :: rest) (lastP b LD).1 (lastP b LD).2.1 (lastP b LD).2.2.1 (lastP b LD).2.2.2 (hisL h LD LU).cur :=
  (s.d.get o (List.mem_cons_of_mem _ (List.mem_cons_of_mem _ (List.mem_cons_of_mem _ (List.mem_append.mpr (.inl (own_lastG s))))))).1
end
end P
/-! P138: k47: all taken back and done again; the text, read, and a twin. -/
namespace P
open PySem (Str PyData)
open Rc
variable {C : Str → List Val → M Val} {xs : List Str}
end P
/-! P139: k47's deeds. -/
namespace P
open PySem (Str PyData)
open Rc
variable {C : Str → List Val → M Val} {xs : List Str}
theorem GAt.did {h : Int} {o : Ob} {rest : Store} {j dl ul : Nat} {b : PlW} {LD LU : List LStep} {O : Own} {ps os : List Own} {r : Store} {q : PlW} (hd : Ok_law_s_do (C "_law_s_do")) (hse : Ok_law_same_end (C "_law_same_end")) (hjo : Ok_law_journal_do (C "_law_journal_do")) (s : GAt h r j dl ul b LD LU O ps os) (D : DSep rest (ownW q (hisL h LD LU).cur :: O :: ownL dl (LD.map pairV) :: ownL ul (LU.map pairV) :: (ps ++ os))) (hl : LD.length ≤ 900) (d : Deed) :
    ∃ (st5 : Store) (v u : Val) (r6 : Store) (w : Str), C "_law_s_do" [.loc q.1, dv d] (o :: rest) = .ok (.tup [.str w, v]) st5 ∧ C "_law_journal_do" [.loc j, dv d] st5 = .ok u (o :: r6) ∧ (∀ st, C "_law_same_end" [u, .tup [.str w, v]] st = .ok (.bl true) st) ∧ (∃ a1 a2 a3 a4 a5, st5[j]? = some (jrOb a1 a2 a3 a4 a5)) ∧
      ((w ≠ "" ∧ ∃ O' W, GAt h r6 j dl ul b LD LU O' (W :: ps) os) ∨
       (w = "" ∧ (o :: r6)[dl]? = some (.lst (LD.map pairV)) ∧ ∃ r7 y O', wrLst .append dl [.tup [dv d, .loc q.1]] (o :: r6) = .ok .non (o :: r7) ∧ GAt h (r7 ++ [.lst []]) j dl (r7.length + 1) b (LD ++ [y]) [] O' (ownP y :: ps) os)) := by
  have hcur := s.g.gcur
  have S1 := (D.toS o).perm (perm_at (i := 1) rfl)
  obtain ⟨st5, f5, A5, F5⟩ := hd.run (S1.p _ (List.mem_cons_self ..)).1 hcur d
  have S2 := S1.law A5 (good_do hcur d) F5
  obtain ⟨_, _, _, _, hj5⟩ := isj_ob s.j (S2.perm (perm_at (i := 2) rfl))
  obtain ⟨st8, O', f6, hJ', S6, -⟩ := hjo s.j (S2.perm (perm_at (i := 2) rfl)) (by simp [hisL]; omega) d
  obtain ⟨r6, rfl, D6⟩ := (S6.perm (perm_at (i := 2) rfl)).toD
  have pl := plain_deed hcur d
  have pv : plainV 5 (doD (hisL h LD LU).cur d).2.1 := by
    cases pl with
    | lst _ h => exact h _ (by simp)
  have hse' : ∀ st, C "_law_same_end" [.lst [.str (if (doD (hisL h LD LU).cur d).1 = "" then "" else "refused"), (doD (hisL h LD LU).cur d).2.1], .tup [.str (doD (hisL h LD LU).cur d).1, (doD (hisL h LD LU).cur d).2.1]] st = .ok (.bl true) st := fun st => hse (if (doD (hisL h LD LU).cur d).1 = "" then "" else "refused") (doD (hisL h LD LU).cur d).1 _ st pv (by
    by_cases c : (doD (hisL h LD LU).cur d).1 = ""
    · simp [c]
    · simp [c])
  refine ⟨st5, _, _, r6, _, f5, f6, hse', ⟨_, _, _, _, _, hj5⟩, ?_⟩
  by_cases c : (doD (hisL h LD LU).cur d).1 = ""
  · right
    rw [if_pos c] at hJ'
    obtain ⟨y, hy⟩ : ∃ y : LStep, y = (q, d, (doD (hisL h LD LU).cur d).2.2) := ⟨_, rfl⟩
    have ed : LD.map pairV ++ [pairV y] = (LD ++ [y]).map pairV := by simp
    have hpv : pairV y = .tup [dv d, .loc q.1] := by rw [hy]; rfl
    have hoy : ownW q (doD (hisL h LD LU).cur d).2.2 = ownP y := by rw [hy]; rfl
    rw [hoy] at D6
    have m1 : (o :: r6)[dl]? = some (.lst (LD.map pairV)) := D6.get o (o := ownL dl _) (by simp)
    have w1 := wr_append (y := pairV y) m1 (by simp [PySem.sizeLine]; omega)
    have S7 := ((D6.toS o).perm (perm_at (i := 3) rfl)).setl (LD.map pairV ++ [pairV y])
    generalize hs6 : (o :: r6).set dl (.lst (LD.map pairV ++ [pairV y])) = st6 at w1 S7
    obtain ⟨r7, rfl, D7⟩ := (S7.perm (perm_at (i := 1) rfl)).toD
    have S8 := (D7.toS o).newl []
    obtain ⟨r8, er, D8⟩ := (S8.perm (perm_at (i := 1) rfl)).toD
    have er : r7 ++ [.lst []] = r8 := by
      rw [List.cons_append] at er
      injection er
    subst er
    rw [List.length_cons] at D8
    have D9 := (D8.perm (perm_at (i := 4) rfl)).tail
    have hgd := s.g.did c
    have e : hisL h (LD ++ [y]) [] = (hisL h LD LU).did d := by
      rw [hy]
      simp [hisL, Hist.did]
    rw [hpv] at w1
    refine ⟨c, m1, r7, y, O', w1, by rw [e]; exact hJ', by rw [e]; exact hgd, ?_, List.mem_cons_of_mem _ s.pb, fun z hz => ?_⟩
    · rw [← ed]
      exact D9.perm ((perm_at (i := 2) rfl).trans (List.Perm.cons _ (List.Perm.swap _ _ _)))
    · simp at hz
      rcases hz with hz | hz
      · exact List.mem_cons_of_mem _ (s.pl z (by simp [hz]))
      · rw [hz]
        exact List.mem_cons_self ..
  · left
    rw [if_neg c] at hJ'
    have hs2 : (doD (hisL h LD LU).cur d).2.2 = (hisL h LD LU).cur := by rw [same_of _ d c]
    refine ⟨c, O', ownW q (doD (hisL h LD LU).cur d).2.2, hJ', s.g, ?_, List.mem_cons_of_mem _ s.pb, fun z hz => List.mem_cons_of_mem _ (s.pl z hz)⟩
    exact D6.perm (List.Perm.cons _ ((perm_at (i := 1) rfl).trans (List.Perm.cons _ (List.Perm.swap _ _ _))))
end P
/-! P140: any text read as a strip, by the program and by k06's law. -/
namespace P
open PySem (Str PyData)
open Rc
variable {C : Str → List Val → M Val} {xs : List Str}
/-- the cell that a sign writes -/
def cellOf (k : Nat) : Option Int := if k = 63 then some (-1) else if 48 ≤ k ∧ k ≤ 57 then some ((k : Int) - 48) else none
def wordOf (w : Str) : Option Col := oMap cellOf w.cps.toList
def colsOf (t : Str) : Option Strip := oMap wordOf (PySem.Txt.split t " ")
/-- the strip that a text writes -/
def readS (t : Str) : Option Strip := match colsOf t with
  | none => none
  | some s => if goodStrip s = true then some s else none
def Ok_BadText (F : Fn) : Prop := ∀ (v : Val) (st : Store), F [v] st = .ok .non st
theorem d_BadText_ok : Ok_BadText (runDf C xs D.d_BadText) := by
  intro v st
  unfold D.d_BadText
  simp [exSs]
theorem fig_out {st : Store} {k : Nat} (h : ¬ (48 ≤ k ∧ k ≤ 57)) : opIn st (.str ⟨#[k]⟩) (.str "0123456789") = some false := by
  show some (!(PySem.Builtin.Str.occurrences ("0123456789" : Str) ⟨#[k]⟩ 0 ("0123456789" : Str).length 1).isEmpty) = _
  rw [PySem.StrLaws.found_one]
  congr 1
  rw [decide_eq_false_iff_not]
  intro hm
  apply h
  have : k = 48 ∨ k = 49 ∨ k = 50 ∨ k = 51 ∨ k = 52 ∨ k = 53 ∨ k = 54 ∨ k = 55 ∨ k = 56 ∨ k = 57 := by
    have e : ("0123456789" : Str).cps.toList = [48, 49, 50, 51, 52, 53, 54, 55, 56, 57] := by decide +kernel
    have hm : k ∈ ("0123456789" : Str).cps.toList := hm
    rw [e] at hm
    simpa using hm
  omega
theorem int_fig {k : Nat} (h0 : 48 ≤ k) (h1 : k ≤ 57) : biInt [.str ⟨#[k]⟩] = some (.int ((k : Int) - 48)) := by
  have : k = 48 ∨ k = 49 ∨ k = 50 ∨ k = 51 ∨ k = 52 ∨ k = 53 ∨ k = 54 ∨ k = 55 ∨ k = 56 ∨ k = 57 := by omega
  have e : PySem.intText? (⟨#[k]⟩ : Str) = some ((k : Int) - 48) := by
    rcases this with rfl | rfl | rfl | rfl | rfl | rfl | rfl | rfl | rfl | rfl <;> decide +kernel
  show (if (⟨#[k]⟩ : Str).length ≤ 640 then (PySem.intText? (⟨#[k]⟩ : Str)).map Val.int else none) = _
  rw [if_pos (by show 1 ≤ 640; omega), e]
  rfl
def Ok_cell_inA (F : Fn) : Prop := ∀ (k : Nat) (st : Store), F [.str ⟨#[k]⟩] st = (match cellOf k with | some i => R.ok (.int i) st | none => R.exc "BadText" (some 0) st)
theorem veq_q {st : Store} {k : Nat} : veq st (.str ⟨#[k]⟩) (.str "?") = some (decide (k = 63)) := by
  show some (decide ((⟨#[k]⟩ : Str) = "?")) = _
  congr 1
  by_cases h : k = 63
  · subst h
    decide +kernel
  · rw [decide_eq_false h, decide_eq_false_iff_not]
    intro e
    have := congrArg (fun z : Str => z.cps.toList) e
    exact h (List.cons.inj (this : [k] = [63])).1
theorem d_cell_inA_ok (hb : Ok_BadText (C "BadText")) : Ok_cell_inA (runDf C xs D.d_cell_in) := by
  intro k st
  have e1 := veq_q (st := st) (k := k)
  unfold cellOf
  unfold D.d_cell_in
  by_cases h : k = 63
  · rw [decide_eq_true h] at e1
    generalize (⟨#[k]⟩ : Str) = S at *
    rw [if_pos h]
    simp [exSs, e1]
  · rw [decide_eq_false h] at e1
    rw [if_neg h]
    by_cases h2 : 48 ≤ k ∧ k ≤ 57
    · have e2 := figs_in (st := st) h2.1 h2.2
      have e3 := int_fig h2.1 h2.2
      rw [if_pos h2]
      generalize (⟨#[k]⟩ : Str) = S at *
      simp [exSs, e1, e2, e3]
    · have e2 := fig_out (st := st) h2
      rw [if_neg h2]
      have e4 := hb (.int 0) st
      generalize (⟨#[k]⟩ : Str) = S at *
      simp [exSs, e1, e2, e4]
/-! ### texts split -/
theorem spl_len {S : List Nat} : ∀ (k : Nat) (acc l : List Nat), (∀ p ∈ TL.spl S k acc l, p.length ≤ acc.length + l.length) ∧ (TL.spl S k acc l).length ≤ l.length + 1
  | k, acc, [] => by
    rw [TL.spl_nil]
    exact ⟨fun p hp => by rw [List.mem_singleton.mp hp]; simp, by simp⟩
  | 0, acc, c :: r => by
    have h1 := spl_len (S := S) (S.length - 1) [] r
    have h2 := spl_len (S := S) 0 (acc ++ [c]) r
    show (∀ p ∈ (if TL.pre S (c :: r) = true then acc :: TL.spl S (S.length - 1) [] r else TL.spl S 0 (acc ++ [c]) r), _) ∧ (if TL.pre S (c :: r) = true then acc :: TL.spl S (S.length - 1) [] r else TL.spl S 0 (acc ++ [c]) r).length ≤ _
    split
    · refine ⟨fun p hp => ?_, by simp; exact h1.2⟩
      rcases List.mem_cons.mp hp with rfl | hp
      · simp
      · have := h1.1 p hp
        simp at this ⊢
        omega
    · refine ⟨fun p hp => ?_, by have := h2.2; simp; omega⟩
      have := h2.1 p hp
      simp at this ⊢
      omega
  | k + 1, acc, _ :: r => by
    have h1 := spl_len (S := S) k acc r
    exact ⟨fun p hp => by
      have := h1.1 p hp
      simp
      omega, by have := h1.2; simp; exact Nat.le_succ_of_le this⟩
theorem spl_ne {S : List Nat} : ∀ (k : Nat) (acc l : List Nat), TL.spl S k acc l ≠ []
  | k, acc, [] => by rw [TL.spl_nil]; simp
  | 0, acc, c :: r => by
    show (if TL.pre S (c :: r) = true then acc :: TL.spl S (S.length - 1) [] r else TL.spl S 0 (acc ++ [c]) r) ≠ []
    split
    · simp
    · exact spl_ne 0 (acc ++ [c]) r
  | k + 1, acc, _ :: r => spl_ne k acc r
theorem split_sp (t : Str) : (PySem.Txt.split t " ").map TL.tl = TL.spl [32] 0 [] (TL.tl t) :=
  TL.split_spl t " " (by decide) (TL.kind_ok (by decide +kernel))
theorem split_facts (t : Str) : (∀ p ∈ PySem.Txt.split t " ", p.length ≤ t.length) ∧ (PySem.Txt.split t " ").length ≤ t.length + 1 ∧ 0 < (PySem.Txt.split t " ").length := by
  have e := split_sp t
  have hl := spl_len (S := [32]) 0 [] (TL.tl t)
  have hn := spl_ne (S := [32]) 0 [] (TL.tl t)
  rw [← e] at hl hn
  have ht : (TL.tl t).length = t.length := Array.length_toList ..
  refine ⟨fun p hp => ?_, ?_, ?_⟩
  · have : (TL.tl p).length ≤ 0 + (TL.tl t).length := hl.1 (TL.tl p) (List.mem_map.mpr ⟨p, hp, rfl⟩)
    have hp2 : (TL.tl p).length = p.length := Array.length_toList ..
    omega
  · have := hl.2
    rw [List.length_map] at this
    omega
  · rw [List.length_pos_iff]
    intro h
    rw [h] at hn
    exact hn rfl
theorem mt_split {new : Bool} {t : Str} {st : Store} (h : t.length + 2 ≤ 16777216) : mtOp new .split (.str t) [.str " "] st = mk new (.l ((PySem.Txt.split t " ").map .str)) st := by
  have hb : (!((" " : Str).length == 0) && decide (t.length + 2 ≤ PySem.sizeLine)) = true := by
    rw [Bool.and_eq_true]
    exact ⟨rfl, decide_eq_true (by show _ ≤ 16777216; omega)⟩
  show (if (!((" " : Str).length == 0) && decide (t.length + 2 ≤ PySem.sizeLine)) = true then mk new (.l ((PySem.Txt.split t " ").map .str)) else stuck) st = _
  rw [if_pos hb]
theorem oMap_map {α β γ : Type} {f : α → Option β} {g : β → γ} : ∀ {l : List α}, oMap (fun x => (f x).map g) l = (oMap f l).map (List.map g)
  | [] => rfl
  | x :: l => by
    show (match (f x).map g with | none => none | some y => (oMap (fun x => (f x).map g) l).map (y :: ·)) = (match f x with | none => none | some y => (oMap f l).map (y :: ·)).map (List.map g)
    cases f x with
    | none => rfl
    | some y =>
      show (oMap (fun x => (f x).map g) l).map (g y :: ·) = ((oMap f l).map (y :: ·)).map (List.map g)
      rw [oMap_map]
      cases oMap f l <;> rfl
/-! ### the program's reading -/
def Ok_read_stripA (F : Fn) : Prop := ∀ (t : Str) (st : Store), t.length ≤ 10000000 → F [.str t] st = (match readS t with | some s => R.ok (sv s) st | none => R.exc "BadText" (some 0) st)
theorem d_read_stripA_ok (hb : Ok_BadText (C "BadText")) (hc : Ok_cell_inA (C "cell_in")) (hg : Ok_good_strip (C "good_strip")) : Ok_read_stripA (runDf C xs D.d_read_strip) := by
  intro t st hl
  obtain ⟨f1, f2, f3⟩ := split_facts t
  have hm := mt_split (new := false) (st := st) (t := t) (by omega)
  have hwd : ∀ w ∈ PySem.Txt.split t " ", lcxSem [3] (evI C (.chars (.var 2))) (.nm 3) (evE C D.d_read_strip_e1) [some (.str t), none, some (.str w), none] st = (match oMap cellOf w.cps.toList with | some c => R.ok (.lst (c.map .int)) st | none => R.exc "BadText" (some 0) st) := fun w hw => by
    have := lcx_mapM (C := C) (env := [some (.str t), none, some (.str w), none]) (st := st) (st1 := st) (own := [3]) (it := .chars (.var 2)) (tg := .nm 3) (e := D.d_read_strip_e1) (ws := w.cps.toList) (c := "BadText") (r := some 0) (fun k : Nat => .str ⟨#[k]⟩) (fun k => (cellOf k).map Val.int) (chars_any rfl (by have := f1 w hw; omega)) (by
      intro k hk
      refine ⟨_, rfl, ?_⟩
      have := hc k st
      generalize (⟨#[k]⟩ : Str) = S at *
      unfold D.d_read_strip_e1
      cases hco : cellOf k with
      | none =>
        rw [hco] at this
        simp [wipe, this]
      | some i =>
        rw [hco] at this
        simp [wipe, this])
    rw [this, oMap_map]
    cases oMap cellOf w.cps.toList <;> rfl
  have hst := lcx_mapM (C := C) (env := [some (.str t), none, none, none]) (st := st) (st1 := st) (own := [2]) (it := .seq (.mth false .split (.var 0) (.cons (.str " ") .nil))) (tg := .nm 2) (e := D.d_read_strip_e0) (ws := PySem.Txt.split t " ") (c := "BadText") (r := some 0) (fun w : Str => .str w) (fun w => (wordOf w).map cv) (by
    simp [hm, mk]) (by
    intro w hw
    refine ⟨_, rfl, ?_⟩
    have := hwd w hw
    unfold D.d_read_strip_e0
    unfold wordOf
    have hlw := f1 w hw
    cases ho : oMap cellOf w.cps.toList with
    | none =>
      rw [ho] at this
      simp [wipe, this]
    | some c =>
      rw [ho] at this
      simp [wipe, this, cv])
  rw [oMap_map] at hst
  have e4 := hb (.int 0) st
  unfold readS colsOf
  unfold D.d_read_strip
  cases ho : oMap wordOf (PySem.Txt.split t " ") with
  | none =>
    rw [ho] at hst
    simp [exSs, hst]
  | some s =>
    rw [ho] at hst
    have hgs := hg s st
    have ht : (.tup (s.map cv) : Val) = sv s := rfl
    by_cases k : goodStrip s = true
    · rw [k] at hgs
      simp [exSs, hst, ht, hgs, k]
    · rw [Bool.not_eq_true] at k
      rw [k] at hgs
      simp [exSs, hst, ht, hgs, k, e4]
end P
/-! P141: k06: what is asked, what the law reads. -/
namespace P
open PySem (Str PyData)
open Rc
variable {C : Str → List Val → M Val} {xs : List Str}
def askV (t : Str) : Val := match readS t with
  | some s => sv s
  | none => .lst [.int 0]
def dueV (t : Str) : Val := match readS t with
  | some s => sv s
  | none => .non
def Ok_law_asked06 (F : Fn) : Prop := ∀ (t : Str) (st : Store), t.length ≤ 10000000 → F [.str t] st = .ok (askV t) st
theorem d_law_asked4_ok (x0 : xs.contains ("BadText" : Str) = true) (hr : Ok_read_stripA (C "read_strip")) : Ok_law_asked06 (runDf C xs D.d_law_asked4) := by
  intro t st hl
  have e := hr t st hl
  simp only [List.contains_iff_mem] at x0
  unfold askV
  unfold D.d_law_asked4
  cases h : readS t with
  | none =>
    rw [h] at e
    simp [exSs, e, x0, subOf]
  | some s =>
    rw [h] at e
    simp [exSs, e]
theorem cell_in {k : Nat} : (cellOf k).isSome = true ↔ k ∈ [63, 48, 49, 50, 51, 52, 53, 54, 55, 56, 57] := by
  unfold cellOf
  constructor
  · intro h
    split at h
    · rename_i e
      subst e
      simp
    · split at h
      · have : k = 48 ∨ k = 49 ∨ k = 50 ∨ k = 51 ∨ k = 52 ∨ k = 53 ∨ k = 54 ∨ k = 55 ∨ k = 56 ∨ k = 57 := by omega
        simp [this]
      · cases h
  · intro h
    simp at h
    rcases h with rfl | rfl | rfl | rfl | rfl | rfl | rfl | rfl | rfl | rfl | rfl <;> decide
theorem sgn_in {st : Store} {k : Nat} : opIn st (.str ⟨#[k]⟩) (.str "?0123456789") = some (cellOf k).isSome := by
  show some (!(PySem.Builtin.Str.occurrences ("?0123456789" : Str) ⟨#[k]⟩ 0 ("?0123456789" : Str).length 1).isEmpty) = _
  rw [PySem.StrLaws.found_one]
  congr 1
  have e : ("?0123456789" : Str).cps.toList = [63, 48, 49, 50, 51, 52, 53, 54, 55, 56, 57] := by decide +kernel
  rw [e, Bool.eq_iff_iff, decide_eq_true_eq, cell_in]
theorem sindex_of {st : Store} {a b : Str} {n : Nat} {j : Int} (h : (PySem.Builtin.Str.occurrences a b 0 a.length 1).head? = some n) (hn : (n : Int) = j) : mtOp false .sindex (.str a) [.str b] st = .ok (.int j) st := by
  show mtStr false .sindex a [.str b] st = _
  unfold mtStr
  dsimp only
  cases e : PySem.Builtin.Str.occurrences a b 0 a.length 1 with
  | nil => rw [e] at h; cases h
  | cons i r =>
    rw [e] at h
    cases h
    rw [← hn]
    rfl
theorem sgn_ix {st : Store} {k : Nat} {i : Int} (h : cellOf k = some i) : mtOp false .sindex (.str "?0123456789") [.str ⟨#[k]⟩] st = .ok (.int (i + 1)) st := by
  have hk := cell_in.mp (show (cellOf k).isSome = true by rw [h]; rfl)
  simp at hk
  refine sindex_of (n := if k = 63 then 0 else k - 47) ?_ ?_
  · rcases hk with rfl | rfl | rfl | rfl | rfl | rfl | rfl | rfl | rfl | rfl | rfl <;> decide +kernel
  · unfold cellOf at h
    split at h
    · rename_i e
      cases h
      rw [if_pos e]
      rfl
    · split at h
      · cases h
        rw [if_neg (by assumption)]
        omega
      · cases h
theorem oMap_all {α β : Type} {f : α → Option β} : ∀ {l : List α}, (l.all fun x => (f x).isSome) = (oMap f l).isSome
  | [] => rfl
  | x :: l => by
    unfold oMap
    rw [List.all_cons, oMap_all]
    cases f x with
    | none => rfl
    | some y =>
      dsimp only [Option.isSome]
      cases oMap f l <;> rfl
theorem oMap_at {α β : Type} {f : α → Option β} : ∀ {l : List α} {ys : List β}, oMap f l = some ys → ∀ x ∈ l, ∃ y, f x = some y
  | [], _, _, _, hx => by cases hx
  | a :: l, ys, h, x, hx => by
    unfold oMap at h
    cases ha : f a with
    | none => rw [ha] at h; cases h
    | some y =>
      rw [ha] at h
      dsimp only at h
      rcases List.mem_cons.mp hx with rfl | hx
      · exact ⟨y, ha⟩
      · cases ho : oMap f l with
        | none => rw [ho] at h; cases h
        | some zs => exact oMap_at ho x hx
theorem oMap_len {α β : Type} {f : α → Option β} : ∀ {l : List α} {ys : List β}, oMap f l = some ys → ys.length = l.length
  | [], ys, h => by
    unfold oMap at h
    cases h
    rfl
  | a :: l, ys, h => by
    unfold oMap at h
    cases ha : f a with
    | none => rw [ha] at h; cases h
    | some y =>
      rw [ha] at h
      dsimp only at h
      cases ho : oMap f l with
      | none => rw [ho] at h; cases h
      | some zs =>
        rw [ho] at h
        cases h
        rw [List.length_cons, List.length_cons, oMap_len ho]
theorem oMap_get {α β : Type} {f : α → Option β} {d : α → β} (hd : ∀ x y, f x = some y → d x = y) : ∀ {l : List α} {ys : List β}, oMap f l = some ys → l.map d = ys
  | [], ys, h => by
    unfold oMap at h
    cases h
    rfl
  | a :: l, ys, h => by
    unfold oMap at h
    cases ha : f a with
    | none => rw [ha] at h; cases h
    | some y =>
      rw [ha] at h
      dsimp only at h
      cases ho : oMap f l with
      | none => rw [ho] at h; cases h
      | some zs =>
        rw [ho] at h
        cases h
        rw [List.map_cons, hd a y ha, oMap_get hd ho]
/-- the law's look at a word -/
theorem word_read {w : Str} {t : Str} {l : Nat} {q2 q3 q4 : Option Val} {st : Store} (hl : w.length ≤ 16777216) : lcSem false [4] (evI C (.chars (.var 2))) (.nm 4) (evT C .nil) (evE C D.d_law_read_e1) [some (.str t), some (.loc l), some (.str w), q3, q4] st = .ok (.lst (w.cps.toList.map fun k => .bl (cellOf k).isSome)) st := by
  refine lc_mapA (fun k : Nat => .str ⟨#[k]⟩) (fun k => .bl (cellOf k).isSome) (chars_any rfl hl) ?_
  intro k hk
  refine ⟨_, rfl, ?_⟩
  have e := sgn_in (st := st) (k := k)
  unfold D.d_law_read_e1
  generalize (⟨#[k]⟩ : Str) = S at *
  simp [wipe, e]
theorem word_cells {w : Str} {t : Str} {l : Nat} {q2 q3 q4 : Option Val} {st : Store} {c : Col} (hc : wordOf w = some c) (hl : w.length ≤ 16777216) : lcSem false [4] (evI C (.chars (.var 2))) (.nm 4) (evT C .nil) (evE C D.d_law_read_e2) [some (.str t), some (.loc l), some (.str w), q3, q4] st = .ok (.lst (c.map .int)) st := by
  have key := lc_mapA (C := C) (env := [some (.str t), some (.loc l), some (.str w), q3, q4]) (st := st) (st1 := st) (own := [4]) (it := .chars (.var 2)) (tg := .nm 4) (e := D.d_law_read_e2) (ws := w.cps.toList) (fun k : Nat => .str ⟨#[k]⟩) (fun k => .int ((cellOf k).getD 0)) (chars_any rfl hl) (by
    intro k hk
    refine ⟨_, rfl, ?_⟩
    obtain ⟨i, hi⟩ := oMap_at hc k hk
    have e := sgn_ix (st := st) hi
    unfold D.d_law_read_e2
    rw [hi]
    generalize (⟨#[k]⟩ : Str) = S at *
    simp [wipe, e])
  rw [key]
  have := oMap_get (d := fun k => (cellOf k).getD 0) (fun x y e => by rw [e]; rfl) hc
  rw [← this, List.map_map]
  rfl
def Ok_law_read (F : Fn) : Prop := ∀ (t : Str) (st : Store), t.length ≤ 10000000 → ∃ ext, F [.str t] st = .ok (dueV t) (st ++ ext)
theorem read_loop (hso : Ok_law_strip_ok (C "_law_strip_ok")) {t : Str} {st : Store} {ys : List Val} {ss : Ss} {N : Env → Store → Prop} {T : Val → Store → Prop} : ∀ {ws : List Str} {acc : Strip} {q2 q3 q4 : Option Val}, (∀ w ∈ ws, w.length ≤ 16777216) → acc.length + ws.length ≤ 16777216 →
    (∀ cols q2 q3 q4, oMap wordOf ws = some cols → WP (exSs C xs ss [some (.str t), some (.loc st.length), q2, q3, q4] (st ++ [.lst ((acc ++ cols).map cv)])) N T) →
    (oMap wordOf ws = none → ∀ acc', T .non (st ++ [.lst acc'])) →
    WPK (forLoop (exSs C xs D.d_law_read_b0) (.nm 2) (Still ⟨ys, none⟩) (ws.map Val.str) [some (.str t), some (.loc st.length), q2, q3, q4] (st ++ [.lst (acc.map cv)])) C xs ss N T
  | [], acc, q2, q3, q4, _, _, h1, _ => by
    refine wpk_forN ?_
    have := h1 [] q2 q3 q4 rfl
    rwa [List.append_nil] at this
  | w :: ws, acc, q2, q3, q4, hl, hn, h1, h2 => by
    rw [List.map_cons]
    refine wpk_forU (env' := [some (.str t), some (.loc st.length), some (.str w), q3, q4]) rfl ?_
    have hlw := hl w (List.mem_cons_self ..)
    have hlc := word_read (C := C) (t := t) (l := st.length) (q2 := q2) (q3 := q3) (q4 := q4) (st := st ++ [.lst (acc.map cv)]) hlw
    have hall : ∀ st, biAll st [.lst (w.cps.toList.map fun k => .bl (cellOf k).isSome)] = some (.bl (wordOf w).isSome) := fun st => by
      have := mo_bl (l := w.cps.toList) (p := fun k => (cellOf k).isSome)
      show ((some _).bind _).map _ = _
      rw [Option.bind_some, this]
      have e2 : (w.cps.toList.map fun k => (cellOf k).isSome).all id = (wordOf w).isSome := by
        rw [List.all_map]
        exact oMap_all
      show some (Val.bl ((w.cps.toList.map fun k => (cellOf k).isSome).all id)) = _
      rw [e2]
    cases hw : wordOf w with
    | none =>
      rw [hw] at hall
      have := h2 (by unfold oMap; rw [hw]) (acc.map cv)
      unfold D.d_law_read_b0
      simp [hlc, hall, -List.map_append]
      exact this
    | some c =>
      rw [hw] at hall
      have hlc2 := word_cells (C := C) (t := t) (l := st.length) (q2 := q2) (q3 := q3) (q4 := q4) (st := st ++ [.lst (acc.map cv)]) hw hlw
      have hm : (st ++ [.lst (acc.map cv)])[st.length]? = some (.lst (acc.map cv)) := by simp
      have hap := wr_append (y := .tup (c.map .int)) hm (by simp [PySem.sizeLine] at hn ⊢; omega)
      have hse : (st ++ [Ob.lst (acc.map cv)]).set st.length (.lst (acc.map cv ++ [.tup (c.map .int)])) = st ++ [.lst ((acc ++ [c]).map cv)] := by
        rw [List.set_append_right _ _ (by omega)]
        simp [cv]
      rw [hse] at hap
      have ih := read_loop hso (t := t) (st := st) (ys := ys) (ss := ss) (N := N) (T := T) (ws := ws) (acc := acc ++ [c]) (q2 := some (.str w)) (q3 := q3) (q4 := q4) (fun z hz => hl z (List.mem_cons_of_mem _ hz)) (by simp at hn ⊢; omega) (fun cols a b d ho => by
        have := h1 (c :: cols) a b d (by unfold oMap; rw [hw]; dsimp only; rw [ho]; rfl)
        rwa [List.append_assoc]) (fun ho => h2 (by unfold oMap; rw [hw]; dsimp only; rw [ho]; rfl))
      have hb : WP (exSs C xs D.d_law_read_b0 [some (.str t), some (.loc st.length), some (.str w), q3, q4] (st ++ [.lst (acc.map cv)])) (fun e s => e = [some (.str t), some (.loc st.length), some (.str w), q3, q4] ∧ s = st ++ [.lst ((acc ++ [c]).map cv)]) (fun _ _ => False) := by
        unfold D.d_law_read_b0
        generalize hA : st ++ [Ob.lst (acc.map cv)] = SA at *
        generalize hB : st ++ [Ob.lst ((acc ++ [c]).map cv)] = SB at *
        simp [hlc, hall, hlc2, hm, hap, PySem.sizeLine]
      refine wp_mono hb ?_ (fun _ _ h => h.elim)
      rintro _ _ ⟨rfl, rfl⟩
      exact ih
theorem d_law_readA_ok (hso : Ok_law_strip_ok (C "_law_strip_ok")) : Ok_law_read (runDf C xs D.d_law_read) := by
  intro t st hl
  suffices key : ∃ v st', runDf C xs D.d_law_read [.str t] st = .ok v st' ∧ (v = dueV t ∧ ∃ ext, st' = st ++ ext) by
    obtain ⟨v, st', e, rfl, ext, rfl⟩ := key
    exact ⟨ext, e⟩
  refine wp_run rfl ?_
  obtain ⟨f1, f2, f3⟩ := split_facts t
  have hm := mt_split (new := false) (st := st ++ [.lst []]) (t := t) (by omega)
  unfold D.d_law_read
  rw [wp_cons]
  simp [-wp_cons, -Still]
  rw [wp_cons]
  simp [hm, mk, -wp_cons, -Still]
  have main := read_loop (C := C) (xs := xs) hso (t := t) (st := st) (ys := (PySem.Txt.split t " ").map Val.str) (ss := (.cons (.asg (.nm 3) (.bi false .tuple (.cons (.var 1) .nil))) (.cons (.ret (.ife (.call "_law_strip_ok" .raw (.cons (.var 3) .nil)) (.var 3) .non)) .nil))) (N := fun _ st1 => Val.non = dueV t ∧ ∃ ext, st1 = st ++ ext) (T := fun v st' => v = dueV t ∧ ∃ ext, st' = st ++ ext) (ws := PySem.Txt.split t " ") (acc := []) (q2 := none) (q3 := none) (q4 := none) (fun w hw => by have := f1 w hw; omega) (by simp; omega) (fun cols a b d ho => by
    rw [List.nil_append]
    have hs := hso cols (st ++ [.lst (cols.map cv)])
    have e1 : (st ++ [Ob.lst (cols.map cv)])[st.length]? = some (.lst (cols.map cv)) := by simp
    have hdue : dueV t = if goodStrip cols = true then sv cols else .non := by
      unfold dueV readS colsOf
      rw [ho]
      dsimp only
      by_cases k : goodStrip cols = true
      · rw [if_pos k, if_pos k]
      · rw [if_neg k, if_neg k]
    have hln : cols.length = (PySem.Txt.split t " ").length := oMap_len ho
    have ht : (.tup (cols.map cv) : Val) = sv cols := rfl
    have hz : cols.length ≤ 16777216 := by omega
    rw [hdue]
    generalize hA : st ++ [Ob.lst (cols.map cv)] = SA at *
    by_cases k : goodStrip cols = true
    · rw [k] at hs
      rw [if_pos k]
      simp [e1, ht, hs, hz, PySem.sizeLine]
      exact ⟨_, hA.symm⟩
    · have k2 : goodStrip cols = false := by simpa using k
      rw [k2] at hs
      rw [if_neg k]
      simp [e1, ht, hs, hz, PySem.sizeLine]
      exact ⟨_, hA.symm⟩) (fun ho acc' => ⟨by unfold dueV readS colsOf; rw [ho], _, rfl⟩)
  exact main
end P
/-! P142: k06: texts spoilt. -/
namespace P
open PySem (Str PyData)
open Rc
variable {C : Str → List Val → M Val} {xs : List Str}
def Ok_law_sign (F : Fn) : Prop := ∀ (o : Ob), DrawOb o → ∀ rest : Store, ∃ (k : Nat) (o' : Ob), DrawOb o' ∧ F [.loc 0] (o :: rest) = .ok (.str ⟨#[k]⟩) (o' :: rest)
def signsT : Str := (" 0123456789-. 0123456789-.!\"#$&'()*+,/:;<=>?@ABCDEFGHIJKLMNOPQRSTUVWXYZ[\\]^_" : Str) ++ "\n" ++ "abcdefghijklmnopqrstuvwxyz{|}~" ++ "`"
theorem str_ix {st : Store} {z : Str} {v : Int} (h0 : 0 ≤ v) (h1 : v < (z.length : Nat)) (hz : z.length ≤ 16777216) : ∃ k, ixOp st (.str z) (.int v) = some (.str ⟨#[k]⟩) := by
  obtain ⟨n, rfl⟩ := Int.eq_ofNat_of_zero_le h0
  have hn : n < z.cps.toList.length := by
    have e : z.cps.toList.length = z.length := Array.length_toList ..
    omega
  refine ⟨z.cps.toList[n], ?_⟩
  show (if szOk z.length = true then (L2.atI z.cps.toList (n : Nat)).map fun c => Val.str ⟨#[c]⟩ else none) = _
  rw [if_pos (show szOk z.length = true from decide_eq_true hz), atI_nat (i := n) (List.getElem?_eq_getElem hn)]
  rfl
theorem d_law_sign_ok (hp : Ok_law_pull (C "_law_pull")) : Ok_law_sign (runDf C xs D.d_law_sign) := by
  intro o ho rest
  have hlen : signsT.length = 108 := by decide +kernel
  obtain ⟨v, o1, h1, a1, b1, e1⟩ := hp o ho 108 (by decide) (by decide) rest
  obtain ⟨k, hk⟩ := str_ix (st := o1 :: rest) (z := signsT) a1 (by omega) (by omega)
  refine ⟨k, o1, h1, ?_⟩
  have c1 : ∀ st, opAdd st (.str " 0123456789-. 0123456789-.!\"#$&'()*+,/:;<=>?@ABCDEFGHIJKLMNOPQRSTUVWXYZ[\\]^_") (.str "\n") = some (.v (.str ((" 0123456789-. 0123456789-.!\"#$&'()*+,/:;<=>?@ABCDEFGHIJKLMNOPQRSTUVWXYZ[\\]^_" : Str) ++ "\n"))) := fun st => by
    rw [e_addS, if_pos (by decide +kernel)]
  generalize hA : ((" 0123456789-. 0123456789-.!\"#$&'()*+,/:;<=>?@ABCDEFGHIJKLMNOPQRSTUVWXYZ[\\]^_" : Str) ++ "\n") = A at *
  have c2 : ∀ st, opAdd st (.str A) (.str "abcdefghijklmnopqrstuvwxyz{|}~") = some (.v (.str (A ++ "abcdefghijklmnopqrstuvwxyz{|}~"))) := fun st => by
    rw [e_addS, if_pos (by rw [← hA]; decide +kernel)]
  generalize hB : A ++ "abcdefghijklmnopqrstuvwxyz{|}~" = B at *
  have c3 : ∀ st, opAdd st (.str B) (.str "`") = some (.v (.str signsT)) := fun st => by
    rw [e_addS, if_pos (by rw [← hB, ← hA]; decide +kernel), ← hB, ← hA]
    rfl
  have c4 : ∀ st, biLen st [.str signsT] = some (.int 108) := fun st => by
    rw [e_lenS, hlen]
    rfl
  generalize signsT = Z at *
  unfold D.d_law_sign
  generalize (" 0123456789-. 0123456789-.!\"#$&'()*+,/:;<=>?@ABCDEFGHIJKLMNOPQRSTUVWXYZ[\\]^_" : Str) = L1 at *
  generalize ("abcdefghijklmnopqrstuvwxyz{|}~" : Str) = L2 at *
  simp [exSs, c1, c2, c3, c4, e1, hk]
theorem sum_le2 {m : Nat} : ∀ {l : List Nat}, (∀ x ∈ l, x ≤ m) → l.sum ≤ l.length * m
  | [], _ => by simp
  | x :: l, h => by
    have := sum_le2 (l := l) fun y hy => h y (List.mem_cons_of_mem _ hy)
    have hx := h x (List.mem_cons_self ..)
    simp [Nat.add_mul]
    omega
theorem join_sp {st : Store} {l : Nat} {ws : List Str} {n : Nat} (h : st[l]? = some (.lst (ws.map .str))) (hn : n ≤ 4000) (h1 : ws.length ≤ n + 2) (h2 : ∀ w ∈ ws, w.length ≤ n + 1) : joinOp st " " (.loc l) = some (PySem.Txt.join " " ws) ∧ (PySem.Txt.join " " ws).length ≤ (n + 2) * (n + 2) := by
  have hs := sum_le2 (m := n + 1) (l := ws.map (·.length)) (by
    intro x hx
    obtain ⟨w, hw, rfl⟩ := List.mem_map.mp hx
    exact h2 w hw)
  rw [List.length_map] at hs
  have hm : ws.length * (n + 1) ≤ (n + 2) * (n + 1) := Nat.mul_le_mul_right _ h1
  have hsq : (n + 2) * (n + 2) = (n + 2) * (n + 1) + (n + 2) := by rw [← Nat.mul_succ]
  have hbig : (n + 2) * (n + 2) ≤ 4002 * 4002 := Nat.mul_le_mul (by omega) (by omega)
  have e1 : (" " : Str).length = 1 := rfl
  constructor
  · have := join_ok (st := st) (a := " ") (l := ws) (f := fun w => w) (by rw [List.map_id', e1]; omega)
    rw [List.map_id'] at this
    unfold joinOp at this ⊢
    have hq : seqOf st (.loc l) = seqOf st (.lst (ws.map fun i => .str i)) := by
      show lstOf st (.loc l) = _
      rw [e_lstO, h]
      rfl
    rw [hq]
    exact this
  · have := join_len (a := " ") (ys := ws)
    rw [e1] at this
    omega
def TSp (n : Nat) (rest : Store) (v : Val) (st : Store) : Prop := ∃ t' o' ext, DrawOb o' ∧ t'.length ≤ (n + 2) * (n + 2) ∧ v = Val.str t' ∧ st = o' :: (rest ++ ext)
def Ok_law_spoilt (F : Fn) : Prop := ∀ (o : Ob), DrawOb o → ∀ (rest : Store) (t : Str), t.length ≤ 4000 → ∃ v st, F [.loc 0, .str t] (o :: rest) = .ok v st ∧ TSp t.length rest v st
theorem cutS_len {z : Str} {lo hi : Option Int} : (⟨(cut z.cps.toList lo hi).toArray⟩ : Str).length ≤ z.length := by
  have := cut_le (zs := z.cps.toList) (lo := lo) (hi := hi)
  have e : z.cps.toList.length = z.length := Array.length_toList ..
  have e2 : (⟨(cut z.cps.toList lo hi).toArray⟩ : Str).length = (cut z.cps.toList lo hi).length := List.size_toArray ..
  omega
theorem slS {st : Store} {z : Str} {lo hi : Option Int} (h : z.length ≤ 16777216) : slOp st (.str z) lo hi = some (.v (.str ⟨(cut z.cps.toList lo hi).toArray⟩)) := by
  show (if z.length ≤ 16777216 then _ else none) = _
  rw [if_pos h]
theorem wr_of {st : Store} {m : Mt} {l : Nat} {as xs ys : List Val} {r : Val} (h : st[l]? = some (.lst xs)) (hm : mtLst st m as xs = some (r, ys)) (hz : ys.length ≤ 16777216) : wrLst m l as st = .ok r (st.set l (.lst ys)) := by
  unfold wrLst
  rw [h]
  show (match mtLst st m as xs with | some (r, ys) => if szOk ys.length = true then R.ok r (st.set l (.lst ys)) else .stuck | none => .stuck) = _
  rw [hm]
  show (if szOk ys.length = true then _ else _) = _
  rw [if_pos (show szOk ys.length = true from decide_eq_true hz)]
theorem wr_insert {st : Store} {l k : Nat} {vs : List Val} {y : Val} (h : st[l]? = some (.lst vs)) (hk : k < 100000) (hz : vs.length + 1 ≤ 100000) : wrLst .insert l [.int (k : Nat), y] st = .ok .non (st.set l (.lst (vs.take k ++ [y] ++ vs.drop k))) := by
  have hl : (vs.take k ++ [y] ++ vs.drop k).length ≤ 100000 := by
    rw [List.length_append, List.length_append, List.length_take, List.length_drop, List.length_singleton]
    omega
  have e1 : decide (0 ≤ ((k : Nat) : Int)) = true := decide_eq_true (by omega)
  have e2 : decide (((k : Nat) : Int) < 2 ^ 63) = true := decide_eq_true (by omega)
  have e3 : ((k : Nat) : Int).toNat = k := by simp
  refine wr_of h ?_ (by omega)
  unfold mtLst
  simp only [e1, e2, e3, Bool.and_self, if_true]
theorem wr_popAt {st : Store} {l k : Nat} {vs : List Val} {y : Val} (h : st[l]? = some (.lst vs)) (hy : vs[k]? = some y) (hk : k < 100000) (hz : vs.length ≤ 100000) : wrLst .pop l [.int (k : Nat)] st = .ok y (st.set l (.lst (vs.eraseIdx k))) := by
  have hkl := (List.getElem?_eq_some_iff.mp hy).1
  have hl : (vs.eraseIdx k).length ≤ 100000 := by
    have := List.length_eraseIdx_le vs k
    omega
  have e1 : decide (-(2 ^ 63) ≤ ((k : Nat) : Int)) = true := decide_eq_true (by omega)
  have e2 : decide (((k : Nat) : Int) < 2 ^ 63) = true := decide_eq_true (by omega)
  refine wr_of h ?_ (by omega)
  unfold mtLst
  simp only [seq_at hkl, Option.bind_some, e1, e2, Bool.and_self, if_true, hy, Option.map_some]
theorem map_eraseIdx {α β : Type} {f : α → β} : ∀ {l : List α} {k : Nat}, (l.map f).eraseIdx k = (l.eraseIdx k).map f
  | [], _ => rfl
  | _ :: _, 0 => rfl
  | x :: l, k + 1 => by
    show f x :: (l.map f).eraseIdx k = f x :: (l.eraseIdx k).map f
    rw [map_eraseIdx]
theorem app_len {a b : Str} : (a ++ b).length = a.length + b.length := by
  have h1 : (TL.tl (a ++ b)).length = (a ++ b).length := Array.length_toList ..
  have h2 : (TL.tl a).length = a.length := Array.length_toList ..
  have h3 : (TL.tl b).length = b.length := Array.length_toList ..
  rw [← h1, TL.tl_append, List.length_append, h2, h3]
theorem add_str {st : Store} {a b : Str} (h : a.length + b.length ≤ 16777216) : opAdd st (.str a) (.str b) = some (.v (.str (a ++ b))) := by
  rw [e_addS, if_pos (show szOk (a.length + b.length) = true from decide_eq_true h)]
theorem d_law_spoilt_ok (hp : Ok_law_pull (C "_law_pull")) (hsg : Ok_law_sign (C "_law_sign")) : Ok_law_spoilt (runDf C xs D.d_law_spoilt) := by
  intro o ho rest t hl
  refine wp_run rfl ?_
  obtain ⟨f1, f2, f3⟩ := split_facts t
  obtain ⟨way, o1, ho1, a1, b1, e1⟩ := hp o ho 10 (by decide) (by decide) rest
  have hm := mt_split (new := true) (st := o1 :: rest) (t := t) (by omega)
  generalize hws : PySem.Txt.split t " " = ws at *
  obtain ⟨i, o2, ho2, a2, b2, e2⟩ := hp o1 ho1 (ws.length : Nat) (by omega) (by omega) (rest ++ [.lst (ws.map .str)])
  obtain ⟨k, rfl⟩ := Int.eq_ofNat_of_zero_le a2
  have hk : k < ws.length := by omega
  have hml : ∀ o : Ob, (o :: (rest ++ [Ob.lst (ws.map Val.str)]))[rest.length + 1]? = some (.lst (ws.map .str)) := fun o => by simp
  have hset : ∀ (o : Ob) (vs : List Val), (o :: (rest ++ [Ob.lst (ws.map Val.str)])).set (rest.length + 1) (.lst vs) = o :: (rest ++ [.lst vs]) := fun o vs => by
    rw [List.set_cons_succ, List.set_append_right _ _ (by omega)]
    simp
  have hat : L2.atI (ws.map Val.str) (k : Int) = some (.str ws[k]) := atI_nat (by simp [hk])
  have hix : L2.ixN (ws.map Val.str).length (k : Int) = some k := by
    have hk2 : k < (ws.map Val.str).length := by rw [List.length_map]; exact hk
    unfold L2.ixN
    rw [if_pos (by omega), if_pos (by omega)]
    simp
  have hwk := f1 ws[k] (List.getElem_mem hk)
  have fin : ∀ (o : Ob) (ext : Store) (l : Nat) (vs : List Str), DrawOb o → (o :: (rest ++ ext))[l]? = some (.lst (vs.map .str)) → vs.length ≤ t.length + 2 → (∀ w ∈ vs, w.length ≤ t.length + 1) → joinOp (o :: (rest ++ ext)) " " (.loc l) = some (PySem.Txt.join " " vs) ∧ TSp t.length rest (.str (PySem.Txt.join " " vs)) (o :: (rest ++ ext)) := fun o ext l vs ho h h1 h2 => by
    obtain ⟨j1, j2⟩ := join_sp h hl h1 h2
    exact ⟨j1, _, _, _, ho, j2, rfl, rfl⟩
  unfold D.d_law_spoilt
  rw [wp_cons]
  simp [e1, -wp_cons]
  rw [wp_cons]
  simp [hm, mk, -wp_cons]
  rw [wp_cons]
  simp [hml, e2, -wp_cons]
  have hgo : way = 0 ∨ way = 1 ∨ way = 2 ∨ way = 3 ∨ way = 4 ∨ way = 5 ∨ 6 ≤ way := by omega
  rcases hgo with rfl | rfl | rfl | rfl | rfl | rfl | h6
  · -- a word twice
    obtain ⟨j, o3, ho3, a3, b3, e3⟩ := hp o2 ho2 (ws.length : Nat) (by omega) (by omega) (rest ++ [.lst (ws.map .str)])
    obtain ⟨j, rfl⟩ := Int.eq_ofNat_of_zero_le a3
    have hj : j < ws.length := by omega
    have hatj : L2.atI (ws.map Val.str) (j : Int) = some (.str ws[j]) := atI_nat (by simp [hj])
    have hw := wr_insert (k := k) (y := .str ws[j]) (hml o3) (by omega) (by rw [List.length_map]; omega)
    rw [hset] at hw
    have hvs : (ws.map Val.str).take k ++ [.str ws[j]] ++ (ws.map Val.str).drop k = (ws.take k ++ [ws[j]] ++ ws.drop k).map Val.str := by simp
    rw [hvs] at hw
    obtain ⟨jn, fn⟩ := fin o3 [.lst ((ws.take k ++ [ws[j]] ++ ws.drop k).map Val.str)] (rest.length + 1) (ws.take k ++ [ws[j]] ++ ws.drop k) ho3 (by simp) (by simp; omega) (fun w hw => by
      have : w ∈ ws := by
        rcases List.mem_append.mp hw with hw | hw
        · rcases List.mem_append.mp hw with hw | hw
          · exact List.mem_of_mem_take hw
          · rw [List.mem_singleton.mp hw]
            exact List.getElem_mem hj
        · exact List.mem_of_mem_drop hw
      have := f1 w this
      omega)
    generalize (ws.take k ++ [ws[j]] ++ ws.drop k).map Val.str = V2 at *
    generalize PySem.Txt.join " " (ws.take k ++ [ws[j]] ++ ws.drop k) = JJ at *
    generalize ws[j] = wj at *
    rw [wp_cons]
    simp [-wp_cons]
    rw [wp_cons]
    simp [hml, e3, hatj, hw, PySem.sizeLine, -wp_cons]
    simp [jn]
    exact fn
  · have hw := wr_popAt (k := k) (hml o2) (show (ws.map Val.str)[k]? = some (.str ws[k]) by simp [hk]) (by omega) (by rw [List.length_map]; omega)
    rw [hset] at hw
    have hvs : (ws.map Val.str).eraseIdx k = (ws.eraseIdx k).map Val.str := by rw [map_eraseIdx]
    rw [hvs] at hw
    obtain ⟨jn, fn⟩ := fin o2 [.lst ((ws.eraseIdx k).map Val.str)] (rest.length + 1) (ws.eraseIdx k) ho2 (by simp) (by have := List.length_eraseIdx_le ws k; omega) (fun w hw => by
      have := f1 w (List.mem_of_mem_eraseIdx hw)
      omega)
    generalize (ws.eraseIdx k).map Val.str = V2 at *
    generalize PySem.Txt.join " " (ws.eraseIdx k) = JJ at *
    generalize ws[k] = wk at *
    rw [wp_cons]
    simp [-wp_cons]
    rw [wp_cons]
    simp [-wp_cons]
    rw [wp_cons]
    simp [hml, hw, PySem.sizeLine, -wp_cons]
    simp [jn]
    exact fn
  · have hsl := slS (st := o2 :: (rest ++ [Ob.lst (ws.map Val.str)])) (z := ws[k]) (lo := some 1) (hi := none) (by omega)
    have hcl := cutS_len (z := ws[k]) (lo := some 1) (hi := none)
    generalize hu : (⟨(cut ws[k].cps.toList (some 1) none).toArray⟩ : Str) = u at *
    have hvs : (ws.map Val.str).set k (.str u) = (ws.set k u).map Val.str := by rw [List.map_set]
    have hs1 := hset o2 ((ws.set k u).map Val.str)
    obtain ⟨jn, fn⟩ := fin o2 [.lst ((ws.set k u).map Val.str)] (rest.length + 1) (ws.set k u) ho2 (by simp) (by simp; omega) (fun w hw => by
      rcases List.mem_or_eq_of_mem_set hw with hw | rfl
      · have := f1 w hw
        omega
      · omega)
    generalize ws[k] = wk at *
    rw [wp_cons]
    simp [-wp_cons]
    rw [wp_cons]
    simp [-wp_cons]
    rw [wp_cons]
    simp [-wp_cons]
    rw [wp_cons]
    simp [hml, hat, hsl, hix, hvs, hs1, -List.length_map, -List.map_set, -wp_cons]
    generalize (ws.set k u).map Val.str = V2 at *
    generalize PySem.Txt.join " " (ws.set k u) = JJ at *
    simp [jn]
    exact fn
  · obtain ⟨j, o3, ho3, a3, b3, e3⟩ := hp o2 ho2 4 (by omega) (by omega) (rest ++ [.lst (ws.map .str)])
    obtain ⟨c, hc⟩ := str_ix (st := o3 :: (rest ++ [.lst (ws.map .str)])) (z := "?07x") a3 (by show j < 4; omega) (by decide)
    have hlen : (ws[k] ++ (⟨#[c]⟩ : Str)).length = ws[k].length + 1 := app_len
    have hadd : ∀ st, opAdd st (.str ws[k]) (.str ⟨#[c]⟩) = some (.v (.str (ws[k] ++ ⟨#[c]⟩))) := fun st => add_str (by
      have : (⟨#[c]⟩ : Str).length = 1 := rfl
      omega)
    generalize hu : ws[k] ++ (⟨#[c]⟩ : Str) = u at *
    have hvs : (ws.map Val.str).set k (.str u) = (ws.set k u).map Val.str := by rw [List.map_set]
    have hs1 := hset o3 ((ws.set k u).map Val.str)
    obtain ⟨jn, fn⟩ := fin o3 [.lst ((ws.set k u).map Val.str)] (rest.length + 1) (ws.set k u) ho3 (by simp) (by simp; omega) (fun w hw => by
      rcases List.mem_or_eq_of_mem_set hw with hw | rfl
      · have := f1 w hw
        omega
      · omega)
    generalize ws[k] = wk at *
    generalize (⟨#[c]⟩ : Str) = cS at *
    rw [wp_cons]
    simp [-wp_cons]
    rw [wp_cons]
    simp [-wp_cons]
    rw [wp_cons]
    simp [-wp_cons]
    rw [wp_cons]
    simp [-wp_cons]
    rw [wp_cons]
    simp [hml, hat, e3, hc, hadd, hix, hvs, hs1, -List.length_map, -List.map_set, -wp_cons]
    generalize (ws.set k u).map Val.str = V2 at *
    generalize PySem.Txt.join " " (ws.set k u) = JJ at *
    simp [jn]
    exact fn
  · have hlen : ∀ w : Str, (w ++ ("3" : Str)).length = w.length + 1 := fun w => app_len
    have hlc := lc_new (lc_mapS (C := C) (env := [some (.loc 0), some (.str t), some (.int 4), some (.loc (rest.length + 1)), some (.int (k : Nat)), none, none, none]) (st := o2 :: (rest ++ [.lst (ws.map .str)])) (own := [7]) (it := .seq (.var 3)) (tg := .nm 7) (e := D.d_law_spoilt_e0) (at_ := some (.at (rest.length + 1))) (ws := ws) (fun w => Val.str w) (fun w : Str => .str (w ++ ("3" : Str))) (by simp [items_loc2 (hml o2)]) (hml o2) (by
      intro w hw
      refine ⟨_, rfl, ?_⟩
      have hadd : ∀ st, opAdd st (.str w) (.str "3") = some (.v (.str (w ++ ("3" : Str)))) := fun st => by
        have := f1 w hw
        have e3 : ("3" : Str).length = 1 := rfl
        exact add_str (by omega)
      unfold D.d_law_spoilt_e0
      simp [wipe, hadd]))
    have hvs : (ws.map fun w : Str => Val.str (w ++ ("3" : Str))) = (ws.map fun w : Str => w ++ ("3" : Str)).map Val.str := by rw [List.map_map]; rfl
    rw [hvs] at hlc
    obtain ⟨jn, fn⟩ := fin o2 [.lst (ws.map .str), .lst ((ws.map fun w : Str => w ++ ("3" : Str)).map Val.str)] (rest.length + 2) (ws.map fun w : Str => w ++ ("3" : Str)) ho2 (by simp) (by simp; omega) (fun w hw => by
      obtain ⟨z, hz, rfl⟩ := List.mem_map.mp hw
      have := f1 z hz
      rw [hlen]
      omega)
    generalize PySem.Txt.join " " (ws.map fun w : Str => w ++ ("3" : Str)) = JJ at *
    generalize (ws.map fun w : Str => w ++ ("3" : Str)).map Val.str = V2 at *
    simp at hlc
    rw [wp_cons]
    simp [-wp_cons]
    rw [wp_cons]
    simp [-wp_cons]
    rw [wp_cons]
    simp [-wp_cons]
    rw [wp_cons]
    simp [-wp_cons]
    rw [wp_cons]
    simp [-wp_cons]
    rw [wp_cons]
    simp [hlc, -wp_cons]
    simp [jn]
    exact fn
  · obtain ⟨v, o3, ho3, a3, b3, e3⟩ := hp o2 ho2 (t.length + 1 : Nat) (by omega) (by omega) (rest ++ [.lst (ws.map .str)])
    obtain ⟨c, o4, ho4, e4⟩ := hsg o3 ho3 (rest ++ [.lst (ws.map .str)])
    have hs1 := fun st => slS (st := st) (z := t) (lo := none) (hi := some v) (by omega)
    have hs2 := fun st => slS (st := st) (z := t) (lo := some (v + 1)) (hi := none) (by omega)
    have l1 := cutS_len (z := t) (lo := none) (hi := some v)
    have l2 := cutS_len (z := t) (lo := some (v + 1)) (hi := none)
    generalize (⟨(cut t.cps.toList none (some v)).toArray⟩ : Str) = u1 at *
    generalize (⟨(cut t.cps.toList (some (v + 1)) none).toArray⟩ : Str) = u2 at *
    have hadd := fun st => add_str (st := st) (a := u1) (b := u2) (by omega)
    have hfin : TSp t.length rest (.str (u1 ++ u2)) (o4 :: (rest ++ [.lst (ws.map .str)])) := ⟨_, o4, _, ho4, by
      rw [app_len]
      have : (t.length + 2) * (t.length + 2) = t.length * (t.length + 2) + 2 * (t.length + 2) := Nat.add_mul ..
      have h3 : 0 ≤ t.length * (t.length + 2) := Nat.zero_le _
      omega, rfl, rfl⟩
    have htl : ∀ st, biLen st [.str t] = some (.int (t.length : Nat)) := fun st => by
      rw [e_lenS, if_pos (show szOk t.length = true from decide_eq_true (by show _ ≤ 16777216; omega))]
    have hc1 : ((t.length : Nat) : Int) + 1 = ((t.length + 1 : Nat) : Int) := by simp
    generalize u1 ++ u2 = uu at *
    generalize (⟨#[c]⟩ : Str) = cS at *
    rw [wp_cons]
    simp [-wp_cons]
    rw [wp_cons]
    simp [-wp_cons]
    rw [wp_cons]
    simp [-wp_cons]
    rw [wp_cons]
    simp [-wp_cons]
    rw [wp_cons]
    simp [-wp_cons]
    rw [wp_cons]
    simp [-wp_cons]
    rw [wp_cons]
    rw [← hc1] at e3
    simp [htl, e3, -wp_cons]
    rw [wp_cons]
    simp [e4, -wp_cons]
    simp [hs1, hs2, hadd]
    exact hfin
  · obtain ⟨v, o3, ho3, a3, b3, e3⟩ := hp o2 ho2 (t.length + 1 : Nat) (by omega) (by omega) (rest ++ [.lst (ws.map .str)])
    obtain ⟨c, o4, ho4, e4⟩ := hsg o3 ho3 (rest ++ [.lst (ws.map .str)])
    have hs1 := fun st => slS (st := st) (z := t) (lo := none) (hi := some v) (by omega)
    have hs2 := fun st => slS (st := st) (z := t) (lo := some (v + way % 2)) (hi := none) (by omega)
    have l1 := cutS_len (z := t) (lo := none) (hi := some v)
    have l2 := cutS_len (z := t) (lo := some (v + way % 2)) (hi := none)
    generalize (⟨(cut t.cps.toList none (some v)).toArray⟩ : Str) = u1 at *
    generalize (⟨(cut t.cps.toList (some (v + way % 2)) none).toArray⟩ : Str) = u2 at *
    have hc3 : (⟨#[c]⟩ : Str).length = 1 := rfl
    have hadd1 := fun st => add_str (st := st) (a := u1) (b := ⟨#[c]⟩) (by omega)
    have hadd := fun st => add_str (st := st) (a := u1 ++ ⟨#[c]⟩) (b := u2) (by rw [app_len]; omega)
    have hfin : TSp t.length rest (.str (u1 ++ ⟨#[c]⟩ ++ u2)) (o4 :: (rest ++ [.lst (ws.map .str)])) := ⟨_, o4, _, ho4, by
      rw [app_len, app_len]
      have : (t.length + 2) * (t.length + 2) = t.length * (t.length + 2) + 2 * (t.length + 2) := Nat.add_mul ..
      have h3 : 0 ≤ t.length * (t.length + 2) := Nat.zero_le _
      omega, rfl, rfl⟩
    have htl : ∀ st, biLen st [.str t] = some (.int (t.length : Nat)) := fun st => by
      rw [e_lenS, if_pos (show szOk t.length = true from decide_eq_true (by show _ ≤ 16777216; omega))]
    have hc1 : ((t.length : Nat) : Int) + 1 = ((t.length + 1 : Nat) : Int) := by simp
    rw [← hc1] at e3
    have z0 : ¬ way = 0 := by omega
    have z1 : ¬ way = 1 := by omega
    have z2 : ¬ way = 2 := by omega
    have z3 : ¬ way = 3 := by omega
    have z4 : ¬ way = 4 := by omega
    have z5 : ¬ way < 5 := by omega
    have z6 : ¬ way = 5 := by omega
    generalize u1 ++ (⟨#[c]⟩ : Str) ++ u2 = uu at *
    generalize u1 ++ (⟨#[c]⟩ : Str) = u12 at *
    generalize (⟨#[c]⟩ : Str) = cS at *
    rw [wp_cons]
    simp [z0, -wp_cons]
    rw [wp_cons]
    simp [z1, -wp_cons]
    rw [wp_cons]
    simp [z2, -wp_cons]
    rw [wp_cons]
    simp [z3, -wp_cons]
    rw [wp_cons]
    simp [z4, -wp_cons]
    rw [wp_cons]
    simp [z5, -wp_cons]
    rw [wp_cons]
    simp [htl, e3, -wp_cons]
    rw [wp_cons]
    simp [e4, -wp_cons]
    rw [wp_cons]
    simp [z6, -wp_cons]
    simp [hs1, hs2, hadd1, hadd]
    exact hfin
end P
namespace P
open PySem (Str PyData)
open Rc
variable {C : Str → List Val → M Val} {xs : List Str}
theorem oMap_comp {α β γ : Type} {f : β → Option γ} {g : α → β} : ∀ {l : List α}, oMap f (l.map g) = oMap (fun x => f (g x)) l
  | [] => rfl
  | x :: l => by
    show (match f (g x) with | none => none | some y => (oMap f (l.map g)).map (y :: ·)) = (match f (g x) with | none => none | some y => (oMap (fun x => f (g x)) l).map (y :: ·))
    rw [oMap_comp]
theorem cell_sgC {i : Int} (h0 : -1 ≤ i) (h1 : i ≤ 9) : cellOf (sgC i) = some i := by
  rcases cell_cases h0 h1 with rfl | rfl | rfl | rfl | rfl | rfl | rfl | rfl | rfl | rfl | rfl <;> decide +kernel
theorem readS_strip {s : Strip} (h : goodStrip s = true) : readS (stripText s) = some s := by
  obtain ⟨g1, g2, g3, g4, g5⟩ := good_cols h
  have hc : colsOf (stripText s) = some s := by
    unfold colsOf
    rw [strip_split h, oMap_comp]
    have := oMap_some (f := fun c => wordOf (colText c)) (g := fun c => c) (l := s) (fun c hm => by
      unfold wordOf
      rw [colText_cps, oMap_comp]
      have := oMap_some (f := fun i => cellOf (sgC i)) (g := fun i => i) (l := c) (fun i hi => cell_sgC ((g5 c hm).2 i hi).1 ((g5 c hm).2 i hi).2)
      rw [this, List.map_id'])
    rw [this, List.map_id']
  unfold readS
  rw [hc]
  dsimp only
  rw [if_pos h]
theorem strip_len {s : Strip} (h : goodStrip s = true) : (stripText s).length ≤ 48 := by
  obtain ⟨g1, g2, g3, g4, g5⟩ := good_cols h
  have a := join_len (a := " ") (ys := s.map colText)
  have b := sum_le (m := 3) (l := (s.map colText).map (·.length)) (by
    intro x hx
    obtain ⟨t, ht, rfl⟩ := List.mem_map.mp hx
    obtain ⟨c, hc, rfl⟩ := List.mem_map.mp ht
    have := (g5 c hc).1
    exact col_len (by omega))
  rw [List.length_map, List.length_map] at b
  rw [List.length_map] at a
  have e : (" " : Str).length = 1 := rfl
  rw [e] at a
  unfold stripText
  omega
theorem read_good {t : Str} {s : Strip} (h : readS t = some s) : goodStrip s = true := by
  unfold readS at h
  cases hc : colsOf t with
  | none => rw [hc] at h; cases h
  | some z =>
    rw [hc] at h
    dsimp only at h
    by_cases k : goodStrip z = true
    · rw [if_pos k] at h
      cases h
      exact k
    · rw [if_neg k] at h
      cases h
/-- what is asked and what the law reads, alike -/
theorem ask_due (hL : Ok_law_like (C "_law_like")) (t : Str) : (dueV t = .non ∧ ∀ st, C "_law_like" [askV t, .lst [.int 0]] st = .ok (.bl true) st) ∨ (isNon (dueV t) = false ∧ ∀ st, C "_law_like" [askV t, dueV t] st = .ok (.bl true) st) := by
  unfold askV dueV
  cases h : readS t with
  | none => exact .inl ⟨rfl, fun st => hL.same _ st (.lst (n := 5) (by simp) (by
      intro v hv
      rw [List.mem_singleton.mp hv]
      exact .int 0))⟩
  | some s =>
    refine .inr ⟨rfl, fun st => hL.same _ st (plain_good (n := 3) (read_good h))⟩
def Im06 (ns : List Int) (x S0 : Val) (q5 : Option Val) (e : Env) (st : Store) : Prop := ∃ (t : Str) (o : Ob) (rest : Store), DrawOb o ∧ t.length ≤ 7000000 ∧ e = [some (.scr ns), some (.loc 0), some x, some S0, some (.str t), q5] ∧ st = o :: rest
def In06 (ns : List Int) (e : Env) (st : Store) : Prop := ∃ q2 q3 q4 q5 o rest, DrawOb o ∧ e = [some (.scr ns), some (.loc 0), q2, q3, q4, q5] ∧ st = o :: rest
theorem law_k06 (ns : List Int) (hl : ns.length ≤ 63) (hop : Ok_law_open (C "_law_open")) (hp : Ok_law_pull (C "_law_pull")) (ha : Ok_any_good (C "_law_any_strip")) (hL : Ok_law_like (C "_law_like")) (hw : Ok_law_strip_words (C "_law_strip_words")) (hq : Ok_law_asked06 (C "_law_asked")) (hr : Ok_law_read (C "_law_read")) (hs : Ok_law_spoilt (C "_law_spoilt")) :
    ∃ v st, runDf C xs D.d_law_k06 [.scr ns] [] = .ok v st ∧ v = .bl true := by
  refine wp_run rfl ?_
  unfold D.d_law_k06
  have hr6 : rngOk 0 6 = true := rng_ok (by omega) (by omega)
  simp [hop ns _ hl, hr6, PySem.sizeLine, -Still]
  refine wpk_for (In06 ns) ⟨none, none, none, none, _, [], draw0 ns, rfl, rfl⟩ ?_ ?_
  · rintro x hx env st ⟨q2, q3, q4, q5, o, rest, ho, rfl, rfl⟩
    obtain ⟨v, o1, h1, a1, b1, e1⟩ := hp o ho 3 (by decide) (by decide) rest
    obtain ⟨s, o2, h2, d, e2⟩ := ha o1 h1 (1 + v) (by omega) (by omega) rest
    have hg : goodStrip s = true := d.1
    have hw1 := fun st => hw s st hg
    have hl1 := strip_len hg
    have hqs := fun st => hq (stripText s) st (by omega)
    have hak : askV (stripText s) = sv s := by
      unfold askV
      rw [readS_strip hg]
    rw [hak] at hqs
    have hls := fun st => hL.same (sv s) st (plain_good (n := 3) hg)
    obtain ⟨_, _, f1, t1, o3, ext1, h3, tl1, rfl, rfl⟩ := hs o2 h2 rest (stripText s) (by omega)
    obtain ⟨w, o4, h4, a4, b4, e4⟩ := hp o3 h3 3 (by decide) (by decide) (rest ++ ext1)
    have hb1 : t1.length ≤ 2500 := by
      have : ((stripText s).length + 2) * ((stripText s).length + 2) ≤ 50 * 50 := Nat.mul_le_mul (by omega) (by omega)
      omega
    refine ⟨_, rfl, ?_⟩
    have hd1 : isNon (sv s) = false := rfl
    generalize stripText s = T0 at *
    generalize sv s = S0 at *
    unfold D.d_law_k06_b0
    rw [wp_cons]
    simp [e1, e2, -wp_cons]
    rw [wp_cons]
    simp [hw1, hqs, hls, -wp_cons]
    rw [wp_cons]
    simp [hw1, f1, -wp_cons]
    rw [wp_cons]
    refine wpk_seq (Im06 ns x S0 q5) ?_ ?_
    · by_cases k : w = 0
      · obtain ⟨_, _, f2, t2, o5, ext2, h5, tl2, rfl, rfl⟩ := hs o4 h4 (rest ++ ext1) t1 (by omega)
        have hb2 : t2.length ≤ 7000000 := by
          have : (t1.length + 2) * (t1.length + 2) ≤ 2502 * 2502 := Nat.mul_le_mul (by omega) (by omega)
          omega
        subst k
        simp [e4, f2]
        exact ⟨t2, o5, _, h5, hb2, rfl, rfl⟩
      · simp [e4, k]
        exact ⟨t1, o4, _, h4, by omega, rfl, rfl⟩
    · rintro _ _ ⟨t, o, rest, ho, ht, rfl, rfl⟩
      obtain ⟨ext, e5⟩ := hr t (o :: rest) (by omega)
      have e6 := fun st => hq t st (by omega)
      rcases ask_due hL t with ⟨hd, e7⟩ | ⟨hd, e7⟩
      · rw [hd] at e5
        generalize askV t = AV at *
        rw [wp_cons]
        simp [e5, -wp_cons]
        simp [e6, e7, isNon, PySem.sizeLine]
        exact ⟨_, _, _, _, o, rest ++ ext, ho, rfl, rfl⟩
      · generalize askV t = AV at *
        generalize dueV t = DV at *
        rw [wp_cons]
        simp [e5, -wp_cons]
        simp [e6, e7, hd, PySem.sizeLine]
        exact ⟨_, _, _, _, o, rest ++ ext, ho, rfl, rfl⟩
  · rintro env st ⟨q2, q3, q4, q5, o, rest, ho, rfl, rfl⟩
    simp
end P
namespace L_k06
open PySem L2 Rc P
def defs : List (Str × Df) := [(("good_cell" : Str), D.d_good_cell), (("good_strip" : Str), D.d_good_strip), (("cell_in" : Str), D.d_cell_in), (("read_strip" : Str), D.d_read_strip), (("_law_open" : Str), D.d_law_open), (("_law_pull" : Str), D.d_law_pull), (("_law_num" : Str), D.d_law_num), (("_law_like" : Str), D.d_law_like), (("_law_sign" : Str), D.d_law_sign), (("_law_strip_ok" : Str), D.d_law_strip_ok), (("_law_any_strip" : Str), D.d_law_any_strip), (("_law_strip_words" : Str), D.d_law_strip_words), (("_law_asked" : Str), D.d_law_asked4), (("_law_read" : Str), D.d_law_read), (("_law_spoilt" : Str), D.d_law_spoilt), (("law" : Str), D.d_law_k06), (("BadText" : Str), D.d_BadText)]
def ex : List Str := [("BadText" : Str)]
def ini : List (Str × Str) := []
theorem g__law_open__Ok_law_open (n : Nat) : Ok_law_open (callF defs ini ex (n + 1) "_law_open") := by
  have e := callF_at (defs := defs) (ini := ini) (xs := ex) (n := n + 0) (f := "_law_open") (d := D.d_law_open) (by kernel_rfl) (by kernel_rfl)
  show Ok_law_open (callF defs ini ex (n + 0 + 1) "_law_open")
  rw [e]
  exact d_law_open_ok 
theorem g__law_pull__Ok_law_pull (n : Nat) : Ok_law_pull (callF defs ini ex (n + 1) "_law_pull") := by
  have e := callF_at (defs := defs) (ini := ini) (xs := ex) (n := n + 0) (f := "_law_pull") (d := D.d_law_pull) (by kernel_rfl) (by kernel_rfl)
  show Ok_law_pull (callF defs ini ex (n + 0 + 1) "_law_pull")
  rw [e]
  exact d_law_pull_ok 
theorem g__law_any_strip__Ok_any_good (n : Nat) : Ok_any_good (callF defs ini ex (n + 2) "_law_any_strip") := by
  have e := callF_at (defs := defs) (ini := ini) (xs := ex) (n := n + 1) (f := "_law_any_strip") (d := D.d_law_any_strip) (by kernel_rfl) (by kernel_rfl)
  show Ok_any_good (callF defs ini ex (n + 1 + 1) "_law_any_strip")
  rw [e]
  exact d_law_any_strip_good_ok (g__law_pull__Ok_law_pull (n + 0))
theorem g__law_num__Ok_law_num (n : Nat) : Ok_law_num (callF defs ini ex (n + 1) "_law_num") := by
  have e := callF_at (defs := defs) (ini := ini) (xs := ex) (n := n + 0) (f := "_law_num") (d := D.d_law_num) (by kernel_rfl) (by kernel_rfl)
  show Ok_law_num (callF defs ini ex (n + 0 + 1) "_law_num")
  rw [e]
  exact d_law_num_ok 
theorem g__law_like__Ok_law_like (n : Nat) : Ok_law_like (callF defs ini ex (n + 7) "_law_like") := like_rec (by kernel_rfl) (by kernel_rfl) g__law_num__Ok_law_num 5 n
theorem g__law_strip_words__Ok_law_strip_words (n : Nat) : Ok_law_strip_words (callF defs ini ex (n + 1) "_law_strip_words") := by
  have e := callF_at (defs := defs) (ini := ini) (xs := ex) (n := n + 0) (f := "_law_strip_words") (d := D.d_law_strip_words) (by kernel_rfl) (by kernel_rfl)
  show Ok_law_strip_words (callF defs ini ex (n + 0 + 1) "_law_strip_words")
  rw [e]
  exact d_law_strip_words_ok 
theorem g_BadText__Ok_BadText (n : Nat) : Ok_BadText (callF defs ini ex (n + 1) "BadText") := by
  have e := callF_at (defs := defs) (ini := ini) (xs := ex) (n := n + 0) (f := "BadText") (d := D.d_BadText) (by kernel_rfl) (by kernel_rfl)
  show Ok_BadText (callF defs ini ex (n + 0 + 1) "BadText")
  rw [e]
  exact d_BadText_ok 
theorem g_cell_in__Ok_cell_inA (n : Nat) : Ok_cell_inA (callF defs ini ex (n + 2) "cell_in") := by
  have e := callF_at (defs := defs) (ini := ini) (xs := ex) (n := n + 1) (f := "cell_in") (d := D.d_cell_in) (by kernel_rfl) (by kernel_rfl)
  show Ok_cell_inA (callF defs ini ex (n + 1 + 1) "cell_in")
  rw [e]
  exact d_cell_inA_ok (g_BadText__Ok_BadText (n + 0))
theorem g_good_cell__Ok_good_cell (n : Nat) : Ok_good_cell (callF defs ini ex (n + 1) "good_cell") := by
  have e := callF_at (defs := defs) (ini := ini) (xs := ex) (n := n + 0) (f := "good_cell") (d := D.d_good_cell) (by kernel_rfl) (by kernel_rfl)
  show Ok_good_cell (callF defs ini ex (n + 0 + 1) "good_cell")
  rw [e]
  exact d_good_cell_ok 
theorem g_good_strip__Ok_good_strip (n : Nat) : Ok_good_strip (callF defs ini ex (n + 2) "good_strip") := by
  have e := callF_at (defs := defs) (ini := ini) (xs := ex) (n := n + 1) (f := "good_strip") (d := D.d_good_strip) (by kernel_rfl) (by kernel_rfl)
  show Ok_good_strip (callF defs ini ex (n + 1 + 1) "good_strip")
  rw [e]
  exact d_good_strip_ok (g_good_cell__Ok_good_cell (n + 0))
theorem g_read_strip__Ok_read_stripA (n : Nat) : Ok_read_stripA (callF defs ini ex (n + 3) "read_strip") := by
  have e := callF_at (defs := defs) (ini := ini) (xs := ex) (n := n + 2) (f := "read_strip") (d := D.d_read_strip) (by kernel_rfl) (by kernel_rfl)
  show Ok_read_stripA (callF defs ini ex (n + 2 + 1) "read_strip")
  rw [e]
  exact d_read_stripA_ok (g_BadText__Ok_BadText (n + 1)) (g_cell_in__Ok_cell_inA (n + 0)) (g_good_strip__Ok_good_strip (n + 0))
theorem g__law_asked__Ok_law_asked06 (n : Nat) : Ok_law_asked06 (callF defs ini ex (n + 4) "_law_asked") := by
  have e := callF_at (defs := defs) (ini := ini) (xs := ex) (n := n + 3) (f := "_law_asked") (d := D.d_law_asked4) (by kernel_rfl) (by kernel_rfl)
  show Ok_law_asked06 (callF defs ini ex (n + 3 + 1) "_law_asked")
  rw [e]
  exact d_law_asked4_ok (by decide +kernel) (g_read_strip__Ok_read_stripA (n + 0))
theorem g__law_strip_ok__Ok_law_strip_ok (n : Nat) : Ok_law_strip_ok (callF defs ini ex (n + 1) "_law_strip_ok") := by
  have e := callF_at (defs := defs) (ini := ini) (xs := ex) (n := n + 0) (f := "_law_strip_ok") (d := D.d_law_strip_ok) (by kernel_rfl) (by kernel_rfl)
  show Ok_law_strip_ok (callF defs ini ex (n + 0 + 1) "_law_strip_ok")
  rw [e]
  exact d_law_strip_ok_ok 
theorem g__law_read__Ok_law_read (n : Nat) : Ok_law_read (callF defs ini ex (n + 2) "_law_read") := by
  have e := callF_at (defs := defs) (ini := ini) (xs := ex) (n := n + 1) (f := "_law_read") (d := D.d_law_read) (by kernel_rfl) (by kernel_rfl)
  show Ok_law_read (callF defs ini ex (n + 1 + 1) "_law_read")
  rw [e]
  exact d_law_readA_ok (g__law_strip_ok__Ok_law_strip_ok (n + 0))
theorem g__law_sign__Ok_law_sign (n : Nat) : Ok_law_sign (callF defs ini ex (n + 2) "_law_sign") := by
  have e := callF_at (defs := defs) (ini := ini) (xs := ex) (n := n + 1) (f := "_law_sign") (d := D.d_law_sign) (by kernel_rfl) (by kernel_rfl)
  show Ok_law_sign (callF defs ini ex (n + 1 + 1) "_law_sign")
  rw [e]
  exact d_law_sign_ok (g__law_pull__Ok_law_pull (n + 0))
theorem g__law_spoilt__Ok_law_spoilt (n : Nat) : Ok_law_spoilt (callF defs ini ex (n + 3) "_law_spoilt") := by
  have e := callF_at (defs := defs) (ini := ini) (xs := ex) (n := n + 2) (f := "_law_spoilt") (d := D.d_law_spoilt) (by kernel_rfl) (by kernel_rfl)
  show Ok_law_spoilt (callF defs ini ex (n + 2 + 1) "_law_spoilt")
  rw [e]
  exact d_law_spoilt_ok (g__law_pull__Ok_law_pull (n + 1)) (g__law_sign__Ok_law_sign (n + 0))
theorem law_runs : ∀ ns : List Int, ns.length ≤ 63 → ∃ st, callF defs [] [("BadText" : Str)] (7 + 1) "law" [.scr ns] [] = .ok (.bl true) st := by
  intro ns hl
  have e := callF_at (defs := defs) (ini := ini) (xs := ex) (n := 7) (f := "law") (d := D.d_law_k06) (by kernel_rfl) (by kernel_rfl)
  show ∃ st, callF defs ini ex (7 + 1) "law" [.scr ns] [] = .ok (.bl true) st
  rw [e]
  obtain ⟨v, st, h, rfl⟩ := law_k06 (C := callF defs ini ex 7) (xs := ex) ns hl (g__law_open__Ok_law_open 6) (g__law_pull__Ok_law_pull 6) (g__law_any_strip__Ok_any_good 5) (g__law_like__Ok_law_like 0) (g__law_strip_words__Ok_law_strip_words 6) (g__law_asked__Ok_law_asked06 3) (g__law_read__Ok_law_read 5) (g__law_spoilt__Ok_law_spoilt 4)
  exact ⟨st, h⟩
end L_k06
namespace L_k06
open PySem L2 Rc
theorem ck : ckAllR sg ts defs = true := by decide +kernel
end L_k06
open PySem PySem.W PySem.Calls PyProof.Rows
set_option maxHeartbeats 0 in
theorem PySem.Challenge.cw_rolledclay_k06_whole_strips_read_back_holds : PySem.Challenge.rw_rolledclay_k06_whole_strips_read_back.Holds := by
  w_on; o_law
  refine HandSHeadRun.head_any (r := OpenLaw.row PySem.Challenge.rw_rolledclay_k06_whole_strips_read_back) (q := view (OpenLaw.row PySem.Challenge.rw_rolledclay_k06_whole_strips_read_back).prog [26]) (H := L_k06.hk) (ob := L_k06.ob) (M := 100000) (loose := L_k06.nms) (d := HandSHeadRun.topDef (OpenLaw.row PySem.Challenge.rw_rolledclay_k06_whole_strips_read_back).prog 26) (kwd := []) L_k06.ob_eq
    (by kernel_rfl) (fun s => by kernel_rfl) L_k06.run (by kernel_rfl) (by kernel_rfl) (by kernel_rfl) (by rfl) (by first | assumption | decide +kernel) (by decide +kernel) ⟨rfl, rfl, rfl, rfl, rfl, by decide +kernel⟩ ?hw ?hc
  case hw => w_witness2
  case hc =>
    refine Rc.walk_ofW (l := PySem.Challenge.rw_rolledclay_k06_whole_strips_read_back) (n := 63) (k := 2 * (7 + 1)) (x := "_law_script") (CX := fun w => L2.CX (PySem.Challenge.rw_rolledclay_k06_whole_strips_read_back).prog w) rfl (by decide) (by kernel_rfl) ⟨rfl, by decide, by decide⟩ ?F ?E
    case E =>
      intro w H s e s1 hx
      obtain ⟨_, _, _, _, _, _, _, _, _, _, _, _, hf⟩ := hx
      exact hf
    case F =>
      intro w mg fa h Y G hmg0
      obtain ⟨K, KX, c⟩ := Y
      have hmg : mg ("law" : PySem.Str) = some (.ref fa) := by
        have e : (HandSHeadRun.topDef (OpenLaw.row PySem.Challenge.rw_rolledclay_k06_whole_strips_read_back).prog 26).name = ("law" : PySem.Str) := by kernel_rfl
        rw [← e]
        exact hmg0
      exact Rc.law_of (defs := L_k06.defs) KX G (by decide +kernel) c L_k06.ck (by decide +kernel) (by decide +kernel) hmg L_k06.law_runs
