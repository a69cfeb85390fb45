import PyProof.Rows.All
import Wide.All
import OpenK.AllK
import Wide.FinOn
import HandS.ForMost
import HandS.ForExc
import HandS.HeadHook4
import HandS.TupAny
import HandS.TupMul
import HandS.Style
import HandS.Conv
import HandS.IsInst
import HandS.More
import HandS.Replace
import HandS.Text
import HandS.TryMany
import HandS.ExcOwn
import HandS.Defaults
import HandS.Head0
import HandS.Head1
import HandS.Head2
import HandS.HeadEnd
import HandS.HeadHook1
import HandS.HeadHook2
import PySem.Challenge.RW_rolledclay_k08_seals_rolled
set_option Elab.async false
set_option linter.all false
set_option maxRecDepth 100000
set_option maxHeartbeats 4000000
/-! Rc1: a small language of its own: values, objects, the answers of runs, its texts and its interpreter. -/
namespace Rc
open PySem

/-- a value: what never changes stands in it whole; loc: a place of the store -/
inductive Val where
  | non
  | bl (b : Bool)
  | int (i : Int)
  | str (s : Str)
  | tup (vs : List Val)
  | lst (vs : List Val)
  | dK (ks : List L2.Key) (vs : List Val)
  | dT (ks : List (List L2.Key)) (vs : List Val)
  | loc (l : Nat)
  | scr (ns : List Int)

/-- an object that may change -/
inductive Ob where
  | lst (vs : List Val)
  | dK (kvs : List (L2.Key × Val))
  | dT (kvs : List (List L2.Key × Val))
  | ins (c : Str) (fs : List (Str × Val))

abbrev Store := List Ob
abbrev Env := List (Option Val)

/-- how a run ends -/
inductive R (α : Type) where
  | ok (a : α) (st : Store)
  | exc (c : Str) (row : Option Int) (st : Store)
  | stuck

abbrev M (α : Type) := Store → R α

@[simp] def ret {α : Type} (a : α) : M α := fun st => .ok a st
@[simp] def stuck {α : Type} : M α := fun _ => .stuck
@[simp] def bnd {α β : Type} (m : M α) (f : α → M β) : M β := fun st =>
  match m st with
  | .ok a st' => f a st'
  | .exc c r st' => .exc c r st'
  | .stuck => .stuck
def ofOpt {α : Type} (o : Option α) : M α := match o with
  | some a => ret a
  | none => stuck

/-! ### reading -/
def lstOf (st : Store) : Val → Option (List Val)
  | .lst xs => some xs
  | .loc l => match st[l]? with
    | some (.lst xs) => some xs
    | _ => none
  | _ => none
def seqOf (st : Store) : Val → Option (List Val)
  | .tup xs => some xs
  | v => lstOf st v

def mapO {α β : Type} (f : α → Option β) : List α → Option (List β)
  | [] => some []
  | v :: vs => (f v).bind fun w => (mapO f vs).map (w :: ·)
/-- a value as plain data -/
def toD (st : Store) : Nat → Val → Option PyData
  | 0, _ => none
  | n + 1, v => match v with
    | .non => some .none
    | .bl b => some (.bool b)
    | .int i => some (.int i)
    | .str s => if PyData.strOk s = true then some (.str s) else none
    | .tup xs => (mapO (toD st n) xs).map .tuple
    | .lst xs => (mapO (toD st n) xs).map .list
    | .loc l => match st[l]? with
      | some (.lst xs) => (mapO (toD st n) xs).map .list
      | _ => none
    | _ => none

def depthD : Nat := 10
/-- == -/
def veq (st : Store) : Val → Val → Option Bool
  | .int i, .int j => some (decide (i = j))
  | .bl a, .bl b => some (decide (a = b))
  | .str x, .str y => some (decide (x = y))
  | v, w => (toD st depthD v).bind fun d => (toD st depthD w).map fun e => PyData.eqv d e

/-! ### operators -/
/-- what an operation gives: a value, or a new list -/
inductive Pv where
  | v (v : Val)
  | l (xs : List Val)
def mk (new : Bool) : Pv → M Val
  | .v v => ret v
  | .l xs => if new then fun st => .ok (.loc st.length) (st ++ [.lst xs]) else ret (.lst xs)
@[simp] def szOk (n : Nat) : Bool := decide (n ≤ sizeLine)
@[simp] def mulOk (i j : Int) : Bool := (decide (-(2 ^ 64) < i) && decide (i < 2 ^ 64)) || (decide (-(2 ^ 64) < j) && decide (j < 2 ^ 64))
def opAdd (st : Store) : Val → Val → Option Pv
  | .int i, .int j => some (.v (.int (i + j)))
  | .str x, .str y => if szOk (x.length + y.length) then some (.v (.str (x ++ y))) else none
  | .tup xs, .tup ys => if szOk (xs.length + ys.length) then some (.v (.tup (xs ++ ys))) else none
  | v, w => match lstOf st v, lstOf st w with
    | some xs, some ys => if szOk (xs.length + ys.length) then some (.l (xs ++ ys)) else none
    | _, _ => none
def opSub : Val → Val → Option Val
  | .int i, .int j => some (.int (i - j))
  | _, _ => none
def opMul : Val → Val → Option Val
  | .int i, .int j => if mulOk i j then some (.int (i * j)) else none
  | .tup xs, .int k => if decide (0 ≤ k) && decide (k ≤ 1000) && decide (xs.length ≤ 1000) then some (.tup (List.replicate k.toNat xs).flatten) else none
  | _, _ => none
def opMod : Val → Val → Option Val
  | .int i, .int j => if 0 < j then some (.int (i % j)) else none
  | _, _ => none
def opDiv : Val → Val → Option Val
  | .int i, .int j => if decide (0 < j) && decide (j < 1073741824) then some (.int (i / j)) else none
  | _, _ => none
def opPow : Val → Val → Option Val
  | .int i, .int j => if decide (0 ≤ j) && decide (j ≤ 1000000) && decide (i.natAbs < 2 ^ 64) then some (.int (i ^ j.toNat)) else none
  | _, _ => none
@[simp] def binOp (st : Store) : Operator → Val → Val → Option Pv
  | .Add, v, w => opAdd st v w
  | .Sub, v, w => (opSub v w).map .v
  | .Mult, v, w => (opMul v w).map .v
  | .Mod, v, w => (opMod v w).map .v
  | .FloorDiv, v, w => (opDiv v w).map .v
  | .Pow, v, w => (opPow v w).map .v
  | _, _, _ => none
def flat : Val → Bool
  | .non => true
  | .bl _ => true
  | .int _ => true
  | .str _ => true
  | _ => false
/-- == of flat values -/
def eqF : Val → Val → Bool
  | .non, .non => true
  | .bl a, .bl b => a == b
  | .bl a, .int b => (if a then 1 else 0) == b
  | .int a, .bl b => a == (if b then 1 else 0)
  | .int a, .int b => a == b
  | .str a, .str b => a == b
  | _, _ => false
def inSeq (v : Val) : Option (List Val) → Option Bool
  | some xs => if flat v && xs.all flat then some (xs.any fun y => eqF y v) else none
  | none => none
def inStr (t : Str) : Val → Option Bool
  | .str s => some (!(Builtin.Str.occurrences t s 0 t.length 1).isEmpty)
  | _ => none
def opIn (st : Store) (v : Val) : Val → Option Bool
  | .str t => inStr t v
  | .tup xs => inSeq v (some xs)
  | w => inSeq v (lstOf st w)
def isNon : Val → Bool
  | .non => true
  | _ => false
def cmpLt : Val → Val → Option Bool
  | .int i, .int j => some (decide (i < j))
  | _, _ => none
def cmpLe : Val → Val → Option Bool
  | .int i, .int j => some (decide (i ≤ j))
  | _, _ => none
def isOp (v : Val) : Val → Option Bool
  | .non => some (isNon v)
  | _ => none
@[simp] def cmpOp (st : Store) : CmpOp → Val → Val → Option Bool
  | .Eq, v, w => veq st v w
  | .NotEq, v, w => (veq st v w).map (!·)
  | .Lt, v, w => cmpLt v w
  | .LtE, v, w => cmpLe v w
  | .Gt, v, w => cmpLt w v
  | .GtE, v, w => cmpLe w v
  | .Is, v, w => isOp v w
  | .IsNot, v, w => (isOp v w).map (!·)
  | .In, v, w => opIn st v w
  | .NotIn, v, w => (opIn st v w).map (!·)

/-! ### subscripts -/
def ixSeq (i : Int) : Option (List Val) → Option Val
  | some xs => L2.atI xs i
  | none => none
def ixOp (st : Store) : Val → Val → Option Val
  | .str z, .int i => if szOk z.length then (L2.atI z.cps.toList i).map fun c => .str ⟨#[c]⟩ else none
  | .tup xs, .int i => ixSeq i (some xs)
  | v, .int i => ixSeq i (lstOf st v)
  | _, _ => none
def cut {α : Type} (xs : List α) (lo hi : Option Int) : List α := (xs.drop (HT.sIx xs.length 0 lo)).take (HT.sIx xs.length xs.length hi - HT.sIx xs.length 0 lo)
def slOp (st : Store) : Val → Option Int → Option Int → Option Pv
  | .tup xs, lo, hi => some (.v (.tup (cut xs lo hi)))
  | .scr ns, lo, hi => some (.l (cut (ns.map .int) lo hi))
  | v, lo, hi => (lstOf st v).map fun xs => .l (cut xs lo hi)
def revOp (st : Store) : Val → Option Pv
  | .tup xs => some (.v (.tup xs.reverse))
  | v => (lstOf st v).map fun xs => .l xs.reverse

/-! ### built-in functions -/
inductive Bi where
  | len | max | min | all | any | tuple | list | int
def toInt : Val → Option Int
  | .int i => some i
  | _ => none
def toBl : Val → Option Bool
  | .bl b => some b
  | _ => none
def mini : List Int → Option Int
  | [] => none
  | x :: xs => some (xs.foldl min x)
def maxi : List Int → Option Int
  | [] => none
  | x :: xs => some (xs.foldl max x)
def biLen (st : Store) : List Val → Option Val
  | [.str s] => if szOk s.length then some (.int s.length) else none
  | [v] => (seqOf st v).map fun xs => .int xs.length
  | _ => none
def biMax (st : Store) : List Val → Option Val
  | [.int i, .int j] => some (.int (if j > i then j else i))
  | [v] => ((seqOf st v).bind fun xs => (mapO toInt xs).bind maxi).map .int
  | _ => none
def biMin (st : Store) : List Val → Option Val
  | [.int i, .int j] => some (.int (if j < i then j else i))
  | [v] => ((seqOf st v).bind fun xs => (mapO toInt xs).bind mini).map .int
  | _ => none
def biAll (st : Store) : List Val → Option Val
  | [v] => ((lstOf st v).bind fun xs => mapO toBl xs).map fun bs => .bl (bs.all id)
  | _ => none
def biAny (st : Store) : List Val → Option Val
  | [v] => ((lstOf st v).bind fun xs => mapO toBl xs).map fun bs => .bl (bs.any id)
  | _ => none
def biInt : List Val → Option Val
  | [.int i] => some (.int i)
  | [.bl b] => some (.int (if b then 1 else 0))
  | _ => none
def biTuple (st : Store) : List Val → Option Val
  | [v] => (seqOf st v).map .tup
  | _ => none
def biList (st : Store) : List Val → Option Pv
  | [v] => (seqOf st v).map .l
  | _ => none
@[simp] def biOp (st : Store) (b : Bi) (vs : List Val) : Option Pv := match b with
  | .len => (biLen st vs).map .v
  | .max => (biMax st vs).map .v
  | .min => (biMin st vs).map .v
  | .all => (biAll st vs).map .v
  | .any => (biAny st vs).map .v
  | .tuple => (biTuple st vs).map .v
  | .list => biList st vs
  | .int => (biInt vs).map .v

/-- kinds that isinstance is asked for -/
inductive Kd where
  | bool | int | str | tuple | list
  deriving DecidableEq
def kindOf (st : Store) : Val → Option Kd
  | .bl _ => some .bool
  | .int _ => some .int
  | .str _ => some .str
  | .tup _ => some .tuple
  | .lst _ => some .list
  | .loc l => match st[l]? with
    | some (.lst _) => some .list
    | _ => none
  | _ => none
/-- is a value of a kind; None is of none of them -/
def isinOp (st : Store) : Val → Kd → Option Bool
  | .non, _ => some false
  | v, k => (kindOf st v).map fun q => decide (q = k) || (decide (q = .bool) && decide (k = .int))

/-! ### methods of built-in types -/
inductive Mt where
  | append | extend | pop | clear | insert | join | split | sindex
  deriving DecidableEq
def mtLst (st : Store) (m : Mt) (vs xs : List Val) : Option (Val × List Val) := match m with
  | .append => match vs with
    | [y] => some (.non, xs ++ [y])
    | _ => none
  | .extend => match vs with
    | [w] => (lstOf st w).map fun zs => (.non, xs ++ zs)
    | _ => none
  | .pop => match vs with
    | [] => xs[xs.length - 1]?.map fun y => (y, xs.dropLast)
    | [.int i] => (seqIndex? i xs.length).bind fun k => if decide (-(2 ^ 63) ≤ i) && decide (i < 2 ^ 63) then xs[k]?.map fun y => (y, xs.eraseIdx k) else none
    | _ => none
  | .clear => match vs with
    | [] => some (.non, [])
    | _ => none
  | .insert => match vs with
    | [.int i, y] => if decide (0 ≤ i) && decide (i < 2 ^ 63) then some (.non, xs.take i.toNat ++ [y] ++ xs.drop i.toNat) else none
    | _ => none
  | _ => none
def obLst : Option Ob → Option (List Val)
  | some (.lst xs) => some xs
  | _ => none
/-- a list at the place l is changed -/
def wrLst (m : Mt) (l : Nat) (vs : List Val) : M Val := fun st => match obLst st[l]? with
  | some xs => match mtLst st m vs xs with
    | some (r, ys) => if szOk ys.length = true then .ok r (st.set l (.lst ys)) else .stuck
    | none => .stuck
  | none => .stuck
def toStr : Val → Option Str
  | .str x => some x
  | _ => none
def joinOp (st : Store) (a : Str) (w : Val) : Option Str := (seqOf st w).bind fun vs => (mapO toStr vs).bind fun ys => if (ys.map (·.length)).sum + ys.length * a.length ≤ 16777216 then some (Txt.join a ys) else none
def mtStr (new : Bool) (m : Mt) (a : Str) (vs : List Val) : M Val := match m with
  | .join => match vs with
    | [w] => fun st => bnd (ofOpt (joinOp st a w)) (fun x => ret (.str x)) st
    | _ => stuck
  | .split => match vs with
    | [.str b] => if !(b.length == 0) && decide (a.length + 2 ≤ sizeLine) then mk new (.l ((Txt.split a b).map .str)) else stuck
    | _ => stuck
  | .sindex => match vs with
    | [.str b] => match Builtin.Str.occurrences a b 0 a.length 1 with
      | i :: _ => ret (.int (i : Nat))
      | [] => stuck
    | _ => stuck
  | _ => stuck
def mtOp (new : Bool) (m : Mt) (v : Val) (vs : List Val) : M Val := match v with
  | .loc l => wrLst m l vs
  | .str a => mtStr new m a vs
  | _ => stuck
def mtIsStr : Mt → Bool
  | .join => true
  | .split => true
  | .sindex => true
  | _ => false
def isStrV : Val → Bool
  | .str _ => true
  | _ => false
/-- has the value the method's type? -/
def tyOk (m : Mt) (st : Store) (v : Val) : Bool := if mtIsStr m = true then isStrV v else (lstOf st v).isSome

/-! ### what a call gave, cut back to the store ahead of it -/
/-- what lies behind the place base is taken into the value itself -/
def frz (st : Store) (base : Nat) : Nat → Val → Option Val
  | 0, _ => none
  | n + 1, v => match v with
    | .tup xs => (mapO (frz st base n) xs).map .tup
    | .lst xs => (mapO (frz st base n) xs).map .lst
    | .dK ks vs => (mapO (frz st base n) vs).map (.dK ks)
    | .dT ks vs => (mapO (frz st base n) vs).map (.dT ks)
    | .loc l => if l < base then some (.loc l) else match st[l]? with
      | some (.lst xs) => (mapO (frz st base n) xs).map .lst
      | some (.dK kvs) => (mapO (frz st base n) (kvs.map (·.2))).map (.dK (kvs.map (·.1)))
      | some (.dT kvs) => (mapO (frz st base n) (kvs.map (·.2))).map (.dT (kvs.map (·.1)))
      | _ => none
    | v => some v
mutual
def locLt (n : Nat) : Val → Bool
  | .tup vs => locLtL n vs
  | .lst vs => locLtL n vs
  | .dK _ vs => locLtL n vs
  | .dT _ vs => locLtL n vs
  | .loc l => decide (l < n)
  | _ => true
def locLtL (n : Nat) : List Val → Bool
  | [] => true
  | v :: vs => locLt n v && locLtL n vs
end
def obLt (n : Nat) : Ob → Bool
  | .lst vs => locLtL n vs
  | .dK kvs => locLtL n (kvs.map (·.2))
  | .dT kvs => locLtL n (kvs.map (·.2))
  | .ins _ fs => locLtL n (fs.map (·.2))
/-- may the store be cut back to st's length? -/
def CutOk (st st' : Store) : Prop := st.length ≤ st'.length ∧ (st'.take st.length = st ∨ (st'.take st.length).all (obLt st.length) = true)
open Classical in
noncomputable def cutM (m : M Val) : M Val := fun st => match m st with
  | .ok v st' => if CutOk st st' then match frz st' st.length depthD v with
      | some w => .ok w (st'.take st.length)
      | none => .stuck
    else .stuck
  | .exc c r st' => if CutOk st st' then .exc c r (st'.take st.length) else .stuck
  | .stuck => .stuck

/-! ### the texts -/
/-- a constant of the module -/
inductive Gv where
  | int (i : Int)
  | str (s : Str)
  | tups (ss : List Str)
  deriving DecidableEq
def gvVal : Gv → Val
  | .int i => .int i
  | .str s => .str s
  | .tups ss => .tup (ss.map .str)
inductive Md where
  | raw | cut
/-- a target of names -/
inductive Tg where
  | nm (i : Nat)
  | tup (is : List Nat)
mutual
inductive E where
  | var (i : Nat)
  | int (i : Int)
  | str (s : Str)
  | bl (b : Bool)
  | non
  | glob (x : Str) (g : Gv)
  | bin (new : Bool) (op : Operator) (a b : E)
  | neg (a : E)
  | not (a : E)
  | bop (op : BoolOp) (es : Es)
  | cmp (op : CmpOp) (a b : E)
  | chain (o1 o2 : CmpOp) (a b c : E)
  | ife (c a b : E)
  | tup (es : Es)
  | lst (new : Bool) (es : Es)
  | ix (a b : E)
  | sl (new : Bool) (a : E) (lo hi : Oe)
  | rev (new : Bool) (a : E)
  | call (f : Str) (m : Md) (es : Es)
  | bi (new : Bool) (b : Bi) (es : Es)
  | isin (a : E) (k : Kd)
  | mth (new : Bool) (m : Mt) (o : E) (es : Es)
  | lrange (new : Bool) (a b : E)
  | lc (new : Bool) (own : List Nat) (tg : Tg) (it : It) (ifs : Es) (e : E)
inductive Es where
  | nil
  | cons (e : E) (es : Es)
inductive Oe where
  | none
  | some (e : E)
inductive It where
  | seq (e : E)
  | rng1 (a : E)
  | rng2 (a b : E)
  | enum (e : E)
end

/-! ### running expressions -/
def wipe (env : Env) : List Nat → Env
  | [] => env
  | v :: vs => (wipe env vs).set v none
def setAll : List Nat → List Val → Env → Option Env
  | [], [], env => some env
  | i :: is, v :: vs, env => setAll is vs (env.set i (some v))
  | _, _, _ => none
def assignTg (tg : Tg) (v : Val) (env : Env) : Option Env := match tg with
  | .nm i => some (env.set i (some v))
  | .tup is => match v with
    | .tup vs => setAll is vs env
    | _ => none
@[simp] def getVar (env : Env) (i : Nat) : M Val := match env[i]? with
  | some (some v) => ret v
  | _ => stuck
/-- the ints lo .. hi - 1 -/
def rangeV (lo hi : Int) : List Val := (List.range (hi - lo).toNat).map fun i => .int (lo + (i : Nat))
def rngRaw (a b : Int) : Bool := decide (-(2 ^ 62) ≤ a) && decide (a < 2 ^ 62) && decide (-(2 ^ 62) ≤ b) && decide (b < 2 ^ 62) && decide ((b - a).toNat ≤ sizeLine)
theorem rngEx : ∃ f : Int → Int → Bool, f = rngRaw := ⟨_, rfl⟩
/-- the same, shut -/
noncomputable def rngOk : Int → Int → Bool := Classical.choose rngEx
theorem rngOk_eq : rngOk = rngRaw := Classical.choose_spec rngEx
/-- what is walked: its items, and the place of the list that must stand still meanwhile -/
structure Items where
  xs : List Val
  at_ : Option Nat
def itemsOf (st : Store) : Val → Option Items
  | .tup xs => some ⟨xs, none⟩
  | .lst xs => some ⟨xs, none⟩
  | .loc l => match st[l]? with
    | some (.lst xs) => some ⟨xs, some l⟩
    | _ => none
  | _ => none
def enumFrom : Nat → List Val → List Val
  | _, [] => []
  | n, v :: vs => .tup [.int n, v] :: enumFrom (n + 1) vs
/-- does the list still hold the same items? -/
@[simp] def Still (it : Items) (st : Store) : Prop := match it.at_ with
  | none => True
  | some l => st[l]? = some (.lst it.xs)
/-- the turns of a comprehension -/
noncomputable def lcLoop (turn : Val → M (Option Val)) (still : Store → Prop) : List Val → List Val → M (List Val)
  | [], acc => ret acc
  | x :: xs, acc => fun st => open Classical in if still st then
      match turn x st with
      | .ok (some y) st' => lcLoop turn still xs (acc ++ [y]) st'
      | .ok none st' => lcLoop turn still xs acc st'
      | .exc c r st' => .exc c r st'
      | .stuck => .stuck
    else .stuck
/-- within a comprehension nothing may be raised -/
@[simp] def noExc {α : Type} (m : M α) : M α := fun st => match m st with
  | .exc _ _ _ => .stuck
  | r => r
/-- the answer behind which and, or ask on -/
@[simp] def goOn : BoolOp → Bool
  | .And => true
  | .Or => false
def asBl : Val → M Bool
  | .bl b => ret b
  | _ => stuck
def asInt : Val → M Int
  | .int i => ret i
  | _ => stuck
/-- a turn of the comprehension -/
noncomputable def lcTurn (tgt : Tg) (own : List Nat) (mT : Env → M Bool) (mE : Env → M Val) (env : Env) : Val → M (Option Val) := fun x => match assignTg tgt x (wipe env own) with
  | some env' => noExc (bnd (mT env') fun k => if k = true then bnd (mE env') fun y => ret (some y) else ret none)
  | none => stuck
noncomputable def lcRaw (new : Bool) (own : List Nat) (mI : Env → M Items) (tgt : Tg) (mT : Env → M Bool) (mE : Env → M Val) : Env → M Val := fun env =>
  bnd (mI env) fun is => bnd (lcLoop (lcTurn tgt own mT mE env) (Still is) is.xs []) fun ys => fun st => open Classical in if Still is st then mk new (.l ys) st else .stuck
theorem lcEx : ∃ f : Bool → List Nat → (Env → M Items) → Tg → (Env → M Bool) → (Env → M Val) → Env → M Val, f = lcRaw := ⟨_, rfl⟩
/-- the same, shut: nobody is to reckon it by the way -/
noncomputable def lcSem : Bool → List Nat → (Env → M Items) → Tg → (Env → M Bool) → (Env → M Val) → Env → M Val := Classical.choose lcEx
theorem lcSem_eq : lcSem = lcRaw := Classical.choose_spec lcEx
section
variable (C : Str → List Val → M Val)
mutual
noncomputable def evE : E → Env → M Val
  | .var i, env => getVar env i
  | .int i, _ => ret (.int i)
  | .str s, _ => ret (.str s)
  | .bl b, _ => ret (.bl b)
  | .non, _ => ret .non
  | .glob _ g, _ => ret (gvVal g)
  | .bin new op a b, env => bnd (evE a env) fun v => bnd (evE b env) fun w => fun st => bnd (ofOpt (binOp st op v w)) (mk new) st
  | .neg a, env => bnd (bnd (evE a env) asInt) fun i => ret (.int (-i))
  | .not a, env => bnd (bnd (evE a env) asBl) fun b => ret (.bl (!b))
  | .bop op es, env => evB op es env
  | .cmp op a b, env => bnd (evE a env) fun v => bnd (evE b env) fun w => fun st => bnd (ofOpt (cmpOp st op v w)) (fun b => ret (.bl b)) st
  | .chain o1 o2 a b c, env => bnd (evE a env) fun v => bnd (evE b env) fun w => fun st => bnd (ofOpt (cmpOp st o1 v w)) (fun k =>
      if k = true then bnd (evE c env) fun u => fun st => bnd (ofOpt (cmpOp st o2 w u)) (fun b => ret (.bl b)) st else ret (.bl false)) st
  | .ife c a b, env => bnd (bnd (evE c env) asBl) fun k => if k = true then evE a env else evE b env
  | .tup es, env => bnd (evEs es env) fun vs => if szOk vs.length = true then ret (.tup vs) else stuck
  | .lst new es, env => bnd (evEs es env) fun vs => if szOk vs.length = true then mk new (.l vs) else stuck
  | .ix a b, env => bnd (evE a env) fun v => bnd (evE b env) fun w => fun st => bnd (ofOpt (ixOp st v w)) ret st
  | .sl new a lo hi, env => bnd (evE a env) fun v => bnd (evO lo env) fun l => bnd (evO hi env) fun h => fun st => bnd (ofOpt (slOp st v l h)) (mk new) st
  | .rev new a, env => bnd (evE a env) fun v => fun st => bnd (ofOpt (revOp st v)) (mk new) st
  | .call f m es, env => bnd (evEs es env) fun vs => match m with
    | .raw => C f vs
    | .cut => cutM (C f vs)
  | .bi new b es, env => bnd (evEs es env) fun vs => fun st => bnd (ofOpt (biOp st b vs)) (mk new) st
  | .isin a k, env => bnd (evE a env) fun v => fun st => bnd (ofOpt (isinOp st v k)) (fun b => ret (.bl b)) st
  | .mth new m o es, env => bnd (evE o env) fun v => fun st => if tyOk m st v = true then bnd (evEs es env) (fun vs => mtOp new m v vs) st else .stuck
  | .lrange new a b, env => bnd (bnd (evE a env) asInt) fun i => bnd (bnd (evE b env) asInt) fun j => if rngOk i j = true then mk new (.l (rangeV i j)) else stuck
  | .lc new own tg it ifs e, env => lcSem new own (evI it) tg (evT ifs) (evE e) env
noncomputable def evEs : Es → Env → M (List Val)
  | .nil, _ => ret []
  | .cons e es, env => bnd (evE e env) fun v => bnd (evEs es env) fun vs => ret (v :: vs)
noncomputable def evO : Oe → Env → M (Option Int)
  | .none, _ => ret none
  | .some e, env => bnd (bnd (evE e env) asInt) fun i => ret (some i)
/-- and, or -/
noncomputable def evB : BoolOp → Es → Env → M Val
  | _, .nil, _ => stuck
  | _, .cons e .nil, env => evE e env
  | op, .cons e (.cons e2 es), env => bnd (bnd (evE e env) asBl) fun k => if k = goOn op then evB op (.cons e2 es) env else ret (.bl k)
/-- a clause's tests: none or one -/
noncomputable def evT : Es → Env → M Bool
  | .nil, _ => ret true
  | .cons e .nil, env => bnd (evE e env) asBl
  | .cons _ (.cons _ _), _ => stuck
noncomputable def evI : It → Env → M Items
  | .seq e, env => bnd (evE e env) fun v => fun st => ofOpt (itemsOf st v) st
  | .rng1 a, env => bnd (bnd (evE a env) asInt) fun j => if rngOk 0 j = true then ret ⟨rangeV 0 j, none⟩ else stuck
  | .rng2 a b, env => bnd (bnd (evE a env) asInt) fun i => bnd (bnd (evE b env) asInt) fun j => if rngOk i j = true then ret ⟨rangeV i j, none⟩ else stuck
  | .enum e, env => bnd (evE e env) fun v => fun st => match itemsOf st v with
    | some is => match is.at_ with
      | none => .ok ⟨enumFrom 0 is.xs, none⟩ st
      | some _ => .stuck
    | none => .stuck
end
end

end Rc
/-! Rc2: how values and stores of the small language stand in the model's heap; what is carried over; the judgements. -/
namespace Rc
open PySem L2

/-! ### standing -/
/-- the addresses of the store's places; those that are reserved (a comprehension's list while it grows) -/
structure Pl where
  ps : List Addr
  rs : List Addr
instance : Membership Addr Pl := ⟨fun ρ a => a ∈ ρ.ps ∨ a ∈ ρ.rs⟩
theorem Pl.mem_iff {ρ : Pl} {a : Addr} : a ∈ ρ ↔ a ∈ ρ.ps ∨ a ∈ ρ.rs := Iff.rfl
def KTup (K : PySem.W.Frag) (a : Addr) (xs : List V) : Prop :=
  ∃ (o : Obj) (its : Array Value) (n : Nat), K.lookup a = some o ∧ o.cls = .type "tuple" ∧ o.data = .seq its n ∧ its.size ≤ sizeLine ∧ Vals xs its.toList
def TupAt (K : PySem.W.Frag) (ρ : Pl) (H : Hp) (a : Addr) (ws : List V) : Prop := (Rd H a (.tup ws) ∧ a ∉ ρ) ∨ KTup K a ws
def KLst (K : PySem.W.Frag) (a : Addr) (xs : List V) : Prop :=
  ∃ (o : Obj) (its : Array Value) (n : Nat), K.lookup a = some o ∧ o.cls = .type "list" ∧ o.dict = none ∧ o.data = .seq its n ∧ its.size ≤ sizeLine ∧ Vals xs its.toList
/-- the script: it stands for good -/
def ScrAt (K : PySem.W.Frag) (ρ : Pl) (H : Hp) (a : Addr) (ns : List Int) : Prop := (Rd H a (.lst (ns.map V.int)) ∧ a ∉ ρ) ∨ KLst K a (ns.map V.int)
theorem ScrAt.sq {K : PySem.W.Frag} {ρ : Pl} {H : Hp} {a : Addr} {ns : List Int} (h : ScrAt K ρ H a ns) : SqL K H a (ns.map V.int) := by
  rcases h with ⟨h, _⟩ | h
  · exact .inl h
  · exact .inr h
theorem TupAt.sq {K : PySem.W.Frag} {ρ : Pl} {H : Hp} {a : Addr} {ws : List V} (h : TupAt K ρ H a ws) : SqT K H a ws := by
  rcases h with ⟨h, _⟩ | h
  · exact .inl h
  · exact .inr h
mutual
/-- a value of the small language stands as a value of the layer -/
inductive Rep (K : PySem.W.Frag) (ρ : Pl) (H : Hp) : Val → V → Prop
  | non : Rep K ρ H .non .non
  | bl (b : Bool) : Rep K ρ H (.bl b) (.bl b)
  | int (i : Int) : Rep K ρ H (.int i) (.int i)
  | str (x : Str) : Rep K ρ H (.str x) (.str x)
  | tup {a : Addr} {ws : List V} {vs : List Val} : TupAt K ρ H a ws → RepL K ρ H vs ws → Rep K ρ H (.tup vs) (.ref a)
  | lst {a : Addr} {ws : List V} {vs : List Val} : H a = some (.lst ws) → a ∉ ρ → RepL K ρ H vs ws → Rep K ρ H (.lst vs) (.ref a)
  | dK {a : Addr} {kws : List (Key × V)} {vs : List Val} : H a = some (.dK kws) → a ∉ ρ → RepL K ρ H vs (kws.map (·.2)) → Rep K ρ H (.dK (kws.map (·.1)) vs) (.ref a)
  | dT {a : Addr} {kws : List (List Key × V)} {vs : List Val} : H a = some (.dT kws) → a ∉ ρ → RepL K ρ H vs (kws.map (·.2)) → Rep K ρ H (.dT (kws.map (·.1)) vs) (.ref a)
  | loc {l : Nat} {a : Addr} : ρ.ps[l]? = some a → Rep K ρ H (.loc l) (.ref a)
  | scr {a : Addr} {ns : List Int} : ScrAt K ρ H a ns → Rep K ρ H (.scr ns) (.ref a)
inductive RepL (K : PySem.W.Frag) (ρ : Pl) (H : Hp) : List Val → List V → Prop
  | nil : RepL K ρ H [] []
  | cons {v : Val} {vs : List Val} {w : V} {ws : List V} : Rep K ρ H v w → RepL K ρ H vs ws → RepL K ρ H (v :: vs) (w :: ws)
end

/-- the object o of the small language stands as h, at the address a -/
inductive RelOb (K : PySem.W.Frag) (ρ : Pl) (H : Hp) (a : Addr) : Ob → HO → Prop
  | lst {vs : List Val} {ws : List V} : RepL K ρ H vs ws → RelOb K ρ H a (.lst vs) (.lst ws)
  | dK {kvs : List (Key × Val)} {kws : List (Key × V)} : kvs.map (·.1) = kws.map (·.1) → RepL K ρ H (kvs.map (·.2)) (kws.map (·.2)) → RelOb K ρ H a (.dK kvs) (.dK kws)
  | dT {kvs : List (List Key × Val)} {kws : List (List Key × V)} : kvs.map (·.1) = kws.map (·.1) → RepL K ρ H (kvs.map (·.2)) (kws.map (·.2)) → RelOb K ρ H a (.dT kvs) (.dT kws)
  | ins {c : Str} {dx : Addr} {fs : List (Str × Val)} {gs : List (Str × V)} : H dx = some (.own a) → dx ∉ ρ → fs.map (·.1) = gs.map (·.1) → RepL K ρ H (fs.map (·.2)) (gs.map (·.2)) → RelOb K ρ H a (.ins c fs) (.ins (He.ga K c) dx gs)

structure RelS (K : PySem.W.Frag) (ρ : Pl) (st : Store) (H : Hp) : Prop where
  len : ρ.ps.length = st.length
  nd : ρ.ps.Nodup
  at_ : ∀ (l : Nat) (a : Addr) (o : Ob), ρ.ps[l]? = some a → st[l]? = some o → ∃ h, H a = some h ∧ RelOb K ρ H a o h
  rs : ∀ a ∈ ρ.rs, a ∉ ρ.ps ∧ ∃ o, H a = some o

/-- a later heap: all that stands for good stands as it did -/
structure Ext0 (ρ : Pl) (H : Hp) (ρ' : Pl) (H' : Hp) : Prop where
  keep : ∀ a o, H a = some o → a ∉ ρ → H' a = some o ∧ a ∉ ρ'
  pre : ρ.ps <+: ρ'.ps
/-- .. and what is reserved, too -/
structure Ext (ρ : Pl) (H : Hp) (ρ' : Pl) (H' : Hp) : Prop extends Ext0 ρ H ρ' H' where
  rs : ρ'.rs = ρ.rs
  rk : ∀ a ∈ ρ.rs, H' a = H a

theorem Ext0.refl (ρ : Pl) (H : Hp) : Ext0 ρ H ρ H := ⟨fun _ _ h n => ⟨h, n⟩, List.prefix_refl _⟩
theorem Ext0.trans {ρ ρ1 ρ2 : Pl} {H H1 H2 : Hp} (a : Ext0 ρ H ρ1 H1) (b : Ext0 ρ1 H1 ρ2 H2) : Ext0 ρ H ρ2 H2 :=
  ⟨fun x o h n => b.keep x o (a.keep x o h n).1 (a.keep x o h n).2, a.pre.trans b.pre⟩
theorem Ext.refl (ρ : Pl) (H : Hp) : Ext ρ H ρ H := ⟨.refl _ _, rfl, fun _ _ => rfl⟩
theorem Ext.trans {ρ ρ1 ρ2 : Pl} {H H1 H2 : Hp} (a : Ext ρ H ρ1 H1) (b : Ext ρ1 H1 ρ2 H2) : Ext ρ H ρ2 H2 :=
  ⟨a.toExt0.trans b.toExt0, b.rs.trans a.rs, fun x h => (b.rk x (a.rs ▸ h)).trans (a.rk x h)⟩
theorem Ext0.rd {ρ ρ' : Pl} {H H' : Hp} {a : Addr} {u : HO} (e : Ext0 ρ H ρ' H') (h : Rd H a u) (n : a ∉ ρ) : Rd H' a u ∧ a ∉ ρ' := by
  rcases h with h | ⟨o, h⟩
  · exact ⟨.inl (e.keep a _ h n).1, (e.keep a _ h n).2⟩
  · exact ⟨.inr ⟨o, (e.keep a _ h n).1⟩, (e.keep a _ h n).2⟩
theorem Ext0.tup {K : PySem.W.Frag} {ρ ρ' : Pl} {H H' : Hp} {a : Addr} {ws : List V} (e : Ext0 ρ H ρ' H') (h : TupAt K ρ H a ws) : TupAt K ρ' H' a ws := by
  rcases h with ⟨h, n⟩ | h
  · exact .inl (e.rd h n)
  · exact .inr h
theorem Ext0.scr {K : PySem.W.Frag} {ρ ρ' : Pl} {H H' : Hp} {a : Addr} {ns : List Int} (e : Ext0 ρ H ρ' H') (h : ScrAt K ρ H a ns) : ScrAt K ρ' H' a ns := by
  rcases h with ⟨h, n⟩ | h
  · exact .inl (e.rd h n)
  · exact .inr h
theorem Ext0.at_ {ρ ρ' : Pl} {H H' : Hp} {l : Nat} {a : Addr} (e : Ext0 ρ H ρ' H') (h : ρ.ps[l]? = some a) : ρ'.ps[l]? = some a := by
  obtain ⟨t, et⟩ := e.pre
  rw [← et, List.getElem?_append_left (List.getElem?_eq_some_iff.mp h).1]
  exact h
mutual
theorem Rep.ext0 {K : PySem.W.Frag} {ρ ρ' : Pl} {H H' : Hp} (e : Ext0 ρ H ρ' H') : ∀ {v : Val} {w : V}, Rep K ρ H v w → Rep K ρ' H' v w
  | _, _, .non => .non
  | _, _, .bl b => .bl b
  | _, _, .int i => .int i
  | _, _, .str x => .str x
  | _, _, .tup h r => .tup (e.tup h) (RepL.ext0 e r)
  | _, _, .lst h n r => .lst (e.keep _ _ h n).1 (e.keep _ _ h n).2 (RepL.ext0 e r)
  | _, _, .dK h n r => .dK (e.keep _ _ h n).1 (e.keep _ _ h n).2 (RepL.ext0 e r)
  | _, _, .dT h n r => .dT (e.keep _ _ h n).1 (e.keep _ _ h n).2 (RepL.ext0 e r)
  | _, _, .loc h => .loc (e.at_ h)
  | _, _, .scr h => .scr (e.scr h)
theorem RepL.ext0 {K : PySem.W.Frag} {ρ ρ' : Pl} {H H' : Hp} (e : Ext0 ρ H ρ' H') : ∀ {vs : List Val} {ws : List V}, RepL K ρ H vs ws → RepL K ρ' H' vs ws
  | _, _, .nil => .nil
  | _, _, .cons h r => .cons (Rep.ext0 e h) (RepL.ext0 e r)
end
theorem Rep.ext {K : PySem.W.Frag} {ρ ρ' : Pl} {H H' : Hp} {v : Val} {w : V} (h : Rep K ρ H v w) (e : Ext ρ H ρ' H') : Rep K ρ' H' v w := h.ext0 e.toExt0
theorem RepL.ext {K : PySem.W.Frag} {ρ ρ' : Pl} {H H' : Hp} {v : List Val} {w : List V} (h : RepL K ρ H v w) (e : Ext ρ H ρ' H') : RepL K ρ' H' v w := h.ext0 e.toExt0
theorem RepL.length {K : PySem.W.Frag} {ρ : Pl} {H : Hp} : ∀ {vs : List Val} {ws : List V}, RepL K ρ H vs ws → vs.length = ws.length
  | _, _, .nil => rfl
  | _, _, .cons _ r => by rw [List.length_cons, List.length_cons, r.length]
theorem RepL.append {K : PySem.W.Frag} {ρ : Pl} {H : Hp} : ∀ {vs vs' : List Val} {ws ws' : List V}, RepL K ρ H vs ws → RepL K ρ H vs' ws' → RepL K ρ H (vs ++ vs') (ws ++ ws')
  | _, _, _, _, .nil, s => s
  | _, _, _, _, .cons h r, s => .cons h (r.append s)
theorem RepL.take {K : PySem.W.Frag} {ρ : Pl} {H : Hp} : ∀ {vs : List Val} {ws : List V} (n : Nat), RepL K ρ H vs ws → RepL K ρ H (vs.take n) (ws.take n)
  | _, _, 0, _ => by simp only [List.take_zero]; exact .nil
  | _, _, _ + 1, .nil => .nil
  | _, _, n + 1, .cons h r => .cons h (r.take n)
theorem RepL.drop {K : PySem.W.Frag} {ρ : Pl} {H : Hp} : ∀ {vs : List Val} {ws : List V} (n : Nat), RepL K ρ H vs ws → RepL K ρ H (vs.drop n) (ws.drop n)
  | _, _, 0, r => r
  | _, _, _ + 1, .nil => .nil
  | _, _, n + 1, .cons _ r => r.drop n
theorem RepL.get {K : PySem.W.Frag} {ρ : Pl} {H : Hp} : ∀ {vs : List Val} {ws : List V} {i : Nat} {v : Val}, RepL K ρ H vs ws → vs[i]? = some v → ∃ w, ws[i]? = some w ∧ Rep K ρ H v w
  | _, _, _, _, .nil, e => by simp at e
  | _, _, 0, _, .cons h _, e => by simp at e; subst e; exact ⟨_, rfl, h⟩
  | _, _, i + 1, v, .cons _ r, e => by
    obtain ⟨u, h1, h2⟩ := RepL.get (i := i) (v := v) r (by simpa using e)
    exact ⟨u, by simpa using h1, h2⟩
theorem RepL.getB {K : PySem.W.Frag} {ρ : Pl} {H : Hp} : ∀ {vs : List Val} {ws : List V} {i : Nat} {w : V}, RepL K ρ H vs ws → ws[i]? = some w → ∃ v, vs[i]? = some v ∧ Rep K ρ H v w
  | _, _, _, _, .nil, e => by simp at e
  | _, _, 0, _, .cons h _, e => by simp at e; subst e; exact ⟨_, rfl, h⟩
  | _, _, i + 1, v, .cons _ r, e => by
    obtain ⟨u, h1, h2⟩ := RepL.getB (i := i) (w := v) r (by simpa using e)
    exact ⟨u, by simpa using h1, h2⟩
theorem RepL.set {K : PySem.W.Frag} {ρ : Pl} {H : Hp} {v : Val} {w : V} (h0 : Rep K ρ H v w) : ∀ {vs : List Val} {ws : List V} (i : Nat), RepL K ρ H vs ws → RepL K ρ H (vs.set i v) (ws.set i w)
  | _, _, _, .nil => .nil
  | _, _, 0, .cons _ r => .cons h0 r
  | _, _, i + 1, .cons h r => .cons h (r.set h0 i)
theorem RepL.reverse {K : PySem.W.Frag} {ρ : Pl} {H : Hp} : ∀ {vs : List Val} {ws : List V}, RepL K ρ H vs ws → RepL K ρ H vs.reverse ws.reverse
  | _, _, .nil => .nil
  | _, _, .cons h r => by
    rw [List.reverse_cons, List.reverse_cons]
    exact r.reverse.append (.cons h .nil)
theorem RepL.rep {K : PySem.W.Frag} {ρ : Pl} {H : Hp} {vs : List Val} {ws : List V} (r : RepL K ρ H vs ws) : ∀ n : Nat, RepL K ρ H (List.replicate n vs).flatten (List.replicate n ws).flatten
  | 0 => .nil
  | n + 1 => by
    rw [List.replicate_succ, List.replicate_succ, List.flatten_cons, List.flatten_cons]
    exact r.append (r.rep n)
theorem RelOb.ext0 {K : PySem.W.Frag} {ρ ρ' : Pl} {H H' : Hp} {a : Addr} (e : Ext0 ρ H ρ' H') : ∀ {o : Ob} {h : HO}, RelOb K ρ H a o h → RelOb K ρ' H' a o h
  | _, _, .lst r => .lst (r.ext0 e)
  | _, _, .dK k r => .dK k (r.ext0 e)
  | _, _, .dT k r => .dT k (r.ext0 e)
  | _, _, .ins d n k r => .ins (e.keep _ _ d n).1 (e.keep _ _ d n).2 k (r.ext0 e)
theorem RelOb.ext {K : PySem.W.Frag} {ρ ρ' : Pl} {H H' : Hp} {a : Addr} {o : Ob} {h : HO} (r : RelOb K ρ H a o h) (e : Ext ρ H ρ' H') : RelOb K ρ' H' a o h := r.ext0 e.toExt0
/-- every place of the store stands in the heap -/
theorem RelS.some_of {K : PySem.W.Frag} {ρ : Pl} {st : Store} {H : Hp} (r : RelS K ρ st H) {a : Addr} (h : a ∈ ρ) : ∃ o, H a = some o := by
  rcases h with h | h
  · obtain ⟨l, hl, e⟩ := List.getElem_of_mem h
    have hl' : l < st.length := r.len ▸ hl
    obtain ⟨h, e', _⟩ := r.at_ l a st[l] (by rw [List.getElem?_eq_getElem hl, e]) (List.getElem?_eq_getElem hl')
    exact ⟨h, e'⟩
  · exact (r.rs a h).2
theorem RelS.fresh {K : PySem.W.Frag} {ρ : Pl} {st : Store} {H : Hp} (r : RelS K ρ st H) {a : Addr} (h : H a = none) : a ∉ ρ := fun m => by
  obtain ⟨o, e⟩ := r.some_of m
  rw [h] at e; cases e
theorem RelS.ne {K : PySem.W.Frag} {ρ : Pl} {st : Store} {H : Hp} (r : RelS K ρ st H) {a b : Addr} (h : H a = none) (hb : b ∈ ρ) : b ≠ a := fun z => r.fresh h (z ▸ hb)
/-- a new object that stands for good -/
theorem Ext0.laid {ρ : Pl} {H : Hp} {p : Addr} {o : HO} (h : H p = none) : Ext0 ρ H ρ (upd H p o) :=
  ⟨fun a u e n => ⟨by rw [upd_ne (ne_of_none e h)]; exact e, n⟩, List.prefix_refl _⟩
theorem RelS.laid {K : PySem.W.Frag} {ρ : Pl} {st : Store} {H : Hp} {p : Addr} {o : HO} (r : RelS K ρ st H) (h : H p = none) : RelS K ρ st (upd H p o) ∧ Ext ρ H ρ (upd H p o) := by
  have k : ∀ a ∈ ρ, upd H p o a = H a := fun a m => upd_ne (r.ne h m)
  refine ⟨⟨r.len, r.nd, fun l a o e1 e2 => ?_, fun a ha => ⟨(r.rs a ha).1, by rw [k a (.inr ha)]; exact (r.rs a ha).2⟩⟩, .laid h, rfl, fun a ha => k a (.inr ha)⟩
  obtain ⟨u, e3, e4⟩ := r.at_ l a o e1 e2
  exact ⟨u, by rw [k a (.inl (List.mem_of_getElem? e1))]; exact e3, e4.ext0 (.laid h)⟩
/-- a new object that may change: it gets the next place -/
def Pl.push (ρ : Pl) (p : Addr) : Pl := ⟨ρ.ps ++ [p], ρ.rs⟩
theorem Pl.mem_push {ρ : Pl} {a p : Addr} : a ∈ ρ.push p ↔ a ∈ ρ ∨ a = p := by
  show (a ∈ ρ.ps ++ [p] ∨ a ∈ ρ.rs) ↔ (a ∈ ρ.ps ∨ a ∈ ρ.rs) ∨ a = p
  rw [List.mem_append, List.mem_singleton]
  constructor
  · rintro ((h | h) | h)
    · exact .inl (.inl h)
    · exact .inr h
    · exact .inl (.inr h)
  · rintro ((h | h) | h)
    · exact .inl (.inl h)
    · exact .inr h
    · exact .inl (.inr h)
theorem Ext0.newLoc {ρ : Pl} {H : Hp} {p : Addr} {o : HO} (h : H p = none) : Ext0 ρ H (ρ.push p) (upd H p o) :=
  ⟨fun a u e n => ⟨by rw [upd_ne (ne_of_none e h)]; exact e, fun m => by
    rcases Pl.mem_push.mp m with m | m
    · exact n m
    · exact ne_of_none e h m⟩, List.prefix_append _ _⟩
theorem RelS.newLoc {K : PySem.W.Frag} {ρ : Pl} {st : Store} {H : Hp} {p : Addr} {o : Ob} {u : HO} (r : RelS K ρ st H) (h : H p = none) (ro : RelOb K (ρ.push p) (upd H p u) p o u) :
    RelS K (ρ.push p) (st ++ [o]) (upd H p u) ∧ Ext ρ H (ρ.push p) (upd H p u) := by
  have np := r.fresh h
  refine ⟨⟨by simp [Pl.push, r.len], ?_, fun l a q e1 e2 => ?_, fun a ha => ⟨fun m => ?_, ?_⟩⟩, .newLoc h, rfl, fun a ha => upd_ne (r.ne h (.inr ha))⟩
  · show (ρ.ps ++ [p]).Nodup
    rw [List.nodup_append]
    exact ⟨r.nd, by simp, fun a ha b hb => by rw [List.mem_singleton.mp hb]; exact fun z => np (.inl (z ▸ ha))⟩
  · have e1 : (ρ.ps ++ [p])[l]? = some a := e1
    by_cases hl : l < ρ.ps.length
    · rw [List.getElem?_append_left hl] at e1
      rw [List.getElem?_append_left (r.len ▸ hl)] at e2
      obtain ⟨x, e3, e4⟩ := r.at_ l a q e1 e2
      exact ⟨x, by rw [upd_ne (ne_of_none e3 h)]; exact e3, e4.ext0 (.newLoc h)⟩
    · rw [List.getElem?_append_right (Nat.le_of_not_lt hl)] at e1
      rw [List.getElem?_append_right (Nat.le_of_not_lt (r.len ▸ hl))] at e2
      have z : l - ρ.ps.length = 0 := by
        have := (List.getElem?_eq_some_iff.mp e1).1
        simp at this; omega
      rw [z] at e1
      rw [← r.len, z] at e2
      simp at e1 e2
      subst e1; subst e2
      exact ⟨u, upd_same, ro⟩
  · rcases List.mem_append.mp m with m | m
    · exact (r.rs a ha).1 m
    · exact r.ne h (.inr ha) (List.mem_singleton.mp m)
  · rw [upd_ne (r.ne h (.inr ha))]
    exact (r.rs a ha).2
/-- the object at a place is written -/
theorem Ext0.wrote {ρ : Pl} {H : Hp} {a : Addr} {o : HO} (h : a ∈ ρ) : Ext0 ρ H ρ (upd H a o) :=
  ⟨fun b u e n => ⟨by rw [upd_ne (fun (z : b = a) => n (z ▸ h))]; exact e, n⟩, List.prefix_refl _⟩
theorem RelS.wrote {K : PySem.W.Frag} {ρ : Pl} {st : Store} {H : Hp} {l : Nat} {a : Addr} {o : Ob} {u : HO} (r : RelS K ρ st H) (h : ρ.ps[l]? = some a) (ro : RelOb K ρ (upd H a u) a o u) :
    RelS K ρ (st.set l o) (upd H a u) ∧ Ext ρ H ρ (upd H a u) := by
  have hm : a ∈ ρ := .inl (List.mem_of_getElem? h)
  have nr : ∀ b ∈ ρ.rs, b ≠ a := fun b hb z => (r.rs b hb).1 (z ▸ List.mem_of_getElem? h)
  refine ⟨⟨by simp [r.len], r.nd, fun k b q e1 e2 => ?_, fun b hb => ⟨(r.rs b hb).1, by rw [upd_ne (nr b hb)]; exact (r.rs b hb).2⟩⟩, .wrote hm, rfl, fun b hb => upd_ne (nr b hb)⟩
  by_cases hk : k = l
  · subst hk
    rw [h] at e1; cases e1
    have hl : k < st.length := r.len ▸ (List.getElem?_eq_some_iff.mp h).1
    rw [List.getElem?_set_self hl] at e2; cases e2
    exact ⟨u, upd_same, ro⟩
  · rw [List.getElem?_set_ne (Ne.symm hk)] at e2
    obtain ⟨x, e3, e4⟩ := r.at_ k b q e1 e2
    have ne : b ≠ a := fun z => by
      subst z
      obtain ⟨h1, h2⟩ := List.getElem?_eq_some_iff.mp e1
      obtain ⟨h3, h4⟩ := List.getElem?_eq_some_iff.mp h
      exact hk ((List.getElem_inj r.nd).mp (h2.trans h4.symm))
    exact ⟨x, by rw [upd_ne ne]; exact e3, e4.ext0 (.wrote hm)⟩

/-! ### reading lists and tuples -/
section
variable {K : PySem.W.Frag} {ρ : Pl} {st : Store} {H : Hp} {v : Val} {w : V} {xs : List Val}
theorem Rep.lstOf (r : RelS K ρ st H) (h : Rep K ρ H v w) (e : Rc.lstOf st v = some xs) : ∃ a ws, w = .ref a ∧ H a = some (.lst ws) ∧ RepL K ρ H xs ws := by
  cases h with
  | lst h n q => cases e; exact ⟨_, _, rfl, h, q⟩
  | @loc l a h =>
    have e : (match st[l]? with
      | some (.lst xs) => some xs
      | _ => none) = some xs := e
    cases q : st[l]? with
    | none => rw [q] at e; cases e
    | some o =>
      rw [q] at e
      cases o with
      | lst ys =>
        cases e
        obtain ⟨u, e1, e2⟩ := r.at_ l a _ h q
        cases e2 with
        | lst q => exact ⟨_, _, rfl, e1, q⟩
      | _ => cases e
  | _ => cases e
theorem Rep.seqOf (r : RelS K ρ st H) (h : Rep K ρ H v w) (e : Rc.seqOf st v = some xs) : ∃ a ws, w = .ref a ∧ (SqL K H a ws ∨ SqT K H a ws) ∧ RepL K ρ H xs ws := by
  by_cases hv : ∃ ys, v = .tup ys
  · obtain ⟨ys, rfl⟩ := hv
    cases h with
    | tup h q => cases e; exact ⟨_, _, rfl, .inr h.sq, q⟩
  · have e' : Rc.lstOf st v = some xs := by
      cases v <;> first | exact e | exact absurd ⟨_, rfl⟩ hv
    obtain ⟨a, ws, h1, h2, h3⟩ := Rep.lstOf r h e'
    exact ⟨a, ws, h1, .inl (.of h2), h3⟩
end

/-! ### judgements -/
/-- an exception's own dict: with a row, or none -/
def ExcAt (H : Hp) (row : Option Int) (d : Option Addr) : Prop := match row with
  | none => d = none
  | some r => ∃ a, d = some a ∧ H a = some (.xd [("row", .int r)])
/-- what a run's end is to give: Q of what stands for the value; W of what is raised -/
def Post (K : PySem.W.Frag) {α β : Type} (rel : Pl → Hp → α → β → Prop) (W : WX) (σ : L2.St) (ρ : Pl) (H : Hp) (Q : β → Hp → Prop) : R α → Prop
  | .ok v st' => ∀ ρ' w H', Ext ρ H ρ' H' → RelS K ρ' st' H' → rel ρ' H' v w → Q w H'
  | .exc c row st' => ∀ ρ' d H', Ext ρ H ρ' H' → RelS K ρ' st' H' → ExcAt H' row d → W (.ref (He.ga K c)) d σ H'
  | .stuck => False
/-- the slots -/
def RelE (K : PySem.W.Frag) (ρ : Pl) (H : Hp) (env : Env) (σ : L2.St) : Prop := ∀ (i : Nat) (v : Val), env[i]? = some (some v) → ∃ w, σ[i]? = some (some w) ∧ Rep K ρ H v w
theorem RelE.ext {K : PySem.W.Frag} {ρ ρ' : Pl} {H H' : Hp} {env : Env} {σ : L2.St} (r : RelE K ρ H env σ) (e : Ext ρ H ρ' H') : RelE K ρ' H' env σ := fun i v h => by
  obtain ⟨w, h1, h2⟩ := r i v h
  exact ⟨w, h1, h2.ext e⟩
theorem RelE.ext' {K : PySem.W.Frag} {ρ ρ' : Pl} {H H' : Hp} {env : Env} {σ : L2.St} (r : RelE K ρ H env σ) (e : Ext0 ρ H ρ' H') : RelE K ρ' H' env σ := fun i v h => by
  obtain ⟨w, h1, h2⟩ := r i v h
  exact ⟨w, h1, h2.ext0 e⟩
theorem RelE.set {K : PySem.W.Frag} {ρ : Pl} {H : Hp} {env : Env} {σ : L2.St} {v : Val} {w : V} (r : RelE K ρ H env σ) (i : Nat) (hi : i < σ.length) (h : Rep K ρ H v w) : RelE K ρ H (env.set i (some v)) (σ.set i (some w)) := fun j u e => by
  by_cases hj : j = i
  · subst hj
    by_cases hl : j < env.length
    · rw [List.getElem?_set_self hl] at e
      cases e
      exact ⟨w, by rw [List.getElem?_set_self hi], h⟩
    · rw [List.set_eq_of_length_le (Nat.le_of_not_lt hl)] at e
      have := (List.getElem?_eq_some_iff.mp e).1
      exact absurd this hl
  · rw [List.getElem?_set_ne (Ne.symm hj)] at e
    obtain ⟨x, h1, h2⟩ := r j u e
    exact ⟨x, by rw [List.getElem?_set_ne (Ne.symm hj)]; exact h1, h2⟩
theorem RelE.unset {K : PySem.W.Frag} {ρ : Pl} {H : Hp} {env : Env} {σ : L2.St} (r : RelE K ρ H env σ) (i : Nat) : RelE K ρ H (env.set i none) (σ.set i none) := fun j u e => by
  by_cases hj : j = i
  · subst hj
    by_cases hl : j < env.length
    · rw [List.getElem?_set_self hl] at e; cases e
    · rw [List.set_eq_of_length_le (Nat.le_of_not_lt hl)] at e
      have := (List.getElem?_eq_some_iff.mp e).1
      exact absurd this hl
  · rw [List.getElem?_set_ne (Ne.symm hj)] at e
    obtain ⟨x, h1, h2⟩ := r j u e
    exact ⟨x, by rw [List.getElem?_set_ne (Ne.symm hj)]; exact h1, h2⟩
theorem RelE.wipe {K : PySem.W.Frag} {ρ : Pl} {H : Hp} {env : Env} {σ : L2.St} (r : RelE K ρ H env σ) : ∀ vs : List Nat, RelE K ρ H (Rc.wipe env vs) (L2.wipe σ vs)
  | [] => r
  | v :: vs => (r.wipe vs).unset v

section
variable {K : PySem.W.Frag} {α β γ δ : Type} {rel : Pl → Hp → α → β → Prop} {rel2 : Pl → Hp → γ → δ → Prop} {W : WX} {σ : L2.St} {ρ ρ1 : Pl} {H H1 : Hp} {Q : β → Hp → Prop} {Q2 : δ → Hp → Prop}
theorem Post.later {r : R α} (h : Post K rel W σ ρ H Q r) (e : Ext ρ H ρ1 H1) : Post K rel W σ ρ1 H1 Q r := by
  cases r with
  | ok v st => exact fun ρ' w H' e' s q => h ρ' w H' (e.trans e') s q
  | exc c row st => exact fun ρ' d H' e' s q => h ρ' d H' (e.trans e') s q
  | stuck => exact h
theorem Post.bnd {m : M α} {f : α → M γ} {st : Store} (h : Post K rel2 W σ ρ H Q2 (Rc.bnd m f st))
    (k : ∀ a st1 ρ1 b H1, Ext ρ H ρ1 H1 → RelS K ρ1 st1 H1 → rel ρ1 H1 a b → Post K rel2 W σ ρ1 H1 Q2 (f a st1) → Q b H1) : Post K rel W σ ρ H Q (m st) := by
  unfold Rc.bnd at h
  cases e : m st with
  | ok a st1 =>
    rw [e] at h
    exact fun ρ' w H' x s q => k a st1 ρ' w H' x s q (Post.later h x)
  | exc c row st1 =>
    rw [e] at h
    exact h
  | stuck =>
    rw [e] at h
    exact h
/-- the value is there -/
theorem Post.ret {a : α} {b : β} {st : Store} (h : Post K rel W σ ρ H Q (Rc.ret a st)) (s : RelS K ρ st H) (q : rel ρ H a b) : Q b H := h ρ b H (.refl _ _) s q
theorem Post.opt {o : Option α} {f : α → M γ} {st : Store} (h : Post K rel2 W σ ρ H Q2 (Rc.bnd (ofOpt o) f st)) : ∃ a, o = some a ∧ Post K rel2 W σ ρ H Q2 (f a st) := by
  cases o with
  | none => exact h.elim
  | some a => exact ⟨a, rfl, h⟩
end

def tG (K : PySem.W.Frag) {α β : Type} (rel : Pl → Hp → α → β → Prop) (W : WX) (m : Env → M α) : L2.St → Hp → (β → Hp → Prop) → Prop := fun σ H Q =>
  ∃ ρ env st, RelE K ρ H env σ ∧ RelS K ρ st H ∧ Post K rel W σ ρ H Q (m env st)
def relB : Pl → Hp → Bool → Bool → Prop := fun _ _ a b => a = b
def relI : Pl → Hp → Int → Int → Prop := fun _ _ a b => a = b
def relO : Pl → Hp → Option Int → Option Int → Prop := fun _ _ a b => a = b
abbrev tE (K : PySem.W.Frag) (W : WX) (m : Env → M Val) : TE := tG K (Rep K) W m
abbrev tA (K : PySem.W.Frag) (W : WX) (m : Env → M (List Val)) : TA := tG K (RepL K) W m
/-- a test -/
abbrev tT (K : PySem.W.Frag) (W : WX) (m : Env → M Val) : TT := tG K relB W fun env => bnd (m env) asBl

theorem PE.imp {X : Cx} {e : Expr} {t t' : TE} (h : PE X e t) (k : ∀ σ H Q, t' σ H Q → t σ H Q) : PE X e t' := ⟨fun pins s σ H Q I q => h.run pins s σ H Q I (k σ H Q q)⟩
theorem PT.imp {X : Cx} {e : Expr} {t t' : TT} (h : PT X e t) (k : ∀ σ H Q, t' σ H Q → t σ H Q) : PT X e t' := ⟨fun pins s σ H Q I q => h.run pins s σ H Q I (k σ H Q q)⟩
theorem PW.imp {X : Cx} {e : Expr} {t t' : TT} (h : PW X e t) (k : ∀ σ H Q, t' σ H Q → t σ H Q) : PW X e t' := ⟨fun whole pins s σ H Q I q => h.run whole pins s σ H Q I (k σ H Q q)⟩
theorem PA.imp {X : Cx} {e : List Expr} {t t' : TA} (h : PA X e t) (k : ∀ σ H Q, t' σ H Q → t σ H Q) : PA X e t' := ⟨fun pos pins s σ H Q I q => h.run pos pins s σ H Q I (k σ H Q q)⟩
theorem PS.imp {X : Cx} {e : Stmt} {t t' : TS} (h : PS X e t) (k : ∀ D σ H, t' D σ H → t D σ H) : PS X e t' := ⟨fun pins s σ H D I q => h.run pins s σ H D I (k D σ H q)⟩
theorem PSs.imp {X : Cx} {e : List Stmt} {t t' : TS} (h : PSs X e t) (k : ∀ D σ H, t' D σ H → t D σ H) : PSs X e t' := ⟨fun pins s σ H D I q => h.run pins s σ H D I (k D σ H q)⟩
theorem PI.imp {X : Cx} {tg e : Expr} {t t' : TI} (h : PI X tg e t) (k : ∀ σ H Q, t' σ H Q → t σ H Q) : PI X tg e t' := ⟨fun pins s σ H Q I q => h.run pins s σ H Q I (k σ H Q q)⟩
section
variable {K : PySem.W.Frag} {γ δ : Type} {rel2 : Pl → Hp → γ → δ → Prop} {W : WX} {σ : L2.St} {ρ : Pl} {H : Hp} {Q2 : δ → Hp → Prop}
theorem Post.asBl {v : Val} {f : Bool → M γ} {st : Store} (h : Post K rel2 W σ ρ H Q2 (Rc.bnd (asBl v) f st)) : ∃ b, v = .bl b ∧ Post K rel2 W σ ρ H Q2 (f b st) := by
  cases v <;> first | exact h.elim | exact ⟨_, rfl, h⟩
theorem Post.asInt {v : Val} {f : Int → M γ} {st : Store} (h : Post K rel2 W σ ρ H Q2 (Rc.bnd (asInt v) f st)) : ∃ b, v = .int b ∧ Post K rel2 W σ ρ H Q2 (f b st) := by
  cases v <;> first | exact h.elim | exact ⟨_, rfl, h⟩
end
theorem bnd_assoc {α β γ : Type} (m : M α) (f : α → M β) (g : β → M γ) : bnd (bnd m f) g = bnd m fun a => bnd (f a) g := by
  funext st
  unfold bnd
  cases m st <;> rfl
theorem bnd_ret {α : Type} (m : M α) : bnd m ret = m := by
  funext st
  unfold bnd ret
  cases m st <;> rfl
theorem Rep.bl_inv {K : PySem.W.Frag} {ρ : Pl} {H : Hp} {b : Bool} {w : V} (h : Rep K ρ H (.bl b) w) : w = .bl b := by cases h; rfl
theorem Rep.int_inv {K : PySem.W.Frag} {ρ : Pl} {H : Hp} {b : Int} {w : V} (h : Rep K ρ H (.int b) w) : w = .int b := by cases h; rfl
/-- a bool's place among tests: pt_val's reading -/
theorem tT_of {K : PySem.W.Frag} {W : WX} {m : Env → M Val} {σ : L2.St} {H : Hp} {Q : Bool → Hp → Prop} (h : tT K W m σ H Q) : tE K W m σ H fun x H1 => ∃ c, x = .bl c ∧ Q c H1 := by
  obtain ⟨ρ, env, st, rE, rS, p⟩ := h
  refine ⟨ρ, env, st, rE, rS, Post.bnd p fun a st1 ρ1 b H1 x s q p1 => ?_⟩
  rw [← bnd_ret (Rc.asBl a)] at p1
  obtain ⟨c, rfl, p2⟩ := p1.asBl
  exact ⟨c, q.bl_inv, p2.ret s rfl⟩
end Rc
/-! Rc3: the operations of the small language, over the layer's rules. -/
namespace Rc
open PySem L2

section
variable {K : PySem.W.Frag} {W : WX} {σ : L2.St} {ρ : Pl} {H : Hp} {Q : VK} {st : Store}
theorem post_v {new : Bool} {v : Val} {w : V} (p : Post K (Rep K) W σ ρ H Q (mk new (.v v) st)) (s : RelS K ρ st H) (r : Rep K ρ H v w) : Q w H := Post.ret p s r
theorem post_l {new : Bool} {vs : List Val} {ws : List V} (p : Post K (Rep K) W σ ρ H Q (mk new (.l vs) st)) (s : RelS K ρ st H) (r : RepL K ρ H vs ws) : ∀ a, H a = none → Q (.ref a) (upd H a (.lst ws)) := fun a h => by
  cases new with
  | false =>
    have p' : Post K (Rep K) W σ ρ H Q (ret (.lst vs) st) := p
    exact p' ρ (.ref a) _ (s.laid h).2 (s.laid h).1 (.lst upd_same (s.fresh h) (r.ext0 (.laid h)))
  | true =>
    have p' : Post K (Rep K) W σ ρ H Q (.ok (.loc st.length) (st ++ [.lst vs])) := p
    have z := s.newLoc (o := .lst vs) h (.lst (r.ext0 (.newLoc h)))
    refine p' (ρ.push a) (.ref a) _ z.2 z.1 (.loc ?_)
    show (ρ.ps ++ [a])[st.length]? = some a
    rw [← s.len]; simp
theorem post_t {vs : List Val} {ws : List V} (p : Post K (Rep K) W σ ρ H Q (ret (.tup vs) st)) (s : RelS K ρ st H) (r : RepL K ρ H vs ws) : ∀ a, H a = none → Q (.ref a) (upd H a (.tup ws)) := fun a h =>
  p ρ (.ref a) _ (s.laid h).2 (s.laid h).1 (.tup (.inl ⟨.inl upd_same, s.fresh h⟩) (r.ext0 (.laid h)))
end

/-- an operation of two values, by what it is to give -/
def rOp (K : PySem.W.Frag) (g : Val → Val → M Val) : R2 := fun x y H Q => ∃ (W : WX) (σ : L2.St) (ρ : Pl) (st : Store) (v w : Val), RelS K ρ st H ∧ Rep K ρ H v x ∧ Rep K ρ H w y ∧ Post K (Rep K) W σ ρ H Q (g v w st)
theorem tOp_of {K : PySem.W.Frag} {W : WX} {m1 m2 : Env → M Val} {g : Val → Val → M Val} {σ : L2.St} {H : Hp} {Q : VK} (h : tE K W (fun env => bnd (m1 env) fun v => bnd (m2 env) fun w => g v w) σ H Q) : tOp (rOp K g) (tE K W m1) (tE K W m2) σ H Q := by
  obtain ⟨ρ, env, st, rE, rS, p⟩ := h
  refine ⟨ρ, env, st, rE, rS, Post.bnd p fun v st1 ρ1 x H1 e1 s1 q1 p1 => ?_⟩
  refine ⟨ρ1, env, st1, rE.ext e1, s1, Post.bnd p1 fun w st2 ρ2 y H2 e2 s2 q2 p2 => ?_⟩
  exact ⟨W, σ, ρ2, st2, v, w, s2, q1.ext e2, q2, p2⟩
def rUn (K : PySem.W.Frag) (g : Val → M Val) : V → Hp → VK → Prop := fun x H Q => ∃ (W : WX) (σ : L2.St) (ρ : Pl) (st : Store) (v : Val), RelS K ρ st H ∧ Rep K ρ H v x ∧ Post K (Rep K) W σ ρ H Q (g v st)
theorem tUn_of {K : PySem.W.Frag} {W : WX} {m1 : Env → M Val} {g : Val → M Val} {σ : L2.St} {H : Hp} {Q : VK} (h : tE K W (fun env => bnd (m1 env) g) σ H Q) : tUn (rUn K g) (tE K W m1) σ H Q := by
  obtain ⟨ρ, env, st, rE, rS, p⟩ := h
  refine ⟨ρ, env, st, rE, rS, Post.bnd p fun v st1 ρ1 x H1 e1 s1 q1 p1 => ?_⟩
  exact ⟨W, σ, ρ1, st1, v, s1, q1, p1⟩

section
variable {X : Cx}
/-! ### arithmetic -/
theorem op_add_S {new : Bool} : OpR X (binaryOp .Add) (rOp X.K fun v w st => bnd (ofOpt (opAdd st v w)) (mk new) st) := by
  intro pins s σ H x y v u Q I rx ry h
  obtain ⟨W, σ', ρ, st, a, b, rS, ra, rb, p0⟩ := h
  obtain ⟨pv, e, p⟩ := Post.opt p0
  clear p0
  unfold opAdd at e
  split at e
  · cases e; cases ra; cases rb
    exact op_add pins s σ H _ _ v u Q I rx ry ⟨_, _, rfl, rfl, post_v p rS (.int _)⟩
  · split at e
    · rename_i hz
      cases e; cases ra; cases rb
      exact op_add_str pins s σ H _ _ v u Q I rx ry ⟨_, _, rfl, rfl, of_decide_eq_true hz, post_v p rS (.str _)⟩
    · cases e
  · split at e
    · rename_i xs ys hz
      cases e
      cases ra with
      | @tup a1 ws _ ta qa =>
        cases rb with
        | @tup a2 zs _ tb qb =>
          have l1 := qa.length
          have l2 := qb.length
          have hz' : xs.length + ys.length ≤ sizeLine := of_decide_eq_true hz
          refine op_catA pins s σ H _ _ v u Q I rx ry ⟨a1, a2, ws, zs, rfl, rfl, ta.sq, tb.sq, by omega, fun e => ?_, fun _ e => ?_, fun _ _ => post_t p rS (qa.append qb)⟩
          · subst e
            have : xs = [] := List.eq_nil_of_length_eq_zero l1
            subst this
            exact Post.ret p rS (.tup tb qb)
          · subst e
            have : ys = [] := List.eq_nil_of_length_eq_zero l2
            subst this
            rw [List.append_nil] at p
            exact Post.ret p rS (.tup ta qa)
    · cases e
  · split at e
    · rename_i xs ys e1 e2
      split at e
      · rename_i hz
        cases e
        obtain ⟨a1, ws, rfl, h1, q1⟩ := ra.lstOf rS e1
        obtain ⟨a2, zs, rfl, h2, q2⟩ := rb.lstOf rS e2
        have hz' : xs.length + ys.length ≤ sizeLine := of_decide_eq_true hz
        have l1 := q1.length
        have l2 := q2.length
        exact op_cat pins s σ H _ _ v u Q I rx ry ⟨a1, a2, ws, zs, rfl, rfl, h1, h2, by omega, post_l p rS (q1.append q2)⟩
      · cases e
    · cases e
theorem post_map {K : PySem.W.Frag} {W : WX} {σ : L2.St} {ρ : Pl} {H : Hp} {Q : VK} {st : Store} {new : Bool} {o : Option Val} (p : Post K (Rep K) W σ ρ H Q (bnd (ofOpt (o.map Pv.v)) (mk new) st)) : ∃ v, o = some v ∧ Post K (Rep K) W σ ρ H Q (ret v st) := by
  cases o with
  | none => exact p.elim
  | some v => exact ⟨v, rfl, p⟩
theorem op_sub_S {new : Bool} : OpR X (binaryOp .Sub) (rOp X.K fun v w st => bnd (ofOpt ((opSub v w).map Pv.v)) (mk new) st) := by
  intro pins s σ H x y v u Q I rx ry h
  obtain ⟨W, σ', ρ, st, a, b, rS, ra, rb, p⟩ := h
  obtain ⟨pv, e, p⟩ := post_map p
  unfold opSub at e
  split at e
  · cases e; cases ra; cases rb
    exact op_sub pins s σ H _ _ v u Q I rx ry ⟨_, _, rfl, rfl, Post.ret p rS (.int _)⟩
  · cases e
theorem op_mod_S {new : Bool} : OpR X (binaryOp .Mod) (rOp X.K fun v w st => bnd (ofOpt ((opMod v w).map Pv.v)) (mk new) st) := by
  intro pins s σ H x y v u Q I rx ry h
  obtain ⟨W, σ', ρ, st, a, b, rS, ra, rb, p⟩ := h
  obtain ⟨pv, e, p⟩ := post_map p
  unfold opMod at e
  split at e
  · split at e
    · rename_i hz
      cases e; cases ra; cases rb
      exact op_mod pins s σ H _ _ v u Q I rx ry ⟨_, _, rfl, rfl, hz, Post.ret p rS (.int _)⟩
    · cases e
  · cases e
theorem op_div_S {new : Bool} : OpR X (binaryOp .FloorDiv) (rOp X.K fun v w st => bnd (ofOpt ((opDiv v w).map Pv.v)) (mk new) st) := by
  intro pins s σ H x y v u Q I rx ry h
  obtain ⟨W, σ', ρ, st, a, b, rS, ra, rb, p⟩ := h
  obtain ⟨pv, e, p⟩ := post_map p
  unfold opDiv at e
  split at e
  · split at e
    · rename_i hz
      cases e; cases ra; cases rb
      have hz' := Bool.and_eq_true_iff.mp hz
      exact op_fdiv pins s σ H _ _ v u Q I rx ry ⟨_, _, rfl, rfl, ⟨of_decide_eq_true hz'.1, of_decide_eq_true hz'.2⟩, Post.ret p rS (.int _)⟩
    · cases e
  · cases e
theorem op_pow_S {new : Bool} : OpR X (binaryOp .Pow) (rOp X.K fun v w st => bnd (ofOpt ((opPow v w).map Pv.v)) (mk new) st) := by
  intro pins s σ H x y v u Q I rx ry h
  obtain ⟨W, σ', ρ, st, a, b, rS, ra, rb, p⟩ := h
  obtain ⟨pv, e, p⟩ := post_map p
  unfold opPow at e
  split at e
  · split at e
    · rename_i hz
      cases e; cases ra; cases rb
      have hz' := Bool.and_eq_true_iff.mp hz
      have hz2 := Bool.and_eq_true_iff.mp hz'.1
      exact op_pow pins s σ H _ _ v u Q I rx ry ⟨_, _, rfl, rfl, ⟨of_decide_eq_true hz2.1, of_decide_eq_true hz2.2, of_decide_eq_true hz'.2⟩, Post.ret p rS (.int _)⟩
    · cases e
  · cases e
theorem un_neg_S : UnR X (unaryOp .USub) (rUn X.K fun v => bnd (asInt v) fun i => ret (.int (-i))) := by
  intro pins s σ H x v Q I rx h
  obtain ⟨W, σ', ρ, st, a, rS, ra, p⟩ := h
  obtain ⟨i, rfl, p⟩ := Post.asInt p
  cases ra
  exact un_neg pins s σ H _ v Q I rx ⟨_, rfl, Post.ret p rS (.int _)⟩
end

/-! ### data -/
/-- all items have data -/
theorem mapO_dp {K : PySem.W.Frag} {ρ : Pl} {H : Hp} {f : Val → Option PyData} {n : Nat} (h : ∀ {v : Val} {w : V} {d : PyData}, Rep K ρ H v w → f v = some d → Dp K H w d ∧ d.canLay0 = true ∧ d.depth ≤ n) :
    ∀ {vs : List Val} {ws : List V} {ds : List PyData}, RepL K ρ H vs ws → mapO f vs = some ds → DpAll K H ws ds ∧ PyData.canLayAll0 ds = true ∧ PyData.depthAll ds ≤ n
  | _, _, _, .nil, e => by
    cases e
    exact ⟨.nil, rfl, Nat.zero_le _⟩
  | _, _, _, .cons r q, e => by
    unfold mapO at e
    obtain ⟨d, e1, e2⟩ := Option.bind_eq_some_iff.mp e
    obtain ⟨ds, e3, rfl⟩ := Option.map_eq_some_iff.mp e2
    obtain ⟨a1, a2, a3⟩ := h r e1
    obtain ⟨b1, b2, b3⟩ := mapO_dp h q e3
    refine ⟨.cons a1 b1, ?_, ?_⟩
    · show (d.canLay0 && PyData.canLayAll0 ds) = true
      rw [a2, b2]; rfl
    · show max d.depth (PyData.depthAll ds) ≤ n
      omega
/-- a value and its data -/
theorem Rep.dp {K : PySem.W.Frag} {ρ : Pl} {st : Store} {H : Hp} (rS : RelS K ρ st H) : ∀ (n : Nat) {v : Val} {w : V} {d : PyData}, Rep K ρ H v w → toD st n v = some d → Dp K H w d ∧ d.canLay0 = true ∧ d.depth ≤ n
  | 0, _, _, _, _, e => by cases e
  | n + 1, v, w, d, r, e => by
    have ih := fun {v : Val} {w : V} {d : PyData} => Rep.dp rS n (v := v) (w := w) (d := d)
    unfold toD at e
    cases r with
    | non => cases e; exact ⟨.non, rfl, Nat.zero_le _⟩
    | bl b => cases e; exact ⟨.bl b, rfl, Nat.zero_le _⟩
    | int i => cases e; exact ⟨.int i, rfl, Nat.zero_le _⟩
    | str s =>
      dsimp only at e
      split at e
      · rename_i hs
        cases e; exact ⟨.str s, hs, Nat.zero_le _⟩
      · cases e
    | @tup a ws vs t q =>
      obtain ⟨ds, e1, rfl⟩ := Option.map_eq_some_iff.mp e
      obtain ⟨h1, h2, h3⟩ := mapO_dp ih q e1
      exact ⟨.tup t.sq h1, h2, Nat.succ_le_succ h3⟩
    | @lst a ws vs t ne q =>
      obtain ⟨ds, e1, rfl⟩ := Option.map_eq_some_iff.mp e
      obtain ⟨h1, h2, h3⟩ := mapO_dp ih q e1
      exact ⟨.lst (.of t) h1, h2, Nat.succ_le_succ h3⟩
    | @loc l a h =>
      dsimp only at e
      split at e
      · rename_i xs q
        obtain ⟨u, e1, e2⟩ := rS.at_ l a _ h q
        cases e2 with
        | lst q =>
          obtain ⟨ds, e3, rfl⟩ := Option.map_eq_some_iff.mp e
          obtain ⟨h1, h2, h3⟩ := mapO_dp ih q e3
          exact ⟨.lst (.of e1) h1, h2, Nat.succ_le_succ h3⟩
      · cases e
    | dK _ _ _ => cases e
    | dT _ _ _ => cases e
    | scr _ => cases e
section
variable {X : Cx}
theorem shaped_of {n : Nat} {d : PyData} (h1 : d.canLay0 = true) (h2 : d.depth ≤ n) (h3 : n ≤ 64) : SeqAt.shaped d = true := by
  unfold SeqAt.shaped
  rw [h1, Bool.true_and]
  exact decide_eq_true (Nat.le_trans h2 h3)
/-- == on values: one of two rules -/
theorem veq_ok {K : PySem.W.Frag} {ρ : Pl} {st : Store} {H : Hp} (rS : RelS K ρ st H) {v w : Val} {x y : V} {b : Bool} (rv : Rep K ρ H v x) (rw' : Rep K ρ H w y) (e : veq st v w = some b) :
    (scal x y = true ∧ decide (x = y) = b) ∨ ∃ d e', Dp K H x d ∧ Dp K H y e' ∧ SeqAt.shaped d = true ∧ SeqAt.shaped e' = true ∧ PyData.eqv d e' = b := by
  unfold veq at e
  split at e
  · cases e; cases rv; cases rw'
    exact .inl ⟨rfl, by simp⟩
  · cases e; cases rv; cases rw'
    exact .inl ⟨rfl, by simp⟩
  · cases e; cases rv; cases rw'
    exact .inl ⟨rfl, by simp⟩
  · obtain ⟨d, e1, e2⟩ := Option.bind_eq_some_iff.mp e
    obtain ⟨e', e3, e4⟩ := Option.map_eq_some_iff.mp e2
    obtain ⟨a1, a2, a3⟩ := rv.dp rS _ e1
    obtain ⟨b1, b2, b3⟩ := rw'.dp rS _ e3
    exact .inr ⟨d, e', a1, b1, shaped_of a2 a3 (by decide), shaped_of b2 b3 (by decide), e4⟩
theorem post_optB {K : PySem.W.Frag} {W : WX} {σ : L2.St} {ρ : Pl} {H : Hp} {Q : VK} {st : Store} {o : Option Bool} (p : Post K (Rep K) W σ ρ H Q (bnd (ofOpt o) (fun b => ret (.bl b)) st)) (rS : RelS K ρ st H) : ∃ b, o = some b ∧ Q (.bl b) H := by
  obtain ⟨b, e, p⟩ := Post.opt p
  exact ⟨b, e, Post.ret p rS (.bl b)⟩
abbrev gCmp (op : CmpOp) : Val → Val → M Val := fun v w st => bnd (ofOpt (cmpOp st op v w)) (fun b => ret (.bl b)) st
theorem flat_of {K : PySem.W.Frag} {ρ : Pl} {H : Hp} {v : Val} {x : V} (r : Rep K ρ H v x) (f : flat v = true) : flatV x = true := by
  cases r <;> first | rfl | cases f
theorem flat_all {K : PySem.W.Frag} {ρ : Pl} {H : Hp} : ∀ {vs : List Val} {xs : List V}, RepL K ρ H vs xs → vs.all flat = true → xs.all flatV = true
  | _, _, .nil, _ => rfl
  | _, _, .cons r q, f => by
    rw [List.all_cons, Bool.and_eq_true] at f
    rw [List.all_cons, flat_of r f.1, flat_all q f.2]; rfl
theorem eqF_of {K : PySem.W.Frag} {ρ : Pl} {H : Hp} {v w : Val} {x y : V} (r : Rep K ρ H v x) (q : Rep K ρ H w y) (f : flat v = true) (g : flat w = true) : eqF v w = eqV x y := by
  cases r <;> cases q <;> first | rfl | cases f | cases g
theorem inV_of {K : PySem.W.Frag} {ρ : Pl} {H : Hp} {w : Val} {y : V} (q : Rep K ρ H w y) (g : flat w = true) : ∀ {vs : List Val} {xs : List V}, RepL K ρ H vs xs → vs.all flat = true → (vs.any fun z => eqF z w) = inV y xs
  | _, _, .nil, _ => rfl
  | _, _, .cons r s, f => by
    rw [List.all_cons, Bool.and_eq_true] at f
    rw [List.any_cons, eqF_of r q f.1 g, inV_of q g s f.2]
    rfl
theorem inSeq_of {K : PySem.W.Frag} {ρ : Pl} {H : Hp} {v : Val} {x : V} {vs : List Val} {ws : List V} {b : Bool} (rv : Rep K ρ H v x) (q : RepL K ρ H vs ws) (e : inSeq v (some vs) = some b) : flatV x = true ∧ ws.all flatV = true ∧ inV x ws = b := by
  unfold inSeq at e
  dsimp only at e
  split at e
  · rename_i hf
    cases e
    rw [Bool.and_eq_true] at hf
    exact ⟨flat_of rv hf.1, flat_all q hf.2, (inV_of rv hf.1 q hf.2).symm⟩
  · cases e
theorem opIn_of {K : PySem.W.Frag} {ρ : Pl} {st : Store} {H : Hp} (rS : RelS K ρ st H) {v w : Val} {x y : V} {b : Bool} (rv : Rep K ρ H v x) (rw' : Rep K ρ H w y) (e : opIn st v w = some b) :
    (∃ z t, x = .str z ∧ y = .str t ∧ (!(Builtin.Str.occurrences t z 0 t.length 1).isEmpty) = b) ∨ ∃ p ws, y = .ref p ∧ (SqL K H p ws ∨ SqT K H p ws) ∧ flatV x = true ∧ ws.all flatV = true ∧ inV x ws = b := by
  unfold opIn at e
  split at e
  · unfold inStr at e
    split at e
    · cases e; cases rv; cases rw'
      exact .inl ⟨_, _, rfl, rfl, rfl⟩
    · cases e
  · cases rw' with
    | tup t q => exact .inr ⟨_, _, rfl, .inr t.sq, inSeq_of rv q e⟩
  · cases el : lstOf st w with
    | none => rw [el] at e; cases e
    | some xs =>
      rw [el] at e
      obtain ⟨p, ws, rfl, h1, h2⟩ := rw'.lstOf rS el
      exact .inr ⟨p, ws, rfl, .inl (.of h1), inSeq_of rv h2 e⟩
theorem op_cmp_S (hu : X.A.units + 64 < cLine) : ∀ op : CmpOp, OpR X (compareOp op) (rOp X.K (gCmp op)) := by
  intro op pins s σ H x y v u Q I rx ry h
  obtain ⟨W, σ', ρ, st, a, b, rS, ra, rb, p⟩ := h
  obtain ⟨c, e, q⟩ := post_optB p rS
  cases op with
  | Eq =>
    rcases veq_ok rS ra rb e with ⟨h1, h2⟩ | ⟨d, e', h1, h2, h3, h4, h5⟩
    · exact op_eq pins s σ H _ _ v u Q I rx ry ⟨h1, by rw [h2]; exact q⟩
    · exact op_eqD hu pins s σ H _ _ v u Q I rx ry ⟨d, e', h1, h2, h3, h4, by rw [h5]; exact q⟩
  | NotEq =>
    obtain ⟨k, e1, rfl⟩ := Option.map_eq_some_iff.mp e
    rcases veq_ok rS ra rb e1 with ⟨h1, h2⟩ | ⟨d, e', h1, h2, h3, h4, h5⟩
    · exact op_ne pins s σ H _ _ v u Q I rx ry ⟨h1, by rw [h2]; exact q⟩
    · exact op_neD hu pins s σ H _ _ v u Q I rx ry ⟨d, e', h1, h2, h3, h4, by rw [h5]; exact q⟩
  | Lt =>
    dsimp only [cmpOp] at e
    unfold cmpLt at e
    split at e
    · cases e; cases ra; cases rb
      exact op_lt pins s σ H _ _ v u Q I rx ry ⟨_, _, rfl, rfl, q⟩
    · cases e
  | LtE =>
    dsimp only [cmpOp] at e
    unfold cmpLe at e
    split at e
    · cases e; cases ra; cases rb
      exact op_le pins s σ H _ _ v u Q I rx ry ⟨_, _, rfl, rfl, q⟩
    · cases e
  | Gt =>
    dsimp only [cmpOp] at e
    unfold cmpLt at e
    split at e
    · cases e; cases ra; cases rb
      exact op_gt pins s σ H _ _ v u Q I rx ry ⟨_, _, rfl, rfl, q⟩
    · cases e
  | GtE =>
    dsimp only [cmpOp] at e
    unfold cmpLe at e
    split at e
    · cases e; cases ra; cases rb
      exact op_ge pins s σ H _ _ v u Q I rx ry ⟨_, _, rfl, rfl, q⟩
    · cases e
  | Is =>
    dsimp only [cmpOp] at e
    unfold isOp at e
    split at e
    · cases e; cases rb
      refine op_isN pins s σ H _ _ v u Q I rx ry ⟨rfl, ?_⟩
      have : decide (x = .non) = isNon a := by cases ra <;> rfl
      rw [this]; exact q
    · cases e
  | IsNot =>
    dsimp only [cmpOp] at e
    obtain ⟨k, e0, rfl⟩ := Option.map_eq_some_iff.mp e
    clear e
    unfold isOp at e0
    split at e0
    · cases e0; cases rb
      refine op_notN pins s σ H _ _ v u Q I rx ry ⟨rfl, ?_⟩
      have : decide (x = .non) = isNon a := by cases ra <;> rfl
      rw [this]; exact q
    · cases e0
  | In =>
    dsimp only [cmpOp] at e
    rcases opIn_of rS ra rb e with ⟨z, t, rfl, rfl, rfl⟩ | ⟨p1, ws, rfl, h1, f1, f2, rfl⟩
    · exact op_in_str pins s σ H _ _ v u Q I rx ry ⟨_, _, rfl, rfl, q⟩
    · exact op_in_seq pins s σ H _ _ v u Q I rx ry ⟨p1, ws, rfl, h1, f1, f2, q⟩
  | NotIn =>
    dsimp only [cmpOp] at e
    obtain ⟨k, e0, rfl⟩ := Option.map_eq_some_iff.mp e
    rcases opIn_of rS ra rb e0 with ⟨z, t, rfl, rfl, rfl⟩ | ⟨p1, ws, rfl, h1, f1, f2, rfl⟩
    · exact op_notin_str pins s σ H _ _ v u Q I rx ry ⟨_, _, rfl, rfl, q⟩
    · exact op_notIn_seq pins s σ H _ _ v u Q I rx ry ⟨p1, ws, rfl, h1, f1, f2, q⟩

/-! ### subscripts -/
theorem atI_rep {K : PySem.W.Frag} {ρ : Pl} {H : Hp} {vs : List Val} {ws : List V} {i : Int} {v : Val} (r : RepL K ρ H vs ws) (e : atI vs i = some v) : ∃ w, atI ws i = some w ∧ Rep K ρ H v w := by
  unfold atI at e
  obtain ⟨j, e1, e2⟩ := Option.bind_eq_some_iff.mp e
  obtain ⟨w, e3, e4⟩ := r.get e2
  refine ⟨w, ?_, e4⟩
  unfold atI
  rw [← r.length, e1]
  exact e3
theorem ix_S : IxR X (rOp X.K fun v w st => bnd (ofOpt (ixOp st v w)) ret st) := by
  intro value slice pins s σ H x y v u Q I rx ry h hs
  obtain ⟨W, σ', ρ, st, a, b, rS, ra, rb, p0⟩ := h
  obtain ⟨c, e, p⟩ := Post.opt p0
  clear p0
  unfold ixOp at e
  split at e
  · split at e
    · rename_i hz
      obtain ⟨k, e1, rfl⟩ := Option.map_eq_some_iff.mp e
      cases ra; cases rb
      exact ix_str value slice pins s σ H _ _ v u Q I rx ry ⟨_, _, k, rfl, rfl, of_decide_eq_true hz, e1, Post.ret p rS (.str _)⟩ hs
    · cases e
  · cases rb
    cases ra with
    | tup t q =>
      obtain ⟨w', e2, e3⟩ := atI_rep q (show atI _ _ = some c from e)
      exact ix_tup value slice pins s σ H _ _ v u Q I rx ry ⟨_, _, _, w', rfl, rfl, t.sq, e2, Post.ret p rS e3⟩ hs
  · cases el : lstOf st a with
    | none => rw [el] at e; cases e
    | some xs =>
      rw [el] at e
      obtain ⟨p1, ws, rfl, h1, h2⟩ := ra.lstOf rS el
      cases rb
      obtain ⟨w', e2, e3⟩ := atI_rep h2 (show atI _ _ = some c from e)
      exact ix_list value slice pins s σ H _ _ v u Q I rx ry ⟨p1, ws, _, w', rfl, rfl, .of h1, e2, Post.ret p rS e3⟩ hs
  · cases e
/-! ### slices -/
def rSl (K : PySem.W.Frag) (g : Val → Option Int → Option Int → M Val) : V → Option Int → Option Int → Hp → VK → Prop := fun x lo hi H Q => ∃ (W : WX) (σ : L2.St) (ρ : Pl) (st : Store) (v : Val), RelS K ρ st H ∧ Rep K ρ H v x ∧ Post K (Rep K) W σ ρ H Q (g v lo hi st)
theorem cut_rep {K : PySem.W.Frag} {ρ : Pl} {H : Hp} {vs : List Val} {ws : List V} (lo hi : Option Int) (r : RepL K ρ H vs ws) : RepL K ρ H (cut vs lo hi) (cutV ws lo hi) := by
  unfold cut cutV
  rw [← r.length]
  exact (r.drop _).take _
theorem cut_whole {α : Type} {xs : List α} {lo hi : Option Int} (h : HT.sIx xs.length 0 lo = 0 ∧ HT.sIx xs.length xs.length hi = xs.length) : cut xs lo hi = xs := by
  unfold cut
  rw [h.1, h.2]
  simp
theorem repL_ints {K : PySem.W.Frag} {ρ : Pl} {H : Hp} : ∀ ns : List Int, RepL K ρ H (ns.map .int) (ns.map V.int)
  | [] => .nil
  | n :: ns => .cons (.int n) (repL_ints ns)
theorem sl_S {new : Bool} : SlR X (rSl X.K fun v lo hi st => bnd (ofOpt (slOp st v lo hi)) (mk new) st) := by
  intro pins s σ H x v vl vu lo hi sl Q I rx hs pl pu h
  obtain ⟨W, σ', ρ, st, a, rS, ra, p0⟩ := h
  obtain ⟨c, e, p⟩ := Post.opt p0
  clear p0
  unfold slOp at e
  split at e
  · cases e
    cases ra with
    | @tup a1 ws vs ta qa =>
      have hl := qa.length
      refine sl_tupA pins s σ H _ v vl vu lo hi sl Q I rx hs pl pu ⟨a1, ws, rfl, ta.sq, fun h => ?_, fun _ => post_t p rS (cut_rep lo hi qa)⟩
      rw [← hl] at h
      rw [cut_whole h] at p
      exact Post.ret p rS (.tup ta qa)
  · cases e
    cases ra with
    | scr h => exact sl_list pins s σ H _ v vl vu lo hi sl Q I rx hs pl pu ⟨_, _, rfl, h.sq, post_l p rS (cut_rep lo hi (repL_ints _))⟩
  · obtain ⟨xs, e1, rfl⟩ := Option.map_eq_some_iff.mp e
    obtain ⟨a1, ws, rfl, h1, q1⟩ := ra.lstOf rS e1
    exact sl_list pins s σ H _ v vl vu lo hi sl Q I rx hs pl pu ⟨a1, ws, rfl, .of h1, post_l p rS (cut_rep lo hi q1)⟩
/-! ### built-in functions -/
def rCall (K : PySem.W.Frag) (g : List Val → M Val) : List V → Hp → VK → Prop := fun xs H Q => ∃ (W : WX) (σ : L2.St) (ρ : Pl) (st : Store) (vs : List Val), RelS K ρ st H ∧ RepL K ρ H vs xs ∧ Post K (Rep K) W σ ρ H Q (g vs st)
theorem repL_one {K : PySem.W.Frag} {ρ : Pl} {H : Hp} {v : Val} {xs : List V} (r : RepL K ρ H [v] xs) : ∃ x, xs = [x] ∧ Rep K ρ H v x := by
  cases r with
  | cons h q => cases q; exact ⟨_, rfl, h⟩
theorem repL_two {K : PySem.W.Frag} {ρ : Pl} {H : Hp} {v w : Val} {xs : List V} (r : RepL K ρ H [v, w] xs) : ∃ x y, xs = [x, y] ∧ Rep K ρ H v x ∧ Rep K ρ H w y := by
  cases r with
  | cons h q =>
    obtain ⟨y, rfl, h2⟩ := repL_one q
    exact ⟨_, _, rfl, h, h2⟩
theorem mapO_ints {K : PySem.W.Frag} {ρ : Pl} {H : Hp} : ∀ {vs : List Val} {ws : List V} {ns : List Int}, RepL K ρ H vs ws → mapO toInt vs = some ns → ws = ns.map V.int
  | _, _, _, .nil, e => by cases e; rfl
  | _, _, _, .cons r q, e => by
    unfold mapO at e
    obtain ⟨d, e1, e2⟩ := Option.bind_eq_some_iff.mp e
    obtain ⟨ds, e3, rfl⟩ := Option.map_eq_some_iff.mp e2
    cases r <;> cases e1
    rw [mapO_ints q e3]; rfl
theorem mapO_bls {K : PySem.W.Frag} {ρ : Pl} {H : Hp} : ∀ {vs : List Val} {ws : List V} {ns : List Bool}, RepL K ρ H vs ws → mapO toBl vs = some ns → ws = ns.map V.bl
  | _, _, _, .nil, e => by cases e; rfl
  | _, _, _, .cons r q, e => by
    unfold mapO at e
    obtain ⟨d, e1, e2⟩ := Option.bind_eq_some_iff.mp e
    obtain ⟨ds, e3, rfl⟩ := Option.map_eq_some_iff.mp e2
    cases r <;> cases e1
    rw [mapO_bls q e3]; rfl
theorem foldl_max {x m : Int} {xs : List Int} (hm : m ∈ x :: xs) (hle : ∀ y, y ∈ x :: xs → y ≤ m) : xs.foldl max x = m := by
  induction xs generalizing x with
  | nil => simp at hm; exact hm.symm
  | cons y ys ih =>
    rw [List.foldl_cons]
    have hx := hle x (by simp)
    have hy := hle y (by simp)
    refine ih ?_ fun z hz => ?_
    · rcases List.mem_cons.mp hm with e | e
      · subst e
        have : max m y = m := by omega
        rw [this]; simp
      · rcases List.mem_cons.mp e with e | e
        · subst e
          have : max x m = m := by omega
          rw [this]; simp
        · exact List.mem_cons_of_mem _ e
    · rcases List.mem_cons.mp hz with e | e
      · omega
      · exact hle z (by simp [e])
theorem foldl_min {x m : Int} {xs : List Int} (hm : m ∈ x :: xs) (hle : ∀ y, y ∈ x :: xs → m ≤ y) : xs.foldl min x = m := by
  induction xs generalizing x with
  | nil => simp at hm; exact hm.symm
  | cons y ys ih =>
    rw [List.foldl_cons]
    have hx := hle x (by simp)
    have hy := hle y (by simp)
    refine ih ?_ fun z hz => ?_
    · rcases List.mem_cons.mp hm with e | e
      · subst e
        have : min m y = m := by omega
        rw [this]; simp
      · rcases List.mem_cons.mp e with e | e
        · subst e
          have : min x m = m := by omega
          rw [this]; simp
        · exact List.mem_cons_of_mem _ e
    · rcases List.mem_cons.mp hz with e | e
      · omega
      · exact hle z (by simp [e])
theorem bi_len : CallR X (.builtin "len") (rCall X.K fun vs st => bnd (ofOpt (biLen st vs)) ret st) := by
  intro pins s σ H xs us Q I r h
  obtain ⟨W, σ', ρ, st, vs, rS, ra, p0⟩ := h
  obtain ⟨c, e, p⟩ := Post.opt p0
  clear p0
  unfold biLen at e
  split at e
  · split at e
    · rename_i hz
      cases e
      obtain ⟨x, rfl, h1⟩ := repL_one ra
      cases h1
      exact call_len pins s σ H _ us Q I r ⟨_, _, rfl, ⟨of_decide_eq_true hz, rfl⟩, Post.ret p rS (.int _)⟩
    · cases e
  · obtain ⟨ys, e1, rfl⟩ := Option.map_eq_some_iff.mp e
    obtain ⟨x, rfl, h1⟩ := repL_one ra
    obtain ⟨a, ws, rfl, h2, h3⟩ := h1.seqOf rS e1
    have q := Post.ret p rS (.int _)
    rw [h3.length] at q
    rcases h2 with h2 | h2
    · exact call_len pins s σ H _ us Q I r ⟨_, _, rfl, .inl ⟨ws, h2, rfl⟩, q⟩
    · exact call_len pins s σ H _ us Q I r ⟨_, _, rfl, .inr ⟨ws, h2, rfl⟩, q⟩
  · cases e
/-! ### max, min of a tuple of ints -/
section
open PySem PyProof.Rows
variable {prog : Program} {w : World} {A : Around} {E : Value → Shared → Prop} {s : Shared} {l : Addr}
theorem it_tup {its : Array Value} {Q : Value → Shared → Prop} (hl : s.heap.IsTuple l its)
    (h : ∀ s2 : Shared, s2 = { s with heap := s.heap.push { cls := .type "tuple_iterator", data := .fields #[.ref l, .int 0 0] } } → (s2.heap.IsTupleIter s.heap.objs.size l 0 ∧ s2.heap.IsTuple l its) →
      (∀ b ∈ [s.heap.objs.size, l], b < s2.heap.objs.size) → l ≠ s.heap.objs.size → Q (.ref s.heap.objs.size) s2) : wpAny (model prog w) A (pyIter (.ref l)) Q E s := by
  have hlt : l < s.heap.objs.size := by
    obtain ⟨_, e, _⟩ := hl
    exact Heap.lt_size e
  refine wpAny_pyIter_tuple hl (h _ rfl ⟨⟨_, Heap.get?_push_size _ rfl, rfl, rfl⟩, ?_⟩ (fun b hb => ?_) (Nat.ne_of_lt hlt))
  · exact hl.at fun o e => Heap.get?_push_of_some _ e
  · show b < (s.heap.push _).objs.size
    rw [Heap.size_push]
    rcases List.mem_cons.mp hb with e1 | hb
    · rw [e1]; exact Nat.lt_succ_self _
    · rcases List.mem_cons.mp hb with e1 | hb
      · rw [e1]; exact Nat.lt_succ_of_lt hlt
      · cases hb
theorem kept_tup {h' : Heap} (hk : ∀ b o, b ∉ [s.heap.objs.size] → (s.heap.push { cls := .type "tuple_iterator", data := .fields #[.ref l, .int 0 0] }).get? b = some o → h'.get? b = some o) : ∀ b o, s.heap.get? b = some o → h'.get? b = some o := fun b o e => by
  refine hk b o (fun hm => ?_) (Heap.get?_push_of_some _ e)
  rcases List.mem_cons.mp hm with e1 | hm
  · exact (Nat.lt_irrefl _ (e1 ▸ Heap.lt_size e)).elim
  · cases hm
theorem max_tup {its : List Value} {ns : List Int} {Q : Value → Shared → Prop} (hh : A.handled = none) (hl : s.heap.IsTuple l its.toArray) (hi : IntsAre its ns) (hne : 0 < ns.length)
    (h : ∀ h' tk M t', (∀ b o, s.heap.get? b = some o → h'.get? b = some o) → M ∈ ns → (∀ a, a ∈ ns → a ≤ M) → Q (.int M t') { s with heap := h', toks := tk }) : wpAny (model prog w) A (call (.builtin "max") [.ref l]) Q E s := by
  obtain ⟨xs, e⟩ := hi.allInts.items
  have hn : numsOf (intItems xs).toList = ns := by rw [← e]; exact hi.numsOf
  rw [nums_intItems] at hn
  subst hn
  rw [e] at hl
  have hsz : 0 < xs.size := by simpa using hne
  refine call_max_walk (it_tup hl fun s2 e st hfp hlI => ?_)
  subst e
  refine ⟨_, _, _, _, _, _, _, rfl, Walks.tuple (A := A.in1) hh _ l hlI (intItems xs), st, hfp, by simpa [intItems] using hsz, CmpOf.ints_gt (numAt xs) (fun _ _ => intItems_at), fun v h' tk hP hk => ?_⟩
  obtain ⟨t, rfl⟩ := intItems_at hP
  obtain ⟨h1, h2⟩ := argBest_gt (numAt xs) ((intItems xs).size - 1)
  have hs2 : (intItems xs).size = xs.size := by simp [intItems]
  refine h h' tk _ t (kept_tup hk) ?_ fun a ha => ?_
  · rw [numAt_eq]; exact PySem.getD_mem (by rw [List.length_map, Array.length_toList]; omega)
  · obtain ⟨j, hj, rfl⟩ := mem_getD ha
    rw [List.length_map, Array.length_toList] at hj
    rw [← numAt_eq]; exact h2 j (by omega)
theorem min_tup {its : List Value} {ns : List Int} {Q : Value → Shared → Prop} (hh : A.handled = none) (hl : s.heap.IsTuple l its.toArray) (hi : IntsAre its ns) (hne : 0 < ns.length)
    (h : ∀ h' tk M t', (∀ b o, s.heap.get? b = some o → h'.get? b = some o) → M ∈ ns → (∀ a, a ∈ ns → M ≤ a) → Q (.int M t') { s with heap := h', toks := tk }) : wpAny (model prog w) A (call (.builtin "min") [.ref l]) Q E s := by
  obtain ⟨xs, e⟩ := hi.allInts.items
  have hn : numsOf (intItems xs).toList = ns := by rw [← e]; exact hi.numsOf
  rw [nums_intItems] at hn
  subst hn
  rw [e] at hl
  have hsz : 0 < xs.size := by simpa using hne
  refine call_min_walk (it_tup hl fun s2 e st hfp hlI => ?_)
  subst e
  refine ⟨_, _, _, _, _, _, _, rfl, Walks.tuple (A := A.in1) hh _ l hlI (intItems xs), st, hfp, by simpa [intItems] using hsz, CmpOf.ints_lt (numAt xs) (fun _ _ => intItems_at), fun v h' tk hP hk => ?_⟩
  obtain ⟨t, rfl⟩ := intItems_at hP
  obtain ⟨h1, h2⟩ := argBest_lt (numAt xs) ((intItems xs).size - 1)
  have hs2 : (intItems xs).size = xs.size := by simp [intItems]
  refine h h' tk _ t (kept_tup hk) ?_ fun a ha => ?_
  · rw [numAt_eq]; exact PySem.getD_mem (by rw [List.length_map, Array.length_toList]; omega)
  · obtain ⟨j, hj, rfl⟩ := mem_getD ha
    rw [List.length_map, Array.length_toList] at hj
    rw [← numAt_eq]; exact h2 j (by omega)
end
theorem bi_max (hc : X.calm = true) : CallR X (.builtin "max") (rCall X.K fun vs st => bnd (ofOpt (biMax st vs)) ret st) := by
  intro pins s σ H xs us Q I r h
  obtain ⟨W, σ', ρ, st, vs, rS, ra, p0⟩ := h
  obtain ⟨c, e, p⟩ := Post.opt p0
  clear p0
  unfold biMax at e
  split at e
  · cases e
    obtain ⟨x, y, rfl, h1, h2⟩ := repL_two ra
    cases h1; cases h2
    exact call_max2 hc pins s σ H _ us Q I r ⟨_, _, rfl, Post.ret p rS (.int _)⟩
  · obtain ⟨m, e1, rfl⟩ := Option.map_eq_some_iff.mp e
    obtain ⟨ys, e2, e3⟩ := Option.bind_eq_some_iff.mp e1
    obtain ⟨ns, e4, e5⟩ := Option.bind_eq_some_iff.mp e3
    obtain ⟨x, rfl, h1⟩ := repL_one ra
    obtain ⟨a, ws, rfl, h2, h3⟩ := h1.seqOf rS e2
    have := mapO_ints h3 e4
    subst this
    cases ns with
    | nil => cases e5
    | cons n ns =>
      cases e5
      rcases h2 with h2 | h2
      · exact cr_max hc pins s σ H _ us Q I r ⟨a, n :: ns, rfl, h2, Nat.succ_pos _, fun m hm hle => by
          rw [← foldl_max hm hle]
          exact Post.ret p rS (.int _)⟩
      · obtain ⟨its, rv, hl, _⟩ := I.tuple h2
        rw [Vals.ref1 r]
        exact max_tup (I.ok.hd hc) hl rv.ints (Nat.succ_pos _) fun h' tk m t' hk hm hle => ⟨.int _, H, I.kept hk, ⟨_, rfl⟩, by
          rw [← foldl_max hm hle]
          exact Post.ret p rS (.int _)⟩
  · cases e
theorem bi_min (hc : X.calm = true) : CallR X (.builtin "min") (rCall X.K fun vs st => bnd (ofOpt (biMin st vs)) ret st) := by
  intro pins s σ H xs us Q I r h
  obtain ⟨W, σ', ρ, st, vs, rS, ra, p0⟩ := h
  obtain ⟨c, e, p⟩ := Post.opt p0
  clear p0
  unfold biMin at e
  split at e
  · cases e
    obtain ⟨x, y, rfl, h1, h2⟩ := repL_two ra
    cases h1; cases h2
    exact call_min2 hc pins s σ H _ us Q I r ⟨_, _, rfl, Post.ret p rS (.int _)⟩
  · obtain ⟨m, e1, rfl⟩ := Option.map_eq_some_iff.mp e
    obtain ⟨ys, e2, e3⟩ := Option.bind_eq_some_iff.mp e1
    obtain ⟨ns, e4, e5⟩ := Option.bind_eq_some_iff.mp e3
    obtain ⟨x, rfl, h1⟩ := repL_one ra
    obtain ⟨a, ws, rfl, h2, h3⟩ := h1.seqOf rS e2
    have := mapO_ints h3 e4
    subst this
    cases ns with
    | nil => cases e5
    | cons n ns =>
      cases e5
      rcases h2 with h2 | h2
      · exact cr_min hc pins s σ H _ us Q I r ⟨a, n :: ns, rfl, h2, Nat.succ_pos _, fun m hm hle => by
          rw [← foldl_min hm hle]
          exact Post.ret p rS (.int _)⟩
      · obtain ⟨its, rv, hl, _⟩ := I.tuple h2
        rw [Vals.ref1 r]
        exact min_tup (I.ok.hd hc) hl rv.ints (Nat.succ_pos _) fun h' tk m t' hk hm hle => ⟨.int _, H, I.kept hk, ⟨_, rfl⟩, by
          rw [← foldl_min hm hle]
          exact Post.ret p rS (.int _)⟩
  · cases e
theorem bi_all (hc : X.calm = true) : CallR X (.builtin "all") (rCall X.K fun vs st => bnd (ofOpt (biAll st vs)) ret st) := by
  intro pins s σ H xs us Q I r h
  obtain ⟨W, σ', ρ, st, vs, rS, ra, p0⟩ := h
  obtain ⟨c, e, p⟩ := Post.opt p0
  clear p0
  unfold biAll at e
  split at e
  · obtain ⟨bs, e1, rfl⟩ := Option.map_eq_some_iff.mp e
    obtain ⟨ys, e2, e3⟩ := Option.bind_eq_some_iff.mp e1
    obtain ⟨x, rfl, h1⟩ := repL_one ra
    obtain ⟨a, ws, rfl, h2, h3⟩ := h1.lstOf rS e2
    have := mapO_bls h3 e3
    subst this
    exact cr_all hc pins s σ H _ us Q I r ⟨a, bs, rfl, .of h2, Post.ret p rS (.bl _)⟩
  · cases e
theorem bi_any (hc : X.calm = true) : CallR X (.builtin "any") (rCall X.K fun vs st => bnd (ofOpt (biAny st vs)) ret st) := by
  intro pins s σ H xs us Q I r h
  obtain ⟨W, σ', ρ, st, vs, rS, ra, p0⟩ := h
  obtain ⟨c, e, p⟩ := Post.opt p0
  clear p0
  unfold biAny at e
  split at e
  · obtain ⟨bs, e1, rfl⟩ := Option.map_eq_some_iff.mp e
    obtain ⟨ys, e2, e3⟩ := Option.bind_eq_some_iff.mp e1
    obtain ⟨x, rfl, h1⟩ := repL_one ra
    obtain ⟨a, ws, rfl, h2, h3⟩ := h1.lstOf rS e2
    have := mapO_bls h3 e3
    subst this
    exact cr_any hc pins s σ H _ us Q I r ⟨a, bs, rfl, .of h2, Post.ret p rS (.bl _)⟩
  · cases e
theorem bi_int : CallR X (.type "int") (rCall X.K fun vs st => bnd (ofOpt (biInt vs)) ret st) := by
  intro pins s σ H xs us Q I r h
  obtain ⟨W, σ', ρ, st, vs, rS, ra, p0⟩ := h
  obtain ⟨c, e, p⟩ := Post.opt p0
  clear p0
  unfold biInt at e
  split at e
  · cases e
    obtain ⟨x, rfl, h1⟩ := repL_one ra
    cases h1
    exact call_int1 pins s σ H _ us Q I r (.inl ⟨_, rfl, Post.ret p rS (.int _)⟩)
  · cases e
    obtain ⟨x, rfl, h1⟩ := repL_one ra
    cases h1
    exact call_int1 pins s σ H _ us Q I r (.inr ⟨_, rfl, Post.ret p rS (.int _)⟩)
  · cases e
theorem bi_tuple : CallR X (.type "tuple") (rCall X.K fun vs st => bnd (ofOpt (biTuple st vs)) ret st) := by
  intro pins s σ H xs us Q I r h
  obtain ⟨W, σ', ρ, st, vs, rS, ra, p0⟩ := h
  obtain ⟨c, e, p⟩ := Post.opt p0
  clear p0
  unfold biTuple at e
  split at e
  · obtain ⟨ys, e1, rfl⟩ := Option.map_eq_some_iff.mp e
    obtain ⟨x, rfl, h1⟩ := repL_one ra
    rename_i v
    by_cases hv : ∃ zs, v = .tup zs
    · obtain ⟨zs, rfl⟩ := hv
      cases e1
      cases h1 with
      | tup ta qa => exact call_tuple_of pins s σ H _ us Q I r ⟨_, _, rfl, .inr ⟨ta.sq, Post.ret p rS (.tup ta qa)⟩⟩
    · have e' : lstOf st v = some ys := by
        cases v <;> first | exact e1 | exact absurd ⟨_, rfl⟩ hv
      obtain ⟨a, ws, rfl, h2, h3⟩ := h1.lstOf rS e'
      exact call_tuple_of pins s σ H _ us Q I r ⟨a, ws, rfl, .inl ⟨.of h2, post_t p rS h3⟩⟩
  · cases e
theorem bi_list {new : Bool} : CallR X (.type "list") (rCall X.K fun vs st => bnd (ofOpt (biList st vs)) (mk new) st) := by
  intro pins s σ H xs us Q I r h
  obtain ⟨W, σ', ρ, st, vs, rS, ra, p0⟩ := h
  obtain ⟨c, e, p⟩ := Post.opt p0
  clear p0
  unfold biList at e
  split at e
  · obtain ⟨ys, e1, rfl⟩ := Option.map_eq_some_iff.mp e
    obtain ⟨x, rfl, h1⟩ := repL_one ra
    obtain ⟨a, ws, rfl, h2, h3⟩ := h1.seqOf rS e1
    exact call_list_of pins s σ H _ us Q I r ⟨a, ws, rfl, h2, post_l p rS h3⟩
  · cases e
/-! ### isinstance -/
def kdName : Kd → String
  | .bool => "bool"
  | .int => "int"
  | .str => "str"
  | .tuple => "tuple"
  | .list => "list"
theorem kit_kd {K : PySem.W.Frag} (q k : Kd) : PySem.W.kitOne K (.type (kdName q)) (.type (kdName k)) = some (decide (q = k) || (decide (q = .bool) && decide (k = .int))) := by
  apply kit_ty
  cases q <;> cases k <;> decide +kernel
theorem kit_non {K : PySem.W.Frag} (k : Kd) : PySem.W.kitOne K (.type "NoneType") (.type (kdName k)) = some false := by
  apply kit_ty
  cases k <;> decide +kernel
theorem kind_ty {K : PySem.W.Frag} {ρ : Pl} {st : Store} {H : Hp} {v : Val} {x : V} {q : Kd} (rS : RelS K ρ st H) (r : Rep K ρ H v x) (e : kindOf st v = some q) : TyX K H x (.type (kdName q)) := by
  cases r with
  | bl b => cases e; exact .base (.bl b)
  | int i => cases e; exact .base (.int i)
  | str s => cases e; exact .base (.str s)
  | tup t _ =>
    cases e
    rcases t with ⟨t | ⟨o, t⟩, _⟩ | ⟨o, its, n, h1, h2, _⟩
    · exact .base (.tup t)
    · exact .fTuple t
    · exact .kTuple h1 h2
  | lst t n _ => cases e; exact .base (.lst t)
  | @loc l a h =>
    unfold kindOf at e
    dsimp only at e
    split at e
    · rename_i xs h1
      cases e
      obtain ⟨u, e1, e2⟩ := rS.at_ l a _ h h1
      cases e2
      exact .base (.lst e1)
    · cases e
  | _ => cases e
theorem isin_S {k : Kd} : CallR X (.builtin "isinstance") (fun xs H Q => ∃ x, xs = [x, .ty (kdName k)] ∧ rUn X.K (fun v st => bnd (ofOpt (isinOp st v k)) (fun b => ret (.bl b)) st) x H Q) := by
  intro pins s σ H xs us Q I r h
  obtain ⟨x, rfl, W, σ', ρ, st, v, rS, ra, p⟩ := h
  obtain ⟨c, e, q⟩ := post_optB p rS
  unfold isinOp at e
  split at e
  · cases e; cases ra
    exact call_isi pins s σ H _ us Q I r ⟨_, _, _, _, false, rfl, .ty _, .base .non, kit_non k, q⟩
  · obtain ⟨kd, e1, rfl⟩ := Option.map_eq_some_iff.mp e
    exact call_isi pins s σ H _ us Q I r ⟨_, _, _, _, _, rfl, .ty _, kind_ty rS ra e1, kit_kd kd k, q⟩
end

/-! ### tuple * int -/
section
open PySem.Spec PyProof.Rows
theorem tuple_mul1 (l : Addr) (items : Array Value) (n : Nat) (dd : Option Addr) (sl : Array (Option Value)) (x : Int) (u : Tok) (c0 : (decide (x < -(2 ^ 63)) || decide (x ≥ 2 ^ 63)) = false) (c1 : (items.isEmpty || x == 1) = true) :
    Meets (Builtin.«tuple.__mul__» ⟨[.ref l, .int x u], []⟩) (fun _ R s => s.heap.get? l = some { cls := .type "tuple", dict := dd, data := .seq items n, slots := sl } ∧
      R (.ok (.ret (Value.ref l))) s) :=
  .of_wp fun prog w A R s h => by
    obtain ⟨hp, g, d, tk, os⟩ := s
    obtain ⟨hl, h⟩ := h
    have f1 := AutoSeq1.idx_int
    wp_walk using wpAny_loadPart' hl
    repeat (first
      | (refine wpAny_ite_false (decide_eq_false (by rw [c0]; exact Bool.false_ne_true)) ?_; wp_walk using wpAny_loadPart' hl)
      | (refine wpAny_ite_true (decide_eq_true c1) ?_; wp_walk using wpAny_loadPart' hl))
    exact ⟨_, rfl, h⟩
theorem tuple_mul0 (l : Addr) (items : Array Value) (n : Nat) (dd : Option Addr) (sl : Array (Option Value)) (x : Int) (u : Tok) (c0 : (decide (x < -(2 ^ 63)) || decide (x ≥ 2 ^ 63)) = false) (c1 : (items.isEmpty || x == 1) = false) (c2 : (decide (x ≤ 0) || items.isEmpty) = true) :
    Meets (Builtin.«tuple.__mul__» ⟨[.ref l, .int x u], []⟩) (fun _ R s => s.heap.get? l = some { cls := .type "tuple", dict := dd, data := .seq items n, slots := sl } ∧
      R (.ok (.ret (Value.ref s.heap.objs.size))) { s with heap := s.heap.push { cls := Value.type "tuple", data := Data.seq #[] }, toks := s.toks }) :=
  .of_wp fun prog w A R s h => by
    obtain ⟨hp, g, d, tk, os⟩ := s
    obtain ⟨hl, h⟩ := h
    have f1 := AutoSeq1.idx_int
    wp_walk using wpAny_loadPart' hl
    repeat (first
      | (refine wpAny_ite_false (decide_eq_false (by rw [c0]; exact Bool.false_ne_true)) ?_; wp_walk using wpAny_loadPart' hl)
      | (refine wpAny_ite_false (decide_eq_false (by rw [c1]; exact Bool.false_ne_true)) ?_; wp_walk using wpAny_loadPart' hl)
      | (refine wpAny_ite_true (decide_eq_true c2) ?_; wp_walk using wpAny_loadPart' hl))
    exact ⟨_, rfl, h⟩

def rRepA (K : PySem.W.Frag) : R2 := fun x y H Q => ∃ l k xs, x = .ref l ∧ y = .int k ∧ SqT K H l xs ∧ 0 ≤ k ∧ k ≤ 1000 ∧ xs.length ≤ 1000 ∧
  (xs = [] ∨ k = 1 → Q (.ref l) H) ∧ (xs ≠ [] → k ≠ 1 → ∀ p, H p = none → Q (.ref p) (upd H p (.tup (List.replicate k.toNat xs).flatten)))
theorem op_repA {X : Cx} : OpR X (binaryOp .Mult) (rRepA X.K) := by
  intro pins s σ H x y v u Q I rx ry h
  obtain ⟨l, k, xs, rfl, rfl, hT, h0, h2, hz, q1, q2⟩ := h
  by_cases hk : 2 ≤ k ∧ xs ≠ []
  · exact op_repT pins s σ H _ _ v u Q I rx ry ⟨l, k, xs, rfl, rfl, hT, hk.2, hk.1, h2, hz, q2 hk.2 (by omega)⟩
  · cases rx
    obtain ⟨t, rfl⟩ := ry
    obtain ⟨its, r, ⟨⟨cls, dd, data, sl⟩, ho, hc, n, hd⟩, hs⟩ := I.tuple hT
    simp only at hc hd
    subst hc hd
    have hle : its.length = xs.length := r.length.symm
    have c0 : (decide (k < -(2 ^ 63)) || decide (k ≥ 2 ^ 63)) = false := by
      rw [decide_eq_false (by omega), decide_eq_false (by omega)] <;> rfl
    by_cases h1 : xs = [] ∨ k = 1
    · have c1 : (its.toArray.isEmpty || k == 1) = true := by
        rcases h1 with h1 | h1
        · subst h1
          have : its = [] := List.eq_nil_of_length_eq_zero hle
          subst this
          rfl
        · subst h1; simp
      refine wpAny_binaryOp_repeat_ref (T := "tuple") (U := "int") (by decide) ⟨_, ho, rfl⟩ (fun s' => typeIs_int s' k t) noFill_tuple_mul PySem.F.fills_int_mul PySem.F.slot_int_rmul repeat_tuple PySem.F.slot_int_index.lookup
        (call_meets PySem.F.slot_int_rmul (typeIs_int s k t) PySem.F.entry_int_rmul (PySem.F.args_int_rmul_2 _ _) (int_rmul_tuple k t l its.toArray n dd sl)
          ⟨ho, rfl, ⟨_, ho, rfl⟩, call_meets PySem.F.slot_tuple_mul ⟨_, ho, rfl⟩ PySem.F.entry_tuple_mul (PySem.F.args_tuple_mul_2 _ _) (tuple_mul1 l its.toArray n dd sl k t c0 c1) ⟨ho, ?_⟩⟩)
      exact ⟨.ref l, H, I, rfl, q1 h1⟩
    · have hx : xs ≠ [] := fun e => h1 (.inl e)
      have hk1 : k ≠ 1 := fun e => h1 (.inr e)
      have hk0 : k = 0 := by
        by_cases h2 : 2 ≤ k
        · exact absurd ⟨h2, hx⟩ hk
        · omega
      subst hk0
      have hi : its.toArray.isEmpty = false := by
        cases its with
        | nil => exact absurd (List.eq_nil_of_length_eq_zero hle.symm) hx
        | cons a b => rfl
      have c1 : (its.toArray.isEmpty || (0 : Int) == 1) = false := by rw [hi]; rfl
      have c2 : (decide ((0 : Int) ≤ 0) || its.toArray.isEmpty) = true := by rw [decide_eq_true (Int.le_refl _)]; rfl
      refine wpAny_binaryOp_repeat_ref (T := "tuple") (U := "int") (by decide) ⟨_, ho, rfl⟩ (fun s' => typeIs_int s' 0 t) noFill_tuple_mul PySem.F.fills_int_mul PySem.F.slot_int_rmul repeat_tuple PySem.F.slot_int_index.lookup
        (call_meets PySem.F.slot_int_rmul (typeIs_int s 0 t) PySem.F.entry_int_rmul (PySem.F.args_int_rmul_2 _ _) (int_rmul_tuple 0 t l its.toArray n dd sl)
          ⟨ho, rfl, ⟨_, ho, rfl⟩, call_meets PySem.F.slot_tuple_mul ⟨_, ho, rfl⟩ PySem.F.entry_tuple_mul (PySem.F.args_tuple_mul_2 _ _) (tuple_mul0 l its.toArray n dd sl 0 t c0 c1 c2) ⟨ho, ?_⟩⟩)
      refine ⟨.ref s.heap.objs.size, _, I.laid (t' := s.toks) (o := .tup []) (fun b ob q => Heap.get?_push_of_some _ q) (Nat.le_refl _) ?_, rfl, q2 hx hk1 _ (I.hok.fresh (Nat.le_refl _))⟩
      exact ⟨Nat.zero_le _, [], .nil, IsTup.new _ _⟩
end
theorem op_mul_S {X : Cx} {new : Bool} : OpR X (binaryOp .Mult) (rOp X.K fun v w st => bnd (ofOpt ((opMul v w).map Pv.v)) (mk new) st) := by
  intro pins s σ H x y v u Q I rx ry h
  obtain ⟨W, σ', ρ, st, a, b, rS, ra, rb, p0⟩ := h
  obtain ⟨pv, e, p⟩ := post_map p0
  clear p0
  unfold opMul at e
  split at e
  · split at e
    · rename_i hz
      cases e; cases ra; cases rb
      refine op_mul pins s σ H _ _ v u Q I rx ry ⟨_, _, rfl, rfl, ?_, Post.ret p rS (.int _)⟩
      unfold mulOk at hz
      rcases Bool.or_eq_true_iff.mp hz with hz | hz
      · have := Bool.and_eq_true_iff.mp hz
        exact .inl ⟨of_decide_eq_true this.1, of_decide_eq_true this.2⟩
      · have := Bool.and_eq_true_iff.mp hz
        exact .inr ⟨of_decide_eq_true this.1, of_decide_eq_true this.2⟩
    · cases e
  · split at e
    · rename_i xs k hz
      cases e; cases rb
      simp only [Bool.and_eq_true] at hz
      have z1 := of_decide_eq_true hz.1.1
      have z2 := of_decide_eq_true hz.1.2
      have z3 : xs.length ≤ 1000 := of_decide_eq_true hz.2
      cases ra with
      | @tup a1 ws vs ta qa =>
        have hl := qa.length
        refine op_repA pins s σ H _ _ v u Q I rx ry ⟨a1, k, ws, rfl, rfl, ta.sq, z1, z2, by omega, fun h => ?_, fun _ _ => post_t p rS (qa.rep _)⟩
        have e : (List.replicate k.toNat xs).flatten = xs := by
          rcases h with h | h
          · subst h
            have : xs = [] := List.eq_nil_of_length_eq_zero hl
            subst this
            simp
          · subst h; simp
        rw [e] at p
        exact Post.ret p rS (.tup ta qa)
    · cases e
  · cases e
end Rc
namespace Rc
open PySem L2 PyProof.Rows HT
/-! ### the turned tuple, the turned list -/
section
variable {prog : Program} {w : World} {A : Around} {E : Value → Shared → Prop} {s : Shared}
theorem adjust_rev (n : Nat) : Builtin.Slice.sliceAdjust none none (-1) (n : Int) = ((n : Int) - 1, -1) := by
  unfold Builtin.Slice.sliceAdjust
  simp
theorem places_rev (n : Nat) : Builtin.Slice.slicePlaces ((n : Int) - 1) (-1) (-1) = n := by
  unfold Builtin.Slice.slicePlaces
  simp
  omega
theorem applied_rev {sl : Addr} {vs : Value} {n : Nat} {Q : Int × Int × Nat → Shared → Prop} (hs : s.heap.IsSliceOf sl .none .none vs) (ps : IsPart vs (some (-1)))
    (h : Q ((n : Int) - 1, -1, n) s) : wpAny (model prog w) A (Builtin.Slice.sliceApplied (.ref sl) (pure (n : Int))) Q E s := by
  obtain ⟨os, hos, hcs, hds⟩ := id hs
  unfold Builtin.Slice.sliceApplied Builtin.Slice.sliceFields
  refine wpAny_bind (wpAny_bind (wpAny_field hos hds (x := .none) rfl (wpAny_bind (wpAny_field hos hds (x := .none) rfl (wpAny_bind (wpAny_field hos hds (x := vs) rfl (wpAny_pure ?_)))))))
  refine wpAny_bind (slicePart_ ps ?_)
  show wpAny _ _ (if ((-1 : Int) == 0) = true then _ else _) _ _ s
  rw [if_neg (by decide)]
  refine wpAny_bind (slicePart_none (wpAny_bind (slicePart_none (wpAny_bind (wpAny_pure ?_)))))
  show wpAny _ _ (match Builtin.Slice.sliceAdjust none none (-1) (n : Int) with | (lo, hi) => pure (lo, (-1 : Int), Builtin.Slice.slicePlaces lo hi (-1))) _ _ s
  rw [adjust_rev n]
  show wpAny _ _ (pure ((n : Int) - 1, (-1 : Int), Builtin.Slice.slicePlaces ((n : Int) - 1) (-1) (-1))) _ _ s
  rw [places_rev]
  exact wpAny_pure h
theorem pick_rev (xs : Array Value) : ((List.range xs.size).filterMap fun (m : Nat) => xs[(((xs.size : Int) - 1) + (m : Int) * (-1)).toNat]?).toArray = xs.toList.reverse.toArray := by
  have e : (fun (m : Nat) => xs[(((xs.size : Int) - 1) + (m : Int) * (-1)).toNat]?) = (fun x => xs[x]?) ∘ fun m => xs.size - 1 - m := by
    funext m
    have : (((xs.size : Int) - 1) + (m : Int) * (-1)).toNat = xs.size - 1 - m := by omega
    rw [this]
    rfl
  rw [e, ← List.filterMap_map, PySem.W.krv_range, List.filterMap_reverse, PySem.W.krv_all]
theorem getItem_tup_rev {t sl : Addr} {items : Array Value} {vs : Value} {Q : Value → Shared → Prop} (ht : IsTup s.heap t items) (hs : s.heap.IsSliceOf sl .none .none vs) (ps : IsPart vs (some (-1)))
    (h : Q (.ref s.heap.objs.size) { s with heap := s.heap.push { cls := .type "tuple", data := .seq items.toList.reverse.toArray } })
    (hsz : items.size ≤ sizeLine) : wpAny (model prog w) A (getItem (.ref t) (.ref sl)) Q E s := by
  have htake : sizeOk (.seq items.toList.reverse.toArray) := by
    show items.toList.reverse.toArray.size ≤ sizeLine
    rw [List.size_toArray, List.length_reverse, Array.length_toList]
    exact hsz
  obtain ⟨os, hos, hcs, hds⟩ := id hs
  have hTs : s.TypeIs (.ref sl) "slice" := ⟨os, hos, hcs⟩
  unfold getItem
  try with_reducible refine wpAny_holding ?_
  first | refine wpAny_bind (wpAny_pure ?_) | skip
  refine wpAny_bind (wpAny_sequenceKey ht.typeIs (by decide) ?_)
  refine wpAny_bind (wpAny_callSpecial?_slot (name := Str.ofString "__getitem__") ht.typeIs PyProof.Rows.slot_tuple_getitem
    (wpAny_call_entry PyProof.Rows.slot_tuple_getitem ht.typeIs entry_tuple_getitem ?_ (args_tuple_getitem _ _)))
  show wpAny _ _ (Builtin.Tuple.tupleItemsOf (.ref t) >>= _) _ _ s
  refine wpAny_bind (tupleItemsOf_ ht ?_)
  refine wpAny_bind (wpAny_typeOf hTs ?_)
  rw [if_pos (by decide)]
  refine wpAny_bind (applied_rev hs ps ?_)
  have hno : ¬ ((((items.size : Int) - 1) == 0 && (-1 : Int) == 1 && items.size == items.size) = true) := by
    intro q
    rw [Bool.and_eq_true, Bool.and_eq_true] at q
    exact absurd q.1.2 (by decide)
  show wpAny _ _ (if (((items.size : Int) - 1) == 0 && (-1 : Int) == 1 && items.size == items.size) = true then _ else _) _ _ s
  rw [if_neg hno, pick_rev]
  first
    | exact wpAny_bind (m := Builtin.Tuple.tupleExact _) (wpAny_newObj_type (wpAny_pure ⟨_, rfl, wpAny_pure h⟩) htake)
    | exact wpAny_bind (m := Builtin.Tuple.tupleExact _) (wpAny_newObj_type (wpAny_bind (wpAny_pure (wpAny_pure ⟨_, rfl, wpAny_pure h⟩))) htake)
    | exact wpAny_bind (wpAny_bind (m := Builtin.Tuple.tupleExact _) (wpAny_newObj_type (wpAny_pure (wpAny_pure ⟨_, rfl, wpAny_pure h⟩)) htake))
    | exact wpAny_bind (wpAny_bind (m := Builtin.Tuple.tupleExact _) (wpAny_newObj_type (wpAny_pure ⟨_, rfl, wpAny_pure h⟩) htake))
end
section
variable {X : Cx}
def tRev (K : PySem.W.Frag) (te : TE) : TE := fun σ H Q => te σ H fun x H1 => ∃ a xs, x = .ref a ∧ ((SqL K H1 a xs ∧ ∀ p, H1 p = none → Q (.ref p) (upd H1 p (.lst xs.reverse))) ∨ (SqT K H1 a xs ∧ ∀ p, H1 p = none → Q (.ref p) (upd H1 p (.tup xs.reverse))))
theorem pe_rev {e : Expr} {te : TE} {k : Nat} {p1 p2 p3 pos : Pos} (he : PE X e te) : PE X (.Subscript e (.Slice none none (some (.UnaryOp .USub (.Constant (.int 1) k p1) p2)) p3) pos) (tRev X.K te) := by
  refine ⟨fun pins s σ H Q I h => ?_⟩
  refine Subscript_ (thn (he.run pins s σ H _ I h) fun v s1 ⟨x, H1, I1, r1, q1⟩ => ?_)
  obtain ⟨a, xs, ex, hx⟩ := q1
  subst ex
  cases r1
  have hst : PO X (some (.UnaryOp .USub (.Constant (.int 1) k p1) p2)) (tPart (tUn (rU fun i => .int (-i)) (tC (.int 1)))) := po_some (pe_un un_neg pe_int)
  refine wpAny_Slice (thn (po_none.run pins s1 σ H1 (fun o H2 => o = none ∧ H2 = H1) I1 ⟨rfl, rfl⟩) fun vl s2 ⟨l, H2, I2, pl, el, e2⟩ => ?_)
  subst el e2
  refine thn (po_none.run pins s2 σ H2 (fun o H3 => o = none ∧ H3 = H2) I2 ⟨rfl, rfl⟩) fun vu s3 ⟨u, H3, I3, pu, eu, e3⟩ => ?_
  subst eu e3
  refine thn (hst.run pins s3 σ H3 (fun o H4 => o = some (-1) ∧ H4 = H3) I3 ⟨1, rfl, -1, rfl, rfl, rfl⟩) fun vs s4 ⟨o, H4, I4, ps, eo, e4⟩ => ?_
  subst eo e4
  have I5 : Inv X pins σ H4 { s4 with heap := s4.heap.push { cls := .type "slice", data := .fields #[vl, vu, vs] } } := I4.kept (t' := s4.toks) fun b ob q => Heap.get?_push_of_some _ q
  show wpAny (model X.prog X.w) X.A (subscriptTail e (.Slice none none (some (.UnaryOp .USub (.Constant (.int 1) k p1) p2)) p3) (.ref a) (.ref s4.heap.objs.size)) (EP X pins σ Q) X.xe { s4 with heap := s4.heap.push { cls := .type "slice", data := .fields #[vl, vu, vs] } }
  rcases hx with ⟨hx, q⟩ | ⟨hx, q⟩
  · obtain ⟨its, r, ht, hz⟩ := I5.list hx
    have hlen := r.length
    refine tail_any (ops := [.ref a, .ref s4.heap.objs.size]) ht.isList.typeIs (PySem.slot_list_getitem.lookup) ?_ (by with_unfolding_all rfl)
    refine wpAny_getItem_list_slice ht.isList (Heap.IsSliceOf.new _ vl vu vs) pl pu ps (by decide) ?_ (by rw [List.size_toArray]; omega)
    rw [PySem.W.krv_pick]
    refine ⟨.ref _, _, I5.laid (t' := s4.toks) (o := .lst xs.reverse) (fun b ob q => Heap.get?_push_of_some _ q) (Nat.le_refl _) ?_, rfl, q _ (I5.hok.fresh (Nat.le_refl _))⟩
    exact ⟨by rw [List.length_reverse]; exact hz, _, 0, r.reverse, Heap.get?_push_size _ rfl⟩
  · obtain ⟨its, r, ht, hz⟩ := I5.tuple hx
    have hlen := r.length
    cases pl
    cases pu
    refine tail_any (ops := [.ref a, .ref s4.heap.objs.size]) ht.typeIs (PyProof.Rows.slot_tuple_getitem.lookup) ?_ (by with_unfolding_all rfl)
    refine getItem_tup_rev ht (Heap.IsSliceOf.new _ _ _ vs) ps ?_ (by rw [List.size_toArray]; omega)
    refine ⟨.ref _, _, I5.laid (t' := s4.toks) (o := .tup xs.reverse) (fun b ob q => Heap.get?_push_of_some _ q) (Nat.le_refl _) ?_, rfl, q _ (I5.hok.fresh (Nat.le_refl _))⟩
    exact ⟨by rw [List.length_reverse]; exact hz, _, r.reverse, IsTup.new _ _⟩
end
/-! ### methods -/
section
variable {X : Cx}
def mtName : Mt → String
  | .append => "append"
  | .extend => "extend"
  | .pop => "pop"
  | .clear => "clear"
  | .insert => "insert"
  | .join => "join"
  | .split => "split"
  | .sindex => "index"
def mtTy (m : Mt) : String := if mtIsStr m = true then "str" else "list"
def mtId : Mt → String
  | .append => "list.append"
  | .extend => "list.extend"
  | .pop => "list.pop"
  | .clear => "list.clear"
  | .insert => "list.insert"
  | .join => "str.join"
  | .split => "str.split"
  | .sindex => "str.index"
def rMt (K : PySem.W.Frag) (g : Val → List Val → M Val) : V → List V → Hp → VK → Prop := fun x xs H Q => ∃ (W : WX) (σ : L2.St) (ρ : Pl) (st : Store) (v : Val) (vs : List Val), RelS K ρ st H ∧ Rep K ρ H v x ∧ RepL K ρ H vs xs ∧ Post K (Rep K) W σ ρ H Q (g v vs st)
theorem RepL.dropLast {K : PySem.W.Frag} {ρ : Pl} {H : Hp} {vs : List Val} {ws : List V} (r : RepL K ρ H vs ws) : RepL K ρ H vs.dropLast ws.dropLast := by
  rw [List.dropLast_eq_take, List.dropLast_eq_take, r.length]
  exact r.take _
theorem RepL.eraseIdx {K : PySem.W.Frag} {ρ : Pl} {H : Hp} : ∀ {vs : List Val} {ws : List V} (k : Nat), RepL K ρ H vs ws → RepL K ρ H (vs.eraseIdx k) (ws.eraseIdx k)
  | _, _, _, .nil => .nil
  | _, _, 0, .cons _ r => r
  | _, _, k + 1, .cons h r => .cons h (r.eraseIdx k)
theorem mapO_strs {K : PySem.W.Frag} {ρ : Pl} {H : Hp} : ∀ {vs : List Val} {ws : List V} {ys : List Str}, RepL K ρ H vs ws → mapO toStr vs = some ys → ws = ys.map V.str
  | _, _, _, .nil, e => by cases e; rfl
  | _, _, _, .cons r q, e => by
    unfold mapO at e
    obtain ⟨d, e1, e2⟩ := Option.bind_eq_some_iff.mp e
    obtain ⟨ds, e3, rfl⟩ := Option.map_eq_some_iff.mp e2
    cases r <;> cases e1
    rw [mapO_strs q e3]; rfl
theorem repL_strs {K : PySem.W.Frag} {ρ : Pl} {H : Hp} : ∀ ys : List Str, RepL K ρ H (ys.map .str) (ys.map V.str)
  | [] => .nil
  | y :: ys => .cons (.str y) (repL_strs ys)
theorem repL_nil {K : PySem.W.Frag} {ρ : Pl} {H : Hp} {xs : List V} (r : RepL K ρ H [] xs) : xs = [] := by
  cases r
  rfl
/-- a list's change, as the heap has it -/
def rWr (m : Mt) : V → List V → Hp → VK → Prop := match m with
  | .append => rAppend
  | .extend => rExtend
  | .pop => fun x xs H Q => rPop x xs H Q ∨ rPopAt x xs H Q
  | .clear => rClear
  | .insert => fun x vs H Q => ∃ (l : Addr) (xs : List V) (i : Int) (y : V), x = .ref l ∧ vs = [.int i, y] ∧ H l = some (.lst xs) ∧ xs.length < sizeLine ∧ 0 ≤ i ∧ i < 2 ^ 63 ∧ Q .non (upd H l (.lst (xs.take i.toNat ++ [y] ++ xs.drop i.toNat)))
  | _ => fun _ _ _ _ => False
theorem wr_ok {m : Mt} : MtR X (mtId m) (rWr m) := by
  cases m with
  | append => exact mt_append
  | extend => exact mt_extend
  | pop => exact fun pins s σ H x xs v us Q I rx rv h => h.elim (mt_pop pins s σ H x xs v us Q I rx rv) (mt_popAt pins s σ H x xs v us Q I rx rv)
  | clear => exact mt_clear
  | insert => exact mt_insert
  | join => exact fun pins s σ H x xs v us Q I rx rv h => h.elim
  | split => exact fun pins s σ H x xs v us Q I rx rv h => h.elim
  | sindex => exact fun pins s σ H x xs v us Q I rx rv h => h.elim
theorem wr_S {m : Mt} {K : PySem.W.Frag} {ρ : Pl} {st : Store} {H : Hp} {W : WX} {σ : L2.St} {Q : VK} {l : Nat} {x : V} {vs : List Val} {xs : List V} (rS : RelS K ρ st H) (r1 : Rep K ρ H (.loc l) x) (r2 : RepL K ρ H vs xs) (p : Post K (Rep K) W σ ρ H Q (wrLst m l vs st)) : rWr m x xs H Q := by
  unfold wrLst at p
  cases hob : obLst st[l]? with
  | none => rw [hob] at p; exact p.elim
  | some zs =>
    rw [hob] at p
    dsimp only at p
    have hl : st[l]? = some (.lst zs) := by
      unfold obLst at hob
      split at hob
      · cases hob; assumption
      · cases hob
    cases r1 with
    | @loc _ a h =>
      obtain ⟨u0, e1, e2⟩ := rS.at_ _ a _ h hl
      cases e2 with
      | @lst _ ws qw =>
        cases hm : mtLst st m vs zs with
        | none => rw [hm] at p; exact p.elim
        | some q =>
          obtain ⟨r, ys⟩ := q
          rw [hm] at p
          dsimp only at p
          by_cases hz : szOk ys.length = true
          · rw [if_pos hz] at p
            have hz' : ys.length ≤ sizeLine := of_decide_eq_true hz
            have key : ∀ (r' : V) (ys' : List V), Rep K ρ H r r' → RepL K ρ H ys ys' → Q r' (upd H a (.lst ys')) := by
              intro r' ys' hr hy
              have x0 : Ext0 ρ H ρ (upd H a (.lst ys')) := .wrote (.inl (List.mem_of_getElem? h))
              have z := rS.wrote (o := .lst ys) h (.lst (hy.ext0 x0))
              exact p ρ r' _ z.2 z.1 (hr.ext0 x0)
            have hlen := qw.length
            cases m with
            | append =>
              unfold mtLst at hm
              dsimp only at hm
              split at hm
              · cases hm
                obtain ⟨w, rfl, rw1⟩ := repL_one r2
                rw [List.length_append, List.length_singleton] at hz'
                exact ⟨a, ws, w, rfl, rfl, e1, by omega, key _ _ .non (qw.append (.cons rw1 .nil))⟩
              · cases hm
            | extend =>
              unfold mtLst at hm
              dsimp only at hm
              split at hm
              · obtain ⟨us, e5, e6⟩ := Option.map_eq_some_iff.mp hm
                cases e6
                obtain ⟨w, rfl, rw1⟩ := repL_one r2
                obtain ⟨b, us', rfl, h2, h3⟩ := rw1.lstOf rS e5
                have hl3 := h3.length
                rw [List.length_append] at hz'
                exact ⟨a, b, ws, us', rfl, rfl, e1, h2, by omega, key _ _ .non (qw.append h3)⟩
              · cases hm
            | pop =>
              unfold mtLst at hm
              dsimp only at hm
              split at hm
              · obtain ⟨y, e5, e6⟩ := Option.map_eq_some_iff.mp hm
                cases e6
                have := repL_nil r2
                subst this
                obtain ⟨y', e7, ry⟩ := qw.get e5
                rw [hlen] at e7
                exact .inl ⟨a, ws, y', rfl, rfl, e1, e7, key _ _ ry qw.dropLast⟩
              · obtain ⟨k, e5, e6⟩ := Option.bind_eq_some_iff.mp hm
                split at e6
                · rename_i i hc
                  obtain ⟨y, e7, e8⟩ := Option.map_eq_some_iff.mp e6
                  cases e8
                  obtain ⟨w, rfl, rw1⟩ := repL_one r2
                  cases rw1
                  obtain ⟨y', e9, ry⟩ := qw.get e7
                  rw [hlen] at e5
                  rw [Bool.and_eq_true] at hc
                  exact .inr ⟨a, ws, i, k, y', rfl, rfl, e1, of_decide_eq_true hc.1, of_decide_eq_true hc.2, e5, e9, key _ _ ry (qw.eraseIdx k)⟩
                · cases e6
              · cases hm
            | clear =>
              unfold mtLst at hm
              dsimp only at hm
              split at hm
              · cases hm
                have := repL_nil r2
                subst this
                exact ⟨a, ws, rfl, rfl, e1, key _ _ .non .nil⟩
              · cases hm
            | insert =>
              unfold mtLst at hm
              dsimp only at hm
              split at hm
              · split at hm
                · rename_i i y hc
                  cases hm
                  obtain ⟨w1, w2, rfl, rw1, rw2⟩ := repL_two r2
                  cases rw1
                  rw [Bool.and_eq_true] at hc
                  have h0 := of_decide_eq_true hc.1
                  have h1 := of_decide_eq_true hc.2
                  simp only [List.length_append, List.length_take, List.length_drop, List.length_singleton] at hz'
                  exact ⟨a, ws, i, w2, rfl, rfl, e1, by omega, h0, h1, key _ _ .non (((qw.take _).append (.cons rw2 .nil)).append (qw.drop _))⟩
                · cases hm
              · cases hm
            | join => cases hm
            | split => cases hm
            | sindex => cases hm
          · rw [if_neg hz] at p
            exact p.elim
theorem mt_S {m : Mt} {new : Bool} : MtR X (mtId m) (rMt X.K (mtOp new m)) := by
  intro pins s σ H x xs v us Q I rx rv h
  obtain ⟨W, σ', ρ, st, a, vs, rS, r1, r2, p⟩ := h
  unfold mtOp at p
  split at p
  · exact wr_ok pins s σ H x xs v us Q I rx rv (wr_S rS r1 r2 p)
  · cases r1
    cases m with
    | join =>
      unfold mtStr at p
      dsimp only at p
      split at p
      · obtain ⟨z, e, p1⟩ := Post.opt p
        unfold joinOp at e
        obtain ⟨ws, e1, e2⟩ := Option.bind_eq_some_iff.mp e
        obtain ⟨ys, e3, e4⟩ := Option.bind_eq_some_iff.mp e2
        split at e4
        · rename_i hz
          cases e4
          obtain ⟨w, rfl, rw1⟩ := repL_one r2
          obtain ⟨b, us', rfl, h2, h3⟩ := rw1.seqOf rS e1
          have := mapO_strs h3 e3
          subst this
          exact mt_join pins s σ H _ _ v us Q I rx rv ⟨_, b, ys, rfl, rfl, h2, hz, Post.ret p1 rS (.str _)⟩
        · cases e4
      · exact p.elim
    | split =>
      unfold mtStr at p
      dsimp only at p
      split at p
      · split at p
        · rename_i b hz
          obtain ⟨w, rfl, rw1⟩ := repL_one r2
          cases rw1
          rw [Bool.and_eq_true, Bool.not_eq_true'] at hz
          exact mt_split pins s σ H _ _ v us Q I rx rv ⟨_, b, rfl, rfl, hz.1, of_decide_eq_true hz.2, post_l p rS (repL_strs _)⟩
        · exact p.elim
      · exact p.elim
    | sindex =>
      unfold mtStr at p
      dsimp only at p
      split at p
      · rename_i b
        cases hz : Builtin.Str.occurrences _ b 0 _ 1 with
        | nil => rw [hz] at p; exact p.elim
        | cons i rest =>
          rw [hz] at p
          obtain ⟨w, rfl, rw1⟩ := repL_one r2
          cases rw1
          exact mt_sindex pins s σ H _ _ v us Q I rx rv ⟨_, b, i, rest, rfl, rfl, hz, Post.ret p rS (.int _)⟩
      · exact p.elim
    | append => exact p.elim
    | extend => exact p.elim
    | pop => exact p.elim
    | clear => exact p.elim
    | insert => exact p.elim
  · exact p.elim
theorem ty_S {m : Mt} {K : PySem.W.Frag} {ρ : Pl} {st : Store} {H : Hp} {v : Val} {x : V} (rS : RelS K ρ st H) (r : Rep K ρ H v x) (h : tyOk m st v = true) : tyV K (mtTy m) x H := by
  unfold tyOk at h
  unfold mtTy
  split at h
  · rename_i hm
    rw [if_pos hm]
    cases r with
    | str z => rfl
    | non => cases h
    | bl b => cases h
    | int i => cases h
    | tup _ _ => cases h
    | lst _ _ _ => cases h
    | dK _ _ _ => cases h
    | dT _ _ _ => cases h
    | loc _ => cases h
    | scr _ => cases h
  · rename_i hm
    rw [if_neg hm]
    obtain ⟨zs, e⟩ := Option.isSome_iff_exists.mp h
    obtain ⟨a, ws, rfl, h2, h3⟩ := r.lstOf rS e
    exact .inl ⟨rfl, ws, SqL.of h2⟩
end
end Rc
/-! Rc4: calls cut back, what is walked, comprehensions. -/
namespace Rc
open PySem L2

/-! ### cutting back -/
section
variable {K : PySem.W.Frag} {ρ' : Pl} {H : Hp} {n : Nat}
def Pl.cut (ρ : Pl) (n : Nat) : Pl := ⟨ρ.ps.take n, ρ.rs⟩
theorem Pl.not_cut {ρ : Pl} {a : Addr} (h : a ∉ ρ) : a ∉ ρ.cut n := fun m => by
  rcases m with m | m
  · exact h (.inl (List.mem_of_mem_take m))
  · exact h (.inr m)
theorem TupAt.cut {a : Addr} {ws : List V} (h : TupAt K ρ' H a ws) : TupAt K (ρ'.cut n) H a ws := by
  rcases h with ⟨h, m⟩ | h
  · exact .inl ⟨h, Pl.not_cut m⟩
  · exact .inr h
theorem ScrAt.cut {a : Addr} {ns : List Int} (h : ScrAt K ρ' H a ns) : ScrAt K (ρ'.cut n) H a ns := by
  rcases h with ⟨h, m⟩ | h
  · exact .inl ⟨h, Pl.not_cut m⟩
  · exact .inr h
theorem at_cut {l : Nat} {a : Addr} (h : ρ'.ps[l]? = some a) (hl : l < n) : (ρ'.cut n).ps[l]? = some a := by
  show (ρ'.ps.take n)[l]? = some a
  rw [List.getElem?_take_of_lt hl]
  exact h
mutual
theorem Rep.cut : ∀ {v : Val} {w : V}, Rep K ρ' H v w → locLt n v = true → Rep K (ρ'.cut n) H v w
  | _, _, .non, _ => .non
  | _, _, .bl b, _ => .bl b
  | _, _, .int i, _ => .int i
  | _, _, .str x, _ => .str x
  | _, _, .tup h r, l => .tup h.cut (RepL.cut r (by simpa [locLt] using l))
  | _, _, .lst h m r, l => .lst h (Pl.not_cut m) (RepL.cut r (by simpa [locLt] using l))
  | _, _, .dK h m r, l => .dK h (Pl.not_cut m) (RepL.cut r (by simpa [locLt] using l))
  | _, _, .dT h m r, l => .dT h (Pl.not_cut m) (RepL.cut r (by simpa [locLt] using l))
  | _, _, .loc h, l => .loc (at_cut h (by simpa [locLt] using l))
  | _, _, .scr h, _ => .scr h.cut
theorem RepL.cut : ∀ {vs : List Val} {ws : List V}, RepL K ρ' H vs ws → locLtL n vs = true → RepL K (ρ'.cut n) H vs ws
  | _, _, .nil, _ => .nil
  | _, _, .cons h r, l => by
    have l' := Bool.and_eq_true_iff.mp (show (locLt n _ && locLtL n _) = true from l)
    exact .cons (Rep.cut h l'.1) (RepL.cut r l'.2)
end
mutual
theorem Rep.locs {ρ : Pl} : ∀ {v : Val} {w : V}, Rep K ρ H v w → locLt ρ.ps.length v = true
  | _, _, .non => rfl
  | _, _, .bl b => rfl
  | _, _, .int i => rfl
  | _, _, .str x => rfl
  | _, _, .tup h r => by simpa [locLt] using RepL.locs r
  | _, _, .lst h m r => by simpa [locLt] using RepL.locs r
  | _, _, .dK h m r => by simpa [locLt] using RepL.locs r
  | _, _, .dT h m r => by simpa [locLt] using RepL.locs r
  | _, _, .loc h => by simpa [locLt] using (List.getElem?_eq_some_iff.mp h).1
  | _, _, .scr h => rfl
theorem RepL.locs {ρ : Pl} : ∀ {vs : List Val} {ws : List V}, RepL K ρ H vs ws → locLtL ρ.ps.length vs = true
  | _, _, .nil => rfl
  | _, _, .cons h r => by
    show (locLt _ _ && locLtL _ _) = true
    rw [Rep.locs h, RepL.locs r]; rfl
end
theorem RelOb.cut {a : Addr} : ∀ {o : Ob} {h : HO}, RelOb K ρ' H a o h → obLt n o = true → RelOb K (ρ'.cut n) H a o h
  | _, _, .lst r, l => .lst (r.cut l)
  | _, _, .dK k r, l => .dK k (r.cut l)
  | _, _, .dT k r, l => .dT k (r.cut l)
  | _, _, .ins d m k r, l => .ins d (Pl.not_cut m) k (r.cut l)
theorem RelOb.locs {ρ : Pl} {a : Addr} : ∀ {o : Ob} {h : HO}, RelOb K ρ H a o h → obLt ρ.ps.length o = true
  | _, _, .lst r => r.locs
  | _, _, .dK k r => r.locs
  | _, _, .dT k r => r.locs
  | _, _, .ins d m k r => r.locs
theorem mapO_frz {f : Val → Option Val} (h : ∀ {v v' : Val} {w : V}, Rep K ρ' H v w → f v = some v' → Rep K (ρ'.cut n) H v' w) : ∀ {vs vs' : List Val} {ws : List V}, RepL K ρ' H vs ws → mapO f vs = some vs' → RepL K (ρ'.cut n) H vs' ws
  | _, _, _, .nil, e => by cases e; exact .nil
  | _, _, _, .cons r q, e => by
    unfold mapO at e
    obtain ⟨d, e1, e2⟩ := Option.bind_eq_some_iff.mp e
    obtain ⟨ds, e3, rfl⟩ := Option.map_eq_some_iff.mp e2
    exact .cons (h r e1) (mapO_frz h q e3)
theorem frz_rep {st' : Store} (rS : RelS K ρ' st' H) : ∀ (k : Nat) {v v' : Val} {w : V}, Rep K ρ' H v w → frz st' n k v = some v' → Rep K (ρ'.cut n) H v' w
  | 0, _, _, _, _, e => by cases e
  | k + 1, v, v', w, r, e => by
    have ih := fun {v v' : Val} {w : V} => frz_rep rS k (v := v) (v' := v') (w := w)
    unfold frz at e
    cases r with
    | non => cases e; exact .non
    | bl b => cases e; exact .bl b
    | int i => cases e; exact .int i
    | str s => cases e; exact .str s
    | scr h => cases e; exact .scr h.cut
    | tup t q =>
      obtain ⟨ds, e1, rfl⟩ := Option.map_eq_some_iff.mp e
      exact .tup t.cut (mapO_frz ih q e1)
    | lst t m q =>
      obtain ⟨ds, e1, rfl⟩ := Option.map_eq_some_iff.mp e
      exact .lst t (Pl.not_cut m) (mapO_frz ih q e1)
    | dK t m q =>
      obtain ⟨ds, e1, rfl⟩ := Option.map_eq_some_iff.mp e
      exact .dK t (Pl.not_cut m) (mapO_frz ih q e1)
    | dT t m q =>
      obtain ⟨ds, e1, rfl⟩ := Option.map_eq_some_iff.mp e
      exact .dT t (Pl.not_cut m) (mapO_frz ih q e1)
    | @loc l a h =>
      dsimp only at e
      split at e
      · rename_i hl
        cases e
        exact .loc (at_cut h hl)
      · rename_i hl
        have na : a ∉ ρ'.cut n := fun m => by
          rcases m with m | m
          · obtain ⟨j, ej⟩ := List.getElem?_of_mem (show a ∈ ρ'.ps.take n from m)
            have hj : j < n := by
              have := (List.getElem?_eq_some_iff.mp ej).1
              rw [List.length_take] at this
              omega
            rw [List.getElem?_take_of_lt hj] at ej
            obtain ⟨h1, h2⟩ := List.getElem?_eq_some_iff.mp h
            obtain ⟨h3, h4⟩ := List.getElem?_eq_some_iff.mp ej
            have := (List.getElem_inj rS.nd).mp (h4.trans h2.symm)
            omega
          · exact (rS.rs a m).1 (List.mem_of_getElem? h)
        split at e
        · rename_i xs e0
          obtain ⟨u, e1, e2⟩ := rS.at_ l a _ h e0
          obtain ⟨ds, e3, rfl⟩ := Option.map_eq_some_iff.mp e
          cases e2 with
          | lst q => exact .lst e1 na (mapO_frz ih q e3)
        · rename_i kvs e0
          obtain ⟨u, e1, e2⟩ := rS.at_ l a _ h e0
          obtain ⟨ds, e3, rfl⟩ := Option.map_eq_some_iff.mp e
          cases e2 with
          | dK hk q =>
            rw [hk]
            exact .dK e1 na (mapO_frz ih q e3)
        · rename_i kvs e0
          obtain ⟨u, e1, e2⟩ := rS.at_ l a _ h e0
          obtain ⟨ds, e3, rfl⟩ := Option.map_eq_some_iff.mp e
          cases e2 with
          | dT hk q =>
            rw [hk]
            exact .dT e1 na (mapO_frz ih q e3)
        · cases e
end
section
variable {K : PySem.W.Frag} {ρ ρ' : Pl} {H H' : Hp} {st st' : Store} {W : WX} {σ : L2.St} {Q : VK}
theorem Ext.cut_eq (e : Ext ρ H ρ' H') (rS : RelS K ρ st H) : ρ'.cut st.length = ρ := by
  have h1 : ρ'.ps.take st.length = ρ.ps := by
    rw [← rS.len]
    exact (List.prefix_iff_eq_take.mp e.pre).symm
  show (⟨ρ'.ps.take st.length, ρ'.rs⟩ : Pl) = ρ
  rw [h1, e.rs]
theorem Ext.back (e : Ext ρ H ρ' H') : Ext ρ H ρ H' := ⟨⟨fun a o h n => ⟨(e.keep a o h n).1, n⟩, List.prefix_refl _⟩, rfl, e.rk⟩
theorem RelS.cut (rS : RelS K ρ st H) (e : Ext ρ H ρ' H') (rS' : RelS K ρ' st' H') (c : CutOk st st') : RelS K ρ (st'.take st.length) H' := by
  have ec := e.cut_eq rS
  refine ⟨?_, rS.nd, fun l a o e1 e2 => ?_, fun a ha => ⟨(rS.rs a ha).1, ?_⟩⟩
  · rw [List.length_take, rS.len]
    exact (Nat.min_eq_left c.1).symm
  · have hl : l < st.length := rS.len ▸ (List.getElem?_eq_some_iff.mp e1).1
    have e2' : st'[l]? = some o := by
      rw [List.getElem?_take_of_lt hl] at e2
      exact e2
    obtain ⟨h, e3, e4⟩ := rS'.at_ l a o (e.at_ e1) e2'
    refine ⟨h, e3, ?_⟩
    have lo : obLt st.length o = true := by
      rcases c.2 with c | c
      · rw [c] at e2
        obtain ⟨h0, _, e5⟩ := rS.at_ l a o e1 e2
        rw [← rS.len]
        exact e5.locs
      · exact List.all_eq_true.mp c o (List.mem_of_getElem? e2)
    have := e4.cut (n := st.length) lo
    rw [ec] at this
    exact this
  · rw [e.rk a ha]
    exact (rS.rs a ha).2
theorem Post.cut {m : M Val} (rS : RelS K ρ st H) (p : Post K (Rep K) W σ ρ H Q (cutM m st)) : Post K (Rep K) W σ ρ H Q (m st) := by
  unfold cutM at p
  cases e : m st with
  | ok v st' =>
    rw [e] at p
    dsimp only at p
    split at p
    · rename_i c
      split at p
      · rename_i v' ef
        intro ρ' w H' x s q
        refine p ρ w H' x.back (rS.cut x s c) ?_
        have := frz_rep s _ q ef
        rw [x.cut_eq rS] at this
        exact this
      · exact p.elim
    · exact p.elim
  | exc c row st' =>
    rw [e] at p
    dsimp only at p
    split at p
    · rename_i c
      intro ρ' d H' x s q
      exact p ρ d H' x.back (rS.cut x s c) q
    · exact p.elim
  | stuck =>
    rw [e] at p
    exact p
end

/-! ### what is walked -/
/-- the iterator J gives the items, while the list stands still -/
def ItOk (K : PySem.W.Frag) (ρ0 : Pl) (H0 : Hp) (is : Items) (J : L2.It) : Prop :=
  ∀ (i : Nat) (ρ1 : Pl) (st1 : Store) (H1 : Hp), Ext0 ρ0 H0 ρ1 H1 → RelS K ρ1 st1 H1 → Still is st1 →
    (∀ v, is.xs[i]? = some v → J.go i H1 ∧ ∀ x H', J.yld i H1 x H' → Ext ρ1 H1 ρ1 H' ∧ RelS K ρ1 st1 H' ∧ Rep K ρ1 H' v x) ∧ (is.xs.length = i → J.stop i H1)
def PostI (K : PySem.W.Frag) (W : WX) (σ : L2.St) (ρ : Pl) (H : Hp) (R : L2.It → Hp → Prop) : Rc.R Items → Prop
  | .ok is st' => is.xs.length ≤ sizeLine → ∀ ρ' J H', Ext ρ H ρ' H' → RelS K ρ' st' H' → ItOk K ρ' H' is J → R J H'
  | .exc c row st' => ∀ ρ' d H', Ext ρ H ρ' H' → RelS K ρ' st' H' → ExcAt H' row d → W (.ref (He.ga K c)) d σ H'
  | .stuck => False
def tI (K : PySem.W.Frag) (W : WX) (m : Env → M Items) : TI := fun σ H R => ∃ ρ env st, RelE K ρ H env σ ∧ RelS K ρ st H ∧ PostI K W σ ρ H R (m env st)
theorem Itt.ok {K : PySem.W.Frag} {ρ : Pl} {H : Hp} {a : Addr} {vs : List Val} {ws : List V} (t : TupAt K ρ H a ws) (q : RepL K ρ H vs ws) : ItOk K ρ H ⟨vs, none⟩ (Itt K a) := by
  intro i ρ1 st1 H1 e s _
  have t1 := (e.tup t).sq
  refine ⟨fun v hv => ?_, fun hi => ⟨ws, t1, by rw [← q.length]; exact Nat.le_of_eq hi⟩⟩
  obtain ⟨w, hw, r⟩ := q.get hv
  refine ⟨⟨ws, w, t1, hw⟩, fun x H' hy => ?_⟩
  obtain ⟨rfl, hx⟩ := hy
  have := hx ws t1
  rw [hw] at this; cases this
  exact ⟨.refl _ _, s, r.ext0 e⟩
theorem Itl.ok {K : PySem.W.Frag} {ρ : Pl} {H : Hp} {a : Addr} {vs : List Val} {ws : List V} (t : H a = some (.lst ws)) (n : a ∉ ρ) (q : RepL K ρ H vs ws) : ItOk K ρ H ⟨vs, none⟩ (Itl K a) := by
  intro i ρ1 st1 H1 e s _
  have t1 : SqL K H1 a ws := .of (e.keep _ _ t n).1
  refine ⟨fun v hv => ?_, fun hi => ⟨ws, t1, by rw [← q.length]; exact Nat.le_of_eq hi⟩⟩
  obtain ⟨w, hw, r⟩ := q.get hv
  refine ⟨⟨ws, w, t1, hw⟩, fun x H' hy => ?_⟩
  obtain ⟨rfl, hx⟩ := hy
  have := hx ws t1
  rw [hw] at this; cases this
  exact ⟨.refl _ _, s, r.ext0 e⟩
theorem Itl.okLoc {K : PySem.W.Frag} {ρ : Pl} {H : Hp} {a : Addr} {l : Nat} {vs : List Val} (h : ρ.ps[l]? = some a) : ItOk K ρ H ⟨vs, some l⟩ (Itl K a) := by
  intro i ρ1 st1 H1 e s c
  have c : st1[l]? = some (.lst vs) := c
  obtain ⟨u, e1, e2⟩ := s.at_ l a _ (e.at_ h) c
  cases e2 with
  | @lst _ ws q =>
    have t1 : SqL K H1 a ws := .of e1
    refine ⟨fun v hv => ?_, fun hi => ⟨ws, t1, by rw [← q.length]; exact Nat.le_of_eq hi⟩⟩
    obtain ⟨w, hw, r⟩ := q.get hv
    refine ⟨⟨ws, w, t1, hw⟩, fun x H' hy => ?_⟩
    obtain ⟨rfl, hx⟩ := hy
    have := hx ws t1
    rw [hw] at this; cases this
    exact ⟨.refl _ _, s, r⟩
theorem Itr.ok {K : PySem.W.Frag} {ρ : Pl} {H : Hp} (lo hi : Int) : ItOk K ρ H ⟨rangeV lo hi, none⟩ (Itr lo (hi - lo).toNat) := by
  intro i ρ1 st1 H1 e s _
  refine ⟨fun v hv => ?_, fun hn => ?_⟩
  · have hv : (rangeV lo hi)[i]? = some v := hv
    unfold rangeV at hv
    rw [List.getElem?_map] at hv
    obtain ⟨j, hj, rfl⟩ := Option.map_eq_some_iff.mp hv
    obtain ⟨hl, hj⟩ := List.getElem?_eq_some_iff.mp hj
    rw [List.getElem_range] at hj
    subst hj
    rw [List.length_range] at hl
    refine ⟨hl, fun x H' hy => ?_⟩
    obtain ⟨rfl, rfl⟩ := hy
    exact ⟨.refl _ _, s, .int _⟩
  · have hn : (rangeV lo hi).length = i := hn
    unfold rangeV at hn
    rw [List.length_map, List.length_range] at hn
    exact Nat.le_of_eq hn
section
variable {X : Cx} {tg : Expr}
/-- a list or a tuple -/
def iSeq (K : PySem.W.Frag) (tl : TE) : TI := fun σ H R => tl σ H fun x H1 => ∃ a, x = .ref a ∧ ((∃ xs, SqL K H1 a xs ∧ (xs.length ≤ sizeLine → R (Itl K a) H1)) ∨ (∃ xs, SqT K H1 a xs ∧ (xs.length ≤ sizeLine → R (Itt K a) H1)))
theorem pi_seq {l : Expr} {tl : TE} (hl : PE X l tl) : PI X tg l (iSeq X.K tl) := by
  refine ⟨fun pins s σ H R I h => ?_⟩
  refine thn (hl.run pins s σ H _ I h) fun v s1 ⟨x, H1, I1, r1, q1⟩ => ?_
  obtain ⟨a, e, q⟩ := q1
  subst e
  cases r1
  rcases q with ⟨xs, hq, q⟩ | ⟨xs, hq, q⟩
  · obtain ⟨its, rv, p, hz⟩ := I1.list hq
    refine wpAny_pyIter_list p.isList ?_
    refine ⟨s1.heap.objs.size, [s1.heap.objs.size], _, _, H1, rfl, I1.kept (t' := s1.toks) fun b o e => Heap.get?_push_of_some _ e, turn_list a _, ⟨_, Heap.get?_push_size _ rfl, rfl, rfl⟩, fun b hb => ?_, q hz⟩
    have e : b = s1.heap.objs.size := by simpa using hb
    subst e
    exact I1.fpOk (Nat.le_refl _) (I1.hok.fresh (Nat.le_refl _))
  · obtain ⟨its, rv, p, hz⟩ := I1.tuple hq
    refine wpAny_pyIter_tuple (show s1.heap.IsTuple a its.toArray from p) ?_
    refine ⟨s1.heap.objs.size, [s1.heap.objs.size], _, _, H1, rfl, I1.kept (t' := s1.toks) fun b o e => Heap.get?_push_of_some _ e, turn_tuple a _, ⟨_, Heap.get?_push_size _ rfl, rfl, rfl⟩, fun b hb => ?_, q hz⟩
    have e : b = s1.heap.objs.size := by simpa using hb
    subst e
    exact I1.fpOk (Nat.le_refl _) (I1.hok.fresh (Nat.le_refl _))
theorem PostI.bnd {K : PySem.W.Frag} {α β : Type} {rel : Pl → Hp → α → β → Prop} {W : WX} {σ : L2.St} {ρ : Pl} {H : Hp} {R' : L2.It → Hp → Prop} {Q : β → Hp → Prop} {m : M α} {f : α → M Items} {st : Store} (h : PostI K W σ ρ H R' (Rc.bnd m f st))
    (k : ∀ a st1 ρ1 b H1, Ext ρ H ρ1 H1 → RelS K ρ1 st1 H1 → rel ρ1 H1 a b → PostI K W σ ρ1 H1 R' (f a st1) → Q b H1) : Post K rel W σ ρ H Q (m st) := by
  unfold Rc.bnd at h
  cases e : m st with
  | ok a st1 =>
    rw [e] at h
    dsimp only at h
    intro ρ' w H' x s q
    refine k a st1 ρ' w H' x s q ?_
    cases e2 : f a st1 with
    | ok is st2 => rw [e2] at h; exact fun hz ρ2 J H2 x2 s2 q2 => h hz ρ2 J H2 (x.trans x2) s2 q2
    | exc c row st2 => rw [e2] at h; exact fun ρ2 d H2 x2 s2 q2 => h ρ2 d H2 (x.trans x2) s2 q2
    | stuck => rw [e2] at h; exact h
  | exc c row st1 =>
    rw [e] at h
    exact h
  | stuck =>
    rw [e] at h
    exact h
theorem sim_seq {W : WX} {l : Expr} {m : Env → M Val} (hl : PE X l (tE X.K W m)) : PI X tg l (tI X.K W fun env => bnd (m env) fun v => fun st => ofOpt (itemsOf st v) st) := by
  refine PI.imp (pi_seq hl) fun σ H R h => ?_
  obtain ⟨ρ, env, st, rE, rS, p⟩ := h
  refine ⟨ρ, env, st, rE, rS, PostI.bnd p fun v st1 ρ1 x H1 e1 s1 q1 p1 => ?_⟩
  cases q1 with
  | tup t q =>
    have hl := q.length
    exact ⟨_, rfl, .inr ⟨_, t.sq, fun hz => p1 (by rw [hl]; exact hz) ρ1 _ H1 (.refl _ _) s1 (Itt.ok t q)⟩⟩
  | lst t n q =>
    have hl := q.length
    exact ⟨_, rfl, .inl ⟨_, .of t, fun hz => p1 (by rw [hl]; exact hz) ρ1 _ H1 (.refl _ _) s1 (Itl.ok t n q)⟩⟩
  | @loc l a h =>
    cases e : st1[l]? with
    | none =>
      have : itemsOf st1 (.loc l) = none := by simp only [itemsOf, e]
      rw [this] at p1
      exact p1.elim
    | some o =>
      cases o with
      | lst vs =>
        have : itemsOf st1 (.loc l) = some ⟨vs, some l⟩ := by simp only [itemsOf, e]
        rw [this] at p1
        obtain ⟨u, e3, e4⟩ := s1.at_ l a _ h e
        cases e4 with
        | lst q =>
          have hl := q.length
          exact ⟨_, rfl, .inl ⟨_, .of e3, fun hz => p1 (by rw [hl]; exact hz) ρ1 _ H1 (.refl _ _) s1 (Itl.okLoc h)⟩⟩
      | _ =>
        have : itemsOf st1 (.loc l) = none := by simp only [itemsOf, e]
        rw [this] at p1
        exact p1.elim
  | _ => exact p1.elim
theorem rngOk_of {i j : Int} (h : rngOk i j = true) : -(2 ^ 62) ≤ i ∧ i < 2 ^ 62 ∧ -(2 ^ 62) ≤ j ∧ j < 2 ^ 62 ∧ (j - i).toNat ≤ sizeLine := by
  rw [rngOk_eq] at h
  unfold rngRaw at h
  simp only [Bool.and_eq_true] at h
  exact ⟨of_decide_eq_true h.1.1.1.1, of_decide_eq_true h.1.1.1.2, of_decide_eq_true h.1.1.2, of_decide_eq_true h.1.2, of_decide_eq_true h.2⟩
theorem rangeV_length (i j : Int) : (rangeV i j).length = (j - i).toNat := by
  unfold rangeV
  rw [List.length_map, List.length_range]
theorem post_asInt_I {K : PySem.W.Frag} {W : WX} {σ : L2.St} {ρ : Pl} {H : Hp} {R' : L2.It → Hp → Prop} {v : Val} {f : Int → M Items} {st : Store} (h : PostI K W σ ρ H R' (Rc.bnd (asInt v) f st)) : ∃ b, v = .int b ∧ PostI K W σ ρ H R' (f b st) := by
  cases v <;> first | exact h.elim | exact ⟨_, rfl, h⟩
theorem sim_rng1 {W : WX} {a : Expr} {m : Env → M Val} {p pos : Pos} (hg : Gl X "range") (hm : X.mg "range" = none) (ha : PE X a (tE X.K W m)) (hs : starEach [a] X.env = [(false, eval a X.env)]) :
    PI X tg (.Call (.Name "range" p) [a] [] pos) (tI X.K W fun env => bnd (bnd (m env) asInt) fun j => if rngOk 0 j = true then ret ⟨rangeV 0 j, none⟩ else stuck) := by
  refine PI.imp (pi_range1 hg hm (pa_cons ha pa_nil hs) hs) fun σ H R h => ?_
  obtain ⟨ρ, env, st, rE, rS, p⟩ := h
  dsimp only at p
  rw [bnd_assoc] at p
  refine ⟨ρ, env, st, rE, rS, PostI.bnd p fun v st1 ρ1 x H1 e1 s1 q1 p1 => ?_⟩
  obtain ⟨j, rfl, p2⟩ := post_asInt_I p1
  cases q1
  split at p2
  · rename_i hr
    obtain ⟨_, _, h3, h4, h5⟩ := rngOk_of hr
    refine ⟨j, rfl, h3, h4, ?_⟩
    have := p2 (by show (rangeV 0 j).length ≤ _; rw [rangeV_length]; exact h5) ρ1 _ H1 (.refl _ _) s1 (Itr.ok 0 j)
    rw [Int.sub_zero] at this
    exact this
  · exact p2.elim
theorem sim_rng2 {W : WX} {a b : Expr} {m m2 : Env → M Val} {p pos : Pos} (hg : Gl X "range") (hm : X.mg "range" = none) (ha : PE X a (tE X.K W m)) (hb : PE X b (tE X.K W m2)) (hs : starEach [a, b] X.env = [(false, eval a X.env), (false, eval b X.env)]) (hs2 : starEach [b] X.env = [(false, eval b X.env)]) :
    PI X tg (.Call (.Name "range" p) [a, b] [] pos) (tI X.K W fun env => bnd (bnd (m env) asInt) fun i => bnd (bnd (m2 env) asInt) fun j => if rngOk i j = true then ret ⟨rangeV i j, none⟩ else stuck) := by
  refine PI.imp (pi_range2 hg hm (pa_cons ha (pa_cons hb pa_nil hs2) (by rw [hs, hs2])) hs hs2) fun σ H R h => ?_
  obtain ⟨ρ, env, st, rE, rS, p⟩ := h
  dsimp only at p
  rw [bnd_assoc] at p
  refine ⟨ρ, env, st, rE, rS, PostI.bnd p fun v st1 ρ1 x H1 e1 s1 q1 p1 => ?_⟩
  obtain ⟨i, rfl, p1a⟩ := post_asInt_I p1
  cases q1
  rw [bnd_assoc] at p1a
  refine ⟨ρ1, env, st1, rE.ext e1, s1, PostI.bnd p1a fun v st2 ρ2 x H2 e2 s2 q2 p2 => ?_⟩
  obtain ⟨j, rfl, p2a⟩ := post_asInt_I p2
  cases q2
  split at p2a
  · rename_i hr
    obtain ⟨h1, h2, h3, h4, h5⟩ := rngOk_of hr
    exact ⟨i, j, rfl, ⟨h1, h2, h3, h4⟩, p2a (by show (rangeV i j).length ≤ _; rw [rangeV_length]; exact h5) ρ2 _ H2 (.refl _ _) s2 (Itr.ok i j)⟩
  · exact p2a.elim
end

/-! ### targets -/
def gNames : List Nat → TGs
  | [] => gNil
  | i :: is => gCons (gName i) (gNames is)
def gTg (K : PySem.W.Frag) : Tg → TG
  | .nm i => gName i
  | .tup is => gTup K is.length (gNames is)
/-- the slots of a target stand -/
def tgIn (n : Nat) : Tg → Prop
  | .nm i => i < n
  | .tup is => ∀ i ∈ is, i < n
def tgSub (vs : List Nat) : Tg → Prop
  | .nm i => i ∈ vs
  | .tup is => ∀ i ∈ is, i ∈ vs
theorem wipe_out_set (σ : L2.St) : ∀ (us : List Nat) {i : Nat} {x : Option V}, i ∉ us → L2.wipe (σ.set i x) us = (L2.wipe σ us).set i x
  | [], _, _, _ => rfl
  | u :: us, i, x, h => by
    show (L2.wipe (σ.set i x) us).set u none = ((L2.wipe σ us).set u none).set i x
    rw [wipe_out_set σ us fun m => h (by simp [m]), List.set_comm _ _ fun e => h (by simp [e])]
theorem wipe_set (σ : L2.St) : ∀ (us : List Nat) {i : Nat} {x : Option V}, i ∈ us → L2.wipe (σ.set i x) us = L2.wipe σ us
  | u :: us, i, x, h => by
    show (L2.wipe (σ.set i x) us).set u none = (L2.wipe σ us).set u none
    by_cases hu : i ∈ us
    · rw [wipe_set σ us hu]
    · have : i = u := by
        rcases List.mem_cons.mp h with h | h
        · exact h
        · exact absurd h hu
      subst this
      rw [wipe_out_set σ us hu, List.set_set]
  | [], _, _, h => by simp at h
theorem gNames_ok {K : PySem.W.Frag} {ρ : Pl} {H : Hp} {Q : L2.St → Hp → Prop} : ∀ {is : List Nat} {vs : List Val} {ws : List V} {env env' : Env} {σ : L2.St}, setAll is vs env = some env' → RepL K ρ H vs ws → RelE K ρ H env σ → (∀ i ∈ is, i < σ.length) →
    (∀ σ', RelE K ρ H env' σ' → σ'.length = σ.length → (∀ us : List Nat, (∀ i ∈ is, i ∈ us) → L2.wipe σ' us = L2.wipe σ us) → Q σ' H) → gNames is ws σ H Q
  | [], [], _, _, _, _, e, .nil, rE, _, h => by
    cases e
    exact ⟨rfl, h _ rE rfl fun _ _ => rfl⟩
  | i :: is, v :: vs, _, env, env', σ, e, .cons (w := w) (ws := ws) r q, rE, hi, h => by
    refine ⟨w, ws, rfl, ?_⟩
    refine gNames_ok (is := is) (vs := vs) (env := env.set i (some v)) (env' := env') e q (rE.set i (hi i (by simp)) r) (fun j hj => by rw [List.length_set]; exact hi j (by simp [hj])) fun σ' r' l' w' => ?_
    refine h σ' r' (by rw [l', List.length_set]) fun us hu => ?_
    rw [w' us fun j hj => hu j (by simp [hj])]
    exact wipe_set _ us (hu i (by simp))
  | [], _ :: _, _, _, _, _, e, _, _, _, _ => by cases e
  | _ :: _, [], _, _, _, _, e, _, _, _, _ => by cases e
theorem wipe_wipe (σ : L2.St) : ∀ (us vs : List Nat), (∀ i ∈ us, i ∈ vs) → L2.wipe (L2.wipe σ us) vs = L2.wipe σ vs
  | [], _, _ => rfl
  | u :: us, vs, h => by
    show L2.wipe ((L2.wipe σ us).set u none) vs = L2.wipe σ vs
    rw [wipe_set _ vs (h u (by simp))]
    exact wipe_wipe σ us vs fun i hi => h i (by simp [hi])
theorem setAll_len : ∀ {is : List Nat} {vs : List Val} {env env' : Env}, setAll is vs env = some env' → vs.length = is.length
  | [], [], _, _, _ => rfl
  | _ :: is, _ :: vs, _, _, e => by
    rw [List.length_cons, List.length_cons, setAll_len (is := is) (vs := vs) e]
  | [], _ :: _, _, _, e => by cases e
  | _ :: _, [], _, _, e => by cases e
theorem gTg_ok {K : PySem.W.Frag} {ρ : Pl} {H : Hp} {Q : L2.St → Hp → Prop} {tg : Tg} {v : Val} {w : V} {env env' : Env} {σ : L2.St} (e : assignTg tg v env = some env') (r : Rep K ρ H v w) (rE : RelE K ρ H env σ) (hi : tgIn σ.length tg)
    (h : ∀ σ', RelE K ρ H env' σ' → σ'.length = σ.length → (∀ us : List Nat, tgSub us tg → L2.wipe σ' us = L2.wipe σ us) → Q σ' H) : gTg K tg w σ H Q := by
  cases tg with
  | nm i =>
    cases e
    exact h _ (rE.set i hi r) (List.length_set ..) fun us hu => wipe_set σ us hu
  | tup is =>
    unfold assignTg at e
    dsimp only at e
    split at e
    · rename_i vs
      cases r with
      | @tup a ws _ t q =>
        refine ⟨a, ws, rfl, t.sq, ?_, gNames_ok e q rE hi h⟩
        rw [← q.length]
        exact setAll_len e
    · cases e

/-! ### comprehensions -/
def F0 : WX := fun _ _ _ _ => False
theorem RelS.resv {K : PySem.W.Frag} {ρ : Pl} {st : Store} {H : Hp} {D : Addr} {o : HO} (r : RelS K ρ st H) (h : D ∈ ρ.rs) : RelS K ρ st (upd H D o) := by
  have hD := (r.rs D h).1
  refine ⟨r.len, r.nd, fun l a q e1 e2 => ?_, fun a ha => ⟨(r.rs a ha).1, ?_⟩⟩
  · obtain ⟨u, e3, e4⟩ := r.at_ l a q e1 e2
    have : a ≠ D := fun z => hD (z ▸ List.mem_of_getElem? e1)
    exact ⟨u, by rw [upd_ne this]; exact e3, e4.ext0 (.wrote (.inr h))⟩
  · by_cases z : a = D
    · subst z; exact ⟨o, upd_same⟩
    · rw [upd_ne z]; exact (r.rs a ha).2
section
variable {K : PySem.W.Frag} {W : WX} {σ : L2.St} {ρ ρ1 : Pl} {H H1 : Hp} {Q : VK}
theorem lc_done {new : Bool} {is : Items} {st st1 : Store} {D : Addr} {acc : List Val} {wacc : List V} (nD : H1 D = none) (s1 : RelS K ρ1 st1 H1) (e0 : Ext0 ρ1 H1 ρ H) (ers : ρ.rs = D :: ρ1.rs) (rk : ∀ a ∈ ρ1.rs, H a = H1 a) (rS : RelS K ρ st H) (hD : H D = some (.lst wacc)) (q : RepL K ρ H acc wacc)
    (p : Post K (Rep K) W σ ρ1 H1 Q (open Classical in if Still is st then mk new (.l acc) st else .stuck)) : Q (.ref D) H := by
  have hDr : D ∈ ρ.rs := by rw [ers]; simp
  have nDp : D ∉ ρ.ps := (rS.rs D hDr).1
  have nD1 : D ∉ ρ1.rs := fun m => by
    obtain ⟨o, e⟩ := (s1.rs D m).2
    rw [nD] at e; cases e
  split at p
  · cases new with
    | false =>
      have e1 : Ext0 ρ H ⟨ρ.ps, ρ1.rs⟩ H := ⟨fun a o h n => ⟨h, fun m => n (by
        rcases m with m | m
        · exact .inl m
        · exact .inr (by rw [ers]; simp [m]))⟩, List.prefix_refl _⟩
      have p' : Post K (Rep K) W σ ρ1 H1 Q (.ok (.lst acc) st) := p
      refine p' ⟨ρ.ps, ρ1.rs⟩ (.ref D) H ⟨⟨fun a o h n => ?_, e0.pre⟩, rfl, rk⟩ ⟨rS.len, rS.nd, fun l a o h1 h2 => ?_, fun a ha => ?_⟩ (.lst hD (fun m => ?_) (q.ext0 e1))
      · have := e0.keep a o h n
        exact ⟨this.1, (e1.keep a o this.1 this.2).2⟩
      · obtain ⟨u, h3, h4⟩ := rS.at_ l a o h1 h2
        exact ⟨u, h3, h4.ext0 e1⟩
      · exact rS.rs a (by rw [ers]; simp [ha])
      · rcases m with m | m
        · exact nDp m
        · exact nD1 m
    | true =>
      have e1 : Ext0 ρ H ⟨ρ.ps ++ [D], ρ1.rs⟩ H := ⟨fun a o h n => ⟨h, fun m => n (by
        rcases m with m | m
        · rcases List.mem_append.mp m with m | m
          · exact .inl m
          · exact .inr (by rw [List.mem_singleton.mp m]; exact hDr)
        · exact .inr (by rw [ers]; simp [m]))⟩, List.prefix_append _ _⟩
      have p' : Post K (Rep K) W σ ρ1 H1 Q (.ok (.loc st.length) (st ++ [.lst acc])) := p
      refine p' ⟨ρ.ps ++ [D], ρ1.rs⟩ (.ref D) H ⟨⟨fun a o h n => ?_, e0.pre.trans (List.prefix_append _ _)⟩, rfl, rk⟩ ⟨by simp [rS.len], ?_, fun l a o h1 h2 => ?_, fun a ha => ⟨fun m => ?_, ?_⟩⟩ (.loc ?_)
      · have := e0.keep a o h n
        exact ⟨this.1, (e1.keep a o this.1 this.2).2⟩
      · show (ρ.ps ++ [D]).Nodup
        rw [List.nodup_append]
        exact ⟨rS.nd, by simp, fun a ha b hb => by rw [List.mem_singleton.mp hb]; exact fun z => nDp (z ▸ ha)⟩
      · have h1 : (ρ.ps ++ [D])[l]? = some a := h1
        by_cases hl : l < ρ.ps.length
        · rw [List.getElem?_append_left hl] at h1
          rw [List.getElem?_append_left (rS.len ▸ hl)] at h2
          obtain ⟨u, h3, h4⟩ := rS.at_ l a o h1 h2
          exact ⟨u, h3, h4.ext0 e1⟩
        · rw [List.getElem?_append_right (Nat.le_of_not_lt hl)] at h1
          rw [List.getElem?_append_right (Nat.le_of_not_lt (rS.len ▸ hl))] at h2
          have z : l - ρ.ps.length = 0 := by
            have := (List.getElem?_eq_some_iff.mp h1).1
            simp at this; omega
          rw [z] at h1
          rw [← rS.len, z] at h2
          simp at h1 h2
          subst h1; subst h2
          exact ⟨_, hD, .lst (q.ext0 e1)⟩
      · rcases List.mem_append.mp m with m | m
        · exact (rS.rs a (by rw [ers]; simp [ha])).1 m
        · exact nD1 (List.mem_singleton.mp m ▸ ha)
      · exact (rS.rs a (by rw [ers]; simp [ha])).2
      · show (ρ.ps ++ [D])[st.length]? = some D
        rw [← rS.len]; simp
  · exact p.elim
end
end Rc
/-! Rc5: comprehensions, displays, calls: each construct's rule. -/
namespace Rc
open PySem L2
section
variable {X : Cx}
theorem tLc_of {K : PySem.W.Frag} {W : WX} {new : Bool} {own : List Nat} {mI : Env → M Items} {tgt : Tg} {mT : Env → M Bool} {mE : Env → M Val} {σ : L2.St} {H : Hp} {Q : VK} (hin : tgIn σ.length tgt) (hsub : tgSub own tgt)
    (h : tE K W (lcSem new own mI tgt mT mE) σ H Q) : tLc (tI K W mI) (gTg K tgt) (tG K relB F0 mT) (tE K F0 mE) own σ H Q := by
  obtain ⟨ρ, env, st, rE, rS, p⟩ := h
  refine ⟨ρ, env, st, rE, rS, ?_⟩
  rw [lcSem_eq] at p
  unfold lcRaw at p
  unfold Rc.bnd at p
  cases eI : mI env st with
  | stuck => rw [eI] at p; exact p.elim
  | exc c row st' => rw [eI] at p; exact p
  | ok is st1 =>
    rw [eI] at p
    dsimp only at p
    intro hz ρ1 J H1 x1 s1 hJ D nD
    have rE1 := rE.ext x1
    have p1 := Post.later p x1
    clear p
    refine ⟨fun i m H => ∃ ρ' st' acc wacc, m = is.xs.length - i ∧ i ≤ is.xs.length ∧ Ext0 ρ1 H1 ρ' H ∧ ρ'.rs = D :: ρ1.rs ∧ (∀ a ∈ ρ1.rs, H a = H1 a) ∧ RelS K ρ' st' H ∧ H D = some (.lst wacc) ∧ RepL K ρ' H acc wacc ∧ acc.length ≤ i ∧
      Post K (Rep K) W σ ρ1 H1 Q (bnd (lcLoop (lcTurn tgt own mT mE env) (Still is) (is.xs.drop i) acc) (fun ys => fun st => open Classical in if Still is st then mk new (.l ys) st else .stuck) st'), ?_, ?_⟩
    · have nD1 : D ∉ ρ1 := s1.fresh nD
      have e0 : Ext0 ρ1 H1 ⟨ρ1.ps, D :: ρ1.rs⟩ (upd H1 D (.lst [])) := ⟨fun a o h n => ⟨by rw [upd_ne (ne_of_none h nD)]; exact h, fun m => by
        rcases m with m | m
        · exact n (.inl m)
        · rcases List.mem_cons.mp m with m | m
          · exact ne_of_none h nD m
          · exact n (.inr m)⟩, List.prefix_refl _⟩
      refine ⟨_, ⟨ρ1.ps, D :: ρ1.rs⟩, st1, [], [], rfl, Nat.zero_le _, e0, rfl, fun a ha => upd_ne (s1.ne nD (.inr ha)), ⟨s1.len, s1.nd, fun l a o h1 h2 => ?_, fun a ha => ?_⟩, upd_same, .nil, Nat.zero_le _, p1⟩
      · obtain ⟨u, h3, h4⟩ := s1.at_ l a o h1 h2
        exact ⟨u, by rw [upd_ne (ne_of_none h3 nD)]; exact h3, h4.ext0 e0⟩
      · rcases List.mem_cons.mp ha with ha | ha
        · subst ha
          exact ⟨fun m => nD1 (.inl m), _, upd_same⟩
        · exact ⟨(s1.rs a ha).1, by rw [upd_ne (s1.ne nD (.inr ha))]; exact (s1.rs a ha).2⟩
    · intro i m H2 hW
      obtain ⟨ρ', st', acc, wacc, rfl, hi, e0, ers, rk, s2, hD, q, hacc, p2⟩ := hW
      by_cases hlt : i < is.xs.length
      · right
        have hget : is.xs[i]? = some is.xs[i] := List.getElem?_eq_getElem hlt
        rw [List.drop_eq_getElem_cons hlt] at p2
        unfold Rc.bnd lcLoop at p2
        dsimp only at p2
        by_cases hst : Still is st'
        · rw [if_pos hst] at p2
          obtain ⟨hgo, hy⟩ := (hJ i ρ' st' H2 e0 s2 hst).1 _ hget
          refine ⟨hgo, fun H' => ∃ ρ' st' acc wacc, i + 1 ≤ is.xs.length ∧ Ext0 ρ1 H1 ρ' H' ∧ ρ'.rs = D :: ρ1.rs ∧ (∀ a ∈ ρ1.rs, H' a = H1 a) ∧ RelS K ρ' st' H' ∧ H' D = some (.lst wacc) ∧ RepL K ρ' H' acc wacc ∧ acc.length ≤ i + 1 ∧
            Post K (Rep K) W σ ρ1 H1 Q (bnd (lcLoop (lcTurn tgt own mT mE env) (Still is) (is.xs.drop (i + 1)) acc) (fun ys => fun st => open Classical in if Still is st then mk new (.l ys) st else .stuck) st'), fun H' hN => ?_, fun x H3 hyl => ?_⟩
          · obtain ⟨a1, a2, a3, a4, a5, a6, a7, a8, a9, a10, a11, a12, a13⟩ := hN
            exact ⟨is.xs.length - (i + 1), by omega, a1, a2, a3, a4, rfl, a5, a6, a7, a8, a9, a10, a11, a12, a13⟩
          · obtain ⟨x3, s3, r3⟩ := hy x H3 hyl
            -- the target
            cases eA : assignTg tgt is.xs[i] (Rc.wipe env own) with
            | none =>
              have ht : lcTurn tgt own mT mE env is.xs[i] st' = .stuck := by simp only [lcTurn, eA, stuck]
              rw [ht] at p2; exact p2.elim
            | some env' =>
              have e03 : Ext0 ρ1 H1 ρ' H3 := e0.trans x3.toExt0
              refine gTg_ok eA r3 ((rE1.ext' e03).wipe own) (by rw [L2.wipe_length]; exact hin) fun σ2 rE2 l2 w2 => ⟨?_, ?_⟩
              · rw [w2 own hsub, wipe_wipe σ own own fun _ h => h]
              · have hD3 : H3 D = some (.lst wacc) := by rw [x3.rk D (by rw [ers]; simp)]; exact hD
                have rk3 : ∀ a ∈ ρ1.rs, H3 a = H1 a := fun a ha => by rw [x3.rk a (by rw [ers]; simp [ha])]; exact rk a ha
                refine ⟨ρ', env', st', rE2, s3, ?_⟩
                cases eT : mT env' st' with
                | stuck =>
                  have ht : lcTurn tgt own mT mE env is.xs[i] st' = .stuck := by simp only [lcTurn, eA, noExc, Rc.bnd, eT]
                  rw [ht] at p2; exact p2.elim
                | exc c row st4 =>
                  have ht : lcTurn tgt own mT mE env is.xs[i] st' = .stuck := by simp only [lcTurn, eA, noExc, Rc.bnd, eT]
                  rw [ht] at p2; exact p2.elim
                | ok k st4 =>
                  intro ρ4 b H4 x4 s4 hb
                  have hb : k = b := hb
                  subst hb
                  have e04 : Ext0 ρ1 H1 ρ4 H4 := e03.trans x4.toExt0
                  have ers4 : ρ4.rs = D :: ρ1.rs := x4.rs.trans ers
                  have hD4 : H4 D = some (.lst wacc) := by rw [x4.rk D (by rw [ers]; simp)]; exact hD3
                  have rk4 : ∀ a ∈ ρ1.rs, H4 a = H1 a := fun a ha => by rw [x4.rk a (by rw [ers]; simp [ha])]; exact rk3 a ha
                  have q4 := (q.ext x3).ext x4
                  cases k with
                  | false =>
                    have ht : lcTurn tgt own mT mE env is.xs[i] st' = .ok none st4 := by simp only [lcTurn, eA, noExc, Rc.bnd, eT, Rc.ret, Bool.false_eq_true, if_false]
                    rw [ht] at p2
                    exact ⟨ρ4, st4, acc, wacc, hlt, e04, ers4, rk4, s4, hD4, q4, by omega, p2⟩
                  | true =>
                    show tE K F0 mE σ2 H4 _
                    refine ⟨ρ4, env', st4, rE2.ext x4, s4, ?_⟩
                    cases eE : mE env' st4 with
                    | stuck =>
                      have ht : lcTurn tgt own mT mE env is.xs[i] st' = .stuck := by simp only [lcTurn, eA, noExc, Rc.bnd, eT, eE, if_true]
                      rw [ht] at p2; exact p2.elim
                    | exc c row st5 =>
                      have ht : lcTurn tgt own mT mE env is.xs[i] st' = .stuck := by simp only [lcTurn, eA, noExc, Rc.bnd, eT, eE, if_true]
                      rw [ht] at p2; exact p2.elim
                    | ok y st5 =>
                      have ht : lcTurn tgt own mT mE env is.xs[i] st' = .ok (some y) st5 := by simp only [lcTurn, eA, noExc, Rc.bnd, eT, eE, Rc.ret, if_true]
                      rw [ht] at p2
                      intro ρ5 w H5 x5 s5 ry
                      have hDr : D ∈ ρ5.rs := by rw [x5.rs, ers4]; simp
                      have hD5 : H5 D = some (.lst wacc) := by rw [x5.rk D (by rw [ers4]; simp)]; exact hD4
                      have lq := q.length
                      have wr : Ext0 ρ5 H5 ρ5 (upd H5 D (.lst (wacc ++ [w]))) := .wrote (.inr hDr)
                      refine ⟨wacc, hD5, by omega, ρ5, st5, acc ++ [y], wacc ++ [w], hlt, e04.trans (x5.toExt0.trans wr), x5.rs.trans ers4, fun a ha => ?_, s5.resv hDr, upd_same, ((q4.ext x5).append (.cons ry .nil)).ext0 wr, by rw [List.length_append]; simp; omega, p2⟩
                      have hne : a ≠ D := fun z => by
                        obtain ⟨o, eo⟩ := (s1.rs a ha).2
                        rw [z, nD] at eo; cases eo
                      rw [upd_ne hne, x5.rk a (by rw [ers4]; simp [ha])]
                      exact rk4 a ha
        · rw [if_neg hst] at p2
          exact p2.elim
      · have hi' : is.xs.length = i := by omega
        left
        rw [List.drop_eq_nil_of_le (by omega)] at p2
        have p3 : Post K (Rep K) W σ ρ1 H1 Q (open Classical in if Still is st' then mk new (.l acc) st' else .stuck) := p2
        have hst : Still is st' := by
          by_cases h : Still is st'
          · exact h
          · rw [if_neg h] at p3
            exact p3.elim
        exact ⟨(hJ i ρ' st' H2 e0 s2 hst).2 hi', lc_done nD s1 e0 ers rk s2 hD q p3⟩
end
end Rc
/-! Rc6: does a text of the small language say what a text of the model says? Expressions. -/
namespace Rc
open PySem L2

/-! ### the looks -/
/-- what is known of the module: names left to the built-ins, constants, defs with the count of their parameters -/
structure Sig where
  frees : List Str
  globs : List (Str × Gv)
  defs : List (Str × Nat)
/-- where an expression stands: the scope, the names by slot, the names that may be stored, outside of except suites or not -/
structure Ct where
  sc : Scope
  N : List Str
  stor : List Str
  cal : Bool
def okHead : Expr → Bool
  | .BoolOp .. | .BinOp .. | .UnaryOp .. | .IfExp .. | .Dict .. | .ListComp .. | .Compare .. | .Call .. | .Constant .. | .Attribute .. | .Subscript .. | .Name .. | .List .. | .Tuple .. => true
  | _ => false
def okOp : Operator → Bool
  | .Add => true
  | .Sub => true
  | .Mult => true
  | .Mod => true
  | .FloorDiv => true
  | .Pow => true
  | _ => false
def isVis (sc : Scope) (x : Str) : Bool := match sc.names.lookup x with
  | some .local => true
  | some .cell => true
  | some .free => true
  | _ => false
def isGl (sc : Scope) (x : Str) : Bool := match sc.names.lookup x with
  | some .globalImplicit => true
  | _ => false
def noDbg (x : Str) : Bool := !(x == ("__debug__" : Str)) && !(x == ("__classdict__" : Str)) && !(x == ("__name__" : Str))
def ckName (ct : Ct) (i : Nat) : Expr → Bool
  | .Name x _ => decide (ct.N[i]? = some x) && ct.stor.contains x
  | _ => false
def ckNames (ct : Ct) : List Nat → List Expr → Bool
  | [], [] => true
  | i :: is, e :: es => ckName ct i e && ckNames ct is es
  | _, _ => false
def ckTg (ct : Ct) : Tg → Expr → Bool
  | .nm i, e => ckName ct i e
  | .tup is, .Tuple es _ _ => ct.cal && ckNames ct is es
  | _, _ => false
def tgSubB (own : List Nat) : Tg → Bool
  | .nm i => own.contains i
  | .tup is => is.all own.contains
def biName : Bi → Str
  | .len => "len"
  | .max => "max"
  | .min => "min"
  | .all => "all"
  | .any => "any"
  | .tuple => "tuple"
  | .list => "list"
  | .int => "int"
def ownP (N : List Str) (own : List Nat) : List (Str × Nat) := own.map fun i => (N.getD i Str.empty, i)
def storOf (sc : Scope) : List Str := sc.names.filterMap fun p => match p.2 with
  | .local => some p.1
  | .cell => some p.1
  | _ => none
def ctBlk (ct : Ct) (scope : Scope) : Ct := { ct with sc := relS scope ct.sc, stor := storOf scope }
def isRng (x : Str) : Bool := decide (x = ("range" : Str))
mutual
/-- may it stand as a test? -/
def tst : E → Bool
  | .ife _ _ _ => false
  | .not a => tst a
  | .bop _ es => tstAll es
  | _ => true
def tstAll : Es → Bool
  | .nil => true
  | .cons e es => tst e && tstAll es
end
def tst1 : Es → Bool
  | .nil => true
  | .cons e .nil => tst e
  | _ => false
def isOne : Expr → Bool
  | .Constant (.int i) _ _ => decide (i = 1)
  | _ => false
def negOne : Expr → Bool
  | .UnaryOp .USub e _ => isOne e
  | _ => false
/-- [::-1] -/
def revStep : Expr → Bool
  | .Slice none none (some e) _ => negOne e
  | _ => false
/-- a base whose method is plainly looked up -/
def plainBase : Expr → Bool
  | .Name .. | .Constant .. | .Subscript .. | .Attribute .. => true
  | _ => false
def nonNil : Es → Bool
  | .nil => false
  | _ => true
section
variable (g : Sig)
mutual
def ckE (ct : Ct) : E → Expr → Bool
  | .var i, .Name x _ => decide (ct.N[i]? = some x) && isVis ct.sc x && noDbg x
  | .int i, .Constant (.int j) _ _ => decide (i = j)
  | .str s, .Constant (.str t) _ _ => decide (s = t)
  | .bl b, .Constant (.bool c) _ _ => decide (b = c)
  | .non, .Constant .none _ _ => true
  | .glob x v, .Name y _ => decide (x = y) && isGl ct.sc x && noDbg x && g.globs.any fun p => decide (p.1 = x) && decide (p.2 = v)
  | .bin _ op a b, .BinOp l o r _ => decide (op = o) && okOp op && okHead l && ckE ct a l && okHead r && ckE ct b r
  | .neg a, .UnaryOp .USub e _ => okHead e && ckE ct a e
  | .not a, .UnaryOp .Not e _ => okHead e && ckE ct a e
  | .bop op es, .BoolOp o xs _ => decide (op = o) && ckEs ct es xs
  | .cmp op a b, .Compare l [o] [r] _ => decide (op = o) && okHead l && ckE ct a l && okHead r && ckE ct b r
  | .chain o1 o2 a b c, .Compare l [p1, p2] [m, r] _ => decide (o1 = p1) && decide (o2 = p2) && okHead l && ckE ct a l && okHead m && ckE ct b m && okHead r && ckE ct c r
  | .ife c a b, .IfExp t l r _ => okHead t && ckE ct c t && tst c && okHead l && ckE ct a l && okHead r && ckE ct b r
  | .tup es, .Tuple xs _ _ => ckEs ct es xs
  | .lst _ es, .List xs _ => ckEs ct es xs
  | .ix a b, .Subscript l r _ => okHead l && ckE ct a l && okHead r && ckE ct b r
  | .sl _ a lo hi, .Subscript l (.Slice x y none _) _ => okHead l && ckE ct a l && ckO ct lo x && ckO ct hi y
  | .rev _ a, .Subscript l r _ => okHead l && ckE ct a l && revStep r
  | .mth _ m o es, .Call (.Attribute ob x ap) xs [] cp => ct.cal && decide (x = (mtName m : Str)) && plainBase ob && okHead ob && ckE ct o ob && (ap.endLine == cp.line) && decide (xs.length < 30) && ckEs ct es xs
  | .call f _ es, .Call (.Name x _) xs [] _ => ct.cal && decide (f = x) && isGl ct.sc x && noDbg x && (g.defs.any fun p => decide (p.1 = f)) && nonNil es && ckEs ct es xs
  | .bi _ b es, .Call (.Name x _) xs [] _ => ct.cal && decide (biName b = x) && isGl ct.sc x && noDbg x && g.frees.contains x && nonNil es && ckEs ct es xs
  | .isin a k, .Call (.Name x _) [e, .Name y _] [] _ => decide (x = ("isinstance" : Str)) && isGl ct.sc x && g.frees.contains x && decide (y = (kdName k : Str)) && isGl ct.sc y && noDbg y && g.frees.contains y && okHead e && ckE ct a e
  | .lrange _ a b, .Call (.Name x _) [.Call (.Name y _) [e1, e2] [] _] [] _ => ct.cal && decide (x = ("list" : Str)) && isGl ct.sc x && g.frees.contains x && decide (y = ("range" : Str)) && isGl ct.sc y && g.frees.contains y && okHead e1 && ckE ct a e1 && okHead e2 && ckE ct b e2
  | .lc _ own tg it ifs e, .ListComp elt [⟨t, iter, fs, k⟩] scope _ => ct.cal && decide (k = 0) && blkC ct.N ct.sc scope (ownP ct.N own) && tgSubB own tg && ckTg (ctBlk ct scope) tg t && ckI ct it iter && ckEs (ctBlk ct scope) ifs fs && tst1 ifs && okHead elt && ckE (ctBlk ct scope) e elt
  | _, _ => false
def ckEs (ct : Ct) : Es → List Expr → Bool
  | .nil, [] => true
  | .cons e es, x :: xs => okHead x && ckE ct e x && ckEs ct es xs
  | _, _ => false
def ckO (ct : Ct) : Oe → Option Expr → Bool
  | .none, none => true
  | .some e, some x => okHead x && ckE ct e x
  | _, _ => false
def ckI (ct : Ct) : It → Expr → Bool
  | .seq e, x => okHead x && ckE ct e x
  | .rng1 a, .Call (.Name y _) [e] [] _ => isRng y && isGl ct.sc y && g.frees.contains y && okHead e && ckE ct a e
  | .rng2 a b, .Call (.Name y _) [e1, e2] [] _ => isRng y && isGl ct.sc y && g.frees.contains y && okHead e1 && ckE ct a e1 && okHead e2 && ckE ct b e2
  | _, _ => false
end
end

/-! ### what a look at the head tells -/
theorem isOne_of : ∀ {e : Expr}, isOne e = true → ∃ k p, e = .Constant (.int 1) k p := by
  intro e h
  unfold isOne at h
  split at h
  · rw [of_decide_eq_true h]
    exact ⟨_, _, rfl⟩
  · cases h
theorem negOne_of {e : Expr} (h : negOne e = true) : ∃ k p1 p2, e = .UnaryOp .USub (.Constant (.int 1) k p1) p2 := by
  unfold negOne at h
  split at h
  · obtain ⟨k, p, rfl⟩ := isOne_of h
    exact ⟨_, _, _, rfl⟩
  · cases h
theorem revStep_of {e : Expr} (h : revStep e = true) : ∃ k p1 p2 p3, e = .Slice none none (some (.UnaryOp .USub (.Constant (.int 1) k p1) p2)) p3 := by
  unfold revStep at h
  split at h
  · obtain ⟨k, p1, p2, rfl⟩ := negOne_of h
    exact ⟨_, _, _, _, rfl⟩
  · cases h
theorem head_base {e : Expr} (h : plainBase e = true) (x : Str) (env : PySem.Env) (w : Sem Value) : attributeBase e x env w = w := by
  cases e <;> first | rfl | cases h
theorem head_set {e : Expr} (h : okHead e = true) (env : PySem.Env) (x : Value) : foldedSetIterable e env x = pure x := by
  cases e <;> first | rfl | cases h
theorem head_star {e : Expr} (h : okHead e = true) (es : List Expr) (env : PySem.Env) : starEach (e :: es) env = (false, eval e env) :: starEach es env := by
  cases e <;> first | rfl | cases h
theorem head_mark {e : Expr} (h : okHead e = true) (op : CmpOp) : behindInMarks op e = false := by
  cases e <;> first | rfl | cases h
theorem head_ix {e : Expr} (h : okHead e = true) : PlainIx e := by
  intro o i
  cases e <;> first | rfl | cases h
end Rc
/-! Rc7: what the looks let by runs as the small language says. Expressions. -/
namespace Rc
open PySem L2

/-- what a def of the module keeps: it ends as the small language's call does -/
def spOf (K : PySem.W.Frag) (C : Str → List Val → M Val) (f : Str) : Sp := fun vs H Q E => ∃ (ρ : Pl) (st : Store) (args : List Val), RelS K ρ st H ∧ RepL K ρ H args vs ∧ Post K (Rep K) (fun c d _ H => E c d H) [] ρ H Q (C f args st)
def DefOk (X : Cx) (n : Nat) (C : Str → List Val → M Val) (f : Str) : Prop :=
  ∃ (fa : Addr) (fd : FuncData) (ps : List Str), FnOk X.prog X.w X.K X.mg X.base (L2.CX X.prog X.w) n fa fd ps (spOf X.K C f) ∧ X.mg f = some (.ref fa) ∧ PySem.W.keepIn X.K (.ref fa) = true ∧ Binds X.K fd ps []
def GlobOk (X : Cx) (x : Str) (v : Gv) : Prop := ∃ u w, X.mg x = some u ∧ RelV w u ∧ ∀ ρ H, Rep X.K ρ H (gvVal v) w
structure Good (X : Cx) (g : Sig) (ct : Ct) (n : Nat) (C : Str → List Val → M Val) (W : WX) : Prop where
  sc : X.env.scope = ct.sc
  N : X.N = ct.N
  nd : X.N.Nodup
  stor : ∀ x ∈ ct.stor, Loc ct.sc x ∧ (X.fn x = true ∨ ct.sc.names.lookup x = some .local)
  calm : ct.cal = true → X.calm = true
  room : ct.cal = true → Room n X.A
  units : X.A.units + 64 < cLine
  takes : Takes X W
  frees : ∀ x ∈ g.frees, X.mg x = none
  globs : ∀ p ∈ g.globs, GlobOk X p.1 p.2
  defs : ∀ p ∈ g.defs, DefOk X n C p.1

section
variable {X : Cx} {W : WX} {g : Sig} {ct : Ct} {n : Nat} {C : Str → List Val → M Val}
theorem Good.gl (G : Good X g ct n C W) {x : Str} (h : isGl ct.sc x = true) : Gl X x := by
  unfold isGl at h
  rw [← G.sc] at h
  show X.env.scope.names.lookup x = some .globalImplicit
  split at h
  · assumption
  · cases h
theorem Good.vis (G : Good X g ct n C W) {x : Str} (h : isVis ct.sc x = true) : Vis X.env.scope x := by
  unfold isVis at h
  rw [← G.sc] at h
  split at h
  · exact .inl (by assumption)
  · exact .inr (.inl (by assumption))
  · exact .inr (.inr (by assumption))
  · cases h
theorem dbg1 {x : Str} (h : noDbg x = true) : (x == ("__debug__" : Str)) = false ∧ (x == ("__classdict__" : Str)) = false ∧ x ≠ "__name__" := by
  unfold noDbg at h
  simp only [Bool.and_eq_true, Bool.not_eq_true'] at h
  exact ⟨h.1.1, h.1.2, fun e => by rw [e] at h; simp at h⟩
theorem Good.free (G : Good X g ct n C W) {x : Str} (h : g.frees.contains x = true) : X.mg x = none := G.frees x (List.contains_iff_mem.mp h)

/-! ### rules by constructs -/
theorem pe_no {e : Expr} {t : TE} (h : ∀ σ H Q, ¬ t σ H Q) : PE X e t := ⟨fun _ _ σ H Q _ q => (h σ H Q q).elim⟩
theorem sim_var {i : Nat} {x : Str} {pos : Pos} (hN : X.N[i]? = some x) (hv : Vis X.env.scope x) (hd : noDbg x = true) : PE X (.Name x pos) (tE X.K W fun env => getVar env i) := by
  refine PE.imp (pe_var hN hv (dbg1 hd).1 (dbg1 hd).2.1) fun σ H Q h => ?_
  obtain ⟨ρ, env, st, rE, rS, p⟩ := h
  have p : Post X.K (Rep X.K) W σ ρ H Q (getVar env i st) := p
  unfold getVar at p
  cases e : env[i]? with
  | none => rw [e] at p; exact p.elim
  | some o =>
    rw [e] at p
    cases o with
    | none => exact p.elim
    | some v =>
      obtain ⟨w, h1, h2⟩ := rE i v e
      exact ⟨w, h1, Post.ret p rS h2⟩
theorem sim_c {e : Expr} {v : Val} {w : V} (h : PE X e (tC w)) (r : ∀ ρ H, Rep X.K ρ H v w) : PE X e (tE X.K W fun _ => ret v) := by
  refine PE.imp h fun σ H Q h => ?_
  obtain ⟨ρ, env, st, rE, rS, p⟩ := h
  exact Post.ret p rS (r _ _)
theorem sim_bin {op : Operator} {new : Bool} {a b : Expr} {m1 m2 : Env → M Val} {pos : Pos} (ho : okOp op = true) (ha : PE X a (tE X.K W m1)) (hb : PE X b (tE X.K W m2)) :
    PE X (.BinOp a op b pos) (tE X.K W fun env => bnd (m1 env) fun v => bnd (m2 env) fun w => fun st => bnd (ofOpt (binOp st op v w)) (mk new) st) := by
  cases op with
  | Add => exact PE.imp (pe_op op_add_S ha hb) fun σ H Q h => tOp_of h
  | Sub => exact PE.imp (pe_op op_sub_S ha hb) fun σ H Q h => tOp_of h
  | Mult => exact PE.imp (pe_op op_mul_S ha hb) fun σ H Q h => tOp_of h
  | Mod => exact PE.imp (pe_op op_mod_S ha hb) fun σ H Q h => tOp_of h
  | FloorDiv => exact PE.imp (pe_op op_div_S ha hb) fun σ H Q h => tOp_of h
  | Pow => exact PE.imp (pe_op op_pow_S ha hb) fun σ H Q h => tOp_of h
  | _ => cases ho
theorem sim_neg {a : Expr} {m : Env → M Val} {pos : Pos} (ha : PE X a (tE X.K W m)) : PE X (.UnaryOp .USub a pos) (tE X.K W fun env => bnd (bnd (m env) asInt) fun i => ret (.int (-i))) := by
  refine PE.imp (pe_un un_neg_S ha) fun σ H Q h => tUn_of (g := fun v => bnd (asInt v) fun i => ret (.int (-i))) ?_
  simp only [bnd_assoc] at h
  exact h
/-- a value that is asked for True or False, and what goes on -/
theorem tT_bnd {K : PySem.W.Frag} {m : Env → M Val} {γ δ : Type} {rel : Pl → Hp → γ → δ → Prop} {f : Env → Bool → M γ} {σ : L2.St} {H : Hp} {Q : δ → Hp → Prop} {R : Bool → Hp → Prop} (h : tG K rel W (fun env => bnd (bnd (m env) asBl) (f env)) σ H Q)
    (k : ∀ b H1, tG K rel W (fun env => f env b) σ H1 Q → R b H1) : tT K W m σ H R := by
  obtain ⟨ρ, env, st, rE, rS, p⟩ := h
  refine ⟨ρ, env, st, rE, rS, Post.bnd p fun b st1 ρ1 c H1 e1 s1 q1 p1 => ?_⟩
  have q1 : b = c := q1
  subst q1
  exact k b H1 ⟨ρ1, env, st1, rE.ext e1, s1, p1⟩
theorem tE_ret {K : PySem.W.Frag} {v : Val} {w : V} {σ : L2.St} {H : Hp} {Q : VK} (h : tE K W (fun _ => ret v) σ H Q) (r : ∀ ρ, Rep K ρ H v w) : Q w H := by
  obtain ⟨ρ, env, st, rE, rS, p⟩ := h
  exact Post.ret p rS (r _)
theorem tT_ret {K : PySem.W.Frag} {b : Bool} {σ : L2.St} {H : Hp} {Q : Bool → Hp → Prop} (h : tT K W (fun _ => ret (.bl b)) σ H Q) : Q b H := by
  obtain ⟨ρ, env, st, rE, rS, p⟩ := h
  exact p ρ b H (.refl _ _) rS rfl
theorem sim_not {a : Expr} {m : Env → M Val} {pos : Pos} (ha : PE X a (tE X.K W m)) : PE X (.UnaryOp .Not a pos) (tE X.K W fun env => bnd (bnd (m env) asBl) fun b => ret (.bl (!b))) := by
  refine PE.imp (pe_not ha) fun σ H Q h => ?_
  refine tT_of (tT_bnd h fun b H1 h1 => ?_)
  exact tE_ret h1 fun _ => .bl _
theorem sim_notT {a : Expr} {m : Env → M Val} {pos : Pos} (ha : PT X a (tT X.K W m)) : PT X (.UnaryOp .Not a pos) (tT X.K W fun env => bnd (bnd (m env) asBl) fun b => ret (.bl (!b))) := by
  refine PT.imp (pt_not ha) fun σ H Q h => ?_
  refine tT_bnd (rel := relB) (f := fun _ b => bnd (ret (.bl (!b))) asBl) ?_ fun b H1 h1 => tT_ret h1
  unfold tT at h
  simp only [bnd_assoc] at h ⊢
  exact h
theorem sim_cmp {op : CmpOp} {a b : Expr} {m1 m2 : Env → M Val} {pos : Pos} (hu : X.A.units + 64 < cLine) (ha : PE X a (tE X.K W m1)) (hb : PE X b (tE X.K W m2)) (hm : behindInMarks op b = false) :
    PE X (.Compare a [op] [b] pos) (tE X.K W fun env => bnd (m1 env) fun v => bnd (m2 env) fun w => gCmp op v w) ∧ PT X (.Compare a [op] [b] pos) (tT X.K W fun env => bnd (m1 env) fun v => bnd (m2 env) fun w => gCmp op v w) :=
  ⟨PE.imp (pe_cmpR (op_cmp_S hu op) ha hb hm) fun σ H Q h => tOp_of h, PT.imp (pt_cmpR (op_cmp_S hu op) ha hb hm) fun σ H Q h => tOp_of (tT_of h)⟩
theorem sim_chain {o1 o2 : CmpOp} {a b c : Expr} {m1 m2 m3 : Env → M Val} {pos : Pos} (hu : X.A.units + 64 < cLine) (ha : PE X a (tE X.K W m1)) (hb : PE X b (tE X.K W m2)) (hc : PE X c (tE X.K W m3)) (hm : behindInMarks o2 c = false) :
    PE X (.Compare a [o1, o2] [b, c] pos) (tE X.K W fun env => bnd (m1 env) fun v => bnd (m2 env) fun w => fun st => bnd (ofOpt (cmpOp st o1 v w)) (fun k =>
      if k = true then bnd (m3 env) fun u => fun st => bnd (ofOpt (cmpOp st o2 w u)) (fun b => ret (.bl b)) st else ret (.bl false)) st) ∧
    PT X (.Compare a [o1, o2] [b, c] pos) (tT X.K W fun env => bnd (m1 env) fun v => bnd (m2 env) fun w => fun st => bnd (ofOpt (cmpOp st o1 v w)) (fun k =>
      if k = true then bnd (m3 env) fun u => fun st => bnd (ofOpt (cmpOp st o2 w u)) (fun b => ret (.bl b)) st else ret (.bl false)) st) := by
  have key : ∀ σ H Q, tE X.K W (fun env => bnd (m1 env) fun v => bnd (m2 env) fun w => fun st => bnd (ofOpt (cmpOp st o1 v w)) (fun k =>
      if k = true then bnd (m3 env) fun u => fun st => bnd (ofOpt (cmpOp st o2 w u)) (fun b => ret (.bl b)) st else ret (.bl false)) st) σ H Q → tChain (rOp X.K (gCmp o1)) (rOp X.K (gCmp o2)) (tE X.K W m1) (tE X.K W m2) (tE X.K W m3) σ H Q := by
    intro σ H Q h
    obtain ⟨ρ, env, st, rE, rS, p⟩ := h
    refine ⟨ρ, env, st, rE, rS, Post.bnd p fun v st1 ρ1 x H1 e1 s1 q1 p1 => ?_⟩
    refine ⟨ρ1, env, st1, rE.ext e1, s1, Post.bnd p1 fun w st2 ρ2 y H2 e2 s2 q2 p2 => ?_⟩
    obtain ⟨k, ek, p3⟩ := Post.opt p2
    refine ⟨W, σ, ρ2, st2, v, w, s2, q1.ext e2, q2, ?_⟩
    show Post X.K (Rep X.K) W σ ρ2 H2 _ (bnd (ofOpt (cmpOp st2 o1 v w)) (fun b => ret (.bl b)) st2)
    rw [ek]
    intro ρ3 z H3 e3 s3 q3
    cases q3
    refine ⟨k, rfl, ?_⟩
    cases k with
    | false => exact Post.ret (Post.later p3 e3) s3 (.bl false)
    | true =>
      show tE X.K W m3 σ H3 _
      refine ⟨ρ3, env, st2, ((rE.ext e1).ext e2).ext e3, s3, Post.bnd (Post.later p3 e3) fun u st4 ρ4 z H4 e4 s4 q4 p4 => ?_⟩
      exact ⟨W, σ, ρ4, st4, w, u, s4, (q2.ext e3).ext e4, q4, p4⟩
  have hl : lastMarks [o1, o2] [b, c] = false := hm
  exact ⟨PE.imp (pe_chain (op_cmp_S hu o1) (op_cmp_S hu o2) ha hb hc hl) key, PT.imp (pt_chain (op_cmp_S hu o1) (op_cmp_S hu o2) ha hb hc hl) fun σ H Q h => key σ H _ (tT_of h)⟩
theorem sim_ife {c a b : Expr} {mc ma mb : Env → M Val} {pos : Pos} (hc : PT X c (tT X.K W mc)) (ha : PE X a (tE X.K W ma)) (hb : PE X b (tE X.K W mb)) :
    PE X (.IfExp c a b pos) (tE X.K W fun env => bnd (bnd (mc env) asBl) fun k => if k = true then ma env else mb env) := by
  refine PE.imp (pe_ifExp hc ha hb) fun σ H Q h => ?_
  refine tT_bnd h fun k H1 h1 => ?_
  cases k <;> exact h1
/-! ### argument lists -/
theorem sim_nil : PA X [] (tA X.K W fun _ => ret []) := by
  refine PA.imp pa_nil fun σ H Q h => ?_
  obtain ⟨ρ, env, st, rE, rS, p⟩ := h
  exact p ρ [] H (.refl _ _) rS .nil
theorem sim_cons {e : Expr} {es : List Expr} {m : Env → M Val} {ms : Env → M (List Val)} (he : PE X e (tE X.K W m)) (hs : PA X es (tA X.K W ms)) (hst : starEach (e :: es) X.env = (false, eval e X.env) :: starEach es X.env) :
    PA X (e :: es) (tA X.K W fun env => bnd (m env) fun v => bnd (ms env) fun vs => ret (v :: vs)) := by
  refine PA.imp (pa_cons he hs hst) fun σ H Q h => ?_
  obtain ⟨ρ, env, st, rE, rS, p⟩ := h
  refine ⟨ρ, env, st, rE, rS, Post.bnd p fun v st1 ρ1 x H1 e1 s1 q1 p1 => ?_⟩
  refine ⟨ρ1, env, st1, rE.ext e1, s1, Post.bnd p1 fun vs st2 ρ2 xs H2 e2 s2 q2 p2 => ?_⟩
  exact p2 ρ2 _ H2 (.refl _ _) s2 (.cons (q1.ext e2) q2)
theorem sim_tup {es : List Expr} {ms : Env → M (List Val)} {k : Nat} {pos : Pos} (h : PA X es (tA X.K W ms)) : PE X (.Tuple es k pos) (tE X.K W fun env => bnd (ms env) fun vs => if szOk vs.length = true then ret (.tup vs) else stuck) := by
  refine PE.imp (pe_tup h) fun σ H Q h => ?_
  obtain ⟨ρ, env, st, rE, rS, p⟩ := h
  refine ⟨ρ, env, st, rE, rS, Post.bnd p fun vs st1 ρ1 xs H1 e1 s1 q1 p1 => ?_⟩
  split at p1
  · rename_i hz
    exact ⟨by rw [← q1.length]; exact of_decide_eq_true hz, post_t p1 s1 q1⟩
  · exact p1.elim
theorem sim_lst {es : List Expr} {ms : Env → M (List Val)} {new : Bool} {pos : Pos} (h : PA X es (tA X.K W ms)) : PE X (.List es pos) (tE X.K W fun env => bnd (ms env) fun vs => if szOk vs.length = true then mk new (.l vs) else stuck) := by
  refine PE.imp (pe_lst h) fun σ H Q h => ?_
  obtain ⟨ρ, env, st, rE, rS, p⟩ := h
  refine ⟨ρ, env, st, rE, rS, Post.bnd p fun vs st1 ρ1 xs H1 e1 s1 q1 p1 => ?_⟩
  split at p1
  · rename_i hz
    exact ⟨by rw [← q1.length]; exact of_decide_eq_true hz, post_l p1 s1 q1⟩
  · exact p1.elim
theorem sim_ix {a b : Expr} {m1 m2 : Env → M Val} {pos : Pos} (ha : PE X a (tE X.K W m1)) (hb : PE X b (tE X.K W m2)) (hs : PlainIx b) :
    PE X (.Subscript a b pos) (tE X.K W fun env => bnd (m1 env) fun v => bnd (m2 env) fun w => fun st => bnd (ofOpt (ixOp st v w)) ret st) :=
  PE.imp (pe_ix ix_S ha hb hs) fun σ H Q h => tOp_of h
theorem sim_sl {a : Expr} {lo hi : Option Expr} {new : Bool} {m : Env → M Val} {ml mh : Env → M (Option Int)} {pos p2 : Pos} (ha : PE X a (tE X.K W m)) (hl : PO X lo (tG X.K relO W ml)) (hh : PO X hi (tG X.K relO W mh)) :
    PE X (.Subscript a (.Slice lo hi none p2) pos) (tE X.K W fun env => bnd (m env) fun v => bnd (ml env) fun l => bnd (mh env) fun h => fun st => bnd (ofOpt (slOp st v l h)) (mk new) st) := by
  refine PE.imp (pe_slice (sl_S (new := new)) ha hl hh) fun σ H Q h => ?_
  obtain ⟨ρ, env, st, rE, rS, p⟩ := h
  refine ⟨ρ, env, st, rE, rS, Post.bnd p fun v st1 ρ1 x H1 e1 s1 q1 p1 => ?_⟩
  refine ⟨ρ1, env, st1, rE.ext e1, s1, Post.bnd p1 fun l st2 ρ2 l' H2 e2 s2 q2 p2 => ?_⟩
  have q2 : l = l' := q2
  subst q2
  refine ⟨ρ2, env, st2, (rE.ext e1).ext e2, s2, Post.bnd p2 fun u st3 ρ3 u' H3 e3 s3 q3 p3 => ?_⟩
  have q3 : u = u' := q3
  subst q3
  exact ⟨W, σ, ρ3, st3, v, s3, (q1.ext e2).ext e3, p3⟩
theorem sim_rev {a : Expr} {new : Bool} {m : Env → M Val} {k : Nat} {p1 p2 p3 pos : Pos} (ha : PE X a (tE X.K W m)) :
    PE X (.Subscript a (.Slice none none (some (.UnaryOp .USub (.Constant (.int 1) k p1) p2)) p3) pos) (tE X.K W fun env => bnd (m env) fun v => fun st => bnd (ofOpt (revOp st v)) (mk new) st) := by
  refine PE.imp (pe_rev ha) fun σ H Q h => ?_
  obtain ⟨ρ, env, st, rE, rS, p⟩ := h
  refine ⟨ρ, env, st, rE, rS, Post.bnd p fun v st1 ρ1 x H1 e1 s1 q1 p1 => ?_⟩
  obtain ⟨c, e, p2⟩ := Post.opt p1
  clear p1
  unfold revOp at e
  split at e
  · cases e
    cases q1 with
    | @tup a1 ws vs ta qa => exact ⟨a1, ws, rfl, .inr ⟨ta.sq, post_t p2 s1 qa.reverse⟩⟩
  · obtain ⟨xs, e1, rfl⟩ := Option.map_eq_some_iff.mp e
    obtain ⟨a1, ws, rfl, h1, q2⟩ := q1.lstOf s1 e1
    exact ⟨a1, ws, rfl, .inl ⟨.of h1, post_l p2 s1 q2.reverse⟩⟩
theorem sim_oNone : PO X none (tG X.K relO W fun _ => ret none) := by
  refine ⟨fun pins s σ H Q I h => po_none.run pins s σ H Q I ?_⟩
  obtain ⟨ρ, env, st, rE, rS, p⟩ := h
  exact p ρ none H (.refl _ _) rS rfl
theorem sim_oSome {e : Expr} {m : Env → M Val} (he : PE X e (tE X.K W m)) : PO X (some e) (tG X.K relO W fun env => bnd (bnd (m env) asInt) fun i => ret (some i)) := by
  refine ⟨fun pins s σ H Q I h => (po_some he).run pins s σ H Q I ?_⟩
  obtain ⟨ρ, env, st, rE, rS, p⟩ := h
  dsimp only at p
  rw [bnd_assoc] at p
  refine ⟨ρ, env, st, rE, rS, Post.bnd p fun v st1 ρ1 x H1 e1 s1 q1 p1 => ?_⟩
  obtain ⟨i, rfl, p2⟩ := Post.asInt p1
  cases q1
  exact ⟨i, rfl, p2 ρ1 (some i) H1 (.refl _ _) s1 rfl⟩
/-! ### calls -/
theorem noStar {pos : Pos} : ∀ {es : List Expr}, (∀ e ∈ es, okHead e = true) → (backTo pos (starEach es X.env)).any (·.1) = false
  | [], _ => rfl
  | e :: es, h => by
    rw [head_star (h e (by simp))]
    show (false || (backTo pos (starEach es X.env)).any (·.1)) = false
    rw [noStar fun x hx => h x (by simp [hx])]; rfl
theorem tA_bnd {K : PySem.W.Frag} {ms : Env → M (List Val)} {f : List Val → M Val} {σ : L2.St} {H : Hp} {Q : VK} {R : List V → Hp → Prop} (h : tE K W (fun env => bnd (ms env) f) σ H Q)
    (k : ∀ ρ st vs xs H1, RelS K ρ st H1 → RepL K ρ H1 vs xs → Post K (Rep K) W σ ρ H1 Q (f vs st) → R xs H1) : tA K W ms σ H R := by
  obtain ⟨ρ, env, st, rE, rS, p⟩ := h
  exact ⟨ρ, env, st, rE, rS, Post.bnd p fun vs st1 ρ1 xs H1 e1 s1 q1 p1 => k ρ1 st1 vs xs H1 s1 q1 p1⟩
theorem sim_call {f : Str} {m : Md} {es : List Expr} {ms : Env → M (List Val)} {p pos : Pos} (D : DefOk X n C f) (hr : Room n X.A) (hg : Gl X f) (hd : noDbg f = true) (tk : Takes X W) (ha : PA X es (tA X.K W ms)) (hok : ∀ e ∈ es, okHead e = true) (hne : es ≠ []) :
    PE X (.Call (.Name f p) es [] pos) (tE X.K W fun env => bnd (ms env) fun vs => match m with
      | .raw => C f vs
      | .cut => cutM (C f vs)) := by
  obtain ⟨fa, fd, ps, F, hm, hk, hb⟩ := D
  have key : ∀ σ H Q, tE X.K W (fun env => bnd (ms env) fun vs => match m with
      | .raw => C f vs
      | .cut => cutM (C f vs)) σ H Q → tCallS (spOf X.K C f) (WE W) (tA X.K W ms) σ H Q := by
    intro σ H Q h
    refine tA_bnd h fun ρ st vs xs H1 rS q p => ?_
    refine ⟨ρ, st, vs, rS, q, ?_⟩
    cases m with
    | raw => exact p
    | cut => exact Post.cut rS p
  cases es with
  | nil =>
    exact absurd rfl hne
  | cons e es =>
    refine PE.imp (pe_callS F hr hg hm hk hb (fun σ => passAt tk σ) ha (dbg1 hd).1 (head_star (hok e (by simp)) es X.env) (noStar fun x hx => hok x (by simp [hx]))) key

theorem sim_bi {b : Bi} {new : Bool} {es : List Expr} {ms : Env → M (List Val)} {p pos : Pos} (hc : X.calm = true) (hg : Gl X (biName b)) (hm : X.mg (biName b) = none) (ha : PA X es (tA X.K W ms)) (hok : ∀ e ∈ es, okHead e = true) (hne : es ≠ []) :
    PE X (.Call (.Name (biName b) p) es [] pos) (tE X.K W fun env => bnd (ms env) fun vs => fun st => bnd (ofOpt (biOp st b vs)) (mk new) st) := by
  cases es with
  | nil => exact absurd rfl hne
  | cons e es =>
    have hst := head_star (hok e (by simp)) es X.env
    have hns : (backTo pos (starEach es X.env)).any (·.1) = false := noStar fun x hx => hok x (by simp [hx])
    have fin : ∀ {o : Store → List Val → Option Val} {σ : L2.St} {H : Hp} {Q : VK}, tE X.K W (fun env => bnd (ms env) fun vs => fun st => bnd (ofOpt ((o st vs).map Pv.v)) (mk new) st) σ H Q → tCB (rCall X.K fun vs st => bnd (ofOpt (o st vs)) ret st) (tA X.K W ms) σ H Q := by
      intro o σ H Q h
      refine tA_bnd h fun ρ st vs xs H1 rS q p => ⟨W, σ, ρ, st, vs, rS, q, ?_⟩
      show Post X.K (Rep X.K) W σ ρ H1 Q (bnd (ofOpt (o st vs)) ret st)
      cases e : o st vs with
      | none => rw [e] at p; exact p
      | some v => rw [e] at p; exact p
    cases b with
    | len => exact PE.imp (pe_callB bi_len hg hm PySem.boot_len ha (by decide) (by decide) hst hns) fun σ H Q h => fin (o := biLen) h
    | max => exact PE.imp (pe_callB (bi_max hc) hg hm (by decide +kernel) ha (by decide) (by decide) hst hns) fun σ H Q h => fin (o := biMax) h
    | min => exact PE.imp (pe_callB (bi_min hc) hg hm (by decide +kernel) ha (by decide) (by decide) hst hns) fun σ H Q h => fin (o := biMin) h
    | all => exact PE.imp (pe_callB (bi_all hc) hg hm (by decide +kernel) ha (by decide) (by decide) hst hns) fun σ H Q h => fin (o := biAll) h
    | any => exact PE.imp (pe_callB (bi_any hc) hg hm (by decide +kernel) ha (by decide) (by decide) hst hns) fun σ H Q h => fin (o := biAny) h
    | tuple => exact PE.imp (pe_callTy bi_tuple hg hm (by decide +kernel) ha (by decide) (by decide) hst hns) fun σ H Q h => fin (o := biTuple) h
    | int => exact PE.imp (pe_callTy bi_int hg hm (by decide +kernel) ha (by decide) (by decide) hst hns) fun σ H Q h => fin (o := fun _ => biInt) h
    | list =>
      refine PE.imp (pe_callTy (bi_list (new := new)) hg hm (by decide +kernel) ha (by decide) (by decide) hst hns) fun σ H Q h => ?_
      exact tA_bnd h fun ρ st vs xs H1 rS q p => ⟨W, σ, ρ, st, vs, rS, q, p⟩
theorem allStar {pos : Pos} : ∀ {es : List Expr}, (∀ e ∈ es, okHead e = true) → (backTo pos (starEach es X.env)).all (fun x => !x.1) = true
  | [], _ => rfl
  | e :: es, h => by
    rw [head_star (h e (by simp))]
    show (true && (backTo pos (starEach es X.env)).all (fun x => !x.1)) = true
    rw [allStar fun x hx => h x (by simp [hx])]; rfl
theorem sim_mth {m : Mt} {new : Bool} {o : Expr} {es : List Expr} {mo : Env → M Val} {ms : Env → M (List Val)} {apos cpos : Pos} (ho : PE X o (tE X.K W mo)) (hb : plainBase o = true) (ha : PA X es (tA X.K W ms)) (hok : ∀ e ∈ es, okHead e = true) (hline : (apos.endLine == cpos.line) = true) (hlen : es.length < 30) (hnil : es = [] → ∀ env, ms env = ret []) :
    PE X (.Call (.Attribute o (mtName m : Str) apos) es [] cpos) (tE X.K W fun env => bnd (mo env) fun v => fun st => if tyOk m st v = true then bnd (ms env) (fun vs => mtOp new m v vs) st else .stuck) := by
  have facts : PlainAttrs (mtTy m) ∧ Slot (mtTy m) (mtName m : Str) (mtId m) ∧ typeOf (.builtin (mtId m)) = pure (.type "method_descriptor") := by
    cases m with
    | append => exact ⟨PySem.F.plainAttrs_list, PySem.F.slot_list_append, PySem.F.type_list_append⟩
    | extend => exact ⟨PySem.F.plainAttrs_list, PySem.F.slot_list_extend, PySem.F.type_list_extend⟩
    | pop => exact ⟨PySem.F.plainAttrs_list, PySem.F.slot_list_pop, PySem.F.type_list_pop⟩
    | clear => exact ⟨PySem.F.plainAttrs_list, PySem.F.slot_list_clear, PySem.F.type_list_clear⟩
    | insert => exact ⟨PySem.F.plainAttrs_list, PySem.F.slot_list_insert, PySem.F.type_list_insert⟩
    | join => exact ⟨PySem.F.plainAttrs_str, PySem.F.slot_str_join, PySem.F.type_str_join⟩
    | split => exact ⟨PySem.F.plainAttrs_str, PySem.F.slot_str_split, PySem.F.type_str_split⟩
    | sindex => exact ⟨PySem.F.plainAttrs_str, PySem.F.slot_str_index, PySem.F.type_str_index⟩
  have hbase := head_base hb (mtName m : Str) X.env (eval o X.env)
  cases es with
  | nil =>
    refine PE.imp (pe_bm0 facts.1 facts.2.1 facts.2.2 (mt_S (new := new)) ho hbase hline) fun σ H Q h => ?_
    obtain ⟨ρ, env, st, rE, rS, p⟩ := h
    refine ⟨ρ, env, st, rE, rS, Post.bnd p fun v st1 ρ1 x H1 e1 s1 q1 p1 => ?_⟩
    split at p1
    · rename_i ht
      refine ⟨ty_S s1 q1 ht, ?_⟩
      rw [hnil rfl env] at p1
      exact ⟨W, σ, ρ1, st1, v, [], s1, q1, .nil, p1⟩
    · exact p1.elim
  | cons e es =>
    have hst := head_star (hok e (by simp)) es X.env
    have hns : (backTo cpos (starEach es X.env)).any (·.1) = false := noStar fun x hx => hok x (by simp [hx])
    have hfew : ((backTo cpos (starEach (e :: es) X.env)).all (fun x => !x.1) && (backToKw cpos (keywordEach [] X.env)).all (fun x => x.1.isSome) && decide ((e :: es).length + ([] : List Keyword).length + (if ([] : List Keyword).isEmpty then 0 else 1) < 30)) = true := by
      rw [allStar hok]
      show (true && true && decide (es.length + 1 < 30)) = true
      rw [decide_eq_true (show es.length + 1 < 30 from hlen)]
      rfl
    refine PE.imp (pe_bm facts.1 facts.2.1 facts.2.2 (mt_S (new := new)) ho ha hbase hfew hline hst hns) fun σ H Q h => ?_
    obtain ⟨ρ, env, st, rE, rS, p⟩ := h
    refine ⟨ρ, env, st, rE, rS, Post.bnd p fun v st1 ρ1 x H1 e1 s1 q1 p1 => ?_⟩
    split at p1
    · rename_i ht
      refine ⟨ty_S s1 q1 ht, ?_⟩
      exact ⟨ρ1, env, st1, rE.ext e1, s1, Post.bnd p1 fun vs st2 ρ2 xs H2 e2 s2 q2 p2 => ⟨W, σ, ρ2, st2, v, vs, s2, q1.ext e2, q2, p2⟩⟩
    · exact p1.elim
theorem kd_boot (k : Kd) : bootBuiltins (kdName k : Str) = some (.type (kdName k)) := by
  cases k <;> decide +kernel
theorem sim_isin {k : Kd} {e : Expr} {m : Env → M Val} {p q pos : Pos} (hg : Gl X "isinstance") (hm : X.mg "isinstance" = none) (hgk : Gl X (kdName k : Str)) (hmk : X.mg (kdName k : Str) = none) (hd : noDbg (kdName k : Str) = true) (he : PE X e (tE X.K W m)) (hok : okHead e = true) :
    PE X (.Call (.Name "isinstance" p) [e, .Name (kdName k : Str) q] [] pos) (tE X.K W fun env => bnd (m env) fun v => fun st => bnd (ofOpt (isinOp st v k)) (fun b => ret (.bl b)) st) := by
  have hk : PE X (.Name (kdName k : Str) q) (tC (.ty (kdName k))) := pe_bltn hgk hmk (kd_boot k) rfl (dbg1 hd).2.2 (dbg1 hd).1
  have hst := head_star hok [.Name (kdName k : Str) q] X.env
  refine PE.imp (pe_callB (isin_S (k := k)) hg hm (by decide +kernel) (pa_cons he (pa_cons hk pa_nil rfl) hst) (by decide) (by decide) hst rfl) fun σ H Q h => ?_
  obtain ⟨ρ, env, st, rE, rS, p⟩ := h
  refine ⟨ρ, env, st, rE, rS, Post.bnd p fun v st1 ρ1 x H1 e1 s1 q1 p1 => ?_⟩
  exact ⟨x, rfl, W, σ, ρ1, st1, v, s1, q1, p1⟩
theorem rg_rep {K : PySem.W.Frag} {ρ : Pl} {H : Hp} (i j : Int) : RepL K ρ H (rangeV i j) (rgV i j) := by
  unfold rangeV rgV
  generalize List.range (j - i).toNat = l
  induction l with
  | nil => exact .nil
  | cons a l ih => exact .cons (.int _) ih
theorem sim_lrange {new : Bool} {a b : Expr} {m1 m2 : Env → M Val} {p q pos pos2 : Pos} (hc : X.calm = true) (hg : Gl X "list") (hm : X.mg "list" = none) (hgr : Gl X "range") (hmr : X.mg "range" = none) (ha : PE X a (tE X.K W m1)) (hb : PE X b (tE X.K W m2)) (oa : okHead a = true) (ob : okHead b = true) :
    PE X (.Call (.Name "list" p) [.Call (.Name "range" q) [a, b] [] pos2] [] pos) (tE X.K W fun env => bnd (bnd (m1 env) asInt) fun i => bnd (bnd (m2 env) asInt) fun j => if rngOk i j = true then mk new (.l (rangeV i j)) else stuck) := by
  have hr : PRg X (.Call (.Name "range" q) [a, b] [] pos2) (tRg2 (tE X.K W m1) (tE X.K W m2)) := prg_2 hgr hmr ha hb (head_star oa [b] X.env) (head_star ob [] X.env) (noStar fun x hx => by simp at hx; subst hx; exact ob)
  refine PE.imp (pe_listRg hc hg hm hr rfl) fun σ H Q h => ?_
  obtain ⟨ρ, env, st, rE, rS, p⟩ := h
  dsimp only at p
  rw [bnd_assoc] at p
  refine ⟨ρ, env, st, rE, rS, Post.bnd p fun v st1 ρ1 x H1 e1 s1 q1 p1 => ?_⟩
  obtain ⟨i, rfl, p1a⟩ := Post.asInt p1
  cases q1
  rw [bnd_assoc] at p1a
  refine ⟨ρ1, env, st1, rE.ext e1, s1, Post.bnd p1a fun v st2 ρ2 x H2 e2 s2 q2 p2 => ?_⟩
  obtain ⟨j, rfl, p2a⟩ := Post.asInt p2
  cases q2
  split at p2a
  · rename_i hr
    obtain ⟨h1, h2, h3, h4, h5⟩ := rngOk_of hr
    exact ⟨i, j, rfl, rfl, ⟨h1, h2, h3, h4, h5⟩, post_l p2a s2 (rg_rep i j)⟩
  · exact p2a.elim
/-! ### targets, tests -/
theorem Good.name (G : Good X g ct n C W) {i : Nat} {e : Expr} (h : ckName ct i e = true) : PG X e (gName i) := by
  unfold ckName at h
  split at h
  · rename_i x pos
    rw [Bool.and_eq_true] at h
    have h1 : X.N[i]? = some x := by rw [G.N]; exact of_decide_eq_true h.1
    obtain ⟨h2, h3⟩ := G.stor x (List.contains_iff_mem.mp h.2)
    rw [← G.sc] at h2 h3
    exact pg_name G.nd h1 h2 h3
  · cases h
theorem name_at {i : Nat} {e : Expr} {es : List Expr} (h : ckName ct i e = true) (env : PySem.Env) : assignEach (e :: es) env = (false, assign e env) :: assignEach es env := by
  unfold ckName at h
  split at h
  · rfl
  · cases h
theorem Good.names (G : Good X g ct n C W) : ∀ {is : List Nat} {es : List Expr}, ckNames ct is es = true → PGs X es (gNames is) ∧ (assignEach es X.env).length = is.length ∧ (assignEach es X.env).findIdx? (·.1) = none
  | [], [], _ => ⟨pgs_nil, rfl, rfl⟩
  | i :: is, e :: es, h => by
    have h' := Bool.and_eq_true_iff.mp (show (ckName ct i e && ckNames ct is es) = true from h)
    obtain ⟨h1, h2, h3⟩ := G.names h'.2
    have ha := name_at (es := es) h'.1 X.env
    refine ⟨pgs_cons (G.name h'.1) h1 (by rw [ha]; rfl), by rw [ha, List.length_cons, h2]; rfl, ?_⟩
    rw [ha, List.findIdx?_cons]
    simp [h3]
  | [], _ :: _, h => by cases h
  | _ :: _, [], h => by cases h
theorem Good.tg (G : Good X g ct n C W) {tg : Tg} {e : Expr} (h : ckTg ct tg e = true) : PG X e (gTg X.K tg) := by
  unfold ckTg at h
  split at h
  · exact G.name h
  · rename_i is es k pos
    rw [Bool.and_eq_true] at h
    obtain ⟨h1, h2, h3⟩ := G.names h.2
    exact pg_tup (G.calm h.1) h1 h2 h3
  · cases h
theorem ckName_lt {i : Nat} {e : Expr} (h : ckName ct i e = true) : i < ct.N.length := by
  unfold ckName at h
  split at h
  · rw [Bool.and_eq_true] at h
    exact (List.getElem?_eq_some_iff.mp (of_decide_eq_true h.1)).1
  · cases h
theorem ckNames_lt : ∀ {is : List Nat} {es : List Expr}, ckNames ct is es = true → ∀ i ∈ is, i < ct.N.length
  | [], _, _, i, hi => by simp at hi
  | j :: is, e :: es, h, i, hi => by
    have h' := Bool.and_eq_true_iff.mp (show (ckName ct j e && ckNames ct is es) = true from h)
    rcases List.mem_cons.mp hi with hi | hi
    · subst hi; exact ckName_lt h'.1
    · exact ckNames_lt h'.2 i hi
  | _ :: _, [], h, _, _ => by cases h
theorem ckTg_in {tg : Tg} {e : Expr} (h : ckTg ct tg e = true) : tgIn ct.N.length tg := by
  unfold ckTg at h
  split at h
  · exact ckName_lt h
  · rw [Bool.and_eq_true] at h
    exact ckNames_lt h.2
  · cases h
theorem tgSub_of {own : List Nat} {tg : Tg} (h : tgSubB own tg = true) : tgSub own tg := by
  cases tg with
  | nm i => exact List.contains_iff_mem.mp h
  | tup is => exact fun i hi => List.contains_iff_mem.mp (List.all_eq_true.mp h i hi)
theorem ownP_snd (N : List Str) : ∀ own : List Nat, (ownP N own).map (·.2) = own := fun own => by
  unfold ownP
  rw [List.map_map]
  exact (List.map_congr_left fun _ _ => rfl).trans (List.map_id _)
/-- a comprehension's block -/
theorem Good.blk (G : Good X g ct n C W) {scope : Scope} (uq : ∀ y ∈ scope.names, scope.names.lookup y.1 = some y.2) (s : Shared) (H : Hp) (cl : List (Str × Addr)) (c : Addr) (fp : List Addr) : Good (X.blk s H scope (compEnvC scope cl c X.env) fp) g (ctBlk ct scope) n C F0 where
  sc := by
    show relabel scope X.env = relS scope ct.sc
    rw [← G.sc]; rfl
  N := G.N
  nd := G.nd
  stor := fun x hx => by
    have hx : x ∈ storOf scope := hx
    unfold storOf at hx
    obtain ⟨p, hp, he⟩ := List.mem_filterMap.mp hx
    have hl := uq p hp
    split at he
    · rename_i hk
      cases he
      rw [hk] at hl
      have := lookup_relS_keep (sc := ct.sc) (k := .local) (by decide) hl
      exact ⟨.inl this, .inr this⟩
    · rename_i hk
      cases he
      rw [hk] at hl
      have := lookup_relS_keep (sc := ct.sc) (k := .cell) (by decide) hl
      refine ⟨.inr this, .inl ?_⟩
      show (scope.names.lookup p.1 == some .cell) = true
      rw [hl]; rfl
    · cases he
  calm := G.calm
  room := G.room
  units := G.units
  takes := takes0
  frees := G.frees
  globs := G.globs
  defs := G.defs
end
end Rc
/-! Rc8: expressions, by induction. -/
namespace Rc
open PySem L2
section
variable {g : Sig} {n : Nat} {C : Str → List Val → M Val}
theorem ptOf {X : Cx} {W : WX} {e : Expr} {m : Env → M Val} (h : PE X e (tE X.K W m)) (he : ∀ whole, isTrue e X.env whole = (do let v ← whole; standAt e.pos; holding [v] (truthy v)) := by intro _; rfl) : PT X e (tT X.K W m) :=
  PT.imp (pt_val h he) fun _ _ _ h => tT_of h
theorem both {a b : Bool} (h : (a && b) = true) : a = true ∧ b = true := Bool.and_eq_true_iff.mp h
theorem ckEs_ok {ct : Ct} : ∀ {es : Es} {xs : List Expr}, ckEs g ct es xs = true → ∀ x ∈ xs, okHead x = true
  | .nil, [], _, x, hx => by simp at hx
  | .cons e es, y :: ys, h, x, hx => by
    simp only [ckEs, Bool.and_eq_true] at h
    rcases List.mem_cons.mp hx with hx | hx
    · subst hx; exact h.1.1
    · exact ckEs_ok h.2 x hx
  | .nil, _ :: _, h, _, _ => by simp [ckEs] at h
  | .cons _ _, [], h, _, _ => by simp [ckEs] at h
theorem esNil {ct : Ct} {es : Es} {xs : List Expr} (h : ckEs g ct es xs = true) (hn : xs = []) (env : Env) : evEs C es env = ret [] := by
  cases es with
  | nil => unfold evEs; rfl
  | cons e es =>
    subst hn
    simp [ckEs] at h
theorem nonNil_of {ct : Ct} {es : Es} {xs : List Expr} (h : ckEs g ct es xs = true) (hn : nonNil es = true) : xs ≠ [] := by
  cases es with
  | nil => simp [nonNil] at hn
  | cons e es =>
    cases xs with
    | nil => simp [ckEs] at h
    | cons x xs => exact List.cons_ne_nil _ _
mutual
theorem soundE : ∀ (e : E) (ex : Expr) {X : Cx} {ct : Ct} {W : WX}, Good X g ct n C W → ckE g ct e ex = true → PE X ex (tE X.K W (evE C e)) ∧ (tst e = true → PT X ex (tT X.K W (evE C e)))
  | .var i, ex, X, ct, W, G, h => by
    cases ex
    case Name x pos =>
      simp only [ckE, Bool.and_eq_true] at h
      have p : PE X (.Name x pos) (tE X.K W (evE C (.var i))) := sim_var (by rw [G.N]; exact of_decide_eq_true h.1.1) (G.vis h.1.2) h.2
      exact ⟨p, fun _ => ptOf p⟩
    all_goals simp [ckE] at h
  | .int i, ex, X, ct, W, G, h => by
    cases ex
    case Constant c k pos =>
      cases c
      case int j =>
        simp only [ckE] at h
        have := of_decide_eq_true h
        subst this
        have p : PE X (.Constant (.int i) k pos) (tE X.K W (evE C (.int i))) := sim_c pe_int fun _ _ => .int i
        exact ⟨p, fun _ => ptOf p⟩
      all_goals simp [ckE] at h
    all_goals simp [ckE] at h
  | .str i, ex, X, ct, W, G, h => by
    cases ex
    case Constant c k pos =>
      cases c
      case str j =>
        simp only [ckE] at h
        have := of_decide_eq_true h
        subst this
        have p : PE X (.Constant (.str i) k pos) (tE X.K W (evE C (.str i))) := sim_c pe_str fun _ _ => .str i
        exact ⟨p, fun _ => ptOf p⟩
      all_goals simp [ckE] at h
    all_goals simp [ckE] at h
  | .bl i, ex, X, ct, W, G, h => by
    cases ex
    case Constant c k pos =>
      cases c
      case bool j =>
        simp only [ckE] at h
        have := of_decide_eq_true h
        subst this
        have p : PE X (.Constant (.bool i) k pos) (tE X.K W (evE C (.bl i))) := sim_c pe_bl fun _ _ => .bl i
        exact ⟨p, fun _ => ptOf p⟩
      all_goals simp [ckE] at h
    all_goals simp [ckE] at h
  | .non, ex, X, ct, W, G, h => by
    cases ex
    case Constant c k pos =>
      cases c
      case none =>
        have p : PE X (.Constant .none k pos) (tE X.K W (evE C .non)) := sim_c pe_non fun _ _ => .non
        exact ⟨p, fun _ => ptOf p⟩
      all_goals simp [ckE] at h
    all_goals simp [ckE] at h
  | .glob y v, ex, X, ct, W, G, h => by
    cases ex
    case Name x pos =>
      simp only [ckE, Bool.and_eq_true] at h
      have := of_decide_eq_true h.1.1.1
      subst this
      obtain ⟨q, hq, hq2⟩ := List.any_eq_true.mp h.2
      have h2 := Bool.and_eq_true_iff.mp hq2
      have e1 := of_decide_eq_true h2.1
      have e2 := of_decide_eq_true h2.2
      obtain ⟨u, w, hm, hr, hp⟩ := G.globs q hq
      rw [e1] at hm
      rw [e2] at hp
      have p : PE X (.Name y pos) (tE X.K W (evE C (.glob y v))) := sim_c (pe_glob (G.gl h.1.1.2) hm hr (dbg1 h.1.2).1) hp
      exact ⟨p, fun _ => ptOf p⟩
    all_goals simp [ckE] at h
  | .bin new op a b, ex, X, ct, W, G, h => by
    cases ex
    case BinOp l o r pos =>
      simp only [ckE, Bool.and_eq_true] at h
      obtain ⟨⟨⟨⟨⟨h1, h2⟩, h3⟩, h4⟩, h5⟩, h6⟩ := h
      have := of_decide_eq_true h1
      subst this
      have p : PE X (.BinOp l op r pos) (tE X.K W (evE C (.bin new op a b))) := sim_bin h2 (soundE a l G h4).1 (soundE b r G h6).1
      exact ⟨p, fun _ => ptOf p⟩
    all_goals simp [ckE] at h
  | .neg a, ex, X, ct, W, G, h => by
    cases ex
    case UnaryOp o e pos =>
      cases o
      case USub =>
        simp only [ckE, Bool.and_eq_true] at h
        have p : PE X (.UnaryOp .USub e pos) (tE X.K W (evE C (.neg a))) := sim_neg (soundE a e G h.2).1
        exact ⟨p, fun _ => ptOf p⟩
      all_goals simp [ckE] at h
    all_goals simp [ckE] at h
  | .not a, ex, X, ct, W, G, h => by
    cases ex
    case UnaryOp o e pos =>
      cases o
      case Not =>
        simp only [ckE, Bool.and_eq_true] at h
        exact ⟨sim_not (soundE a e G h.2).1, fun ht => sim_notT ((soundE a e G h.2).2 (by simpa [tst] using ht))⟩
      all_goals simp [ckE] at h
    all_goals simp [ckE] at h
  | .bop op es, ex, X, ct, W, G, h => by
    cases ex
    case BoolOp o xs pos =>
      simp only [ckE, Bool.and_eq_true] at h
      have := of_decide_eq_true h.1
      subst this
      have := soundB op es xs pos G h.2
      exact ⟨this.1, fun ht => (this.2 (by simpa [tst] using ht)).pt⟩
    all_goals simp [ckE] at h
  | .cmp op a b, ex, X, ct, W, G, h => by
    cases ex
    case Compare l os rs pos =>
      match os, rs, h with
      | [o], [r], h =>
        simp only [ckE, Bool.and_eq_true] at h
        obtain ⟨⟨⟨⟨h1, h2⟩, h3⟩, h4⟩, h5⟩ := h
        have := of_decide_eq_true h1
        subst this
        have q := sim_cmp (op := op) (pos := pos) G.units (soundE a l G h3).1 (soundE b r G h5).1 (head_mark h4 op)
        exact ⟨q.1, fun _ => q.2⟩
      | [], _, h => simp [ckE] at h
      | _ :: _ :: _, [], h => simp [ckE] at h
      | _ :: _ :: _, _ :: _, h => simp [ckE] at h
      | [_], [], h => simp [ckE] at h
      | [_], _ :: _ :: _, h => simp [ckE] at h
    all_goals simp [ckE] at h
  | .chain o1 o2 a b c, ex, X, ct, W, G, h => by
    cases ex
    case Compare l os rs pos =>
      match os, rs, h with
      | [p1, p2], [m, r], h =>
        simp only [ckE, Bool.and_eq_true] at h
        obtain ⟨⟨⟨⟨⟨⟨⟨h1, h2⟩, h3⟩, h4⟩, h5⟩, h6⟩, h7⟩, h8⟩ := h
        have := of_decide_eq_true h1
        subst this
        have := of_decide_eq_true h2
        subst this
        have q := sim_chain (o1 := o1) (o2 := o2) (pos := pos) G.units (soundE a l G h4).1 (soundE b m G h6).1 (soundE c r G h8).1 (head_mark h7 o2)
        exact ⟨q.1, fun _ => q.2⟩
      | [], _, h => simp [ckE] at h
      | [_], _, h => simp [ckE] at h
      | _ :: _ :: _ :: _, _, h => simp [ckE] at h
      | [_, _], [], h => simp [ckE] at h
      | [_, _], [_], h => simp [ckE] at h
      | [_, _], _ :: _ :: _ :: _, h => simp [ckE] at h
    all_goals simp [ckE] at h
  | .ife c a b, ex, X, ct, W, G, h => by
    cases ex
    case IfExp t l r pos =>
      simp only [ckE, Bool.and_eq_true] at h
      obtain ⟨⟨⟨⟨⟨⟨h1, h2⟩, h3⟩, h4⟩, h5⟩, h6⟩, h7⟩ := h
      exact ⟨sim_ife ((soundE c t G h2).2 h3) (soundE a l G h5).1 (soundE b r G h7).1, fun ht => by simp [tst] at ht⟩
    all_goals simp [ckE] at h
  | .tup es, ex, X, ct, W, G, h => by
    cases ex
    case Tuple xs k pos =>
      simp only [ckE] at h
      have p : PE X (.Tuple xs k pos) (tE X.K W (evE C (.tup es))) := sim_tup (soundEs es xs G h)
      exact ⟨p, fun _ => ptOf p⟩
    all_goals simp [ckE] at h
  | .lst new es, ex, X, ct, W, G, h => by
    cases ex
    case List xs pos =>
      simp only [ckE] at h
      have p : PE X (.List xs pos) (tE X.K W (evE C (.lst new es))) := sim_lst (soundEs es xs G h)
      exact ⟨p, fun _ => ptOf p⟩
    all_goals simp [ckE] at h
  | .ix a b, ex, X, ct, W, G, h => by
    cases ex
    case Subscript l r pos =>
      simp only [ckE, Bool.and_eq_true] at h
      have p : PE X (.Subscript l r pos) (tE X.K W (evE C (.ix a b))) := sim_ix (soundE a l G h.1.1.2).1 (soundE b r G h.2).1 (head_ix h.1.2)
      exact ⟨p, fun _ => ptOf p⟩
    all_goals simp [ckE] at h
  | .sl new a lo hi, ex, X, ct, W, G, h => by
    cases ex
    case Subscript l r pos =>
      match r, h with
      | .Slice x y none p2, h =>
        simp only [ckE, Bool.and_eq_true] at h
        have p : PE X (.Subscript l (.Slice x y none p2) pos) (tE X.K W (evE C (.sl new a lo hi))) := sim_sl (soundE a l G h.1.1.2).1 (soundO lo x G h.1.2) (soundO hi y G h.2)
        exact ⟨p, fun _ => ptOf p⟩
      | .Slice x y (some _) p2, h => simp [ckE] at h
      | .BoolOp .., h | .NamedExpr .., h | .BinOp .., h | .UnaryOp .., h | .Lambda .., h | .IfExp .., h | .Dict .., h | .Set .., h | .ListComp .., h | .SetComp .., h | .DictComp .., h | .GeneratorExp .., h | .Await .., h | .Yield .., h | .YieldFrom .., h | .Compare .., h | .Call .., h | .FormattedValue .., h | .JoinedStr .., h | .Constant .., h | .Attribute .., h | .Subscript .., h | .Starred .., h | .Name .., h | .List .., h | .Tuple .., h => simp [ckE] at h
    all_goals simp [ckE] at h
  | .rev new a, ex, X, ct, W, G, h => by
    cases ex
    case Subscript l r pos =>
      simp only [ckE, Bool.and_eq_true] at h
      obtain ⟨k, p1, p2, p3, rfl⟩ := revStep_of h.2
      have p : PE X (.Subscript l (.Slice none none (some (.UnaryOp .USub (.Constant (.int 1) k p1) p2)) p3) pos) (tE X.K W (evE C (.rev new a))) := sim_rev (soundE a l G h.1.2).1
      exact ⟨p, fun _ => ptOf p⟩
    all_goals simp [ckE] at h
  | .mth new m o es, ex, X, ct, W, G, h => by
    cases ex
    case Call fn xs kws pos =>
      cases fn
      case Attribute ob x ap =>
        cases kws with
        | nil =>
          simp only [ckE, Bool.and_eq_true] at h
          obtain ⟨⟨⟨⟨⟨⟨⟨h1, h2⟩, h3⟩, h4⟩, h5⟩, h6⟩, h7⟩, h8⟩ := h
          have := of_decide_eq_true h2
          subst this
          have p : PE X (.Call (.Attribute ob (mtName m : Str) ap) xs [] pos) (tE X.K W (evE C (.mth new m o es))) := sim_mth (soundE o ob G h5).1 h3 (soundEs es xs G h8) (ckEs_ok h8) h6 (of_decide_eq_true h7) (esNil h8)
          exact ⟨p, fun _ => ptOf p⟩
        | cons _ _ => simp [ckE] at h
      all_goals simp [ckE] at h
    all_goals simp [ckE] at h
  | .call f m es, ex, X, ct, W, G, h => by
    cases ex
    case Call fn xs kws pos =>
      cases fn
      case Name x p0 =>
        cases kws with
        | nil =>
          simp only [ckE, Bool.and_eq_true] at h
          obtain ⟨⟨⟨⟨⟨⟨h1, h2⟩, h3⟩, h4⟩, h5⟩, h6⟩, h7⟩ := h
          have := of_decide_eq_true h2
          subst this
          obtain ⟨q, hq, hq2⟩ := List.any_eq_true.mp h5
          have e1 := of_decide_eq_true hq2
          have D := G.defs q hq
          rw [e1] at D
          have p : PE X (.Call (.Name f p0) xs [] pos) (tE X.K W (evE C (.call f m es))) := sim_call D (G.room h1) (G.gl h3) h4 G.takes (soundEs es xs G h7) (ckEs_ok h7) (nonNil_of h7 h6)
          exact ⟨p, fun _ => ptOf p⟩
        | cons _ _ => simp [ckE] at h
      all_goals simp [ckE] at h
    all_goals simp [ckE] at h
  | .bi new b es, ex, X, ct, W, G, h => by
    cases ex
    case Call fn xs kws pos =>
      cases fn
      case Name x p0 =>
        cases kws with
        | nil =>
          simp only [ckE, Bool.and_eq_true] at h
          obtain ⟨⟨⟨⟨⟨⟨h1, h2⟩, h3⟩, h4⟩, h5⟩, h6⟩, h7⟩ := h
          have := of_decide_eq_true h2
          subst this
          have p : PE X (.Call (.Name (biName b) p0) xs [] pos) (tE X.K W (evE C (.bi new b es))) := sim_bi (G.calm h1) (G.gl h3) (G.free h5) (soundEs es xs G h7) (ckEs_ok h7) (nonNil_of h7 h6)
          exact ⟨p, fun _ => ptOf p⟩
        | cons _ _ => simp [ckE] at h
      all_goals simp [ckE] at h
    all_goals simp [ckE] at h
  | .isin a k, ex, X, ct, W, G, h => by
    cases ex
    case Call fn xs kws pos =>
      cases fn
      case Name x p0 =>
        cases kws with
        | nil =>
          match xs, h with
          | [e, y], h =>
            cases y
            case Name y q0 =>
              simp only [ckE, Bool.and_eq_true] at h
              obtain ⟨⟨⟨⟨⟨⟨⟨⟨h1, h2⟩, h3⟩, h4⟩, h5⟩, h6⟩, h7⟩, h8⟩, h9⟩ := h
              have := of_decide_eq_true h1
              subst this
              have := of_decide_eq_true h4
              subst this
              have p : PE X (.Call (.Name "isinstance" p0) [e, .Name (kdName k : Str) q0] [] pos) (tE X.K W (evE C (.isin a k))) := sim_isin (G.gl h2) (G.free h3) (G.gl h5) (G.free h7) h6 (soundE a e G h9).1 h8
              exact ⟨p, fun _ => ptOf p⟩
            all_goals simp [ckE] at h
          | [], h => simp [ckE] at h
          | [_], h => simp [ckE] at h
          | _ :: _ :: _ :: _, h => simp [ckE] at h
        | cons _ _ => simp [ckE] at h
      all_goals simp [ckE] at h
    all_goals simp [ckE] at h
  | .lrange new a b, ex, X, ct, W, G, h => by
    cases ex
    case Call fn xs kws pos =>
      cases fn
      case Name x p0 =>
        cases kws with
        | nil =>
          match xs, h with
          | [r], h =>
            cases r
            case Call fn2 ys kws2 pos2 =>
              cases fn2
              case Name y q0 =>
                cases kws2 with
                | nil =>
                  match ys, h with
                  | [e1, e2], h =>
                    simp only [ckE, Bool.and_eq_true] at h
                    obtain ⟨⟨⟨⟨⟨⟨⟨⟨⟨⟨h1, h2⟩, h3⟩, h4⟩, h5⟩, h6⟩, h7⟩, h8⟩, h9⟩, h10⟩, h11⟩ := h
                    have := of_decide_eq_true h2
                    subst this
                    have := of_decide_eq_true h5
                    subst this
                    have p : PE X (.Call (.Name "list" p0) [.Call (.Name "range" q0) [e1, e2] [] pos2] [] pos) (tE X.K W (evE C (.lrange new a b))) := sim_lrange (G.calm h1) (G.gl h3) (G.free h4) (G.gl h6) (G.free h7) (soundE a e1 G h9).1 (soundE b e2 G h11).1 h8 h10
                    exact ⟨p, fun _ => ptOf p⟩
                  | [], h => simp [ckE] at h
                  | [_], h => simp [ckE] at h
                  | _ :: _ :: _ :: _, h => simp [ckE] at h
                | cons _ _ => simp [ckE] at h
              all_goals simp [ckE] at h
            all_goals simp [ckE] at h
          | [], h => simp [ckE] at h
          | _ :: _ :: _, h => simp [ckE] at h
        | cons _ _ => simp [ckE] at h
      all_goals simp [ckE] at h
    all_goals simp [ckE] at h
  | .lc new own tg it ifs e, ex, X, ct, W, G, h => by
    cases ex
    case ListComp elt gens scope pos =>
      match gens, h with
      | [⟨t, iter, fs, k⟩], h =>
        simp only [ckE, Bool.and_eq_true] at h
        obtain ⟨⟨⟨⟨⟨⟨⟨⟨⟨h1, h2⟩, h3⟩, h4⟩, h5⟩, h6⟩, h7⟩, h8⟩, h9⟩, h10⟩ := h
        have := of_decide_eq_true h2
        subst this
        have bk : BlkOk X.N X.env.scope scope (ownP ct.N own) := by
          rw [G.N, G.sc]
          exact blkOk_by h3
        have hi := soundI it iter (tg := t) G h6
        have e1 : ∀ (s : Shared) (H : Hp) (c : Addr) (cl : List (Str × Addr)) (fp : List Addr), PG (X.blk s H scope (compEnvC scope cl c X.env) fp) t (gTg X.K tg) := fun s H c cl fp => (G.blk bk.uniq s H cl c fp).tg h5
        have e2 : ∀ (s : Shared) (H : Hp) (c : Addr) (cl : List (Str × Addr)) (fp : List Addr), PTs (X.blk s H scope (compEnvC scope cl c X.env) fp) fs (tG X.K relB F0 (evT C ifs)) := fun s H c cl fp => soundT ifs fs (G.blk bk.uniq s H cl c fp) h7 h8
        have e3 : ∀ (s : Shared) (H : Hp) (c : Addr) (cl : List (Str × Addr)) (fp : List Addr), PE (X.blk s H scope (compEnvC scope cl c X.env) fp) elt (tE X.K F0 (evE C e)) := fun s H c cl fp => (soundE e elt (G.blk bk.uniq s H cl c fp) h10).1
        have p : PE X (.ListComp elt [⟨t, iter, fs, 0⟩] scope pos) (tE X.K W (evE C (.lc new own tg it ifs e))) := by
          refine ⟨fun pins s σ H Q I q => ?_⟩
          refine (pe_lc (G.calm h1) G.nd hi.1 bk e1 e2 e3 hi.2).run pins s σ H Q I ?_
          rw [ownP_snd]
          refine tLc_of ?_ (tgSub_of h4) q
          rw [I.len, G.N]
          exact (show tgIn (ctBlk ct scope).N.length tg from ckTg_in h5)
        exact ⟨p, fun _ => ptOf p⟩
      | [], h => simp [ckE] at h
      | _ :: _ :: _, h => simp [ckE] at h
    all_goals simp [ckE] at h
theorem soundEs : ∀ (es : Es) (xs : List Expr) {X : Cx} {ct : Ct} {W : WX}, Good X g ct n C W → ckEs g ct es xs = true → PA X xs (tA X.K W (evEs C es))
  | .nil, [], X, ct, W, G, h => sim_nil
  | .cons e es, x :: xs, X, ct, W, G, h => by
    simp only [ckEs, Bool.and_eq_true] at h
    exact sim_cons (soundE e x G h.1.2).1 (soundEs es xs G h.2) (head_star h.1.1 xs X.env)
  | .nil, _ :: _, X, ct, W, G, h => by simp [ckEs] at h
  | .cons _ _, [], X, ct, W, G, h => by simp [ckEs] at h
theorem soundO : ∀ (o : Oe) (x : Option Expr) {X : Cx} {ct : Ct} {W : WX}, Good X g ct n C W → ckO g ct o x = true → PO X x (tG X.K relO W (evO C o))
  | .none, none, X, ct, W, G, h => sim_oNone
  | .some e, some x, X, ct, W, G, h => by
    simp only [ckO, Bool.and_eq_true] at h
    exact sim_oSome (soundE e x G h.2).1
  | .none, some _, X, ct, W, G, h => by simp [ckO] at h
  | .some _, none, X, ct, W, G, h => by simp [ckO] at h
theorem soundB : ∀ (op : BoolOp) (es : Es) (xs : List Expr) (pos : Pos) {X : Cx} {ct : Ct} {W : WX}, Good X g ct n C W → ckEs g ct es xs = true → PE X (.BoolOp op xs pos) (tE X.K W (evB C op es)) ∧ (tstAll es = true → PW X (.BoolOp op xs pos) (tT X.K W (evB C op es)))
  | op, .nil, xs, pos, X, ct, W, G, h => by
    have no : ∀ σ H Q, ¬ tE X.K W (evB C op .nil) σ H Q := fun σ H Q q => by
      obtain ⟨ρ, env, st, rE, rS, p⟩ := q
      exact p.elim
    refine ⟨pe_no no, fun _ => ⟨fun _ _ _ σ H Q _ q => ?_⟩⟩
    obtain ⟨ρ, env, st, rE, rS, p⟩ := q
    exact p.elim
  | op, .cons e .nil, xs, pos, X, ct, W, G, h => by
    match xs, h with
    | [x], h =>
      simp only [ckEs, Bool.and_eq_true] at h
      have s := soundE e x G h.1.2
      refine ⟨pe_one s.1, fun ht => ?_⟩
      have ht' : tst e = true := by simpa [tstAll] using ht
      cases op with
      | And => exact pw_and1 (s.2 ht')
      | Or => exact pw_or1 (s.2 ht')
    | [], h => simp [ckEs] at h
    | _ :: _ :: _, h => simp [ckEs] at h
  | op, .cons e (.cons e2 es), xs, pos, X, ct, W, G, h => by
    match xs, h with
    | [], h => simp [ckEs] at h
    | [_], h => simp [ckEs] at h
    | x :: y :: xs, h =>
      simp only [ckEs, Bool.and_eq_true] at h
      have s := soundE e x G h.1.2
      have r := soundB op (.cons e2 es) (y :: xs) pos G (by simp only [ckEs, Bool.and_eq_true]; exact h.2)
      have eB : evB C op (.cons e (.cons e2 es)) = fun env => bnd (bnd (evE C e env) asBl) fun k => if k = goOn op then evB C op (.cons e2 es) env else ret (.bl k) := by
        funext env
        rw [evB]
      rw [eB]
      refine ⟨?_, fun ht => ?_⟩
      · cases op with
        | And =>
          refine PE.imp (pe_and s.1 r.1) fun σ H Q q => ?_
          refine tT_of (tT_bnd q fun b H1 h1 => ?_)
          cases b with
          | true => exact h1
          | false => exact tE_ret h1 fun _ => .bl _
        | Or =>
          refine PE.imp (pe_or s.1 r.1) fun σ H Q q => ?_
          refine tT_of (tT_bnd q fun b H1 h1 => ?_)
          cases b with
          | false => exact h1
          | true => exact tE_ret h1 fun _ => .bl _
      · have ht' : tst e = true ∧ tstAll (.cons e2 es) = true := by
          simpa [tstAll] using ht
        have q1 : ∀ {σ : L2.St} {H : Hp} {Q : Bool → Hp → Prop}, tT X.K W (fun env => bnd (bnd (evE C e env) asBl) fun k => if k = goOn op then evB C op (.cons e2 es) env else ret (.bl k)) σ H Q → tG X.K relB W (fun env => bnd (bnd (evE C e env) asBl) fun k => bnd (if k = goOn op then evB C op (.cons e2 es) env else ret (.bl k)) asBl) σ H Q := fun q => by
          have e3 : (fun env => bnd (bnd (bnd (evE C e env) asBl) fun k => if k = goOn op then evB C op (.cons e2 es) env else ret (.bl k)) asBl) = fun env => bnd (bnd (evE C e env) asBl) fun k => bnd (if k = goOn op then evB C op (.cons e2 es) env else ret (.bl k)) asBl := by
            funext env
            rw [bnd_assoc]
          rw [← e3]
          exact q
        cases op with
        | And =>
          refine PW.imp (pw_and (s.2 ht'.1) (r.2 ht'.2)) fun σ H Q q => ?_
          refine tT_bnd (q1 q) fun b H1 h1 => ?_
          cases b with
          | true => exact h1
          | false => exact tT_ret h1
        | Or =>
          refine PW.imp (pw_or (s.2 ht'.1) (r.2 ht'.2)) fun σ H Q q => ?_
          refine tT_bnd (q1 q) fun b H1 h1 => ?_
          cases b with
          | false => exact h1
          | true => exact tT_ret h1
theorem soundT : ∀ (es : Es) (xs : List Expr) {X : Cx} {ct : Ct} {W : WX}, Good X g ct n C W → ckEs g ct es xs = true → tst1 es = true → PTs X xs (tG X.K relB W (evT C es))
  | .nil, [], X, ct, W, G, h, ht => by
    refine ⟨fun pins s σ H Q I q => pts_nil.run pins s σ H Q I ?_⟩
    obtain ⟨ρ, env, st, rE, rS, p⟩ := q
    exact p ρ true H (.refl _ _) rS rfl
  | .cons e .nil, [x], X, ct, W, G, h, ht => by
    simp only [ckEs, Bool.and_eq_true] at h
    exact pts_one ((soundE e x G h.1.2).2 ht)
  | .nil, _ :: _, X, ct, W, G, h, ht => by simp [ckEs] at h
  | .cons _ .nil, [], X, ct, W, G, h, ht => by simp [ckEs] at h
  | .cons _ .nil, _ :: _ :: _, X, ct, W, G, h, ht => by simp [ckEs] at h
  | .cons _ (.cons _ _), _, X, ct, W, G, h, ht => by simp [tst1] at ht
theorem soundI : ∀ (it : It) (x : Expr) {tg : Expr} {X : Cx} {ct : Ct} {W : WX}, Good X g ct n C W → ckI g ct it x = true → PI X tg x (tI X.K W (evI C it)) ∧ ∀ v, foldedSetIterable x X.env v = pure v
  | .seq e, x, tg, X, ct, W, G, h => by
    simp only [ckI, Bool.and_eq_true] at h
    exact ⟨sim_seq (soundE e x G h.2).1, head_set h.1 X.env⟩
  | .rng1 a, x, tg, X, ct, W, G, h => by
    cases x
    case Call fn xs kws pos =>
      cases fn
      case Name y q0 =>
        match xs, kws, h with
        | [e], [], h =>
          simp only [ckI, Bool.and_eq_true] at h
          obtain ⟨⟨⟨⟨h1, h2⟩, h3⟩, h4⟩, h5⟩ := h
          have := of_decide_eq_true h1
          subst this
          exact ⟨sim_rng1 (G.gl h2) (G.free h3) (soundE a e G h5).1 (head_star h4 [] X.env), fun _ => rfl⟩
        | [_], _ :: _, h => simp [ckI] at h
        | [], _, h => simp [ckI] at h
        | _ :: _ :: _, _, h => simp [ckI] at h
      all_goals simp [ckI] at h
    all_goals simp [ckI] at h
  | .rng2 a b, x, tg, X, ct, W, G, h => by
    cases x
    case Call fn xs kws pos =>
      cases fn
      case Name y q0 =>
        match xs, kws, h with
        | [e1, e2], [], h =>
          simp only [ckI, Bool.and_eq_true] at h
          obtain ⟨⟨⟨⟨⟨⟨h1, h2⟩, h3⟩, h4⟩, h5⟩, h6⟩, h7⟩ := h
          have := of_decide_eq_true h1
          subst this
          have st2 := head_star h6 [] X.env
          exact ⟨sim_rng2 (G.gl h2) (G.free h3) (soundE a e1 G h5).1 (soundE b e2 G h7).1 (by rw [head_star h4 [e2] X.env, st2]; rfl) st2, fun _ => rfl⟩
        | [_, _], _ :: _, h => simp [ckI] at h
        | [], _, h => simp [ckI] at h
        | [_], _, h => simp [ckI] at h
        | _ :: _ :: _ :: _, _, h => simp [ckI] at h
      all_goals simp [ckI] at h
    all_goals simp [ckI] at h
  | .enum e, x, tg, X, ct, W, G, h => by simp [ckI] at h
end
end
end Rc
/-! Rc9: statements: how they run, the looks, and that what is let by runs so. -/
namespace Rc
open PySem L2

/-! ### texts and runs -/
mutual
inductive S where
  | asg (tg : Tg) (e : E)
  | sset (o i e : E)
  | expr (e : E)
  | ret (e : E)
  | retN
  | iff (c : E) (a b : Ss)
  | forS (tg : Tg) (it : It) (body : Ss)
  | pass
  | raiseS (c : Str) (m : Str)
  | tryS (body : Ss) (hs : Hs)
inductive Ss where
  | nil
  | cons (s : S) (ss : Ss)
inductive Hs where
  | nil
  | cons (c : Str) (b : Ss) (hs : Hs)
end
inductive Fl where
  | nx (env : Env)
  | rt (v : Val)
inductive RS where
  | ok (f : Fl) (st : Store)
  | exc (c : Str) (row : Option Int) (env : Env) (st : Store)
  | stuck
@[simp] def lift {α : Type} (env : Env) (m : M α) (k : α → Store → RS) : Store → RS := fun st => match m st with
  | .ok a st' => k a st'
  | .exc c r st' => .exc c r env st'
  | .stuck => .stuck
@[simp] def optS {α : Type} (o : Option α) (k : α → RS) : RS := match o with
  | some a => k a
  | none => .stuck
/-- o[i] = v -/
def setAt (st : Store) (l : Nat) (k : Int) (v : Val) : Option Ob → Option Store
  | some (.lst xs) => (L2.ixN xs.length k).map fun j => st.set l (.lst (xs.set j v))
  | _ => none
def setOp (st : Store) : Val → Val → Val → Option Store
  | .loc l, .int k, v => setAt st l k v st[l]?
  | _, _, _ => none
noncomputable def forRaw (body : Env → Store → RS) (tg : Tg) (still : Store → Prop) : List Val → Env → Store → RS
  | [], env, st => open Classical in if still st then .ok (.nx env) st else .stuck
  | x :: xs, env, st => open Classical in if still st then match assignTg tg x env with
      | some env' => match body env' st with
        | .ok (.nx env2) st2 => forRaw body tg still xs env2 st2
        | r => r
      | none => .stuck
    else .stuck
theorem forEx : ∃ f : (Env → Store → RS) → Tg → (Store → Prop) → List Val → Env → Store → RS, f = forRaw := ⟨_, rfl⟩
noncomputable def forLoop : (Env → Store → RS) → Tg → (Store → Prop) → List Val → Env → Store → RS := Classical.choose forEx
theorem forLoop_eq : forLoop = forRaw := Classical.choose_spec forEx
theorem forLoop_nil {body : Env → Store → RS} {tg : Tg} {still : Store → Prop} {env : Env} {st : Store} (h : still st) : forLoop body tg still [] env st = .ok (.nx env) st := by
  rw [forLoop_eq]
  unfold forRaw
  rw [if_pos h]
theorem forLoop_cons {body : Env → Store → RS} {tg : Tg} {still : Store → Prop} {x : Val} {zs : List Val} {env env' : Env} {st : Store} (h : still st) (e : assignTg tg x env = some env') : forLoop body tg still (x :: zs) env st = match body env' st with
    | .ok (.nx env2) st2 => forLoop body tg still zs env2 st2
    | r => r := by
  rw [forLoop_eq]
  conv => lhs; unfold forRaw
  rw [if_pos h, e]
/-- is the class c one that the clause h takes? -/
def subOf (c h : Str) : Bool := decide (c = h) || decide (h = ("ClayError" : Str))
section
variable (C : Str → List Val → M Val) (xs : List Str)
mutual
noncomputable def exS : S → Env → Store → RS
  | .asg tg e, env => lift env (evE C e env) fun v st => optS (assignTg tg v env) fun env' => .ok (.nx env') st
  | .sset o i e, env => lift env (evE C e env) fun v => lift env (evE C o env) fun ov => lift env (evE C i env) fun iv st => optS (setOp st ov iv v) fun st' => .ok (.nx env) st'
  | .expr e, env => lift env (evE C e env) fun _ st => .ok (.nx env) st
  | .ret e, env => lift env (evE C e env) fun v st => .ok (.rt v) st
  | .retN, _ => fun st => .ok (.rt .non) st
  | .iff c a b, env => lift env (bnd (evE C c env) asBl) fun k => if k = true then exSs a env else exSs b env
  | .forS tg it body, env => lift env (evI C it env) fun is => forLoop (exSs body) tg (Still is) is.xs env
  | .pass, env => fun st => .ok (.nx env) st
  | .raiseS c _, env => fun st => .exc c none env st
  | .tryS body hs, env => fun st => match exSs body env st with
    | .exc c row env' st' => if xs.contains c = true then exHs c row hs env' st' else .stuck
    | r => r
noncomputable def exSs : Ss → Env → Store → RS
  | .nil, env => fun st => .ok (.nx env) st
  | .cons s ss, env => fun st => match exS s env st with
    | .ok (.nx env') st' => exSs ss env' st'
    | r => r
/-- the clauses, one after the other -/
@[simp] noncomputable def exHs (c : Str) (row : Option Int) : Hs → Env → Store → RS
  | .nil, env => fun st => .exc c row env st
  | .cons h b hs, env => fun st => if subOf c h = true then (match exSs b env st with
    | .exc _ _ _ _ => .stuck
    | r => r) else exHs c row hs env st
end
end
/-- a def: its parameters' count, its names' count, its body -/
structure Df where
  ps : Nat
  ns : Nat
  body : Ss
@[simp] def startEnv (n : Nat) (args : List Val) : Env := args.map some ++ List.replicate (n - args.length) none
@[simp] noncomputable def runDf (C : Str → List Val → M Val) (xs : List Str) (d : Df) (args : List Val) : M Val := fun st =>
  if args.length = d.ps then match exSs C xs d.body (startEnv d.ns args) st with
    | .ok (.rt v) st' => .ok v st'
    | .ok (.nx _) st' => .ok .non st'
    | .exc c row _ st' => .exc c row st'
    | .stuck => .stuck
  else .stuck
noncomputable def callF (defs : List (Str × Df)) (xs : List Str) : Nat → Str → List Val → M Val
  | 0 => fun _ _ => stuck
  | n + 1 => fun f args => match defs.lookup f with
    | some d => runDf (callF defs xs n) xs d args
    | none => stuck

/-! ### the looks -/
structure SigS extends Sig where
  excs : List Str
def ckHdl (c : Str) : Expr → Bool
  | .Name x _ => decide (x = c)
  | _ => false
/-- a comprehension that is stored to a name at once -/
def swapB (ct : Ct) (scope : Scope) (y : Str) (py pos : Pos) : Bool :=
  decide (ct.sc.names.lookup y = some .local) && (py.line == pos.line) && !(scope.names.any fun p => p.1 == y && (p.2 == .local || p.2 == .cell))
def plainVal : Expr → Bool
  | .ListComp .. | .Tuple .. => false
  | _ => true
/-- X('m') -/
def ckMade (ct : Ct) (xs : List Str) (c m : Str) : Expr → Bool
  | .Call (.Name x _) [.Constant (.str m') _ _] [] _ => ct.cal && decide (c = x) && decide (m = m') && isGl ct.sc x && noDbg x && xs.contains x
  | _ => false
theorem ckMade_of {ct : Ct} {xs : List Str} {c m : Str} {e : Expr} (h : ckMade ct xs c m e = true) : ∃ p j p2 pos, e = .Call (.Name c p) [.Constant (.str m) j p2] [] pos ∧ ct.cal = true ∧ isGl ct.sc c = true ∧ noDbg c = true ∧ c ∈ xs := by
  unfold ckMade at h
  split at h
  · simp only [Bool.and_eq_true] at h
    obtain ⟨⟨⟨⟨⟨h1, h2⟩, h3⟩, h4⟩, h5⟩, h6⟩ := h
    have := of_decide_eq_true h2
    subst this
    have := of_decide_eq_true h3
    subst this
    exact ⟨_, _, _, _, rfl, h1, h4, h5, List.contains_iff_mem.mp h6⟩
  · cases h
def ckRaise (g : SigS) (ct : Ct) (c m : Str) : Option Expr → Option Expr → Bool
  | some e, none => ckMade ct g.excs c m e
  | _, _ => false
section
variable (g : SigS)
mutual
def ckS (ct : Ct) : S → Stmt → Bool
  | .asg (.nm i) e, .Assign [.Name y py] v _ => ckName ct i (.Name y py) && okHead v && ckE g.toSig ct e v
  | .asg (.tup is) e, .Assign [.Tuple ts k p] v _ => ckTg ct (.tup is) (.Tuple ts k p) && okHead v && plainVal v && ckE g.toSig ct e v
  | .sset o i e, .Assign [.Subscript a b _] v _ => okHead v && ckE g.toSig ct e v && okHead a && ckE g.toSig ct o a && okHead b && ckE g.toSig ct i b
  | .expr e, .Expr v _ => okHead v && plainVal v && ckE g.toSig ct e v
  | .ret e, .Return (some v) _ => okHead v && ckE g.toSig ct e v
  | .retN, .Return none _ => true
  | .iff c a b, .If t x y _ => okHead t && tst c && ckE g.toSig ct c t && ckSs ct a x && ckSs ct b y
  | .forS tg it body, .For t x b [] _ => ct.cal && ckTg ct tg t && ckI g.toSig ct it x && ckSs ct body b
  | .pass, .Pass _ => true
  | .raiseS c m, .Raise ex cause _ => ckRaise g ct c m ex cause
  | .tryS body hs, .Try b (h :: hds) [] [] _ => ct.cal && ckSs ct body b && ckHs ct hs (h :: hds)
  | _, _ => false
def ckSs (ct : Ct) : Ss → List Stmt → Bool
  | .nil, [] => true
  | .cons s ss, x :: xs => ckS ct s x && ckSs ct ss xs
  | _, _ => false
def ckHs (ct : Ct) : Hs → List ExceptHandler → Bool
  | .nil, [] => true
  | .cons c b hs, .ExceptHandler (some (.Name x _)) none (y :: ys) _ :: hds => decide (x = c) && isGl ct.sc x && noDbg x && g.excs.contains x && ckSs { ct with cal := false } b (y :: ys) && ckHs ct hs hds
  | _, _ => false
end
end
end Rc
/-! Rc10: statements, by induction. -/
namespace Rc
open PySem L2

def PostS (K : PySem.W.Frag) (W : WX) (D : Ends) (n : Nat) (ρ : Pl) (H : Hp) : RS → Prop
  | .ok (.nx env') st' => ∀ ρ' σ' H', Ext ρ H ρ' H' → RelS K ρ' st' H' → RelE K ρ' H' env' σ' → σ'.length = n → D.nx σ' H'
  | .ok (.rt v) st' => ∀ ρ' w H', Ext ρ H ρ' H' → RelS K ρ' st' H' → Rep K ρ' H' v w → D.rt w H'
  | .exc c row env' st' => ∀ ρ' d σ' H', Ext ρ H ρ' H' → RelS K ρ' st' H' → RelE K ρ' H' env' σ' → σ'.length = n → ExcAt H' row d → W (.ref (He.ga K c)) d σ' H'
  | .stuck => False
def tS (K : PySem.W.Frag) (W : WX) (n : Nat) (m : Env → Store → RS) : TS := fun D σ H => σ.length = n ∧ ∃ ρ env st, RelE K ρ H env σ ∧ RelS K ρ st H ∧ PostS K W D n ρ H (m env st)
theorem PostS.later {K : PySem.W.Frag} {W : WX} {D : Ends} {n : Nat} {ρ ρ1 : Pl} {H H1 : Hp} {r : RS} (h : PostS K W D n ρ H r) (e : Ext ρ H ρ1 H1) : PostS K W D n ρ1 H1 r := by
  cases r with
  | ok f st =>
    cases f with
    | nx env => exact fun ρ' σ' H' e' => h ρ' σ' H' (e.trans e')
    | rt v => exact fun ρ' w H' e' => h ρ' w H' (e.trans e')
  | exc c row env st => exact fun ρ' d σ' H' e' => h ρ' d σ' H' (e.trans e')
  | stuck => exact h
/-- a run of an expression, then the rest of the statement -/
theorem PostS.lift {K : PySem.W.Frag} {α β : Type} {rel : Pl → Hp → α → β → Prop} {W : WX} {D : Ends} {σ : L2.St} {ρ : Pl} {H : Hp} {env : Env} {m : M α} {k : α → Store → RS} {st : Store} {Q : β → Hp → Prop} (rE : RelE K ρ H env σ)
    (h : PostS K W D σ.length ρ H (Rc.lift env m k st)) (f : ∀ a st1 ρ1 b H1, Ext ρ H ρ1 H1 → RelS K ρ1 st1 H1 → rel ρ1 H1 a b → PostS K W D σ.length ρ1 H1 (k a st1) → Q b H1) : Post K rel W σ ρ H Q (m st) := by
  unfold Rc.lift at h
  cases e : m st with
  | ok a st1 =>
    rw [e] at h
    exact fun ρ' w H' x s q => f a st1 ρ' w H' x s q (PostS.later h x)
  | exc c row st1 =>
    rw [e] at h
    exact fun ρ' d H' x s q => h ρ' d σ H' x s (rE.ext x) rfl q
  | stuck =>
    rw [e] at h
    exact h
theorem PostS.liftI {K : PySem.W.Frag} {W : WX} {D : Ends} {σ : L2.St} {ρ : Pl} {H : Hp} {env : Env} {m : M Items} {k : Items → Store → RS} {st : Store} {R' : L2.It → Hp → Prop} (rE : RelE K ρ H env σ)
    (h : PostS K W D σ.length ρ H (Rc.lift env m k st)) (f : ∀ is st1 ρ1 J H1, is.xs.length ≤ sizeLine → Ext ρ H ρ1 H1 → RelS K ρ1 st1 H1 → ItOk K ρ1 H1 is J → PostS K W D σ.length ρ1 H1 (k is st1) → R' J H1) : PostI K W σ ρ H R' (m st) := by
  unfold Rc.lift at h
  cases e : m st with
  | ok a st1 =>
    rw [e] at h
    exact fun hz ρ' J H' x s q => f a st1 ρ' J H' hz x s q (PostS.later h x)
  | exc c row st1 =>
    rw [e] at h
    exact fun ρ' d H' x s q => h ρ' d σ H' x s (rE.ext x) rfl q
  | stuck =>
    rw [e] at h
    exact h
theorem PostS.opt {K : PySem.W.Frag} {α : Type} {W : WX} {D : Ends} {n : Nat} {ρ : Pl} {H : Hp} {o : Option α} {k : α → RS} (h : PostS K W D n ρ H (optS o k)) : ∃ a, o = some a ∧ PostS K W D n ρ H (k a) := by
  cases o with
  | none => exact h.elim
  | some a => exact ⟨a, rfl, h⟩
theorem PS.impL {X : Cx} {e : Stmt} {t t' : TS} (h : PS X e t) (k : ∀ D σ H, t' D σ H → t D σ H) : PS X e t' := ⟨fun pins s σ H D I q => h.run pins s σ H D I (k D σ H q)⟩

structure GoodS (X : Cx) (g : SigS) (ct : Ct) (n : Nat) (C : Str → List Val → M Val) (W : WX) : Prop extends Good X g.toSig ct n C W where
  kind : X.env.scope.kind = .function
  own : PassesOwn (model X.prog X.w) X.A X.env X.xe
  stk : X.stack = X.env :: X.outer
  frm : X.env.frame = some X.env.locals
  exm : ∀ c ∈ g.excs, ∀ h ∈ g.excs, PySem.W.exmOne X.K (.ref (He.ga X.K c)) (.ref (He.ga X.K h)) = some (subOf c h)
  exc : ∀ c ∈ g.excs, X.mg c = some (.ref (He.ga X.K c)) ∧ ∀ (X' : Cx), X'.K = X.K → X'.mg = X.mg → Gl X' c → (c == ("__debug__" : Str)) = false → ∀ (m : Str) (j : Nat) (p p2 pos : Pos), PMk X' (.Call (.Name c p) [.Constant (.str m) j p2] [] pos) (fun _ H Q => Q (.ref (He.ga X.K c)) none H)
section
variable {g : SigS} {n : Nat} {C : Str → List Val → M Val} {X : Cx} {ct : Ct} {W : WX}
theorem GoodS.tr (G : GoodS X g ct n C W) {W' : WX} (pn : List (Addr × Obj)) (xe : Value → Shared → Prop) (tk : Takes (X.tr pn xe) W') (po : PassesOwn (model X.prog X.w) X.A X.env xe) : GoodS (X.tr pn xe) g ct n C W' where
  sc := G.sc
  N := G.N
  nd := G.nd
  stor := G.stor
  calm := G.calm
  room := G.room
  units := G.units
  takes := tk
  frees := G.frees
  globs := G.globs
  defs := G.defs
  kind := G.kind
  own := po
  stk := G.stk
  frm := G.frm
  exm := G.exm
  exc := G.exc
theorem GoodS.suite (G : GoodS X g ct n C W) (a : Addr) (pn : List (Addr × Obj)) : GoodS (X.suite a pn) g { ct with cal := false } n C F0 where
  sc := G.sc
  N := G.N
  nd := G.nd
  stor := G.stor
  calm := fun h => by cases h
  room := fun h => by cases h
  units := G.units
  takes := takes0
  frees := G.frees
  globs := G.globs
  defs := G.defs
  kind := G.kind
  own := PassesOwn.never
  stk := G.stk
  frm := G.frm
  exm := G.exm
  exc := G.exc
end
/-! ### rules -/
/-- every clause's class is known -/
def hsIn (xs : List Str) : Hs → Prop
  | .nil => True
  | .cons c _ hs => c ∈ xs ∧ hsIn xs hs
section
variable {g : SigS} {n : Nat} {C : Str → List Val → M Val} {X : Cx} {ct : Ct} {W : WX}
theorem sim_asg {tg : Tg} {st : Stmt} {m : Env → M Val} (h : PS X st (tAsg (tE X.K W m) (gTg X.K tg))) (hi : tgIn X.N.length tg) :
    PS X st (tS X.K W X.N.length fun env => lift env (m env) fun v st => optS (assignTg tg v env) fun env' => .ok (.nx env') st) := by
  refine PS.impL h fun D σ H q => ?_
  obtain ⟨hl, ρ, env, st, rE, rS, p⟩ := q
  rw [← hl] at p hi
  refine ⟨ρ, env, st, rE, rS, PostS.lift rE p fun v st1 ρ1 x H1 e1 s1 q1 p1 => ?_⟩
  obtain ⟨env', ea, p2⟩ := PostS.opt p1
  exact gTg_ok ea q1 (rE.ext e1) hi fun σ' rE' l' _ => p2 ρ1 σ' H1 (.refl _ _) s1 rE' l'
theorem set_S : PSet X (fun o i v H Q => ∃ (ρ : Pl) (st : Store) (ov iv vv : Val) (st' : Store), RelS X.K ρ st H ∧ Rep X.K ρ H ov o ∧ Rep X.K ρ H iv i ∧ Rep X.K ρ H vv v ∧ setOp st ov iv vv = some st' ∧ ∀ ρ' H', Ext ρ H ρ' H' → RelS X.K ρ' st' H' → Q H') := by
  intro pins s σ H o i v ov iv u Q I ro ri rv h
  obtain ⟨ρ, st, vo, vi, vv, st', rS, r1, r2, r3, e, q⟩ := h
  unfold setOp at e
  split at e
  · unfold setAt at e
    split at e
    · rename_i xs hl
      obtain ⟨j, ej, rfl⟩ := Option.map_eq_some_iff.mp e
      cases r1 with
      | @loc _ a h =>
        cases r2
        obtain ⟨u0, e1, e2⟩ := rS.at_ _ a _ h hl
        cases e2 with
        | @lst _ ws qw =>
          have z := rS.wrote (o := .lst (xs.set j vv)) h (.lst ((qw.set r3 j).ext0 (.wrote (.inl (List.mem_of_getElem? h)))))
          exact set_list pins s σ H _ _ _ ov iv u Q I ro ri rv ⟨a, ws, _, j, rfl, rfl, e1, by rw [← qw.length]; exact ej, q ρ _ z.2 z.1⟩
    · cases e
  · cases e
theorem sim_sset {o i v : Expr} {mo mi mv : Env → M Val} {pos p2 : Pos} (hv : PE X v (tE X.K W mv)) (ho : PE X o (tE X.K W mo)) (hi : PE X i (tE X.K W mi)) (hx : PlainIx i) (hsw : swapsWithSole [.Subscript o i p2] v pos.line X.env = pure false)
    (ha : ∀ v, assign (.Subscript o i p2) X.env v = (do
      let ov ← holding [v] (eval o X.env)
      let iv ← holding [v, ov] (eval i X.env)
      standAt p2
      holding [v, ov, iv] (setItem ov iv v)
      release [v, ov, iv] [])) :
    PS X (.Assign [.Subscript o i p2] v pos) (tS X.K W X.N.length fun env => lift env (mv env) fun v => lift env (mo env) fun ov => lift env (mi env) fun iv st => optS (setOp st ov iv v) fun st' => .ok (.nx env) st') := by
  refine PS.impL (ps_asg hv (pg_sub ho hi set_S ha) hsw rfl rfl) fun D σ H q => ?_
  obtain ⟨hl, ρ, env, st, rE, rS, p⟩ := q
  rw [← hl] at p
  refine ⟨ρ, env, st, rE, rS, PostS.lift rE p fun vv st1 ρ1 x H1 e1 s1 q1 p1 => ?_⟩
  refine ⟨ρ1, env, st1, rE.ext e1, s1, PostS.lift (rE.ext e1) p1 fun vo st2 ρ2 y H2 e2 s2 q2 p2 => ?_⟩
  refine ⟨ρ2, env, st2, (rE.ext e1).ext e2, s2, PostS.lift ((rE.ext e1).ext e2) p2 fun vi st3 ρ3 z H3 e3 s3 q3 p3 => ?_⟩
  obtain ⟨st', es, p4⟩ := PostS.opt p3
  exact ⟨ρ3, st3, vo, vi, vv, st', s3, q2.ext e3, q3, (q1.ext e2).ext e3, es, fun ρ' H' x s => p4 ρ' σ H' x s ((((rE.ext e1).ext e2).ext e3).ext x) rfl⟩
theorem sim_expr {v : Expr} {m : Env → M Val} {pos : Pos} (hv : PE X v (tE X.K W m)) (hs : swapsWith v none pos.line X.env = pure false) : PS X (.Expr v pos) (tS X.K W X.N.length fun env => lift env (m env) fun _ st => .ok (.nx env) st) := by
  refine PS.impL (ps_expr hv hs) fun D σ H q => ?_
  obtain ⟨hl, ρ, env, st, rE, rS, p⟩ := q
  rw [← hl] at p
  refine ⟨ρ, env, st, rE, rS, PostS.lift rE p fun vv st1 ρ1 x H1 e1 s1 q1 p1 => ?_⟩
  exact p1 ρ1 σ H1 (.refl _ _) s1 (rE.ext e1) rfl
theorem sim_ret {v : Expr} {m : Env → M Val} {pos : Pos} (hv : PE X v (tE X.K W m)) : PS X (.Return (some v) pos) (tS X.K W X.N.length fun env => lift env (m env) fun v st => .ok (.rt v) st) := by
  refine PS.impL (ps_ret hv) fun D σ H q => ?_
  obtain ⟨hl, ρ, env, st, rE, rS, p⟩ := q
  rw [← hl] at p
  refine ⟨ρ, env, st, rE, rS, PostS.lift rE p fun vv st1 ρ1 x H1 e1 s1 q1 p1 => ?_⟩
  exact p1 ρ1 x H1 (.refl _ _) s1 q1
theorem sim_if {c : Expr} {a b : List Stmt} {mc : Env → M Val} {ma mb : Env → Store → RS} {pos : Pos} (hc : PT X c (tT X.K W mc)) (ha : PSs X a (tS X.K W X.N.length ma)) (hb : PSs X b (tS X.K W X.N.length mb)) :
    PS X (.If c a b pos) (tS X.K W X.N.length fun env => lift env (bnd (mc env) asBl) fun k => if k = true then ma env else mb env) := by
  refine PS.impL (ps_if hc ha hb) fun D σ H q => ?_
  obtain ⟨hl, ρ, env, st, rE, rS, p⟩ := q
  have hl' := hl
  rw [← hl] at p
  refine ⟨ρ, env, st, rE, rS, PostS.lift rE p fun k st1 ρ1 k' H1 e1 s1 q1 p1 => ?_⟩
  have q1 : k = k' := q1
  subst q1
  rw [hl] at p1
  cases k with
  | true => exact ⟨hl', ρ1, env, st1, rE.ext e1, s1, p1⟩
  | false => exact ⟨hl', ρ1, env, st1, rE.ext e1, s1, p1⟩
theorem sim_pass {pos : Pos} : PS X (.Pass pos) (tS X.K W X.N.length fun env => fun st => .ok (.nx env) st) := by
  refine PS.impL ps_pass fun D σ H q => ?_
  obtain ⟨hl, ρ, env, st, rE, rS, p⟩ := q
  exact p ρ σ H (.refl _ _) rS rE hl
theorem sim_ssNil : PSs X [] (tS X.K W X.N.length fun env => fun st => .ok (.nx env) st) := by
  refine PSs.imp pss_nil fun D σ H q => ?_
  obtain ⟨hl, ρ, env, st, rE, rS, p⟩ := q
  exact p ρ σ H (.refl _ _) rS rE hl
theorem sim_ssCons {s : Stmt} {ss : List Stmt} {m ms : Env → Store → RS} (h1 : PS X s (tS X.K W X.N.length m)) (h2 : PSs X ss (tS X.K W X.N.length ms)) : PSs X (s :: ss) (tS X.K W X.N.length fun env => fun st => match m env st with
    | .ok (.nx env') st' => ms env' st'
    | r => r) := by
  refine PSs.imp (pss_cons h1 h2) fun D σ H q => ?_
  obtain ⟨hl, ρ, env, st, rE, rS, p⟩ := q
  refine ⟨hl, ρ, env, st, rE, rS, ?_⟩
  dsimp only at p
  cases e : m env st with
  | ok f st1 =>
    rw [e] at p
    cases f with
    | nx env1 => exact fun ρ1 σ1 H1 e1 s1 rE1 l1 => ⟨l1, ρ1, env1, st1, rE1, s1, PostS.later p e1⟩
    | rt v => exact p
  | exc c row env1 st1 => rw [e] at p; exact p
  | stuck => rw [e] at p; exact p
theorem sim_for {tgE iterE : Expr} {body : List Stmt} {tg : Tg} {mI : Env → M Items} {mb : Env → Store → RS} {pos : Pos} (hp : PassesOwn (model X.prog X.w) X.A X.env X.xe) (hc : X.calm = true) (hi : PI X tgE iterE (tI X.K W mI)) (hg : PG X tgE (gTg X.K tg)) (hb : PSs X body (tS X.K W X.N.length mb))
    (hs : ∀ x, foldedSetIterable iterE X.env x = pure x) (hin : tgIn X.N.length tg) :
    PS X (.For tgE iterE body [] pos) (tS X.K W X.N.length fun env => lift env (mI env) fun is => forLoop mb tg (Still is) is.xs env) := by
  refine PS.impL (ps_for hp hc hi hg hb hs) fun D σ H q => ?_
  obtain ⟨hl, ρ, env, st, rE, rS, p⟩ := q
  rw [← hl] at p
  refine ⟨ρ, env, st, rE, rS, PostS.liftI rE p fun is st1 ρ1 J H1 hz e1 s1 hJ p1 => ?_⟩
  rw [hl] at p1
  refine ⟨fun i m σ H => m = is.xs.length - i ∧ i ≤ is.xs.length ∧ σ.length = X.N.length ∧ ∃ ρ' env' st', Ext ρ1 H1 ρ' H ∧ RelE X.K ρ' H env' σ ∧ RelS X.K ρ' st' H ∧ PostS X.K W D X.N.length ρ' H (forLoop mb tg (Still is) (is.xs.drop i) env' st'), ⟨_, rfl, Nat.zero_le _, hl, ρ1, env, st1, .refl _ _, rE.ext e1, s1, p1⟩, fun i m σ2 H2 hW => ?_⟩
  obtain ⟨rfl, hi2, hl2, ρ2, env2, st2, e2, rE2, s2, p2⟩ := hW
  by_cases hlt : i < is.xs.length
  · right
    have hget : is.xs[i]? = some is.xs[i] := List.getElem?_eq_getElem hlt
    rw [List.drop_eq_getElem_cons hlt] at p2
    rw [forLoop_eq] at p2
    unfold forRaw at p2
    try rw [← forLoop_eq] at p2
    by_cases hst : Still is st2
    · rw [if_pos hst] at p2
      obtain ⟨hgo, hy⟩ := (hJ i ρ2 st2 H2 e2.toExt0 s2 hst).1 _ hget
      refine ⟨hgo, fun σ' H' => i + 1 ≤ is.xs.length ∧ σ'.length = X.N.length ∧ ∃ ρ' env' st', Ext ρ1 H1 ρ' H' ∧ RelE X.K ρ' H' env' σ' ∧ RelS X.K ρ' st' H' ∧ PostS X.K W D X.N.length ρ' H' (forLoop mb tg (Still is) (is.xs.drop (i + 1)) env' st'), fun σ' H' hN => ?_, fun x H3 hyl => ?_⟩
      · obtain ⟨a1, a2, a3⟩ := hN
        exact ⟨is.xs.length - (i + 1), by omega, rfl, a1, a2, a3⟩
      · obtain ⟨x3, s3, r3⟩ := hy x H3 hyl
        cases eA : assignTg tg is.xs[i] env2 with
        | none => rw [eA] at p2; exact p2.elim
        | some env3 =>
          rw [eA] at p2
          dsimp only at p2
          refine gTg_ok eA r3 (rE2.ext x3) (by rw [hl2]; exact hin) fun σ3 rE3 l3 _ => ⟨by rw [l3, hl2], ρ2, env3, st2, rE3, s3, ?_⟩
          cases eB : mb env3 st2 with
          | ok f st4 =>
            rw [eB] at p2
            cases f with
            | nx env4 => exact fun ρ4 σ4 H4 e4 s4 rE4 l4 => ⟨hlt, l4, ρ4, env4, st4, e2.trans (x3.trans e4), rE4, s4, PostS.later p2 (x3.trans e4)⟩
            | rt v => exact fun ρ4 w H4 e4 s4 q4 => p2 ρ4 w H4 (x3.trans e4) s4 q4
          | exc c row env4 st4 => rw [eB] at p2; exact fun ρ4 d σ4 H4 e4 => p2 ρ4 d σ4 H4 (x3.trans e4)
          | stuck => rw [eB] at p2; exact p2.elim
    · rw [if_neg hst] at p2
      exact p2.elim
  · left
    rw [List.drop_eq_nil_of_le (by omega)] at p2
    rw [forLoop_eq] at p2
    unfold forRaw at p2
    try rw [← forLoop_eq] at p2
    by_cases hst : Still is st2
    · rw [if_pos hst] at p2
      exact ⟨(hJ i ρ2 st2 H2 e2.toExt0 s2 hst).2 (by omega), p2 ρ2 σ2 H2 (.refl _ _) s2 rE2 hl2⟩
    · rw [if_neg hst] at p2
      exact p2.elim
theorem sim_raise {c m : Str} {p p2 pos pos2 : Pos} {j : Nat} (hc : X.calm = true) (tk : Takes X W) (mk : PMk X (.Call (.Name c p) [.Constant (.str m) j p2] [] pos2) (fun _ H Q => Q (.ref (He.ga X.K c)) none H)) :
    PS X (.Raise (some (.Call (.Name c p) [.Constant (.str m) j p2] [] pos2)) none pos) (tS X.K W X.N.length fun env => fun st => .exc c none env st) := by
  refine PS.impL (ps_raise hc tk mk) fun D σ H q => ?_
  obtain ⟨hl, ρ, env, st, rE, rS, p⟩ := q
  exact p ρ none σ H (.refl _ _) rS rE hl rfl
/-- the clauses of a try: their classes and what their suites do -/
def hsT (K : PySem.W.Frag) (n : Nat) (C : Str → List Val → M Val) (xs : List Str) : Hs → List (Value × (Addr → Value → Option Addr → TS))
  | .nil => []
  | .cons c b hs => (.ref (He.ga K c), fun _ _ _ => tS K F0 n (exSs C xs b)) :: hsT K n C xs hs
theorem wMany_of {K : PySem.W.Frag} {Wout : WX} {D : Ends} {n : Nat} {xs : List Str} {c : Str} {row : Option Int} {env : Env} {st : Store} (hex : ∀ h ∈ xs, PySem.W.exmOne K (.ref (He.ga K c)) (.ref (He.ga K h)) = some (subOf c h)) : ∀ {hs : Hs} {ρ : Pl} {H : Hp} {d : Option Addr} {σ : L2.St}, hsIn xs hs → σ.length = n → RelE K ρ H env σ → RelS K ρ st H → ExcAt H row d →
    PostS K Wout D n ρ H (exHs C xs c row hs env st) → wMany K Wout D (hsT K n C xs hs) (.ref (He.ga K c)) d σ H
  | .nil, ρ, H, d, σ, _, hl, rE, rS, hd, p => p ρ d σ H (.refl _ _) rS rE hl hd
  | .cons h b hs, ρ, H, d, σ, hin, hl, rE, rS, hd, p => by
    unfold exHs at p
    refine ⟨subOf c h, hex h hin.1, fun e a na => ?_, fun e => ?_⟩
    · rw [e] at p
      refine ⟨hl, ρ, env, st, rE, rS, ?_⟩
      rw [if_pos rfl] at p
      cases eB : exSs C xs b env st with
      | ok f st1 => rw [eB] at p; cases f <;> exact p
      | exc c1 r1 e1 st1 => rw [eB] at p; exact p.elim
      | stuck => rw [eB] at p; exact p
    · rw [e] at p
      rw [if_neg (by decide)] at p
      exact wMany_of hex hin.2 hl rE rS hd p
theorem sim_try {body : List Stmt} {h0 : ExceptHandler} {hds : List ExceptHandler} {mb : Env → Store → RS} {hs : Hs} {xs : List Str} {pos : Pos} (G : GoodS X g ct n C W) (hx : xs = g.excs) (hin : hsIn xs hs)
    (hb : ∀ (W' : WX) (pn : List (Addr × Obj)) (xe : Value → Shared → Prop), Takes (X.tr pn xe) W' → PassesOwn (model X.prog X.w) X.A X.env xe → PSs (X.tr pn xe) body (tS X.K W' X.N.length mb))
    (hh : HdsOk X (h0 :: hds) (hsT X.K X.N.length C xs hs)) :
    PS X (.Try body (h0 :: hds) [] [] pos) (tS X.K W X.N.length fun env => fun st => match mb env st with
      | .exc c row env' st' => if xs.contains c = true then exHs C xs c row hs env' st' else .stuck
      | r => r) := by
  refine PS.impL (ps_try_many G.stk G.frm G.takes hb hh) fun D σ H q => ?_
  obtain ⟨hl, ρ, env, st, rE, rS, p⟩ := q
  refine ⟨hl, ρ, env, st, rE, rS, ?_⟩
  dsimp only at p
  cases e : mb env st with
  | ok f st1 => rw [e] at p; cases f <;> exact p
  | stuck => rw [e] at p; exact p
  | exc c row env1 st1 =>
    rw [e] at p
    dsimp only at p
    by_cases hc : xs.contains c = true
    · rw [if_pos hc] at p
      intro ρ1 d σ1 H1 e1 s1 rE1 l1 hd
      subst hx
      exact wMany_of (fun h hh => G.exm c (List.contains_iff_mem.mp hc) h hh) hin l1 rE1 s1 hd (PostS.later p e1)
    · rw [if_neg hc] at p
      exact p.elim
end
/-! ### the induction -/
section
variable {g : SigS} {n : Nat} {C : Str → List Val → M Val}
def isLc : Expr → Bool
  | .ListComp .. => true
  | _ => false
def isTup : Expr → Bool
  | .Tuple .. => true
  | _ => false
theorem swNo {v : Expr} {t : Option Expr} {l : Nat} {env : PySem.Env} (h : okHead v = true) (h2 : isLc v = false) : swapsWith v t l env = pure false := by
  cases v with
  | ListComp a b c d => exact absurd h2 (by simp [isLc])
  | _ => first | rfl | (exact absurd h (by simp [okHead]))
theorem swSole {t v : Expr} {l : Nat} {env : PySem.Env} : swapsWithSole [t] v l env = swapsWith v (some t) l env := by
  unfold swapsWithSole
  rfl
theorem plain_lc {v : Expr} (h : plainVal v = true) : isLc v = false ∧ isTup v = false := by
  cases v <;> first | exact ⟨rfl, rfl⟩ | (exact absurd h (by simp [plainVal]))
theorem lc_of {v : Expr} (h : isLc v = true) : ∃ a b c d, v = .ListComp a b c d := by
  cases v <;> first | exact ⟨_, _, _, _, rfl⟩ | (exact absurd h (by simp [isLc]))
def swB (env : PySem.Env) (scope : Scope) (y : Str) (py pos : Pos) : Bool := env.kindOf y == some .local && py.line == pos.line && !(scope.names.any fun (n, k) => n == y && (k == .local || k == .cell))
theorem swEq {elt : Expr} {gs : List Comprehension} {scope : Scope} {pos py : Pos} {y : Str} {l : Nat} {env : PySem.Env} (hk : env.scope.kind = .function) : swapsWith (.ListComp elt gs scope pos) (some (.Name y py)) l env = pure (swB env scope y py pos) := by
  have hb : env.blockKind = .function := by unfold Env.blockKind; rw [hk]; rfl
  unfold swapsWith swB
  simp only [hb, Expr.pos]
  rfl
/-- a comprehension stored at once -/
theorem sound_setLc {X : Cx} {ct : Ct} {W : WX} (G : Good X g.toSig ct n C W) {new : Bool} {own : List Nat} {tg : Tg} {it : It} {ifs : Es} {e : E} {elt : Expr} {gens : List Comprehension} {scope : Scope} {pos py spos : Pos} {i : Nat} {y : Str} (hk : X.env.scope.kind = .function) (hy : X.N[i]? = some y)
    (hsw : swB X.env scope y py pos = true) (h : ckE g.toSig ct (.lc new own tg it ifs e) (.ListComp elt gens scope pos) = true) : PS X (.Assign [.Name y py] (.ListComp elt gens scope pos) spos) (tAsg (tE X.K W (evE C (.lc new own tg it ifs e))) (gName i)) := by
  match gens, h with
  | [⟨t, iter, fs, k⟩], h =>
    simp only [ckE, Bool.and_eq_true] at h
    obtain ⟨⟨⟨⟨⟨⟨⟨⟨⟨h1, h2⟩, h3⟩, h4⟩, h5⟩, h6⟩, h7⟩, h8⟩, h9⟩, h10⟩ := h
    have := of_decide_eq_true h2
    subst this
    have bk : BlkOk X.N X.env.scope scope (ownP ct.N own) := by
      rw [G.N, G.sc]
      exact blkOk_by h3
    have hi := soundI it iter (tg := t) G h6
    have e1 : ∀ (s : Shared) (H : Hp) (c : Addr) (cl : List (Str × Addr)) (fp : List Addr), PG (X.blk s H scope (compEnvC scope cl c X.env) fp) t (gTg X.K tg) := fun s H c cl fp => (G.blk bk.uniq s H cl c fp).tg h5
    have e2 : ∀ (s : Shared) (H : Hp) (c : Addr) (cl : List (Str × Addr)) (fp : List Addr), PTs (X.blk s H scope (compEnvC scope cl c X.env) fp) fs (tG X.K relB F0 (evT C ifs)) := fun s H c cl fp => soundT ifs fs (G.blk bk.uniq s H cl c fp) h7 h8
    have e3 : ∀ (s : Shared) (H : Hp) (c : Addr) (cl : List (Str × Addr)) (fp : List Addr), PE (X.blk s H scope (compEnvC scope cl c X.env) fp) elt (tE X.K F0 (evE C e)) := fun s H c cl fp => (soundE e elt (G.blk bk.uniq s H cl c fp) h10).1
    have hloc : X.env.scope.names.lookup y = some .local := by
      unfold swB at hsw
      simp only [Bool.and_eq_true] at hsw
      exact eq_of_beq hsw.1.1
    refine ⟨fun pins s σ H D I q => ?_⟩
    refine (ps_setLc (G.calm h1) G.nd hy hloc (by rw [swEq hk, hsw]) hi.1 bk e1 e2 e3 hi.2).run pins s σ H D I ?_
    rw [ownP_snd]
    refine tLc_of ?_ (tgSub_of h4) q
    rw [I.len, G.N]
    exact (show tgIn (ctBlk ct scope).N.length tg from ckTg_in h5)
  | [], h => simp [ckE] at h
  | _ :: _ :: _, h => simp [ckE] at h
theorem isLc_E {ct : Ct} {e : E} {a : Expr} {b : List Comprehension} {c : Scope} {d : Pos} (h : ckE g.toSig ct e (.ListComp a b c d) = true) : ∃ new own tg it ifs e', e = .lc new own tg it ifs e' := by
  cases e <;> first | exact ⟨_, _, _, _, _, _, rfl⟩ | simp [ckE] at h
theorem asg_nm {X : Cx} {ct : Ct} {W : WX} (G : Good X g.toSig ct n C W) {i : Nat} {e : E} {y : Str} {py spos : Pos} {v : Expr} (hk : X.env.scope.kind = .function) (h1 : ckName ct i (.Name y py) = true) (h2 : okHead v = true) (h3 : ckE g.toSig ct e v = true) :
    PS X (.Assign [.Name y py] v spos) (tAsg (tE X.K W (evE C e)) (gTg X.K (.nm i))) := by
  by_cases hl : isLc v = true
  · obtain ⟨a, b, c, d, rfl⟩ := lc_of hl
    obtain ⟨new, own, tg, it, ifs, e', rfl⟩ := isLc_E h3
    cases hs : swB X.env c y py d with
    | true =>
      refine sound_setLc G hk ?_ hs h3
      unfold ckName at h1
      rw [Bool.and_eq_true] at h1
      rw [G.N]
      exact of_decide_eq_true h1.1
    | false => exact ps_asg (soundE _ _ G h3).1 (G.name h1) (by rw [swSole, swEq hk, hs]) rfl rfl
  · have hl' : isLc v = false := by simpa using hl
    refine ps_asg (soundE _ _ G h3).1 (G.name h1) (by rw [swSole]; exact swNo h2 hl') ?_ rfl
    cases v <;> first | rfl | (exact absurd h2 (by simp [okHead]))
end
end Rc
/-! Rc11: statements: the induction; defs; the whole text. -/
namespace Rc
open PySem L2
section
variable {g : SigS} {n : Nat} {C : Str → List Val → M Val}
/-- what a look at a clause tells -/
theorem ckHs_cons {ct : Ct} {c : Str} {b : Ss} {hs : Hs} {hds : List ExceptHandler} (h : ckHs g ct (.cons c b hs) hds = true) : ∃ p0 y ys p1 hds', hds = .ExceptHandler (some (.Name c p0)) none (y :: ys) p1 :: hds' ∧ isGl ct.sc c = true ∧ noDbg c = true ∧ c ∈ g.excs ∧ ckSs g { ct with cal := false } b (y :: ys) = true ∧ ckHs g ct hs hds' = true := by
  rcases hds with _ | ⟨⟨ty, nm, bd, p1⟩, hds'⟩
  · simp [ckHs] at h
  · rcases ty with _ | ty
    · simp [ckHs] at h
    · cases ty
      case Name x p0 =>
        rcases nm with _ | nm
        · rcases bd with _ | ⟨y, ys⟩
          · simp [ckHs] at h
          · simp only [ckHs, Bool.and_eq_true] at h
            obtain ⟨⟨⟨⟨⟨h1, h2⟩, h3⟩, h4⟩, h5⟩, h6⟩ := h
            have := of_decide_eq_true h1
            subst this
            exact ⟨p0, y, ys, p1, hds', rfl, h2, h3, List.contains_iff_mem.mp h4, h5, h6⟩
        · simp [ckHs] at h
      all_goals simp [ckHs] at h
theorem ckHs_in {ct : Ct} : ∀ {hs : Hs} {hds : List ExceptHandler}, ckHs g ct hs hds = true → hsIn g.excs hs
  | .nil, _, _ => trivial
  | .cons c b hs, hds, h => by
    obtain ⟨_, _, _, _, _, _, _, _, h4, _, h6⟩ := ckHs_cons h
    exact ⟨h4, ckHs_in h6⟩
theorem sub_at {o i : Expr} {p : Pos} {env : PySem.Env} (h : okHead i = true) (v : Value) : assign (.Subscript o i p) env v = (do
      let ov ← holding [v] (eval o env)
      let iv ← holding [v, ov] (eval i env)
      standAt p
      holding [v, ov, iv] (setItem ov iv v)
      release [v, ov, iv] []) := by
  cases i <;> first | rfl | (exact absurd h (by simp [okHead]))
mutual
theorem soundS : ∀ (s : S) (st : Stmt) {X : Cx} {ct : Ct} {W : WX}, GoodS X g ct n C W → ckS g ct s st = true → PS X st (tS X.K W X.N.length (exS C g.excs s))
  | .asg (.nm i) e, st, X, ct, W, G, h => by
    cases st
    case Assign ts v pos =>
      rcases ts with _ | ⟨t, _ | ⟨t2, ts⟩⟩
      · simp [ckS] at h
      · cases t
        case Name y py =>
          simp only [ckS, Bool.and_eq_true] at h
          refine sim_asg (asg_nm G.toGood G.kind h.1.1 h.1.2 h.2) ?_
          rw [G.N]
          exact ckName_lt h.1.1
        all_goals simp [ckS] at h
      · cases t <;> simp [ckS] at h
    all_goals simp [ckS] at h
  | .asg (.tup is) e, st, X, ct, W, G, h => by
    cases st
    case Assign ts v pos =>
      rcases ts with _ | ⟨t, _ | ⟨t2, ts⟩⟩
      · simp [ckS] at h
      · cases t
        case Tuple es k p =>
          simp only [ckS, Bool.and_eq_true] at h
          obtain ⟨⟨⟨h1, h2⟩, h3⟩, h4⟩ := h
          have pl := plain_lc h3
          refine sim_asg (ps_asg (soundE e v G.toGood h4).1 (G.tg h1) (by rw [swSole]; exact swNo h2 pl.1) ?_ rfl) ?_
          · cases v with
            | Tuple a b c => exact absurd pl.2 (by simp [isTup])
            | _ => first | rfl | (exact absurd h2 (by simp [okHead]))
          · rw [G.N]
            exact ckTg_in h1
        all_goals simp [ckS] at h
      · cases t <;> simp [ckS] at h
    all_goals simp [ckS] at h
  | .sset o i e, st, X, ct, W, G, h => by
    cases st
    case Assign ts v pos =>
      rcases ts with _ | ⟨t, _ | ⟨t2, ts⟩⟩
      · simp [ckS] at h
      · cases t
        case Subscript a b p =>
          simp only [ckS, Bool.and_eq_true] at h
          obtain ⟨⟨⟨⟨⟨h1, h2⟩, h3⟩, h4⟩, h5⟩, h6⟩ := h
          refine sim_sset (soundE e v G.toGood h2).1 (soundE o a G.toGood h4).1 (soundE i b G.toGood h6).1 (head_ix h5) ?_ (sub_at h5)
          rw [swSole]
          cases v <;> first | rfl | (exact absurd h1 (by simp [okHead]))
        all_goals simp [ckS] at h
      · cases t <;> simp [ckS] at h
    all_goals simp [ckS] at h
  | .expr e, st, X, ct, W, G, h => by
    cases st
    case Expr v pos =>
      simp only [ckS, Bool.and_eq_true] at h
      exact sim_expr (soundE e v G.toGood h.2).1 (swNo h.1.1 (plain_lc h.1.2).1)
    all_goals simp [ckS] at h
  | .ret e, st, X, ct, W, G, h => by
    cases st
    case Return v pos =>
      cases v with
      | none => simp [ckS] at h
      | some v =>
        simp only [ckS, Bool.and_eq_true] at h
        exact sim_ret (soundE e v G.toGood h.2).1
    all_goals simp [ckS] at h
  | .retN, st, X, ct, W, G, h => by
    cases st
    case Return v pos =>
      cases v with
      | none =>
        refine PS.impL ps_retN fun D σ H q => ?_
        obtain ⟨hl, ρ, env, st, rE, rS, p⟩ := q
        exact p ρ .non H (.refl _ _) rS .non
      | some v => simp [ckS] at h
    all_goals simp [ckS] at h
  | .iff c a b, st, X, ct, W, G, h => by
    cases st
    case If t x y pos =>
      simp only [ckS, Bool.and_eq_true] at h
      obtain ⟨⟨⟨⟨h1, h2⟩, h3⟩, h4⟩, h5⟩ := h
      exact sim_if ((soundE c t G.toGood h3).2 h2) (soundSs a x G h4) (soundSs b y G h5)
    all_goals simp [ckS] at h
  | .forS tg it body, st, X, ct, W, G, h => by
    cases st
    case For t x b oe pos =>
      cases oe with
      | nil =>
        simp only [ckS, Bool.and_eq_true] at h
        obtain ⟨⟨⟨h1, h2⟩, h3⟩, h4⟩ := h
        have hi := soundI it x (tg := t) G.toGood h3
        refine sim_for G.own (G.calm h1) hi.1 (G.tg h2) (soundSs body b G h4) hi.2 ?_
        rw [G.N]
        exact ckTg_in h2
      | cons _ _ => simp [ckS] at h
    all_goals simp [ckS] at h
  | .pass, st, X, ct, W, G, h => by
    cases st
    case Pass pos => exact sim_pass
    all_goals simp [ckS] at h
  | .raiseS c m, st, X, ct, W, G, h => by
    cases st
    case Raise ex cause pos =>
      simp only [ckS] at h
      unfold ckRaise at h
      split at h
      · obtain ⟨p, j, p2, pos2, rfl, h1, h4, h5, h6⟩ := ckMade_of h
        exact sim_raise (G.calm h1) G.takes ((G.exc c h6).2 X rfl rfl (G.gl h4) (dbg1 h5).1 m j p p2 _)
      · cases h
    all_goals simp [ckS] at h
  | .tryS body hs, st, X, ct, W, G, h => by
    cases st
    case Try b hds oe fb pos =>
      rcases hds with _ | ⟨h0, hds⟩
      · simp [ckS] at h
      · rcases oe with _ | ⟨o1, oe⟩
        · rcases fb with _ | ⟨f1, fb⟩
          · simp only [ckS, Bool.and_eq_true] at h
            obtain ⟨⟨h1, h2⟩, h3⟩ := h
            exact sim_try G rfl (ckHs_in h3) (fun W' pn xe tk po => soundSs body b (G.tr pn xe tk po) h2) (soundHs hs (h0 :: hds) G h3)
          · simp [ckS] at h
        · simp [ckS] at h
    all_goals simp [ckS] at h
theorem soundSs : ∀ (ss : Ss) (sts : List Stmt) {X : Cx} {ct : Ct} {W : WX}, GoodS X g ct n C W → ckSs g ct ss sts = true → PSs X sts (tS X.K W X.N.length (exSs C g.excs ss))
  | .nil, [], X, ct, W, G, h => sim_ssNil
  | .cons s ss, x :: xs, X, ct, W, G, h => by
    simp only [ckSs, Bool.and_eq_true] at h
    exact sim_ssCons (soundS s x G h.1) (soundSs ss xs G h.2)
  | .nil, _ :: _, X, ct, W, G, h => by simp [ckSs] at h
  | .cons _ _, [], X, ct, W, G, h => by simp [ckSs] at h
theorem soundHs : ∀ (hs : Hs) (hds : List ExceptHandler) {X : Cx} {ct : Ct} {W : WX}, GoodS X g ct n C W → ckHs g ct hs hds = true → HdsOk X hds (hsT X.K X.N.length C g.excs hs)
  | .nil, [], X, ct, W, G, h => .nil
  | .nil, _ :: _, X, ct, W, G, h => by simp [ckHs] at h
  | .cons c b hs, hds, X, ct, W, G, h => by
    obtain ⟨p0, y, ys, p1, hds', rfl, h2, h3, h4, h5, h6⟩ := ckHs_cons h
    exact .cons ⟨G.gl h2, (dbg1 h3).1, .inl (G.exc c h4).1⟩ (fun a oe cls d pn hz hd => soundSs b (y :: ys) (G.suite a ((a, oe) :: pn)) h5) (soundHs hs hds' G h6)
end
end
end Rc
/-! Rc12: how arguments bind, whatever the count of parameters. -/
namespace Rc
open PySem L2
theorem zip_lookup {α : Type} : ∀ {ps : List Str} {us : List α} {x : Str}, us.length = ps.length → x ∈ ps → ∃ u, (ps.zip us).lookup x = some u
  | [], _, _, _, h => by simp at h
  | p :: ps, [], _, e, _ => by simp at e
  | p :: ps, u :: us, x, e, h => by
    rw [List.zip_cons_cons, List.lookup_cons]
    by_cases hx : x = p
    · subst hx; simp
    · have : (x == p) = false := by simpa using hx
      rw [this]
      exact zip_lookup (by simpa using e) (by simpa [hx] using h)
theorem mem_of_lookup {α : Type} {x : Str} {u : α} : ∀ {l : List (Str × α)}, l.lookup x = some u → (x, u) ∈ l
  | [], h => by simp at h
  | (y, v) :: l, h => by
    rw [List.lookup_cons] at h
    by_cases hx : x = y
    · subst hx
      simp at h
      subst h
      simp
    · have : (x == y) = false := by simpa using hx
      rw [this] at h
      exact List.mem_cons_of_mem _ (mem_of_lookup h)
theorem fm_congr {α β : Type} {f h : α → Option β} : ∀ (l : List α), (∀ x ∈ l, f x = h x) → l.filterMap f = l.filterMap h
  | [], _ => rfl
  | a :: l, e => by
    rw [List.filterMap_cons, List.filterMap_cons, e a (by simp), fm_congr l fun x hx => e x (by simp [hx])]
theorem zip_filterMap {α : Type} : ∀ (ps : List Str) (us : List α), ps.Nodup → us.length = ps.length → ps.filterMap (fun n => ((ps.zip us).lookup n).map (n, ·)) = ps.zip us
  | [], _, _, _ => by simp
  | p :: ps, [], _, e => by simp at e
  | p :: ps, u :: us, nd, e => by
    have nd' := List.nodup_cons.mp nd
    rw [List.zip_cons_cons, List.filterMap_cons]
    have h0 : (((p, u) :: ps.zip us).lookup p) = some u := by rw [List.lookup_cons]; simp
    rw [h0]
    show (p, u) :: _ = _
    congr 1
    refine Eq.trans (fm_congr ps fun x hx => ?_) (zip_filterMap ps us nd'.2 (by simpa using e))
    have : (x == p) = false := by
      have : x ≠ p := fun z => nd'.1 (z ▸ hx)
      simpa using this
    rw [List.lookup_cons, this]
/-- plain parameters alone -/
structure PlainPs (a : Arguments) (ps : List Str) : Prop where
  po : a.posonlyargs = []
  va : a.vararg = none
  kw : a.kwonlyargs = []
  kwa : a.kwarg = none
  ar : a.args.map (·.arg) = ps
theorem bind_gen {x qual : Str} {params : Arguments} {body : List Stmt} {scope : Scope} {ps : List Str} (pl : PlainPs params ps) (nd : ps.Nodup) (kV doc pm : Value) (an : Option Addr) (cdv ct : Value) (us : List Value) (hl : us.length = ps.length) :
    bindArgs (PySem.W.fnOf x qual params body scope .none kV doc pm an cdv ct) ⟨us, []⟩ = pure (ps.zip us) := by
  have h1 : (ps.take (ps.length - 0)).filter (fun n => ((ps.zip us).lookup n).isNone) = [] := by
    rw [Nat.sub_zero, List.take_length, List.filter_eq_nil_iff]
    intro y hy
    obtain ⟨u, e⟩ := zip_lookup hl hy
    rw [e]; simp
  have h2 := zip_filterMap ps us nd hl
  have hd : seqItems? Value.none = pure none := rfl
  unfold bindArgs
  simp only [PySem.W.fnOf, pl.po, pl.va, pl.kw, pl.kwa, pl.ar, List.map_nil, List.nil_append, List.append_nil, hl]
  simp [hd, h1, h2]
  intro y hy hno
  obtain ⟨u, e⟩ := zip_lookup hl hy
  exact absurd (mem_of_lookup e) (hno u)

/-! ### the defs of a text -/
/-- a def's text: its name, its parameters, all its names by slot, the model's own text -/
structure Tx where
  nm : Str
  ps : List Str
  N : List Str
  args : Arguments
  body : List Stmt
  sc : Scope
def plainB (a : Arguments) (ps : List Str) : Bool := a.posonlyargs.isEmpty && a.vararg.isNone && a.kwonlyargs.isEmpty && a.kwarg.isNone && decide (a.args.map (·.arg) = ps)
theorem plainB_of {a : Arguments} {ps : List Str} (h : plainB a ps = true) : PlainPs a ps := by
  unfold plainB at h
  simp only [Bool.and_eq_true] at h
  obtain ⟨⟨⟨⟨h1, h2⟩, h3⟩, h4⟩, h5⟩ := h
  exact ⟨List.isEmpty_iff.mp h1, Option.isNone_iff_eq_none.mp h2, List.isEmpty_iff.mp h3, Option.isNone_iff_eq_none.mp h4, of_decide_eq_true h5⟩
def isFnKind : ScopeKind → Bool
  | .function => true
  | _ => false
def isFree : NameKind → Bool
  | .free => true
  | _ => false
def locB (sc : Scope) (x : Str) : Bool := match sc.names.lookup x with
  | some .local => true
  | some .cell => true
  | _ => false
def scopeB (N ps : List Str) (sc : Scope) : Bool := isFnKind sc.kind && !sc.isCoroutine && !sc.isGenerator && decide N.Nodup && decide (N.take ps.length = ps) && ps.all (locB sc) && sc.names.all fun y => !isFree y.2
theorem scopeB_of {N ps : List Str} {sc : Scope} (h : scopeB N ps sc = true) : FnScope N ps sc := by
  unfold scopeB at h
  simp only [Bool.and_eq_true] at h
  obtain ⟨⟨⟨⟨⟨⟨h1, h2⟩, h3⟩, h4⟩, h5⟩, h6⟩, h7⟩ := h
  refine ⟨?_, by simpa using h2, by simpa using h3, of_decide_eq_true h4, of_decide_eq_true h5, fun x hx => ?_, fun y hy => ?_⟩
  · cases e : sc.kind <;> rw [e] at h1 <;> first | rfl | cases h1
  · have := List.all_eq_true.mp h6 x hx
    unfold locB at this
    split at this
    · exact .inl (by assumption)
    · exact .inr (by assumption)
    · cases this
  · have := List.all_eq_true.mp h7 y hy
    intro e
    rw [e] at this
    simp [isFree] at this
/-- the names that a def may store -/
def storB (sc : Scope) (stor : List Str) : Bool := stor.all (locB sc)
def ctOf (t : Tx) : Ct := ⟨t.sc, t.N, t.N.filter (locB t.sc), true⟩
/-- does the small language's def say what the text says? -/
def ckDf (g : SigS) (t : Tx) (d : Df) : Bool := plainB t.args t.ps && scopeB t.N t.ps t.sc && decide (d.ps = t.ps.length) && decide (d.ns = t.N.length) && ckSs g (ctOf t) d.body t.body
theorem startEnv_rel {K : PySem.W.Frag} {ρ : Pl} {H : Hp} {args : List Val} {vs : List V} {N : List Str} (q : RepL K ρ H args vs) : RelE K ρ H (startEnv N.length args) (L2.start N vs) := by
  intro i v e
  unfold startEnv at e
  unfold L2.start
  by_cases hi : i < args.length
  · rw [List.getElem?_append_left (by simpa using hi), List.getElem?_map] at e
    obtain ⟨a, ea, eb⟩ := Option.map_eq_some_iff.mp e
    cases eb
    obtain ⟨w, ew, r⟩ := q.get ea
    refine ⟨w, ?_, r⟩
    rw [List.getElem?_append_left (by rw [List.length_map, ← q.length]; exact hi), List.getElem?_map, ew]
    rfl
  · rw [List.getElem?_append_right (by rw [List.length_map]; omega)] at e
    rw [List.getElem?_replicate] at e
    split at e <;> cases e
theorem start_length {N : List Str} {vs : List V} (h : vs.length ≤ N.length) : (L2.start N vs).length = N.length := by
  unfold L2.start
  rw [List.length_append, List.length_map, List.length_replicate]
  omega
/-- what is known of the module behind its top: the defs' function objects, constants, names left free, the exceptions -/
structure ModOk (P : Program) (w : World) (K : PySem.W.Frag) (mg : Str → Option Value) (g : SigS) (ts : List Tx) : Prop where
  frees : ∀ x ∈ g.frees, mg x = none
  globs : ∀ p ∈ g.globs, ∃ u v, mg p.1 = some u ∧ RelV v u ∧ ∀ ρ H, Rep K ρ H (gvVal p.2) v
  defs : ∀ t ∈ ts, ∃ fa fd, FunD K t.nm t.nm t.args t.body t.sc [] [] fa fd ∧ mg t.nm = some (.ref fa)
  exm : ∀ c ∈ g.excs, ∀ h ∈ g.excs, PySem.W.exmOne K (.ref (He.ga K c)) (.ref (He.ga K h)) = some (subOf c h)
  exc : ∀ c ∈ g.excs, mg c = some (.ref (He.ga K c)) ∧ ∀ (X' : Cx), X'.K = K → X'.mg = mg → Gl X' c → (c == ("__debug__" : Str)) = false → ∀ (m : Str) (j : Nat) (p p2 pos : Pos), PMk X' (.Call (.Name c p) [.Constant (.str m) j p2] [] pos) (fun _ H Q => Q (.ref (He.ga K c)) none H)
/-- the small language's program beside the texts: each def named in g has its text and is let by -/
def ckAll (g : SigS) (ts : List Tx) (defs : List (Str × Df)) : Bool := g.defs.all fun p => ts.any fun t => decide (t.nm = p.1) && (match defs.lookup p.1 with
  | some d => ckDf g t d
  | none => false)
section
variable {P : Program} {w : World} {K : PySem.W.Frag} {mg : Str → Option Value} {base : Heap} {g : SigS} {ts : List Tx} {defs : List (Str × Df)}
theorem ckAll_of (ck : ckAll g ts defs = true) {p : Str × Nat} (hp : p ∈ g.defs) : ∃ t ∈ ts, ∃ d, t.nm = p.1 ∧ defs.lookup p.1 = some d ∧ ckDf g t d = true := by
  obtain ⟨t, ht, hc⟩ := List.any_eq_true.mp (List.all_eq_true.mp ck p hp)
  rw [Bool.and_eq_true] at hc
  cases e : defs.lookup p.1 with
  | none => rw [e] at hc; exact absurd hc.2 (by simp)
  | some d => rw [e] at hc; exact ⟨t, ht, d, of_decide_eq_true hc.1, rfl, hc.2⟩
theorem binds_of {t : Tx} {d : Df} {fa : Addr} {fd : FuncData} (hk : ckDf g t d = true) (F : FunD K t.nm t.nm t.args t.body t.sc [] [] fa fd) : Binds K fd t.ps [] := by
  unfold ckDf at hk
  simp only [Bool.and_eq_true] at hk
  refine F.bindsN (bind_gen (plainB_of hk.1.1.1.1) ?_)
  have S := scopeB_of hk.1.1.1.2
  rw [← S.pre]
  exact S.nd.sublist (List.take_sublist _ _)
/-- a def whose text is let by keeps its promise, if those that it calls keep theirs -/
theorem fnOk_step (M : ModOk P w K mg g ts) {n : Nat} {p : Str × Nat} {t : Tx} {d : Df} {fa : Addr} {fd : FuncData} (F : FunD K t.nm t.nm t.args t.body t.sc [] [] fa fd) (e : defs.lookup p.1 = some d) (hk : ckDf g t d = true)
    (ih : ∀ p ∈ g.defs, ∃ (fa : Addr) (fd : FuncData) (ps : List Str), FnOk P w K mg base (L2.CX P w) n fa fd ps (spOf K (callF defs g.excs n) p.1) ∧ mg p.1 = some (.ref fa) ∧ PySem.W.keepIn K (.ref fa) = true ∧ Binds K fd ps []) :
    FnOk P w K mg base (L2.CX P w) (n + 1) fa fd t.ps (spOf K (callF defs g.excs (n + 1)) p.1) := by
  unfold ckDf at hk
  simp only [Bool.and_eq_true] at hk
  obtain ⟨⟨⟨⟨k1, k2⟩, k3⟩, k4⟩, k5⟩ := hk
  have S := scopeB_of k2
  have k3 := of_decide_eq_true k3
  have k4 := of_decide_eq_true k4
  have eC : callF defs g.excs (n + 1) p.1 = runDf (callF defs g.excs n) g.excs d := by
    funext ar
    show (match defs.lookup p.1 with
      | some d => runDf (callF defs g.excs n) g.excs d ar
      | none => stuck) = _
    rw [e]
  have lenOk : ∀ vs H Q E, spOf K (callF defs g.excs (n + 1)) p.1 vs H Q E → vs.length = t.ps.length := fun vs H Q E h => by
    obtain ⟨ρ, st, ar, rS, q, pp⟩ := h
    rw [eC] at pp
    unfold runDf at pp
    split at pp
    · rename_i hl
      rw [← q.length, hl, k3]
    · exact pp.elim
  refine F.ok S lenOk fun cdv A outer s H vs Q E hr h => ?_
  have hlen := lenOk vs H Q E h
  obtain ⟨ρ, st, ar, rS, q, pp⟩ := h
  rw [eC] at pp
  unfold runDf at pp
  split at pp
  · rename_i hl
    have G : GoodS (cxOf (L2.CX P w) P w K mg base t.N t.nm t.sc fa cdv A outer s H E) g (ctOf t) n (callF defs g.excs n) (fun cls d _ H => E cls d H) := {
      sc := rfl
      N := rfl
      nd := S.nd
      stor := fun x hx => by
        have hx : x ∈ t.N.filter (locB t.sc) := hx
        have := (List.mem_filter.mp hx).2
        unfold locB at this
        split at this
        · exact ⟨.inl (by assumption), .inl rfl⟩
        · exact ⟨.inr (by assumption), .inl rfl⟩
        · cases this
      calm := fun _ => rfl
      room := fun _ => hr
      units := hr.units
      takes := takes_of rfl rfl rfl rfl
      frees := M.frees
      globs := M.globs
      defs := ih
      kind := S.kind
      own := passes_of rfl
      stk := rfl
      frm := rfl
      exm := M.exm
      exc := M.exc }
    refine ⟨_, soundSs d.body t.body G k5, ?_⟩
    have hN : vs.length ≤ t.N.length := by
      rw [hlen]
      have := congrArg List.length S.pre
      rw [List.length_take] at this
      omega
    refine ⟨start_length hN, ρ, startEnv t.N.length ar, st, startEnv_rel q, rS, ?_⟩
    rw [k4] at pp
    cases eR : exSs (callF defs g.excs n) g.excs d.body (startEnv t.N.length ar) st with
    | ok f st' =>
      rw [eR] at pp
      cases f with
      | nx env' => exact fun ρ' σ' H' x s _ _ => pp ρ' .non H' x s .non
      | rt v => exact pp
    | exc c row env' st' =>
      rw [eR] at pp
      exact fun ρ' d σ' H' x s _ _ z => pp ρ' d H' x s z
    | stuck => rw [eR] at pp; exact pp
  · exact pp.elim
theorem fnOk_all (M : ModOk P w K mg g ts) (ck : ckAll g ts defs = true) : ∀ (n : Nat), ∀ p ∈ g.defs, ∃ (fa : Addr) (fd : FuncData) (ps : List Str), FnOk P w K mg base (L2.CX P w) n fa fd ps (spOf K (callF defs g.excs n) p.1) ∧ mg p.1 = some (.ref fa) ∧ PySem.W.keepIn K (.ref fa) = true ∧ Binds K fd ps []
  | 0, p, hp => by
    obtain ⟨t, ht, d, en, e, hk⟩ := ckAll_of ck hp
    obtain ⟨fa, fd, F, hm⟩ := M.defs t ht
    rw [en] at hm
    refine ⟨fa, fd, t.ps, ⟨fun vs H Q E h => ?_, fun A outer s H args us vs Q E hr e0 hb r h => ?_⟩, hm, F.kp, binds_of hk F⟩
    · obtain ⟨ρ, st, ar, rS, q, p⟩ := h
      exact p.elim
    · obtain ⟨ρ, st, ar, rS, q, p⟩ := h
      exact p.elim
  | n + 1, p, hp => by
    obtain ⟨t, ht, d, en, e, hk⟩ := ckAll_of ck hp
    obtain ⟨fa, fd, F, hm⟩ := M.defs t ht
    rw [en] at hm
    exact ⟨fa, fd, t.ps, fnOk_step M F e hk (fnOk_all M ck n), hm, F.kp, binds_of hk F⟩
end
end Rc
/-! Rc13: from the head's facts to the law. -/
namespace Rc
open PySem L2
def gvFa (p : Str × Gv) : List He.Fa := match p.2 with
  | .int i => [.int p.1 i]
  | .str s => [.str p.1 s]
  | .tups _ => []
def gvPlain : Gv → Bool
  | .tups _ => false
  | _ => true
/-- the facts that are asked of the head -/
def faOf (g : SigS) (ts : List Tx) : List He.Fa :=
  ts.map (fun t => .glo t.nm) ++ g.frees.map .free ++ g.globs.flatMap gvFa ++ g.excs.map .glo ++ g.excs.map .exc ++ g.excs.flatMap fun c => g.excs.map fun h => .exm c h (subOf c h)
def ddOf (t : Tx) : He.DefD := ⟨(t.nm, none), t.nm, t.nm, t.args, t.body, t.sc, [], []⟩
theorem modOk_of {P : Program} {w : World} {K : PySem.W.Frag} {h : Heap} {mg : Str → Option Value} {g : SigS} {ts : List Tx} (X : K.In h) (G : h.Ns mainGlobals mg) (hp : g.globs.all (fun p => gvPlain p.2) = true) (c : He.SaysD (faOf g ts) (ts.map ddOf) K) : ModOk P w K mg g ts := by
  have fact : ∀ f ∈ faOf g ts, f.ok K = true := fun f hf => He.SaysD.facts c hf
  have glo : ∀ x ∈ g.excs, mg x = some (.ref (He.ga K x)) := fun x hx => He.glo_ok X G (fact (.glo x) (by
    unfold faOf
    simp only [List.mem_append, List.mem_map]
    exact .inl (.inl (.inr ⟨x, hx, rfl⟩))))
  refine ⟨fun x hx => He.free_ok X G (fact (.free x) ?_), fun p hp' => ?_, fun t ht => ?_, fun a ha b hb => He.exm_ok (fact (.exm a b (subOf a b)) ?_), fun x hx => ⟨glo x hx, ?_⟩⟩
  · unfold faOf
    simp only [List.mem_append, List.mem_map]
    exact .inl (.inl (.inl (.inl (.inr ⟨x, hx, rfl⟩))))
  · have hpl := List.all_eq_true.mp hp p hp'
    have mem : ∀ f ∈ gvFa p, f ∈ faOf g ts := fun f hf => by
      unfold faOf
      simp only [List.mem_append, List.mem_flatMap]
      exact .inl (.inl (.inl (.inr ⟨p, hp', hf⟩)))
    obtain ⟨x, v⟩ := p
    cases v with
    | int i =>
      obtain ⟨t, e⟩ := He.int_ok X G (fact (.int x i) (mem _ (by simp [gvFa])))
      exact ⟨_, .int i, e, ⟨t, rfl⟩, fun _ _ => .int i⟩
    | str s =>
      obtain ⟨t, e⟩ := He.str_ok X G (fact (.str x s) (mem _ (by simp [gvFa])))
      exact ⟨_, .str s, e, ⟨t, rfl⟩, fun _ _ => .str s⟩
    | tups ss => simp [gvPlain] at hpl
  · obtain ⟨fd, F⟩ := He.SaysD.defs c (d := ddOf t) (List.mem_map.mpr ⟨t, ht, rfl⟩)
    refine ⟨_, fd, F, He.glo_ok X G (fact (.glo t.nm) ?_)⟩
    unfold faOf
    simp only [List.mem_append, List.mem_map]
    exact .inl (.inl (.inl (.inl (.inl ⟨t, ht, rfl⟩))))
  · unfold faOf
    simp only [List.mem_append, List.mem_flatMap, List.mem_map]
    exact .inr ⟨a, ha, b, hb, rfl⟩
  · intro X' eK em hg hd m j p p2 pos
    have ex := He.exc_ok (fact (.exc x) (by
      unfold faOf
      simp only [List.mem_append, List.mem_map]
      exact .inl (.inr ⟨x, hx, rfl⟩)))
    subst eK
    subst em
    exact pmk_own PySem.F.excBase_ValueError ex.1 (glo x hx) ex.2.1 (raises_own ex.2.2.1 ex.2.2.2) hg hd
/-- a law's end, where what an exception leaves hangs on the world -/
theorem walk_ofW {l : PySem.W.OpenLaw} {n k : Nat} {q : Program} {loose : List Str} {XP : (Str → Option Value) → Heap → Prop} {YP : World → Heap → Prop} {d : DefRec} {CX : World → CXT} {x : Str}
    (hn : l.most = some n) (hn2 : n ≤ sizeLine) (hdf : d.params.defaults = []) (hr : Room k callerA)
    (F : ∀ (w : World) (mg : Str → Option Value) (fa : Addr) (h : Heap), YP w h → h.Ns mainGlobals mg → mg d.name = some (.ref fa) →
      ∃ (K : PySem.W.Frag) (fd : FuncData) (sp : Sp), K.In h ∧ (∀ (s : Shared) (u : Value), BindsTo s fd ⟨[u], []⟩ [(x, u)]) ∧
        (∀ (H : Hp) (a : Addr) (ns : List Int), ns.length ≤ n → SqL K H a (ns.map V.int) → sp [.ref a] H (fun v _ => v = .bl true) fun _ _ _ => False) ∧
        ∀ base : Heap, K.In base → base.Ns mainGlobals mg → FnOk l.prog w K mg base (CX w) k fa fd [x] sp)
    (hCX : ∀ (w : World) (H : Hp) (s : Shared) (e : Value) (s' : Shared), CX w [] H s (fun _ _ _ => False) e s' → False) :
    PySem.W.WalkO q loose XP YP l.row.toRowW d [] (fun f vs => PySem.call f vs) := by
  refine Att.attach_call hn hdf fun w s0 s1 mg mb fa o pm cd doc a vs ns G Y ho hd hcd hmg hobj hints hlen hg => ?_
  obtain ⟨K, fd, sp, KX, hb, hsp, hF⟩ := F w mg fa _ Y G.T.g hmg
  exact law_call KX G.T.g G.T.b G.T.builtins G.T.nolimit hg hobj hints (Nat.le_trans hlen hn2) hr hF hb (fun H hO hS => hsp H a ns hlen hS) fun H e s' => hCX w H s1 e s'
/-- the law, where the small language's run says True at every script -/
theorem law_of {P : Program} {w : World} {K : PySem.W.Frag} {h : Heap} {mg : Str → Option Value} {g : SigS} {ts : List Tx} {defs : List (Str × Df)} {k : Nat} {x : Str} {fa : Addr} (X : K.In h) (G : h.Ns mainGlobals mg) (hp : g.globs.all (fun p => gvPlain p.2) = true) (c : He.SaysD (faOf g ts) (ts.map ddOf) K)
    (ck : ckAll g ts defs = true) (hps : (ts.all fun t => !decide (t.nm = ("law" : Str)) || decide (t.ps = [x])) = true) (hd : (g.defs.any fun p => decide (p.1 = ("law" : Str))) = true) (hfa : mg ("law" : Str) = some (.ref fa))
    (run : ∀ ns : List Int, ns.length ≤ 63 → ∃ st, callF defs g.excs (k + 1) "law" [.scr ns] [] = .ok (.bl true) st) :
    ∃ (K : PySem.W.Frag) (fd : FuncData) (sp : Sp), K.In h ∧ (∀ (s : Shared) (u : Value), BindsTo s fd ⟨[u], []⟩ [(x, u)]) ∧
        (∀ (H : Hp) (a : Addr) (ns : List Int), ns.length ≤ 63 → SqL K H a (ns.map V.int) → sp [.ref a] H (fun v _ => v = .bl true) fun _ _ _ => False) ∧
        ∀ base : Heap, K.In base → base.Ns mainGlobals mg → FnOk P w K mg base (L2.CX P w) (k + 1) fa fd [x] sp := by
  have M : ModOk P w K mg g ts := modOk_of X G hp c
  obtain ⟨p, hpd, hpn⟩ := List.any_eq_true.mp hd
  have en := of_decide_eq_true hpn
  obtain ⟨t, ht, d, tn, e, hk⟩ := ckAll_of ck hpd
  have ps : t.ps = [x] := by
    have := List.all_eq_true.mp hps t ht
    rw [tn, en] at this
    simpa using this
  obtain ⟨fa', fd, F, hm⟩ := M.defs t ht
  rw [tn, en, hfa] at hm
  cases hm
  have hk0 := hk
  unfold ckDf at hk0
  simp only [Bool.and_eq_true] at hk0
  have bd : ∀ (s : Shared) (u : Value), BindsTo s fd ⟨[u], []⟩ [(x, u)] := fun s u => by
    have := FunD.bindsA (ps := t.ps) F (bind_gen (plainB_of hk0.1.1.1.1) (by rw [ps]; simp)) s [u] (by rw [ps]; rfl)
    rw [ps] at this
    exact this
  refine ⟨K, fd, spOf K (callF defs g.excs (k + 1)) "law", X, bd, fun H a ns hl hS => ?_, fun base _ _ => ?_⟩
  · obtain ⟨st, e⟩ := run ns hl
    refine ⟨⟨[], []⟩, [], [.scr ns], ⟨rfl, List.nodup_nil, fun l a o h => by simp at h, fun a h => by simp at h⟩, .cons (.scr ?_) .nil, ?_⟩
    · rcases hS with hS | hS
      · exact .inl ⟨hS, fun m => by rcases m with m | m <;> simp at m⟩
      · exact .inr hS
    · rw [e]
      intro ρ' w' H' _ _ q
      cases q
      rfl
  · have := fnOk_step (base := base) (n := k) (p := p) M F e hk (fnOk_all M ck k)
    rw [ps, en] at this
    exact this
end Rc
/-! Re: equations by which runs of the small language are reckoned. -/
namespace Rc
open PySem
section
variable {st : Store} {i j k : Int} {x y : Str} {b c : Bool} {vs ws : List Val} {v w : Val} {l m : Nat} {n : Nat}
@[simp] theorem e_ofS {α : Type} (a : α) : ofOpt (some a) = ret a := (rfl)
@[simp] theorem e_ofN {α : Type} : ofOpt (none : Option α) = stuck := (rfl)
@[simp] theorem e_asBl : asBl (.bl b) = ret b := (rfl)
@[simp] theorem e_asInt : asInt (.int i) = ret i := (rfl)
@[simp] theorem e_gvi : gvVal (.int i) = .int i := (rfl)
@[simp] theorem e_gvs : gvVal (.str x) = .str x := (rfl)
@[simp] theorem e_gvt {ss : List Str} : gvVal (.tups ss) = .tup (ss.map .str) := (rfl)
@[simp] theorem e_mkv {new : Bool} : mk new (.v v) = ret v := by cases new <;> exact (rfl)
@[simp] theorem e_mkf : mk false (.l vs) = ret (.lst vs) := (rfl)
@[simp] theorem e_mkt : mk true (.l vs) st = .ok (.loc st.length) (st ++ [.lst vs]) := (rfl)
@[simp] theorem e_add : opAdd st (.int i) (.int j) = some (.v (.int (i + j))) := (rfl)
@[simp] theorem e_addS : opAdd st (.str x) (.str y) = if szOk (x.length + y.length) then some (.v (.str (x ++ y))) else none := (rfl)
@[simp] theorem e_addT : opAdd st (.tup vs) (.tup ws) = if szOk (vs.length + ws.length) then some (.v (.tup (vs ++ ws))) else none := (rfl)
@[simp] theorem e_addL : opAdd st (.lst vs) (.lst ws) = if szOk (vs.length + ws.length) then some (.l (vs ++ ws)) else none := (rfl)
@[simp] theorem e_sub : opSub (.int i) (.int j) = some (.int (i - j)) := (rfl)
@[simp] theorem e_mul : opMul (.int i) (.int j) = if mulOk i j then some (.int (i * j)) else none := (rfl)
@[simp] theorem e_mulT : opMul (.tup vs) (.int k) = if decide (0 ≤ k) && decide (k ≤ 1000) && decide (vs.length ≤ 1000) then some (.tup (List.replicate k.toNat vs).flatten) else none := (rfl)
@[simp] theorem e_mod : opMod (.int i) (.int j) = if 0 < j then some (.int (i % j)) else none := (rfl)
@[simp] theorem e_div : opDiv (.int i) (.int j) = if decide (0 < j) && decide (j < 1073741824) then some (.int (i / j)) else none := (rfl)
@[simp] theorem e_pow : opPow (.int i) (.int j) = if decide (0 ≤ j) && decide (j ≤ 1000000) && decide (i.natAbs < 2 ^ 64) then some (.int (i ^ j.toNat)) else none := (rfl)
@[simp] theorem e_lt : cmpLt (.int i) (.int j) = some (decide (i < j)) := (rfl)
@[simp] theorem e_le : cmpLe (.int i) (.int j) = some (decide (i ≤ j)) := (rfl)
@[simp] theorem e_eqi : veq st (.int i) (.int j) = some (decide (i = j)) := (rfl)
@[simp] theorem e_eqb : veq st (.bl b) (.bl c) = some (decide (b = c)) := (rfl)
@[simp] theorem e_eqs : veq st (.str x) (.str y) = some (decide (x = y)) := (rfl)
@[simp] theorem e_is : isOp v .non = some (isNon v) := (rfl)
@[simp] theorem e_n0 : isNon .non = true := (rfl)
@[simp] theorem e_n1 : isNon (.bl b) = false := (rfl)
@[simp] theorem e_n2 : isNon (.int i) = false := (rfl)
@[simp] theorem e_n3 : isNon (.str x) = false := (rfl)
@[simp] theorem e_n4 : isNon (.tup vs) = false := (rfl)
@[simp] theorem e_n5 : isNon (.lst vs) = false := (rfl)
@[simp] theorem e_n6 : isNon (.loc l) = false := (rfl)
@[simp] theorem e_lstL : lstOf st (.lst vs) = some vs := (rfl)
def obL : Option Ob → Option (List Val)
  | some (.lst xs) => some xs
  | _ => none
@[simp] theorem e_obL : obL (some (.lst vs)) = some vs := (rfl)
@[simp] theorem e_lstO : lstOf st (.loc l) = obL st[l]? := by
  unfold lstOf obL
  rfl
@[simp] theorem e_seqT : seqOf st (.tup vs) = some vs := (rfl)
@[simp] theorem e_seqL : seqOf st (.lst vs) = some vs := (rfl)
@[simp] theorem e_seqO : seqOf st (.loc l) = obL st[l]? := by
  show lstOf st (.loc l) = _
  rw [e_lstO]
@[simp] theorem e_ixT : ixOp st (.tup vs) (.int i) = L2.atI vs i := (rfl)
@[simp] theorem e_ixL : ixOp st (.lst vs) (.int i) = L2.atI vs i := (rfl)
@[simp] theorem e_ixO : ixOp st (.loc l) (.int i) = ixSeq i (obL st[l]?) := by
  show ixSeq i (lstOf st (.loc l)) = _
  rw [e_lstO]
@[simp] theorem e_ixS : ixSeq i (some vs) = L2.atI vs i := (rfl)
@[simp] theorem e_ixStr : ixOp st (.str x) (.int i) = if szOk x.length then (L2.atI x.cps.toList i).map fun c => .str ⟨#[c]⟩ else none := (rfl)
@[simp] theorem e_slT {lo hi : Option Int} : slOp st (.tup vs) lo hi = some (.v (.tup (cut vs lo hi))) := (rfl)
@[simp] theorem e_slL {lo hi : Option Int} : slOp st (.lst vs) lo hi = some (.l (cut vs lo hi)) := (rfl)
@[simp] theorem e_slS {lo hi : Option Int} {ns : List Int} : slOp st (.scr ns) lo hi = some (.l (cut (ns.map .int) lo hi)) := (rfl)
@[simp] theorem e_revT : revOp st (.tup vs) = some (.v (.tup vs.reverse)) := (rfl)
@[simp] theorem e_revL : revOp st (.lst vs) = some (.l vs.reverse) := (rfl)
@[simp] theorem e_lenT : biLen st [.tup vs] = some (.int vs.length) := (rfl)
@[simp] theorem e_lenL : biLen st [.lst vs] = some (.int vs.length) := (rfl)
@[simp] theorem e_lenO : biLen st [.loc l] = (obL st[l]?).map fun xs => .int xs.length := by
  show (seqOf st (.loc l)).map _ = _
  rw [e_seqO]
@[simp] theorem e_lenS : biLen st [.str x] = if szOk x.length then some (.int x.length) else none := (rfl)
@[simp] theorem e_max : biMax st [.int i, .int j] = some (.int (if j > i then j else i)) := (rfl)
@[simp] theorem e_min : biMin st [.int i, .int j] = some (.int (if j < i then j else i)) := (rfl)
@[simp] theorem e_maxL : biMax st [.lst vs] = ((mapO toInt vs).bind maxi).map .int := (rfl)
@[simp] theorem e_minL : biMin st [.lst vs] = ((mapO toInt vs).bind mini).map .int := (rfl)
@[simp] theorem e_maxT : biMax st [.tup vs] = ((mapO toInt vs).bind maxi).map .int := (rfl)
@[simp] theorem e_minT : biMin st [.tup vs] = ((mapO toInt vs).bind mini).map .int := (rfl)
@[simp] theorem e_all : biAll st [.lst vs] = (mapO toBl vs).map fun bs => .bl (bs.all id) := (rfl)
@[simp] theorem e_any : biAny st [.lst vs] = (mapO toBl vs).map fun bs => .bl (bs.any id) := (rfl)
@[simp] theorem e_tupL : biTuple st [.lst vs] = some (.tup vs) := (rfl)
@[simp] theorem e_tupT : biTuple st [.tup vs] = some (.tup vs) := (rfl)
@[simp] theorem e_tupO : biTuple st [.loc l] = (obL st[l]?).map .tup := by
  show (seqOf st (.loc l)).map _ = _
  rw [e_seqO]
@[simp] theorem e_listL : biList st [.lst vs] = some (.l vs) := (rfl)
@[simp] theorem e_listT : biList st [.tup vs] = some (.l vs) := (rfl)
@[simp] theorem e_listO : biList st [.loc l] = (obL st[l]?).map .l := by
  show (seqOf st (.loc l)).map _ = _
  rw [e_seqO]
@[simp] theorem e_intI : biInt [.int i] = some (.int i) := (rfl)
@[simp] theorem e_intB : biInt [.bl b] = some (.int (if b then 1 else 0)) := (rfl)
@[simp] theorem e_isn {q : Kd} : isinOp st .non q = some false := (rfl)
@[simp] theorem e_isb {q : Kd} : isinOp st (.bl b) q = some (decide (Kd.bool = q) || decide (q = .int)) := by cases q <;> exact (rfl)
@[simp] theorem e_isi {q : Kd} : isinOp st (.int i) q = some (decide (Kd.int = q)) := by cases q <;> exact (rfl)
@[simp] theorem e_iss {q : Kd} : isinOp st (.str x) q = some (decide (Kd.str = q)) := by cases q <;> exact (rfl)
@[simp] theorem e_ist {q : Kd} : isinOp st (.tup vs) q = some (decide (Kd.tuple = q)) := by cases q <;> exact (rfl)
@[simp] theorem e_isl {q : Kd} : isinOp st (.lst vs) q = some (decide (Kd.list = q)) := by cases q <;> exact (rfl)
@[simp] theorem e_inT : opIn st v (.tup vs) = if flat v && vs.all flat then some (vs.any fun y => eqF y v) else none := (rfl)
@[simp] theorem e_inL : opIn st v (.lst vs) = if flat v && vs.all flat then some (vs.any fun y => eqF y v) else none := (rfl)
@[simp] theorem e_tyS {m : Mt} {x : Str} : tyOk m st (.str x) = mtIsStr m := by cases m <;> exact (rfl)
@[simp] theorem e_tyL {m : Mt} : tyOk m st (.loc l) = (!mtIsStr m && (obL st[l]?).isSome) := by
  unfold tyOk
  rw [e_lstO]
  cases m <;> rfl
@[simp] theorem e_ms1 : mtIsStr .append = false := (rfl)
@[simp] theorem e_ms2 : mtIsStr .extend = false := (rfl)
@[simp] theorem e_ms3 : mtIsStr .pop = false := (rfl)
@[simp] theorem e_ms4 : mtIsStr .clear = false := (rfl)
@[simp] theorem e_ms5 : mtIsStr .insert = false := (rfl)
@[simp] theorem e_ms6 : mtIsStr .join = true := (rfl)
@[simp] theorem e_ms7 : mtIsStr .split = true := (rfl)
@[simp] theorem e_ms8 : mtIsStr .sindex = true := (rfl)
@[simp] theorem e_mtL {m : Mt} {new : Bool} : mtOp new m (.loc l) vs = wrLst m l vs := (rfl)
@[simp] theorem e_mtJ {new : Bool} {x : Str} {w : Val} : mtOp new .join (.str x) [w] st = bnd (ofOpt (joinOp st x w)) (fun x => ret (.str x)) st := (rfl)
theorem wr_append {xs : List Val} {y : Val} (h : st[l]? = some (.lst xs)) (hz : xs.length + 1 ≤ sizeLine) : wrLst .append l [y] st = .ok .non (st.set l (.lst (xs ++ [y]))) := by
  unfold wrLst
  rw [h]
  show (if szOk (xs ++ [y]).length = true then _ else _) = _
  rw [if_pos]
  show decide _ = true
  rw [List.length_append]
  exact decide_eq_true hz
@[simp] theorem e_fi : flat (.int i) = true := (rfl)
@[simp] theorem e_fs : flat (.str x) = true := (rfl)
@[simp] theorem e_fb : flat (.bl b) = true := (rfl)
@[simp] theorem e_fn : flat .non = true := (rfl)
@[simp] theorem e_fii : eqF (.int i) (.int j) = (i == j) := (rfl)
@[simp] theorem e_fss : eqF (.str x) (.str y) = (x == y) := (rfl)
@[simp] theorem e_mo0 {α β : Type} {f : α → Option β} : mapO f [] = some [] := (rfl)
theorem e_moc {α β : Type} {f : α → Option β} {a : α} {as : List α} : mapO f (a :: as) = (f a).bind fun w => (mapO f as).map (w :: ·) := (rfl)
@[simp] theorem e_moI : ∀ {ns : List Int}, mapO toInt (ns.map .int) = some ns
  | [] => rfl
  | n :: ns => by rw [List.map_cons, e_moc, e_moI]; rfl
@[simp] theorem e_moB : ∀ {bs : List Bool}, mapO toBl (bs.map .bl) = some bs
  | [] => rfl
  | n :: ns => by rw [List.map_cons, e_moc, e_moB]; rfl
@[simp] theorem e_itT : itemsOf st (.tup vs) = some ⟨vs, none⟩ := (rfl)
@[simp] theorem e_itL : itemsOf st (.lst vs) = some ⟨vs, none⟩ := (rfl)
@[simp] theorem e_stl : Still ⟨vs, none⟩ st = True := (rfl)
@[simp] theorem e_tgN {env : Env} : assignTg (.nm n) v env = some (env.set n (some v)) := (rfl)
@[simp] theorem e_tgT {env : Env} {is : List Nat} : assignTg (.tup is) (.tup vs) env = setAll is vs env := (rfl)
@[simp] theorem e_sa0 {env : Env} : setAll [] [] env = some env := (rfl)
@[simp] theorem e_saC {env : Env} {is : List Nat} : setAll (n :: is) (v :: vs) env = setAll is vs (env.set n (some v)) := (rfl)
@[simp] theorem e_set : setOp st (.loc l) (.int k) v = setAt st l k v st[l]? := (rfl)
@[simp] theorem e_sat : setAt st l k v (some (.lst vs)) = (L2.ixN vs.length k).map fun j => st.set l (.lst (vs.set j v)) := (rfl)
end
section
variable (C : Str → List Val → M Val) (xs : List Str) (env : Env)
@[simp] theorem v_var (i : Nat) : evE C (.var i) env = getVar env i := by unfold evE; rfl
@[simp] theorem v_int (i : Int) : evE C (.int i) env = ret (.int i) := by unfold evE; rfl
@[simp] theorem v_str (s : Str) : evE C (.str s) env = ret (.str s) := by unfold evE; rfl
@[simp] theorem v_bl (b : Bool) : evE C (.bl b) env = ret (.bl b) := by unfold evE; rfl
@[simp] theorem v_non : evE C .non env = ret .non := by unfold evE; rfl
@[simp] theorem v_glob (x : Str) (g : Gv) : evE C (.glob x g) env = ret (gvVal g) := by unfold evE; rfl
@[simp] theorem v_bin (new : Bool) (op : Operator) (a b : E) : evE C (.bin new op a b) env = bnd (evE C a env) fun v => bnd (evE C b env) fun w => fun st => bnd (ofOpt (binOp st op v w)) (mk new) st := by conv => lhs; unfold evE
@[simp] theorem v_neg (a : E) : evE C (.neg a) env = bnd (bnd (evE C a env) asInt) fun i => ret (.int (-i)) := by conv => lhs; unfold evE
@[simp] theorem v_not (a : E) : evE C (.not a) env = bnd (bnd (evE C a env) asBl) fun b => ret (.bl (!b)) := by conv => lhs; unfold evE
@[simp] theorem v_bop (op : BoolOp) (es : Es) : evE C (.bop op es) env = evB C op es env := by conv => lhs; unfold evE
@[simp] theorem v_b1 (op : BoolOp) (e : E) : evB C op (.cons e .nil) env = evE C e env := by cases op <;> (conv => lhs; unfold evB)
@[simp] theorem v_and (e e2 : E) (es : Es) : evB C .And (.cons e (.cons e2 es)) env = bnd (bnd (evE C e env) asBl) fun k => if k = true then evB C .And (.cons e2 es) env else ret (.bl false) := by
  conv => lhs; unfold evB
  show bnd _ (fun k => if k = true then _ else _) = _
  congr 1
  funext k
  cases k <;> rfl
@[simp] theorem v_or (e e2 : E) (es : Es) : evB C .Or (.cons e (.cons e2 es)) env = bnd (bnd (evE C e env) asBl) fun k => if k = true then ret (.bl true) else evB C .Or (.cons e2 es) env := by
  conv => lhs; unfold evB
  show bnd _ (fun k => if k = false then _ else _) = _
  congr 1
  funext k
  cases k <;> rfl
@[simp] theorem v_cmp (op : CmpOp) (a b : E) : evE C (.cmp op a b) env = bnd (evE C a env) fun v => bnd (evE C b env) fun w => fun st => bnd (ofOpt (cmpOp st op v w)) (fun b => ret (.bl b)) st := by conv => lhs; unfold evE
@[simp] theorem v_chain (o1 o2 : CmpOp) (a b c : E) : evE C (.chain o1 o2 a b c) env = bnd (evE C a env) fun v => bnd (evE C b env) fun w => fun st => bnd (ofOpt (cmpOp st o1 v w)) (fun k =>
    if k = true then bnd (evE C c env) fun u => fun st => bnd (ofOpt (cmpOp st o2 w u)) (fun b => ret (.bl b)) st else ret (.bl false)) st := by conv => lhs; unfold evE
@[simp] theorem v_ife (c a b : E) : evE C (.ife c a b) env = bnd (bnd (evE C c env) asBl) fun k => if k = true then evE C a env else evE C b env := by conv => lhs; unfold evE
@[simp] theorem v_tup (es : Es) : evE C (.tup es) env = bnd (evEs C es env) fun vs => if szOk vs.length = true then ret (.tup vs) else stuck := by conv => lhs; unfold evE
@[simp] theorem v_lst (new : Bool) (es : Es) : evE C (.lst new es) env = bnd (evEs C es env) fun vs => if szOk vs.length = true then mk new (.l vs) else stuck := by conv => lhs; unfold evE
@[simp] theorem v_ix (a b : E) : evE C (.ix a b) env = bnd (evE C a env) fun v => bnd (evE C b env) fun w => fun st => bnd (ofOpt (ixOp st v w)) ret st := by conv => lhs; unfold evE
@[simp] theorem v_sl (new : Bool) (a : E) (lo hi : Oe) : evE C (.sl new a lo hi) env = bnd (evE C a env) fun v => bnd (evO C lo env) fun l => bnd (evO C hi env) fun h => fun st => bnd (ofOpt (slOp st v l h)) (mk new) st := by conv => lhs; unfold evE
@[simp] theorem v_rev (new : Bool) (a : E) : evE C (.rev new a) env = bnd (evE C a env) fun v => fun st => bnd (ofOpt (revOp st v)) (mk new) st := by conv => lhs; unfold evE
@[simp] theorem v_callR (f : Str) (es : Es) : evE C (.call f .raw es) env = bnd (evEs C es env) fun vs => C f vs := by conv => lhs; unfold evE
@[simp] theorem v_callC (f : Str) (es : Es) : evE C (.call f .cut es) env = bnd (evEs C es env) fun vs => cutM (C f vs) := by conv => lhs; unfold evE
@[simp] theorem v_bi (new : Bool) (b : Bi) (es : Es) : evE C (.bi new b es) env = bnd (evEs C es env) fun vs => fun st => bnd (ofOpt (biOp st b vs)) (mk new) st := by conv => lhs; unfold evE
@[simp] theorem v_isin (a : E) (k : Kd) : evE C (.isin a k) env = bnd (evE C a env) fun v => fun st => bnd (ofOpt (isinOp st v k)) (fun b => ret (.bl b)) st := by conv => lhs; unfold evE
@[simp] theorem v_mth (new : Bool) (m : Mt) (o : E) (es : Es) : evE C (.mth new m o es) env = bnd (evE C o env) fun v => fun st => if tyOk m st v = true then bnd (evEs C es env) (fun vs => mtOp new m v vs) st else .stuck := by conv => lhs; unfold evE
@[simp] theorem v_lrange (new : Bool) (a b : E) : evE C (.lrange new a b) env = bnd (bnd (evE C a env) asInt) fun i => bnd (bnd (evE C b env) asInt) fun j => if rngOk i j = true then mk new (.l (rangeV i j)) else stuck := by conv => lhs; unfold evE
@[simp] theorem v_lc (new : Bool) (own : List Nat) (tg : Tg) (it : It) (ifs : Es) (e : E) : evE C (.lc new own tg it ifs e) env = lcSem new own (evI C it) tg (evT C ifs) (evE C e) env := by conv => lhs; unfold evE
@[simp] theorem v_es0 : evEs C .nil env = ret [] := by unfold evEs; rfl
@[simp] theorem v_es1 (e : E) (es : Es) : evEs C (.cons e es) env = bnd (evE C e env) fun v => bnd (evEs C es env) fun vs => ret (v :: vs) := by conv => lhs; unfold evEs
@[simp] theorem v_o0 : evO C .none env = ret none := by unfold evO; rfl
@[simp] theorem v_o1 (e : E) : evO C (.some e) env = bnd (bnd (evE C e env) asInt) fun i => ret (some i) := by conv => lhs; unfold evO
@[simp] theorem v_t0 : evT C .nil env = ret true := by unfold evT; rfl
@[simp] theorem v_t1 (e : E) : evT C (.cons e .nil) env = bnd (evE C e env) asBl := by conv => lhs; unfold evT
@[simp] theorem v_seq (e : E) : evI C (.seq e) env = bnd (evE C e env) fun v => fun st => ofOpt (itemsOf st v) st := by conv => lhs; unfold evI
@[simp] theorem v_rng1 (a : E) : evI C (.rng1 a) env = bnd (bnd (evE C a env) asInt) fun j => if rngOk 0 j = true then ret ⟨rangeV 0 j, none⟩ else stuck := by conv => lhs; unfold evI
@[simp] theorem v_rng2 (a b : E) : evI C (.rng2 a b) env = bnd (bnd (evE C a env) asInt) fun i => bnd (bnd (evE C b env) asInt) fun j => if rngOk i j = true then ret ⟨rangeV i j, none⟩ else stuck := by conv => lhs; unfold evI
@[simp] theorem x_asg (tg : Tg) (e : E) : exS C xs (.asg tg e) env = lift env (evE C e env) fun v st => optS (assignTg tg v env) fun env' => .ok (.nx env') st := by conv => lhs; unfold exS
@[simp] theorem x_sset (o i e : E) : exS C xs (.sset o i e) env = lift env (evE C e env) fun v => lift env (evE C o env) fun ov => lift env (evE C i env) fun iv st => optS (setOp st ov iv v) fun st' => .ok (.nx env) st' := by conv => lhs; unfold exS
@[simp] theorem x_expr (e : E) : exS C xs (.expr e) env = lift env (evE C e env) fun _ st => .ok (.nx env) st := by conv => lhs; unfold exS
@[simp] theorem x_ret (e : E) : exS C xs (.ret e) env = lift env (evE C e env) fun v st => .ok (.rt v) st := by conv => lhs; unfold exS
@[simp] theorem x_retN : exS C xs .retN env = fun st => .ok (.rt .non) st := by conv => lhs; unfold exS
@[simp] theorem x_iff (c : E) (a b : Ss) : exS C xs (.iff c a b) env = lift env (bnd (evE C c env) asBl) fun k => if k = true then exSs C xs a env else exSs C xs b env := by conv => lhs; unfold exS
@[simp] theorem x_for (tg : Tg) (it : It) (body : Ss) : exS C xs (.forS tg it body) env = lift env (evI C it env) fun is => forLoop (exSs C xs body) tg (Still is) is.xs env := by conv => lhs; unfold exS
@[simp] theorem x_pass : exS C xs .pass env = fun st => .ok (.nx env) st := by conv => lhs; unfold exS
@[simp] theorem x_raise (c m : Str) : exS C xs (.raiseS c m) env = fun st => .exc c none env st := by conv => lhs; unfold exS
@[simp] theorem x_try (body : Ss) (hs : Hs) : exS C xs (.tryS body hs) env = fun st => match exSs C xs body env st with
    | .exc c row env' st' => if xs.contains c = true then exHs C xs c row hs env' st' else .stuck
    | r => r := by
  funext st
  unfold exS
  cases exSs C xs body env st <;> rfl
end
end Rc
/-! Rw: what a run of statements must come to, laid out from the end. -/
namespace Rc
open PySem
section
variable {C : Str → List Val → M Val} {xs : List Str} {env : Env} {st : Store} {N : Env → Store → Prop} {T : Val → Store → Prop}
@[simp] theorem x_nil : exSs C xs .nil env st = .ok (.nx env) st := by unfold exSs; rfl
/-- N holds where the run goes on, T where it returns -/
def WP (r : RS) (N : Env → Store → Prop) (T : Val → Store → Prop) : Prop := match r with
  | .ok (.nx e) st => N e st
  | .ok (.rt v) st => T v st
  | _ => False
/-- the same, with statements still to come -/
def WPK (r : RS) (C : Str → List Val → M Val) (xs : List Str) (ss : Ss) (N : Env → Store → Prop) (T : Val → Store → Prop) : Prop := WP r (fun e s => WP (exSs C xs ss e s) N T) T
@[simp] theorem wp_nx : WP (.ok (.nx env) st) N T = N env st := rfl
@[simp] theorem wp_rt {v : Val} : WP (.ok (.rt v) st) N T = T v st := rfl
@[simp] theorem wpk_nx {ss : Ss} : WPK (.ok (.nx env) st) C xs ss N T = WP (exSs C xs ss env st) N T := rfl
@[simp] theorem wpk_rt {ss : Ss} {v : Val} : WPK (.ok (.rt v) st) C xs ss N T = T v st := rfl
@[simp] theorem wp_cons {s : S} {ss : Ss} : WP (exSs C xs (.cons s ss) env st) N T = WPK (exS C xs s env st) C xs ss N T := by
  unfold exSs WPK
  rcases exS C xs s env st with ⟨f, st1⟩ | ⟨c, r, e, st1⟩ | _
  · cases f <;> rfl
  · rfl
  · rfl
/-- two runs of statements as one -/
def app : Ss → Ss → Ss
  | .nil, b => b
  | .cons s a, b => .cons s (app a b)
@[simp] theorem app_nil {b : Ss} : app .nil b = b := rfl
@[simp] theorem app_cons {s : S} {a b : Ss} : app (.cons s a) b = .cons s (app a b) := rfl
theorem wp_app : ∀ {a b : Ss} {env : Env} {st : Store}, WP (exSs C xs (app a b) env st) N T = WPK (exSs C xs a env st) C xs b N T
  | .nil, b, env, st => by
    rw [app_nil, x_nil, wpk_nx]
  | .cons s a, b, env, st => by
    rw [app_cons, wp_cons]
    have ih := fun (env : Env) (st : Store) => wp_app (a := a) (b := b) (env := env) (st := st)
    unfold exSs WPK
    rcases exS C xs s env st with ⟨f, st1⟩ | ⟨c, r, e, st1⟩ | _
    · cases f
      · exact ih _ _
      · rfl
    · rfl
    · rfl
@[simp] theorem wpk_ss {a b : Ss} : WPK (exSs C xs a env st) C xs b N T = WP (exSs C xs (app a b) env st) N T := wp_app.symm
@[simp] theorem ite_at {β : Type} {p : Prop} [Decidable p] {f g : Store → β} : (if p then f else g) st = if p then f st else g st := by split <;> rfl
@[simp] theorem wpk_ite {p : Prop} [Decidable p] {a b : RS} {ss : Ss} : WPK (if p then a else b) C xs ss N T = if p then WPK a C xs ss N T else WPK b C xs ss N T := by split <;> rfl
theorem wpk_wp {r : RS} {ss : Ss} : WPK r C xs ss N T = WP r (fun e s => WP (exSs C xs ss e s) N T) T := rfl
theorem wp_mono {r : RS} {N' : Env → Store → Prop} {T' : Val → Store → Prop} (h : WP r N T) (hn : ∀ e s, N e s → N' e s) (ht : ∀ v s, T v s → T' v s) : WP r N' T' := by
  rcases r with ⟨f, st1⟩ | ⟨c, r, e, st1⟩ | _
  · cases f
    · exact hn _ _ h
    · exact ht _ _ h
  · exact h
  · exact h
theorem wp_run {d : Df} {args : List Val} (hl : args.length = d.ps) (h : WP (exSs C xs d.body (startEnv d.ns args) st) (fun _ st => T .non st) T) : ∃ v st', runDf C xs d args st = .ok v st' ∧ T v st' := by
  unfold runDf
  rw [if_pos hl]
  revert h
  rcases exSs C xs d.body (startEnv d.ns args) st with ⟨f, st1⟩ | ⟨c, r, e, st1⟩ | _
  · cases f
    · intro h
      exact ⟨_, _, rfl, h⟩
    · intro h
      exact ⟨_, _, rfl, h⟩
  · exact fun h => h.elim
  · exact fun h => h.elim
theorem wp_eq {d : Df} {args : List Val} {w : Val} {st2 : Store} (hl : args.length = d.ps) (h : WP (exSs C xs d.body (startEnv d.ns args) st) (fun _ st => .non = w ∧ st = st2) (fun v st => v = w ∧ st = st2)) : runDf C xs d args st = .ok w st2 := by
  obtain ⟨v, s, e, h⟩ := wp_run (T := fun v st => v = w ∧ st = st2) hl h
  rw [e, h.1, h.2]
/-- a loop by its invariant -/
theorem wp_for {body : Env → Store → RS} {tg : Tg} {ys : List Val} (I : Env → Store → Prop) : ∀ {zs : List Val}, (∀ x ∈ zs, ∀ env st, I env st → ∃ env', assignTg tg x env = some env' ∧ WP (body env' st) I T) →
    ∀ {env : Env} {st : Store}, I env st → WP (forLoop body tg (Still ⟨ys, none⟩) zs env st) I T
  | [], _, env, st, h => by
    rw [forLoop_nil (by simp)]
    exact h
  | x :: zs, hb, env, st, h => by
    obtain ⟨env', e1, e2⟩ := hb x (List.mem_cons_self ..) env st h
    rw [forLoop_cons (by simp) e1]
    have ih := fun (env : Env) (st : Store) (h : I env st) => wp_for (ys := ys) I (fun y hy => hb y (List.mem_cons_of_mem _ hy)) h
    revert e2
    rcases body env' st with ⟨f, st1⟩ | ⟨c, r, e, st1⟩ | _
    · cases f
      · exact fun h => ih _ _ h
      · exact fun h => h
    · exact fun h => h
    · exact fun h => h
theorem wpk_for {body : Env → Store → RS} {tg : Tg} {ys : List Val} {ss : Ss} (I : Env → Store → Prop) {zs : List Val} {env : Env} {st : Store} (h0 : I env st) (hb : ∀ x ∈ zs, ∀ env st, I env st → ∃ env', assignTg tg x env = some env' ∧ WP (body env' st) I T)
    (hn : ∀ env st, I env st → WP (exSs C xs ss env st) N T) : WPK (forLoop body tg (Still ⟨ys, none⟩) zs env st) C xs ss N T :=
  wp_mono (wp_for I hb h0) hn fun _ _ h => h
end
theorem bnd_ok {α β : Type} {m : M α} {f : α → M β} {st st' : Store} {a : α} (h : m st = .ok a st') : bnd m f st = f a st' := by
  unfold bnd
  rw [h]
/-! ### comprehensions -/
/-- a comprehension whose turns leave the store alone -/
theorem lc_pure {turn : Val → M (Option Val)} {ys : List Val} {st : Store} {g : Val → Option Val} : ∀ {zs acc : List Val}, (∀ x ∈ zs, turn x st = .ok (g x) st) → lcLoop turn (Still ⟨ys, none⟩) zs acc st = .ok (acc ++ zs.filterMap g) st
  | [], acc, _ => by
    unfold lcLoop
    simp
  | x :: zs, acc, h => by
    unfold lcLoop
    rw [if_pos (by simp), h x (List.mem_cons_self ..)]
    rcases hg : g x with _ | y
    · dsimp only
      rw [lc_pure fun y hy => h y (List.mem_cons_of_mem _ hy)]
      simp [hg]
    · dsimp only
      rw [lc_pure fun y hy => h y (List.mem_cons_of_mem _ hy)]
      simp [hg]
/-- a comprehension without tests whose turns may change the store -/
theorem lc_inv {turn : Val → M (Option Val)} {ys : List Val} (I : Store → Prop) (Q : Val → Prop) : ∀ {zs acc : List Val} {st : Store}, (∀ x ∈ zs, ∀ st, I st → ∃ y st', turn x st = .ok (some y) st' ∧ Q y ∧ I st') → I st → (∀ y ∈ acc, Q y) →
    ∃ ws st', lcLoop turn (Still ⟨ys, none⟩) zs acc st = .ok ws st' ∧ ws.length = acc.length + zs.length ∧ (∀ y ∈ ws, Q y) ∧ I st'
  | [], acc, st, _, hi, hq => ⟨acc, st, by unfold lcLoop; rfl, by simp, hq, hi⟩
  | x :: zs, acc, st, h, hi, hq => by
    obtain ⟨y, st1, e, qy, h1⟩ := h x (List.mem_cons_self ..) st hi
    obtain ⟨ws, st2, e2, l, q, i⟩ := lc_inv (turn := turn) (ys := ys) I Q (zs := zs) (acc := acc ++ [y]) (fun y hy => h y (List.mem_cons_of_mem _ hy)) h1 (by
      intro z hz
      rcases List.mem_append.mp hz with hz | hz
      · exact hq z hz
      · rw [List.mem_singleton.mp hz]
        exact qy)
    refine ⟨ws, st2, ?_, ?_, q, i⟩
    · unfold lcLoop
      rw [if_pos (by simp), e]
      exact e2
    · rw [l]
      simp
      omega
section
variable {C : Str → List Val → M Val} {env : Env} {st : Store}
/-- a comprehension over frozen items, without tests, whose turns leave the store alone -/
theorem lc_map {own : List Nat} {it : It} {tg : Tg} {e : E} {zs : List Val} {st1 : Store} (f : Val → Val) (hi : evI C it env st = .ok ⟨zs, none⟩ st1) (he : ∀ x ∈ zs, ∃ env', assignTg tg x (wipe env own) = some env' ∧ evE C e env' st1 = .ok (f x) st1) :
    lcSem false own (evI C it) tg (evT C .nil) (evE C e) env st = .ok (.lst (zs.map f)) st1 := by
  rw [lcSem_eq]
  unfold lcRaw
  rw [bnd_ok hi]
  have : lcLoop (lcTurn tg own (evT C .nil) (evE C e) env) (Still ⟨zs, none⟩) zs [] st1 = .ok ([] ++ zs.filterMap fun x => some (f x)) st1 := by
    refine lc_pure fun x hx => ?_
    obtain ⟨env', e1, e2⟩ := he x hx
    unfold lcTurn
    rw [e1]
    simp [e2]
  rw [bnd_ok this]
  simp
/-- the same, with a test -/
theorem lc_filter {own : List Nat} {it : It} {tg : Tg} {e t : E} {zs : List Val} {st1 : Store} (p : Val → Bool) (f : Val → Val) (hi : evI C it env st = .ok ⟨zs, none⟩ st1) (he : ∀ x ∈ zs, ∃ env', assignTg tg x (wipe env own) = some env' ∧ evE C t env' st1 = .ok (.bl (p x)) st1 ∧ (p x = true → evE C e env' st1 = .ok (f x) st1)) :
    lcSem false own (evI C it) tg (evT C (.cons t .nil)) (evE C e) env st = .ok (.lst ((zs.filter p).map f)) st1 := by
  rw [lcSem_eq]
  unfold lcRaw
  rw [bnd_ok hi]
  have : lcLoop (lcTurn tg own (evT C (.cons t .nil)) (evE C e) env) (Still ⟨zs, none⟩) zs [] st1 = .ok ([] ++ zs.filterMap fun x => if p x = true then some (f x) else none) st1 := by
    refine lc_pure fun x hx => ?_
    obtain ⟨env', e1, e2, e3⟩ := he x hx
    unfold lcTurn
    rw [e1]
    by_cases hp : p x = true
    · simp [e2, e3 hp, hp]
    · simp [e2, hp]
  rw [bnd_ok this]
  have e : ∀ zs : List Val, (zs.filterMap fun x => if p x = true then some (f x) else none) = (zs.filter p).map f := by
    intro zs
    induction zs with
    | nil => rfl
    | cons z zs ih =>
      by_cases hp : p z = true
      · simp [hp, ih]
      · simp [hp, ih]
  simp [e]
/-- a comprehension that draws -/
theorem lc_draw {own : List Nat} {it : It} {tg : Tg} {e : E} {zs : List Val} {st1 : Store} (I : Store → Prop) (Q : Val → Prop) (hi : evI C it env st = .ok ⟨zs, none⟩ st1) (h1 : I st1) (he : ∀ x ∈ zs, ∀ st, I st → ∃ env' y st', assignTg tg x (wipe env own) = some env' ∧ evE C e env' st = .ok y st' ∧ Q y ∧ I st') :
    ∃ ws st2, lcSem false own (evI C it) tg (evT C .nil) (evE C e) env st = .ok (.lst ws) st2 ∧ ws.length = zs.length ∧ (∀ y ∈ ws, Q y) ∧ I st2 := by
  obtain ⟨ws, st2, e2, l, q, i⟩ := lc_inv (turn := lcTurn tg own (evT C .nil) (evE C e) env) (ys := zs) I Q (zs := zs) (acc := []) (st := st1) (by
    intro x hx st hi
    obtain ⟨env', y, st', e1, e2, q, i⟩ := he x hx st hi
    refine ⟨y, st', ?_, q, i⟩
    unfold lcTurn
    rw [e1]
    simp [e2]) h1 (by simp)
  refine ⟨ws, st2, ?_, by rw [l]; simp, q, i⟩
  rw [lcSem_eq]
  unfold lcRaw
  rw [bnd_ok hi]
  rw [bnd_ok e2]
  simp
end
/-! ### loops that look, and comprehensions, over carried lists -/
section
variable {C : Str → List Val → M Val} {xs : List Str} {env : Env} {st : Store} {N : Env → Store → Prop} {T : Val → Store → Prop} {α : Type}
/-- a loop that returns w at the first item that p lets not by -/
theorem wp_all {body : Env → Store → RS} {tg : Tg} {ys : List Val} (I : Env → Prop) (p : α → Bool) (w : Val) {inj : α → Val} : ∀ {ws : List α} {env : Env}, I env → (∀ x ∈ ws, ∀ env, I env → ∃ env', assignTg tg (inj x) env = some env' ∧ WP (body env' st) (fun e s => s = st ∧ I e ∧ p x = true) (fun v s => s = st ∧ v = w ∧ p x = false)) →
    WP (forLoop body tg (Still ⟨ys, none⟩) (ws.map inj) env st) (fun e s => s = st ∧ I e ∧ ws.all p = true) (fun v s => s = st ∧ v = w ∧ ws.all p = false)
  | [], env, h, _ => by
    rw [List.map_nil]
    rw [forLoop_nil (by simp)]
    exact ⟨rfl, h, rfl⟩
  | x :: ws, env, h, hb => by
    obtain ⟨env', e1, e2⟩ := hb x (List.mem_cons_self ..) env h
    rw [List.map_cons]
    rw [forLoop_cons (by simp) e1]
    have ih := fun (env : Env) (h : I env) => wp_all (body := body) (tg := tg) (ys := ys) I p w h fun y hy => hb y (List.mem_cons_of_mem _ hy)
    revert e2
    rcases body env' st with ⟨f, st1⟩ | ⟨c, r, e, st1⟩ | _
    · cases f
      · rintro ⟨rfl, hi, hp⟩
        refine wp_mono (ih _ hi) ?_ ?_
        · rintro e s ⟨rfl, i, a⟩
          exact ⟨rfl, i, by rw [List.all_cons, hp, a]; rfl⟩
        · rintro e s ⟨rfl, i, a⟩
          exact ⟨rfl, i, by rw [List.all_cons, a, Bool.and_false]⟩
      · rintro ⟨rfl, hi, hp⟩
        exact ⟨rfl, hi, by rw [List.all_cons, hp, Bool.false_and]⟩
    · exact fun h => h
    · exact fun h => h
theorem wpk_all {body : Env → Store → RS} {tg : Tg} {ys : List Val} {ss : Ss} (I : Env → Prop) (p : α → Bool) (w : Val) {inj : α → Val} {ws : List α} (h0 : I env) (hb : ∀ x ∈ ws, ∀ env, I env → ∃ env', assignTg tg (inj x) env = some env' ∧ WP (body env' st) (fun e s => s = st ∧ I e ∧ p x = true) (fun v s => s = st ∧ v = w ∧ p x = false))
    (hn : ∀ e, I e → ws.all p = true → WP (exSs C xs ss e st) N T) (ht : ws.all p = false → T w st) : WPK (forLoop body tg (Still ⟨ys, none⟩) (ws.map inj) env st) C xs ss N T := by
  refine wp_mono (wp_all I p w h0 hb) ?_ ?_
  · rintro e s ⟨rfl, i, a⟩
    exact hn e i a
  · rintro v s ⟨rfl, rfl, a⟩
    exact ht a
theorem lc_pureA {turn : Val → M (Option Val)} {ys : List Val} {g : α → Option Val} {inj : α → Val} : ∀ {ws : List α} {acc : List Val}, (∀ x ∈ ws, turn (inj x) st = .ok (g x) st) → lcLoop turn (Still ⟨ys, none⟩) (ws.map inj) acc st = .ok (acc ++ ws.filterMap g) st
  | [], acc, _ => by
    unfold lcLoop
    simp
  | x :: ws, acc, h => by
    rw [List.map_cons]
    unfold lcLoop
    rw [if_pos (by simp), h x (List.mem_cons_self ..)]
    rcases hg : g x with _ | y
    · dsimp only
      rw [lc_pureA fun y hy => h y (List.mem_cons_of_mem _ hy)]
      simp [hg]
    · dsimp only
      rw [lc_pureA fun y hy => h y (List.mem_cons_of_mem _ hy)]
      simp [hg]
theorem lc_mapA {own : List Nat} {it : It} {tg : Tg} {e : E} {st1 : Store} {ws : List α} (inj : α → Val) (f : α → Val) (hi : evI C it env st = .ok ⟨ws.map inj, none⟩ st1) (he : ∀ x ∈ ws, ∃ env', assignTg tg (inj x) (wipe env own) = some env' ∧ evE C e env' st1 = .ok (f x) st1) :
    lcSem false own (evI C it) tg (evT C .nil) (evE C e) env st = .ok (.lst (ws.map f)) st1 := by
  rw [lcSem_eq]
  unfold lcRaw
  rw [bnd_ok hi]
  have : lcLoop (lcTurn tg own (evT C .nil) (evE C e) env) (Still ⟨ws.map inj, none⟩) (ws.map inj) [] st1 = .ok ([] ++ ws.filterMap fun x => some (f x)) st1 := by
    refine lc_pureA fun x hx => ?_
    obtain ⟨env', e1, e2⟩ := he x hx
    unfold lcTurn
    rw [e1]
    simp [e2]
  rw [bnd_ok this]
  simp
theorem lc_filterA {own : List Nat} {it : It} {tg : Tg} {e t : E} {st1 : Store} {ws : List α} (inj : α → Val) (p : α → Bool) (f : α → Val) (hi : evI C it env st = .ok ⟨ws.map inj, none⟩ st1) (he : ∀ x ∈ ws, ∃ env', assignTg tg (inj x) (wipe env own) = some env' ∧ evE C t env' st1 = .ok (.bl (p x)) st1 ∧ (p x = true → evE C e env' st1 = .ok (f x) st1)) :
    lcSem false own (evI C it) tg (evT C (.cons t .nil)) (evE C e) env st = .ok (.lst ((ws.filter p).map f)) st1 := by
  rw [lcSem_eq]
  unfold lcRaw
  rw [bnd_ok hi]
  have : lcLoop (lcTurn tg own (evT C (.cons t .nil)) (evE C e) env) (Still ⟨ws.map inj, none⟩) (ws.map inj) [] st1 = .ok ([] ++ ws.filterMap fun x => if p x = true then some (f x) else none) st1 := by
    refine lc_pureA fun x hx => ?_
    obtain ⟨env', e1, e2, e3⟩ := he x hx
    unfold lcTurn
    rw [e1]
    by_cases hp : p x = true
    · simp [e2, e3 hp, hp]
    · simp [e2, hp]
  rw [bnd_ok this]
  have e : ∀ ws : List α, (ws.filterMap fun x => if p x = true then some (f x) else none) = (ws.filter p).map f := by
    intro ws
    induction ws with
    | nil => rfl
    | cons z zs ih =>
      by_cases hp : p z = true
      · simp [hp, ih]
      · simp [hp, ih]
  simp [e]
end
end Rc
namespace D
open PySem Rc
def d_good_cell : Df := ⟨1, 1, (.cons (.ret (.chain .LtE .LtE (.glob "GONE" (.int (-1))) (.var 0) (.glob "LAST_SIGN" (.int 9)))) .nil)⟩
def d_agree : Df := ⟨2, 2, (.cons (.ret (.bop .Or (.cons (.cmp .Eq (.var 0) (.var 1)) (.cons (.cmp .In (.glob "GONE" (.int (-1))) (.tup (.cons (.var 0) (.cons (.var 1) .nil)))) .nil)))) .nil)⟩
def d_both : Df := ⟨2, 2, (.cons (.ret (.bi false .max (.cons (.var 0) (.cons (.var 1) .nil)))) .nil)⟩
def d_law_open : Df := ⟨1, 1, (.cons (.ret (.lst true (.cons (.bi false .list (.cons (.sl false (.var 0) .none (.some (.int 63))) .nil)) (.cons (.int 0) (.cons (.int 0) (.cons (.int 29) .nil)))))) .nil)⟩
def d_law_pull : Df := ⟨2, 5, (.cons (.iff (.bop .And (.cons (.cmp .Lt (.ix (.var 0) (.int 2)) (.var 1)) (.cons (.cmp .Lt (.ix (.var 0) (.int 1)) (.bi false .len (.cons (.ix (.var 0) (.int 0)) .nil))) .nil))) (.cons (.asg (.nm 3) (.ix (.ix (.var 0) (.int 0)) (.ix (.var 0) (.int 1)))) (.cons (.sset (.var 0) (.int 1) (.bin false .Add (.ix (.var 0) (.int 1)) (.int 1))) (.cons (.sset (.var 0) (.int 2) (.int 0)) (.cons (.iff (.cmp .GtE (.var 3) (.bin false .Pow (.int 10) (.int 18))) (.cons (.sset (.var 0) (.int 2) (.var 3)) .nil) (.cons (.sset (.var 0) (.int 3) (.bin false .Mod (.bin false .Add (.bin false .Add (.bin false .Mult (.ix (.var 0) (.int 3)) (.int 48271)) (.bin false .Mult (.bin false .Mod (.var 3) (.int 2147483629)) (.int 69621))) (.int 12345)) (.int 2147483647))) .nil)) .nil)))) .nil) (.cons (.iff (.cmp .GtE (.ix (.var 0) (.int 2)) (.var 1)) (.cons (.asg (.nm 4) (.bin false .Mod (.ix (.var 0) (.int 2)) (.var 1))) (.cons (.sset (.var 0) (.int 2) (.bin false .FloorDiv (.ix (.var 0) (.int 2)) (.var 1))) (.cons (.ret (.var 4)) .nil))) .nil) (.cons (.asg (.nm 2) (.ix (.var 0) (.int 3))) (.cons (.sset (.var 0) (.int 3) (.bin false .Mod (.bin false .Add (.bin false .Add (.bin false .Mult (.bin false .Mod (.bin false .Mult (.var 2) (.var 2)) (.int 2147483629)) (.int 5)) (.bin false .Mult (.var 2) (.int 16811))) (.int 2531011)) (.int 2147483647))) (.cons (.ret (.bin false .Mod (.bin false .Add (.bin false .FloorDiv (.ix (.var 0) (.int 3)) (.int 59)) (.bin false .Mult (.bin false .Mod (.ix (.var 0) (.int 3)) (.int 8191)) (.int 31))) (.var 1))) .nil)))))⟩
def d_law_far : Df := ⟨1, 2, (.cons (.asg (.nm 1) (.call "_law_pull" .raw (.cons (.var 0) (.cons (.bin false .Pow (.int 10) (.int 9)) .nil)))) (.cons (.iff (.cmp .Eq (.call "_law_pull" .raw (.cons (.var 0) (.cons (.int 2) .nil))) (.int 0)) (.cons (.asg (.nm 1) (.bin false .Add (.var 1) (.bin false .Pow (.int 10) (.int 25)))) .nil) .nil) (.cons (.iff (.cmp .Eq (.call "_law_pull" .raw (.cons (.var 0) (.cons (.int 2) .nil))) (.int 0)) (.cons (.ret (.bin false .Sub (.neg (.int 1)) (.var 1))) .nil) .nil) (.cons (.ret (.var 1)) .nil))))⟩
def d_law_num : Df := ⟨1, 1, (.cons (.ret (.bop .And (.cons (.isin (.var 0) .int) (.cons (.not (.isin (.var 0) .bool)) .nil)))) .nil)⟩
def d_law_like_e0 : E := (.call "_law_like" .raw (.cons (.ix (.var 0) (.var 2)) (.cons (.ix (.var 1) (.var 2)) .nil)))
def d_law_like : Df := ⟨2, 3, (.cons (.iff (.cmp .Is (.var 1) .non) (.cons (.ret (.cmp .Is (.var 0) .non)) .nil) .nil) (.cons (.iff (.isin (.var 1) .bool) (.cons (.ret (.bop .And (.cons (.isin (.var 0) .bool) (.cons (.cmp .Eq (.var 0) (.var 1)) .nil)))) .nil) .nil) (.cons (.iff (.isin (.var 1) .int) (.cons (.ret (.bop .And (.cons (.call "_law_num" .raw (.cons (.var 0) .nil)) (.cons (.cmp .Eq (.var 0) (.var 1)) .nil)))) .nil) .nil) (.cons (.iff (.isin (.var 1) .str) (.cons (.ret (.bop .And (.cons (.isin (.var 0) .str) (.cons (.cmp .Eq (.var 0) (.var 1)) .nil)))) .nil) .nil) (.cons (.iff (.bop .Or (.cons (.cmp .NotEq (.isin (.var 1) .tuple) (.isin (.var 0) .tuple)) (.cons (.cmp .NotEq (.isin (.var 1) .list) (.isin (.var 0) .list)) .nil))) (.cons (.ret (.bl false)) .nil) .nil) (.cons (.iff (.cmp .NotEq (.bi false .len (.cons (.var 0) .nil)) (.bi false .len (.cons (.var 1) .nil))) (.cons (.ret (.bl false)) .nil) .nil) (.cons (.ret (.bi false .all (.cons (.lc false [2] (.nm 2) (.rng1 (.bi false .len (.cons (.var 1) .nil))) .nil d_law_like_e0) .nil))) .nil)))))))⟩
def d_good_strip_e1 : E := (.call "good_cell" .raw (.cons (.var 2) .nil))
def d_good_strip_b0 : Ss := (.cons (.iff (.bop .Or (.cons (.cmp .Lt (.bi false .len (.cons (.var 1) .nil)) (.int 1)) (.cons (.cmp .Gt (.bi false .len (.cons (.var 1) .nil)) (.glob "MOST_ROWS" (.int 3))) (.cons (.cmp .NotEq (.bi false .len (.cons (.var 1) .nil)) (.bi false .len (.cons (.ix (.var 0) (.int 0)) .nil))) .nil)))) (.cons (.ret (.bl false)) .nil) .nil) (.cons (.iff (.not (.bi false .all (.cons (.lc false [2] (.nm 2) (.seq (.var 1)) .nil d_good_strip_e1) .nil))) (.cons (.ret (.bl false)) .nil) .nil) .nil))
def d_good_strip : Df := ⟨1, 3, (.cons (.iff (.bop .Or (.cons (.cmp .Lt (.bi false .len (.cons (.var 0) .nil)) (.int 1)) (.cons (.cmp .Gt (.bi false .len (.cons (.var 0) .nil)) (.glob "MOST_WIDE" (.int 12))) .nil))) (.cons (.ret (.bl false)) .nil) .nil) (.cons (.forS (.nm 1) (.seq (.var 0)) d_good_strip_b0) (.cons (.ret (.bl true)) .nil)))⟩
def d_law_strip_ok_e1 : E := (.chain .LtE .LtE (.neg (.int 1)) (.var 3) (.int 9))
def d_law_strip_ok_b0 : Ss := (.cons (.iff (.bop .Or (.cons (.cmp .NotEq (.bi false .len (.cons (.var 2) .nil)) (.var 1)) (.cons (.not (.bi false .all (.cons (.lc false [3] (.nm 3) (.seq (.var 2)) .nil d_law_strip_ok_e1) .nil))) .nil))) (.cons (.ret (.bl false)) .nil) .nil) .nil)
def d_law_strip_ok : Df := ⟨1, 4, (.cons (.iff (.not (.chain .LtE .LtE (.int 1) (.bi false .len (.cons (.var 0) .nil)) (.int 12))) (.cons (.ret (.bl false)) .nil) .nil) (.cons (.asg (.nm 1) (.bi false .len (.cons (.ix (.var 0) (.int 0)) .nil))) (.cons (.forS (.nm 2) (.seq (.var 0)) d_law_strip_ok_b0) (.cons (.ret (.chain .LtE .LtE (.int 1) (.var 1) (.int 3))) .nil))))⟩
def d_law_changed : Df := ⟨4, 5, (.cons (.asg (.nm 4) (.bin false .Add (.bin false .Add (.sl false (.ix (.var 0) (.var 1)) .none (.some (.var 2))) (.tup (.cons (.var 3) .nil))) (.sl false (.ix (.var 0) (.var 1)) (.some (.bin false .Add (.var 2) (.int 1))) .none))) (.cons (.ret (.bin false .Add (.bin false .Add (.sl false (.var 0) .none (.some (.var 1))) (.tup (.cons (.var 4) .nil))) (.sl false (.var 0) (.some (.bin false .Add (.var 1) (.int 1))) .none))) .nil))⟩
def d_law_any_strip_e1 : E := (.bin false .Sub (.call "_law_pull" .raw (.cons (.var 0) (.cons (.bin false .Add (.var 2) (.int 1)) .nil))) (.int 1))
def d_law_any_strip_e0 : E := (.bi false .tuple (.cons (.lc false [5] (.nm 5) (.rng1 (.var 1)) .nil d_law_any_strip_e1) .nil))
def d_law_any_strip : Df := ⟨2, 6, (.cons (.asg (.nm 2) (.ix (.tup (.cons (.int 2) (.cons (.int 3) (.cons (.int 10) .nil)))) (.call "_law_pull" .raw (.cons (.var 0) (.cons (.int 3) .nil))))) (.cons (.asg (.nm 3) (.bin false .Add (.int 1) (.call "_law_pull" .raw (.cons (.var 0) (.cons (.ix (.tup (.cons (.int 4) (.cons (.int 12) .nil))) (.call "_law_pull" .raw (.cons (.var 0) (.cons (.int 2) .nil)))) .nil))))) (.cons (.ret (.bi false .tuple (.cons (.lc false [4] (.nm 4) (.rng1 (.var 3)) .nil d_law_any_strip_e0) .nil))) .nil)))⟩
def d_law_bent_strip_e0 : E := (.bin false .Add (.var 5) (.bin false .Mult (.tup (.cons (.int 0) .nil)) (.call "_law_pull" .raw (.cons (.var 0) (.cons (.int 4) .nil)))))
def d_law_bent_strip : Df := ⟨2, 6, (.cons (.asg (.nm 2) (.call "_law_pull" .raw (.cons (.var 0) (.cons (.int 14) .nil)))) (.cons (.asg (.nm 3) (.call "_law_pull" .raw (.cons (.var 0) (.cons (.bi false .len (.cons (.var 1) .nil)) .nil)))) (.cons (.asg (.nm 4) (.call "_law_pull" .raw (.cons (.var 0) (.cons (.bi false .len (.cons (.ix (.var 1) (.var 3)) .nil)) .nil)))) (.cons (.iff (.cmp .Eq (.var 2) (.int 0)) (.cons (.ret (.call "_law_changed" .raw (.cons (.var 1) (.cons (.var 3) (.cons (.var 4) (.cons (.ix (.lst false (.cons (.int 10) (.cons (.neg (.int 2)) (.cons (.int 9) (.cons (.neg (.int 1)) (.cons (.call "_law_far" .raw (.cons (.var 0) .nil)) .nil)))))) (.call "_law_pull" .raw (.cons (.var 0) (.cons (.int 5) .nil)))) .nil)))))) .nil) .nil) (.cons (.iff (.cmp .Eq (.var 2) (.int 1)) (.cons (.ret (.bin false .Add (.bin false .Add (.sl false (.var 1) .none (.some (.var 3))) (.tup (.cons (.bin false .Add (.ix (.var 1) (.var 3)) (.tup (.cons (.int 0) .nil))) .nil))) (.sl false (.var 1) (.some (.bin false .Add (.var 3) (.int 1))) .none))) .nil) .nil) (.cons (.iff (.cmp .Eq (.var 2) (.int 2)) (.cons (.ret (.bin false .Add (.bin false .Add (.sl false (.var 1) .none (.some (.var 3))) (.tup (.cons (.sl false (.ix (.var 1) (.var 3)) (.some (.int 1)) .none) .nil))) (.sl false (.var 1) (.some (.bin false .Add (.var 3) (.int 1))) .none))) .nil) .nil) (.cons (.iff (.cmp .Eq (.var 2) (.int 3)) (.cons (.ret (.sl false (.bin false .Mult (.var 1) (.int 13)) .none (.some (.ix (.lst false (.cons (.int 0) (.cons (.int 12) (.cons (.int 13) (.cons (.int 14) .nil))))) (.call "_law_pull" .raw (.cons (.var 0) (.cons (.int 4) .nil))))))) .nil) .nil) (.cons (.iff (.cmp .Eq (.var 2) (.int 4)) (.cons (.ret (.bi false .tuple (.cons (.lc false [5] (.nm 5) (.seq (.var 1)) .nil d_law_bent_strip_e0) .nil))) .nil) .nil) (.cons (.ret (.var 1)) .nil)))))))))⟩
def d_need_strip : Df := ⟨1, 1, (.cons (.iff (.not (.call "good_strip" .raw (.cons (.var 0) .nil))) (.cons (.raiseS "BadStrip" "no strip") .nil) .nil) .nil)⟩
def d_about_e0 : E := (.rev false (.var 1))
def d_about : Df := ⟨1, 2, (.cons (.ret (.bi false .tuple (.cons (.lc false [1] (.nm 1) (.seq (.rev false (.var 0))) .nil d_about_e0) .nil))) .nil)⟩
def d_turned_about : Df := ⟨1, 1, (.cons (.expr (.call "need_strip" .raw (.cons (.var 0) .nil))) (.cons (.ret (.call "about" .raw (.cons (.var 0) .nil))) .nil))⟩
def d_law_refused : Df := ⟨1, 1, (.cons (.ret (.bop .And (.cons (.isin (.var 0) .list) (.cons (.cmp .Eq (.bi false .len (.cons (.var 0) .nil)) (.int 1)) (.cons (.cmp .Eq (.ix (.var 0) (.int 0)) (.str "refused")) .nil))))) .nil)⟩
def d_law_turned_e1 : E := (.var 2)
def d_law_turned_e0 : E := (.bi false .tuple (.cons (.lc false [2] (.nm 2) (.seq (.rev false (.var 1))) .nil d_law_turned_e1) .nil))
def d_law_turned : Df := ⟨1, 3, (.cons (.ret (.bi false .tuple (.cons (.lc false [1] (.nm 1) (.seq (.rev false (.var 0))) .nil d_law_turned_e0) .nil))) .nil)⟩
def d_law_asked : Df := ⟨1, 1, (.cons (.tryS (.cons (.ret (.call "turned_about" .raw (.cons (.var 0) .nil))) .nil) (.cons "BadStrip" (.cons (.ret (.lst false (.cons (.str "refused") .nil))) .nil) .nil)) .nil)⟩
def d_parts : Df := ⟨2, 2, (.cons (.expr (.call "need_strip" .raw (.cons (.var 0) .nil))) (.cons (.iff (.bop .Or (.cons (.cmp .Lt (.var 1) (.int 1)) (.cons (.cmp .GtE (.var 1) (.bi false .len (.cons (.var 0) .nil))) .nil))) (.cons (.raiseS "BadWidth" "it does not break there") .nil) .nil) (.cons (.ret (.tup (.cons (.sl false (.var 0) .none (.some (.var 1))) (.cons (.sl false (.var 0) (.some (.var 1)) .none) .nil)))) .nil)))⟩
def d_law_near : Df := ⟨2, 2, (.cons (.iff (.cmp .Eq (.call "_law_pull" .raw (.cons (.var 0) (.cons (.int 12) .nil))) (.int 7)) (.cons (.ret (.call "_law_far" .raw (.cons (.var 0) .nil))) .nil) .nil) (.cons (.ret (.bin false .Sub (.call "_law_pull" .raw (.cons (.var 0) (.cons (.bin false .Add (.var 1) (.int 4)) .nil))) (.int 2))) .nil))⟩
def d_law_asked2 : Df := ⟨2, 2, (.cons (.tryS (.cons (.ret (.call "parts" .raw (.cons (.var 0) (.cons (.var 1) .nil)))) .nil) (.cons "BadStrip" (.cons (.ret (.lst false (.cons (.str "BadStrip") .nil))) .nil) (.cons "BadWidth" (.cons (.ret (.lst false (.cons (.str "BadWidth") .nil))) .nil) .nil))) .nil)⟩
def d_column_text_e0 : E := (.ife (.cmp .Eq (.var 1) (.glob "GONE" (.int (-1)))) (.str "?") (.ix (.glob "FIGURES" (.str "0123456789")) (.var 1)))
def d_column_text : Df := ⟨1, 2, (.cons (.ret (.mth false .join (.str "") (.cons (.lc false [1] (.nm 1) (.seq (.var 0)) .nil d_column_text_e0) .nil))) .nil)⟩
def d_strip_text_e0 : E := (.call "column_text" .raw (.cons (.var 1) .nil))
def d_strip_text : Df := ⟨1, 2, (.cons (.expr (.call "need_strip" .raw (.cons (.var 0) .nil))) (.cons (.ret (.mth false .join (.str " ") (.cons (.lc false [1] (.nm 1) (.seq (.var 0)) .nil d_strip_text_e0) .nil))) .nil))⟩
def d_law_strip_words_e1 : E := (.ix (.str "?0123456789") (.bin false .Add (.var 2) (.int 1)))
def d_law_strip_words_e0 : E := (.mth false .join (.str "") (.cons (.lc false [2] (.nm 2) (.seq (.var 1)) .nil d_law_strip_words_e1) .nil))
def d_law_strip_words : Df := ⟨1, 3, (.cons (.ret (.mth false .join (.str " ") (.cons (.lc false [1] (.nm 1) (.seq (.var 0)) .nil d_law_strip_words_e0) .nil))) .nil)⟩
def d_law_asked3 : Df := ⟨1, 1, (.cons (.tryS (.cons (.ret (.call "strip_text" .raw (.cons (.var 0) .nil))) .nil) (.cons "BadStrip" (.cons (.ret (.lst false (.cons (.str "refused") .nil))) .nil) .nil)) .nil)⟩
def d_good_seal_e0 : E := (.cmp .In (.glob "GONE" (.int (-1))) (.var 1))
def d_good_seal : Df := ⟨1, 2, (.cons (.iff (.bop .Or (.cons (.not (.call "good_strip" .raw (.cons (.var 0) .nil))) (.cons (.cmp .Gt (.bi false .len (.cons (.var 0) .nil)) (.glob "MOST_COLUMNS" (.int 6))) .nil))) (.cons (.ret (.bl false)) .nil) .nil) (.cons (.ret (.not (.bi false .any (.cons (.lc false [1] (.nm 1) (.seq (.var 0)) .nil d_good_seal_e0) .nil)))) .nil))⟩
def d_law_seal_ok_e0 : E := (.bi false .min (.cons (.var 1) .nil))
def d_law_seal_ok : Df := ⟨1, 2, (.cons (.ret (.bop .And (.cons (.call "_law_strip_ok" .raw (.cons (.var 0) .nil)) (.cons (.cmp .LtE (.bi false .len (.cons (.var 0) .nil)) (.int 6)) (.cons (.cmp .GtE (.bi false .min (.cons (.lc false [1] (.nm 1) (.seq (.var 0)) .nil d_law_seal_ok_e0) .nil)) (.int 0)) .nil))))) .nil)⟩
def d_law_seal_e1 : E := (.call "_law_pull" .raw (.cons (.var 0) (.cons (.var 3) .nil)))
def d_law_seal_e0 : E := (.bi false .tuple (.cons (.lc false [6] (.nm 6) (.rng1 (.var 1)) .nil d_law_seal_e1) .nil))
def d_law_seal : Df := ⟨3, 7, (.cons (.asg (.nm 3) (.ix (.tup (.cons (.int 2) (.cons (.int 3) (.cons (.int 10) .nil)))) (.call "_law_pull" .raw (.cons (.var 0) (.cons (.int 3) .nil))))) (.cons (.asg (.nm 4) (.bin false .Add (.int 1) (.call "_law_pull" .raw (.cons (.var 0) (.cons (.var 2) .nil))))) (.cons (.ret (.bi false .tuple (.cons (.lc false [5] (.nm 5) (.rng1 (.var 4)) .nil d_law_seal_e0) .nil))) .nil)))⟩
def d_law_bent_seal_e0 : E := (.bin false .Add (.var 3) (.tup (.cons (.int 0) .nil)))
def d_law_bent_seal : Df := ⟨2, 4, (.cons (.asg (.nm 2) (.call "_law_pull" .raw (.cons (.var 0) (.cons (.int 12) .nil)))) (.cons (.iff (.cmp .Eq (.var 2) (.int 0)) (.cons (.ret (.call "_law_bent_strip" .raw (.cons (.var 0) (.cons (.var 1) .nil)))) .nil) .nil) (.cons (.iff (.cmp .Eq (.var 2) (.int 1)) (.cons (.ret (.call "_law_changed" .raw (.cons (.var 1) (.cons (.call "_law_pull" .raw (.cons (.var 0) (.cons (.bi false .len (.cons (.var 1) .nil)) .nil))) (.cons (.int 0) (.cons (.neg (.int 1)) .nil)))))) .nil) .nil) (.cons (.iff (.cmp .Eq (.var 2) (.int 2)) (.cons (.ret (.sl false (.bin false .Mult (.var 1) (.int 7)) .none (.some (.ix (.lst false (.cons (.int 6) (.cons (.int 7) (.cons (.int 0) .nil)))) (.call "_law_pull" .raw (.cons (.var 0) (.cons (.int 3) .nil))))))) .nil) .nil) (.cons (.iff (.cmp .Eq (.var 2) (.int 3)) (.cons (.ret (.bi false .tuple (.cons (.lc false [3] (.nm 3) (.seq (.var 1)) .nil d_law_bent_seal_e0) .nil))) .nil) .nil) (.cons (.ret (.var 1)) .nil))))))⟩
def d_need_seal : Df := ⟨1, 1, (.cons (.iff (.not (.call "good_seal" .raw (.cons (.var 0) .nil))) (.cons (.raiseS "BadSeal" "no seal") .nil) .nil) .nil)⟩
def d_print_of_e0 : E := (.ix (.var 0) (.bin false .Mod (.bin false .Add (.var 1) (.var 3)) (.bi false .len (.cons (.var 0) .nil))))
def d_print_of : Df := ⟨3, 4, (.cons (.ret (.bi false .tuple (.cons (.lc false [3] (.nm 3) (.rng1 (.var 2)) .nil d_print_of_e0) .nil))) .nil)⟩
def d_rolled : Df := ⟨3, 3, (.cons (.expr (.call "need_seal" .raw (.cons (.var 0) .nil))) (.cons (.iff (.bop .Or (.cons (.cmp .Lt (.var 1) (.int 0)) (.cons (.cmp .GtE (.var 1) (.bi false .len (.cons (.var 0) .nil))) .nil))) (.cons (.raiseS "BadStart" "no such column") .nil) .nil) (.cons (.iff (.bop .Or (.cons (.cmp .Lt (.var 2) (.int 1)) (.cons (.cmp .Gt (.var 2) (.glob "MOST_WIDE" (.int 12))) .nil))) (.cons (.raiseS "BadWidth" "one to twelve columns") .nil) .nil) (.cons (.ret (.call "print_of" .raw (.cons (.var 0) (.cons (.var 1) (.cons (.var 2) .nil))))) .nil))))⟩
def d_law_print_b0 : Ss := (.cons (.expr (.mth false .append (.var 3) (.cons (.ix (.var 0) (.var 4)) .nil))) (.cons (.asg (.nm 4) (.ife (.cmp .Lt (.bin false .Add (.var 4) (.int 1)) (.bi false .len (.cons (.var 0) .nil))) (.bin false .Add (.var 4) (.int 1)) (.int 0))) .nil))
def d_law_print : Df := ⟨3, 6, (.cons (.asg (.nm 3) (.lst true .nil)) (.cons (.asg (.nm 4) (.var 1)) (.cons (.forS (.nm 5) (.rng1 (.var 2)) d_law_print_b0) (.cons (.ret (.bi false .tuple (.cons (.var 3) .nil))) .nil))))⟩
def d_law_asked5 : Df := ⟨3, 3, (.cons (.tryS (.cons (.ret (.call "rolled" .raw (.cons (.var 0) (.cons (.var 1) (.cons (.var 2) .nil))))) .nil) (.cons "BadSeal" (.cons (.ret (.lst false (.cons (.str "BadSeal") .nil))) .nil) (.cons "BadStart" (.cons (.ret (.lst false (.cons (.str "BadStart") .nil))) .nil) (.cons "BadWidth" (.cons (.ret (.lst false (.cons (.str "BadWidth") .nil))) .nil) .nil)))) .nil)⟩
def d_law_k08_b0 : Ss := (.cons (.asg (.nm 3) (.call "_law_bent_seal" .raw (.cons (.var 1) (.cons (.call "_law_seal" .raw (.cons (.var 1) (.cons (.bin false .Add (.int 1) (.call "_law_pull" .raw (.cons (.var 1) (.cons (.int 3) .nil)))) (.cons (.int 6) .nil)))) .nil)))) (.cons (.asg (.nm 4) (.call "_law_near" .raw (.cons (.var 1) (.cons (.bi false .len (.cons (.var 3) .nil)) .nil)))) (.cons (.asg (.nm 5) (.ife (.cmp .Eq (.call "_law_pull" .raw (.cons (.var 1) (.cons (.int 3) .nil))) (.int 0)) (.call "_law_near" .raw (.cons (.var 1) (.cons (.int 13) .nil))) (.bin false .Add (.int 1) (.call "_law_pull" .raw (.cons (.var 1) (.cons (.int 12) .nil)))))) (.cons (.asg (.nm 6) (.lst false (.cons (.str "BadSeal") .nil))) (.cons (.iff (.call "_law_seal_ok" .raw (.cons (.var 3) .nil)) (.cons (.asg (.nm 6) (.lst false (.cons (.str "BadStart") .nil))) (.cons (.iff (.chain .LtE .Lt (.int 0) (.var 4) (.bi false .len (.cons (.var 3) .nil))) (.cons (.asg (.nm 6) (.ife (.chain .LtE .LtE (.int 1) (.var 5) (.int 12)) (.call "_law_print" .cut (.cons (.var 3) (.cons (.var 4) (.cons (.var 5) .nil)))) (.lst false (.cons (.str "BadWidth") .nil)))) .nil) .nil) .nil)) .nil) (.cons (.iff (.not (.call "_law_like" .raw (.cons (.call "_law_asked" .raw (.cons (.var 3) (.cons (.var 4) (.cons (.var 5) .nil)))) (.cons (.var 6) .nil)))) (.cons (.ret (.bl false)) .nil) .nil) .nil))))))
def d_law_k08 : Df := ⟨1, 7, (.cons (.asg (.nm 1) (.call "_law_open" .raw (.cons (.var 0) .nil))) (.cons (.forS (.nm 2) (.rng1 (.int 8)) d_law_k08_b0) (.cons (.ret (.bl true)) .nil)))⟩
end D
/-! P1: draws, cells, likeness. -/
namespace P
open PySem (Str PyData)
open Rc
abbrev Fn := List Val → M Val
theorem callF_at {defs : List (Str × Df)} {xs : List Str} {n : Nat} {f : Str} {d : Df} (h : defs.lookup f = some d) : callF defs xs (n + 1) f = runDf (callF defs xs n) xs d := by
  funext ar
  show (match defs.lookup f with
    | some d => runDf (callF defs xs n) xs d ar
    | none => stuck) = _
  rw [h]
variable {C : Str → List Val → M Val} {xs : List Str}
theorem mem_rangeV {lo hi : Int} {x : Val} (h : x ∈ rangeV lo hi) : ∃ i, x = .int i ∧ lo ≤ i ∧ i < hi := by
  unfold rangeV at h
  obtain ⟨k, hk, rfl⟩ := List.mem_map.mp h
  have := List.mem_range.mp hk
  exact ⟨_, rfl, by omega, by omega⟩
theorem len_rangeV (lo hi : Int) : (rangeV lo hi).length = (hi - lo).toNat := by
  unfold rangeV
  simp
/-! ### draws -/
/-- the list of a draw -/
def drawL (ns : List Int) (i r s : Int) : Ob := .lst [.lst (ns.map .int), .int i, .int r, .int s]
inductive DrawOb : Ob → Prop
  | mk (ns : List Int) (i : Nat) (r s : Int) : 0 ≤ r → 0 ≤ s → s < 2147483647 → DrawOb (drawL ns i r s)
def nextS (q : Int) : Int := (q * q % 2147483629 * 5 + q * 16811 + 2531011) % 2147483647
def outV (q n : Int) : Int := (q / 59 + q % 8191 * 31) % n
theorem nextS_ok (s : Int) : 0 ≤ nextS s ∧ nextS s < 2147483647 := ⟨Int.emod_nonneg _ (by decide), Int.emod_lt_of_pos _ (by decide)⟩
def Ok_law_pull (F : Fn) : Prop := ∀ (o : Ob), DrawOb o → ∀ (n : Int), 0 < n → n < 1073741824 → ∀ rest : Store, ∃ v o', DrawOb o' ∧ 0 ≤ v ∧ v < n ∧ F [.loc 0, .int n] (o :: rest) = .ok (.int v) (o' :: rest)
theorem d_law_pull_ok : Ok_law_pull (runDf C xs D.d_law_pull) := by
  intro o h n h0 h1 rest
  obtain ⟨ns, i, r, s, hr, hs, hs2⟩ := h
  by_cases c1 : r < n ∧ i < ns.length
  · have e0 : ns[i]? = some ns[i] := List.getElem?_eq_getElem c1.2
    by_cases c2 : 1000000000000000000 ≤ ns[i]
    · have c3 : n ≤ ns[i] := by omega
      refine ⟨ns[i] % n, drawL ns (i + 1 : Nat) (ns[i] / n) s, .mk _ _ _ _ (Int.ediv_nonneg (by omega) (by omega)) hs hs2, Int.emod_nonneg _ (by omega), Int.emod_lt_of_pos _ h0, ?_⟩
      unfold D.d_law_pull drawL
      simp [exSs, L2.atI, L2.ixN, *]
    · have c3 : ¬ n ≤ 0 := by omega
      generalize hq : (s * 48271 + ns[i] % 2147483629 * 69621 + 12345) % 2147483647 = q
      have hq0 : 0 ≤ q := by rw [← hq]; exact Int.emod_nonneg _ (by decide)
      have hq1 : q < 2147483647 := by rw [← hq]; exact Int.emod_lt_of_pos _ (by decide)
      have hq2 : -18446744073709551616 < q := by omega
      have hq3 : q < 18446744073709551616 := by omega
      refine ⟨outV (nextS q) n, drawL ns (i + 1 : Nat) 0 (nextS q), .mk _ _ _ _ (by decide) (nextS_ok q).1 (nextS_ok q).2, Int.emod_nonneg _ (by omega), Int.emod_lt_of_pos _ h0, ?_⟩
      unfold D.d_law_pull drawL
      simp [exSs, L2.atI, L2.ixN, nextS, outV, *]
  · by_cases c5 : n ≤ r
    · have c6 : ¬ r < n := by omega
      refine ⟨r % n, drawL ns i (r / n) s, .mk _ _ _ _ (Int.ediv_nonneg (by omega) (by omega)) hs hs2, Int.emod_nonneg _ (by omega), Int.emod_lt_of_pos _ h0, ?_⟩
      unfold D.d_law_pull drawL
      simp [exSs, L2.atI, L2.ixN, *]
    · have c6 : r < n := by omega
      have c7 : ¬ i < ns.length := by omega
      have hq2 : -18446744073709551616 < s := by omega
      have hq3 : s < 18446744073709551616 := by omega
      refine ⟨outV (nextS s) n, drawL ns i r (nextS s), .mk _ _ _ _ hr (nextS_ok s).1 (nextS_ok s).2, Int.emod_nonneg _ (by omega), Int.emod_lt_of_pos _ h0, ?_⟩
      unfold D.d_law_pull drawL
      simp [exSs, L2.atI, L2.ixN, nextS, outV, *]
def Ok_law_far (F : Fn) : Prop := ∀ (o : Ob), DrawOb o → ∀ rest : Store, ∃ v o', DrawOb o' ∧ F [.loc 0] (o :: rest) = .ok (.int v) (o' :: rest)
theorem d_law_far_ok (hp : Ok_law_pull (C "_law_pull")) : Ok_law_far (runDf C xs D.d_law_far) := by
  intro o h rest
  obtain ⟨v1, o1, h1, a1, b1, e1⟩ := hp o h 1000000000 (by decide) (by decide) rest
  obtain ⟨v2, o2, h2, a2, b2, e2⟩ := hp o1 h1 2 (by decide) (by decide) rest
  obtain ⟨v3, o3, h3, a3, b3, e3⟩ := hp o2 h2 2 (by decide) (by decide) rest
  by_cases c2 : v2 = 0 <;> by_cases c3 : v3 = 0
  · exact ⟨_, o3, h3, by unfold D.d_law_far; simp [exSs, e1, e2, e3, c2, c3]; rfl⟩
  · exact ⟨_, o3, h3, by unfold D.d_law_far; simp [exSs, e1, e2, e3, c2, c3]; rfl⟩
  · exact ⟨_, o3, h3, by unfold D.d_law_far; simp [exSs, e1, e2, e3, c2, c3]; rfl⟩
  · exact ⟨_, o3, h3, by unfold D.d_law_far; simp [exSs, e1, e2, e3, c2, c3]; rfl⟩
/-! ### the script is opened -/
def Ok_law_open (F : Fn) : Prop := ∀ (ns : List Int) (st : Store), ns.length ≤ 63 → F [.scr ns] st = .ok (.loc st.length) (st ++ [drawL ns 0 0 29])
theorem d_law_open_ok : Ok_law_open (runDf C xs D.d_law_open) := by
  intro ns st h
  have e : cut (ns.map Val.int) none (some 63) = ns.map Val.int := by
    unfold cut
    rw [HT.sIx_none, show (some (63 : Int)) = some ((63 : Nat) : Int) from rfl, HT.sIx_nat]
    have : min 63 (ns.map Val.int).length = (ns.map Val.int).length := by
      rw [List.length_map]
      omega
    rw [this, Nat.sub_zero]
    simp only [List.drop_zero, List.take_length]
  unfold D.d_law_open drawL
  simp [exSs, e, PySem.sizeLine]
theorem draw0 (ns : List Int) : DrawOb (drawL ns 0 0 29) := .mk ns 0 0 29 (by decide) (by decide) (by decide)
/-! ### cells -/
def Ok_good_cell (F : Fn) : Prop := ∀ (i : Int) (st : Store), F [.int i] st = .ok (.bl (decide (-1 ≤ i) && decide (i ≤ 9))) st
theorem d_good_cell_ok : Ok_good_cell (runDf C xs D.d_good_cell) := by
  intro i st
  unfold D.d_good_cell
  by_cases h : -1 ≤ i <;> simp [exSs, h]
def Ok_agree (F : Fn) : Prop := ∀ (i j : Int) (st : Store), F [.int i, .int j] st = .ok (.bl (decide (i = j) || (decide (i = -1) || decide (j = -1)))) st
theorem d_agree_ok : Ok_agree (runDf C xs D.d_agree) := by
  intro i j st
  unfold D.d_agree
  by_cases h : i = j
  · simp [exSs, h]
  · simp [exSs, h, PySem.sizeLine]
    by_cases h1 : i = -1 <;> by_cases h2 : j = -1 <;> simp [h1, h2]
def Ok_both (F : Fn) : Prop := ∀ (i j : Int) (st : Store), F [.int i, .int j] st = .ok (.int (if j > i then j else i)) st
theorem d_both_ok : Ok_both (runDf C xs D.d_both) := by
  intro i j st
  unfold D.d_both
  simp [exSs]
/-! ### likeness -/
def Ok_law_num (F : Fn) : Prop := ∀ (i : Int) (st : Store), F [.int i] st = .ok (.bl true) st
theorem d_law_num_ok : Ok_law_num (runDf C xs D.d_law_num) := by
  intro i st
  unfold D.d_law_num
  simp [exSs]
/-- plain values, no deeper than n -/
inductive plainV : Nat → Val → Prop
  | non {n : Nat} : plainV (n + 1) .non
  | bl {n : Nat} (b : Bool) : plainV (n + 1) (.bl b)
  | int {n : Nat} (i : Int) : plainV (n + 1) (.int i)
  | str {n : Nat} (x : Str) : plainV (n + 1) (.str x)
  | tup {n : Nat} {vs : List Val} : vs.length ≤ 10000 → (∀ w ∈ vs, plainV n w) → plainV (n + 1) (.tup vs)
  | lst {n : Nat} {vs : List Val} : vs.length ≤ 10000 → (∀ w ∈ vs, plainV n w) → plainV (n + 1) (.lst vs)
structure OkLike (d : Nat) (F : Fn) : Prop where
  bl : ∀ (b c : Bool) (st : Store), F [.bl b, .bl c] st = .ok (.bl (decide (b = c))) st
  int : ∀ (i j : Int) (st : Store), F [.int i, .int j] st = .ok (.bl (decide (i = j))) st
  str : ∀ (i j : Str) (st : Store), F [.str i, .str j] st = .ok (.bl (decide (i = j))) st
  non : ∀ (st : Store), F [.non, .non] st = .ok (.bl true) st
  same : ∀ (v : Val) (st : Store), plainV d v → F [v, v] st = .ok (.bl true) st
abbrev Ok_law_like (F : Fn) : Prop := OkLike 6 F
theorem at_int {α : Type} {zs : List α} {i : Int} (h0 : 0 ≤ i) (h1 : i < zs.length) : ∃ x ∈ zs, L2.atI zs i = some x := by
  have h2 : i.toNat < zs.length := by omega
  refine ⟨zs[i.toNat], List.getElem_mem h2, ?_⟩
  unfold L2.atI L2.ixN
  rw [if_pos h0, if_pos h1]
  simp [List.getElem?_eq_getElem h2]
theorem mo_true : ∀ {zs : List Val}, mapO toBl (zs.map fun _ => Val.bl true) = some (zs.map fun _ => true)
  | [] => rfl
  | z :: zs => by
    rw [List.map_cons, e_moc, mo_true]
    rfl
theorem rng_ok {j : Int} (h0 : 0 ≤ j) (h : j ≤ 100000) : rngOk 0 j = true := by
  rw [rngOk_eq]
  unfold rngRaw
  rw [decide_eq_true (show (-(2 ^ 62) : Int) ≤ 0 by decide), decide_eq_true (show (0 : Int) < 2 ^ 62 by decide), decide_eq_true (show -(2 ^ 62) ≤ j by omega), decide_eq_true (show j < 2 ^ 62 by omega), decide_eq_true (show (j - 0).toNat ≤ PySem.sizeLine by show _ ≤ 16777216; omega)]
  rfl
theorem like_lc {u : Val} {vs : List Val} (hu : ∀ i st, ixOp st u (.int i) = L2.atI vs i) (hlen : ∀ st, biLen st [u] = some (.int vs.length)) (h1 : vs.length ≤ 10000) (st : Store) (h2 : ∀ w ∈ vs, C "_law_like" [w, w] st = .ok (.bl true) st) :
    lcSem false [2] (evI C (.rng1 (.bi false .len (.cons (.var 1) .nil)))) (.nm 2) (evT C .nil) (evE C D.d_law_like_e0) [some u, some u, none] st = .ok (.lst ((rangeV 0 vs.length).map fun _ => .bl true)) st := by
  refine lc_map (fun _ => .bl true) ?_ ?_
  · simp [hlen, rng_ok (show (0 : Int) ≤ vs.length by omega) (by omega)]
  · intro x hx
    obtain ⟨i, rfl, i0, i1⟩ := mem_rangeV hx
    obtain ⟨y, hy, e⟩ := at_int i0 i1
    refine ⟨[some u, some u, some (.int i)], rfl, ?_⟩
    unfold D.d_law_like_e0
    simp [hu, e, h2 y hy]
theorem like_step {d : Nat} (hn : Ok_law_num (C "_law_num")) (hL : ∀ (v : Val) (st : Store), plainV d v → C "_law_like" [v, v] st = .ok (.bl true) st) : OkLike (d + 1) (runDf C xs D.d_law_like) := by
  refine ⟨?_, ?_, ?_, ?_, ?_⟩
  · intro b c st
    unfold D.d_law_like
    simp [exSs]
  · intro i j st
    unfold D.d_law_like
    simp [exSs, hn i]
  · intro i j st
    unfold D.d_law_like
    simp [exSs]
  · intro st
    unfold D.d_law_like
    simp [exSs]
  · intro v st hv
    refine wp_eq rfl ?_
    unfold D.d_law_like
    cases hv with
    | non => simp
    | bl b => simp
    | int i => simp [hn i]
    | str x => simp
    | @tup _ vs h1 h2 =>
      have hlc := like_lc (C := C) (u := .tup vs) (vs := vs) (fun _ _ => rfl) (fun _ => rfl) h1 st fun w hw => hL w st (h2 w hw)
      simp only [startEnv, List.map, List.length, List.replicate, List.append]
      simp [hlc, mo_true]
    | @lst _ vs h1 h2 =>
      have hlc := like_lc (C := C) (u := .lst vs) (vs := vs) (fun _ _ => rfl) (fun _ => rfl) h1 st fun w hw => hL w st (h2 w hw)
      simp only [startEnv, List.map, List.length, List.replicate, List.append]
      simp [hlc, mo_true]
theorem like_rec {defs : List (Str × Df)} {ex : List Str} (h : defs.lookup ("_law_like" : Str) = some D.d_law_like) (hn : ∀ n, Ok_law_num (callF defs ex (n + 1) "_law_num")) : ∀ d n, OkLike (d + 1) (callF defs ex (n + d + 2) "_law_like")
  | 0, n => by
    show OkLike 1 (callF defs ex (n + 1 + 1) "_law_like")
    rw [callF_at h]
    exact like_step (hn n) fun v st hv => by cases hv
  | d + 1, n => by
    show OkLike (d + 1 + 1) (callF defs ex (n + d + 2 + 1) "_law_like")
    rw [callF_at h]
    exact like_step (hn (n + d + 1)) (like_rec h hn d n).same
end P
/-! P2: strips. -/
namespace P
open PySem (Str PyData)
open Rc
variable {C : Str → List Val → M Val} {xs : List Str}
abbrev Col := List Int
abbrev Strip := List Col
def cv (c : Col) : Val := .tup (c.map .int)
def sv (s : Strip) : Val := .tup (s.map cv)
theorem at_mem {α : Type} {zs : List α} {i : Int} (h0 : 0 ≤ i) (h1 : i < zs.length) : ∃ x ∈ zs, L2.atI zs i = some x := by
  have h2 : i.toNat < zs.length := by omega
  refine ⟨zs[i.toNat], List.getElem_mem h2, ?_⟩
  unfold L2.atI L2.ixN
  rw [if_pos h0, if_pos h1]
  simp [List.getElem?_eq_getElem h2]
theorem at_zero {α : Type} {x : α} {zs : List α} : L2.atI (x :: zs) 0 = some x := by
  unfold L2.atI L2.ixN
  simp
theorem at_map {α β : Type} {f : α → β} {zs : List α} {i : Int} : L2.atI (zs.map f) i = (L2.atI zs i).map f := by
  unfold L2.atI
  rw [List.length_map]
  rcases L2.ixN zs.length i with _ | j
  · rfl
  · simp
theorem cut_map {α β : Type} {f : α → β} {zs : List α} {lo hi : Option Int} : cut (zs.map f) lo hi = (cut zs lo hi).map f := by
  unfold cut
  simp
theorem cut_le {α : Type} {zs : List α} {lo hi : Option Int} : (cut zs lo hi).length ≤ zs.length := by
  unfold cut
  simp
  omega
theorem cut_take {α : Type} {zs : List α} {i : Int} (h : 0 ≤ i) : cut zs none (some i) = zs.take i.toNat := by
  obtain ⟨n, rfl⟩ := Int.eq_ofNat_of_zero_le h
  unfold cut
  rw [HT.sIx_none, HT.sIx_nat]
  simp
theorem cut_drop {α : Type} {zs : List α} {i : Int} (h : 0 ≤ i) : cut zs (some i) none = zs.drop i.toNat := by
  obtain ⟨n, rfl⟩ := Int.eq_ofNat_of_zero_le h
  unfold cut
  rw [HT.sIx_none, HT.sIx_nat]
  by_cases c : n ≤ zs.length
  · rw [Nat.min_eq_left c]
    exact List.take_of_length_le (by simp)
  · rw [Nat.min_eq_right (by omega), List.drop_of_length_le (show zs.length ≤ zs.length by omega), List.drop_of_length_le (by simp; omega)]
    simp
/-! ### good strips -/
def okCell (i : Int) : Bool := decide (-1 ≤ i) && decide (i ≤ 9)
def okCol (h : Nat) (c : Col) : Bool := decide (1 ≤ c.length) && decide (c.length ≤ 3) && decide (c.length = h) && c.all okCell
def high : Strip → Nat
  | [] => 0
  | c :: _ => c.length
def goodStrip (s : Strip) : Bool := decide (1 ≤ s.length) && decide (s.length ≤ 12) && s.all (okCol (high s))
theorem mo_all {c : Col} {p : Int → Bool} : mapO toBl (c.map fun i => .bl (p i)) = some (c.map p) := by
  rw [show (c.map fun i => Val.bl (p i)) = (c.map p).map .bl by simp]
  exact e_moB
def Ok_good_strip (F : Fn) : Prop := ∀ (s : Strip) (st : Store), F [sv s] st = .ok (.bl (goodStrip s)) st
theorem d_good_strip_ok (hg : Ok_good_cell (C "good_cell")) : Ok_good_strip (runDf C xs D.d_good_strip) := by
  intro s st
  refine wp_eq rfl ?_
  unfold D.d_good_strip sv
  rcases s with _ | ⟨c0, s⟩
  · simp [goodStrip]
  · have hat : L2.atI ((c0 :: s).map cv) 0 = some (.tup (c0.map .int)) := by rw [List.map_cons, at_zero]; rfl
    have hl : 1 ≤ (c0 :: s).length := by simp
    have hh : high (c0 :: s) = c0.length := rfl
    generalize c0 :: s = S at hat hl hh
    have h'' : ¬ (S.length : Int) < 1 := by omega
    by_cases h : S.length ≤ 12
    · have h' : ¬ (12 : Int) < (S.length : Int) := by omega
      simp [h', h'', -Still]
      refine wpk_all (fun e => ∃ q q', e = [some (.tup (S.map cv)), q, q']) (okCol c0.length) (.bl false) ⟨none, none, rfl⟩ ?_ ?_ ?_
      · rintro x hx _ ⟨q, q', rfl⟩
        refine ⟨[some (.tup (S.map cv)), some (.tup (x.map .int)), q'], rfl, ?_⟩
        have hlc : lcSem false [2] (evI C (.seq (.var 1))) (.nm 2) (evT C .nil) (evE C D.d_good_strip_e1) [some (.tup (S.map cv)), some (.tup (x.map .int)), q'] st = .ok (.lst (x.map fun i => .bl (okCell i))) st := by
          refine lc_mapA .int (fun i => .bl (okCell i)) (by simp) ?_
          intro i hi
          refine ⟨_, rfl, ?_⟩
          unfold D.d_good_strip_e1
          simp [wipe, hg _ _, okCell]
        unfold D.d_good_strip_b0
        by_cases a1 : x.length < 1
        · have a1' : (x.length : Int) < 1 := by omega
          have a0 : x.length = 0 := by omega
          simp [a1', okCol, a0]
        · have a1' : ¬ (x.length : Int) < 1 := by omega
          by_cases a2 : 3 < x.length
          · have a2' : (3 : Int) < x.length := by omega
            have : ¬ x.length ≤ 3 := by omega
            simp [a1', a2', okCol, this]
          · have a2' : ¬ (3 : Int) < x.length := by omega
            have b1 : 1 ≤ x.length := by omega
            have b2 : x.length ≤ 3 := by omega
            by_cases a3 : x.length = c0.length
            · have hc : okCol c0.length x = x.all okCell := by simp [okCol, b1, b2, a3]; rw [← a3]; simp [b1, b2]
              rw [hc]
              simp only [wp_cons, x_iff, v_bop, v_or, v_b1, v_cmp, v_not, v_bi, v_lc]
              cases a4 : x.all okCell
              · simp [a1', a2', a3.symm, hat, hlc, mo_all, a4, -List.all_eq_false, -List.all_eq_true]
              · simp [a1', a2', a3.symm, hat, hlc, mo_all, a4, -List.all_eq_false, -List.all_eq_true]
            · have a3' : ¬ (x.length : Int) = c0.length := by omega
              simp [a1', a2', a3, a3', okCol, hat]
      · rintro _ ⟨q, q', rfl⟩ ha
        simp [goodStrip, hh, ha, hl, h, -List.all_eq_true]
      · intro ha
        simp [goodStrip, hh, ha, hl, h, -List.all_eq_false]
    · have h' : (12 : Int) < S.length := by omega
      simp [goodStrip, h, h', h'']
def Ok_law_strip_ok (F : Fn) : Prop := ∀ (s : Strip) (st : Store), F [sv s] st = .ok (.bl (goodStrip s)) st
theorem d_law_strip_ok_ok : Ok_law_strip_ok (runDf C xs D.d_law_strip_ok) := by
  intro s st
  refine wp_eq rfl ?_
  unfold D.d_law_strip_ok sv
  rcases s with _ | ⟨c0, s⟩
  · simp [goodStrip]
  · have hat : L2.atI ((c0 :: s).map cv) 0 = some (.tup (c0.map .int)) := by rw [List.map_cons, at_zero]; rfl
    have hl : 1 ≤ (c0 :: s).length := by simp
    have hh : high (c0 :: s) = c0.length := rfl
    have hm : c0 ∈ c0 :: s := List.mem_cons_self ..
    generalize c0 :: s = S at hat hl hh hm
    have h'' : (1 : Int) ≤ S.length := by omega
    by_cases h : S.length ≤ 12
    · have h' : (S.length : Int) ≤ 12 := by omega
      simp [h', h'', hat, -Still]
      refine wpk_all (fun e => ∃ q q', e = [some (.tup (S.map cv)), some (.int c0.length), q, q']) (fun x : Col => decide (x.length = c0.length) && x.all okCell) (.bl false) ⟨none, none, rfl⟩ ?_ ?_ ?_
      · rintro x hx _ ⟨q, q', rfl⟩
        refine ⟨[some (.tup (S.map cv)), some (.int c0.length), some (.tup (x.map .int)), q'], rfl, ?_⟩
        have hlc : lcSem false [3] (evI C (.seq (.var 2))) (.nm 3) (evT C .nil) (evE C D.d_law_strip_ok_e1) [some (.tup (S.map cv)), some (.int c0.length), some (.tup (x.map .int)), q'] st = .ok (.lst (x.map fun i => .bl (okCell i))) st := by
          refine lc_mapA .int (fun i => .bl (okCell i)) (by simp) ?_
          intro i hi
          refine ⟨_, rfl, ?_⟩
          unfold D.d_law_strip_ok_e1
          by_cases c : -1 ≤ i <;> simp [wipe, okCell, c]
        unfold D.d_law_strip_ok_b0
        by_cases a3 : x.length = c0.length
        · cases a4 : x.all okCell
          · simp [a3, hat, hlc, mo_all, a4, -List.all_eq_false, -List.all_eq_true]
          · simp [a3, hat, hlc, mo_all, a4, -List.all_eq_false, -List.all_eq_true]
        · have a3' : ¬ (x.length : Int) = c0.length := by omega
          simp [a3, a3', hat]
      · rintro _ ⟨q, q', rfl⟩ ha
        have e : S.all (okCol c0.length) = (decide (1 ≤ c0.length) && decide (c0.length ≤ 3)) := by
          cases q1 : decide (1 ≤ c0.length) && decide (c0.length ≤ 3)
          · rw [List.all_eq_false]
            refine ⟨c0, hm, ?_⟩
            unfold okCol
            rw [q1]
            simp
          · rw [List.all_eq_true] at ha ⊢
            intro x hx
            have hx' := ha x hx
            simp only [Bool.and_eq_true, decide_eq_true_eq] at hx' q1
            unfold okCol
            simp only [Bool.and_eq_true, decide_eq_true_eq]
            exact ⟨⟨⟨by omega, by omega⟩, hx'.1⟩, hx'.2⟩
        simp only [wp_cons, x_ret, v_chain, v_int, v_var]
        have i1 : decide ((1 : Int) ≤ c0.length) = decide (1 ≤ c0.length) := by by_cases c : 1 ≤ c0.length <;> simp [c] <;> omega
        have i2 : decide ((c0.length : Int) ≤ 3) = decide (c0.length ≤ 3) := by by_cases c : c0.length ≤ 3 <;> simp [c] <;> omega
        by_cases c : 1 ≤ c0.length
        · have c' : (1 : Int) ≤ c0.length := by omega
          simp [goodStrip, hh, e, hl, h, c, c', i2, -List.all_eq_true]
        · have c' : ¬ (1 : Int) ≤ c0.length := by omega
          simp [goodStrip, hh, e, hl, h, c, c', -List.all_eq_true]
      · intro ha
        have : S.all (okCol c0.length) = false := by
          rw [List.all_eq_false] at ha ⊢
          obtain ⟨x, hx, hb⟩ := ha
          refine ⟨x, hx, ?_⟩
          intro hc
          apply hb
          unfold okCol at hc
          simp only [Bool.and_eq_true, decide_eq_true_eq] at hc ⊢
          exact ⟨hc.1.2, hc.2⟩
        simp [goodStrip, hh, this, hl, h, -List.all_eq_false]
    · have h' : ¬ (S.length : Int) ≤ 12 := by omega
      simp [goodStrip, h, h', h'']
/-! ### drawn strips -/
theorem sz_ok {n : Nat} (h : n ≤ 1000) : n ≤ PySem.sizeLine := Nat.le_trans h (by decide)
theorem cv_eq (c : Col) : cv c = .tup (c.map .int) := rfl
def Small (s : Strip) : Prop := s.length ≤ 100 ∧ ∀ c ∈ s, c.length ≤ 100
def Ok_law_changed (F : Fn) : Prop := ∀ (s : Strip) (k r c : Int) (st : Store), Small s → 0 ≤ k → k < s.length → 0 ≤ r → ∃ s' : Strip, s'.length ≤ 1000 ∧ F [sv s, .int k, .int r, .int c] st = .ok (sv s') st
theorem d_law_changed_ok : Ok_law_changed (runDf C xs D.d_law_changed) := by
  intro s k r c st hs hk0 hk1 hr
  obtain ⟨x, hx, e⟩ := at_mem hk0 hk1
  have hxl := hs.2 x hx
  have e' : L2.atI (s.map cv) k = some (.tup (x.map .int)) := by rw [at_map, e]; rfl
  have l1 : (cut x none (some r)).length ≤ 100 := Nat.le_trans cut_le hxl
  have l2 : (cut x (some (r + 1)) none).length ≤ 100 := Nat.le_trans cut_le hxl
  have l3 : (cut s none (some k)).length ≤ 100 := Nat.le_trans cut_le hs.1
  have l4 : (cut s (some (k + 1)) none).length ≤ 100 := Nat.le_trans cut_le hs.1
  have z1 := sz_ok (show (cut x none (some r)).length + 1 ≤ 1000 by omega)
  have z2 := sz_ok (show (cut x none (some r)).length + 1 + (cut x (some (r + 1)) none).length ≤ 1000 by omega)
  have z3 := sz_ok (show (cut s none (some k)).length + 1 ≤ 1000 by omega)
  have z4 := sz_ok (show (cut s none (some k)).length + 1 + (cut s (some (k + 1)) none).length ≤ 1000 by omega)
  have z5 := sz_ok (show 1 ≤ 1000 by omega)
  refine ⟨cut s none (some k) ++ [cut x none (some r) ++ [c] ++ cut x (some (r + 1)) none] ++ cut s (some (k + 1)) none, by simp; omega, ?_⟩
  unfold D.d_law_changed sv
  simp [exSs, e', cut_map, z1, z2, z3, z4, z5, cv_eq]
theorem all_inj {α : Type} {f : α → Val} {q : α → Prop} : ∀ {ws : List Val}, (∀ y ∈ ws, ∃ a, y = f a ∧ q a) → ∃ as : List α, ws = as.map f ∧ ∀ a ∈ as, q a
  | [], _ => ⟨[], rfl, by simp⟩
  | w :: ws, h => by
    obtain ⟨a, rfl, qa⟩ := h w (List.mem_cons_self ..)
    obtain ⟨as, rfl, qs⟩ := all_inj fun y hy => h y (List.mem_cons_of_mem _ hy)
    refine ⟨a :: as, rfl, ?_⟩
    intro b hb
    rcases List.mem_cons.mp hb with rfl | hb
    · exact qa
    · exact qs b hb
theorem at3 {a b c : Val} {i : Int} (h0 : 0 ≤ i) (h1 : i < 3) : L2.atI [a, b, c] i = some (if i = 0 then a else if i = 1 then b else c) := by
  have : i = 0 ∨ i = 1 ∨ i = 2 := by omega
  rcases this with rfl | rfl | rfl <;> rfl
theorem at2 {a b : Val} {i : Int} (h0 : 0 ≤ i) (h1 : i < 2) : L2.atI [a, b] i = some (if i = 0 then a else b) := by
  have : i = 0 ∨ i = 1 := by omega
  rcases this with rfl | rfl <;> rfl
/-- a drawn strip of a given height -/
def Drawn (h : Int) (s : Strip) : Prop := 1 ≤ s.length ∧ s.length ≤ 12 ∧ ∀ c ∈ s, (c.length : Int) = h
def Ok_law_any_strip (F : Fn) : Prop := ∀ (o : Ob), DrawOb o → ∀ (h : Int), 1 ≤ h → h ≤ 3 → ∀ rest : Store, ∃ (s : Strip) (o' : Ob), DrawOb o' ∧ Drawn h s ∧ F [.loc 0, .int h] (o :: rest) = .ok (sv s) (o' :: rest)
theorem d_law_any_strip_ok (hp : Ok_law_pull (C "_law_pull")) : Ok_law_any_strip (runDf C xs D.d_law_any_strip) := by
  intro o ho h hh0 hh1 rest
  obtain ⟨v1, o1, h1, a1, b1, e1⟩ := hp o ho 3 (by decide) (by decide) rest
  obtain ⟨v2, o2, h2, a2, b2, e2⟩ := hp o1 h1 2 (by decide) (by decide) rest
  obtain ⟨top, ht⟩ : ∃ top : Int, top = if v1 = 0 then 2 else if v1 = 1 then 3 else 10 := ⟨_, rfl⟩
  obtain ⟨m, hm⟩ : ∃ m : Int, m = if v2 = 0 then 4 else 12 := ⟨_, rfl⟩
  have t1 : L2.atI [Val.int 2, .int 3, .int 10] v1 = some (.int top) := by
    rw [at3 a1 b1, ht]
    split
    · rfl
    · split <;> rfl
  have t2 : L2.atI [Val.int 4, .int 12] v2 = some (.int m) := by
    rw [at2 a2 b2, hm]
    split <;> rfl
  have ht0 : 2 ≤ top ∧ top ≤ 10 := by
    rw [ht]
    split
    · omega
    · split <;> omega
  have hm0 : 4 ≤ m ∧ m ≤ 12 := by
    rw [hm]
    split <;> omega
  obtain ⟨v3, o3, h3, a3, b3, e3⟩ := hp o2 h2 m (by omega) (by omega) rest
  obtain ⟨ws, st, el, hlen, hq, o4, h4, rfl⟩ := lc_draw (C := C) (env := [some (.loc 0), some (.int h), some (.int top), some (.int (1 + v3)), none, none]) (st := o3 :: rest) (own := [4]) (it := .rng1 (.var 3)) (tg := .nm 4) (e := D.d_law_any_strip_e0) (zs := rangeV 0 (1 + v3)) (st1 := o3 :: rest)
    (fun st => ∃ o, DrawOb o ∧ st = o :: rest) (fun y => ∃ c : Col, y = cv c ∧ (c.length : Int) = h) (by
      simp [rngOk_eq, rngRaw, PySem.sizeLine]
      omega) ⟨o3, h3, rfl⟩ (by
      rintro x hx _ ⟨p, hp0, rfl⟩
      obtain ⟨ws, st, el, hlen, hq, p', hp', rfl⟩ := lc_draw (C := C) (env := [some (.loc 0), some (.int h), some (.int top), some (.int (1 + v3)), some x, none]) (st := p :: rest) (own := [5]) (it := .rng1 (.var 1)) (tg := .nm 5) (e := D.d_law_any_strip_e1) (zs := rangeV 0 h) (st1 := p :: rest)
        (fun st => ∃ o, DrawOb o ∧ st = o :: rest) (fun y => ∃ i : Int, y = .int i ∧ True) (by
          simp [rngOk_eq, rngRaw, PySem.sizeLine]
          omega) ⟨p, hp0, rfl⟩ (by
          rintro z hz _ ⟨p, hp0, rfl⟩
          obtain ⟨v, o', h', a', b', e'⟩ := hp p hp0 (top + 1) (by omega) (by omega) rest
          refine ⟨_, .int (v - 1), _, rfl, ?_, ⟨_, rfl, trivial⟩, o', h', rfl⟩
          unfold D.d_law_any_strip_e1
          simp [wipe, e'])
      obtain ⟨c, rfl, _⟩ := all_inj hq
      refine ⟨_, cv c, _, rfl, ?_, ⟨c, rfl, ?_⟩, p', hp', rfl⟩
      · unfold D.d_law_any_strip_e0
        simp [wipe, el, cv]
      · rw [List.length_map, len_rangeV] at hlen
        omega)
  obtain ⟨s, rfl, hs⟩ := all_inj hq
  rw [List.length_map, len_rangeV] at hlen
  refine ⟨s, o4, h4, ⟨by omega, by omega, hs⟩, ?_⟩
  unfold D.d_law_any_strip
  simp [exSs, e1, t1, e2, t2, e3, el, sv, PySem.sizeLine]
theorem drawn_small {h : Int} {s : Strip} (hh : h ≤ 3) (d : Drawn h s) : Small s := ⟨by have := d.2.1; omega, fun c hc => by have := d.2.2 c hc; omega⟩
theorem at5 {a b c d e : Val} {i : Int} (h0 : 0 ≤ i) (h1 : i < 5) : L2.atI [a, b, c, d, e] i = some (if i = 0 then a else if i = 1 then b else if i = 2 then c else if i = 3 then d else e) := by
  have : i = 0 ∨ i = 1 ∨ i = 2 ∨ i = 3 ∨ i = 4 := by omega
  rcases this with rfl | rfl | rfl | rfl | rfl <;> rfl
theorem at4 {a b c d : Val} {i : Int} (h0 : 0 ≤ i) (h1 : i < 4) : L2.atI [a, b, c, d] i = some (if i = 0 then a else if i = 1 then b else if i = 2 then c else d) := by
  have : i = 0 ∨ i = 1 ∨ i = 2 ∨ i = 3 := by omega
  rcases this with rfl | rfl | rfl | rfl <;> rfl
theorem flat_rep {α β : Type} {f : α → β} {n : Nat} {zs : List α} : (List.replicate n (zs.map f)).flatten = (List.replicate n zs).flatten.map f := by
  rw [List.map_flatten, List.map_replicate]
def Ok_law_bent_strip (F : Fn) : Prop := ∀ (o : Ob), DrawOb o → ∀ (h : Int), 1 ≤ h → h ≤ 3 → ∀ s : Strip, Drawn h s → ∀ rest : Store, ∃ (s' : Strip) (o' : Ob), DrawOb o' ∧ s'.length ≤ 1000 ∧ F [.loc 0, sv s] (o :: rest) = .ok (sv s') (o' :: rest)
theorem d_law_bent_strip_ok (hp : Ok_law_pull (C "_law_pull")) (hf : Ok_law_far (C "_law_far")) (hc : Ok_law_changed (C "_law_changed")) : Ok_law_bent_strip (runDf C xs D.d_law_bent_strip) := by
  intro o ho h hh0 hh1 s hs rest
  have hsm := drawn_small hh1 hs
  obtain ⟨hs1, hs2, hs3⟩ := hs
  obtain ⟨w, o1, h1, a1, b1, e1⟩ := hp o ho 14 (by decide) (by decide) rest
  obtain ⟨k, o2, h2, a2, b2, e2⟩ := hp o1 h1 s.length (by omega) (by omega) rest
  obtain ⟨x, hx, ex⟩ := at_mem a2 b2
  have hxl := hs3 x hx
  obtain ⟨r, o3, h3, a3, b3, e3⟩ := hp o2 h2 x.length (by omega) (by omega) rest
  have ex' : L2.atI (s.map cv) k = some (.tup (x.map .int)) := by rw [at_map, ex]; rfl
  have l3 : (cut s none (some k)).length ≤ 100 := Nat.le_trans cut_le hsm.1
  have l4 : (cut s (some (k + 1)) none).length ≤ 100 := Nat.le_trans cut_le hsm.1
  have z0 := sz_ok (show x.length + 1 ≤ 1000 by omega)
  have z3 := sz_ok (show (cut s none (some k)).length + 1 ≤ 1000 by omega)
  have z4 := sz_ok (show (cut s none (some k)).length + 1 + (cut s (some (k + 1)) none).length ≤ 1000 by omega)
  have z5 := sz_ok (show 1 ≤ 1000 by omega)
  unfold D.d_law_bent_strip
  have hsv : sv s = .tup (s.map cv) := rfl
  by_cases w0 : w = 0
  · obtain ⟨v4, o4, h4, e4⟩ := hf o3 h3 rest
    obtain ⟨v5, o5, h5, a5, b5, e5⟩ := hp o4 h4 5 (by decide) (by decide) rest
    obtain ⟨i, hi⟩ : ∃ i : Int, L2.atI [Val.int 10, .int (-2), .int 9, .int (-1), .int v4] v5 = some (.int i) := by
      rw [at5 a5 b5]
      repeat' split
      all_goals exact ⟨_, rfl⟩
    obtain ⟨s', hs', es⟩ := hc s k r i (o5 :: rest) hsm a2 b2 a3
    refine ⟨s', o5, h5, hs', ?_⟩
    rw [hsv] at es ⊢
    simp [exSs, e1, e2, e3, ex', w0, e4, e5, hi, es, PySem.sizeLine]
  · by_cases w1 : w = 1
    · refine ⟨cut s none (some k) ++ [x ++ [0]] ++ cut s (some (k + 1)) none, o3, h3, by simp; omega, ?_⟩
      unfold sv
      simp [exSs, e1, e2, e3, ex', w0, w1, cut_map, z0, z3, z4, z5, cv_eq]
    · by_cases w2 : w = 2
      · refine ⟨cut s none (some k) ++ [cut x (some 1) none] ++ cut s (some (k + 1)) none, o3, h3, by simp; omega, ?_⟩
        unfold sv
        simp [exSs, e1, e2, e3, ex', w0, w1, w2, cut_map, z0, z3, z4, z5, cv_eq]
      · by_cases w3 : w = 3
        · obtain ⟨v4, o4, h4, a4, b4, e4⟩ := hp o3 h3 4 (by decide) (by decide) rest
          obtain ⟨i, hi⟩ : ∃ i : Int, L2.atI [Val.int 0, .int 12, .int 13, .int 14] v4 = some (.int i) := by
            rw [at4 a4 b4]
            repeat' split
            all_goals exact ⟨_, rfl⟩
          have q : s.length ≤ 1000 := by omega
          refine ⟨cut ((List.replicate 13 s).flatten) none (some i), o4, h4, Nat.le_trans cut_le (by simp; omega), ?_⟩
          unfold sv
          have q2 : opMul (.tup (s.map cv)) (.int 13) = some (.tup ((List.replicate 13 s).flatten.map cv)) := by
            rw [e_mulT, ← flat_rep, if_pos (by simp [q])]
            rfl
          simp [exSs, e1, e2, e3, ex', w0, w1, w2, w3, e4, hi, q2, cut_map, PySem.sizeLine, -e_mulT, -List.reduceReplicate]
          rw [flat_rep, cut_map]
        · by_cases w4 : w = 4
          · obtain ⟨ws, st, el, hlen, hq, o4, h4, rfl⟩ := lc_draw (C := C) (env := [some (.loc 0), some (.tup (s.map cv)), some (.int w), some (.int k), some (.int r), none]) (st := o3 :: rest) (own := [5]) (it := .seq (.var 1)) (tg := .nm 5) (e := D.d_law_bent_strip_e0) (zs := s.map cv) (st1 := o3 :: rest)
              (fun st => ∃ o, DrawOb o ∧ st = o :: rest) (fun y => ∃ c : Col, y = cv c ∧ True) (by simp) ⟨o3, h3, rfl⟩ (by
                rintro z hz _ ⟨p, hp0, rfl⟩
                obtain ⟨c, hc, rfl⟩ := List.mem_map.mp hz
                obtain ⟨v, o', h', a', b', e'⟩ := hp p hp0 4 (by omega) (by omega) rest
                have q1 : v ≤ 1000 := by omega
                have q2 : c.length ≤ 3 := by have := hs3 c hc; omega
                have q3 := sz_ok (show c.length + v.toNat ≤ 1000 by omega)
                refine ⟨_, cv (c ++ List.replicate v.toNat 0), _, rfl, ?_, ⟨_, rfl, trivial⟩, o', h', rfl⟩
                unfold D.d_law_bent_strip_e0 cv
                simp [wipe, e', a', q1, q2, q3, z5])
            obtain ⟨s', rfl, _⟩ := all_inj hq
            refine ⟨s', o4, h4, by simp at hlen; omega, ?_⟩
            unfold sv
            simp [w4] at el
            simp [exSs, e1, e2, e3, ex', w0, w1, w2, w3, w4, el]
          · refine ⟨s, o3, h3, by omega, ?_⟩
            unfold sv
            simp [exSs, e1, e2, e3, ex', w0, w1, w2, w3, w4]
end P
/-! P3: seals. -/
namespace P
open PySem (Str PyData)
open Rc
variable {C : Str → List Val → M Val} {xs : List Str}
theorem mo_ints {c : Col} : mapO toInt (c.map .int) = some c := e_moI
theorem foldl_min_le : ∀ (l : List Int) (x : Int), l.foldl min x ≤ x ∧ (∀ y ∈ l, l.foldl min x ≤ y) ∧ (l.foldl min x = x ∨ l.foldl min x ∈ l)
  | [], x => ⟨Int.le_refl _, by simp, .inl rfl⟩
  | y :: l, x => by
    obtain ⟨h1, h2, h3⟩ := foldl_min_le l (min x y)
    simp only [List.foldl_cons]
    refine ⟨by omega, ?_, ?_⟩
    · intro z hz
      rcases List.mem_cons.mp hz with rfl | hz
      · omega
      · exact h2 z hz
    · rcases h3 with h3 | h3
      · by_cases c : x ≤ y
        · left; omega
        · right; rw [h3, show min x y = y by omega]; exact List.mem_cons_self ..
      · right; exact List.mem_cons_of_mem _ h3
theorem mini_spec {c : Col} (h : 1 ≤ c.length) : ∃ m, mini c = some m ∧ m ∈ c ∧ ∀ y ∈ c, m ≤ y := by
  rcases c with _ | ⟨x, l⟩
  · simp at h
  · obtain ⟨h1, h2, h3⟩ := foldl_min_le l x
    refine ⟨_, rfl, ?_, ?_⟩
    · rcases h3 with h3 | h3
      · rw [h3]; exact List.mem_cons_self ..
      · exact List.mem_cons_of_mem _ h3
    · intro y hy
      rcases List.mem_cons.mp hy with rfl | hy
      · exact h1
      · exact h2 y hy
def lost (c : Col) : Bool := c.any fun i => i == -1
def goodSeal (s : Strip) : Bool := goodStrip s && decide (s.length ≤ 6) && !(s.any lost)
def Ok_good_seal (F : Fn) : Prop := ∀ (s : Strip) (st : Store), F [sv s] st = .ok (.bl (goodSeal s)) st
theorem mo_bl {α : Type} {l : List α} {p : α → Bool} : mapO toBl (l.map fun i => .bl (p i)) = some (l.map p) := by
  rw [show (l.map fun i => Val.bl (p i)) = (l.map p).map .bl by simp]
  exact e_moB
theorem d_good_seal_ok (hg : Ok_good_strip (C "good_strip")) : Ok_good_seal (runDf C xs D.d_good_seal) := by
  intro s st
  refine wp_eq rfl ?_
  have hg' : ∀ st, C "good_strip" [.tup (s.map cv)] st = .ok (.bl (goodStrip s)) st := fun st => hg s st
  have hlc : lcSem false [1] (evI C (.seq (.var 0))) (.nm 1) (evT C .nil) (evE C D.d_good_seal_e0) [some (.tup (s.map cv)), none] st = .ok (.lst (s.map fun c => .bl (lost c))) st := by
    refine lc_mapA cv (fun c => .bl (lost c)) (by simp) ?_
    intro c hc
    refine ⟨_, rfl, ?_⟩
    unfold D.d_good_seal_e0
    simp [wipe, cv, lost, Function.comp_def]
  unfold D.d_good_seal sv
  cases h1 : goodStrip s
  · simp [hg', h1, goodSeal]
  · by_cases h2 : s.length ≤ 6
    · have h2' : ¬ (6 : Int) < s.length := by omega
      simp [hg', h1, h2, h2', goodSeal, hlc, mo_bl]
    · have h2' : (6 : Int) < s.length := by omega
      simp [hg', h1, h2, h2', goodSeal]
def Ok_law_seal_ok (F : Fn) : Prop := ∀ (s : Strip) (st : Store), F [sv s] st = .ok (.bl (goodSeal s)) st
theorem good_cols {s : Strip} (h : goodStrip s = true) : 1 ≤ s.length ∧ s.length ≤ 12 ∧ 1 ≤ high s ∧ high s ≤ 3 ∧ ∀ c ∈ s, c.length = high s ∧ ∀ i ∈ c, -1 ≤ i ∧ i ≤ 9 := by
  unfold goodStrip at h
  simp only [Bool.and_eq_true, decide_eq_true_eq, List.all_eq_true] at h
  obtain ⟨⟨h1, h2⟩, h3⟩ := h
  rcases s with _ | ⟨c0, s⟩
  · simp at h1
  · have h0 := h3 c0 (List.mem_cons_self ..)
    simp only [okCol, Bool.and_eq_true, decide_eq_true_eq, List.all_eq_true] at h0
    refine ⟨h1, h2, ?_, ?_, ?_⟩
    · exact h0.1.1.1
    · exact h0.1.1.2
    · intro c hc
      have hc' := h3 c hc
      simp only [okCol, Bool.and_eq_true, decide_eq_true_eq, List.all_eq_true] at hc'
      refine ⟨hc'.1.2, ?_⟩
      intro i hi
      have := hc'.2 i hi
      unfold okCell at this
      simp only [Bool.and_eq_true, decide_eq_true_eq] at this
      exact this
theorem mini_all {α : Type} {l : List α} {f : α → Option Int} (h : ∀ a ∈ l, ∃ m, f a = some m) : ∃ ms, l.map (fun a => (f a).getD 0) = ms ∧ ∀ m, m ∈ ms ↔ ∃ a ∈ l, f a = some m := by
  refine ⟨_, rfl, ?_⟩
  intro m
  rw [List.mem_map]
  constructor
  · rintro ⟨a, ha, rfl⟩
    obtain ⟨m, e⟩ := h a ha
    exact ⟨a, ha, by rw [e]; rfl⟩
  · rintro ⟨a, ha, e⟩
    exact ⟨a, ha, by rw [e]; rfl⟩
theorem d_law_seal_ok_ok (hk : Ok_law_strip_ok (C "_law_strip_ok")) : Ok_law_seal_ok (runDf C xs D.d_law_seal_ok) := by
  intro s st
  refine wp_eq rfl ?_
  have hk' : ∀ st, C "_law_strip_ok" [.tup (s.map cv)] st = .ok (.bl (goodStrip s)) st := fun st => hk s st
  unfold D.d_law_seal_ok sv
  cases h1 : goodStrip s
  · simp [hk', h1, goodSeal]
  · obtain ⟨g1, g2, g3, g4, g5⟩ := good_cols h1
    have hlc : lcSem false [1] (evI C (.seq (.var 0))) (.nm 1) (evT C .nil) (evE C D.d_law_seal_ok_e0) [some (.tup (s.map cv)), none] st = .ok (.lst (s.map fun c => .int ((mini c).getD 0))) st := by
      refine lc_mapA cv (fun c => .int ((mini c).getD 0)) (by simp) ?_
      intro c hc
      refine ⟨_, rfl, ?_⟩
      obtain ⟨m, e, _⟩ := mini_spec (c := c) (by have := (g5 c hc).1; omega)
      unfold D.d_law_seal_ok_e0
      simp [wipe, cv, mo_ints, e]
    have hmo : mapO toInt (s.map fun c => .int ((mini c).getD 0)) = some (s.map fun c => (mini c).getD 0) := by
      rw [show (s.map fun c => Val.int ((mini c).getD 0)) = (s.map fun c => (mini c).getD 0).map .int by simp]
      exact e_moI
    obtain ⟨M, eM, mM, lM⟩ := mini_spec (c := s.map fun c => (mini c).getD 0) (by simpa using g1)
    have hfin : decide (0 ≤ M) = !(s.any lost) := by
      cases q : s.any lost
      · have q' : ∀ c ∈ s, ∀ i ∈ c, ¬ i = -1 := by
          intro c hc i hi e
          rw [List.any_eq_false] at q
          exact q c hc (by unfold lost; rw [List.any_eq_true]; exact ⟨i, hi, by simp [e]⟩)
        obtain ⟨c, hc, e⟩ := List.mem_map.mp mM
        obtain ⟨m, e2, m2, _⟩ := mini_spec (c := c) (by have := (g5 c hc).1; omega)
        rw [e2] at e
        have e' : m = M := e
        have := q' c hc m m2
        have := (g5 c hc).2 m m2
        simp
        omega
      · rw [List.any_eq_true] at q
        obtain ⟨c, hc, q⟩ := q
        unfold lost at q
        rw [List.any_eq_true] at q
        obtain ⟨i, hi, q⟩ := q
        have q' : i = -1 := by simpa using q
        obtain ⟨m, e2, m2, l2⟩ := mini_spec (c := c) (by have := (g5 c hc).1; omega)
        have h3 := l2 i hi
        have h4 := lM m (List.mem_map.mpr ⟨c, hc, by rw [e2]; rfl⟩)
        simp
        omega
    by_cases h2 : s.length ≤ 6
    · have h2' : (s.length : Int) ≤ 6 := by omega
      simp [hk', h1, h2, h2', goodSeal, hlc, hmo, eM, hfin]
    · have h2' : ¬ (s.length : Int) ≤ 6 := by omega
      simp [hk', h1, h2, h2', goodSeal]
def Ok_law_seal (F : Fn) : Prop := ∀ (o : Ob), DrawOb o → ∀ (h m : Int), 1 ≤ h → h ≤ 3 → 1 ≤ m → m ≤ 12 → ∀ rest : Store, ∃ (s : Strip) (o' : Ob), DrawOb o' ∧ Drawn h s ∧ (s.length : Int) ≤ m ∧ (∀ c ∈ s, ∀ i ∈ c, (0 : Int) ≤ i ∧ i ≤ 9) ∧ F [.loc 0, .int h, .int m] (o :: rest) = .ok (sv s) (o' :: rest)
theorem d_law_sealX_ok (hp : Ok_law_pull (C "_law_pull")) : Ok_law_seal (runDf C xs D.d_law_seal) := by
  intro o ho h mm hh0 hh1 hm0 hm1 rest
  obtain ⟨v1, o1, h1, a1, b1, e1⟩ := hp o ho 3 (by decide) (by decide) rest
  obtain ⟨top, ht⟩ : ∃ top : Int, top = if v1 = 0 then 2 else if v1 = 1 then 3 else 10 := ⟨_, rfl⟩
  have t1 : L2.atI [Val.int 2, .int 3, .int 10] v1 = some (.int top) := by
    rw [at3 a1 b1, ht]
    split
    · rfl
    · split <;> rfl
  have ht0 : 2 ≤ top ∧ top ≤ 10 := by
    rw [ht]
    split
    · omega
    · split <;> omega
  obtain ⟨v3, o3, h3, a3, b3, e3⟩ := hp o1 h1 mm (by omega) (by omega) rest
  obtain ⟨ws, st, el, hlen, hq, o4, h4, rfl⟩ := lc_draw (C := C) (env := [some (.loc 0), some (.int h), some (.int mm), some (.int top), some (.int (1 + v3)), none, none]) (st := o3 :: rest) (own := [5]) (it := .rng1 (.var 4)) (tg := .nm 5) (e := D.d_law_seal_e0) (zs := rangeV 0 (1 + v3)) (st1 := o3 :: rest)
    (fun st => ∃ o, DrawOb o ∧ st = o :: rest) (fun y => ∃ c : Col, y = cv c ∧ ((c.length : Int) = h ∧ ∀ i ∈ c, (0 : Int) ≤ i ∧ i ≤ 9)) (by
      simp [rngOk_eq, rngRaw, PySem.sizeLine]
      omega) ⟨o3, h3, rfl⟩ (by
      rintro x hx _ ⟨p, hp0, rfl⟩
      obtain ⟨ws, st, el, hlen, hq, p', hp', rfl⟩ := lc_draw (C := C) (env := [some (.loc 0), some (.int h), some (.int mm), some (.int top), some (.int (1 + v3)), some x, none]) (st := p :: rest) (own := [6]) (it := .rng1 (.var 1)) (tg := .nm 6) (e := D.d_law_seal_e1) (zs := rangeV 0 h) (st1 := p :: rest)
        (fun st => ∃ o, DrawOb o ∧ st = o :: rest) (fun y => ∃ i : Int, y = .int i ∧ (0 ≤ i ∧ i ≤ 9)) (by
          simp [rngOk_eq, rngRaw, PySem.sizeLine]
          omega) ⟨p, hp0, rfl⟩ (by
          rintro z hz _ ⟨p, hp0, rfl⟩
          obtain ⟨v, o', h', a', b', e'⟩ := hp p hp0 top (by omega) (by omega) rest
          refine ⟨_, .int v, _, rfl, ?_, ⟨_, rfl, by omega, by omega⟩, o', h', rfl⟩
          unfold D.d_law_seal_e1
          simp [wipe, e'])
      obtain ⟨c, rfl, hc⟩ := all_inj hq
      refine ⟨_, cv c, _, rfl, ?_, ⟨c, rfl, ?_, hc⟩, p', hp', rfl⟩
      · unfold D.d_law_seal_e0
        simp [wipe, el, cv]
      · rw [List.length_map, len_rangeV] at hlen
        omega)
  obtain ⟨s, rfl, hs⟩ := all_inj hq
  rw [List.length_map, len_rangeV] at hlen
  refine ⟨s, o4, h4, ⟨by omega, by omega, fun c hc => (hs c hc).1⟩, by omega, fun c hc => (hs c hc).2, ?_⟩
  unfold D.d_law_seal
  simp [exSs, e1, t1, e3, el, sv, PySem.sizeLine]
def Ok_law_bent_seal (F : Fn) : Prop := ∀ (o : Ob), DrawOb o → ∀ (h : Int), 1 ≤ h → h ≤ 3 → ∀ s : Strip, Drawn h s → ∀ rest : Store, ∃ (s' : Strip) (o' : Ob), DrawOb o' ∧ s'.length ≤ 1000 ∧ F [.loc 0, sv s] (o :: rest) = .ok (sv s') (o' :: rest)
theorem d_law_bent_seal_ok (hp : Ok_law_pull (C "_law_pull")) (hb : Ok_law_bent_strip (C "_law_bent_strip")) (hc : Ok_law_changed (C "_law_changed")) : Ok_law_bent_seal (runDf C xs D.d_law_bent_seal) := by
  intro o ho h hh0 hh1 s hs rest
  have hsm := drawn_small hh1 hs
  have hs' := hs
  obtain ⟨hs1, hs2, hs3⟩ := hs
  obtain ⟨w, o1, h1, a1, b1, e1⟩ := hp o ho 12 (by decide) (by decide) rest
  have z5 := sz_ok (show 1 ≤ 1000 by omega)
  have hsv : sv s = .tup (s.map cv) := rfl
  unfold D.d_law_bent_seal
  by_cases w0 : w = 0
  · obtain ⟨s', o2, h2, hl2, e2⟩ := hb o1 h1 h hh0 hh1 s hs' rest
    refine ⟨s', o2, h2, hl2, ?_⟩
    simp [exSs, e1, e2, w0]
  · by_cases w1 : w = 1
    · obtain ⟨k, o2, h2, a2, b2, e2⟩ := hp o1 h1 s.length (by omega) (by omega) rest
      obtain ⟨s', hl2, es⟩ := hc s k 0 (-1) (o2 :: rest) hsm a2 b2 (by decide)
      refine ⟨s', o2, h2, hl2, ?_⟩
      rw [hsv] at es ⊢
      simp [exSs, e1, e2, w0, w1, es]
    · by_cases w2 : w = 2
      · obtain ⟨v4, o4, h4, a4, b4, e4⟩ := hp o1 h1 3 (by decide) (by decide) rest
        obtain ⟨i, hi⟩ : ∃ i : Int, L2.atI [Val.int 6, .int 7, .int 0] v4 = some (.int i) := by
          rw [at3 a4 b4]
          repeat' split
          all_goals exact ⟨_, rfl⟩
        have q : s.length ≤ 1000 := by omega
        refine ⟨cut ((List.replicate 7 s).flatten) none (some i), o4, h4, Nat.le_trans cut_le (by simp; omega), ?_⟩
        unfold sv
        simp [exSs, e1, w0, w1, w2, e4, hi, q, cut_map, PySem.sizeLine, -List.reduceReplicate]
        rw [flat_rep, cut_map]
      · by_cases w3 : w = 3
        · have hlc : lcSem false [3] (evI C (.seq (.var 1))) (.nm 3) (evT C .nil) (evE C D.d_law_bent_seal_e0) [some (.loc 0), some (.tup (s.map cv)), some (.int 3), none] (o1 :: rest) = .ok (.lst (s.map fun c => cv (c ++ [0]))) (o1 :: rest) := by
            refine lc_mapA cv (fun c => cv (c ++ [0])) (by simp) ?_
            intro c hc
            refine ⟨_, rfl, ?_⟩
            have q3 := sz_ok (show c.length + 1 ≤ 1000 by have := hs3 c hc; omega)
            unfold D.d_law_bent_seal_e0
            simp [wipe, cv, q3, z5]
          refine ⟨s.map fun c => c ++ [0], o1, h1, by simp; omega, ?_⟩
          unfold sv
          simp [exSs, e1, w0, w1, w2, w3, hlc, Function.comp_def]
        · refine ⟨s, o1, h1, by omega, ?_⟩
          unfold sv
          simp [exSs, e1, w0, w1, w2, w3]
end P
/-! P4: strips turned about, broken, written. -/
namespace P
open PySem (Str PyData)
open Rc
variable {C : Str → List Val → M Val} {xs : List Str}
structure Ok_need_strip (F : Fn) : Prop where
  good : ∀ (s : Strip) (st : Store), goodStrip s = true → F [sv s] st = .ok .non st
  bad : ∀ (s : Strip) (st : Store), goodStrip s = false → F [sv s] st = .exc "BadStrip" none st
theorem d_need_strip_ok (hg : Ok_good_strip (C "good_strip")) : Ok_need_strip (runDf C xs D.d_need_strip) := by
  constructor
  · intro s st h
    unfold D.d_need_strip
    simp [exSs, hg s _, h]
  · intro s st h
    unfold D.d_need_strip
    simp [exSs, hg s _, h]
def turn (s : Strip) : Strip := s.reverse.map List.reverse
theorem turn_turn (s : Strip) : turn (turn s) = s := by
  unfold turn
  rw [← List.map_reverse, List.reverse_reverse, List.map_map]
  have : (List.reverse ∘ List.reverse : List Int → List Int) = id := by
    funext c
    exact List.reverse_reverse c
  rw [this, List.map_id]
theorem good_iff {s : Strip} : goodStrip s = true ↔ (1 ≤ s.length ∧ s.length ≤ 12 ∧ ∃ h, 1 ≤ h ∧ h ≤ 3 ∧ ∀ c ∈ s, c.length = h ∧ ∀ i ∈ c, -1 ≤ i ∧ i ≤ 9) := by
  constructor
  · intro h
    obtain ⟨a, b, c, d, e⟩ := good_cols h
    exact ⟨a, b, high s, c, d, e⟩
  · rintro ⟨h1, h2, h, h3, h4, h5⟩
    rcases s with _ | ⟨c0, s⟩
    · simp at h1
    · have e : high (c0 :: s) = h := (h5 c0 (List.mem_cons_self ..)).1
      unfold goodStrip
      simp only [Bool.and_eq_true, decide_eq_true_eq, List.all_eq_true]
      refine ⟨⟨h1, h2⟩, ?_⟩
      intro c hc
      obtain ⟨a1, a2⟩ := h5 c hc
      unfold okCol
      simp only [Bool.and_eq_true, decide_eq_true_eq, List.all_eq_true]
      refine ⟨⟨⟨by omega, by omega⟩, by rw [e, a1]⟩, ?_⟩
      intro i hi
      unfold okCell
      simp only [Bool.and_eq_true, decide_eq_true_eq]
      exact a2 i hi
theorem good_turn {s : Strip} (h : goodStrip s = true) : goodStrip (turn s) = true := by
  rw [good_iff] at h ⊢
  obtain ⟨h1, h2, k, h3, h4, h5⟩ := h
  refine ⟨by simpa [turn] using h1, by simpa [turn] using h2, k, h3, h4, ?_⟩
  intro c hc
  unfold turn at hc
  obtain ⟨d, hd, rfl⟩ := List.mem_map.mp hc
  obtain ⟨a1, a2⟩ := h5 d (List.mem_reverse.mp hd)
  exact ⟨by rw [List.length_reverse, a1], fun i hi => a2 i (List.mem_reverse.mp hi)⟩
def Ok_about (F : Fn) : Prop := ∀ (s : Strip) (st : Store), F [sv s] st = .ok (sv (turn s)) st
theorem d_about_ok : Ok_about (runDf C xs D.d_about) := by
  intro s st
  refine wp_eq rfl ?_
  have hlc : lcSem false [1] (evI C (.seq (.rev false (.var 0)))) (.nm 1) (evT C .nil) (evE C D.d_about_e0) [some (.tup (s.map cv)), none] st = .ok (.lst (s.reverse.map fun c => cv c.reverse)) st := by
    refine lc_mapA cv (fun c => cv c.reverse) (by simp) ?_
    intro c hc
    refine ⟨_, rfl, ?_⟩
    unfold D.d_about_e0
    simp [wipe, cv]
  unfold D.d_about sv
  simp [hlc, turn, Function.comp_def]
def Ok_law_turned (F : Fn) : Prop := ∀ (s : Strip) (st : Store), F [sv s] st = .ok (sv (turn s)) st
theorem d_law_turned_ok : Ok_law_turned (runDf C xs D.d_law_turned) := by
  intro s st
  refine wp_eq rfl ?_
  have hlc : lcSem false [1] (evI C (.seq (.rev false (.var 0)))) (.nm 1) (evT C .nil) (evE C D.d_law_turned_e0) [some (.tup (s.map cv)), none, none] st = .ok (.lst (s.reverse.map fun c => cv c.reverse)) st := by
    refine lc_mapA cv (fun c => cv c.reverse) (by simp) ?_
    intro c hc
    refine ⟨[some (.tup (s.map cv)), some (.tup (c.map .int)), none], rfl, ?_⟩
    have h2 : lcSem false [2] (evI C (.seq (.rev false (.var 1)))) (.nm 2) (evT C .nil) (evE C D.d_law_turned_e1) [some (.tup (s.map cv)), some (.tup (c.map .int)), none] st = .ok (.lst (c.reverse.map .int)) st := by
      refine lc_mapA .int .int (by simp) ?_
      intro i hi
      refine ⟨_, rfl, ?_⟩
      unfold D.d_law_turned_e1
      simp [wipe]
    unfold D.d_law_turned_e0
    simp [h2, cv_eq]
  unfold D.d_law_turned sv
  simp [hlc, turn, Function.comp_def]
structure Ok_turned_about (F : Fn) : Prop where
  good : ∀ (s : Strip) (st : Store), goodStrip s = true → F [sv s] st = .ok (sv (turn s)) st
  bad : ∀ (s : Strip) (st : Store), goodStrip s = false → F [sv s] st = .exc "BadStrip" none st
theorem d_turned_about_ok (hn : Ok_need_strip (C "need_strip")) (ha : Ok_about (C "about")) : Ok_turned_about (runDf C xs D.d_turned_about) := by
  constructor
  · intro s st h
    unfold D.d_turned_about
    simp [exSs, hn.good s _ h, ha s _]
  · intro s st h
    unfold D.d_turned_about
    simp [exSs, hn.bad s _ h]
def refused : Val := .lst [.str "refused"]
structure Ok_asked_turn (F : Fn) : Prop where
  good : ∀ (s : Strip) (st : Store), goodStrip s = true → F [sv s] st = .ok (sv (turn s)) st
  bad : ∀ (s : Strip) (st : Store), goodStrip s = false → F [sv s] st = .ok refused st
theorem d_law_asked_ok (hx : xs.contains ("BadStrip" : Str) = true) (ht : Ok_turned_about (C "turned_about")) : Ok_asked_turn (runDf C xs D.d_law_asked) := by
  constructor
  · intro s st h
    unfold D.d_law_asked
    simp [exSs, ht.good s _ h]
  · intro s st h
    unfold D.d_law_asked refused
    simp only [List.contains_iff_mem] at hx
    simp [exSs, ht.bad s _ h, hx, subOf, PySem.sizeLine]
def Ok_law_refused (F : Fn) : Prop := ∀ st, F [refused] st = .ok (.bl true) st
theorem d_law_refused_ok : Ok_law_refused (runDf C xs D.d_law_refused) := by
  intro st
  unfold D.d_law_refused refused
  simp [exSs, at_zero]
theorem plain_col {n : Nat} {c : Col} (h : c.length ≤ 10000) : plainV (n + 2) (cv c) := by
  refine .tup (by simpa using h) ?_
  intro w hw
  obtain ⟨i, _, rfl⟩ := List.mem_map.mp hw
  exact .int i
theorem plain_strip {n : Nat} {s : Strip} (h : s.length ≤ 10000) (h2 : ∀ c ∈ s, c.length ≤ 10000) : plainV (n + 3) (sv s) := by
  refine .tup (by simpa using h) ?_
  intro w hw
  obtain ⟨c, hc, rfl⟩ := List.mem_map.mp hw
  exact plain_col (h2 c hc)
theorem plain_good {n : Nat} {s : Strip} (h : goodStrip s = true) : plainV (n + 3) (sv s) := by
  obtain ⟨a, b, c, d, e⟩ := good_cols h
  exact plain_strip (by omega) fun c hc => by have := (e c hc).1; omega
end P
/-! P5: strips broken. -/
namespace P
open PySem (Str PyData)
open Rc
variable {C : Str → List Val → M Val} {xs : List Str}
structure Ok_parts (F : Fn) : Prop where
  good : ∀ (s : Strip) (a : Int) (st : Store), goodStrip s = true → 1 ≤ a → a < s.length → F [sv s, .int a] st = .ok (.tup [sv (cut s none (some a)), sv (cut s (some a) none)]) st
  wide : ∀ (s : Strip) (a : Int) (st : Store), goodStrip s = true → ¬ (1 ≤ a ∧ a < s.length) → F [sv s, .int a] st = .exc "BadWidth" none st
  bad : ∀ (s : Strip) (a : Int) (st : Store), goodStrip s = false → F [sv s, .int a] st = .exc "BadStrip" none st
theorem d_parts_ok (hn : Ok_need_strip (C "need_strip")) : Ok_parts (runDf C xs D.d_parts) := by
  refine ⟨?_, ?_, ?_⟩
  · intro s a st h h1 h2
    have e : ∀ st, C "need_strip" [.tup (s.map cv)] st = .ok .non st := fun st => hn.good s st h
    have c1 : ¬ a < 1 := by omega
    have c2 : ¬ (s.length : Int) ≤ a := by omega
    unfold D.d_parts sv
    simp [exSs, e, c1, c2, cut_map, PySem.sizeLine]
  · intro s a st h h1
    have e : ∀ st, C "need_strip" [.tup (s.map cv)] st = .ok .non st := fun st => hn.good s st h
    unfold D.d_parts sv
    by_cases c1 : a < 1
    · simp [exSs, e, c1]
    · have c2 : (s.length : Int) ≤ a := by omega
      simp [exSs, e, c1, c2]
  · intro s a st h
    have e : ∀ st, C "need_strip" [.tup (s.map cv)] st = .exc "BadStrip" none st := fun st => hn.bad s st h
    unfold D.d_parts sv
    simp [exSs, e]
def word (x : Str) : Val := .lst [.str x]
structure Ok_asked_parts (F : Fn) : Prop where
  good : ∀ (s : Strip) (a : Int) (st : Store), goodStrip s = true → 1 ≤ a → a < s.length → F [sv s, .int a] st = .ok (.tup [sv (cut s none (some a)), sv (cut s (some a) none)]) st
  wide : ∀ (s : Strip) (a : Int) (st : Store), goodStrip s = true → ¬ (1 ≤ a ∧ a < s.length) → F [sv s, .int a] st = .ok (word "BadWidth") st
  bad : ∀ (s : Strip) (a : Int) (st : Store), goodStrip s = false → F [sv s, .int a] st = .ok (word "BadStrip") st
theorem ne_cls {a b : String} (h : (Str.ofString a == Str.ofString b) = false) : ¬ Str.ofString a = Str.ofString b := by
  intro e
  rw [e] at h
  simp at h
theorem d_law_asked2_ok (hx : xs.contains ("BadStrip" : Str) = true) (hy : xs.contains ("BadWidth" : Str) = true) (ht : Ok_parts (C "parts")) : Ok_asked_parts (runDf C xs D.d_law_asked2) := by
  simp only [List.contains_iff_mem] at hx hy
  refine ⟨?_, ?_, ?_⟩
  · intro s a st h h1 h2
    unfold D.d_law_asked2
    simp [exSs, ht.good s a _ h h1 h2]
  · intro s a st h h1
    have n1 : ¬ (Str.ofString "BadWidth" = Str.ofString "BadStrip") := ne_cls (by decide)
    have n2 : ¬ (Str.ofString "BadStrip" = Str.ofString "ClayError") := ne_cls (by decide)
    unfold D.d_law_asked2 word
    simp [exSs, ht.wide s a _ h h1, hy, subOf, n1, n2, PySem.sizeLine]
  · intro s a st h
    unfold D.d_law_asked2 word
    simp [exSs, ht.bad s a _ h, hx, subOf, PySem.sizeLine]
def Ok_law_near (F : Fn) : Prop := ∀ (o : Ob), DrawOb o → ∀ (n : Int), 0 ≤ n → n ≤ 100000 → ∀ rest : Store, ∃ v o', DrawOb o' ∧ F [.loc 0, .int n] (o :: rest) = .ok (.int v) (o' :: rest)
theorem d_law_near_ok (hp : Ok_law_pull (C "_law_pull")) (hf : Ok_law_far (C "_law_far")) : Ok_law_near (runDf C xs D.d_law_near) := by
  intro o ho n h0 h1 rest
  obtain ⟨v1, o1, h1', a1, b1, e1⟩ := hp o ho 12 (by decide) (by decide) rest
  by_cases c : v1 = 7
  · obtain ⟨v2, o2, h2, e2⟩ := hf o1 h1' rest
    refine ⟨v2, o2, h2, ?_⟩
    unfold D.d_law_near
    simp [exSs, e1, c, e2]
  · obtain ⟨v2, o2, h2, a2, b2, e2⟩ := hp o1 h1' (n + 4) (by omega) (by omega) rest
    refine ⟨v2 - 2, o2, h2, ?_⟩
    unfold D.d_law_near
    simp [exSs, e1, c, e2]
theorem plain_word {n : Nat} (x : Str) : plainV (n + 2) (word x) := by
  refine .lst (by simp) ?_
  intro w hw
  rw [List.mem_singleton.mp hw]
  exact .str x
end P
/-! P6: strips written. -/
namespace P
open PySem (Str PyData)
open Rc
variable {C : Str → List Val → M Val} {xs : List Str}
/-- a cell's sign -/
def sgn (i : Int) : Str := ⟨#[("?0123456789" : Str).cps.toList.getD (i + 1).toNat 0]⟩
theorem cell_cases {i : Int} (h0 : -1 ≤ i) (h1 : i ≤ 9) : i = -1 ∨ i = 0 ∨ i = 1 ∨ i = 2 ∨ i = 3 ∨ i = 4 ∨ i = 5 ∨ i = 6 ∨ i = 7 ∨ i = 8 ∨ i = 9 := by omega
theorem sgn_len (i : Int) : (sgn i).length = 1 := rfl
theorem sgn_a {st : Store} {i : Int} (h0 : 0 ≤ i) (h1 : i ≤ 9) : ixOp st (.str "0123456789") (.int i) = some (.str (sgn i)) := by
  rcases cell_cases (by omega) h1 with rfl | rfl | rfl | rfl | rfl | rfl | rfl | rfl | rfl | rfl | rfl
  · omega
  all_goals rfl
theorem sgn_b {st : Store} {i : Int} (h0 : -1 ≤ i) (h1 : i ≤ 9) : ixOp st (.str "?0123456789") (.int (i + 1)) = some (.str (sgn i)) := by
  rcases cell_cases h0 h1 with rfl | rfl | rfl | rfl | rfl | rfl | rfl | rfl | rfl | rfl | rfl <;> rfl
theorem sgn_c : sgn (-1) = "?" := rfl
def colText (c : Col) : Str := PySem.Txt.join "" (c.map sgn)
def stripText (s : Strip) : Str := PySem.Txt.join " " (s.map colText)
theorem mo_strs {α : Type} {l : List α} {f : α → Str} : mapO toStr (l.map fun i => .str (f i)) = some (l.map f) := by
  induction l with
  | nil => rfl
  | cons a l ih =>
    rw [List.map_cons, e_moc, ih]
    rfl
theorem join_len {a : Str} {ys : List Str} : (PySem.Txt.join a ys).length ≤ (ys.map (·.length)).sum + ys.length * a.length := by
  unfold PySem.Txt.join
  rw [PySem.StrLaws.glued_eq_join]
  exact PySem.StrLaws.join_length_le a ys
theorem sum_le {m : Nat} : ∀ {l : List Nat}, (∀ x ∈ l, x ≤ m) → l.sum ≤ l.length * m
  | [], _ => by simp
  | x :: l, h => by
    have h1 := h x (List.mem_cons_self ..)
    have h2 := sum_le fun y hy => h y (List.mem_cons_of_mem _ hy)
    rw [List.sum_cons, List.length_cons, Nat.succ_mul]
    omega
theorem join_ok {st : Store} {a : Str} {α : Type} {l : List α} {f : α → Str} (h : ((l.map f).map (·.length)).sum + (l.map f).length * a.length ≤ 16777216) : joinOp st a (.lst (l.map fun i => .str (f i))) = some (PySem.Txt.join a (l.map f)) := by
  unfold joinOp
  show ((some _).bind _) = _
  rw [Option.bind_some, mo_strs, Option.bind_some, if_pos h]
theorem col_sum {c : Col} : ((c.map sgn).map (·.length)).sum = c.length := by
  induction c with
  | nil => rfl
  | cons i c ih =>
    rw [List.map_cons, List.map_cons, List.sum_cons, ih, List.length_cons]
    show 1 + _ = _
    omega
theorem col_len {c : Col} (h : c.length ≤ 3) : (colText c).length ≤ 3 := by
  have := join_len (a := "") (ys := c.map sgn)
  rw [col_sum, List.length_map] at this
  have e : ("" : Str).length = 0 := rfl
  rw [e] at this
  unfold colText
  omega
def Ok_column_text (F : Fn) : Prop := ∀ (c : Col) (st : Store), c.length ≤ 3 → (∀ i ∈ c, -1 ≤ i ∧ i ≤ 9) → F [cv c] st = .ok (.str (colText c)) st
theorem d_column_text_ok : Ok_column_text (runDf C xs D.d_column_text) := by
  intro c st h1 h2
  refine wp_eq rfl ?_
  have hlc : lcSem false [1] (evI C (.seq (.var 0))) (.nm 1) (evT C .nil) (evE C D.d_column_text_e0) [some (.tup (c.map .int)), none] st = .ok (.lst (c.map fun i => .str (sgn i))) st := by
    refine lc_mapA .int (fun i => .str (sgn i)) (by simp) ?_
    intro i hi
    refine ⟨_, rfl, ?_⟩
    obtain ⟨a, b⟩ := h2 i hi
    unfold D.d_column_text_e0
    by_cases e : i = -1
    · subst e
      simp [wipe, sgn_c]
    · have := sgn_a (st := st) (i := i) (by omega) b
      simp [wipe, e, this, -e_ixStr]
  have hj := join_ok (st := st) (a := "") (l := c) (f := sgn) (by
    rw [col_sum, List.length_map]
    have e : ("" : Str).length = 0 := rfl
    rw [e]
    omega)
  unfold D.d_column_text cv
  simp [hlc, hj, colText]
theorem strip_sum {s : Strip} (h1 : s.length ≤ 12) (h2 : ∀ c ∈ s, c.length ≤ 3) : ((s.map colText).map (·.length)).sum + (s.map colText).length * (" " : Str).length ≤ 16777216 := by
  have := sum_le (m := 3) (l := (s.map colText).map (·.length)) (by
    intro x hx
    obtain ⟨t, ht, rfl⟩ := List.mem_map.mp hx
    obtain ⟨c, hc, rfl⟩ := List.mem_map.mp ht
    exact col_len (h2 c hc))
  rw [List.length_map, List.length_map] at this
  have e : (" " : Str).length = 1 := rfl
  rw [e, List.length_map]
  omega
structure Ok_strip_text (F : Fn) : Prop where
  good : ∀ (s : Strip) (st : Store), goodStrip s = true → F [sv s] st = .ok (.str (stripText s)) st
  bad : ∀ (s : Strip) (st : Store), goodStrip s = false → F [sv s] st = .exc "BadStrip" none st
theorem d_strip_text_ok (hn : Ok_need_strip (C "need_strip")) (hc : Ok_column_text (C "column_text")) : Ok_strip_text (runDf C xs D.d_strip_text) := by
  constructor
  · intro s st h
    obtain ⟨g1, g2, g3, g4, g5⟩ := good_cols h
    refine wp_eq rfl ?_
    have e : ∀ st, C "need_strip" [.tup (s.map cv)] st = .ok .non st := fun st => hn.good s st h
    have hlc : lcSem false [1] (evI C (.seq (.var 0))) (.nm 1) (evT C .nil) (evE C D.d_strip_text_e0) [some (.tup (s.map cv)), none] st = .ok (.lst (s.map fun c => .str (colText c))) st := by
      refine lc_mapA cv (fun c => .str (colText c)) (by simp) ?_
      intro c hm
      refine ⟨_, rfl, ?_⟩
      unfold D.d_strip_text_e0
      simp [wipe, hc c st (by have := (g5 c hm).1; omega) (g5 c hm).2]
    have hj := join_ok (st := st) (a := " ") (l := s) (f := colText) (strip_sum g2 fun c hm => by have := (g5 c hm).1; omega)
    unfold D.d_strip_text sv
    simp [e, hlc, hj, stripText]
  · intro s st h
    have e : ∀ st, C "need_strip" [.tup (s.map cv)] st = .exc "BadStrip" none st := fun st => hn.bad s st h
    unfold D.d_strip_text sv
    simp [exSs, e]
def Ok_law_strip_words (F : Fn) : Prop := ∀ (s : Strip) (st : Store), goodStrip s = true → F [sv s] st = .ok (.str (stripText s)) st
theorem d_law_strip_words_ok : Ok_law_strip_words (runDf C xs D.d_law_strip_words) := by
  intro s st h
  obtain ⟨g1, g2, g3, g4, g5⟩ := good_cols h
  refine wp_eq rfl ?_
  have hlc : lcSem false [1] (evI C (.seq (.var 0))) (.nm 1) (evT C .nil) (evE C D.d_law_strip_words_e0) [some (.tup (s.map cv)), none, none] st = .ok (.lst (s.map fun c => .str (colText c))) st := by
    refine lc_mapA cv (fun c => .str (colText c)) (by simp) ?_
    intro c hm
    refine ⟨[some (.tup (s.map cv)), some (.tup (c.map .int)), none], rfl, ?_⟩
    have h2 : lcSem false [2] (evI C (.seq (.var 1))) (.nm 2) (evT C .nil) (evE C D.d_law_strip_words_e1) [some (.tup (s.map cv)), some (.tup (c.map .int)), none] st = .ok (.lst (c.map fun i => .str (sgn i))) st := by
      refine lc_mapA .int (fun i => .str (sgn i)) (by simp) ?_
      intro i hi
      refine ⟨_, rfl, ?_⟩
      obtain ⟨a, b⟩ := (g5 c hm).2 i hi
      have := sgn_b (st := st) (i := i) a b
      unfold D.d_law_strip_words_e1
      simp [wipe, this, -e_ixStr]
    have hj := join_ok (st := st) (a := "") (l := c) (f := sgn) (by
      rw [col_sum, List.length_map]
      have e : ("" : Str).length = 0 := rfl
      have := (g5 c hm).1
      rw [e]
      omega)
    unfold D.d_law_strip_words_e0
    simp [h2, hj, colText]
  have hj := join_ok (st := st) (a := " ") (l := s) (f := colText) (strip_sum g2 fun c hm => by have := (g5 c hm).1; omega)
  unfold D.d_law_strip_words sv
  simp [hlc, hj, stripText]
structure Ok_asked_text (F : Fn) : Prop where
  good : ∀ (s : Strip) (st : Store), goodStrip s = true → F [sv s] st = .ok (.str (stripText s)) st
  bad : ∀ (s : Strip) (st : Store), goodStrip s = false → F [sv s] st = .ok refused st
theorem d_law_asked3_ok (hx : xs.contains ("BadStrip" : Str) = true) (ht : Ok_strip_text (C "strip_text")) : Ok_asked_text (runDf C xs D.d_law_asked3) := by
  constructor
  · intro s st h
    unfold D.d_law_asked3
    simp [exSs, ht.good s _ h]
  · intro s st h
    unfold D.d_law_asked3 refused
    simp only [List.contains_iff_mem] at hx
    simp [exSs, ht.bad s _ h, hx, subOf, PySem.sizeLine]
end P
/-! P7: seals rolled. -/
namespace Rc
theorem wp_forI {T : Val → Store → Prop} {body : Env → Store → RS} {tg : Tg} {ys : List Val} (I : Nat → Env → Store → Prop) : ∀ {zs : List Val} (n : Nat), (∀ i x, zs[i]? = some x → ∀ env st, I (n + i) env st → ∃ env', assignTg tg x env = some env' ∧ WP (body env' st) (I (n + i + 1)) T) →
    ∀ {env : Env} {st : Store}, I n env st → WP (forLoop body tg (Still ⟨ys, none⟩) zs env st) (I (n + zs.length)) T
  | [], n, _, env, st, h => by
    rw [forLoop_nil (by simp)]
    exact h
  | x :: zs, n, hb, env, st, h => by
    obtain ⟨env', e1, e2⟩ := hb 0 x rfl env st h
    rw [forLoop_cons (by simp) e1]
    have ih := fun (env : Env) (st : Store) (h : I (n + 1) env st) => wp_forI (T := T) (body := body) (tg := tg) (ys := ys) I (zs := zs) (n + 1) (fun i y hy env st hi => by
      have := hb (i + 1) y (by simpa using hy) env st (by rw [show n + (i + 1) = n + 1 + i by omega]; exact hi)
      rw [show n + (i + 1) + 1 = n + 1 + i + 1 by omega] at this
      exact this) h
    revert e2
    rcases body env' st with ⟨f, st1⟩ | ⟨c, r, e, st1⟩ | _
    · cases f
      · intro h
        have := ih _ _ h
        rw [show n + (x :: zs).length = n + 1 + zs.length by simp; omega]
        exact this
      · exact fun h => h
    · exact fun h => h
    · exact fun h => h
theorem wpk_forI {C : PySem.Str → List Val → M Val} {xs : List PySem.Str} {N : Env → Store → Prop} {T : Val → Store → Prop} {body : Env → Store → RS} {tg : Tg} {ys : List Val} {ss : Ss} (I : Nat → Env → Store → Prop) {zs : List Val} {env : Env} {st : Store} (h0 : I 0 env st) (hb : ∀ i x, zs[i]? = some x → ∀ env st, I i env st → ∃ env', assignTg tg x env = some env' ∧ WP (body env' st) (I (i + 1)) T)
    (hn : ∀ env st, I zs.length env st → WP (exSs C xs ss env st) N T) : WPK (forLoop body tg (Still ⟨ys, none⟩) zs env st) C xs ss N T := by
  have := wp_forI (T := T) (body := body) (tg := tg) (ys := ys) I (zs := zs) 0 (fun i x hx env st h => by
    have := hb i x hx env st (by simpa using h)
    simpa using this) h0
  rw [Nat.zero_add] at this
  exact wp_mono this hn fun _ _ h => h
end Rc
namespace P
open PySem (Str PyData)
open Rc
variable {C : Str → List Val → M Val} {xs : List Str}
/-! ### plain values are not touched by the cut -/
theorem mapO_id {α : Type} {f : α → Option α} : ∀ {l : List α}, (∀ a ∈ l, f a = some a) → mapO f l = some l
  | [], _ => rfl
  | a :: l, h => by
    rw [e_moc, h a (List.mem_cons_self ..), mapO_id fun b hb => h b (List.mem_cons_of_mem _ hb)]
    rfl
theorem frz_plain {st : Store} {b : Nat} : ∀ {m n : Nat} {v : Val}, plainV n v → n ≤ m → frz st b m v = some v
  | 0, n, v, h, hm => by
    cases h <;> omega
  | m + 1, n, v, h, hm => by
    cases h with
    | non => rfl
    | bl b => rfl
    | int i => rfl
    | str x => rfl
    | @tup n vs h1 h2 =>
      show (mapO (frz st b m) vs).map Val.tup = _
      rw [mapO_id fun a ha => frz_plain (h2 a ha) (by omega)]
      rfl
    | @lst n vs h1 h2 =>
      show (mapO (frz st b m) vs).map Val.lst = _
      rw [mapO_id fun a ha => frz_plain (h2 a ha) (by omega)]
      rfl
theorem cut_ok {m : M Val} {st ext : Store} {v : Val} {n : Nat} (h : m st = .ok v (st ++ ext)) (hp : plainV n v) (hn : n ≤ 10) : cutM m st = .ok v st := by
  unfold cutM
  rw [h]
  dsimp only
  rw [if_pos ⟨by simp, .inl (by simp)⟩]
  have : frz (st ++ ext) st.length depthD v = some v := frz_plain hp hn
  rw [this]
  simp
/-! ### seals -/
structure Ok_need_seal (F : Fn) : Prop where
  good : ∀ (s : Strip) (st : Store), goodSeal s = true → F [sv s] st = .ok .non st
  bad : ∀ (s : Strip) (st : Store), goodSeal s = false → F [sv s] st = .exc "BadSeal" none st
theorem d_need_seal_ok (hg : Ok_good_seal (C "good_seal")) : Ok_need_seal (runDf C xs D.d_need_seal) := by
  constructor
  · intro s st h
    unfold D.d_need_seal
    simp [exSs, hg s _, h]
  · intro s st h
    unfold D.d_need_seal
    simp [exSs, hg s _, h]
/-- the print of a seal: n columns from a on -/
def prt (s : Strip) (a n : Nat) : Strip := (List.range n).map fun k => s.getD ((a + k) % s.length) []
theorem prt_len (s : Strip) (a n : Nat) : (prt s a n).length = n := by simp [prt]
theorem prt_mem {s : Strip} {a n : Nat} (h : 1 ≤ s.length) : ∀ c ∈ prt s a n, c ∈ s := by
  intro c hc
  unfold prt at hc
  obtain ⟨k, _, rfl⟩ := List.mem_map.mp hc
  have hlt : (a + k) % s.length < s.length := Nat.mod_lt _ (by omega)
  rw [List.getD_eq_getElem?_getD, List.getElem?_eq_getElem hlt]
  exact List.getElem_mem hlt
theorem at_getD {s : Strip} {i : Nat} (h : i < s.length) : L2.atI (s.map cv) (i : Int) = some (cv (s.getD i [])) := by
  rw [at_map]
  unfold L2.atI L2.ixN
  rw [if_pos (by omega), if_pos (by omega)]
  simp [h]
def Ok_print_of (F : Fn) : Prop := ∀ (s : Strip) (a n : Nat) (st : Store), 1 ≤ s.length → s.length ≤ 1000 → n ≤ 1000 → F [sv s, .int a, .int n] st = .ok (sv (prt s a n)) st
theorem rangeV_nat (n : Nat) : rangeV 0 (n : Int) = (List.range n).map fun k : Nat => Val.int (k : Int) := by
  unfold rangeV
  rw [Int.sub_zero, Int.toNat_natCast]
  refine List.map_congr_left fun k _ => ?_
  rw [Int.zero_add]
theorem print_e0 {s : Strip} {a k : Nat} {st : Store} {q : Option Val} {env : Env} (h1 : 0 < s.length) : evE C D.d_print_of_e0 [some (.tup (s.map cv)), some (.int a), q, some (.int k)] st = .ok (cv (s.getD ((a + k) % s.length) [])) st := by
  have hlt : (a + k) % s.length < s.length := Nat.mod_lt _ h1
  have e := at_getD hlt
  have em : ((a : Int) + (k : Int)) % (s.length : Int) = (((a + k) % s.length : Nat) : Int) := by
    rw [Int.natCast_emod, Int.natCast_add]
  have e' : L2.atI (s.map cv) (((a : Int) + (k : Int)) % (s.length : Int)) = some (cv (s.getD ((a + k) % s.length) [])) := by rw [em]; exact e
  clear e em hlt
  generalize cv (s.getD ((a + k) % s.length) []) = r at e' ⊢
  unfold D.d_print_of_e0
  simp [h1, e']
theorem d_print_of_ok : Ok_print_of (runDf C xs D.d_print_of) := by
  intro s a n st h1 h2 hn
  refine wp_eq rfl ?_
  have hlc : lcSem false [3] (evI C (.rng1 (.var 2))) (.nm 3) (evT C .nil) (evE C D.d_print_of_e0) [some (.tup (s.map cv)), some (.int a), some (.int n), none] st = .ok (.lst ((List.range n).map fun k => cv (s.getD ((a + k) % s.length) []))) st := by
    refine lc_mapA (fun k : Nat => Val.int (k : Int)) (fun k => cv (s.getD ((a + k) % s.length) [])) ?_ ?_
    · have hr := rng_ok (show (0 : Int) ≤ n by omega) (by omega)
      rw [← rangeV_nat]
      generalize (n : Int) = m at hr ⊢
      simp [hr]
    · intro k hk
      exact ⟨[some (.tup (s.map cv)), some (.int a), some (.int n), some (.int k)], rfl, print_e0 (env := []) (by omega)⟩
  have hm : ((List.range n).map fun k => cv (s.getD ((a + k) % s.length) [])) = (prt s a n).map cv := by
    unfold prt
    rw [List.map_map]
    rfl
  rw [hm] at hlc
  generalize prt s a n = r at hlc ⊢
  unfold D.d_print_of sv
  simp [hlc]
end P
/-! P8: rollings. -/
namespace P
open PySem (Str PyData)
open Rc
variable {C : Str → List Val → M Val} {xs : List Str}
structure Ok_rolled (F : Fn) : Prop where
  bad : ∀ (s : Strip) (a n : Int) (st : Store), goodSeal s = false → F [sv s, .int a, .int n] st = .exc "BadSeal" none st
  start : ∀ (s : Strip) (a n : Int) (st : Store), goodSeal s = true → ¬ (0 ≤ a ∧ a < s.length) → F [sv s, .int a, .int n] st = .exc "BadStart" none st
  wide : ∀ (s : Strip) (a n : Int) (st : Store), goodSeal s = true → 0 ≤ a → a < s.length → ¬ (1 ≤ n ∧ n ≤ 12) → F [sv s, .int a, .int n] st = .exc "BadWidth" none st
  good : ∀ (s : Strip) (a n : Nat) (st : Store), goodSeal s = true → a < s.length → 1 ≤ n → n ≤ 12 → F [sv s, .int a, .int n] st = .ok (sv (prt s a n)) st
theorem seal_len {s : Strip} (h : goodSeal s = true) : 1 ≤ s.length ∧ s.length ≤ 6 := by
  unfold goodSeal at h
  simp only [Bool.and_eq_true, decide_eq_true_eq] at h
  obtain ⟨a, _⟩ := good_cols h.1.1
  exact ⟨a, h.1.2⟩
theorem d_rolled_ok (hn : Ok_need_seal (C "need_seal")) (hp : Ok_print_of (C "print_of")) : Ok_rolled (runDf C xs D.d_rolled) := by
  constructor
  · intro s a n st h
    unfold D.d_rolled
    simp [exSs, hn.bad s _ h]
  · intro s a n st h h2
    have e := hn.good s st h
    unfold sv at e ⊢
    unfold D.d_rolled
    by_cases c : a < 0
    · simp [exSs, e, c]
    · have : (s.length : Int) ≤ a := by omega
      simp [exSs, e, c, this]
  · intro s a n st h h1 h2 h3
    have e := hn.good s st h
    unfold sv at e ⊢
    unfold D.d_rolled
    have c1 : ¬ a < 0 := by omega
    have c2 : ¬ (s.length : Int) ≤ a := by omega
    by_cases c : n < 1
    · simp [exSs, e, c, c1, c2]
    · have : (12 : Int) < n := by omega
      simp [exSs, e, c, c1, c2, this]
  · intro s a n st h h1 h2 h3
    have e := hn.good s st h
    obtain ⟨l1, l2⟩ := seal_len h
    have e2 := hp s a n st l1 (by omega) (by omega)
    unfold sv at e e2 ⊢
    unfold D.d_rolled
    have c1 : ¬ (a : Int) < 0 := by omega
    have c2 : ¬ (s.length : Int) ≤ a := by omega
    have c3 : ¬ (n : Int) < 1 := by omega
    have c4 : ¬ (12 : Int) < n := by omega
    simp [exSs, e, c1, c2, c3, c4, e2]
structure Ok_asked_rolled (F : Fn) : Prop where
  bad : ∀ (s : Strip) (a n : Int) (st : Store), goodSeal s = false → F [sv s, .int a, .int n] st = .ok (word "BadSeal") st
  start : ∀ (s : Strip) (a n : Int) (st : Store), goodSeal s = true → ¬ (0 ≤ a ∧ a < s.length) → F [sv s, .int a, .int n] st = .ok (word "BadStart") st
  wide : ∀ (s : Strip) (a n : Int) (st : Store), goodSeal s = true → 0 ≤ a → a < s.length → ¬ (1 ≤ n ∧ n ≤ 12) → F [sv s, .int a, .int n] st = .ok (word "BadWidth") st
  good : ∀ (s : Strip) (a n : Nat) (st : Store), goodSeal s = true → a < s.length → 1 ≤ n → n ≤ 12 → F [sv s, .int a, .int n] st = .ok (sv (prt s a n)) st
theorem d_law_asked5_ok (hx : xs.contains ("BadSeal" : Str) = true) (hy : xs.contains ("BadStart" : Str) = true) (hz : xs.contains ("BadWidth" : Str) = true) (ht : Ok_rolled (C "rolled")) : Ok_asked_rolled (runDf C xs D.d_law_asked5) := by
  have n1 : ¬ ("BadStart" : Str) = "BadSeal" := ne_cls (by decide)
  have n2 : ¬ ("BadWidth" : Str) = "BadSeal" := ne_cls (by decide)
  have n3 : ¬ ("BadWidth" : Str) = "BadStart" := ne_cls (by decide)
  have n4 : ¬ ("BadSeal" : Str) = "ClayError" := ne_cls (by decide)
  have n5 : ¬ ("BadStart" : Str) = "ClayError" := ne_cls (by decide)
  simp only [List.contains_iff_mem] at hx hy hz
  constructor
  · intro s a n st h
    unfold D.d_law_asked5 word
    simp [exSs, ht.bad s a n _ h, hx, subOf, PySem.sizeLine]
  · intro s a n st h h2
    unfold D.d_law_asked5 word
    simp [exSs, ht.start s a n _ h h2, hy, subOf, PySem.sizeLine, n1, n4]
  · intro s a n st h h1 h2 h3
    unfold D.d_law_asked5 word
    simp [exSs, ht.wide s a n _ h h1 h2 h3, hz, subOf, PySem.sizeLine, n2, n3, n4, n5]
  · intro s a n st h h1 h2 h3
    unfold D.d_law_asked5
    simp [exSs, ht.good s a n _ h h1 h2 h3]
theorem prt_succ (s : Strip) (a n : Nat) : prt s a (n + 1) = prt s a n ++ [s.getD ((a + n) % s.length) []] := by
  unfold prt
  rw [List.range_succ, List.map_append]
  rfl
def Ok_law_print (F : Fn) : Prop := ∀ (s : Strip) (a n : Nat) (st : Store), a < s.length → s.length ≤ 1000 → n ≤ 1000 → ∃ ext, F [sv s, .int a, .int n] st = .ok (sv (prt s a n)) (st ++ ext)
theorem d_law_print_ok : Ok_law_print (runDf C xs D.d_law_print) := by
  intro s a n st h1 h2 hn
  have key : ∃ v st', runDf C xs D.d_law_print [sv s, .int a, .int n] st = .ok v st' ∧ (v = sv (prt s a n) ∧ ∃ ext, st' = st ++ ext) := by
    refine wp_run rfl ?_
    unfold D.d_law_print sv
    have hr := rng_ok (show (0 : Int) ≤ n by omega) (by omega)
    simp [PySem.sizeLine, hr, -Still]
    refine wpk_forI (fun i env st' => ∃ q, env = [some (.tup (s.map cv)), some (.int a), some (.int n), some (.loc st.length), some (.int (((a + i) % s.length : Nat) : Int)), q] ∧ st' = st ++ [.lst ((prt s a i).map cv)] ∧ i ≤ n) ⟨none, by rw [Nat.mod_eq_of_lt (by omega)]; simp, by simp [prt], by omega⟩ ?_ ?_
    · rintro i x hx env st' ⟨q, rfl, rfl, hi⟩
      refine ⟨_, rfl, ?_⟩
      have hi' : i < n := by
        rw [rangeV_nat] at hx
        have := (List.getElem?_eq_some_iff.mp hx).1
        simpa using this
      have hlt : (a + i) % s.length < s.length := Nat.mod_lt _ (by omega)
      have e := at_getD hlt
      have nx : (((a + (i + 1)) % s.length : Nat) : Int) = if (((a + i) % s.length : Nat) : Int) + 1 < s.length then (((a + i) % s.length : Nat) : Int) + 1 else 0 := by
        split
        · rename_i hc
          have : (a + (i + 1)) % s.length = (a + i) % s.length + 1 := by
            rw [← Nat.add_assoc, Nat.add_mod]
            rw [Nat.mod_eq_of_lt (a := 1) (by omega)]
            exact Nat.mod_eq_of_lt (by omega)
          omega
        · rename_i hc
          have hl : (a + i) % s.length + 1 = s.length := by omega
          have : (a + (i + 1)) % s.length = 0 := by
            rw [← Nat.add_assoc, ← Nat.mod_add_mod, hl, Nat.mod_self]
          omega
      rw [nx]
      have hw : ∀ y, wrLst .append st.length [y] (st ++ [.lst ((prt s a i).map cv)]) = .ok .non (st ++ [.lst ((prt s a i).map cv ++ [y])]) := fun y => by
        rw [wr_append (xs := (prt s a i).map cv) (by simp) (by rw [List.length_map, prt_len]; show _ ≤ 16777216; omega)]
        simp
      have em := prt_succ s a i
      generalize (a + i) % s.length = j at e em ⊢
      unfold D.d_law_print_b0
      by_cases hc : (j : Int) + 1 < s.length
      · simp [hw, e, hc, em, List.map_append]
        omega
      · simp [hw, e, hc, em, List.map_append]
        omega
    · rintro env st' ⟨q, rfl, rfl, hi⟩
      have : (rangeV 0 (n : Int)).length = n := by rw [rangeV_nat]; simp
      rw [this]
      simp
  obtain ⟨v, st', e, rfl, ext, rfl⟩ := key
  exact ⟨ext, e⟩
end P
namespace Rc
theorem wpk_seq {C : PySem.Str → List Val → M Val} {xs : List PySem.Str} {N : Env → Store → Prop} {T : Val → Store → Prop} {r : RS} {ss : Ss} (I : Env → Store → Prop) (h : WP r I T) (k : ∀ e s, I e s → WP (exSs C xs ss e s) N T) : WPK r C xs ss N T :=
  wp_mono h k fun _ _ h => h
end Rc
namespace P
open PySem (Str PyData)
open Rc
variable {C : Str → List Val → M Val} {xs : List Str}
theorem law_k08 (ns : List Int) (hl : ns.length ≤ 63) (hop : Ok_law_open (C "_law_open")) (hp : Ok_law_pull (C "_law_pull")) (ha : Ok_law_seal (C "_law_seal")) (hb : Ok_law_bent_seal (C "_law_bent_seal")) (hL : Ok_law_like (C "_law_like")) (hk : Ok_law_seal_ok (C "_law_seal_ok")) (hn : Ok_law_near (C "_law_near")) (hq : Ok_asked_rolled (C "_law_asked")) (hpr : Ok_law_print (C "_law_print")) :
    ∃ v st, runDf C xs D.d_law_k08 [.scr ns] [] = .ok v st ∧ v = .bl true := by
  refine wp_run rfl ?_
  unfold D.d_law_k08
  simp [hop ns _ hl, rngOk_eq, rngRaw, PySem.sizeLine, -Still]
  refine wpk_for (fun env st => ∃ q q' q2 q3 q4 o, DrawOb o ∧ env = [some (.scr ns), some (.loc 0), q, q', q2, q3, q4] ∧ st = [o]) ⟨none, none, none, none, none, _, draw0 ns, rfl, rfl⟩ ?_ ?_
  · rintro x hx env st ⟨q, q', q2, q3, q4, o, ho, rfl, rfl⟩
    obtain ⟨v, o1, h1, a1, b1, e1⟩ := hp o ho 3 (by decide) (by decide) []
    obtain ⟨s0, o2, h2, d, _, _, e2⟩ := ha o1 h1 (1 + v) 6 (by omega) (by omega) (by decide) (by decide) []
    obtain ⟨s, o3, h3, hs, e3⟩ := hb o2 h2 (1 + v) (by omega) (by omega) s0 d []
    obtain ⟨a, o4, h4, e4⟩ := hn o3 h3 s.length (by omega) (by omega) []
    obtain ⟨v5, o5, h5, a5, b5, e5⟩ := hp o4 h4 3 (by decide) (by decide) []
    have ksv : sv s = .tup (s.map cv) := rfl
    refine ⟨_, rfl, ?_⟩
    unfold D.d_law_k08_b0
    rw [ksv] at e3
    rw [wp_cons]
    simp [e1, e2, e3, -wp_cons]
    rw [wp_cons]
    simp [e4, -wp_cons]
    rw [wp_cons]
    refine wpk_seq (fun e st => ∃ n o6, DrawOb o6 ∧ e = [some (.scr ns), some (.loc 0), some x, some (.tup (s.map cv)), some (.int a), some (.int n), q4] ∧ st = [o6]) ?_ ?_
    · by_cases c : v5 = 0
      · obtain ⟨n, o6, h6, e6⟩ := hn o5 h5 13 (by omega) (by omega) []
        simp [e5, c, e6, h6]
      · obtain ⟨n, o6, h6, _, _, e6⟩ := hp o5 h5 12 (by omega) (by omega) []
        simp [e5, c, e6, h6]
    rintro _ _ ⟨n, o6, h6, rfl, rfl⟩
    have kk : ∀ st, C "_law_seal_ok" [.tup (s.map cv)] st = .ok (.bl (goodSeal s)) st := fun st => hk s st
    cases hg : goodSeal s
    · have f1 := hq.bad s a n [o6] hg
      have f2 := hL.same (word "BadSeal") [o6] (plain_word _)
      unfold word at f1 f2
      rw [ksv] at f1
      simp [kk, hg, f1, f2, h6, PySem.sizeLine]
    · by_cases c1 : 0 ≤ a ∧ a < s.length
      · obtain ⟨c1, c2⟩ := c1
        by_cases c3 : 1 ≤ n ∧ n ≤ 12
        · obtain ⟨c3, c4⟩ := c3
          obtain ⟨a', rfl⟩ := Int.eq_ofNat_of_zero_le c1
          obtain ⟨n', rfl⟩ := Int.eq_ofNat_of_zero_le (show 0 ≤ n by omega)
          obtain ⟨ext, f0⟩ := hpr s a' n' [o6] (by omega) (by omega) (by omega)
          have pl : plainV 6 (sv (prt s a' n')) := plain_strip (n := 3) (by rw [prt_len]; omega) (fun c hc => by
            have := prt_mem (s := s) (a := a') (n := n') (by omega) c hc
            unfold goodSeal at hg
            simp only [Bool.and_eq_true, decide_eq_true_eq] at hg
            obtain ⟨_, _, _, _, g5⟩ := good_cols hg.1.1
            have := (g5 c this).1
            omega)
          have f3 := cut_ok f0 pl (by omega)
          have f1 := hq.good s a' n' [o6] hg (by omega) (by omega) (by omega)
          have f2 := hL.same _ [o6] pl
          rw [ksv] at f1 f3
          simp [kk, hg, f1, f2, f3, h6, c1, c2, c3, c4, PySem.sizeLine]
        · have f1 := hq.wide s a n [o6] hg c1 c2 c3
          have f2 := hL.same (word "BadWidth") [o6] (plain_word _)
          unfold word at f1 f2
          rw [ksv] at f1
          by_cases c4 : 1 ≤ n
          · have c5 : ¬ n ≤ 12 := by omega
            simp [kk, hg, f1, f2, h6, c1, c2, c4, c5, PySem.sizeLine]
          · simp [kk, hg, f1, f2, h6, c1, c2, c4, PySem.sizeLine]
      · have f1 := hq.start s a n [o6] hg c1
        have f2 := hL.same (word "BadStart") [o6] (plain_word _)
        unfold word at f1 f2
        rw [ksv] at f1
        by_cases c2 : 0 ≤ a
        · have c3 : ¬ a < s.length := by omega
          simp [kk, hg, f1, f2, h6, c2, c3, PySem.sizeLine]
        · simp [kk, hg, f1, f2, h6, c2, PySem.sizeLine]
  · rintro env st ⟨q, q', q2, q3, q4, o, ho, rfl, rfl⟩
    simp
end P
namespace L_k08
open PySem L2 Rc P
def defs : List (Str × Df) := [(("good_cell" : Str), D.d_good_cell), (("good_strip" : Str), D.d_good_strip), (("good_seal" : Str), D.d_good_seal), (("need_seal" : Str), D.d_need_seal), (("print_of" : Str), D.d_print_of), (("rolled" : Str), D.d_rolled), (("_law_open" : Str), D.d_law_open), (("_law_pull" : Str), D.d_law_pull), (("_law_far" : Str), D.d_law_far), (("_law_near" : Str), D.d_law_near), (("_law_num" : Str), D.d_law_num), (("_law_like" : Str), D.d_law_like), (("_law_strip_ok" : Str), D.d_law_strip_ok), (("_law_seal_ok" : Str), D.d_law_seal_ok), (("_law_seal" : Str), D.d_law_seal), (("_law_print" : Str), D.d_law_print), (("_law_changed" : Str), D.d_law_changed), (("_law_bent_strip" : Str), D.d_law_bent_strip), (("_law_bent_seal" : Str), D.d_law_bent_seal), (("_law_asked" : Str), D.d_law_asked5), (("law" : Str), D.d_law_k08)]
def ex : List Str := [("BadSeal" : Str), ("BadStart" : Str), ("BadWidth" : Str)]
theorem g__law_open (n : Nat) : Ok_law_open (callF defs ex (n + 1) "_law_open") := by
  have e := callF_at (defs := defs) (xs := ex) (n := n + 0) (f := "_law_open") (d := D.d_law_open) (by kernel_rfl)
  show Ok_law_open (callF defs ex (n + 0 + 1) "_law_open")
  rw [e]
  exact d_law_open_ok 
theorem g__law_pull (n : Nat) : Ok_law_pull (callF defs ex (n + 1) "_law_pull") := by
  have e := callF_at (defs := defs) (xs := ex) (n := n + 0) (f := "_law_pull") (d := D.d_law_pull) (by kernel_rfl)
  show Ok_law_pull (callF defs ex (n + 0 + 1) "_law_pull")
  rw [e]
  exact d_law_pull_ok 
theorem g__law_seal (n : Nat) : Ok_law_seal (callF defs ex (n + 2) "_law_seal") := by
  have e := callF_at (defs := defs) (xs := ex) (n := n + 1) (f := "_law_seal") (d := D.d_law_seal) (by kernel_rfl)
  show Ok_law_seal (callF defs ex (n + 1 + 1) "_law_seal")
  rw [e]
  exact d_law_sealX_ok (g__law_pull (n + 0))
theorem g__law_far (n : Nat) : Ok_law_far (callF defs ex (n + 2) "_law_far") := by
  have e := callF_at (defs := defs) (xs := ex) (n := n + 1) (f := "_law_far") (d := D.d_law_far) (by kernel_rfl)
  show Ok_law_far (callF defs ex (n + 1 + 1) "_law_far")
  rw [e]
  exact d_law_far_ok (g__law_pull (n + 0))
theorem g__law_changed (n : Nat) : Ok_law_changed (callF defs ex (n + 1) "_law_changed") := by
  have e := callF_at (defs := defs) (xs := ex) (n := n + 0) (f := "_law_changed") (d := D.d_law_changed) (by kernel_rfl)
  show Ok_law_changed (callF defs ex (n + 0 + 1) "_law_changed")
  rw [e]
  exact d_law_changed_ok 
theorem g__law_bent_strip (n : Nat) : Ok_law_bent_strip (callF defs ex (n + 3) "_law_bent_strip") := by
  have e := callF_at (defs := defs) (xs := ex) (n := n + 2) (f := "_law_bent_strip") (d := D.d_law_bent_strip) (by kernel_rfl)
  show Ok_law_bent_strip (callF defs ex (n + 2 + 1) "_law_bent_strip")
  rw [e]
  exact d_law_bent_strip_ok (g__law_pull (n + 1)) (g__law_far (n + 0)) (g__law_changed (n + 1))
theorem g__law_bent_seal (n : Nat) : Ok_law_bent_seal (callF defs ex (n + 4) "_law_bent_seal") := by
  have e := callF_at (defs := defs) (xs := ex) (n := n + 3) (f := "_law_bent_seal") (d := D.d_law_bent_seal) (by kernel_rfl)
  show Ok_law_bent_seal (callF defs ex (n + 3 + 1) "_law_bent_seal")
  rw [e]
  exact d_law_bent_seal_ok (g__law_pull (n + 2)) (g__law_bent_strip (n + 0)) (g__law_changed (n + 2))
theorem g__law_num (n : Nat) : Ok_law_num (callF defs ex (n + 1) "_law_num") := by
  have e := callF_at (defs := defs) (xs := ex) (n := n + 0) (f := "_law_num") (d := D.d_law_num) (by kernel_rfl)
  show Ok_law_num (callF defs ex (n + 0 + 1) "_law_num")
  rw [e]
  exact d_law_num_ok 
theorem g__law_like (n : Nat) : Ok_law_like (callF defs ex (n + 7) "_law_like") := like_rec (by kernel_rfl) g__law_num 5 n
theorem g__law_strip_ok (n : Nat) : Ok_law_strip_ok (callF defs ex (n + 1) "_law_strip_ok") := by
  have e := callF_at (defs := defs) (xs := ex) (n := n + 0) (f := "_law_strip_ok") (d := D.d_law_strip_ok) (by kernel_rfl)
  show Ok_law_strip_ok (callF defs ex (n + 0 + 1) "_law_strip_ok")
  rw [e]
  exact d_law_strip_ok_ok 
theorem g__law_seal_ok (n : Nat) : Ok_law_seal_ok (callF defs ex (n + 2) "_law_seal_ok") := by
  have e := callF_at (defs := defs) (xs := ex) (n := n + 1) (f := "_law_seal_ok") (d := D.d_law_seal_ok) (by kernel_rfl)
  show Ok_law_seal_ok (callF defs ex (n + 1 + 1) "_law_seal_ok")
  rw [e]
  exact d_law_seal_ok_ok (g__law_strip_ok (n + 0))
theorem g__law_near (n : Nat) : Ok_law_near (callF defs ex (n + 3) "_law_near") := by
  have e := callF_at (defs := defs) (xs := ex) (n := n + 2) (f := "_law_near") (d := D.d_law_near) (by kernel_rfl)
  show Ok_law_near (callF defs ex (n + 2 + 1) "_law_near")
  rw [e]
  exact d_law_near_ok (g__law_pull (n + 1)) (g__law_far (n + 0))
theorem g_good_cell (n : Nat) : Ok_good_cell (callF defs ex (n + 1) "good_cell") := by
  have e := callF_at (defs := defs) (xs := ex) (n := n + 0) (f := "good_cell") (d := D.d_good_cell) (by kernel_rfl)
  show Ok_good_cell (callF defs ex (n + 0 + 1) "good_cell")
  rw [e]
  exact d_good_cell_ok 
theorem g_good_strip (n : Nat) : Ok_good_strip (callF defs ex (n + 2) "good_strip") := by
  have e := callF_at (defs := defs) (xs := ex) (n := n + 1) (f := "good_strip") (d := D.d_good_strip) (by kernel_rfl)
  show Ok_good_strip (callF defs ex (n + 1 + 1) "good_strip")
  rw [e]
  exact d_good_strip_ok (g_good_cell (n + 0))
theorem g_good_seal (n : Nat) : Ok_good_seal (callF defs ex (n + 3) "good_seal") := by
  have e := callF_at (defs := defs) (xs := ex) (n := n + 2) (f := "good_seal") (d := D.d_good_seal) (by kernel_rfl)
  show Ok_good_seal (callF defs ex (n + 2 + 1) "good_seal")
  rw [e]
  exact d_good_seal_ok (g_good_strip (n + 0))
theorem g_need_seal (n : Nat) : Ok_need_seal (callF defs ex (n + 4) "need_seal") := by
  have e := callF_at (defs := defs) (xs := ex) (n := n + 3) (f := "need_seal") (d := D.d_need_seal) (by kernel_rfl)
  show Ok_need_seal (callF defs ex (n + 3 + 1) "need_seal")
  rw [e]
  exact d_need_seal_ok (g_good_seal (n + 0))
theorem g_print_of (n : Nat) : Ok_print_of (callF defs ex (n + 1) "print_of") := by
  have e := callF_at (defs := defs) (xs := ex) (n := n + 0) (f := "print_of") (d := D.d_print_of) (by kernel_rfl)
  show Ok_print_of (callF defs ex (n + 0 + 1) "print_of")
  rw [e]
  exact d_print_of_ok 
theorem g_rolled (n : Nat) : Ok_rolled (callF defs ex (n + 5) "rolled") := by
  have e := callF_at (defs := defs) (xs := ex) (n := n + 4) (f := "rolled") (d := D.d_rolled) (by kernel_rfl)
  show Ok_rolled (callF defs ex (n + 4 + 1) "rolled")
  rw [e]
  exact d_rolled_ok (g_need_seal (n + 0)) (g_print_of (n + 3))
theorem g__law_asked (n : Nat) : Ok_asked_rolled (callF defs ex (n + 6) "_law_asked") := by
  have e := callF_at (defs := defs) (xs := ex) (n := n + 5) (f := "_law_asked") (d := D.d_law_asked5) (by kernel_rfl)
  show Ok_asked_rolled (callF defs ex (n + 5 + 1) "_law_asked")
  rw [e]
  exact d_law_asked5_ok (by decide +kernel) (by decide +kernel) (by decide +kernel) (g_rolled (n + 0))
theorem g__law_print (n : Nat) : Ok_law_print (callF defs ex (n + 1) "_law_print") := by
  have e := callF_at (defs := defs) (xs := ex) (n := n + 0) (f := "_law_print") (d := D.d_law_print) (by kernel_rfl)
  show Ok_law_print (callF defs ex (n + 0 + 1) "_law_print")
  rw [e]
  exact d_law_print_ok 
theorem law_runs : ∀ ns : List Int, ns.length ≤ 63 → ∃ st, callF defs [("BadSeal" : Str), ("BadStart" : Str), ("BadWidth" : Str)] (7 + 1) "law" [.scr ns] [] = .ok (.bl true) st := by
  intro ns hl
  have e := callF_at (defs := defs) (xs := ex) (n := 7) (f := "law") (d := D.d_law_k08) (by kernel_rfl)
  show ∃ st, callF defs ex (7 + 1) "law" [.scr ns] [] = .ok (.bl true) st
  rw [e]
  obtain ⟨v, st, h, rfl⟩ := law_k08 (C := callF defs ex 7) (xs := ex) ns hl (g__law_open 6) (g__law_pull 6) (g__law_seal 5) (g__law_bent_seal 3) (g__law_like 0) (g__law_seal_ok 5) (g__law_near 4) (g__law_asked 1) (g__law_print 6)
  exact ⟨st, h⟩
end L_k08
namespace L_k08
open PySem L2 Rc
def top (i : Nat) : Stmt := PySem.Challenge.pw_rolledclay_k08_seals_rolled.main.body.getD i (.Pass ⟨0, 0, 0, 0⟩)
def t_good_cell : Tx := ⟨"good_cell", [("cell" : Str)], [("cell" : Str)], defArgs (top 3), defBody (top 3), defScope (top 3)⟩
def t_good_strip : Tx := ⟨"good_strip", [("strip" : Str)], [("strip" : Str), ("column" : Str), ("cell" : Str)], defArgs (top 12), defBody (top 12), defScope (top 12)⟩
def t_good_seal : Tx := ⟨"good_seal", [("seal" : Str)], [("seal" : Str), ("column" : Str)], defArgs (top 15), defBody (top 15), defScope (top 15)⟩
def t_need_seal : Tx := ⟨"need_seal", [("seal" : Str)], [("seal" : Str)], defArgs (top 16), defBody (top 16), defScope (top 16)⟩
def t_print_of : Tx := ⟨"print_of", [("seal" : Str), ("start" : Str), ("many" : Str)], [("seal" : Str), ("start" : Str), ("many" : Str), ("k" : Str)], defArgs (top 17), defBody (top 17), defScope (top 17)⟩
def t_rolled : Tx := ⟨"rolled", [("seal" : Str), ("start" : Str), ("many" : Str)], [("seal" : Str), ("start" : Str), ("many" : Str)], defArgs (top 18), defBody (top 18), defScope (top 18)⟩
def t__law_open : Tx := ⟨"_law_open", [("_law_script" : Str)], [("_law_script" : Str)], defArgs (top 20), defBody (top 20), defScope (top 20)⟩
def t__law_pull : Tx := ⟨"_law_pull", [("_law_draw" : Str), ("_law_total_of" : Str)], [("_law_draw" : Str), ("_law_total_of" : Str), ("_law_seed" : Str), ("_law_cell" : Str), ("_law_got" : Str)], defArgs (top 21), defBody (top 21), defScope (top 21)⟩
def t__law_far : Tx := ⟨"_law_far", [("_law_draw" : Str)], [("_law_draw" : Str), ("_law_number" : Str)], defArgs (top 22), defBody (top 22), defScope (top 22)⟩
def t__law_near : Tx := ⟨"_law_near", [("_law_draw" : Str), ("_law_total_of" : Str)], [("_law_draw" : Str), ("_law_total_of" : Str)], defArgs (top 23), defBody (top 23), defScope (top 23)⟩
def t__law_num : Tx := ⟨"_law_num", [("_law_found" : Str)], [("_law_found" : Str)], defArgs (top 24), defBody (top 24), defScope (top 24)⟩
def t__law_like : Tx := ⟨"_law_like", [("_law_found" : Str), ("_law_due" : Str)], [("_law_found" : Str), ("_law_due" : Str), ("_law_k" : Str)], defArgs (top 25), defBody (top 25), defScope (top 25)⟩
def t__law_strip_ok : Tx := ⟨"_law_strip_ok", [("_law_strip" : Str)], [("_law_strip" : Str), ("_law_high" : Str), ("_law_column" : Str), ("_law_cell" : Str)], defArgs (top 26), defBody (top 26), defScope (top 26)⟩
def t__law_seal_ok : Tx := ⟨"_law_seal_ok", [("_law_seal_here" : Str)], [("_law_seal_here" : Str), ("_law_column" : Str)], defArgs (top 27), defBody (top 27), defScope (top 27)⟩
def t__law_seal : Tx := ⟨"_law_seal", [("_law_draw" : Str), ("_law_high" : Str), ("_law_most" : Str)], [("_law_draw" : Str), ("_law_high" : Str), ("_law_most" : Str), ("_law_top" : Str), ("_law_size" : Str), ("_law_k" : Str), ("_law_row" : Str)], defArgs (top 28), defBody (top 28), defScope (top 28)⟩
def t__law_print : Tx := ⟨"_law_print", [("_law_seal_here" : Str), ("_law_start" : Str), ("_law_many" : Str)], [("_law_seal_here" : Str), ("_law_start" : Str), ("_law_many" : Str), ("_law_strip" : Str), ("_law_at" : Str), ("_law_step" : Str)], defArgs (top 29), defBody (top 29), defScope (top 29)⟩
def t__law_changed : Tx := ⟨"_law_changed", [("_law_strip" : Str), ("_law_k" : Str), ("_law_row" : Str), ("_law_cell" : Str)], [("_law_strip" : Str), ("_law_k" : Str), ("_law_row" : Str), ("_law_cell" : Str), ("_law_column" : Str)], defArgs (top 30), defBody (top 30), defScope (top 30)⟩
def t__law_bent_strip : Tx := ⟨"_law_bent_strip", [("_law_draw" : Str), ("_law_strip" : Str)], [("_law_draw" : Str), ("_law_strip" : Str), ("_law_way" : Str), ("_law_k" : Str), ("_law_row" : Str), ("_law_column" : Str)], defArgs (top 31), defBody (top 31), defScope (top 31)⟩
def t__law_bent_seal : Tx := ⟨"_law_bent_seal", [("_law_draw" : Str), ("_law_seal_here" : Str)], [("_law_draw" : Str), ("_law_seal_here" : Str), ("_law_way" : Str), ("_law_column" : Str)], defArgs (top 32), defBody (top 32), defScope (top 32)⟩
def t__law_asked : Tx := ⟨"_law_asked", [("_law_seal_here" : Str), ("_law_start" : Str), ("_law_many" : Str)], [("_law_seal_here" : Str), ("_law_start" : Str), ("_law_many" : Str)], defArgs (top 33), defBody (top 33), defScope (top 33)⟩
def t_law : Tx := ⟨"law", [("_law_script" : Str)], [("_law_script" : Str), ("_law_draw" : Str), ("_law_turn" : Str), ("_law_seal_here" : Str), ("_law_start" : Str), ("_law_wide" : Str), ("_law_due" : Str)], defArgs (top 34), defBody (top 34), defScope (top 34)⟩
def ts : List Tx := [t_good_cell, t_good_strip, t_good_seal, t_need_seal, t_print_of, t_rolled, t__law_open, t__law_pull, t__law_far, t__law_near, t__law_num, t__law_like, t__law_strip_ok, t__law_seal_ok, t__law_seal, t__law_print, t__law_changed, t__law_bent_strip, t__law_bent_seal, t__law_asked, t_law]
def sg : SigS := { frees := [("all" : Str), ("any" : Str), ("bool" : Str), ("int" : Str), ("isinstance" : Str), ("len" : Str), ("list" : Str), ("min" : Str), ("range" : Str), ("str" : Str), ("tuple" : Str)], globs := [(("GONE" : Str), (.int (-1))), (("LAST_SIGN" : Str), (.int 9)), (("MOST_COLUMNS" : Str), (.int 6)), (("MOST_ROWS" : Str), (.int 3)), (("MOST_WIDE" : Str), (.int 12))], defs := [(("good_cell" : Str), 1), (("good_strip" : Str), 1), (("good_seal" : Str), 1), (("need_seal" : Str), 1), (("print_of" : Str), 3), (("rolled" : Str), 3), (("_law_open" : Str), 1), (("_law_pull" : Str), 2), (("_law_far" : Str), 1), (("_law_near" : Str), 2), (("_law_num" : Str), 1), (("_law_like" : Str), 2), (("_law_strip_ok" : Str), 1), (("_law_seal_ok" : Str), 1), (("_law_seal" : Str), 3), (("_law_print" : Str), 3), (("_law_changed" : Str), 4), (("_law_bent_strip" : Str), 2), (("_law_bent_seal" : Str), 2), (("_law_asked" : Str), 3), (("law" : Str), 1)], excs := [("BadSeal" : Str), ("BadStart" : Str), ("BadWidth" : Str)] }
theorem ck : ckAll sg ts defs = true := by decide +kernel
abbrev R : PySem.W.OpenRow := PySem.W.OpenLaw.row PySem.Challenge.rw_rolledclay_k08_seals_rolled
abbrev hk : PySem.W.Hook := He.hookD 4 (faOf sg ts) (ts.map ddOf)
def ob (s : PySem.W.SharedT) : He.AlD := He.obsDG 4 (faOf sg ts) (ts.map ddOf) (HandSHeadRun.getT s)
theorem ob_eq (s : PySem.W.SharedT) : ob s = hk.obs s.abs := He.obsDG_eq (HandSHeadRun.getT_eq s)
def nm0 : List PySem.Str := [("GONE" : Str), ("LAST_SIGN" : Str), ("MOST_ROWS" : Str), ("MOST_WIDE" : Str), ("MOST_COLUMNS" : Str), ("ClayError" : Str), ("BadSeal" : Str), ("BadStart" : Str), ("BadWidth" : Str), ("good_cell" : Str), ("good_strip" : Str), ("good_seal" : Str), ("need_seal" : Str), ("print_of" : Str), ("rolled" : Str), ("_law_open" : Str), ("_law_pull" : Str), ("_law_far" : Str), ("_law_near" : Str), ("_law_num" : Str), ("_law_like" : Str), ("_law_strip_ok" : Str), ("_law_seal_ok" : Str), ("_law_seal" : Str), ("_law_print" : Str), ("_law_changed" : Str), ("_law_bent_strip" : Str), ("_law_bent_seal" : Str), ("_law_asked" : Str)]
def nms : List PySem.Str := nm0
theorem run (w : World) : HandSHeadRun.RunEq R (PySem.W.view R.prog [34]) hk ob 100000 nms w := by
  intro os
  kernel_rfl
end L_k08
open PySem PySem.W PySem.Calls PyProof.Rows
set_option maxHeartbeats 0 in
theorem PySem.Challenge.cw_rolledclay_k08_seals_rolled_holds : PySem.Challenge.rw_rolledclay_k08_seals_rolled.Holds := by
  w_on; o_law
  refine HandSHeadRun.head_any (r := OpenLaw.row PySem.Challenge.rw_rolledclay_k08_seals_rolled) (q := view (OpenLaw.row PySem.Challenge.rw_rolledclay_k08_seals_rolled).prog [34]) (H := L_k08.hk) (ob := L_k08.ob) (M := 100000) (loose := L_k08.nms) (d := HandSHeadRun.topDef (OpenLaw.row PySem.Challenge.rw_rolledclay_k08_seals_rolled).prog 34) (kwd := []) L_k08.ob_eq
    (by kernel_rfl) (fun s => by kernel_rfl) L_k08.run (by kernel_rfl) (by kernel_rfl) (by kernel_rfl) (by rfl) (by first | assumption | decide +kernel) (by decide +kernel) ⟨rfl, rfl, rfl, rfl, rfl, by decide +kernel⟩ ?hw ?hc
  case hw => w_witness2
  case hc =>
    refine Rc.walk_ofW (l := PySem.Challenge.rw_rolledclay_k08_seals_rolled) (n := 63) (k := 7 + 1) (x := "_law_script") (CX := fun w => L2.CX (PySem.Challenge.rw_rolledclay_k08_seals_rolled).prog w) rfl (by decide) (by kernel_rfl) ⟨rfl, by decide, by decide⟩ ?F ?E
    case E =>
      intro w H s e s1 hx
      obtain ⟨_, _, _, _, _, _, _, _, _, _, _, _, hf⟩ := hx
      exact hf
    case F =>
      intro w mg fa h Y G hmg0
      obtain ⟨K, KX, c⟩ := Y
      have hmg : mg ("law" : PySem.Str) = some (.ref fa) := by
        have e : (HandSHeadRun.topDef (OpenLaw.row PySem.Challenge.rw_rolledclay_k08_seals_rolled).prog 34).name = ("law" : PySem.Str) := by kernel_rfl
        rw [← e]
        exact hmg0
      exact Rc.law_of (defs := L_k08.defs) KX G (by decide +kernel) c L_k08.ck (by decide +kernel) (by decide +kernel) hmg L_k08.law_runs
