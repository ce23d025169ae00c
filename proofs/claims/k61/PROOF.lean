import PyProof.Rows.All
import HandS.ForMost
import HandS.Exc
import HandS.CallSlots
import HandS.Wide
import HandS.TupAny
import HandS.Steps
import HandS.IsInst
import HandS.DictEq
import HandS.Style
import HandS.SetFor
import HandS.Deep
import HandS.SortInts
import HandS.WordsExc
import HandS.TryOnly
import HandS.Rev
import HandS.Zip
import HandS.Comp
import HandS.Small
import HandS.Words
import HandS.DictTup
import HandS.MapSum
import KE.KDictWalk
import KE.DataFind
import KE.KeyNested
import PySem.Challenge.RW_quiremarks_k61_sequences_with_one_collat
set_option Elab.async false
set_option linter.all false
set_option maxRecDepth 100000
/-! Iv1: trees, owned values, a small syntax and its interpreter. Plain Lean: nothing of the machine here. -/
namespace Iv

/-- a value that nobody changes any more -/
inductive T where
  | non | bl (b : Bool) | int (i : Int) | str (s : List Nat)
  | tup (xs : List T) | lst (xs : List T) | dct (tk : Bool) (kvs : List (T × T)) | scr (ns : List Int)
  deriving Inhabited, Repr

/-- a value whose lists, dicts, instances are one's own -/
inductive O where
  | fz (t : T) | lst (xs : List O) | dct (tk : Bool) (kvs : List (T × O)) | obj (c : Nat) (fs : List (Nat × O))
  deriving Inhabited

mutual
def O.toT : O → Option T
  | .fz t => some t
  | .lst xs => (O.toTs xs).map .lst
  | .dct tk kvs => (O.toTd kvs).map (.dct tk)
  | .obj _ _ => none
def O.toTs : List O → Option (List T)
  | [] => some []
  | o :: r => do let t ← O.toT o; let ts ← O.toTs r; some (t :: ts)
def O.toTd : List (T × O) → Option (List (T × T))
  | [] => some []
  | (k, o) :: r => do let t ← O.toT o; let ts ← O.toTd r; some ((k, t) :: ts)
end

def O.isFz : O → Bool
  | .fz _ => true
  | _ => false
def O.isLst : O → Bool
  | .fz (.lst _) => true
  | .lst _ => true
  | _ => false
/-- frozen itself, or one's own with frozen things in it -/
def O.toT1 : O → Option T
  | .fz t => some t
  | .lst xs => if xs.all O.isFz then O.toT (.lst xs) else none
  | .dct tk kvs => if kvs.all (fun kv => kv.2.isFz) then O.toT (.dct tk kvs) else none
  | .obj _ _ => none
abbrev St := List (Option O)
/-- an exception: its class, its fields' values -/
structure Ex where
  c : Nat
  fs : List T
  deriving Inhabited
inductive Out (α : Type) where
  | ok (a : α) (τ : St) | exc (x : Ex) (τ : St) | stuck
  deriving Inhabited
namespace Out
def bind {α β : Type} (x : Out α) (f : α → St → Out β) : Out β := match x with
  | .ok a τ => f a τ
  | .exc x τ => .exc x τ
  | .stuck => .stuck
def map {α β : Type} (x : Out α) (f : α → β) : Out β := x.bind fun a τ => .ok (f a) τ
end Out
/-- an operand: a value that was reckoned, or a name that is looked up when the operation runs -/
inductive Opd where
  | val (o : O) | ref (i : Nat)
  deriving Inhabited
/-- within a comprehension nothing may be raised -/
def Out.calm {α : Type} (x : Out α) : Out α := match x with
  | .exc _ _ => .stuck
  | x => x
/-- a call's end: the result, the parameters' contents -/
inductive COut where
  | ok (r : O) (as : St) | exc (x : Ex) (as : St) | stuck
  deriving Inhabited

inductive BOp where | add | sub | mul | fdiv | mod | pow
  deriving DecidableEq, Inhabited, Repr
inductive COp where | eq | ne | lt | le | gt | ge | isin | notin
  deriving DecidableEq, Inhabited, Repr
/-- built-in functions of read operands -/
inductive Bi where
  | len | abs | int | str | list | tuple | sum | min1 | max1 | min2 | max2 | any | all | sorted | set
  deriving DecidableEq, Inhabited, Repr
/-- built-in methods -/
inductive Mt where
  | append | extend | pop0 | pop1 | count | index | join | replace
  deriving DecidableEq, Inhabited, Repr
/-- the built-in types of isinstance, own classes -/
inductive Ty where
  | int | bool | str | tuple | list | own (c : Nat)
  deriving DecidableEq, Inhabited, Repr
inductive Tg where
  | nm (i : Nat) | t2 (a b : Tg) | t3 (a b c : Tg)
  deriving DecidableEq, Inhabited, Repr

inductive E where
  | c (t : T) | v (i : Nat)
  | bin (o : BOp) (a b : E) | neg (a : E)
  | cmp (o : COp) (a b : E) | chain (o1 o2 : COp) (a b c : E)
  | isN (a : E) | notN (a : E)
  | and (a b : E) | or (a b : E) | not (a : E) | ite (c a b : E)
  | tup (es : E) | lst (es : E) | dct (tk : Bool) (ks vs : E)
  | ix (a i : E) | sl (a lo hi : E) | rev (a : E)
  | get (a k d : E) | fn (f : Bi) (es : E) | mth (m : Mt) (a es : E)
  | call (f : Nat) (es : E) | make (c f : Nat) (es : E) | meth (f : Nat) (a es : E)
  | fld (a : E) (f : Nat) | isi (a : E) (t : Ty)
  | lc (kp : Bool) (src : E) (tg : Tg) (own : List Nat) (cond elt : E)
  | lc2 (src : E) (tg : Tg) (own : List Nat) (src2 : E) (tg2 : Tg) (own2 : List Nat) (elt : E)
  | dc (tk : Bool) (src : E) (tg : Tg) (own : List Nat) (key val : E)
  | rng1 (a : E) | rng2 (a b : E) | rng3 (a b c : E) | zip (a b : E) | enum (a : E) | revd (a : E)
  | nil | cons (a r : E)
  /-- as a test; as what a loop walks -/
  | tv (a : E) | iv (a : E)
  deriving Inhabited, Repr

inductive S where
  | nop | seq (a b : S)
  | set (tg : Tg) (e : E) | setI (i : Nat) (k e : E) | setF (i f : Nat) (e : E)
  | ex (e : E) | ite (c : E) (a b : S) | for_ (tg : Tg) (src : E) (body : S) | while_ (c : E) (body : S)
  | ret (e : E) | retM (i : Nat) | retN | raise (c : Nat) (es : E) | drop (is : List Nat) | bad
  deriving Inhabited, Repr

/-! ### pure operations on trees -/
def sizeT : Nat := 16777216
mutual
def T.eqv : T → T → Bool
  | .non, .non => true
  | .bl a, .bl b => a == b
  | .bl a, .int j => (if a then 1 else 0) == j
  | .int i, .bl b => i == (if b then 1 else 0)
  | .int i, .int j => i == j
  | .str x, .str y => x == y
  | .tup xs, .tup ys => T.eqvs xs ys
  | .lst xs, .lst ys => T.eqvs xs ys
  | _, _ => false
termination_by structural x => x
def T.eqvs : List T → List T → Bool
  | [], [] => true
  | x :: xs, y :: ys => T.eqv x y && T.eqvs xs ys
  | _, _ => false
termination_by structural x => x
end
mutual
/-- no dict within, texts of plain codes, at most n levels -/
def T.plain : Nat → T → Bool
  | _, .non | _, .bl _ | _, .int _ => true
  | _, .str s => s.all fun c => c < 55296
  | n + 1, .tup xs => T.plains n xs
  | n + 1, .lst xs => T.plains n xs
  | _, _ => false
termination_by structural _ x => x
def T.plains : Nat → List T → Bool
  | _, [] => true
  | n, x :: r => T.plain n x && T.plains n r
termination_by structural _ x => x
end
def T.flat : T → Bool
  | .non | .bl _ | .int _ | .str _ => true
  | _ => false
/-- two scalars, but no truth value beside an int -/
def T.simple : T → T → Bool
  | .non, .non | .non, .bl _ | .non, .int _ | .non, .str _ | .bl _, .non | .bl _, .bl _ | .bl _, .str _ => true
  | .int _, .non | .int _, .int _ | .int _, .str _ | .str _, .non | .str _, .bl _ | .str _, .int _ | .str _, .str _ => true
  | _, _ => false
def T.isNon : T → Bool
  | .non => true
  | _ => false
def T.isInt : T → Bool
  | .int _ => true
  | _ => false
def T.truth : T → Option Bool
  | .non => some false
  | .bl b => some b
  | .int i => some (i != 0)
  | .str s => if s.length ≤ sizeT then some (!s.isEmpty) else none
  | .tup xs | .lst xs => some (!xs.isEmpty)
  | .dct false kvs => some (!kvs.isEmpty)
  | .dct true _ | .scr _ => none
/-- the place of an index in a row of n -/
def place (n : Nat) (i : Int) : Option Nat := if 0 ≤ i then (if i < n then some i.toNat else none) else if -(n : Int) ≤ i then some (i + n).toNat else none
def atT (xs : List T) (i : Int) : Option T := (place xs.length i).bind fun j => xs[j]?
/-- a bound of a slice -/
def bound (n : Nat) (d : Nat) : Option Int → Nat
  | none => d
  | some i => if i < 0 then (i + n).toNat else min i.toNat n
def cut {α : Type} (xs : List α) (lo hi : Option Int) : List α := (xs.drop (bound xs.length 0 lo)).take (bound xs.length xs.length hi - bound xs.length 0 lo)

def T.ints : List T → Option (List Int)
  | [] => some []
  | .int i :: r => (T.ints r).map (i :: ·)
  | _ => none
def T.bls : List T → Option (List Bool)
  | [] => some []
  | .bl b :: r => (T.bls r).map (b :: ·)
  | _ => none
def T.strs : List T → Option (List (List Nat))
  | [] => some []
  | .str s :: r => (T.strs r).map (s :: ·)
  | _ => none
def fzs (xs : List T) : O := .lst (xs.map .fz)

def mulOk (i j : Int) : Bool := decide (i.natAbs.log2 + j.natAbs.log2 < 1000000)
def bin (o : BOp) (x y : T) : Option O := match o, x, y with
  | .add, .int i, .int j => some (.fz (.int (i + j)))
  | .add, .str a, .str b => if a.length + b.length ≤ sizeT then some (.fz (.str (a ++ b))) else none
  | .add, .tup a, .tup b => if a.length + b.length ≤ sizeT then some (.fz (.tup (a ++ b))) else none
  | .add, .lst a, .lst b => if a.length + b.length ≤ sizeT then some (fzs (a ++ b)) else none
  | .sub, .int i, .int j => some (.fz (.int (i - j)))
  | .mul, .int i, .int j => if mulOk i j then some (.fz (.int (i * j))) else none
  | .mul, .lst a, .int k => if decide (-(2 ^ 63) ≤ k) && decide (k < 2 ^ 63) && decide (a.length * k.toNat ≤ sizeT) then some (fzs (List.replicate k.toNat a).flatten) else none
  | .fdiv, .int i, .int j => if decide (0 < j) && decide (j < 1073741824) then some (.fz (.int (i / j))) else none
  | .mod, .int i, .int j => if 0 < j then some (.fz (.int (i % j))) else none
  | .pow, .int i, .int j => if decide (0 ≤ j) && decide (j ≤ 1000000) && decide (i.natAbs < 2 ^ 64) then some (.fz (.int (i ^ j.toNat))) else none
  | _, _, _ => none
def look (kvs : List (T × O)) (k : T) : Option O := (kvs.find? fun kv => T.eqv kv.1 k).map (·.2)
def lookT (kvs : List (T × T)) (k : T) : Option T := (kvs.find? fun kv => T.eqv kv.1 k).map (·.2)
/-- keys of dicts: ints and texts, or tuples of them -/
def T.key1 : T → Bool
  | .int _ | .str _ => true
  | _ => false
def T.key2 : T → Bool
  | .tup xs => xs.all T.key1
  | _ => false
def T.keyOf (tk : Bool) (k : T) : Bool := if tk then k.key2 else k.key1
def isin (x y : T) : Option Bool := match x, y with
  | x, .tup ys => if x.flat && ys.all T.flat then some (ys.any fun z => T.eqv z x) else none
  | x, .lst ys => if (x.flat && ys.all T.flat) || (T.plain 60 x && T.plain 60 (.lst ys)) then some (ys.any fun z => T.eqv z x) else none
  | .str [c], .str s => some (s.contains c)
  | k, .dct tk kvs => if T.keyOf tk k then some (lookT kvs k).isSome else none
  | _, _ => none
def cmpT (o : COp) (x y : T) : Option Bool := match o with
  | .eq => if T.simple x y || (T.plain 60 x && T.plain 60 y) then some (T.eqv x y) else none
  | .ne => if T.simple x y || (T.plain 60 x && T.plain 60 y) then some (!T.eqv x y) else none
  | .lt => match x, y with | .int i, .int j => some (decide (i < j)) | _, _ => none
  | .le => match x, y with | .int i, .int j => some (decide (i ≤ j)) | _, _ => none
  | .gt => match x, y with | .int i, .int j => some (decide (j < i)) | _, _ => none
  | .ge => match x, y with | .int i, .int j => some (decide (j ≤ i)) | _, _ => none
  | .isin => isin x y
  | .notin => (isin x y).map (!·)
def ixT (x i : T) : Option O := match x, i with
  | .tup xs, .int i => (atT xs i).map .fz
  | .lst xs, .int i => (atT xs i).map .fz
  | .scr ns, .int i => (atT (ns.map .int) i).map .fz
  | .str s, .int i => if s.length ≤ sizeT then (place s.length i).bind fun j => (s[j]?).map fun c => .fz (.str [c]) else none
  | .dct tk kvs, k => if T.keyOf tk k then (lookT kvs k).map .fz else none
  | _, _ => none
def slT (x : T) (lo hi : Option Int) : Option O := match x with
  | .tup xs => some (.fz (.tup (cut xs lo hi)))
  | .lst xs => some (fzs (cut xs lo hi))
  | .str s => if s.length ≤ sizeT then some (.fz (.str (cut s lo hi))) else none
  | _ => none
def revT (x : T) : Option O := match x with
  | .tup xs => some (.fz (.tup xs.reverse))
  | .lst xs => some (fzs xs.reverse)
  | _ => none
def partT : T → Option (Option Int)
  | .non => some none
  | .int i => some (some i)
  | _ => none
/-- is the value of the type -/
def isiT (t : T) (ty : Ty) : Option Bool := match t, ty with
  | .non, .own _ => none | .bl _, .own _ => none | .int _, .own _ => none | .str _, .own _ => none
  | .scr _, _ => none | .dct _ _, _ => none
  | .non, _ => some false
  | .bl _, .int => some true | .bl _, .bool => some true | .bl _, _ => some false
  | .int _, .int => some true | .int _, _ => some false
  | .str _, .str => some true | .str _, _ => some false
  | .tup _, .own _ => none | .lst _, .own _ => none
  | .tup _, .tuple => some true | .tup _, _ => some false
  | .lst _, .list => some true | .lst _, _ => some false
def maxI : List Int → Option Int
  | [] => none
  | x :: r => some (r.foldl (fun a b => if a < b then b else a) x)
def minI : List Int → Option Int
  | [] => none
  | x :: r => some (r.foldl (fun a b => if b < a then b else a) x)
/-- < of ints, texts, tuples of such -/
def ltN : List Nat → List Nat → Bool
  | _, [] => false
  | [], _ :: _ => true
  | x :: xs, y :: ys => if x = y then ltN xs ys else decide (x < y)
mutual
def T.lt : T → T → Bool
  | .int i, .int j => decide (i < j)
  | .str a, .str b => ltN a b
  | .tup xs, .tup ys => T.lts xs ys
  | _, _ => false
termination_by structural x => x
def T.lts : List T → List T → Bool
  | _, [] => false
  | [], _ :: _ => true
  | x :: xs, y :: ys => if T.eqv x y then T.lts xs ys else T.lt x y
termination_by structural x => x
end
def ins (x : T) : List T → List T
  | [] => [x]
  | y :: r => if T.lt x y then x :: y :: r else y :: ins x r
def sortT : List T → List T
  | [] => []
  | x :: r => ins x (sortT r)
/-- what may be sorted: all ints, all texts, all tuples of ints -/
def sortOk (xs : List T) : Bool := xs.all T.isInt
def digits (n : Nat) : List Nat := (toString n).toList.map Char.toNat
def fn (f : Bi) (xs : List T) : Option O := match f, xs with
  | .len, [.tup ys] => some (.fz (.int ys.length))
  | .len, [.lst ys] => some (.fz (.int ys.length))
  | .len, [.scr ys] => some (.fz (.int ys.length))
  | .len, [.str s] => if s.length ≤ sizeT then some (.fz (.int s.length)) else none
  | .abs, [.int i] => some (.fz (.int (if i < 0 then -i else i)))
  | .int, [.int i] => some (.fz (.int i))
  | .int, [.bl b] => some (.fz (.int (if b then 1 else 0)))
  | .list, [.tup ys] => some (fzs ys)
  | .list, [.lst ys] => some (fzs ys)
  | .list, [.scr ys] => some (fzs (ys.map .int))
  | .tuple, [.tup ys] => some (.fz (.tup ys))
  | .tuple, [.lst ys] => some (.fz (.tup ys))
  | .sum, [.lst ys] => (T.ints ys).map fun ns => .fz (.int ns.sum)
  | .min2, [.int i, .int j] => some (.fz (.int (if j < i then j else i)))
  | .max2, [.int i, .int j] => some (.fz (.int (if j > i then j else i)))
  | .min1, [.lst ys] => (T.ints ys).bind fun ns => (minI ns).map fun m => .fz (.int m)
  | .max1, [.lst ys] => (T.ints ys).bind fun ns => (maxI ns).map fun m => .fz (.int m)
  | .any, [.lst ys] => (T.bls ys).map fun bs => .fz (.bl (bs.any id))
  | .all, [.lst ys] => (T.bls ys).map fun bs => .fz (.bl (bs.all id))
  | .sorted, [.lst ys] => if sortOk ys then some (fzs (sortT ys)) else none
  | _, _ => none
def T.isDct : T → Bool
  | .dct _ _ => true
  | _ => false
def getT (x k d : T) : Option T := match x with
  | .dct tk kvs => if T.keyOf tk k then some ((lookT kvs k).getD d) else none
  | _ => none
/-- methods that read -/
def Mt.okOf (m : Mt) (s : T) : Bool := match m, s with
  | .count, .lst _ => true
  | _, _ => false
def mthT (m : Mt) (x : T) (xs : List T) : Option O := match m, x, xs with
  | .count, .lst ys, [.int k] => (T.ints ys).map fun ns => .fz (.int (ns.count k : Nat))
  | _, _, _ => none

/-! ### operands -/
def slot (τ : St) (i : Nat) : Option O := (τ[i]?).join
def opd (a : E) (r : St → Out O) (τ : St) : Out Opd := match a with
  | .v i => match slot τ i with
    | some _ => .ok (.ref i) τ
    | none => .stuck
  | _ => (r τ).map .val
/-- read: the slot stays as it is -/
def rd (τ : St) : Opd → Option T
  | .val o => o.toT1
  | .ref i => (slot τ i).bind O.toT1
def rds (τ : St) : List Opd → Option (List T)
  | [] => some []
  | o :: r => do let t ← rd τ o; let ts ← rds τ r; some (t :: ts)
/-- take: the slot is frozen -/
def take (τ : St) : Opd → Option (T × St)
  | .val o => o.toT.map (·, τ)
  | .ref i => ((slot τ i).bind O.toT).map fun t => (t, τ.set i (some (.fz t)))
def takes (τ : St) : List Opd → Option (List T × St)
  | [] => some ([], τ)
  | o :: r => do let (t, τ1) ← take τ o; let (ts, τ2) ← takes τ1 r; some (t :: ts, τ2)
/-- move: an owned slot is emptied -/
def move (τ : St) : Opd → Option (O × St)
  | .val o => some (o, τ)
  | .ref i => match slot τ i with
    | some (.fz t) => some (.fz t, τ)
    | some o => some (o, τ.set i none)
    | none => none
def moves (τ : St) : List Opd → Option (List O × St)
  | [] => some ([], τ)
  | o :: r => do let (t, τ1) ← move τ o; let (ts, τ2) ← moves τ1 r; some (t :: ts, τ2)
/-- behind a call: what was moved comes back as the callee left it -/
def back : List Opd → List O → St → St → St
  | .ref i :: r, o :: os, a :: as, τ => back r os as (if o.isFz then τ else τ.set i a)
  | .val _ :: r, _ :: os, _ :: as, τ => back r os as τ
  | _, _, _, τ => τ
def lift {α : Type} (o : Option α) (f : α → Out β) : Out β := match o with
  | some a => f a
  | none => .stuck
def lift2 {α : Type} (o : Option (α × St)) (f : α → St → Out β) : Out β := match o with
  | some (a, τ) => f a τ
  | none => .stuck

/-! ### targets -/
def setTg : Tg → O → St → Option St
  | .nm i, o, τ => some (τ.set i (some o))
  | .t2 a b, .fz (.tup [x, y]), τ => (setTg a (.fz x) τ).bind (setTg b (.fz y))
  | .t2 a b, .fz (.lst [x, y]), τ => (setTg a (.fz x) τ).bind (setTg b (.fz y))
  | .t2 a b, .lst [x, y], τ => (setTg a x τ).bind (setTg b y)
  | .t3 a b c, .fz (.tup [x, y, z]), τ => ((setTg a (.fz x) τ).bind (setTg b (.fz y))).bind (setTg c (.fz z))
  | .t3 a b c, .lst [x, y, z], τ => ((setTg a x τ).bind (setTg b y)).bind (setTg c z)
  | _, _, _ => none
def Tg.slots : Tg → List Nat
  | .nm i => [i]
  | .t2 a b => a.slots ++ b.slots
  | .t3 a b c => a.slots ++ b.slots ++ c.slots
def wipes : List Nat → St → St
  | [], τ => τ
  | v :: vs, τ => (wipes vs τ).set v none

/-! ### mutation of owned values -/
/-- methods of an owned thing: the new content, the result -/
def mthO (m : Mt) (x : O) (xs : List T) : Option (O × O) := match m, x, xs with
  | .append, .lst os, [t] => if os.length < sizeT then some (.lst (os ++ [.fz t]), .fz .non) else none
  | .extend, .lst os, [.lst ts] => if os.length + ts.length ≤ sizeT then some (.lst (os ++ ts.map .fz), .fz .non) else none
  | .pop0, .lst os, [] => os.getLast?.map fun o => (.lst os.dropLast, o)
  | .pop1, .lst os, [.int i] => if decide (-(2 ^ 63) ≤ i) && decide (i < 2 ^ 63) then (place os.length i).bind fun j => (os[j]?).map fun o => (.lst (os.eraseIdx j), o) else none
  | _, _, _ => none
def Mt.mutates : Mt → Bool
  | .append | .extend | .pop0 | .pop1 => true
  | _ => false
def putD (kvs : List (T × O)) (k : T) (o : O) : List (T × O) :=
  if kvs.any fun kv => T.eqv kv.1 k then kvs.map fun kv => if T.eqv kv.1 k then (kv.1, o) else kv else kvs ++ [(k, o)]
/-- x[i] = o of an owned thing -/
def putO (x : O) (i : T) (o : O) : Option O := match x, i with
  | .lst os, .int i => (place os.length i).map fun j => .lst (os.set j o)
  | .dct tk kvs, k => if T.keyOf tk k && decide (kvs.length < sizeT) then some (.dct tk (putD kvs k o)) else none
  | _, _ => none
/-! ### expressions -/
section
variable (Γ : Nat → List O → COut)
def runCall (f : Nat) (ops : List Opd) (τ : St) : Out O := lift2 (moves τ ops) fun os τ1 => match Γ f os with
  | .ok r as => .ok r (back ops os as τ1)
  | .exc x as => .exc x (back ops os as τ1)
  | .stuck => .stuck
def consO (o : Option O) (os : List O) : List O := match o with
  | some t => t :: os
  | none => os
/-- the turns of a comprehension: g at each item -/
def turns (tg : Tg) (own : List Nat) (g : St → Out (Option O)) : List T → St → Out (List O)
  | [], τ => .ok [] τ
  | x :: r, τ => lift (setTg tg (.fz x) τ) fun τ1 => (g τ1).bind fun o τ2 => (turns tg own g r (wipes own τ2)).bind fun os τ3 => .ok (consO o os) τ3
/-- frozen, or one's own still -/
def Out.fr (kp : Bool) (x : Out O) : Out O := x.bind fun o τ => if kp then .ok o τ else lift o.toT fun t => .ok (.fz t) τ
def rangeN (i : Int) (n : Nat) : List T := (List.range n).map fun k : Nat => T.int (i + (k : Int))
def rangeC (i c : Int) (n : Nat) : List T := (List.range n).map fun k : Nat => T.int (i + (k : Int) * c)
def rangeOk (i j : Int) : Bool := decide (-(2 ^ 62) ≤ i) && decide (i < 2 ^ 62) && decide (-(2 ^ 62) ≤ j) && decide (j < 2 ^ 62)
def rangeOkC (i j c : Int) : Bool := decide (c ≠ 0) && decide (c.natAbs < 1073741824) && PySem.Builtin.Range.small i j c && decide (0 ≤ PySem.Builtin.Range.rangeSize i j c)
def itemsOf : T → Option (List T)
  | .tup xs | .lst xs => some xs
  | .scr ns => some (ns.map .int)
  | .str s => some (s.map fun c => .str [c])
  | _ => none
def zipP : List T → List T → List T
  | x :: xs, y :: ys => .tup [x, y] :: zipP xs ys
  | _, _ => []
def enumP (i : Nat) : List T → List T
  | [] => []
  | x :: xs => .tup [.int i, x] :: enumP (i + 1) xs
mutual
def evalE : E → St → Out O
  | .c t, τ => .ok (.fz t) τ
  | .v i, τ => lift2 (take τ (.ref i)) fun t τ1 => .ok (.fz t) τ1
  | .bin o a b, τ => (opd a (evalE a) τ).bind fun x τ1 => (opd b (evalE b) τ1).bind fun y τ2 =>
      lift (rd τ2 x) fun s => lift (rd τ2 y) fun t => lift (bin o s t) fun r => .ok r τ2
  | .neg a, τ => (opd a (evalE a) τ).bind fun x τ1 => lift (rd τ1 x) fun s => match s with
      | .int i => .ok (.fz (.int (-i))) τ1
      | _ => .stuck
  | .cmp o a b, τ => (opd a (evalE a) τ).bind fun x τ1 => (opd b (evalE b) τ1).bind fun y τ2 =>
      lift (rd τ2 x) fun s => lift (rd τ2 y) fun t => lift ((cmpT o s t).map fun b => .fz (.bl b)) fun r => .ok r τ2
  | .chain o1 o2 a b c, τ => (opd a (evalE a) τ).bind fun x τ1 => (opd b (evalE b) τ1).bind fun y τ2 =>
      lift (rd τ2 x) fun s => lift (rd τ2 y) fun t => lift (cmpT o1 s t) fun r =>
        if r then (opd c (evalE c) τ2).bind fun z τ3 => lift (rd τ3 y) fun t => lift (rd τ3 z) fun u => lift ((cmpT o2 t u).map fun b => .fz (.bl b)) fun r => .ok r τ3
        else .ok (.fz (.bl false)) τ2
  | .isN a, τ => (opd a (evalE a) τ).bind fun x τ1 => lift (rd τ1 x) fun s => .ok (.fz (.bl s.isNon)) τ1
  | .notN a, τ => (opd a (evalE a) τ).bind fun x τ1 => lift (rd τ1 x) fun s => .ok (.fz (.bl (!s.isNon))) τ1
  | .and a b, τ => (opd a (evalE a) τ).bind fun x τ1 => lift (rd τ1 x) fun s => match s with
      | .bl true => evalE b τ1
      | .bl false => .ok (.fz (.bl false)) τ1
      | _ => .stuck
  | .or a b, τ => (opd a (evalE a) τ).bind fun x τ1 => lift (rd τ1 x) fun s => match s with
      | .bl true => .ok (.fz (.bl true)) τ1
      | .bl false => evalE b τ1
      | _ => .stuck
  | .not a, τ => (opd a (evalE a) τ).bind fun x τ1 => lift (rd τ1 x) fun s => match s with
      | .bl b => .ok (.fz (.bl (!b))) τ1
      | _ => .stuck
  | .ite c a b, τ => (evalC c τ).bind fun k τ1 => if k then evalE a τ1 else evalE b τ1
  | .tup es, τ => (evalL es τ).bind fun ops τ1 => lift2 (takes τ1 ops) fun ts τ2 => if ts.length ≤ sizeT then .ok (.fz (.tup ts)) τ2 else .stuck
  | .lst es, τ => (evalL es τ).bind fun ops τ1 => lift2 (takes τ1 ops) fun ts τ2 => if ts.length ≤ sizeT then .ok (fzs ts) τ2 else .stuck
  | .dct tk .nil .nil, τ => .ok (.dct tk []) τ
  | .ix a i, τ => (opd a (evalE a) τ).bind fun x τ1 => (opd i (evalE i) τ1).bind fun y τ2 =>
      lift (rd τ2 x) fun s => lift (rd τ2 y) fun t => lift (ixT s t) fun r => .ok r τ2
  | .sl a lo hi, τ => (opd a (evalE a) τ).bind fun x τ1 => (opd lo (evalE lo) τ1).bind fun y τ2 => lift (rd τ2 y) fun s1 => lift (partT s1) fun l =>
      (opd hi (evalE hi) τ2).bind fun z τ3 => lift (rd τ3 z) fun s2 => lift (partT s2) fun h => lift (rd τ3 x) fun s => lift (slT s l h) fun r => .ok r τ3
  | .rev a, τ => (opd a (evalE a) τ).bind fun x τ1 => lift (rd τ1 x) fun s => lift (revT s) fun r => .ok r τ1
  | .fn f es, τ => (evalL es τ).bind fun ops τ1 => lift (rds τ1 ops) fun ts => lift (fn f ts) fun r => .ok r τ1
  | .mth m a es, τ => (opd a (evalE a) τ).bind fun x τ1 =>
      if m.mutates then match x with
        | .ref i => lift (slot τ1 i) fun o1 => if o1.isLst then (evalL es τ1).bind fun ops τ2 => lift2 (takes τ2 ops) fun ts τ3 => lift (slot τ3 i) fun o => lift (mthO m o ts) fun q => .ok q.2 (τ3.set i (some q.1)) else .stuck
        | .val _ => .stuck
      else lift (rd τ1 x) fun s0 => if m.okOf s0 then (evalL es τ1).bind fun ops τ2 => lift (rd τ2 x) fun s => lift (rds τ2 ops) fun ts => lift (mthT m s ts) fun r => .ok r τ2 else .stuck
  | .get a k d, τ => (opd a (evalE a) τ).bind fun x τ1 => lift (rd τ1 x) fun s0 => if s0.isDct then (opd k (evalE k) τ1).bind fun y τ2 => (opd d (evalE d) τ2).bind fun z τ3 =>
      lift (rd τ3 x) fun s => lift (rd τ3 y) fun t => lift2 (take τ3 z) fun u τ4 => lift (getT s t u) fun r => .ok (.fz r) τ4 else .stuck
  | .call f es, τ => (evalL es τ).bind fun ops τ1 => runCall Γ f ops τ1
  | .isi a t, τ => (opd a (evalE a) τ).bind fun x τ1 => lift (rd τ1 x) fun s => lift ((isiT s t).map fun b => .fz (.bl b)) fun r => .ok r τ1
  | .lc kp src tg own cond elt, τ => (evalI src τ).bind fun xs τ1 =>
      (turns tg own (fun τ => ((evalC cond τ).bind fun k τ1 => if k then ((evalE elt τ1).fr kp).map some else .ok none τ1).calm) xs (wipes own τ1)).bind fun os τ2 =>
        if os.length ≤ sizeT then .ok (.lst os) τ2 else .stuck
  | _, _ => .stuck
def evalC : E → St → Out Bool
  | .c (.bl b), τ => .ok b τ
  | .and a b, τ => (evalC a τ).bind fun k τ1 => if k then evalC b τ1 else .ok false τ1
  | .or a b, τ => (evalC a τ).bind fun k τ1 => if k then .ok true τ1 else evalC b τ1
  | .not a, τ => (evalC a τ).bind fun k τ1 => .ok (!k) τ1
  | .v i, τ => lift (rd τ (.ref i)) fun s => lift s.truth fun k => .ok k τ
  | .tv a, τ => (evalE a τ).bind fun o τ1 => lift (o.toT1.bind T.truth) fun k => .ok k τ1
  | _, _ => .stuck
def evalL : E → St → Out (List Opd)
  | .nil, τ => .ok [] τ
  | .cons a r, τ => (opd a (evalE a) τ).bind fun x τ1 => (evalL r τ1).bind fun xs τ2 => .ok (x :: xs) τ2
  | _, _ => .stuck
/-- what a loop walks -/
def evalI : E → St → Out (List T)
  | .rng1 a, τ => (opd a (evalE a) τ).bind fun x τ1 => lift (rd τ1 x) fun s => match s with
      | .int j => if rangeOk 0 j then .ok (rangeN 0 j.toNat) τ1 else .stuck
      | _ => .stuck
  | .rng2 a b, τ => (opd a (evalE a) τ).bind fun x τ1 => (opd b (evalE b) τ1).bind fun y τ2 => lift (rd τ2 x) fun s => lift (rd τ2 y) fun t => match s, t with
      | .int i, .int j => if rangeOk i j then .ok (rangeN i (j - i).toNat) τ2 else .stuck
      | _, _ => .stuck
  | .rng3 a b c, τ => (opd a (evalE a) τ).bind fun x τ1 => (opd b (evalE b) τ1).bind fun y τ2 => (opd c (evalE c) τ2).bind fun z τ3 => lift (rd τ3 x) fun s => lift (rd τ3 y) fun t => lift (rd τ3 z) fun u => match s, t, u with
      | .int i, .int j, .int c => if rangeOkC i j c then .ok (rangeC i c (PySem.Builtin.Range.rangeSize i j c).toNat) τ3 else .stuck
      | _, _, _ => .stuck
  | .zip a b, τ => (opd a (evalE a) τ).bind fun x τ1 => (opd b (evalE b) τ1).bind fun y τ2 => lift2 (takes τ2 [x, y]) fun ts τ3 => match ts with
      | [.lst xs, .lst ys] => .ok (zipP xs ys) τ3
      | [.tup xs, .tup ys] => .ok (zipP xs ys) τ3
      | _ => .stuck
  | .enum a, τ => (opd a (evalE a) τ).bind fun x τ1 => lift2 (take τ1 x) fun t τ2 => match t with
      | .lst xs => .ok (enumP 0 xs) τ2
      | _ => .stuck
  | .revd a, τ => (opd a (evalE a) τ).bind fun x τ1 => lift2 (take τ1 x) fun t τ2 => match t with
      | .lst xs => .ok xs.reverse τ2
      | .tup xs => .ok xs.reverse τ2
      | _ => .stuck
  | .iv a, τ => (opd a (evalE a) τ).bind fun x τ1 => lift2 (take τ1 x) fun t τ2 => lift (itemsOf t) fun xs => .ok xs τ2
  | _, _ => .stuck
end
end

/-! ### statements -/
/-- a suite's end -/
inductive SOut where
  | nx (τ : St) | rt (r : O) (τ : St) | exc (x : Ex) (τ : St) | stuck
  deriving Inhabited
def SOut.seq (x : SOut) (f : St → SOut) : SOut := match x with
  | .nx τ => f τ
  | x => x
def Out.s {α : Type} (x : Out α) (f : α → St → SOut) : SOut := match x with
  | .ok a τ => f a τ
  | .exc x τ => .exc x τ
  | .stuck => .stuck
def liftS {α : Type} (o : Option α) (f : α → SOut) : SOut := match o with
  | some a => f a
  | none => .stuck
def forLoop (tg : Tg) (body : St → SOut) : List T → St → SOut
  | [], τ => .nx τ
  | x :: r, τ => liftS (setTg tg (.fz x) τ) fun τ1 => (body τ1).seq (forLoop tg body r)
def whileLoop (c : St → Out Bool) (body : St → SOut) : Nat → St → SOut
  | 0, _ => .stuck
  | n + 1, τ => (c τ).s fun k τ1 => if k then (body τ1).seq (whileLoop c body n) else .nx τ1
section
variable (Γ : Nat → List O → COut) (fuel : Nat)
def exec : S → St → SOut
  | .nop, τ => .nx τ
  | .seq a b, τ => (exec a τ).seq (exec b)
  | .set tg e, τ => (evalE Γ e τ).s fun o τ1 => liftS (setTg tg o τ1) .nx
  | .setI i k e, τ => (opd e (evalE Γ e) τ).s fun x τ1 => liftS (slot τ1 i) fun _ => (opd k (evalE Γ k) τ1).s fun y τ2 =>
      liftS (rd τ2 y) fun t => liftS (take τ2 x) fun q => liftS (slot q.2 i) fun d => liftS (putO d t (.fz q.1)) fun d' => .nx (q.2.set i (some d'))
  | .ex e, τ => (evalE Γ e τ).s fun _ τ1 => .nx τ1
  | .ite c a b, τ => (evalC Γ c τ).s fun k τ1 => if k then exec a τ1 else exec b τ1
  | .for_ tg src body, τ => (evalI Γ src τ).s fun xs τ1 => forLoop tg (exec body) xs τ1
  | .while_ c body, τ => whileLoop (evalC Γ c) (exec body) fuel τ
  | .ret e, τ => (evalE Γ e τ).s .rt
  | .retM i, τ => liftS (move τ (.ref i)) fun (o, τ1) => .rt o τ1
  | .retN, τ => .rt (.fz .non) τ
  | .raise c es, τ => (evalL Γ es τ).s fun ops τ1 => match takes τ1 ops with
      | some (ts, τ2) => .exc ⟨c, ts⟩ τ2
      | none => .stuck
  | .drop is, τ => .nx (wipes is τ)
  | _, _ => .stuck
end
/-- a def: its parameters, names, those parameters that it assigns, its body -/
structure Df where
  np : Nat
  nn : Nat
  asg : List Nat
  body : S
  deriving Inhabited, Repr
def entry (d : Df) (os : List O) : Option St :=
  if os.length = d.np && d.asg.all (fun i => ((os[i]?).map O.isFz).getD false) then some (os.map some ++ List.replicate (d.nn - d.np) none) else none
/-- what the parameters hold at the end -/
def outs (d : Df) (τ : St) : St := (wipes d.asg τ).take d.np
def COut.of (d : Df) : SOut → COut
  | .nx τ => .ok (.fz .non) (outs d τ)
  | .rt r τ => .ok r (outs d τ)
  | .exc x τ => .exc x (outs d τ)
  | .stuck => .stuck
def runD (Γ : Nat → List O → COut) (wf : Nat) (d : Df) (os : List O) : COut := match entry d os with
  | none => .stuck
  | some τ => .of d (exec Γ wf d.body τ)
/-- the defs' meaning, n calls deep -/
def callD (wf : Nat) (D : Nat → Option Df) (prim : (Nat → List O → COut) → Nat → List O → COut) : Nat → Nat → List O → COut
  | 0, _, _ => .stuck
  | n + 1, f, os => match D f with
    | none => prim (callD wf D prim n) f os
    | some d => runD (callD wf D prim n) wf d os
end Iv
/-! Iv2: what cells say of the tracked heap: frozen trees, owned values, apart from one another. -/
namespace Iv
open PySem L2

/-- what of the text the cells lean on: the fragment, the own classes' addresses, the attributes' names -/
structure Cfg where
  K : PySem.W.Frag
  cls : Nat → Addr
  fld : Nat → Str
  /-- the attributes of an exception of the class -/
  xn : Nat → List Str

inductive All2 {α β : Type} (R : α → β → Prop) : List α → List β → Prop where
  | nil : All2 R [] []
  | cons {a : α} {b : β} {as : List α} {bs : List β} : R a b → All2 R as bs → All2 R (a :: as) (b :: bs)
theorem All2.length {α β : Type} {R : α → β → Prop} {as : List α} {bs : List β} (h : All2 R as bs) : as.length = bs.length := by
  induction h with
  | nil => rfl
  | cons _ _ ih => simp [ih]

def KeyR : T → Key → Prop
  | .int i, k => k = .inl i
  | .str s, k => k = .inr ⟨s.toArray⟩
  | _, _ => False
def KeyT : T → List Key → Prop
  | .tup xs, ks => All2 KeyR xs ks
  | _, _ => False
/-- a dict with these keys and values stands at a -/
def DctAt (H : Hp) (a : Addr) : Bool → List T → List V → Prop
  | false, ts, vs => ∃ ks : List Key, H a = some (.dK (ks.zip vs)) ∧ All2 KeyR ts ks ∧ ks.length = vs.length
  | true, ts, vs => ∃ ks : List (List Key), H a = some (.dT (ks.zip vs)) ∧ All2 KeyT ts ks ∧ ks.length = vs.length
/-- a list of the text's own, by the fragment -/
def KL (K : PySem.W.Frag) (a : Addr) (xs : List V) : Prop :=
  ∃ (o : Obj) (its : Array Value) (n : Nat), K.lookup a = some o ∧ o.cls = .type "list" ∧ o.dict = none ∧ o.data = .seq its n ∧ its.size ≤ sizeLine ∧ Vals xs its.toList

section
variable (g : Cfg) (A : Addr → Prop) (H : Hp)
mutual
def Rep : T → V → Prop
  | .non, v => v = .non
  | .bl b, v => v = .bl b
  | .int i, v => v = .int i
  | .str s, v => v = .str ⟨s.toArray⟩
  | .tup ts, v => ∃ a vs, v = .ref a ∧ ¬ A a ∧ H a = some (.tup vs) ∧ Reps ts vs
  | .lst ts, v => ∃ a vs, v = .ref a ∧ ¬ A a ∧ H a = some (.lst vs) ∧ Reps ts vs
  | .dct tk kts, v => ∃ a vs, v = .ref a ∧ ¬ A a ∧ DctAt H a tk (kts.map (·.1)) vs ∧ Repd kts vs
  | .scr ns, v => ∃ a, v = .ref a ∧ ((¬ A a ∧ Rd H a (.lst (ns.map V.int))) ∨ KL g.K a (ns.map V.int))
def Reps : List T → List V → Prop
  | [], vs => vs = []
  | t :: ts, vs => ∃ v vs', vs = v :: vs' ∧ Rep t v ∧ Reps ts vs'
def Repd : List (T × T) → List V → Prop
  | [], vs => vs = []
  | (_, t) :: ts, vs => ∃ v vs', vs = v :: vs' ∧ Rep t v ∧ Repd ts vs'
end
mutual
def Own : O → V → List Addr → Prop
  | .fz t, v, fp => fp = [] ∧ Rep g A H t v
  | .lst os, v, fp => ∃ a vs fp', v = .ref a ∧ fp = a :: fp' ∧ H a = some (.lst vs) ∧ Owns os vs fp'
  | .dct tk kos, v, fp => ∃ a vs fp', v = .ref a ∧ fp = a :: fp' ∧ DctAt H a tk (kos.map (·.1)) vs ∧ Ownd kos vs fp'
  | .obj c fs, v, fp => ∃ a dx vs fp', v = .ref a ∧ fp = a :: fp' ∧ H a = some (.ins (g.cls c) dx ((fs.map fun p => g.fld p.1).zip vs)) ∧ Ownf fs vs fp'
def Owns : List O → List V → List Addr → Prop
  | [], vs, fp => vs = [] ∧ fp = []
  | o :: os, vs, fp => ∃ v vs' f1 f2, vs = v :: vs' ∧ fp = f1 ++ f2 ∧ Own o v f1 ∧ Owns os vs' f2
def Ownd : List (T × O) → List V → List Addr → Prop
  | [], vs, fp => vs = [] ∧ fp = []
  | (_, o) :: os, vs, fp => ∃ v vs' f1 f2, vs = v :: vs' ∧ fp = f1 ++ f2 ∧ Own o v f1 ∧ Ownd os vs' f2
def Ownf : List (Nat × O) → List V → List Addr → Prop
  | [], vs, fp => vs = [] ∧ fp = []
  | (_, o) :: os, vs, fp => ∃ v vs' f1 f2, vs = v :: vs' ∧ fp = f1 ++ f2 ∧ Own o v f1 ∧ Ownf os vs' f2
end
end

/-- how heaps go on: what stands and is nobody's own stays, what is one's own anew was free -/
def Keeps (A : Addr → Prop) (H : Hp) (A' : Addr → Prop) (H' : Hp) : Prop := (∀ a o, H a = some o → ¬ A a → H' a = some o) ∧ ∀ a, A' a → A a ∨ H a = none
theorem Keeps.not {A A' : Addr → Prop} {H H' : Hp} (k : Keeps A H A' H') {a : Addr} {o : HO} (h : H a = some o) (n : ¬ A a) : ¬ A' a := fun z => by
  rcases k.2 a z with q | q
  · exact n q
  · rw [h] at q; cases q
section
variable {g : Cfg} {A A' : Addr → Prop} {H H' : Hp}
theorem DctAt.there {a : Addr} {tk : Bool} {ts : List T} {vs : List V} (h : DctAt H a tk ts vs) : ∃ o, H a = some o := by
  cases tk with
  | false => obtain ⟨_, h, _⟩ := h; exact ⟨_, h⟩
  | true => obtain ⟨_, h, _⟩ := h; exact ⟨_, h⟩
theorem DctAt.at {a : Addr} {tk : Bool} {ts : List T} {vs : List V} (h : DctAt H a tk ts vs) (e : ∀ o, H a = some o → H' a = some o) : DctAt H' a tk ts vs := by
  cases tk with
  | false => obtain ⟨ks, h, q⟩ := h; exact ⟨ks, e _ h, q⟩
  | true => obtain ⟨ks, h, q⟩ := h; exact ⟨ks, e _ h, q⟩
mutual
theorem Rep.go (k : Keeps A H A' H') : ∀ (t : T) (v : V), Rep g A H t v → Rep g A' H' t v
  | .non, _, h => h
  | .bl _, _, h => h
  | .int _, _, h => h
  | .str _, _, h => h
  | .tup ts, v, ⟨a, vs, e, n, h, r⟩ => ⟨a, vs, e, k.not h n, k.1 a _ h n, Reps.go k ts vs r⟩
  | .lst ts, v, ⟨a, vs, e, n, h, r⟩ => ⟨a, vs, e, k.not h n, k.1 a _ h n, Reps.go k ts vs r⟩
  | .dct tk kts, v, ⟨a, vs, e, n, h, r⟩ => by
    obtain ⟨o, ho⟩ := DctAt.there h
    exact ⟨a, vs, e, k.not ho n, DctAt.at h fun o q => k.1 a o q n, Repd.go k kts vs r⟩
  | .scr ns, v, ⟨a, e, h⟩ => ⟨a, e, by
    rcases h with ⟨n, h⟩ | h
    · rcases h with h | ⟨o, h⟩
      · exact .inl ⟨k.not h n, .inl (k.1 a _ h n)⟩
      · exact .inl ⟨k.not h n, .inr ⟨o, k.1 a _ h n⟩⟩
    · exact .inr h⟩
theorem Reps.go (k : Keeps A H A' H') : ∀ (t : List T) (v : List V), Reps g A H t v → Reps g A' H' t v
  | [], _, h => h
  | t :: ts, _, ⟨v, vs', e, h, r⟩ => ⟨v, vs', e, Rep.go k t v h, Reps.go k ts vs' r⟩
theorem Repd.go (k : Keeps A H A' H') : ∀ (t : List (T × T)) (v : List V), Repd g A H t v → Repd g A' H' t v
  | [], _, h => h
  | (_, t) :: ts, _, ⟨v, vs', e, h, r⟩ => ⟨v, vs', e, Rep.go k t v h, Repd.go k ts vs' r⟩
end
/-- owned things go on where their own addresses stay, too -/
def Stay (fp : List Addr) (H H' : Hp) : Prop := ∀ a ∈ fp, ∀ o, H a = some o → H' a = some o
theorem Stay.l {f1 f2 : List Addr} (s : Stay (f1 ++ f2) H H') : Stay f1 H H' := fun a h => s a (List.mem_append_left _ h)
theorem Stay.r {f1 f2 : List Addr} (s : Stay (f1 ++ f2) H H') : Stay f2 H H' := fun a h => s a (List.mem_append_right _ h)
theorem Stay.t {a : Addr} {f2 : List Addr} (s : Stay (a :: f2) H H') : Stay f2 H H' := fun b h => s b (List.mem_cons_of_mem _ h)
theorem Stay.h {a : Addr} {f2 : List Addr} (s : Stay (a :: f2) H H') : ∀ o, H a = some o → H' a = some o := s a List.mem_cons_self
mutual
theorem Own.go (k : Keeps A H A' H') : ∀ (o : O) (v : V) (fp : List Addr), Own g A H o v fp → Stay fp H H' → Own g A' H' o v fp
  | .fz t, v, fp, ⟨e, r⟩, _ => ⟨e, Rep.go k t v r⟩
  | .lst os, v, fp, ⟨a, vs, fp', e, e2, h, r⟩, s => by
    subst e2
    exact ⟨a, vs, fp', e, rfl, s.h _ h, Owns.go k os vs fp' r s.t⟩
  | .dct tk kos, v, fp, ⟨a, vs, fp', e, e2, h, r⟩, s => by
    subst e2
    exact ⟨a, vs, fp', e, rfl, DctAt.at h s.h, Ownd.go k kos vs fp' r s.t⟩
  | .obj c fs, v, fp, ⟨a, dx, vs, fp', e, e2, h, r⟩, s => by
    subst e2
    exact ⟨a, dx, vs, fp', e, rfl, s.h _ h, Ownf.go k fs vs fp' r s.t⟩
theorem Owns.go (k : Keeps A H A' H') : ∀ (os : List O) (vs : List V) (fp : List Addr), Owns g A H os vs fp → Stay fp H H' → Owns g A' H' os vs fp
  | [], _, _, h, _ => h
  | o :: os, _, _, ⟨v, vs', f1, f2, e, e2, h, r⟩, s => by
    subst e2
    exact ⟨v, vs', f1, f2, e, rfl, Own.go k o v f1 h s.l, Owns.go k os vs' f2 r s.r⟩
theorem Ownd.go (k : Keeps A H A' H') : ∀ (os : List (T × O)) (vs : List V) (fp : List Addr), Ownd g A H os vs fp → Stay fp H H' → Ownd g A' H' os vs fp
  | [], _, _, h, _ => h
  | (_, o) :: os, _, _, ⟨v, vs', f1, f2, e, e2, h, r⟩, s => by
    subst e2
    exact ⟨v, vs', f1, f2, e, rfl, Own.go k o v f1 h s.l, Ownd.go k os vs' f2 r s.r⟩
theorem Ownf.go (k : Keeps A H A' H') : ∀ (os : List (Nat × O)) (vs : List V) (fp : List Addr), Ownf g A H os vs fp → Stay fp H H' → Ownf g A' H' os vs fp
  | [], _, _, h, _ => h
  | (_, o) :: os, _, _, ⟨v, vs', f1, f2, e, e2, h, r⟩, s => by
    subst e2
    exact ⟨v, vs', f1, f2, e, rfl, Own.go k o v f1 h s.l, Ownf.go k os vs' f2 r s.r⟩
end
/-- every own address stands -/
def Stands (fp : List Addr) (H : Hp) : Prop := ∀ a ∈ fp, ∃ o, H a = some o
theorem Stands.app {f1 f2 : List Addr} (a : Stands f1 H) (b : Stands f2 H) : Stands (f1 ++ f2) H := fun c hc => (List.mem_append.mp hc).elim (a c) (b c)
theorem Stands.cons {a : Addr} {o : HO} {f2 : List Addr} (h : H a = some o) (b : Stands f2 H) : Stands (a :: f2) H := fun c hc => by
  rcases List.mem_cons.mp hc with e | e
  · exact ⟨o, by rw [e]; exact h⟩
  · exact b c e
theorem Stands.nil : Stands [] H := fun _ h => nomatch h
mutual
theorem Own.stands : ∀ (o : O) (v : V) (fp : List Addr), Own g A H o v fp → Stands fp H
  | .fz t, v, fp, ⟨e, r⟩ => by subst e; exact .nil
  | .lst os, v, fp, ⟨a, vs, fp', e, e2, h, r⟩ => by subst e2; exact .cons h (Owns.stands os vs fp' r)
  | .dct tk kos, v, fp, ⟨a, vs, fp', e, e2, h, r⟩ => by
    subst e2
    obtain ⟨o, ho⟩ := DctAt.there h
    exact .cons ho (Ownd.stands kos vs fp' r)
  | .obj c fs, v, fp, ⟨a, dx, vs, fp', e, e2, h, r⟩ => by subst e2; exact .cons h (Ownf.stands fs vs fp' r)
theorem Owns.stands : ∀ (os : List O) (vs : List V) (fp : List Addr), Owns g A H os vs fp → Stands fp H
  | [], _, _, ⟨_, e⟩ => by subst e; exact .nil
  | o :: os, _, _, ⟨v, vs', f1, f2, e, e2, h, r⟩ => by subst e2; exact .app (Own.stands o v f1 h) (Owns.stands os vs' f2 r)
theorem Ownd.stands : ∀ (os : List (T × O)) (vs : List V) (fp : List Addr), Ownd g A H os vs fp → Stands fp H
  | [], _, _, ⟨_, e⟩ => by subst e; exact .nil
  | (_, o) :: os, _, _, ⟨v, vs', f1, f2, e, e2, h, r⟩ => by subst e2; exact .app (Own.stands o v f1 h) (Ownd.stands os vs' f2 r)
theorem Ownf.stands : ∀ (os : List (Nat × O)) (vs : List V) (fp : List Addr), Ownf g A H os vs fp → Stands fp H
  | [], _, _, ⟨_, e⟩ => by subst e; exact .nil
  | (_, o) :: os, _, _, ⟨v, vs', f1, f2, e, e2, h, r⟩ => by subst e2; exact .app (Own.stands o v f1 h) (Ownf.stands os vs' f2 r)
end
/-- an owned thing is frozen: its addresses are no longer own -/
def Off (fp : List Addr) (A' : Addr → Prop) : Prop := ∀ a ∈ fp, ¬ A' a
theorem Off.l {f1 f2 : List Addr} (s : Off (f1 ++ f2) A') : Off f1 A' := fun a h => s a (List.mem_append_left _ h)
theorem Off.r {f1 f2 : List Addr} (s : Off (f1 ++ f2) A') : Off f2 A' := fun a h => s a (List.mem_append_right _ h)
theorem Off.t {a : Addr} {f2 : List Addr} (s : Off (a :: f2) A') : Off f2 A' := fun b h => s b (List.mem_cons_of_mem _ h)
theorem Off.h {a : Addr} {f2 : List Addr} (s : Off (a :: f2) A') : ¬ A' a := s a List.mem_cons_self
theorem toTd_keys : ∀ (kos : List (T × O)) (kts : List (T × T)), O.toTd kos = some kts → kts.map (·.1) = kos.map (·.1)
  | [], kts, h => by
    have : kts = [] := (Option.some.inj h).symm
    rw [this]; rfl
  | (k, o) :: r, kts, h => by
    simp only [O.toTd] at h
    cases h1 : O.toT o with
    | none => rw [h1] at h; cases h
    | some t =>
      cases h2 : O.toTd r with
      | none => rw [h1, h2] at h; cases h
      | some ts =>
        rw [h1, h2] at h
        have e : (k, t) :: ts = kts := Option.some.inj h
        rw [← e, List.map_cons, List.map_cons, toTd_keys r ts h2]
mutual
theorem Own.freeze (w : ∀ a, A' a → A a) : ∀ (o : O) (v : V) (fp : List Addr) (t : T), Own g A H o v fp → Off fp A' → o.toT = some t → Rep g A' H t v
  | .fz t, v, fp, t', ⟨e, r⟩, _, q => by
    have : t = t' := Option.some.inj q
    subst this
    exact Rep.go ⟨fun _ _ h _ => h, fun a h => .inl (w a h)⟩ t v r
  | .lst os, v, fp, t', ⟨a, vs, fp', e, e2, h, r⟩, f, q => by
    subst e2
    simp only [O.toT] at q
    cases h1 : O.toTs os with
    | none => rw [h1] at q; cases q
    | some ts =>
      rw [h1] at q
      have : T.lst ts = t' := Option.some.inj q
      subst this
      exact ⟨a, vs, e, f.h, h, Owns.freeze w os vs fp' ts r f.t h1⟩
  | .dct tk kos, v, fp, t', ⟨a, vs, fp', e, e2, h, r⟩, f, q => by
    subst e2
    simp only [O.toT] at q
    cases h1 : O.toTd kos with
    | none => rw [h1] at q; cases q
    | some ts =>
      rw [h1] at q
      have : T.dct tk ts = t' := Option.some.inj q
      subst this
      exact ⟨a, vs, e, f.h, by rw [toTd_keys kos ts h1]; exact h, Ownd.freeze w kos vs fp' ts r f.t h1⟩
  | .obj c fs, v, fp, t', _, _, q => by simp only [O.toT] at q; cases q
theorem Owns.freeze (w : ∀ a, A' a → A a) : ∀ (os : List O) (vs : List V) (fp : List Addr) (ts : List T), Owns g A H os vs fp → Off fp A' → O.toTs os = some ts → Reps g A' H ts vs
  | [], _, _, ts, ⟨e, _⟩, _, q => by
    have : [] = ts := Option.some.inj q
    subst this
    exact e
  | o :: os, _, _, ts, ⟨v, vs', f1, f2, e, e2, h, r⟩, f, q => by
    subst e2
    simp only [O.toTs] at q
    cases h1 : O.toT o with
    | none => rw [h1] at q; cases q
    | some t =>
      cases h2 : O.toTs os with
      | none => rw [h1, h2] at q; cases q
      | some ts' =>
        rw [h1, h2] at q
        have : t :: ts' = ts := Option.some.inj q
        subst this
        exact ⟨v, vs', e, Own.freeze w o v f1 t h f.l h1, Owns.freeze w os vs' f2 ts' r f.r h2⟩
theorem Ownd.freeze (w : ∀ a, A' a → A a) : ∀ (os : List (T × O)) (vs : List V) (fp : List Addr) (ts : List (T × T)), Ownd g A H os vs fp → Off fp A' → O.toTd os = some ts → Repd g A' H ts vs
  | [], _, _, ts, ⟨e, _⟩, _, q => by
    have : [] = ts := Option.some.inj q
    subst this
    exact e
  | (k, o) :: os, _, _, ts, ⟨v, vs', f1, f2, e, e2, h, r⟩, f, q => by
    subst e2
    simp only [O.toTd] at q
    cases h1 : O.toT o with
    | none => rw [h1] at q; cases q
    | some t =>
      cases h2 : O.toTd os with
      | none => rw [h1, h2] at q; cases q
      | some ts' =>
        rw [h1, h2] at q
        have : (k, t) :: ts' = ts := Option.some.inj q
        subst this
        exact ⟨v, vs', e, Own.freeze w o v f1 t h f.l h1, Ownd.freeze w os vs' f2 ts' r f.r h2⟩
end
end

/-! ### cells -/
inductive Cell where
  /-- the value stands for this -/
  | c (v : V) (o : O)
  /-- this stands at the address, and is one's own -/
  | pt (a : Addr) (x : HO)
def OwnC (g : Cfg) (A : Addr → Prop) (H : Hp) : List Cell → List Addr → Prop
  | [], fp => fp = []
  | .c v o :: r, fp => ∃ f1 f2, fp = f1 ++ f2 ∧ Own g A H o v f1 ∧ OwnC g A H r f2
  | .pt a x :: r, fp => ∃ f2, fp = a :: f2 ∧ H a = some x ∧ OwnC g A H r f2
def W (g : Cfg) (H : Hp) (cs : List Cell) : Prop := ∃ fp, fp.Nodup ∧ OwnC g (· ∈ fp) H cs fp

section
variable {g : Cfg} {A A' : Addr → Prop} {H H' : Hp} {cs ds : List Cell}
theorem OwnC.go (k : Keeps A H A' H') : ∀ (cs : List Cell) (fp : List Addr), OwnC g A H cs fp → Stay fp H H' → OwnC g A' H' cs fp
  | [], _, h, _ => h
  | .c v o :: r, _, ⟨f1, f2, e, h, q⟩, s => by subst e; exact ⟨f1, f2, rfl, Own.go k o v f1 h s.l, OwnC.go k r f2 q s.r⟩
  | .pt a x :: r, _, ⟨f2, e, h, q⟩, s => by subst e; exact ⟨f2, rfl, s.h _ h, OwnC.go k r f2 q s.t⟩
theorem OwnC.stands : ∀ (cs : List Cell) (fp : List Addr), OwnC g A H cs fp → Stands fp H
  | [], _, h => by
    have e : _ = [] := h
    subst e; exact .nil
  | .c v o :: r, _, ⟨f1, f2, e, h, q⟩ => by subst e; exact .app (Own.stands o v f1 h) (OwnC.stands r f2 q)
  | .pt a x :: r, _, ⟨f2, e, h, q⟩ => by subst e; exact .cons h (OwnC.stands r f2 q)
theorem OwnC.sub {fp : List Addr} (w : ∀ a, A' a → A a) (h : OwnC g A H cs fp) : OwnC g A' H cs fp := OwnC.go ⟨fun _ _ q _ => q, fun a z => .inl (w a z)⟩ cs fp h fun _ _ _ q => q
theorem OwnC.app : ∀ (cs ds : List Cell) (fp : List Addr), OwnC g A H (cs ++ ds) fp → ∃ f1 f2, fp = f1 ++ f2 ∧ OwnC g A H cs f1 ∧ OwnC g A H ds f2
  | [], ds, fp, h => ⟨[], fp, rfl, rfl, h⟩
  | .c v o :: r, ds, _, ⟨f1, f2, e, h, q⟩ => by
    obtain ⟨f3, f4, e2, q1, q2⟩ := OwnC.app r ds f2 q
    subst e2 e
    exact ⟨f1 ++ f3, f4, by rw [List.append_assoc], ⟨f1, f3, rfl, h, q1⟩, q2⟩
  | .pt a x :: r, ds, _, ⟨f2, e, h, q⟩ => by
    obtain ⟨f3, f4, e2, q1, q2⟩ := OwnC.app r ds f2 q
    subst e2 e
    exact ⟨a :: f3, f4, rfl, ⟨f3, rfl, h, q1⟩, q2⟩
theorem OwnC.join : ∀ (cs ds : List Cell) (f1 f2 : List Addr), OwnC g A H cs f1 → OwnC g A H ds f2 → OwnC g A H (cs ++ ds) (f1 ++ f2)
  | [], ds, f1, f2, h, q => by
    have e : f1 = [] := h
    subst e; exact q
  | .c v o :: r, ds, _, f2, ⟨g1, g2, e, h, q⟩, q2 => by
    subst e
    exact ⟨g1, g2 ++ f2, by rw [List.append_assoc], h, OwnC.join r ds g2 f2 q q2⟩
  | .pt a x :: r, ds, _, f2, ⟨g2, e, h, q⟩, q2 => by
    subst e
    exact ⟨g2 ++ f2, rfl, h, OwnC.join r ds g2 f2 q q2⟩
theorem OwnC.perm (p : cs.Perm ds) : ∀ {fp : List Addr}, OwnC g A H cs fp → ∃ fq, fp.Perm fq ∧ OwnC g A H ds fq := by
  induction p with
  | nil => intro fp h; exact ⟨fp, .refl _, h⟩
  | cons x _ ih =>
    intro fp h
    cases x with
    | c v o =>
      obtain ⟨f1, f2, e, h, q⟩ := h
      obtain ⟨fq, p, q'⟩ := ih q
      subst e
      exact ⟨f1 ++ fq, List.Perm.append_left f1 p, f1, fq, rfl, h, q'⟩
    | pt a x =>
      obtain ⟨f2, e, h, q⟩ := h
      obtain ⟨fq, p, q'⟩ := ih q
      subst e
      exact ⟨a :: fq, .cons a p, fq, rfl, h, q'⟩
  | swap x y r =>
    intro fp h
    have one : ∀ (z : Cell) (l : List Cell) (f : List Addr), OwnC g A H (z :: l) f → ∃ f1 f2, f = f1 ++ f2 ∧ OwnC g A H [z] f1 ∧ OwnC g A H l f2 := fun z l f q => OwnC.app [z] l f q
    obtain ⟨f1, f2, e, h1, q⟩ := one _ _ _ h
    obtain ⟨f3, f4, e2, h2, q2⟩ := one _ _ _ q
    subst e2 e
    refine ⟨f3 ++ (f1 ++ f4), ?_, OwnC.join [x] (y :: r) f3 (f1 ++ f4) h2 (OwnC.join [y] r f1 f4 h1 q2)⟩
    rw [← List.append_assoc, ← List.append_assoc]
    exact List.perm_append_comm.append_right f4
  | trans _ _ ih1 ih2 =>
    intro fp h
    obtain ⟨f1, p1, h1⟩ := ih1 h
    obtain ⟨f2, p2, h2⟩ := ih2 h1
    exact ⟨f2, p1.trans p2, h2⟩
theorem W.perm (h : W g H cs) (p : cs.Perm ds) : W g H ds := by
  obtain ⟨fp, nd, h⟩ := h
  obtain ⟨fq, q, h'⟩ := h.perm p
  exact ⟨fq, q.nodup nd, h'.sub fun a z => q.mem_iff.mpr z⟩
theorem W.drop {c : Cell} (h : W g H (c :: cs)) : W g H cs := by
  obtain ⟨fp, nd, h⟩ := h
  obtain ⟨f1, f2, e, h1, h2⟩ := OwnC.app [c] cs fp h
  subst e
  exact ⟨f2, (List.nodup_append.mp nd).2.1, h2.sub fun a z => List.mem_append_right _ z⟩
theorem W.dropL {es : List Cell} (h : W g H (es ++ cs)) : W g H cs := by
  induction es with
  | nil => exact h
  | cons c es ih => exact ih h.drop
/-- something new is laid -/
theorem W.lay {p : Addr} {x : HO} (h : W g H cs) (hp : H p = none) : W g (upd H p x) (.pt p x :: cs) := by
  obtain ⟨fp, nd, h⟩ := h
  have np : p ∉ fp := fun z => by
    obtain ⟨o, ho⟩ := OwnC.stands cs fp h p z
    rw [hp] at ho; cases ho
  have k : Keeps (· ∈ fp) H (· ∈ p :: fp) (upd H p x) := ⟨fun a o e _ => by rw [upd_ne (ne_of_none e hp)]; exact e, fun a z => by
    rcases List.mem_cons.mp z with e | e
    · exact .inr (by rw [e]; exact hp)
    · exact .inl e⟩
  exact ⟨p :: fp, List.nodup_cons.mpr ⟨np, nd⟩, fp, rfl, upd_same, OwnC.go k cs fp h fun a _ o e => by rw [upd_ne (ne_of_none e hp)]; exact e⟩
/-- one's own is written -/
theorem W.write {p : Addr} {x y : HO} (h : W g H (.pt p x :: cs)) : W g (upd H p y) (.pt p y :: cs) := by
  obtain ⟨fp, nd, f2, e, hp, h⟩ := h
  subst e
  have np := (List.nodup_cons.mp nd).1
  have k : Keeps (· ∈ p :: f2) H (· ∈ p :: f2) (upd H p y) := ⟨fun a o e n => by rw [upd_ne (fun z => n (by rw [z]; exact List.mem_cons_self))]; exact e, fun a z => .inl z⟩
  exact ⟨p :: f2, nd, f2, rfl, upd_same, OwnC.go k cs f2 h fun a ha o e => by rw [upd_ne (fun z => np (by rw [← z]; exact ha))]; exact e⟩
theorem W.read {p : Addr} {x : HO} (h : W g H (.pt p x :: cs)) : H p = some x := by
  obtain ⟨fp, nd, f2, e, hp, h⟩ := h
  exact hp
/-- frozen -/
theorem W.freeze {v : V} {o : O} {t : T} (h : W g H (.c v o :: cs)) (e : o.toT = some t) : W g H (.c v (.fz t) :: cs) := by
  obtain ⟨fp, nd, f1, f2, q, h1, h⟩ := h
  subst q
  obtain ⟨_, n2, ap⟩ := List.nodup_append.mp nd
  have w : ∀ a, a ∈ f2 → a ∈ f1 ++ f2 := fun a z => List.mem_append_right _ z
  exact ⟨f2, n2, [], f2, rfl, ⟨rfl, Own.freeze w o v f1 t h1 (fun a ha hb => ap a ha a hb rfl) e⟩, h.sub w⟩
theorem W.dup {v : V} {t : T} (h : W g H (.c v (.fz t) :: cs)) : W g H (.c v (.fz t) :: .c v (.fz t) :: cs) := by
  obtain ⟨fp, nd, f1, f2, q, ⟨e1, r⟩, h⟩ := h
  subst q
  subst e1
  exact ⟨f2, nd, [], f2, rfl, ⟨rfl, r⟩, [], f2, rfl, ⟨rfl, r⟩, h⟩
/-- what any frozen value is by itself -/
theorem W.put {v : V} {t : T} (h : W g H cs) (r : ∀ A, Rep g A H t v) : W g H (.c v (.fz t) :: cs) := by
  obtain ⟨fp, nd, h⟩ := h
  exact ⟨fp, nd, [], fp, rfl, ⟨rfl, r _⟩, h⟩
theorem W.rep {v : V} {t : T} (h : W g H (.c v (.fz t) :: cs)) : ∃ A, Rep g A H t v := by
  obtain ⟨fp, nd, f1, f2, q, ⟨e1, r⟩, h⟩ := h
  exact ⟨_, r⟩
end

/-! ### rows of cells -/
def zipT (vs : List V) (ts : List T) : List Cell := List.zipWith (fun v t => .c v (.fz t)) vs ts
def zipO (vs : List V) (os : List O) : List Cell := List.zipWith .c vs os
section
variable {g : Cfg} {A A' : Addr → Prop} {H H' : Hp} {cs ds : List Cell}
theorem Reps.length : ∀ {ts : List T} {vs : List V}, Reps g A H ts vs → vs.length = ts.length
  | [], _, h => by
    have e : _ = [] := h
    rw [e]; rfl
  | t :: ts, _, ⟨v, vs', e, _, r⟩ => by rw [e, List.length_cons, List.length_cons, Reps.length r]
theorem Owns.length : ∀ {os : List O} {vs : List V} {fp : List Addr}, Owns g A H os vs fp → vs.length = os.length
  | [], _, _, ⟨e, _⟩ => by rw [e]; rfl
  | o :: os, _, _, ⟨v, vs', f1, f2, e, _, _, r⟩ => by rw [e, List.length_cons, List.length_cons, Owns.length r]
theorem Reps.cells : ∀ {ts : List T} {vs : List V}, Reps g A H ts vs → OwnC g A H (zipT vs ts) []
  | [], _, h => by
    have e : _ = [] := h
    rw [e]; rfl
  | t :: ts, _, ⟨v, vs', e, h, r⟩ => by
    rw [e]
    exact ⟨[], [], rfl, ⟨rfl, h⟩, Reps.cells r⟩
theorem Reps.of_cells : ∀ {ts : List T} {vs : List V} {fp : List Addr}, vs.length = ts.length → OwnC g A H (zipT vs ts) fp → Reps g A H ts vs ∧ fp = []
  | [], vs, fp, l, h => by
    cases vs with
    | nil => exact ⟨rfl, h⟩
    | cons v r => simp at l
  | t :: ts, vs, fp, l, h => by
    cases vs with
    | nil => simp at l
    | cons v r =>
      obtain ⟨f1, f2, e, ⟨e1, h1⟩, h2⟩ := h
      obtain ⟨q1, q2⟩ := Reps.of_cells (ts := ts) (vs := r) (by simpa using l) h2
      subst q2 e1 e
      exact ⟨⟨v, r, rfl, h1, q1⟩, rfl⟩
theorem Owns.cells : ∀ {os : List O} {vs : List V} {fp : List Addr}, Owns g A H os vs fp → OwnC g A H (zipO vs os) fp
  | [], _, _, ⟨e, e2⟩ => by rw [e, e2]; rfl
  | o :: os, _, _, ⟨v, vs', f1, f2, e, e2, h, r⟩ => by
    rw [e, e2]
    exact ⟨f1, f2, rfl, h, Owns.cells r⟩
theorem Owns.of_cells : ∀ {os : List O} {vs : List V} {fp : List Addr}, vs.length = os.length → OwnC g A H (zipO vs os) fp → Owns g A H os vs fp
  | [], vs, fp, l, h => by
    cases vs with
    | nil => exact ⟨rfl, h⟩
    | cons v r => simp at l
  | o :: os, vs, fp, l, h => by
    cases vs with
    | nil => simp at l
    | cons v r =>
      obtain ⟨f1, f2, e, h1, h2⟩ := h
      exact ⟨v, r, f1, f2, rfl, e, h1, Owns.of_cells (by simpa using l) h2⟩
theorem zipO_fz (vs : List V) (ts : List T) : zipO vs (ts.map .fz) = zipT vs ts := by
  unfold zipO zipT
  rw [List.zipWith_map_right]

/-- a new tuple of frozen things -/
theorem W.tup {p : Addr} {vs : List V} {ts : List T} (h : W g H (zipT vs ts ++ cs)) (l : vs.length = ts.length) (hp : H p = none) : W g (upd H p (.tup vs)) (.c (.ref p) (.fz (.tup ts)) :: cs) := by
  obtain ⟨fp, nd, f2, e, hr, h⟩ := h.lay (x := .tup vs) hp
  subst e
  obtain ⟨f3, f4, e2, h1, h2⟩ := OwnC.app _ _ _ h
  obtain ⟨r, e3⟩ := Reps.of_cells l h1
  subst e2
  subst e3
  have nd' : p ∉ f4 ∧ f4.Nodup := List.nodup_cons.mp nd
  have w : ∀ a, a ∈ f4 → a ∈ p :: ([] ++ f4) := fun a z => List.mem_cons_of_mem _ z
  exact ⟨f4, nd'.2, [], f4, rfl, ⟨rfl, p, vs, rfl, nd'.1, hr, Reps.go ⟨fun _ _ q _ => q, fun a z => .inl (w a z)⟩ _ _ r⟩, h2.sub w⟩
/-- the own list at a is closed, opened -/
theorem W.closeL {p : Addr} {vs : List V} {os : List O} (h : W g H (.pt p (.lst vs) :: (zipO vs os ++ cs))) (l : vs.length = os.length) : W g H (.c (.ref p) (.lst os) :: cs) := by
  obtain ⟨fp, nd, f2, e, hr, h⟩ := h
  subst e
  obtain ⟨f3, f4, e2, h1, h2⟩ := OwnC.app _ _ _ h
  subst e2
  exact ⟨_, nd, p :: f3, f4, rfl, ⟨p, vs, f3, rfl, rfl, hr, Owns.of_cells l h1⟩, h2⟩
theorem W.openL {v : V} {os : List O} (h : W g H (.c v (.lst os) :: cs)) : ∃ p vs, v = .ref p ∧ vs.length = os.length ∧ W g H (.pt p (.lst vs) :: (zipO vs os ++ cs)) := by
  obtain ⟨fp, nd, f1, f2, e, ⟨a, vs, f3, e1, e2, h1, h2⟩, h3⟩ := h
  subst e2 e1 e
  exact ⟨a, vs, rfl, h2.length, _, nd, f3 ++ f2, rfl, h1, OwnC.join _ _ _ _ h2.cells h3⟩
/-- a new list -/
theorem W.list {p : Addr} {vs : List V} {os : List O} (h : W g H (zipO vs os ++ cs)) (l : vs.length = os.length) (hp : H p = none) : W g (upd H p (.lst vs)) (.c (.ref p) (.lst os) :: cs) :=
  (h.lay hp).closeL l
/-- a frozen tuple, list is read: its items' cells beside it -/
theorem W.openT {v : V} {ts : List T} (h : W g H (.c v (.fz (.tup ts)) :: cs)) : ∃ p vs, v = .ref p ∧ vs.length = ts.length ∧ H p = some (.tup vs) ∧ W g H (zipT vs ts ++ .c v (.fz (.tup ts)) :: cs) := by
  obtain ⟨fp, nd, f1, f2, e, ⟨e1, a, vs, ev, na, ha, r⟩, h⟩ := h
  subst e
  subst e1
  subst ev
  exact ⟨a, vs, rfl, r.length, ha, _, nd, OwnC.join _ _ [] _ r.cells ⟨[], f2, rfl, ⟨rfl, a, vs, rfl, na, ha, r⟩, h⟩⟩
theorem W.openF {v : V} {ts : List T} (h : W g H (.c v (.fz (.lst ts)) :: cs)) : ∃ p vs, v = .ref p ∧ vs.length = ts.length ∧ H p = some (.lst vs) ∧ W g H (zipT vs ts ++ .c v (.fz (.lst ts)) :: cs) := by
  obtain ⟨fp, nd, f1, f2, e, ⟨e1, a, vs, ev, na, ha, r⟩, h⟩ := h
  subst e
  subst e1
  subst ev
  exact ⟨a, vs, rfl, r.length, ha, _, nd, OwnC.join _ _ [] _ r.cells ⟨[], f2, rfl, ⟨rfl, a, vs, rfl, na, ha, r⟩, h⟩⟩
theorem W.openS {v : V} {ns : List Int} (h : W g H (.c v (.fz (.scr ns)) :: cs)) : ∃ p, v = .ref p ∧ SqL g.K H p (ns.map V.int) := by
  obtain ⟨A, a, e, h | h⟩ := h.rep
  · exact ⟨a, e, .inl h.2⟩
  · exact ⟨a, e, .inr h⟩
end
end Iv
/-! Iv3: slots and their cells; what a reading of the interpreter says; operands. -/
namespace Iv
open PySem L2

/-! ### W with its own addresses named -/
def WA (g : Cfg) (H : Hp) (A : Addr → Prop) (cs : List Cell) : Prop := ∃ fp, fp.Nodup ∧ (∀ a, A a ↔ a ∈ fp) ∧ OwnC g A H cs fp
section
variable {g : Cfg} {A A' : Addr → Prop} {H H' : Hp} {cs ds : List Cell}
theorem WA.w (h : WA g H A cs) : W g H cs := by
  obtain ⟨fp, nd, e, h⟩ := h
  exact ⟨fp, nd, h.sub fun a z => (e a).mpr z⟩
theorem W.a (h : W g H cs) : ∃ A, WA g H A cs := by
  obtain ⟨fp, nd, h⟩ := h
  exact ⟨_, fp, nd, fun _ => Iff.rfl, h⟩
theorem WA.put {v : V} {t : T} (h : WA g H A cs) (r : Rep g A H t v) : W g H (.c v (.fz t) :: cs) := by
  obtain ⟨fp, nd, e, h⟩ := h
  have w : ∀ a, a ∈ fp → A a := fun a z => (e a).mpr z
  exact ⟨fp, nd, [], fp, rfl, ⟨rfl, Rep.go ⟨fun _ _ q _ => q, fun a z => .inl (w a z)⟩ _ _ r⟩, h.sub w⟩
theorem WA.puts {vs : List V} {ts : List T} (h : WA g H A cs) (r : Reps g A H ts vs) : W g H (zipT vs ts ++ cs) := by
  obtain ⟨fp, nd, e, h⟩ := h
  have w : ∀ a, a ∈ fp → A a := fun a z => (e a).mpr z
  exact ⟨fp, nd, OwnC.join _ _ [] _ (Reps.cells (Reps.go ⟨fun _ _ q _ => q, fun a z => .inl (w a z)⟩ _ _ r)) (h.sub w)⟩

/-- what is read: as Rep, the thing itself may be one's own -/
def RdR (g : Cfg) (A : Addr → Prop) (H : Hp) : T → V → Prop
  | .lst ts, v => ∃ a vs, v = .ref a ∧ H a = some (.lst vs) ∧ Reps g A H ts vs
  | .dct tk kts, v => ∃ a vs, v = .ref a ∧ DctAt H a tk (kts.map (·.1)) vs ∧ Repd g A H kts vs
  | .scr ns, v => ∃ a, v = .ref a ∧ SqL g.K H a (ns.map V.int)
  | t, v => Rep g A H t v
theorem Rep.rd {t : T} {v : V} (h : Rep g A H t v) : RdR g A H t v := by
  cases t with
  | lst ts => obtain ⟨a, vs, e, _, h, r⟩ := h; exact ⟨a, vs, e, h, r⟩
  | dct tk ts => obtain ⟨a, vs, e, _, h, r⟩ := h; exact ⟨a, vs, e, h, r⟩
  | scr ns =>
    obtain ⟨a, e, h | h⟩ := h
    · exact ⟨a, e, .inl h.2⟩
    · exact ⟨a, e, .inr h⟩
  | _ => exact h
theorem RdR.sub {t : T} {v : V} (w : ∀ a, A' a → A a) (h : RdR g A H t v) : RdR g A' H t v := by
  have k : Keeps A H A' H := ⟨fun _ _ q _ => q, fun a z => .inl (w a z)⟩
  cases t with
  | lst ts => obtain ⟨a, vs, e, h, r⟩ := h; exact ⟨a, vs, e, h, Reps.go k _ _ r⟩
  | dct tk ts => obtain ⟨a, vs, e, h, r⟩ := h; exact ⟨a, vs, e, h, Repd.go k _ _ r⟩
  | scr ns => exact h
  | _ => exact Rep.go k _ _ h
theorem Owns.reps : ∀ {os : List O} {vs : List V} {fp : List Addr} {ts : List T}, Owns g A H os vs fp → os.all O.isFz = true → O.toTs os = some ts → Reps g A H ts vs
  | [], _, _, ts, ⟨e, _⟩, _, q => by
    have e2 : [] = ts := Option.some.inj q
    subst e2; exact e
  | o :: os, _, _, ts, ⟨v, vs', f1, f2, e, e2, h, r⟩, al, q => by
    rw [List.all_cons, Bool.and_eq_true] at al
    cases o with
    | fz t =>
      simp only [O.toTs, O.toT] at q
      cases h2 : O.toTs os with
      | none => rw [h2] at q; cases q
      | some ts' =>
        rw [h2] at q
        have e3 : t :: ts' = ts := Option.some.inj q
        subst e3
        exact ⟨v, vs', e, h.2, Owns.reps r al.2 h2⟩
    | _ => exact absurd al.1 (by simp [O.isFz])
theorem Ownd.reps : ∀ {os : List (T × O)} {vs : List V} {fp : List Addr} {ts : List (T × T)}, Ownd g A H os vs fp → os.all (fun kv => kv.2.isFz) = true → O.toTd os = some ts → Repd g A H ts vs
  | [], _, _, ts, ⟨e, _⟩, _, q => by
    have e2 : [] = ts := Option.some.inj q
    subst e2; exact e
  | (k, o) :: os, _, _, ts, ⟨v, vs', f1, f2, e, e2, h, r⟩, al, q => by
    rw [List.all_cons, Bool.and_eq_true] at al
    cases o with
    | fz t =>
      simp only [O.toTd, O.toT] at q
      cases h2 : O.toTd os with
      | none => rw [h2] at q; cases q
      | some ts' =>
        rw [h2] at q
        have e3 : (k, t) :: ts' = ts := Option.some.inj q
        subst e3
        exact ⟨v, vs', e, h.2, Ownd.reps r al.2 h2⟩
    | _ => exact absurd al.1 (by simp [O.isFz])
theorem Own.rd {o : O} {v : V} {fp : List Addr} {t : T} (h : Own g A H o v fp) (e : o.toT1 = some t) : RdR g A H t v := by
  cases o with
  | fz u =>
    have e2 : u = t := Option.some.inj e
    subst e2
    exact h.2.rd
  | lst os =>
    obtain ⟨a, vs, fp', e1, e2, h1, h2⟩ := h
    simp only [O.toT1] at e
    split at e
    · rename_i al
      simp only [O.toT] at e
      cases h3 : O.toTs os with
      | none => rw [h3] at e; cases e
      | some ts =>
        rw [h3] at e
        have e4 : T.lst ts = t := Option.some.inj e
        subst e4
        exact ⟨a, vs, e1, h1, h2.reps al h3⟩
    · cases e
  | dct tk os =>
    obtain ⟨a, vs, fp', e1, e2, h1, h2⟩ := h
    simp only [O.toT1] at e
    split at e
    · rename_i al
      simp only [O.toT] at e
      cases h3 : O.toTd os with
      | none => rw [h3] at e; cases e
      | some ts =>
        rw [h3] at e
        have e4 : T.dct tk ts = t := Option.some.inj e
        subst e4
        exact ⟨a, vs, e1, by rw [toTd_keys os ts h3]; exact h1, Ownd.reps h2 al h3⟩
    · cases e
  | obj c fs => cases e
end

/-! ### slots -/
def cellsOf : L2.St → St → List Cell
  | s :: σ, some o :: τ => .c (s.getD .non) o :: cellsOf σ τ
  | _ :: σ, none :: τ => cellsOf σ τ
  | _, _ => []
def Good : L2.St → St → Prop
  | [], [] => True
  | s :: σ, t :: τ => (t.isSome = true → s.isSome = true) ∧ Good σ τ
  | _, _ => False
theorem Good.len : ∀ {σ : L2.St} {τ : St}, Good σ τ → σ.length = τ.length
  | [], [], _ => rfl
  | _ :: _, _ :: _, h => by rw [List.length_cons, List.length_cons, Good.len h.2]
  | [], _ :: _, h => h.elim
  | _ :: _, [], h => h.elim
theorem Good.none : ∀ {σ : L2.St} {τ : St} (i : Nat), Good σ τ → Good σ (τ.set i .none)
  | [], [], _, _ => trivial
  | _ :: _, _ :: _, 0, h => ⟨fun z => (by cases z), h.2⟩
  | _ :: _, _ :: _, i + 1, h => ⟨h.1, Good.none i h.2⟩
  | [], _ :: _, _, h => h.elim
  | _ :: _, [], _, h => h.elim
theorem slot_get : ∀ {σ : L2.St} {τ : St} {i : Nat} {o : O}, Good σ τ → slot τ i = some o → ∃ v, σ[i]? = some (some v) ∧ (cellsOf σ τ).Perm (.c v o :: cellsOf σ (τ.set i none))
  | [], [], _, _, _, h => by simp [slot] at h
  | s :: σ, t :: τ, 0, o, g, h => by
    have e : t = some o := by simpa [slot] using h
    subst e
    cases s with
    | none => exact absurd (g.1 rfl) (by simp)
    | some v => exact ⟨v, rfl, .refl _⟩
  | s :: σ, t :: τ, i + 1, o, g, h => by
    have h' : slot τ i = some o := by simpa [slot] using h
    obtain ⟨v, e, p⟩ := slot_get g.2 h'
    refine ⟨v, by simpa using e, ?_⟩
    cases t with
    | none => exact p
    | some o' => exact (List.Perm.cons _ p).trans (.swap _ _ _)
  | [], _ :: _, _, _, h, _ => h.elim
  | _ :: _, [], _, _, h, _ => h.elim
theorem slot_put : ∀ {σ : L2.St} {τ : St} {i : Nat} {v : V} (o : O), Good σ τ → σ[i]? = some (some v) → Good σ (τ.set i (some o)) ∧ (cellsOf σ (τ.set i (some o))).Perm (.c v o :: cellsOf σ (τ.set i none))
  | [], [], _, _, _, _, h => by simp at h
  | s :: σ, t :: τ, 0, v, o, g, h => by
    have e : s = some v := by simpa using h
    subst e
    exact ⟨⟨fun _ => rfl, g.2⟩, .refl _⟩
  | s :: σ, t :: τ, i + 1, v, o, g, h => by
    obtain ⟨g1, p⟩ := slot_put o g.2 (show σ[i]? = some (some v) by simpa using h)
    refine ⟨⟨g.1, g1⟩, ?_⟩
    cases t with
    | none => exact p
    | some o' => exact (List.Perm.cons _ p).trans (.swap _ _ _)
  | [], _ :: _, _, _, _, h, _ => h.elim
  | _ :: _, [], _, _, _, h, _ => h.elim
theorem slot_set : ∀ {σ : L2.St} {τ : St} {i : Nat} (v : V) (o : O), Good σ τ → i < σ.length → Good (σ.set i (some v)) (τ.set i (some o)) ∧ (cellsOf (σ.set i (some v)) (τ.set i (some o))).Perm (.c v o :: cellsOf σ (τ.set i none))
  | [], [], _, _, _, _, h => by simp at h
  | s :: σ, t :: τ, 0, v, o, g, h => ⟨⟨fun _ => rfl, g.2⟩, .refl _⟩
  | s :: σ, t :: τ, i + 1, v, o, g, h => by
    obtain ⟨g1, p⟩ := slot_set v o g.2 (show i < σ.length by simpa using h)
    refine ⟨⟨g.1, g1⟩, ?_⟩
    cases t with
    | none => exact p
    | some o' => exact (List.Perm.cons _ p).trans (.swap _ _ _)
  | [], _ :: _, _, _, _, h, _ => h.elim
  | _ :: _, [], _, _, _, h, _ => h.elim
/-- a slot is forgotten -/
theorem slot_drop : ∀ {σ : L2.St} {τ : St} (i : Nat), Good σ τ → ∃ cs, (cellsOf σ τ).Perm (cs ++ cellsOf σ (τ.set i none))
  | [], [], _, _ => ⟨[], .refl _⟩
  | s :: σ, t :: τ, 0, g => by
    cases t with
    | none => exact ⟨[], .refl _⟩
    | some o => exact ⟨[_], .refl _⟩
  | s :: σ, t :: τ, i + 1, g => by
    obtain ⟨cs, p⟩ := slot_drop i g.2
    cases t with
    | none => exact ⟨cs, p⟩
    | some o => exact ⟨cs, (List.Perm.cons _ p).trans (List.perm_middle.symm)⟩
  | [], _ :: _, _, h => h.elim
  | _ :: _, [], _, h => h.elim

/-! ### operands and their cells -/
def temps : List Opd → List V → List Cell
  | .val o :: r, v :: vs => .c v o :: temps r vs
  | .ref _ :: r, _ :: vs => temps r vs
  | _, _ => []
def Refs (σ : L2.St) : List Opd → List V → Prop
  | [], [] => True
  | .val _ :: r, _ :: vs => Refs σ r vs
  | .ref i :: r, v :: vs => σ[i]? = some (some v) ∧ Refs σ r vs
  | _, _ => False
structure OW (g : Cfg) (σ : L2.St) (ops : List Opd) (vs : List V) (τ : St) (ex : List Cell) (H : Hp) : Prop where
  gd : Good σ τ
  rf : Refs σ ops vs
  w : W g H (temps ops vs ++ (cellsOf σ τ ++ ex))
section
variable {g : Cfg} {σ : L2.St} {ops : List Opd} {vs : List V} {τ : St} {ex : List Cell} {H : Hp}
theorem Refs.app : ∀ {ops ops2 : List Opd} {vs ws : List V}, Refs σ ops vs → Refs σ ops2 ws → Refs σ (ops ++ ops2) (vs ++ ws)
  | [], _, [], _, _, h => h
  | .val _ :: r, _, _ :: vs, _, h, q => Refs.app (ops := r) (vs := vs) h q
  | .ref i :: r, _, v :: vs, _, h, q => ⟨h.1, Refs.app (ops := r) (vs := vs) h.2 q⟩
  | [], _, _ :: _, _, h, _ => h.elim
  | .val _ :: _, _, [], _, h, _ => h.elim
  | .ref _ :: _, _, [], _, h, _ => h.elim
theorem temps_app : ∀ {ops ops2 : List Opd} {vs ws : List V}, Refs σ ops vs → temps (ops ++ ops2) (vs ++ ws) = temps ops vs ++ temps ops2 ws
  | [], _, [], _, _ => rfl
  | .val _ :: r, _, _ :: vs, _, h => by
    show _ :: temps (r ++ _) (vs ++ _) = _
    rw [temps_app (ops := r) (vs := vs) h]; rfl
  | .ref i :: r, _, v :: vs, _, h => by
    show temps (r ++ _) (vs ++ _) = _
    rw [temps_app (ops := r) (vs := vs) h.2]; rfl
  | [], _, _ :: _, _, h => h.elim
  | .val _ :: _, _, [], _, h => h.elim
  | .ref _ :: _, _, [], _, h => h.elim
/-- operands reckoned earlier stand beside -/
theorem OW.app {o1 o2 : List Opd} {v1 v2 : List V} (r : Refs σ o1 v1) (h : OW g σ o2 v2 τ (temps o1 v1 ++ ex) H) : OW g σ (o1 ++ o2) (v1 ++ v2) τ ex H := by
  refine ⟨h.gd, r.app h.rf, ?_⟩
  rw [temps_app r]
  refine h.w.perm ?_
  have p : (temps o2 v2 ++ (cellsOf σ τ ++ (temps o1 v1 ++ ex))).Perm (temps o1 v1 ++ (temps o2 v2 ++ (cellsOf σ τ ++ ex))) := by
    rw [← List.append_assoc, ← List.append_assoc]
    refine (List.perm_append_comm.append_right ex).trans ?_
    rw [List.append_assoc, List.append_assoc]
  rw [List.append_assoc]
  exact p
theorem OW.slots (h : OW g σ ops vs τ ex H) : W g H (cellsOf σ τ ++ ex) := h.w.dropL
theorem Own.of_cells {A : Addr → Prop} {cs : List Cell} {fp : List Addr} {v : V} {o : O} (h : OwnC g A H cs fp) {ds : List Cell} (p : cs.Perm (.c v o :: ds)) : ∃ f, Own g A H o v f := by
  obtain ⟨fq, _, f1, f2, _, q, _⟩ := h.perm p
  exact ⟨f1, q⟩
theorem rds_all {A : Addr → Prop} : ∀ {ops : List Opd} {vs : List V} {ts : List T} {f1 f2 : List Addr}, Good σ τ → Refs σ ops vs → OwnC g A H (temps ops vs) f1 → OwnC g A H (cellsOf σ τ) f2 → rds τ ops = some ts → All2 (RdR g A H) ts vs
  | [], [], ts, _, _, _, _, _, _, e => by
    have e2 : [] = ts := Option.some.inj e
    subst e2; exact .nil
  | .val o :: r, v :: vs, ts, _, _, gd, rf, ⟨g1, g2, _, h, h'⟩, hc, e => by
    simp only [rds, rd] at e
    cases h1 : o.toT1 with
    | none => rw [h1] at e; cases e
    | some t =>
      cases h2 : rds τ r with
      | none => rw [h1, h2] at e; cases e
      | some ts' =>
        rw [h1, h2] at e
        have e2 : t :: ts' = ts := Option.some.inj e
        subst e2
        exact .cons (h.rd h1) (rds_all gd rf h' hc h2)
  | .ref i :: r, v :: vs, ts, _, _, gd, rf, ht, hc, e => by
    simp only [rds, rd] at e
    cases h0 : slot τ i with
    | none => rw [h0] at e; cases e
    | some o =>
      cases h1 : o.toT1 with
      | none => rw [h0] at e; simp only [Option.bind_some, h1] at e; cases e
      | some t =>
        cases h2 : rds τ r with
        | none => rw [h0] at e; simp only [Option.bind_some, h1, h2] at e; cases e
        | some ts' =>
          rw [h0] at e
          simp only [Option.bind_some, h1, h2] at e
          have e2 : t :: ts' = ts := Option.some.inj e
          subst e2
          obtain ⟨v', ev, p⟩ := slot_get gd h0
          rw [rf.1] at ev
          cases ev
          obtain ⟨f, q⟩ := Own.of_cells hc p
          exact .cons (q.rd h1) (rds_all gd rf.2 ht hc h2)
  | [], _ :: _, _, _, _, _, h, _, _, _ => h.elim
  | .val _ :: _, [], _, _, _, _, h, _, _, _ => h.elim
  | .ref _ :: _, [], _, _, _, _, h, _, _, _ => h.elim
theorem All2.imp {α β : Type} {R S : α → β → Prop} {as : List α} {bs : List β} (h : All2 R as bs) (f : ∀ a b, R a b → S a b) : All2 S as bs := by
  induction h with
  | nil => exact .nil
  | cons r _ ih => exact .cons (f _ _ r) ih
/-- the operands are read -/
theorem OW.rds {ts : List T} (h : OW g σ ops vs τ ex H) (e : Iv.rds τ ops = some ts) : ∃ A, WA g H A (cellsOf σ τ ++ ex) ∧ All2 (RdR g A H) ts vs := by
  obtain ⟨fp, nd, q⟩ := h.w
  obtain ⟨f1, f2, e1, q1, q2⟩ := OwnC.app _ _ _ q
  obtain ⟨f3, f4, e2, q3, q4⟩ := OwnC.app _ _ _ q2
  subst e1
  have al := rds_all h.gd h.rf q1 q3 e
  have w : ∀ a, a ∈ f2 → a ∈ f1 ++ f2 := fun a z => List.mem_append_right _ z
  exact ⟨(· ∈ f2), ⟨f2, (List.nodup_append.mp nd).2.1, fun _ => Iff.rfl, q2.sub w⟩, al.imp fun t v r => r.sub w⟩
end
end Iv
/-! Iv4: the judgements: the interpreter's answers as readings; the steps from operand to operand. -/
namespace Iv
open PySem L2

/-- an exception of the interpreter as it lies in the heap -/
def ExAt (g : Cfg) (x : Ex) (cls : Value) (d : Option Addr) (H : Hp) (vs : List V) : Prop :=
  cls = .ref (g.cls x.c) ∧ ∃ a, d = some a ∧ H a = some (.xd ((g.xn x.c).zip vs)) ∧ (g.xn x.c).length = vs.length ∧ vs.length = x.fs.length

section
variable (g : Cfg) (Γ : Nat → List O → COut) (Wx : WX)
def ExW (σ : L2.St) (ex : List Cell) (x : Ex) (τ : St) : Prop :=
  ∀ H' cls d vs, ExAt g x cls d H' vs → Good σ τ → W g H' (zipT vs x.fs ++ (cellsOf σ τ ++ ex)) → Wx cls d σ H'
def post {α : Type} (σ : L2.St) (ex : List Cell) (r : Out α) (P : α → St → Prop) : Prop := match r with
  | .ok a τ => P a τ
  | .exc x τ => ExW g Wx σ ex x τ
  | .stuck => False
/-- an operand; a value; a test; a row of operands; what a loop walks -/
def JO (m : E) : TE := fun σ H Q => ∃ τ ex, OW g σ [] [] τ ex H ∧ post g Wx σ ex (opd m (evalE Γ m) τ) fun x τ' => ∀ v H', OW g σ [x] [v] τ' ex H' → Q v H'
def JE (m : E) : TE := fun σ H Q => ∃ τ ex, OW g σ [] [] τ ex H ∧ post g Wx σ ex (evalE Γ m τ) fun o τ' => ∀ v H', OW g σ [.val o] [v] τ' ex H' → Q v H'
def JC (m : E) : TT := fun σ H Q => ∃ τ ex, OW g σ [] [] τ ex H ∧ post g Wx σ ex (evalC Γ m τ) fun k τ' => ∀ H', OW g σ [] [] τ' ex H' → Q k H'
def JL (m : E) : TA := fun σ H Q => ∃ τ ex, OW g σ [] [] τ ex H ∧ post g Wx σ ex (evalL Γ m τ) fun ops τ' => ∀ vs H', OW g σ ops vs τ' ex H' → Q vs H'
end

theorem _root_.L2.PE.imp {X : Cx} {e : Expr} {t t' : TE} (h : PE X e t) (i : ∀ σ H Q, t' σ H Q → t σ H Q) : PE X e t' := ⟨fun pins s σ H Q I q => h.run pins s σ H Q I (i σ H Q q)⟩
theorem _root_.L2.PT.imp {X : Cx} {e : Expr} {t t' : TT} (h : PT X e t) (i : ∀ σ H Q, t' σ H Q → t σ H Q) : PT X e t' := ⟨fun pins s σ H Q I q => h.run pins s σ H Q I (i σ H Q q)⟩
theorem _root_.L2.PW.imp {X : Cx} {e : Expr} {t t' : TT} (h : PW X e t) (i : ∀ σ H Q, t' σ H Q → t σ H Q) : PW X e t' := ⟨fun wh pins s σ H Q I q => h.run wh pins s σ H Q I (i σ H Q q)⟩
theorem _root_.L2.PA.imp {X : Cx} {e : List Expr} {t t' : TA} (h : PA X e t) (i : ∀ σ H Q, t' σ H Q → t σ H Q) : PA X e t' := ⟨fun pos pins s σ H Q I q => h.run pos pins s σ H Q I (i σ H Q q)⟩
theorem _root_.L2.PS.imp {X : Cx} {e : Stmt} {t t' : TS} (h : PS X e t) (i : ∀ D σ H, t' D σ H → t D σ H) : PS X e t' := ⟨fun pins s σ H D I q => h.run pins s σ H D I (i D σ H q)⟩
theorem _root_.L2.PSs.imp {X : Cx} {e : List Stmt} {t t' : TS} (h : PSs X e t) (i : ∀ D σ H, t' D σ H → t D σ H) : PSs X e t' := ⟨fun pins s σ H D I q => h.run pins s σ H D I (i D σ H q)⟩
theorem _root_.L2.PI.imp {X : Cx} {tg e : Expr} {t t' : TI} (h : PI X tg e t) (i : ∀ σ H R, t' σ H R → t σ H R) : PI X tg e t' := ⟨fun pins s σ H R I q => h.run pins s σ H R I (i σ H R q)⟩

section
variable {g : Cfg} {Γ : Nat → List O → COut} {Wx : WX} {σ : L2.St} {τ : St} {ex e2 : List Cell} {H : Hp} {ops : List Opd} {vs : List V} {α β : Type}
theorem ExW.more {x : Ex} (h : ExW g Wx σ ex x τ) : ExW g Wx σ (e2 ++ ex) x τ := fun H' cls d vs h1 h2 w => h H' cls d vs h1 h2 (by
  have p : (zipT vs x.fs ++ (cellsOf σ τ ++ (e2 ++ ex))).Perm (e2 ++ (zipT vs x.fs ++ (cellsOf σ τ ++ ex))) := by
    rw [← List.append_assoc, ← List.append_assoc, ← List.append_assoc, ← List.append_assoc]
    refine List.Perm.append_right ex ?_
    rw [List.append_assoc e2]
    exact List.perm_append_comm
  exact (w.perm p).dropL)
theorem OW.beside (h : OW g σ ops vs τ ex H) : OW g σ [] [] τ (temps ops vs ++ ex) H := ⟨h.gd, trivial, h.w.perm (by
  show (temps ops vs ++ (cellsOf σ τ ++ ex)).Perm (cellsOf σ τ ++ (temps ops vs ++ ex))
  rw [← List.append_assoc, ← List.append_assoc]
  exact List.perm_append_comm.append_right ex)⟩
theorem OW.bare (h : OW g σ ops vs τ ex H) : OW g σ [] [] τ ex H := ⟨h.gd, trivial, h.w.dropL⟩
theorem post_bind {r : Out α} {f : α → St → Out β} {P : β → St → Prop} (p : post g Wx σ ex (r.bind f) P) : post g Wx σ ex r fun a τ => post g Wx σ ex (f a τ) P := by
  cases r with
  | ok a τ => exact p
  | exc x τ => exact p
  | stuck => exact p
theorem post_mono {r : Out α} {P P' : α → St → Prop} (p : post g Wx σ ex r P) (i : ∀ a τ, P a τ → P' a τ) : post g Wx σ ex r P' := by
  cases r with
  | ok a τ => exact i a τ p
  | exc x τ => exact p
  | stuck => exact p
theorem post_more {r : Out α} {P : α → St → Prop} (p : post g Wx σ ex r P) : post g Wx σ (e2 ++ ex) r P := by
  cases r with
  | ok a τ => exact p
  | exc x τ => exact ExW.more p
  | stuck => exact p
theorem post_map {r : Out α} {f : α → β} {P : β → St → Prop} (p : post g Wx σ ex (r.map f) P) : post g Wx σ ex r fun a τ => P (f a) τ := post_bind p
theorem post_lift {o : Option α} {f : α → Out β} {P : β → St → Prop} (p : post g Wx σ ex (lift o f) P) : ∃ a, o = some a ∧ post g Wx σ ex (f a) P := by
  cases o with
  | some a => exact ⟨a, rfl, p⟩
  | none => exact p.elim
theorem post_lift2 {o : Option (α × St)} {f : α → St → Out β} {P : β → St → Prop} (p : post g Wx σ ex (lift2 o f) P) : ∃ a τ, o = some (a, τ) ∧ post g Wx σ ex (f a τ) P := by
  cases o with
  | some a => exact ⟨a.1, a.2, rfl, p⟩
  | none => exact p.elim

/-! steps: from operands at hand to one more -/
theorem stepO {a : E} {f : Opd → St → Out β} {P : β → St → Prop} {R : VK} (h : OW g σ ops vs τ ex H) (p : post g Wx σ ex ((opd a (evalE Γ a) τ).bind f) P)
    (k : ∀ x τ1 v H1, OW g σ (ops ++ [x]) (vs ++ [v]) τ1 ex H1 → post g Wx σ ex (f x τ1) P → R v H1) : JO g Γ Wx a σ H R :=
  ⟨τ, temps ops vs ++ ex, h.beside, post_mono (post_more (post_bind p)) fun x τ1 q v H1 ow => k x τ1 v H1 (ow.app h.rf) q⟩
theorem stepE {a : E} {f : O → St → Out β} {P : β → St → Prop} {R : VK} (h : OW g σ ops vs τ ex H) (p : post g Wx σ ex ((evalE Γ a τ).bind f) P)
    (k : ∀ x τ1 v H1, OW g σ (ops ++ [.val x]) (vs ++ [v]) τ1 ex H1 → post g Wx σ ex (f x τ1) P → R v H1) : JE g Γ Wx a σ H R :=
  ⟨τ, temps ops vs ++ ex, h.beside, post_mono (post_more (post_bind p)) fun x τ1 q v H1 ow => k x τ1 v H1 (ow.app h.rf) q⟩
theorem stepC {a : E} {f : Bool → St → Out β} {P : β → St → Prop} {R : Bool → Hp → Prop} (h : OW g σ ops vs τ ex H) (p : post g Wx σ ex ((evalC Γ a τ).bind f) P)
    (k : ∀ x τ1 H1, OW g σ ops vs τ1 ex H1 → post g Wx σ ex (f x τ1) P → R x H1) : JC g Γ Wx a σ H R :=
  ⟨τ, temps ops vs ++ ex, h.beside, post_mono (post_more (post_bind p)) fun x τ1 q H1 ow => k x τ1 H1 (by
    have z := ow.app (o1 := ops) (v1 := vs) h.rf
    rw [List.append_nil, List.append_nil] at z
    exact z) q⟩
theorem stepL {a : E} {f : List Opd → St → Out β} {P : β → St → Prop} {R : List V → Hp → Prop} (h : OW g σ ops vs τ ex H) (p : post g Wx σ ex ((evalL Γ a τ).bind f) P)
    (k : ∀ xs τ1 ws H1, OW g σ (ops ++ xs) (vs ++ ws) τ1 ex H1 → post g Wx σ ex (f xs τ1) P → R ws H1) : JL g Γ Wx a σ H R :=
  ⟨τ, temps ops vs ++ ex, h.beside, post_mono (post_more (post_bind p)) fun x τ1 q v H1 ow => k x τ1 v H1 (ow.app h.rf) q⟩
/-- a new value beside the slots -/
theorem OW.fin {v : V} {o : O} (gd : Good σ τ) (h : W g H (.c v o :: (cellsOf σ τ ++ ex))) : OW g σ [.val o] [v] τ ex H := ⟨gd, trivial, h⟩
/-- an operand that is no name is a value -/
theorem JO_of_JE {m : E} {X : Cx} {e : Expr} (hm : ∀ i, m ≠ .v i) (h : PE X e (JE g Γ Wx m)) : PE X e (JO g Γ Wx m) := h.imp fun σ H Q ⟨τ, ex, ow, p⟩ => ⟨τ, ex, ow, by
  have e1 : opd m (evalE Γ m) τ = (evalE Γ m τ).map .val := by
    cases m <;> first | rfl | exact absurd rfl (hm _)
  rw [e1] at p
  exact post_map p⟩
/-- a name -/
theorem JO_v {X : Cx} {e : Expr} {i : Nat} (h : PE X e (tVar i)) : PE X e (JO g Γ Wx (.v i)) := h.imp fun σ H Q ⟨τ, ex, ow, p⟩ => by
  simp only [opd] at p
  cases hs : slot τ i with
  | none => rw [hs] at p; exact p.elim
  | some o =>
    rw [hs] at p
    obtain ⟨v, e, _⟩ := slot_get ow.gd hs
    exact ⟨v, e, p v H ⟨ow.gd, ⟨e, trivial⟩, ow.w⟩⟩
/-- a name taken as a value: what it holds is frozen -/
theorem take_ref {i : Nat} {t : T} {τ' : St} (ow : OW g σ ops vs τ ex H) (e : take τ (.ref i) = some (t, τ')) : ∃ v, σ[i]? = some (some v) ∧ Good σ τ' ∧ W g H (temps ops vs ++ (.c v (.fz t) :: (cellsOf σ τ' ++ ex))) := by
  simp only [take] at e
  cases hs : slot τ i with
  | none => rw [hs] at e; cases e
  | some o =>
    rw [hs] at e
    cases ht : o.toT with
    | none => simp only [Option.bind_some, ht] at e; cases e
    | some u =>
      simp only [Option.bind_some, ht] at e
      have e2 := Option.some.inj e
      have e3 : u = t := congrArg Prod.fst e2
      have e4 : τ.set i (some (.fz u)) = τ' := congrArg Prod.snd e2
      subst e3 e4
      obtain ⟨v, ev, p⟩ := slot_get ow.gd hs
      obtain ⟨gd, p2⟩ := slot_put (.fz u) ow.gd ev
      refine ⟨v, ev, gd, ?_⟩
      have w1 : W g H (.c v o :: (cellsOf σ (τ.set i none) ++ (temps ops vs ++ ex))) := by
        refine ow.w.perm ?_
        rw [← List.append_assoc]
        refine ((List.perm_append_comm (l₁ := temps ops vs)).append_right ex).trans ?_
        rw [List.append_assoc]
        exact p.append_right _
      have w2 := (w1.freeze ht).dup
      refine w2.perm ?_
      refine (List.Perm.cons _ ((p2.symm.append_right (temps ops vs ++ ex)) : (Cell.c v (.fz u) :: cellsOf σ (τ.set i none) ++ (temps ops vs ++ ex)).Perm _)).trans ?_
      refine (List.Perm.cons (Cell.c v (.fz u)) ?_).trans List.perm_middle.symm
      rw [← List.append_assoc, ← List.append_assoc]
      exact List.perm_append_comm.append_right ex
theorem JE_v {X : Cx} {e : Expr} {i : Nat} (h : PE X e (tVar i)) : PE X e (JE g Γ Wx (.v i)) := h.imp fun σ H Q ⟨τ, ex, ow, p⟩ => by
  obtain ⟨t, τ', e, p⟩ := post_lift2 (f := fun (t : T) τ1 => Out.ok (O.fz t) τ1) p
  obtain ⟨v, ev, gd, w⟩ := take_ref ow e
  exact ⟨v, ev, p v H ⟨gd, trivial, w⟩⟩
theorem JE_c {X : Cx} {e : Expr} {t : T} {v : V} (h : PE X e (tC v)) (r : ∀ H A, Rep g A H t v) : PE X e (JE g Γ Wx (.c t)) := h.imp fun σ H Q ⟨τ, ex, ow, p⟩ =>
  p v H ⟨ow.gd, trivial, (ow.w.put (r H))⟩
/-- rows of operands -/
theorem JL_nil {X : Cx} : PA X [] (JL g Γ Wx .nil) := pa_nil.imp fun σ H Q ⟨τ, ex, ow, p⟩ =>
  p [] H ow
theorem JL_cons {X : Cx} {e : Expr} {es : List Expr} {a r : E} (ha : PE X e (JO g Γ Wx a)) (hr : PA X es (JL g Γ Wx r)) (hs : starEach (e :: es) X.env = (false, eval e X.env) :: starEach es X.env) :
    PA X (e :: es) (JL g Γ Wx (.cons a r)) := (pa_cons ha hr hs).imp fun σ H Q ⟨τ, ex, ow, p⟩ => by
  have p : post g Wx σ ex ((opd a (evalE Γ a) τ).bind fun x τ1 => (evalL Γ r τ1).bind fun xs τ2 => .ok (x :: xs) τ2) _ := p
  refine stepO ow p fun x τ1 v H1 ow1 p1 => stepL ow1 p1 fun xs τ2 ws H2 ow2 p2 => ?_
  exact p2 (v :: ws) H2 ow2
end
end Iv
/-! Iv5: operations on read operands: the interpreter's by the hand layer's rules. -/
namespace Iv
open PySem L2

/-! ### trees as the library's data -/
mutual
def T.toD : T → PyData
  | .non => .none
  | .bl b => .bool b
  | .int i => .int i
  | .str s => .str ⟨s.toArray⟩
  | .tup xs => .tuple (T.toDs xs)
  | .lst xs => .list (T.toDs xs)
  | .dct _ _ => .dict []
  | .scr _ => .dict []
def T.toDs : List T → List PyData
  | [] => []
  | x :: r => T.toD x :: T.toDs r
end
theorem str_beq (a b : List Nat) : ((⟨a.toArray⟩ : Str) == ⟨b.toArray⟩) = (a == b) := by
  rw [Bool.eq_iff_iff]
  simp
mutual
theorem eqv_toD : ∀ (a b : T), (∀ n, T.plain n a = true → T.plain n b = true → True) → PyData.eqv a.toD b.toD = T.eqv a b
  | .non, b, _ => by cases b <;> simp [T.toD, PyData.eqv, T.eqv]
  | .bl x, b, _ => by cases b <;> simp [T.toD, PyData.eqv, T.eqv]
  | .int i, b, _ => by cases b <;> simp [T.toD, PyData.eqv, T.eqv]
  | .str s, b, _ => by
    cases b with
    | str u => simp only [T.toD, PyData.eqv, T.eqv]; exact str_beq s u
    | _ => simp [T.toD, PyData.eqv, T.eqv]
  | .tup xs, b, _ => by
    cases b with
    | tup ys => simp only [T.toD, PyData.eqv, T.eqv]; exact eqvs_toD xs ys
    | _ => simp [T.toD, PyData.eqv, T.eqv]
  | .lst xs, b, _ => by
    cases b with
    | lst ys => simp only [T.toD, PyData.eqv, T.eqv]; exact eqvs_toD xs ys
    | _ => simp [T.toD, PyData.eqv, T.eqv]
  | .dct _ _, b, _ => by cases b <;> simp [T.toD, PyData.eqv, T.eqv]
  | .scr _, b, _ => by cases b <;> simp [T.toD, PyData.eqv, T.eqv]
theorem eqvs_toD : ∀ (a b : List T), PyData.eqvAll (T.toDs a) (T.toDs b) = T.eqvs a b
  | [], b => by cases b <;> simp [T.toDs, PyData.eqvAll, T.eqvs]
  | x :: xs, b => by
    cases b with
    | nil => simp [T.toDs, PyData.eqvAll, T.eqvs]
    | cons y ys => simp only [T.toDs, PyData.eqvAll, T.eqvs]; rw [eqv_toD x y fun _ _ _ => trivial, eqvs_toD xs ys]
end
mutual
theorem plain_lay : ∀ (n : Nat) (t : T), T.plain n t = true → t.toD.canLay0 = true ∧ t.toD.depth ≤ n
  | _, .non, _ => ⟨rfl, Nat.zero_le _⟩
  | _, .bl _, _ => ⟨rfl, Nat.zero_le _⟩
  | _, .int _, _ => ⟨rfl, Nat.zero_le _⟩
  | n, .str s, h => by
    refine ⟨?_, Nat.zero_le _⟩
    have h' : (s.all fun c => c < 55296) = true := by cases n <;> exact h
    simp only [T.toD, PyData.canLay0]
    unfold PyData.strOk
    rw [← Array.all_toList, List.all_eq_true]
    intro c hc
    have := List.all_eq_true.mp h' c hc
    simp only [decide_eq_true_eq] at this ⊢
    omega
  | 0, .tup xs, h => by cases h
  | n + 1, .tup xs, h => by
    obtain ⟨h1, h2⟩ := plains_lay n xs h
    simp only [T.toD, PyData.canLay0, PyData.depth]
    exact ⟨h1, by omega⟩
  | 0, .lst xs, h => by cases h
  | n + 1, .lst xs, h => by
    obtain ⟨h1, h2⟩ := plains_lay n xs h
    simp only [T.toD, PyData.canLay0, PyData.depth]
    exact ⟨h1, by omega⟩
  | n, .dct _ _, h => by cases n <;> cases h
  | n, .scr _, h => by cases n <;> cases h
theorem plains_lay : ∀ (n : Nat) (ts : List T), T.plains n ts = true → PyData.canLayAll0 (T.toDs ts) = true ∧ PyData.depthAll (T.toDs ts) ≤ n
  | n, [], _ => ⟨rfl, Nat.zero_le _⟩
  | n, t :: ts, h => by
    have h' : (T.plain n t && T.plains n ts) = true := by cases n <;> exact h
    rw [Bool.and_eq_true] at h'
    obtain ⟨a1, a2⟩ := plain_lay n t h'.1
    obtain ⟨b1, b2⟩ := plains_lay n ts h'.2
    simp only [T.toDs, PyData.canLayAll0, PyData.depthAll, a1, b1, Bool.and_true]
    exact ⟨trivial, by omega⟩
end
theorem plain_shaped {t : T} (h : T.plain 60 t = true) : SeqAt.shaped t.toD = true := by
  obtain ⟨h1, h2⟩ := plain_lay 60 t h
  show (t.toD.canLay0 && decide (t.toD.depth ≤ 64)) = true
  rw [h1, decide_eq_true (by omega)]
  rfl

section
variable {g : Cfg} {A : Addr → Prop} {H : Hp}
theorem plain_tup {n : Nat} {xs : List T} (h : T.plain n (.tup xs) = true) : ∃ m, T.plains m xs = true := by
  cases n with
  | zero => cases h
  | succ n => exact ⟨n, h⟩
theorem plain_lst {n : Nat} {xs : List T} (h : T.plain n (.lst xs) = true) : ∃ m, T.plains m xs = true := by
  cases n with
  | zero => cases h
  | succ n => exact ⟨n, h⟩
mutual
theorem Rep.dp : ∀ (t : T) (v : V) (n : Nat), Rep g A H t v → T.plain n t = true → Dp g.K H v t.toD
  | .non, _, _, h, _ => by have e : _ = V.non := h; rw [e]; exact .non
  | .bl b, _, _, h, _ => by have e : _ = V.bl b := h; rw [e]; exact .bl b
  | .int i, _, _, h, _ => by have e : _ = V.int i := h; rw [e]; exact .int i
  | .str s, _, _, h, _ => by have e : _ = V.str ⟨s.toArray⟩ := h; rw [e]; exact .str _
  | .tup ts, _, _, ⟨a, vs, e, _, h, r⟩, p => by
    obtain ⟨m, p⟩ := plain_tup p
    rw [e]; exact .tup (SqT.of h) (Reps.dp ts vs m r p)
  | .lst ts, _, _, ⟨a, vs, e, _, h, r⟩, p => by
    obtain ⟨m, p⟩ := plain_lst p
    rw [e]; exact .lst (SqL.of h) (Reps.dp ts vs m r p)
  | .dct _ _, _, n, _, p => by cases n <;> cases p
  | .scr _, _, n, _, p => by cases n <;> cases p
theorem Reps.dp : ∀ (ts : List T) (vs : List V) (n : Nat), Reps g A H ts vs → T.plains n ts = true → DpAll g.K H vs (T.toDs ts)
  | [], _, _, h, _ => by have e : _ = [] := h; rw [e]; exact .nil
  | t :: ts, _, n, ⟨v, vs', e, h, r⟩, p => by
    have p' : (T.plain n t && T.plains n ts) = true := by cases n <;> exact p
    rw [Bool.and_eq_true] at p'
    rw [e]
    exact .cons (Rep.dp t v n h p'.1) (Reps.dp ts vs' n r p'.2)
end
theorem RdR.dp {t : T} {v : V} {n : Nat} (h : RdR g A H t v) (p : T.plain n t = true) : Dp g.K H v t.toD := by
  cases t with
  | lst ts =>
    obtain ⟨a, vs, e, h, r⟩ := h
    obtain ⟨m, p⟩ := plain_lst p
    rw [e]; exact .lst (SqL.of h) (r.dp _ _ m p)
  | dct _ _ => cases n <;> cases p
  | scr _ => cases n <;> cases p
  | _ => exact Rep.dp (A := A) _ _ n h p
theorem Reps.at : ∀ {ts : List T} {vs : List V} {j : Nat} {t : T}, Reps g A H ts vs → ts[j]? = some t → ∃ v, vs[j]? = some v ∧ Rep g A H t v
  | [], _, _, _, _, h => by simp at h
  | t :: ts, _, 0, u, ⟨v, vs', e, h, r⟩, q => by
    have e2 : t = u := by simpa using q
    subst e2
    exact ⟨v, by rw [e]; rfl, h⟩
  | t :: ts, _, j + 1, u, ⟨v, vs', e, h, r⟩, q => by
    obtain ⟨v', e2, h2⟩ := Reps.at (j := j) r (by simpa using q)
    exact ⟨v', by rw [e]; simpa using e2, h2⟩
theorem Reps.app : ∀ {ts us : List T} {vs ws : List V}, Reps g A H ts vs → Reps g A H us ws → Reps g A H (ts ++ us) (vs ++ ws)
  | [], _, _, _, h, q => by
    have e : _ = [] := h
    rw [e]; exact q
  | t :: ts, _, _, _, ⟨v, vs', e, h, r⟩, q => by
    rw [e]
    exact ⟨v, vs' ++ _, rfl, h, Reps.app r q⟩
theorem Reps.drop : ∀ {ts : List T} {vs : List V} (n : Nat), Reps g A H ts vs → Reps g A H (ts.drop n) (vs.drop n)
  | _, _, 0, h => h
  | [], _, n + 1, h => by
    have e : _ = [] := h
    rw [e]; exact rfl
  | t :: ts, _, n + 1, ⟨v, vs', e, h, r⟩ => by
    rw [e]
    exact Reps.drop n r
theorem Reps.take : ∀ {ts : List T} {vs : List V} (n : Nat), Reps g A H ts vs → Reps g A H (ts.take n) (vs.take n)
  | ts, _, 0, h => by rw [List.take_zero, List.take_zero]; exact rfl
  | [], _, n + 1, h => by
    have e : _ = [] := h
    rw [e]; exact rfl
  | t :: ts, _, n + 1, ⟨v, vs', e, h, r⟩ => by
    rw [e]
    exact ⟨v, vs'.take n, rfl, h, Reps.take n r⟩
theorem Reps.rep {ts : List T} {vs : List V} (h : Reps g A H ts vs) : ∀ k : Nat, Reps g A H (List.replicate k ts).flatten (List.replicate k vs).flatten
  | 0 => rfl
  | k + 1 => by
    rw [List.replicate_succ, List.replicate_succ, List.flatten_cons, List.flatten_cons]
    exact h.app (Reps.rep h k)
theorem Reps.intsV : ∀ {ts : List T} {vs : List V} {ns : List Int}, Reps g A H ts vs → T.ints ts = some ns → vs = ns.map V.int
  | [], _, ns, h, q => by
    have e : _ = [] := h
    have e2 : [] = ns := Option.some.inj q
    rw [e, ← e2]; rfl
  | .int i :: ts, _, ns, ⟨v, vs', e, h, r⟩, q => by
    simp only [T.ints] at q
    cases h2 : T.ints ts with
    | none => rw [h2] at q; cases q
    | some ms =>
      rw [h2] at q
      have e2 : i :: ms = ns := Option.some.inj q
      have e3 : v = V.int i := h
      rw [e, ← e2, e3, Reps.intsV r h2]; rfl
  | .non :: _, _, _, _, q => by cases q
  | .bl _ :: _, _, _, _, q => by cases q
  | .str _ :: _, _, _, _, q => by cases q
  | .tup _ :: _, _, _, _, q => by cases q
  | .lst _ :: _, _, _, _, q => by cases q
  | .dct _ _ :: _, _, _, _, q => by cases q
  | .scr _ :: _, _, _, _, q => by cases q
theorem Reps.blsV : ∀ {ts : List T} {vs : List V} {ns : List Bool}, Reps g A H ts vs → T.bls ts = some ns → vs = ns.map V.bl
  | [], _, ns, h, q => by
    have e : _ = [] := h
    have e2 : [] = ns := Option.some.inj q
    rw [e, ← e2]; rfl
  | .bl i :: ts, _, ns, ⟨v, vs', e, h, r⟩, q => by
    simp only [T.bls] at q
    cases h2 : T.bls ts with
    | none => rw [h2] at q; cases q
    | some ms =>
      rw [h2] at q
      have e2 : i :: ms = ns := Option.some.inj q
      have e3 : v = V.bl i := h
      rw [e, ← e2, e3, Reps.blsV r h2]; rfl
  | .non :: _, _, _, _, q => by cases q
  | .int _ :: _, _, _, _, q => by cases q
  | .str _ :: _, _, _, _, q => by cases q
  | .tup _ :: _, _, _, _, q => by cases q
  | .lst _ :: _, _, _, _, q => by cases q
  | .dct _ _ :: _, _, _, _, q => by cases q
  | .scr _ :: _, _, _, _, q => by cases q
theorem place_eq (n : Nat) (i : Int) : place n i = ixN n i := rfl
theorem bound_eq (n d : Nat) (o : Option Int) : bound n d o = HT.sIx n d o := by
  cases o with
  | none => rfl
  | some i => rfl
theorem cut_eq (xs : List V) (lo hi : Option Int) : cut xs lo hi = cutV xs lo hi := by
  unfold cut cutV
  rw [bound_eq, bound_eq]
theorem Reps.cut {ts : List T} {vs : List V} (lo hi : Option Int) (h : Reps g A H ts vs) : Reps g A H (Iv.cut ts lo hi) (cutV vs lo hi) := by
  rw [← cut_eq]
  unfold Iv.cut
  rw [h.length]
  exact (h.drop _).take _
end

/-! ### a result beside the slots -/
section
variable {g : Cfg} {A : Addr → Prop} {H : Hp} {cs : List Cell} {Q : VK}
abbrev Res (g : Cfg) (cs : List Cell) (q : O) (Q : VK) : Prop := ∀ u H', W g H' (.c u q :: cs) → Q u H'
theorem res_int {i : Int} (w : WA g H A cs) (k : Res g cs (.fz (.int i)) Q) : Q (.int i) H := k _ _ (w.w.put fun _ => rfl)
theorem res_bl {b : Bool} (w : WA g H A cs) (k : Res g cs (.fz (.bl b)) Q) : Q (.bl b) H := k _ _ (w.w.put fun _ => rfl)
theorem res_str {s : List Nat} (w : WA g H A cs) (k : Res g cs (.fz (.str s)) Q) : Q (.str ⟨s.toArray⟩) H := k _ _ (w.w.put fun _ => rfl)
theorem res_rep {t : T} {v : V} (w : WA g H A cs) (r : Rep g A H t v) (k : Res g cs (.fz t) Q) : Q v H := k _ _ (w.put r)
theorem res_tup {ts : List T} {vs : List V} (w : WA g H A cs) (r : Reps g A H ts vs) (k : Res g cs (.fz (.tup ts)) Q) : ∀ p, H p = none → Q (.ref p) (upd H p (.tup vs)) := fun p hp =>
  k _ _ ((w.puts r).tup r.length hp)
theorem res_lst {ts : List T} {vs : List V} (w : WA g H A cs) (r : Reps g A H ts vs) (k : Res g cs (fzs ts) Q) : ∀ p, H p = none → Q (.ref p) (upd H p (.lst vs)) := fun p hp =>
  k _ _ (W.list (os := ts.map .fz) (by rw [zipO_fz]; exact w.puts r) (by rw [List.length_map]; exact r.length) hp)
end

/-- what a rule of the hand layer owes the interpreter: two operands -/
def Bin2 (g : Cfg) (r : R2) (f : T → T → Option O) : Prop :=
  ∀ (s t : T) (q : O) (v w : V) (H : Hp) (A : Addr → Prop) (cs : List Cell) (Q : VK), f s t = some q → RdR g A H s v → RdR g A H t w → WA g H A cs → Res g cs q Q → r v w H Q
theorem Bin2.l {g : Cfg} {r r' : R2} {f : T → T → Option O} (h : Bin2 g r f) : Bin2 g (fun x y H Q => r x y H Q ∨ r' x y H Q) f := fun s t q v w H A cs Q e rv rw' wa k => .inl (h s t q v w H A cs Q e rv rw' wa k)

section
variable {g : Cfg}
def rAddI : R2 := rI0 fun i j => .int (i + j)
def rAddT : R2 := fun x y H Q => ∃ i j, x = .str i ∧ y = .str j ∧ i.length + j.length ≤ sizeLine ∧ Q (.str (i ++ j)) H
def rAddAll (K : PySem.W.Frag) : R2 := fun x y H Q => rAddI x y H Q ∨ rAddT x y H Q ∨ rCatA K x y H Q ∨ rCat x y H Q
theorem op_addAll {X : Cx} : OpR X (binaryOp .Add) (rAddAll X.K) := op_add.or (op_add_str.or (op_catA.or op_cat))
theorem size_eq : sizeT = sizeLine := by rw [sizeLine_eq]; rfl
theorem if_some {α : Type} {c : Prop} [Decidable c] {a b : α} (h : (if c then some a else none) = some b) : c ∧ a = b := by
  split at h
  · rename_i hc
    exact ⟨hc, Option.some.inj h⟩
  · cases h
theorem str_app (a b : List Nat) : (⟨a.toArray⟩ : Str) ++ (⟨b.toArray⟩ : Str) = ⟨(a ++ b).toArray⟩ := by
  show Str.mk (a.toArray ++ b.toArray) = _
  rw [List.append_toArray]
theorem str_len (a : List Nat) : (⟨a.toArray⟩ : Str).length = a.length := by
  show a.toArray.size = _
  simp
theorem bin_add : Bin2 g (rAddAll g.K) (bin .add) := by
  intro s t q v w H A cs Q e rv rw' wa k
  cases s with
  | int i =>
    cases t with
    | int j =>
      have e2 : O.fz (.int (i + j)) = q := Option.some.inj e
      subst e2
      exact .inl ⟨i, j, rv, rw', res_int wa k⟩
    | _ => cases e
  | str a =>
    cases t with
    | str b =>
      obtain ⟨hl, e2⟩ := if_some e
      subst e2
      refine .inr (.inl ⟨_, _, rv, rw', ?_, ?_⟩)
      · rw [str_len, str_len, ← size_eq]; exact hl
      · rw [str_app]; exact res_str wa k
    | _ => cases e
  | tup xs =>
    cases t with
    | tup ys =>
      obtain ⟨hl, e2⟩ := if_some e
      subst e2
      have rv0 := rv
      have rw0 := rw'
      obtain ⟨a, vs, e1, n1, h1, r1⟩ := rv
      obtain ⟨b, ws, e3, n3, h3, r3⟩ := rw'
      have l1 := r1.length
      have l3 := r3.length
      refine .inr (.inr (.inl ⟨a, b, vs, ws, e1, e3, SqT.of h1, SqT.of h3, by rw [l1, l3, ← size_eq]; exact hl, fun z => ?_, fun z z2 => ?_, fun z z2 => ?_⟩))
      · subst z
        have e4 : xs = [] := List.length_eq_zero_iff.mp l1.symm
        subst e4
        rw [← e3]
        exact res_rep wa rw0 k
      · subst z2
        have e4 : ys = [] := List.length_eq_zero_iff.mp l3.symm
        subst e4
        rw [← e1]
        rw [List.append_nil] at k
        exact res_rep wa rv0 k
      · exact res_tup wa (r1.app r3) k
    | _ => cases e
  | lst xs =>
    cases t with
    | lst ys =>
      obtain ⟨hl, e2⟩ := if_some e
      subst e2
      obtain ⟨a, vs, e1, h1, r1⟩ := rv
      obtain ⟨b, ws, e3, h3, r3⟩ := rw'
      exact .inr (.inr (.inr ⟨a, b, vs, ws, e1, e3, h1, h3, by rw [r1.length, r3.length, ← size_eq]; exact hl, res_lst wa (r1.app r3) k⟩))
    | _ => cases e
  | _ => cases t <;> cases e
end
end Iv
/-! Iv6: more operations on read operands. -/
namespace Iv
open PySem L2
section
variable {g : Cfg}

/-! ### ints -/
theorem bin_sub : Bin2 g (rI0 fun i j => .int (i - j)) (bin .sub) := by
  intro s t q v w H A cs Q e rv rw' wa k
  cases s with
  | int i =>
    cases t with
    | int j =>
      have e2 : O.fz (.int (i - j)) = q := Option.some.inj e
      subst e2
      exact ⟨i, j, rv, rw', res_int wa k⟩
    | _ => cases e
  | _ => cases t <;> cases e
def rMulAll : R2 := fun x y H Q => rI CMulW (fun i j => .int (i * j)) x y H Q ∨ rRep x y H Q
theorem op_mulAll {X : Cx} : OpR X (binaryOp .Mult) rMulAll := op_mulW.or op_rep
theorem and3 {a b c : Bool} (h : (a && b && c) = true) : a = true ∧ b = true ∧ c = true := by
  rw [Bool.and_eq_true, Bool.and_eq_true] at h
  exact ⟨h.1.1, h.1.2, h.2⟩
theorem and2 {a b : Bool} (h : (a && b) = true) : a = true ∧ b = true := by
  rw [Bool.and_eq_true] at h
  exact h
theorem mulOk_w {i j : Int} (h : mulOk i j = true) : CMulW i j := of_decide_eq_true (p := i.natAbs.log2 + j.natAbs.log2 < 1000000) h
theorem bin_mul : Bin2 g rMulAll (bin .mul) := by
  intro s t q v w H A cs Q e rv rw' wa k
  cases s with
  | int i =>
    cases t with
    | int j =>
      obtain ⟨hc, e2⟩ := if_some (show (if mulOk i j then some (O.fz (.int (i * j))) else none) = some q from e)
      subst e2
      exact .inl ⟨i, j, rv, rw', mulOk_w hc, res_int wa k⟩
    | _ => cases e
  | lst xs =>
    cases t with
    | int j =>
      obtain ⟨hc, e2⟩ := if_some (show (if (decide (-(2 ^ 63) ≤ j) && decide (j < 2 ^ 63) && decide (xs.length * j.toNat ≤ sizeT)) = true then some (fzs (List.replicate j.toNat xs).flatten) else none) = some q from e)
      subst e2
      obtain ⟨h1, h2, h3⟩ := and3 hc
      obtain ⟨a, vs, e1, ha, r⟩ := rv
      refine .inr ⟨a, j, vs, e1, rw', ha, of_decide_eq_true h1, of_decide_eq_true h2, ?_, ?_⟩
      · rw [r.length, ← size_eq]; exact of_decide_eq_true h3
      · exact res_lst wa (r.rep j.toNat) k
    | _ => cases e
  | _ => cases t <;> cases e
theorem bin_fdiv : Bin2 g (rI CDiv fun i j => .int (i / j)) (bin .fdiv) := by
  intro s t q v w H A cs Q e rv rw' wa k
  cases s with
  | int i =>
    cases t with
    | int j =>
      obtain ⟨hc, e2⟩ := if_some (show (if (decide (0 < j) && decide (j < 1073741824)) = true then some (O.fz (.int (i / j))) else none) = some q from e)
      subst e2
      obtain ⟨h1, h2⟩ := and2 hc
      exact ⟨i, j, rv, rw', ⟨of_decide_eq_true h1, of_decide_eq_true h2⟩, res_int wa k⟩
    | _ => cases e
  | _ => cases t <;> cases e
theorem bin_mod : Bin2 g (rI (fun _ j => 0 < j) fun i j => .int (i % j)) (bin .mod) := by
  intro s t q v w H A cs Q e rv rw' wa k
  cases s with
  | int i =>
    cases t with
    | int j =>
      obtain ⟨hc, e2⟩ := if_some (show (if 0 < j then some (O.fz (.int (i % j))) else none) = some q from e)
      subst e2
      exact ⟨i, j, rv, rw', hc, res_int wa k⟩
    | _ => cases e
  | _ => cases t <;> cases e
theorem bin_pow : Bin2 g (rI CPow fun i j => .int (i ^ j.toNat)) (bin .pow) := by
  intro s t q v w H A cs Q e rv rw' wa k
  cases s with
  | int i =>
    cases t with
    | int j =>
      obtain ⟨hc, e2⟩ := if_some (show (if (decide (0 ≤ j) && decide (j ≤ 1000000) && decide (i.natAbs < 2 ^ 64)) = true then some (O.fz (.int (i ^ j.toNat))) else none) = some q from e)
      subst e2
      obtain ⟨h1, h2, h3⟩ := and3 hc
      exact ⟨i, j, rv, rw', ⟨of_decide_eq_true h1, of_decide_eq_true h2, of_decide_eq_true h3⟩, res_int wa k⟩
    | _ => cases e
  | _ => cases t <;> cases e

/-! ### comparisons -/
/-- .. of two operands, with a truth value -/
def Cmp2 (g : Cfg) (r : R2) (f : T → T → Option Bool) : Prop := Bin2 g r fun s t => (f s t).map fun b => .fz (.bl b)
theorem flat_rd {A : Addr → Prop} {H : Hp} {t : T} {v : V} (h : RdR g A H t v) (f : t.flat = true) : (t = .non ∧ v = .non) ∨ (∃ b, t = .bl b ∧ v = .bl b) ∨ (∃ i, t = .int i ∧ v = .int i) ∨ ∃ s, t = .str s ∧ v = .str ⟨s.toArray⟩ := by
  cases t with
  | non => exact .inl ⟨rfl, h⟩
  | bl b => exact .inr (.inl ⟨b, rfl, h⟩)
  | int i => exact .inr (.inr (.inl ⟨i, rfl, h⟩))
  | str s => exact .inr (.inr (.inr ⟨s, rfl, h⟩))
  | _ => cases f
def rEqAll (K : PySem.W.Frag) : R2 := fun x y H Q => rEq x y H Q ∨ rEqD K x y H Q
def rNeAll (K : PySem.W.Frag) : R2 := fun x y H Q => rNe x y H Q ∨ rNeD K x y H Q
theorem op_eqAll {X : Cx} (hu : X.A.units + 64 < cLine) : OpR X (compareOp .Eq) (rEqAll X.K) := op_eq.or (op_eqD hu)
theorem op_neAll {X : Cx} (hu : X.A.units + 64 < cLine) : OpR X (compareOp .NotEq) (rNeAll X.K) := op_ne.or (op_neD hu)
theorem str_dec (a b : List Nat) : decide ((V.str ⟨a.toArray⟩ : V) = V.str ⟨b.toArray⟩) = (a == b) := by
  rw [Bool.eq_iff_iff]
  simp
theorem dec_beq {a b : V} {c : Bool} (h : a = b ↔ c = true) : decide (a = b) = c := by
  rw [Bool.eq_iff_iff, decide_eq_true_eq]
  exact h
theorem eq_flat {s t : T} {v w : V} {A : Addr → Prop} {H : Hp} (rv : RdR g A H s v) (rw' : RdR g A H t w) (h : T.simple s t = true) :
    scal v w = true ∧ decide (v = w) = T.eqv s t := by
  cases s with
  | non =>
    have e1 : v = .non := rv
    subst e1
    cases t with
    | non => have e2 : w = .non := rw'; subst e2; exact ⟨rfl, rfl⟩
    | bl b => have e2 : w = .bl b := rw'; subst e2; exact ⟨rfl, dec_beq (by simp [T.eqv])⟩
    | int b => have e2 : w = .int b := rw'; subst e2; exact ⟨rfl, dec_beq (by simp [T.eqv])⟩
    | str b => have e2 : w = .str ⟨b.toArray⟩ := rw'; subst e2; exact ⟨rfl, dec_beq (by simp [T.eqv])⟩
    | _ => cases h
  | bl a =>
    have e1 : v = .bl a := rv
    subst e1
    cases t with
    | non => have e2 : w = .non := rw'; subst e2; exact ⟨rfl, dec_beq (by simp [T.eqv])⟩
    | bl b => have e2 : w = .bl b := rw'; subst e2; exact ⟨rfl, dec_beq (by simp [T.eqv])⟩
    | str b => have e2 : w = .str ⟨b.toArray⟩ := rw'; subst e2; exact ⟨rfl, dec_beq (by simp [T.eqv])⟩
    | _ => cases h
  | int a =>
    have e1 : v = .int a := rv
    subst e1
    cases t with
    | non => have e2 : w = .non := rw'; subst e2; exact ⟨rfl, dec_beq (by simp [T.eqv])⟩
    | int b => have e2 : w = .int b := rw'; subst e2; exact ⟨rfl, dec_beq (by simp [T.eqv])⟩
    | str b => have e2 : w = .str ⟨b.toArray⟩ := rw'; subst e2; exact ⟨rfl, dec_beq (by simp [T.eqv])⟩
    | _ => cases h
  | str a =>
    have e1 : v = .str ⟨a.toArray⟩ := rv
    subst e1
    cases t with
    | non => have e2 : w = .non := rw'; subst e2; exact ⟨rfl, dec_beq (by simp [T.eqv])⟩
    | bl b => have e2 : w = .bl b := rw'; subst e2; exact ⟨rfl, dec_beq (by simp [T.eqv])⟩
    | int b => have e2 : w = .int b := rw'; subst e2; exact ⟨rfl, dec_beq (by simp [T.eqv])⟩
    | str b => have e2 : w = .str ⟨b.toArray⟩ := rw'; subst e2; exact ⟨rfl, str_dec a b⟩
    | _ => cases h
  | _ => cases h
theorem cmp_eq : Cmp2 g (rEqAll g.K) (cmpT .eq) := by
  intro s t q v w H A cs Q e rv rw' wa k
  simp only [cmpT] at e
  split at e
  · rename_i hc
    have e2 : O.fz (.bl (T.eqv s t)) = q := Option.some.inj e
    subst e2
    rw [Bool.or_eq_true] at hc
    rcases hc with hc | hc
    · obtain ⟨h1, h2⟩ := eq_flat rv rw' hc
      exact .inl ⟨h1, by rw [h2]; exact res_bl wa k⟩
    · obtain ⟨h1, h2⟩ := and2 hc
      exact .inr ⟨_, _, rv.dp h1, rw'.dp h2, plain_shaped h1, plain_shaped h2, by rw [eqv_toD s t fun _ _ _ => trivial]; exact res_bl wa k⟩
  · cases e
theorem cmp_ne : Cmp2 g (rNeAll g.K) (cmpT .ne) := by
  intro s t q v w H A cs Q e rv rw' wa k
  simp only [cmpT] at e
  split at e
  · rename_i hc
    have e2 : O.fz (.bl (!T.eqv s t)) = q := Option.some.inj e
    subst e2
    rw [Bool.or_eq_true] at hc
    rcases hc with hc | hc
    · obtain ⟨h1, h2⟩ := eq_flat rv rw' hc
      exact .inl ⟨h1, by rw [h2]; exact res_bl wa k⟩
    · obtain ⟨h1, h2⟩ := and2 hc
      exact .inr ⟨_, _, rv.dp h1, rw'.dp h2, plain_shaped h1, plain_shaped h2, by rw [eqv_toD s t fun _ _ _ => trivial]; exact res_bl wa k⟩
  · cases e
theorem cmp_int {o : COp} {p : Int → Int → Bool} (hp : ∀ s t q, (cmpT o s t).map (fun b => O.fz (.bl b)) = some q → ∃ i j, s = .int i ∧ t = .int j ∧ q = .fz (.bl (p i j))) : Cmp2 g (rI0 fun i j => .bl (p i j)) (cmpT o) := by
  intro s t q v w H A cs Q e rv rw' wa k
  obtain ⟨i, j, rfl, rfl, rfl⟩ := hp s t q e
  exact ⟨i, j, rv, rw', res_bl wa k⟩
theorem cmp_lt : Cmp2 g (rI0 fun i j => .bl (decide (i < j))) (cmpT .lt) := cmp_int fun s t q e => by
  cases s <;> cases t <;> first | exact ⟨_, _, rfl, rfl, (Option.some.inj e).symm⟩ | cases e
theorem cmp_le : Cmp2 g (rI0 fun i j => .bl (decide (i ≤ j))) (cmpT .le) := cmp_int fun s t q e => by
  cases s <;> cases t <;> first | exact ⟨_, _, rfl, rfl, (Option.some.inj e).symm⟩ | cases e
theorem cmp_gt : Cmp2 g (rI0 fun i j => .bl (decide (j < i))) (cmpT .gt) := cmp_int fun s t q e => by
  cases s <;> cases t <;> first | exact ⟨_, _, rfl, rfl, (Option.some.inj e).symm⟩ | cases e
theorem cmp_ge : Cmp2 g (rI0 fun i j => .bl (decide (j ≤ i))) (cmpT .ge) := cmp_int fun s t q e => by
  cases s <;> cases t <;> first | exact ⟨_, _, rfl, rfl, (Option.some.inj e).symm⟩ | cases e

/-! ### in -/
theorem flat_V {A : Addr → Prop} {H : Hp} {t : T} {v : V} (h : RdR g A H t v) (f : t.flat = true) : flatV v = true := by
  rcases flat_rd h f with ⟨rfl, rfl⟩ | ⟨b, rfl, rfl⟩ | ⟨i, rfl, rfl⟩ | ⟨x, rfl, rfl⟩ <;> rfl
theorem eqV_flat {A : Addr → Prop} {H : Hp} {s t : T} {v w : V} (rv : RdR g A H s v) (rw' : RdR g A H t w) (h1 : s.flat = true) (h2 : t.flat = true) : eqV v w = T.eqv s t := by
  rcases flat_rd rv h1 with ⟨rfl, rfl⟩ | ⟨b, rfl, rfl⟩ | ⟨i, rfl, rfl⟩ | ⟨x, rfl, rfl⟩ <;> rcases flat_rd rw' h2 with ⟨rfl, rfl⟩ | ⟨c, rfl, rfl⟩ | ⟨j, rfl, rfl⟩ | ⟨y, rfl, rfl⟩ <;>
    first
    | rfl
    | exact str_beq _ _
theorem flats_V {A : Addr → Prop} {H : Hp} : ∀ {ts : List T} {vs : List V}, Reps g A H ts vs → ts.all T.flat = true → vs.all flatV = true
  | [], _, h, _ => by
    have e : _ = [] := h
    rw [e]; rfl
  | t :: ts, _, ⟨v, vs', e, h, r⟩, f => by
    rw [List.all_cons, Bool.and_eq_true] at f
    rw [e, List.all_cons, flat_V h.rd f.1, flats_V r f.2]; rfl
theorem inV_flat {A : Addr → Prop} {H : Hp} {x : T} {v : V} (rx : RdR g A H x v) (fx : x.flat = true) : ∀ {ts : List T} {vs : List V}, Reps g A H ts vs → ts.all T.flat = true → (vs.any fun y => eqV y v) = ts.any fun z => T.eqv z x
  | [], _, h, _ => by
    have e : _ = [] := h
    rw [e]; rfl
  | t :: ts, _, ⟨w, vs', e, h, r⟩, f => by
    rw [List.all_cons, Bool.and_eq_true] at f
    rw [e, List.any_cons, List.any_cons, eqV_flat h.rd rx f.1 fx, inV_flat rx fx r f.2]
theorem any_toD (x : T) : ∀ ys : List T, ((T.toDs ys).any fun z => PyData.eqv z x.toD) = ys.any fun z => T.eqv z x
  | [] => rfl
  | y :: ys => by
    show (PyData.eqv y.toD x.toD || (T.toDs ys).any fun z => PyData.eqv z x.toD) = _
    rw [eqv_toD y x fun _ _ _ => trivial, any_toD x ys]; rfl
/-- keys -/
theorem key1_V {A : Addr → Prop} {H : Hp} {t : T} {v : V} (h : RdR g A H t v) (f : t.key1 = true) : ∃ k, KeyR t k ∧ v = kV k := by
  cases t with
  | int i => exact ⟨.inl i, rfl, h⟩
  | str s => exact ⟨.inr ⟨s.toArray⟩, rfl, h⟩
  | _ => cases f
theorem KeyR.eq {t u : T} {a b : Key} (h : KeyR t a) (q : KeyR u b) : decide (a = b) = T.eqv t u := by
  cases t with
  | int i =>
    have e : a = .inl i := h
    subst e
    cases u with
    | int j => have e : b = .inl j := q; subst e; rw [key_ll]; rfl
    | str j => have e : b = .inr ⟨j.toArray⟩ := q; subst e; rw [key_lr]; rfl
    | _ => exact q.elim
  | str i =>
    have e : a = .inr ⟨i.toArray⟩ := h
    subst e
    cases u with
    | int j => have e : b = .inl j := q; subst e; rw [key_rl]; rfl
    | str j => have e : b = .inr ⟨j.toArray⟩ := q; subst e; rw [key_rr]; exact (by simp only [T.eqv]; rw [← str_beq]; exact (Bool.beq_eq_decide_eq _ _).symm)
    | _ => exact q.elim
  | _ => exact h.elim
theorem KeyRs.eq : ∀ {ts us : List T} {as bs : List Key}, All2 KeyR ts as → All2 KeyR us bs → decide (as = bs) = T.eqvs ts us
  | [], [], _, _, .nil, .nil => rfl
  | [], _ :: _, _, _, .nil, .cons _ _ => rfl
  | _ :: _, [], _, _, .cons _ _, .nil => rfl
  | t :: ts, u :: us, a :: as, b :: bs, .cons h1 h2, .cons q1 q2 => by
    have e1 := h1.eq q1
    have e2 := KeyRs.eq h2 q2
    show decide (a :: as = b :: bs) = (T.eqv t u && T.eqvs ts us)
    rw [← e1, ← e2, ← Bool.decide_and]
    congr 1
    exact propext ⟨fun z => List.cons.inj z, fun z => by rw [z.1, z.2]⟩
theorem KeyT.eq {t u : T} {a b : List Key} (h : KeyT t a) (q : KeyT u b) : decide (a = b) = T.eqv t u := by
  cases t with
  | tup ts =>
    cases u with
    | tup us =>
      simp only [T.eqv]
      exact KeyRs.eq h q
    | _ => exact q.elim
  | _ => exact h.elim
theorem keys_V {A : Addr → Prop} {H : Hp} : ∀ {ts : List T} {vs : List V}, Reps g A H ts vs → ts.all T.key1 = true → ∃ ks, All2 KeyR ts ks ∧ vs = ks.map kV
  | [], _, h, _ => by
    have e : _ = [] := h
    exact ⟨[], .nil, e⟩
  | t :: ts, _, ⟨v, vs', e, h, r⟩, f => by
    rw [List.all_cons, Bool.and_eq_true] at f
    obtain ⟨k, k1, k2⟩ := key1_V h.rd f.1
    obtain ⟨ks, k3, k4⟩ := keys_V r f.2
    exact ⟨k :: ks, .cons k1 k3, by rw [e, k2, k4]; rfl⟩
theorem key2_V {A : Addr → Prop} {H : Hp} {t : T} {v : V} (h : RdR g A H t v) (f : t.key2 = true) : ∃ k b, KeyT t k ∧ v = .ref b ∧ H b = some (.tup (k.map kV)) := by
  cases t with
  | tup ts =>
    obtain ⟨a, vs, e, _, ha, r⟩ := h
    obtain ⟨ks, k1, k2⟩ := keys_V r f
    exact ⟨ks, a, k1, e, by rw [ha, k2]⟩
  | _ => cases f
/-- what a dict holds at a key -/
theorem find_key {κ : Type} [DecidableEq κ] {R : T → κ → Prop} (hR : ∀ {t u a b}, R t a → R u b → decide (a = b) = T.eqv t u) {k : κ} {x : T} (hk : R x k) {A : Addr → Prop} {H : Hp} :
    ∀ {kts : List (T × T)} {ks : List κ} {vs : List V}, All2 R (kts.map (·.1)) ks → Repd g A H kts vs →
      (lookT kts x = none ∧ valV (ks.zip vs) k = none) ∨ ∃ t v, lookT kts x = some t ∧ valV (ks.zip vs) k = some v ∧ Rep g A H t v
  | [], _, _, .nil, h => .inl ⟨rfl, rfl⟩
  | (t, u) :: kts, _, _, .cons h1 h2, ⟨v, vs', e, h, r⟩ => by
    rename_i a as
    subst e
    have q := hR h1 hk
    by_cases c : a = k
    · refine .inr ⟨u, v, ?_, ?_, h⟩
      · rw [decide_eq_true c] at q
        unfold lookT
        rw [List.find?_cons, ← q]; rfl
      · rw [List.zip_cons_cons]; exact valV_pos c
    · rw [decide_eq_false c] at q
      have e1 : lookT ((t, u) :: kts) x = lookT kts x := by
        unfold lookT
        rw [List.find?_cons, ← q]
      have e2 : valV ((a :: as).zip (v :: vs')) k = valV (as.zip vs') k := by rw [List.zip_cons_cons]; exact valV_neg c
      rw [e1, e2]
      exact find_key hR hk h2 r
end
end Iv
/-! Iv7: in, subscripts, slices, built-in functions. -/
namespace Iv
open PySem L2 PySem.Spec PyProof.Rows
section
variable {g : Cfg}
/-! ### in -/
def rDIn : R2 := fun y x H Q => ∃ a o, x = .ref a ∧ DGet H a y o ∧ Q (.bl o.isSome) H
def rDNotIn : R2 := fun y x H Q => ∃ a o, x = .ref a ∧ DGet H a y o ∧ Q (.bl (!o.isSome)) H
theorem op_dIn {X : Cx} (hu : X.A.units + 64 < cLine) : OpR X (compareOp .In) rDIn := by
  intro pins s σ H x y v u Q I rx ry h
  obtain ⟨a, o, rfl, d, q⟩ := h
  cases ry
  exact d_in (by omega) I d rx fun s' I' => ⟨.bl o.isSome, H, I', rfl, q⟩
theorem op_dNotIn {X : Cx} (hu : X.A.units + 64 < cLine) : OpR X (compareOp .NotIn) rDNotIn := by
  intro pins s σ H x y v u Q I rx ry h
  obtain ⟨a, o, rfl, d, q⟩ := h
  cases ry
  exact d_notIn (by omega) I d rx fun s' I' => ⟨.bl (!o.isSome), H, I', rfl, q⟩
def rInAll (K : PySem.W.Frag) : R2 := fun x y H Q => rIn K false x y H Q ∨ rInD K x y H Q ∨ rInS x y H Q ∨ rDIn x y H Q
def rNotInAll (K : PySem.W.Frag) : R2 := fun x y H Q => rIn K true x y H Q ∨ rNotInD K x y H Q ∨ rNotInS x y H Q ∨ rDNotIn x y H Q
theorem op_inAll {X : Cx} (hu : X.A.units + 65 < cLine) : OpR X (compareOp .In) (rInAll X.K) := op_in_seq.or ((op_inD hu).or (op_inS.or (op_dIn (by omega))))
theorem op_notInAll {X : Cx} (hu : X.A.units + 65 < cLine) : OpR X (compareOp .NotIn) (rNotInAll X.K) := op_notIn_seq.or ((op_notInD hu).or (op_notInS.or (op_dNotIn (by omega))))
theorem dget_of {A : Addr → Prop} {H : Hp} {tk : Bool} {kts : List (T × T)} {k : T} {x y : V} (hd : RdR g A H (.dct tk kts) x) (hk : RdR g A H k y) (ok : T.keyOf tk k = true) :
    ∃ a, x = .ref a ∧ ((lookT kts k = none ∧ DGet H a y none) ∨ ∃ t v, lookT kts k = some t ∧ DGet H a y (some v) ∧ Rep g A H t v) := by
  obtain ⟨a, vs, rfl, h, r⟩ := hd
  refine ⟨a, rfl, ?_⟩
  cases tk with
  | false =>
    obtain ⟨ks, ha, q, _⟩ := h
    obtain ⟨kk, k1, rfl⟩ := key1_V hk ok
    rcases find_key (R := KeyR) KeyR.eq k1 q r with ⟨e1, e2⟩ | ⟨t, v, e1, e2, e3⟩
    · exact .inl ⟨e1, by rw [← e2]; exact DGet.k ha⟩
    · exact .inr ⟨t, v, e1, by rw [← e2]; exact DGet.k ha, e3⟩
  | true =>
    obtain ⟨ks, ha, q, _⟩ := h
    obtain ⟨kk, b, k1, rfl, hb⟩ := key2_V hk ok
    rcases find_key (R := KeyT) KeyT.eq k1 q r with ⟨e1, e2⟩ | ⟨t, v, e1, e2, e3⟩
    · exact .inl ⟨e1, by rw [← e2]; exact DGet.t ha hb⟩
    · exact .inr ⟨t, v, e1, by rw [← e2]; exact DGet.t ha hb, e3⟩
theorem contains_eq (c : Nat) (s : List Nat) : decide (c ∈ (⟨s.toArray⟩ : Str).cps.toList) = s.contains c := by
  rw [Bool.eq_iff_iff]
  simp
theorem in_all (b : Bool) (f : Bool → Bool) (hf : f = if b then (fun x => !x) else id) {r : R2} (h1 : ∀ x y H Q, rIn g.K b x y H Q → r x y H Q) (h2 : ∀ x y H Q, (if b then rNotInD g.K x y H Q else rInD g.K x y H Q) → r x y H Q)
    (h3 : ∀ x y H Q, (if b then rNotInS x y H Q else rInS x y H Q) → r x y H Q) (h4 : ∀ x y H Q, (if b then rDNotIn x y H Q else rDIn x y H Q) → r x y H Q) : Cmp2 g r fun s t => (isin s t).map f := by
  intro s t q v w H A cs Q e rv rw' wa k
  dsimp only at e
  cases hi : isin s t with
  | none => rw [hi] at e; cases e
  | some z =>
    rw [hi] at e
    have e2 : O.fz (.bl (f z)) = q := Option.some.inj e
    subst e2
    have k' := res_bl wa k
  
    have flat : ∀ {ys : List T} {vs : List V} {p : Addr}, w = .ref p → (SqL g.K H p vs ∨ SqT g.K H p vs) → Reps g A H ys vs → s.flat = true → ys.all T.flat = true → z = (ys.any fun u => T.eqv u s) → r v w H Q := by
      intro ys vs p ew hs hr f1 f2 ez
      refine h1 _ _ _ _ ⟨p, vs, ew, hs, flat_V rv f1, flats_V hr f2, ?_⟩
      have ei : inV v vs = z := by
        rw [ez]
        exact inV_flat rv f1 hr f2
      rw [ei]
      cases b with
      | true => subst hf; exact k'
      | false => subst hf; exact k'
    cases t with
    | tup ys =>
      have hi' : (if s.flat && ys.all T.flat then some (ys.any fun u => T.eqv u s) else none) = some z := by
        cases s with
        | str x => cases x with
          | nil => exact hi
          | cons c r => cases r <;> exact hi
        | _ => exact hi
      obtain ⟨hc, ez⟩ := if_some hi'
      obtain ⟨f1, f2⟩ := and2 hc
      obtain ⟨p, vs, ew, _, hp, hr⟩ := rw'
      exact flat ew (.inr (SqT.of hp)) hr f1 f2 ez.symm
    | lst ys =>
      have hi' : (if (s.flat && ys.all T.flat) || (T.plain 60 s && T.plain 60 (.lst ys)) then some (ys.any fun u => T.eqv u s) else none) = some z := by
        cases s with
        | str x => cases x with
          | nil => exact hi
          | cons c r => cases r <;> exact hi
        | _ => exact hi
      obtain ⟨hc, ez⟩ := if_some hi'
      rw [Bool.or_eq_true] at hc
      rcases hc with hc | hc
      · obtain ⟨f1, f2⟩ := and2 hc
        obtain ⟨p, vs, ew, hp, hr⟩ := rw'
        exact flat ew (.inl (SqL.of hp)) hr f1 f2 ez.symm
      · obtain ⟨f1, f2⟩ := and2 hc
        refine h2 _ _ _ _ ?_
        have e3 := any_toD s ys
        rw [ez] at e3
        have d1 := rv.dp f1
        have d2 := rw'.dp f2
        simp only [T.toD] at d2
        cases b with
        | true =>
          subst hf
          exact ⟨s.toD, T.toDs ys, d1, d2, plain_shaped f1, plain_shaped f2, by rw [e3]; exact k'⟩
        | false =>
          subst hf
          exact ⟨s.toD, T.toDs ys, d1, d2, plain_shaped f1, plain_shaped f2, by rw [e3]; exact k'⟩
    | dct tk kvs =>
      have hi' : (if T.keyOf tk s then some (lookT kvs s).isSome else none) = some z := by
        cases s with
        | str x => cases x with
          | nil => exact hi
          | cons c r => cases r <;> exact hi
        | _ => exact hi
      obtain ⟨hc, ez⟩ := if_some hi'
      obtain ⟨a, ew, h | ⟨t, v', h, hd, _⟩⟩ := dget_of rw' rv hc
      · refine h4 _ _ _ _ ?_
        rw [h.1] at ez
        cases b with
        | true => subst hf; exact ⟨a, none, ew, h.2, by rw [show (Option.isSome (none : Option V)) = z from ez]; exact k'⟩
        | false => subst hf; exact ⟨a, none, ew, h.2, by rw [show (Option.isSome (none : Option V)) = z from ez]; exact k'⟩
      · refine h4 _ _ _ _ ?_
        rw [h] at ez
        cases b with
        | true => subst hf; exact ⟨a, some v', ew, hd, by rw [show (Option.isSome (some v')) = z from ez]; exact k'⟩
        | false => subst hf; exact ⟨a, some v', ew, hd, by rw [show (Option.isSome (some v')) = z from ez]; exact k'⟩
    | str y =>
      cases s with
      | str x =>
        cases x with
        | nil => cases hi
        | cons c r =>
          cases r with
          | cons _ _ => cases hi
          | nil =>
            have ez : y.contains c = z := Option.some.inj hi
            refine h3 _ _ _ _ ?_
            cases b with
            | true => subst hf; exact ⟨c, _, rv, rw', by rw [contains_eq, ez]; exact k'⟩
            | false => subst hf; exact ⟨c, _, rv, rw', by rw [contains_eq, ez]; exact k'⟩
      | _ => cases hi
    | _ => cases s with
      | str x => cases x with
        | nil => cases hi
        | cons c r => cases r <;> cases hi
      | _ => cases hi
theorem cmp_in : Cmp2 g (rInAll g.K) (cmpT .isin) := by
  have h := in_all (g := g) false id rfl (r := rInAll g.K) (fun _ _ _ _ h => .inl h) (fun _ _ _ _ h => .inr (.inl h)) (fun _ _ _ _ h => .inr (.inr (.inl h))) (fun _ _ _ _ h => .inr (.inr (.inr h)))
  intro s t q v w H A cs Q e rv rw' wa k
  refine h s t q v w H A cs Q ?_ rv rw' wa k
  dsimp only
  rw [Option.map_id]; exact e
theorem cmp_notin : Cmp2 g (rNotInAll g.K) (cmpT .notin) :=
  in_all (g := g) true (fun x => !x) rfl (r := rNotInAll g.K) (fun _ _ _ _ h => .inl h) (fun _ _ _ _ h => .inr (.inl h)) (fun _ _ _ _ h => .inr (.inr (.inl h))) (fun _ _ _ _ h => .inr (.inr (.inr h)))

/-! ### subscripts -/
def rIxD : R2 := fun x y H Q => ∃ a v, x = .ref a ∧ DGet H a y (some v) ∧ Q v H
theorem ix_dict {X : Cx} (hu : X.A.units + 64 < cLine) : IxR X rIxD := by
  intro value slice pins s σ H x y v u Q I rx ry h hs
  obtain ⟨a, v', rfl, d, q⟩ := h
  obtain rfl : v = Value.ref a := rx
  exact tail_any (dict_typeIs I d) PySem.F.slot_dict_getitem.lookup (d_getItem (by omega) I d ry fun w' s3 I3 rw' => ⟨v', H, I3, rw', q⟩) hs
def rIxAll (K : PySem.W.Frag) : R2 := fun x y H Q => rIxL K x y H Q ∨ rIxT K x y H Q ∨ rIxS x y H Q ∨ rIxD x y H Q
theorem ix_all {X : Cx} (hu : X.A.units + 64 < cLine) : IxR X (rIxAll X.K) := ix_list.or (ix_tup.or (ix_str.or (ix_dict hu)))
theorem reps_ints {A : Addr → Prop} {H : Hp} : ∀ ns : List Int, Reps g A H (ns.map .int) (ns.map V.int)
  | [] => rfl
  | n :: ns => ⟨.int n, ns.map V.int, rfl, rfl, reps_ints ns⟩
theorem atT_at {A : Addr → Prop} {H : Hp} {ts : List T} {vs : List V} {i : Int} {t : T} (h : Reps g A H ts vs) (e : atT ts i = some t) : ∃ v, atI vs i = some v ∧ Rep g A H t v := by
  unfold atT at e
  cases hj : place ts.length i with
  | none => rw [hj] at e; cases e
  | some j =>
    rw [hj] at e
    obtain ⟨v, e1, r⟩ := h.at (j := j) (by simpa using e)
    refine ⟨v, ?_, r⟩
    unfold atI
    rw [← place_eq, h.length, hj]
    exact e1
theorem bin_ix : Bin2 g (rIxAll g.K) ixT := by
  intro s t q v w H A cs Q e rv rw' wa k
  cases s with
  | tup ts =>
    cases t with
    | int i =>
      cases ha : atT ts i with
      | none => simp only [ixT, ha] at e; cases e
      | some u =>
        simp only [ixT, ha] at e
        have e2 : O.fz u = q := Option.some.inj e
        subst e2
        obtain ⟨a, vs, e1, _, hp, r⟩ := rv
        obtain ⟨v', e3, r'⟩ := atT_at r ha
        exact .inr (.inl ⟨a, vs, i, v', e1, rw', SqT.of hp, e3, res_rep wa r' k⟩)
    | _ => cases e
  | lst ts =>
    cases t with
    | int i =>
      cases ha : atT ts i with
      | none => simp only [ixT, ha] at e; cases e
      | some u =>
        simp only [ixT, ha] at e
        have e2 : O.fz u = q := Option.some.inj e
        subst e2
        obtain ⟨a, vs, e1, hp, r⟩ := rv
        obtain ⟨v', e3, r'⟩ := atT_at r ha
        exact .inl ⟨a, vs, i, v', e1, rw', SqL.of hp, e3, res_rep wa r' k⟩
    | _ => cases e
  | scr ns =>
    cases t with
    | int i =>
      cases ha : atT (ns.map .int) i with
      | none => simp only [ixT, ha] at e; cases e
      | some u =>
        simp only [ixT, ha] at e
        have e2 : O.fz u = q := Option.some.inj e
        subst e2
        obtain ⟨a, e1, hp⟩ := rv
        have hr : Reps g A H (ns.map .int) (ns.map V.int) := reps_ints ns
        obtain ⟨v', e3, r'⟩ := atT_at hr ha
        exact .inl ⟨a, _, i, v', e1, rw', hp, e3, res_rep wa r' k⟩
    | _ => cases e
  | str x =>
    cases t with
    | int i =>
      obtain ⟨hl, e⟩ : x.length ≤ sizeT ∧ ((place x.length i).bind fun j => (x[j]?).map fun c => O.fz (.str [c])) = some q := by
        simp only [ixT] at e
        split at e
        · rename_i h; exact ⟨h, e⟩
        · cases e
      cases hj : place x.length i with
      | none => rw [hj] at e; cases e
      | some j =>
        rw [hj] at e
        cases hc : x[j]? with
        | none => simp only [Option.bind_some, hc] at e; cases e
        | some c =>
          simp only [Option.bind_some, hc] at e
          have e2 : O.fz (.str [c]) = q := Option.some.inj e
          subst e2
          refine .inr (.inr (.inl ⟨_, i, c, rv, rw', ?_, ?_, res_str wa k⟩))
          · rw [str_len, ← size_eq]; exact hl
          · show atI x.toArray.toList i = some c
            unfold atI
            rw [show x.toArray.toList = x by simp, ← place_eq, hj]
            exact hc
    | _ => cases e
  | dct tk kvs =>
    obtain ⟨hc, e⟩ : T.keyOf tk t = true ∧ (lookT kvs t).map O.fz = some q := by
      have e' : (if T.keyOf tk t then (lookT kvs t).map O.fz else none) = some q := by
        cases t <;> exact e
      split at e'
      · rename_i h; exact ⟨h, e'⟩
      · cases e'
    obtain ⟨a, ew, h | ⟨u, v', h, hd, r⟩⟩ := dget_of rv rw' hc
    · rw [h.1] at e; cases e
    · rw [h] at e
      have e2 : O.fz u = q := Option.some.inj e
      subst e2
      exact .inr (.inr (.inr ⟨a, v', ew, hd, res_rep wa r k⟩))
  | _ => cases t <;> cases e
end
end Iv
/-! Iv8: slices, built-in functions, isinstance. -/
namespace Iv
open PySem L2 PySem.Spec PyProof.Rows
section
variable {g : Cfg}
/-! ### slices -/
def Sl2 (g : Cfg) (r : V → Option Int → Option Int → Hp → VK → Prop) (f : T → Option Int → Option Int → Option O) : Prop :=
  ∀ (s : T) (lo hi : Option Int) (q : O) (v : V) (H : Hp) (A : Addr → Prop) (cs : List Cell) (Q : VK), f s lo hi = some q → RdR g A H s v → WA g H A cs → Res g cs q Q → r v lo hi H Q
def rSlAll (K : PySem.W.Frag) : V → Option Int → Option Int → Hp → VK → Prop := fun x lo hi H Q => rSlL K x lo hi H Q ∨ rSlA K x lo hi H Q ∨ rSlS x lo hi H Q
theorem sl_all {X : Cx} : SlR X (rSlAll X.K) := sl_list.or (sl_tupA.or sl_str)
theorem cut_whole {α : Type} (xs : List α) {lo hi : Option Int} (h : bound xs.length 0 lo = 0 ∧ bound xs.length xs.length hi = xs.length) : cut xs lo hi = xs := by
  unfold cut
  rw [h.1, h.2, Nat.sub_zero, List.drop_zero, List.take_length]
theorem slT_ok : Sl2 g (rSlAll g.K) slT := by
  intro s lo hi q v H A cs Q e rv wa k
  cases s with
  | lst ts =>
    have e2 : fzs (cut ts lo hi) = q := Option.some.inj e
    subst e2
    obtain ⟨a, vs, e1, hp, r⟩ := rv
    exact .inl ⟨a, vs, e1, SqL.of hp, res_lst wa (r.cut lo hi) k⟩
  | tup ts =>
    have e2 : O.fz (.tup (cut ts lo hi)) = q := Option.some.inj e
    subst e2
    have rv0 := rv
    obtain ⟨a, vs, e1, _, hp, r⟩ := rv
    have l := r.length
    refine .inr (.inl ⟨a, vs, e1, SqT.of hp, fun z => ?_, fun _ => res_tup wa (r.cut lo hi) k⟩)
    rw [← bound_eq, ← bound_eq, l] at z
    rw [cut_whole ts z] at k
    rw [← e1]
    exact res_rep wa rv0 k
  | str x =>
    obtain ⟨hl, e2⟩ := if_some (show (if x.length ≤ sizeT then some (O.fz (.str (cut x lo hi))) else none) = some q from e)
    subst e2
    refine .inr (.inr ⟨_, rv, ?_, ?_⟩)
    · rw [str_len, ← size_eq]; exact hl
    · have ec : cutS ⟨x.toArray⟩ lo hi = ⟨(cut x lo hi).toArray⟩ := by
        unfold cutS cut
        rw [bound_eq, bound_eq, str_len]
      rw [ec]
      exact res_str wa k
  | _ => cases e

/-! ### functions -/
def Fn2 (g : Cfg) (r : List V → Hp → VK → Prop) (f : List T → Option O) : Prop :=
  ∀ (ts : List T) (q : O) (vs : List V) (H : Hp) (A : Addr → Prop) (cs : List Cell) (Q : VK), f ts = some q → All2 (RdR g A H) ts vs → WA g H A cs → Res g cs q Q → r vs H Q
theorem All2.one {α β : Type} {R : α → β → Prop} {a : α} {bs : List β} (h : All2 R [a] bs) : ∃ b, bs = [b] ∧ R a b := by
  cases h with
  | cons h t => cases t; exact ⟨_, rfl, h⟩
theorem All2.two {α β : Type} {R : α → β → Prop} {a a' : α} {bs : List β} (h : All2 R [a, a'] bs) : ∃ b b', bs = [b, b'] ∧ R a b ∧ R a' b' := by
  cases h with
  | cons h t =>
    obtain ⟨b, e, q⟩ := t.one
    exact ⟨_, b, by rw [e], h, q⟩
def fn1 (f : Bi) (g : T → Option O) : Prop := ∀ ts q, fn f ts = some q → ∃ t, ts = [t] ∧ g t = some q
theorem fn_len : Fn2 g (fun xs H Q => ∃ x n, xs = [x] ∧ LenV g.K x H n ∧ Q (.int n) H) (fn .len) := by
  intro ts q vs H A cs Q e al wa k
  match ts, e with
  | [.tup ys], e =>
    have e2 : O.fz (.int ys.length) = q := Option.some.inj e
    subst e2
    obtain ⟨v, rfl, r⟩ := al.one
    obtain ⟨a, ws, rfl, _, hp, r⟩ := r
    exact ⟨_, _, rfl, .inr ⟨ws, SqT.of hp, rfl⟩, by rw [r.length]; exact res_int wa k⟩
  | [.lst ys], e =>
    have e2 : O.fz (.int ys.length) = q := Option.some.inj e
    subst e2
    obtain ⟨v, rfl, r⟩ := al.one
    obtain ⟨a, ws, rfl, hp, r⟩ := r
    exact ⟨_, _, rfl, .inl ⟨ws, SqL.of hp, rfl⟩, by rw [r.length]; exact res_int wa k⟩
  | [.scr ys], e =>
    have e2 : O.fz (.int ys.length) = q := Option.some.inj e
    subst e2
    obtain ⟨v, rfl, r⟩ := al.one
    obtain ⟨a, rfl, hp⟩ := r
    exact ⟨_, _, rfl, .inl ⟨_, hp, rfl⟩, by rw [List.length_map]; exact res_int wa k⟩
  | [.str s], e =>
    obtain ⟨hl, e2⟩ := if_some (show (if s.length ≤ sizeT then some (O.fz (.int s.length)) else none) = some q from e)
    subst e2
    obtain ⟨v, rfl, r⟩ := al.one
    have r' : v = .str ⟨s.toArray⟩ := r
    subst r'
    refine ⟨_, s.length, rfl, ⟨?_, (str_len s).symm⟩, res_int wa k⟩
    rw [str_len, ← size_eq]; exact hl
theorem fn_abs : Fn2 g (fun xs H Q => ∃ i, xs = [.int i] ∧ Q (.int (if i < 0 then -i else i)) H) (fn .abs) := by
  intro ts q vs H A cs Q e al wa k
  match ts, e with
  | [.int i], e =>
    have e2 : O.fz (.int (if i < 0 then -i else i)) = q := Option.some.inj e
    subst e2
    obtain ⟨v, rfl, r⟩ := al.one
    have r' : v = .int i := r
    subst r'
    exact ⟨i, rfl, res_int wa k⟩
theorem fn_int : Fn2 g (fun xs H Q => (∃ i, xs = [.int i] ∧ Q (.int i) H) ∨ ∃ k, xs = [.bl k] ∧ Q (.int (if k then 1 else 0)) H) (fn .int) := by
  intro ts q vs H A cs Q e al wa k
  match ts, e with
  | [.int i], e =>
    have e2 : O.fz (.int i) = q := Option.some.inj e
    subst e2
    obtain ⟨v, rfl, r⟩ := al.one
    have r' : v = .int i := r
    subst r'
    exact .inl ⟨i, rfl, res_int wa k⟩
  | [.bl b], e =>
    have e2 : O.fz (.int (if b then 1 else 0)) = q := Option.some.inj e
    subst e2
    obtain ⟨v, rfl, r⟩ := al.one
    have r' : v = .bl b := r
    subst r'
    exact .inr ⟨b, rfl, res_int wa k⟩
theorem fn_list : Fn2 g (fun xs H Q => ∃ p ys, xs = [.ref p] ∧ (SqL g.K H p ys ∨ SqT g.K H p ys) ∧ ∀ l, H l = none → Q (.ref l) (upd H l (.lst ys))) (fn .list) := by
  intro ts q vs H A cs Q e al wa k
  match ts, e with
  | [.tup ys], e =>
    have e2 : fzs ys = q := Option.some.inj e
    subst e2
    obtain ⟨v, rfl, r⟩ := al.one
    obtain ⟨a, ws, rfl, _, hp, r⟩ := r
    exact ⟨a, ws, rfl, .inr (SqT.of hp), res_lst wa r k⟩
  | [.lst ys], e =>
    have e2 : fzs ys = q := Option.some.inj e
    subst e2
    obtain ⟨v, rfl, r⟩ := al.one
    obtain ⟨a, ws, rfl, hp, r⟩ := r
    exact ⟨a, ws, rfl, .inl (SqL.of hp), res_lst wa r k⟩
  | [.scr ys], e =>
    have e2 : fzs (ys.map .int) = q := Option.some.inj e
    subst e2
    obtain ⟨v, rfl, r⟩ := al.one
    obtain ⟨a, rfl, hp⟩ := r
    exact ⟨a, _, rfl, .inl hp, res_lst wa (reps_ints ys) k⟩
theorem fn_tuple : Fn2 g (fun xs H Q => ∃ p ys, xs = [.ref p] ∧ ((SqL g.K H p ys ∧ ∀ l, H l = none → Q (.ref l) (upd H l (.tup ys))) ∨ (SqT g.K H p ys ∧ Q (.ref p) H))) (fn .tuple) := by
  intro ts q vs H A cs Q e al wa k
  match ts, e with
  | [.tup ys], e =>
    have e2 : O.fz (.tup ys) = q := Option.some.inj e
    subst e2
    obtain ⟨v, rfl, r0⟩ := al.one
    have r1 := r0
    obtain ⟨a, ws, rfl, _, hp, r⟩ := r0
    exact ⟨a, ws, rfl, .inr ⟨SqT.of hp, res_rep wa r1 k⟩⟩
  | [.lst ys], e =>
    have e2 : O.fz (.tup ys) = q := Option.some.inj e
    subst e2
    obtain ⟨v, rfl, r⟩ := al.one
    obtain ⟨a, ws, rfl, hp, r⟩ := r
    exact ⟨a, ws, rfl, .inl ⟨SqL.of hp, res_tup wa r k⟩⟩
theorem fn_sum : Fn2 g (rSum g.K) (fn .sum) := by
  intro ts q vs H A cs Q e al wa k
  match ts, e with
  | [.lst ys], e =>
    simp only [fn] at e
    cases hi : T.ints ys with
    | none => rw [hi] at e; cases e
    | some ns =>
      rw [hi] at e
      have e2 : O.fz (.int ns.sum) = q := Option.some.inj e
      subst e2
      obtain ⟨v, rfl, r⟩ := al.one
      obtain ⟨a, ws, rfl, hp, r⟩ := r
      exact ⟨a, ns, rfl, SqL.of (by rw [← r.intsV hi]; exact hp), res_int wa k⟩
theorem foldmax : ∀ (r : List Int) (x : Int), (r.foldl (fun a b => if a < b then b else a) x) ∈ x :: r ∧ ∀ y ∈ x :: r, y ≤ r.foldl (fun a b => if a < b then b else a) x
  | [], x => ⟨by simp, by simp⟩
  | z :: r, x => by
    have key : ∃ m, (if x < z then z else x) = m ∧ (m = x ∨ m = z) ∧ x ≤ m ∧ z ≤ m := by
      by_cases c : x < z
      · exact ⟨z, if_pos c, .inr rfl, by omega, by omega⟩
      · exact ⟨x, if_neg c, .inl rfl, by omega, by omega⟩
    obtain ⟨m, em, e1, e2, e3⟩ := key
    obtain ⟨h1, h2⟩ := foldmax r m
    rw [List.foldl_cons, em]
    have h3 := h2 m List.mem_cons_self
    refine ⟨?_, fun y hy => ?_⟩
    · rcases List.mem_cons.mp h1 with e | e
      · rw [e]; rcases e1 with e1 | e1 <;> rw [e1] <;> simp
      · exact List.mem_cons_of_mem _ (List.mem_cons_of_mem _ e)
    · rcases List.mem_cons.mp hy with e | hy
      · subst e; exact Int.le_trans e2 h3
      · rcases List.mem_cons.mp hy with e | hy
        · subst e; exact Int.le_trans e3 h3
        · exact h2 y (List.mem_cons_of_mem _ hy)
theorem foldmin : ∀ (r : List Int) (x : Int), (r.foldl (fun a b => if b < a then b else a) x) ∈ x :: r ∧ ∀ y ∈ x :: r, r.foldl (fun a b => if b < a then b else a) x ≤ y
  | [], x => ⟨by simp, by simp⟩
  | z :: r, x => by
    have key : ∃ m, (if z < x then z else x) = m ∧ (m = x ∨ m = z) ∧ m ≤ x ∧ m ≤ z := by
      by_cases c : z < x
      · exact ⟨z, if_pos c, .inr rfl, by omega, by omega⟩
      · exact ⟨x, if_neg c, .inl rfl, by omega, by omega⟩
    obtain ⟨m, em, e1, e2, e3⟩ := key
    obtain ⟨h1, h2⟩ := foldmin r m
    rw [List.foldl_cons, em]
    have h3 := h2 m List.mem_cons_self
    refine ⟨?_, fun y hy => ?_⟩
    · rcases List.mem_cons.mp h1 with e | e
      · rw [e]; rcases e1 with e1 | e1 <;> rw [e1] <;> simp
      · exact List.mem_cons_of_mem _ (List.mem_cons_of_mem _ e)
    · rcases List.mem_cons.mp hy with e | hy
      · subst e; exact Int.le_trans h3 e2
      · rcases List.mem_cons.mp hy with e | hy
        · subst e; exact Int.le_trans h3 e3
        · exact h2 y (List.mem_cons_of_mem _ hy)
theorem fn_max1 : Fn2 g (rMax g.K) (fn .max1) := by
  intro ts q vs H A cs Q e al wa k
  match ts, e with
  | [.lst ys], e =>
    simp only [fn] at e
    cases hi : T.ints ys with
    | none => rw [hi] at e; cases e
    | some ns =>
      rw [hi] at e
      obtain ⟨v, rfl, r⟩ := al.one
      obtain ⟨a, ws, rfl, hp, r⟩ := r
      cases ns with
      | nil => cases e
      | cons x ns =>
        have e2 : O.fz (.int (ns.foldl (fun a b => if a < b then b else a) x)) = q := Option.some.inj e
        subst e2
        obtain ⟨f1, f2⟩ := foldmax ns x
        refine ⟨a, x :: ns, rfl, SqL.of (by rw [← r.intsV hi]; exact hp), by simp, fun m hm hall => ?_⟩
        have em : m = ns.foldl (fun a b => if a < b then b else a) x := Int.le_antisymm (f2 m hm) (hall _ f1)
        rw [em]
        exact res_int wa k
theorem fn_min1 : Fn2 g (rMin g.K) (fn .min1) := by
  intro ts q vs H A cs Q e al wa k
  match ts, e with
  | [.lst ys], e =>
    simp only [fn] at e
    cases hi : T.ints ys with
    | none => rw [hi] at e; cases e
    | some ns =>
      rw [hi] at e
      obtain ⟨v, rfl, r⟩ := al.one
      obtain ⟨a, ws, rfl, hp, r⟩ := r
      cases ns with
      | nil => cases e
      | cons x ns =>
        have e2 : O.fz (.int (ns.foldl (fun a b => if b < a then b else a) x)) = q := Option.some.inj e
        subst e2
        obtain ⟨f1, f2⟩ := foldmin ns x
        refine ⟨a, x :: ns, rfl, SqL.of (by rw [← r.intsV hi]; exact hp), by simp, fun m hm hall => ?_⟩
        have em : m = ns.foldl (fun a b => if b < a then b else a) x := Int.le_antisymm (hall _ f1) (f2 m hm)
        rw [em]
        exact res_int wa k
theorem fn_max2 : Fn2 g (fun xs H Q => ∃ i j, xs = [.int i, .int j] ∧ Q (.int (if j > i then j else i)) H) (fn .max2) := by
  intro ts q vs H A cs Q e al wa k
  match ts, e with
  | [.int i, .int j], e =>
    have e2 : O.fz (.int (if j > i then j else i)) = q := Option.some.inj e
    subst e2
    obtain ⟨v, w, rfl, r, r2⟩ := al.two
    have r' : v = .int i := r
    have r2' : w = .int j := r2
    subst r' r2'
    exact ⟨i, j, rfl, res_int wa k⟩
theorem fn_min2 : Fn2 g (fun xs H Q => ∃ i j, xs = [.int i, .int j] ∧ Q (.int (if j < i then j else i)) H) (fn .min2) := by
  intro ts q vs H A cs Q e al wa k
  match ts, e with
  | [.int i, .int j], e =>
    have e2 : O.fz (.int (if j < i then j else i)) = q := Option.some.inj e
    subst e2
    obtain ⟨v, w, rfl, r, r2⟩ := al.two
    have r' : v = .int i := r
    have r2' : w = .int j := r2
    subst r' r2'
    exact ⟨i, j, rfl, res_int wa k⟩
theorem fn_any : Fn2 g (rAny g.K) (fn .any) := by
  intro ts q vs H A cs Q e al wa k
  match ts, e with
  | [.lst ys], e =>
    simp only [fn] at e
    cases hi : T.bls ys with
    | none => rw [hi] at e; cases e
    | some ns =>
      rw [hi] at e
      have e2 : O.fz (.bl (ns.any id)) = q := Option.some.inj e
      subst e2
      obtain ⟨v, rfl, r⟩ := al.one
      obtain ⟨a, ws, rfl, hp, r⟩ := r
      exact ⟨a, ns, rfl, SqL.of (by rw [← r.blsV hi]; exact hp), res_bl wa k⟩
theorem fn_all : Fn2 g (rAll g.K) (fn .all) := by
  intro ts q vs H A cs Q e al wa k
  match ts, e with
  | [.lst ys], e =>
    simp only [fn] at e
    cases hi : T.bls ys with
    | none => rw [hi] at e; cases e
    | some ns =>
      rw [hi] at e
      have e2 : O.fz (.bl (ns.all id)) = q := Option.some.inj e
      subst e2
      obtain ⟨v, rfl, r⟩ := al.one
      obtain ⟨a, ws, rfl, hp, r⟩ := r
      exact ⟨a, ns, rfl, SqL.of (by rw [← r.blsV hi]; exact hp), res_bl wa k⟩

/-! ### isinstance with a built-in type -/
def Ty.nm : Ty → String
  | .int => "int" | .bool => "bool" | .str => "str" | .tuple => "tuple" | .list => "list" | .own _ => ""
def T.ty : T → String
  | .non => "NoneType" | .bl _ => "bool" | .int _ => "int" | .str _ => "str" | .tup _ => "tuple" | .lst _ => "list" | .dct _ _ => "dict" | .scr _ => "list"
theorem kitB_all : ∀ x ∈ ["NoneType", "bool", "int", "str", "tuple", "list"], ∀ y ∈ ["int", "bool", "str", "tuple", "list"], kitB x y = some ((x == y) || (x == "bool" && y == "int")) := by decide +kernel
theorem isi_kit (t : T) (y : Ty) (b : Bool) (h : isiT t y = some b) : kitB t.ty y.nm = some b := by
  have hx : (t.ty ∈ ["NoneType", "bool", "int", "str", "tuple", "list"]) := by
    cases t with
    | dct _ _ => cases y <;> cases h
    | _ => simp [T.ty]
  cases y with
  | own c => cases t <;> cases h
  | _ =>
    refine (kitB_all t.ty hx _ (by simp [Ty.nm])).trans ?_
    rw [← h]
    cases t <;> first | rfl | cases h | decide
theorem isi_ty {A : Addr → Prop} {H : Hp} {t : T} {v : V} {y : Ty} {b : Bool} (h : isiT t y = some b) (r : RdR g A H t v) : TyX g.K H v (.type t.ty) := by
  cases t with
  | non => have e : v = .non := r; subst e; exact .base .non
  | bl b => have e : v = .bl b := r; subst e; exact .base (.bl b)
  | int b => have e : v = .int b := r; subst e; exact .base (.int b)
  | str b => have e : v = .str ⟨b.toArray⟩ := r; subst e; exact .base (.str _)
  | tup ts => obtain ⟨a, vs, rfl, _, hp, _⟩ := r; exact .base (.tup hp)
  | lst ts => obtain ⟨a, vs, rfl, hp, _⟩ := r; exact .base (.lst hp)
  | dct tk ts => cases h
  | scr ns => cases h
end
end Iv
/-! Iv9: the interpreter's expressions, node by node. -/
namespace Iv
open PySem L2 PySem.Spec PyProof.Rows

section
variable {g : Cfg} {σ : L2.St} {ops : List Opd} {vs : List V} {τ : St} {ex : List Cell} {H : Hp}
/-- the operands are read, and stay -/
theorem OW.rdsK {ts : List T} (h : OW g σ ops vs τ ex H) (e : Iv.rds τ ops = some ts) : ∃ A, WA g H A (temps ops vs ++ (cellsOf σ τ ++ ex)) ∧ All2 (RdR g A H) ts vs := by
  obtain ⟨fp, nd, q⟩ := h.w
  obtain ⟨f1, f2, e1, q1, q2⟩ := OwnC.app _ _ _ q
  obtain ⟨f3, f4, e2, q3, q4⟩ := OwnC.app _ _ _ q2
  exact ⟨(· ∈ fp), ⟨fp, nd, fun _ => Iff.rfl, q⟩, rds_all h.gd h.rf q1 q3 e⟩
theorem rds1 {x : Opd} {s : T} (h : rd τ x = some s) : rds τ [x] = some [s] := by
  simp only [rds, h]; rfl
theorem rds2 {x y : Opd} {s t : T} (h : rd τ x = some s) (h2 : rd τ y = some t) : rds τ [x, y] = some [s, t] := by
  simp only [rds, h, h2]; rfl
/-- the operands are taken -/
theorem takes_ok : ∀ {ops : List Opd} {vs : List V} {τ τ' : St} {ex : List Cell} {ts : List T}, OW g σ ops vs τ ex H → takes τ ops = some (ts, τ') → Good σ τ' ∧ vs.length = ts.length ∧ W g H (zipT vs ts ++ (cellsOf σ τ' ++ ex))
  | [], [], τ, τ', ex, ts, h, e => by
    have e2 := Option.some.inj e
    have e3 : [] = ts := congrArg Prod.fst e2
    have e4 : τ = τ' := congrArg Prod.snd e2
    subst e3 e4
    exact ⟨h.gd, rfl, h.w⟩
  | x :: r, v :: vs, τ, τ', ex, ts, h, e => by
    simp only [takes] at e
    cases h1 : take τ x with
    | none => rw [h1] at e; cases e
    | some p =>
      obtain ⟨t, τ1⟩ := p
      rw [h1] at e
      cases h2 : takes τ1 r with
      | none => simp only [Option.bind_eq_bind, Option.bind_some, h2] at e; cases e
      | some p2 =>
        obtain ⟨ts', τ2⟩ := p2
        simp only [Option.bind_eq_bind, Option.bind_some, h2] at e
        have e2 := Option.some.inj e
        have e3 : t :: ts' = ts := congrArg Prod.fst e2
        have e4 : τ2 = τ' := congrArg Prod.snd e2
        subst e3 e4
        have step : OW g σ r vs τ1 (.c v (.fz t) :: ex) H := by
          cases x with
          | val o =>
            simp only [take] at h1
            cases h3 : o.toT with
            | none => rw [h3] at h1; cases h1
            | some u =>
              rw [h3] at h1
              have e5 := Option.some.inj h1
              have e6 : u = t := congrArg Prod.fst e5
              have e7 : τ = τ1 := congrArg Prod.snd e5
              subst e6 e7
              refine ⟨h.gd, h.rf, ?_⟩
              have w : W g H (.c v o :: (temps r vs ++ (cellsOf σ τ ++ ex))) := h.w
              refine (w.freeze h3).perm ?_
              rw [← List.append_assoc, ← List.append_assoc]
              exact List.perm_middle.symm
          | ref i =>
            have w0 : OW g σ r vs τ ex H := ⟨h.gd, h.rf.2, h.w⟩
            obtain ⟨v', ev, gd, w⟩ := take_ref w0 h1
            have ev2 : v' = v := by
              have := h.rf.1
              rw [ev] at this
              exact Option.some.inj (Option.some.inj this)
            subst ev2
            refine ⟨gd, h.rf.2, w.perm ?_⟩
            refine List.Perm.append_left _ ?_
            exact List.perm_middle.symm
        obtain ⟨gd, l, w⟩ := takes_ok (ops := r) step h2
        refine ⟨gd, by rw [List.length_cons, List.length_cons, l], w.perm ?_⟩
        show (zipT vs ts' ++ (cellsOf σ τ2 ++ (Cell.c v (.fz t) :: ex))).Perm (Cell.c v (.fz t) :: (zipT vs ts' ++ (cellsOf σ τ2 ++ ex)))
        rw [← List.append_assoc, ← List.append_assoc]
        exact List.perm_middle
  | [], _ :: _, _, _, _, _, h, _ => h.rf.elim
  | .val _ :: _, [], _, _, _, _, h, _ => h.rf.elim
  | .ref _ :: _, [], _, _, _, _, h, _ => h.rf.elim
end

section
variable {g : Cfg} {Γ : Nat → List O → COut} {Wx : WX} {X : Cx}
/-! ### two operands, one operation -/
theorem J_op2 {r : R2} {f : T → T → Option O} (hb : Bin2 g r f) {a b : E} {σ : L2.St} {H : Hp} {Q : VK} {τ : St} {ex : List Cell} (ow : OW g σ [] [] τ ex H)
    (p : post g Wx σ ex ((opd a (evalE Γ a) τ).bind fun x τ1 => (opd b (evalE Γ b) τ1).bind fun y τ2 => lift (rd τ2 x) fun s => lift (rd τ2 y) fun t => lift (f s t) fun r => .ok r τ2) (fun o τ' => ∀ v H', OW g σ [.val o] [v] τ' ex H' → Q v H')) :
    tOp r (JO g Γ Wx a) (JO g Γ Wx b) σ H Q :=
  stepO ow p fun x τ1 v H1 ow1 p1 => stepO ow1 p1 fun y τ2 w H2 ow2 p2 => by
    obtain ⟨s, hs, p2⟩ := post_lift p2
    obtain ⟨t, ht, p2⟩ := post_lift p2
    obtain ⟨q, hq, p2⟩ := post_lift p2
    obtain ⟨A, wa, al⟩ := ow2.rds (rds2 hs ht)
    obtain ⟨v', w', e, r1, r2⟩ := al.two
    have e' : [v, w] = [v', w'] := e
    cases e'
    exact hb s t q v w H2 A _ Q hq r1 r2 wa fun u H' w => p2 u H' (.fin ow2.gd w)
def bopOf : Operator → Option BOp
  | .Add => some .add | .Sub => some .sub | .Mult => some .mul | .FloorDiv => some .fdiv | .Mod => some .mod | .Pow => some .pow
  | _ => none
def copOf : CmpOp → Option COp
  | .Eq => some .eq | .NotEq => some .ne | .Lt => some .lt | .LtE => some .le | .Gt => some .gt | .GtE => some .ge | .In => some .isin | .NotIn => some .notin
  | _ => none
theorem bop_rule (hK : X.K = g.K) {op : Operator} {o : BOp} (h : bopOf op = some o) : ∃ r, OpR X (binaryOp op) r ∧ Bin2 g r (bin o) := by
  cases op <;> cases h
  · exact ⟨_, op_addAll, hK ▸ bin_add⟩
  · exact ⟨_, op_sub, bin_sub⟩
  · exact ⟨_, op_mulAll, bin_mul⟩
  · exact ⟨_, op_mod, bin_mod⟩
  · exact ⟨_, op_pow, bin_pow⟩
  · exact ⟨_, op_fdiv, bin_fdiv⟩
theorem cop_rule (hK : X.K = g.K) (hu : X.A.units + 65 < cLine) {op : CmpOp} {o : COp} (h : copOf op = some o) : ∃ r, OpR X (compareOp op) r ∧ Cmp2 g r (cmpT o) := by
  cases op <;> cases h
  · exact ⟨_, op_eqAll (by omega), hK ▸ cmp_eq⟩
  · exact ⟨_, op_neAll (by omega), hK ▸ cmp_ne⟩
  · exact ⟨_, op_lt, cmp_lt⟩
  · exact ⟨_, op_le, cmp_le⟩
  · exact ⟨_, op_gt, cmp_gt⟩
  · exact ⟨_, op_ge, cmp_ge⟩
  · exact ⟨_, op_inAll hu, hK ▸ cmp_in⟩
  · exact ⟨_, op_notInAll hu, hK ▸ cmp_notin⟩
variable {a b c : Expr} {x y z : E} {pos : Pos}
theorem JE_bin (hK : X.K = g.K) {op : Operator} {o : BOp} (h : bopOf op = some o) (ha : PE X a (JO g Γ Wx x)) (hb : PE X b (JO g Γ Wx y)) : PE X (.BinOp a op b pos) (JE g Γ Wx (.bin o x y)) := by
  obtain ⟨r, h1, h2⟩ := bop_rule hK h
  exact (pe_op h1 ha hb).imp fun σ H Q ⟨τ, ex, ow, p⟩ => J_op2 h2 ow p
theorem JE_cmp (hK : X.K = g.K) (hu : X.A.units + 65 < cLine) {op : CmpOp} {o : COp} (h : copOf op = some o) (hm : behindInMarks op b = false) (ha : PE X a (JO g Γ Wx x)) (hb : PE X b (JO g Γ Wx y)) : PE X (.Compare a [op] [b] pos) (JE g Γ Wx (.cmp o x y)) := by
  obtain ⟨r, h1, h2⟩ := cop_rule hK hu h
  exact (pe_cmpR h1 ha hb hm).imp fun σ H Q ⟨τ, ex, ow, p⟩ => J_op2 h2 ow p
/-- a test whose value is always a truth value -/
def BlOut (Γ : Nat → List O → COut) (m : E) : Prop := ∀ τ o τ', evalE Γ m τ = .ok o τ' → ∃ b, o = .fz (.bl b)
theorem rep_bl {A : Addr → Prop} {H : Hp} {b : Bool} {v : V} (h : Rep g A H (.bl b) v) : v = .bl b := h
theorem JC_bl {m : E} (hb : BlOut Γ m) {σ : L2.St} {H : Hp} {Q : Bool → Hp → Prop} (h : JC g Γ Wx (.tv m) σ H Q) : JE g Γ Wx m σ H fun x H1 => ∃ k, x = .bl k ∧ Q k H1 := by
  obtain ⟨τ, ex, ow, p⟩ := h
  have p : post g Wx σ ex ((evalE Γ m τ).bind fun o τ1 => lift (o.toT1.bind T.truth) fun k => .ok k τ1) fun k τ' => ∀ H', OW g σ [] [] τ' ex H' → Q k H' := p
  refine ⟨τ, ex, ow, ?_⟩
  have p2 := post_bind p
  cases he : evalE Γ m τ with
  | stuck => rw [he] at p2; exact p2
  | exc x τ' => rw [he] at p2; exact p2
  | ok o τ' =>
    rw [he] at p2
    obtain ⟨k, rfl⟩ := hb τ o τ' he
    intro v H' ow'
    have w : W g H' (.c v (.fz (.bl k)) :: (cellsOf σ τ' ++ ex)) := ow'.w
    obtain ⟨A, r⟩ := w.rep
    exact ⟨k, rep_bl r, p2 H' ow'.bare⟩
theorem lift_ok {α β : Type} {o : Option α} {f : α → Out β} {b : β} {τ : St} (h : lift o f = .ok b τ) : ∃ a, o = some a ∧ f a = .ok b τ := by
  cases o with
  | some a => exact ⟨a, rfl, h⟩
  | none => cases h
theorem lift2_ok {α β : Type} {o : Option (α × St)} {f : α → St → Out β} {b : β} {τ : St} (h : lift2 o f = .ok b τ) : ∃ a τ1, o = some (a, τ1) ∧ f a τ1 = .ok b τ := by
  cases o with
  | some a => exact ⟨a.1, a.2, rfl, h⟩
  | none => cases h
theorem bind_ok {α β : Type} {o : Out α} {f : α → St → Out β} {b : β} {τ : St} (h : o.bind f = .ok b τ) : ∃ a τ1, o = .ok a τ1 ∧ f a τ1 = .ok b τ := by
  cases o with
  | ok a τ1 => exact ⟨a, τ1, rfl, h⟩
  | exc _ _ => cases h
  | stuck => cases h
theorem map_fz {o : Option Bool} {r : O} (h : (o.map fun b => O.fz (.bl b)) = some r) : ∃ b, r = .fz (.bl b) := by
  cases o with
  | none => cases h
  | some b => exact ⟨b, (Option.some.inj h).symm⟩
theorem out_ok {a a' : O} {τ τ' : St} (h : Out.ok a τ = .ok a' τ') : a = a' := by cases h; rfl
theorem blOut_cmp {o : COp} : BlOut Γ (.cmp o x y) := fun τ r τ' h => by
  simp only [evalE] at h
  obtain ⟨_, _, _, h⟩ := bind_ok h
  obtain ⟨_, _, _, h⟩ := bind_ok h
  obtain ⟨_, _, h⟩ := lift_ok h
  obtain ⟨_, _, h⟩ := lift_ok h
  obtain ⟨q, hq, h⟩ := lift_ok h
  obtain ⟨b, rfl⟩ := map_fz hq
  exact ⟨b, (out_ok h).symm⟩
theorem JC_cmp (hK : X.K = g.K) (hu : X.A.units + 65 < cLine) {op : CmpOp} {o : COp} (h : copOf op = some o) (hm : behindInMarks op b = false) (ha : PE X a (JO g Γ Wx x)) (hb : PE X b (JO g Γ Wx y)) : PT X (.Compare a [op] [b] pos) (JC g Γ Wx (.tv (.cmp o x y))) := by
  obtain ⟨r, h1, h2⟩ := cop_rule hK hu h
  exact (pt_cmpR h1 ha hb hm).imp fun σ H Q h => by
    obtain ⟨τ, ex, ow, p⟩ := JC_bl blOut_cmp h
    exact J_op2 h2 ow p

/-! ### a op b op c -/
theorem J_chain {r r' : R2} {o o' : COp} (hb : Cmp2 g r (cmpT o)) (hb' : Cmp2 g r' (cmpT o')) {σ : L2.St} {H : Hp} {Q : VK} (h : JE g Γ Wx (.chain o o' x y z) σ H Q) :
    tChain r r' (JO g Γ Wx x) (JO g Γ Wx y) (JO g Γ Wx z) σ H Q := by
  obtain ⟨τ, ex, ow, p⟩ := h
  simp only [evalE] at p
  refine stepO ow p fun x τ1 v H1 ow1 p1 => stepO ow1 p1 fun y τ2 w H2 ow2 p2 => ?_
  obtain ⟨s, hs, p2⟩ := post_lift p2
  obtain ⟨t, ht, p2⟩ := post_lift p2
  obtain ⟨k, hk, p2⟩ := post_lift p2
  obtain ⟨A, wa, al⟩ := ow2.rdsK (rds2 hs ht)
  obtain ⟨v', w', e, r1, r2⟩ := al.two
  have e' : [v, w] = [v', w'] := e
  cases e'
  refine hb s t (.fz (.bl k)) v w H2 A _ _ (by show (cmpT o s t).map _ = _; rw [hk]; rfl) r1 r2 wa fun u H' wu => ?_
  obtain ⟨A', ru⟩ := wu.rep
  refine ⟨k, rep_bl ru, ?_⟩
  have ow3 : OW g σ [x, y] [v, w] τ2 ex H' := ⟨ow2.gd, ow2.rf, wu.drop⟩
  cases k with
  | false =>
    refine p2 _ H' (.fin ow3.gd ?_)
    have eu : u = .bl false := rep_bl ru
    rw [eu] at wu
    have wq : W g H' (temps [x, y] [v, w] ++ (cellsOf σ τ2 ++ ex)) := ow3.w
    exact wq.dropL.put fun A => (rfl : V.bl false = V.bl false)
  | true =>
    refine stepO ow3 p2 fun z τ3 w' H3 ow4 p3 => ?_
    obtain ⟨t', ht', p3⟩ := post_lift p3
    obtain ⟨u', hu', p3⟩ := post_lift p3
    obtain ⟨q, hq, p3⟩ := post_lift p3
    have hyz : OW g σ [y, z] [w, w'] τ3 ex H3 := by
      have ow5 : OW g σ [x, y, z] [v, w, w'] τ3 ex H3 := ow4
      refine ⟨ow5.gd, ?_, ?_⟩
      · have rf := ow5.rf
        cases x with
        | val o => exact rf
        | ref i => exact rf.2
      · have w5 := ow5.w
        cases x with
        | val o => exact w5.drop
        | ref i => exact w5
    obtain ⟨A3, wa3, al3⟩ := hyz.rds (rds2 ht' hu')
    obtain ⟨v5, w5, e5, r5, r6⟩ := al3.two
    have e6 : [w, w'] = [v5, w5] := e5
    cases e6
    exact hb' t' u' q w w' H3 A3 _ Q hq r5 r6 wa3 fun u H' wu => p3 u H' (.fin ow4.gd wu)
theorem JE_chain (hK : X.K = g.K) (hu : X.A.units + 65 < cLine) {op op' : CmpOp} {o o' : COp} (h : copOf op = some o) (h' : copOf op' = some o') (hm : lastMarks [op, op'] [b, c] = false)
    (ha : PE X a (JO g Γ Wx x)) (hb : PE X b (JO g Γ Wx y)) (hc : PE X c (JO g Γ Wx z)) : PE X (.Compare a [op, op'] [b, c] pos) (JE g Γ Wx (.chain o o' x y z)) := by
  obtain ⟨r, h1, h2⟩ := cop_rule hK hu h
  obtain ⟨r', h1', h2'⟩ := cop_rule hK hu h'
  exact (pe_chain h1 h1' ha hb hc hm).imp fun σ H Q h => J_chain h2 h2' h
theorem blOut_chain {o o' : COp} : BlOut Γ (.chain o o' x y z) := fun τ r τ' h => by
  simp only [evalE] at h
  obtain ⟨_, _, _, h⟩ := bind_ok h
  obtain ⟨_, _, _, h⟩ := bind_ok h
  obtain ⟨_, _, h⟩ := lift_ok h
  obtain ⟨_, _, h⟩ := lift_ok h
  obtain ⟨k, hq, h⟩ := lift_ok h
  cases k with
  | false => exact ⟨false, (out_ok h).symm⟩
  | true =>
    obtain ⟨_, _, _, h⟩ := bind_ok h
    obtain ⟨_, _, h⟩ := lift_ok h
    obtain ⟨_, _, h⟩ := lift_ok h
    obtain ⟨q, hq, h⟩ := lift_ok h
    obtain ⟨b, rfl⟩ := map_fz hq
    exact ⟨b, (out_ok h).symm⟩
theorem JC_chain (hK : X.K = g.K) (hu : X.A.units + 65 < cLine) {op op' : CmpOp} {o o' : COp} (h : copOf op = some o) (h' : copOf op' = some o') (hm : lastMarks [op, op'] [b, c] = false)
    (ha : PE X a (JO g Γ Wx x)) (hb : PE X b (JO g Γ Wx y)) (hc : PE X c (JO g Γ Wx z)) : PT X (.Compare a [op, op'] [b, c] pos) (JC g Γ Wx (.tv (.chain o o' x y z))) := by
  obtain ⟨r, h1, h2⟩ := cop_rule hK hu h
  obtain ⟨r', h1', h2'⟩ := cop_rule hK hu h'
  exact (pt_chain h1 h1' ha hb hc hm).imp fun σ H Q h => J_chain h2 h2' (JC_bl blOut_chain h)

/-! ### one operand -/
theorem rd_int {A : Addr → Prop} {H : Hp} {i : Int} {v : V} (h : RdR g A H (.int i) v) : v = .int i := h
theorem JE_neg (ha : PE X a (JO g Γ Wx x)) : PE X (.UnaryOp .USub a pos) (JE g Γ Wx (.neg x)) := (pe_un un_neg ha).imp fun σ H Q ⟨τ, ex, ow, p⟩ => by
  simp only [evalE] at p
  refine stepO ow p fun x τ1 v H1 ow1 p1 => ?_
  obtain ⟨s, hs, p1⟩ := post_lift p1
  cases s with
  | int i =>
    obtain ⟨A, wa, al⟩ := ow1.rds (rds1 hs)
    obtain ⟨v', e, r1⟩ := al.one
    have e' : [v] = [v'] := e
    cases e'
    exact ⟨i, rd_int r1, res_int wa fun u H' w => p1 u H' (.fin ow1.gd w)⟩
  | _ => exact p1.elim
theorem rd_isN {A : Addr → Prop} {H : Hp} {t : T} {v : V} (h : RdR g A H t v) : decide (v = .non) = t.isNon := by
  cases t with
  | non => have e : v = .non := h; subst e; rfl
  | bl b => have e : v = .bl b := h; subst e; rfl
  | int b => have e : v = .int b := h; subst e; rfl
  | str b => have e : v = .str ⟨b.toArray⟩ := h; subst e; rfl
  | tup ts => obtain ⟨a, vs, rfl, _⟩ := h; rfl
  | lst ts => obtain ⟨a, vs, rfl, _⟩ := h; rfl
  | dct tk ts => obtain ⟨a, vs, rfl, _⟩ := h; rfl
  | scr ts => obtain ⟨a, rfl, _⟩ := h; rfl
theorem J_isN {σ : L2.St} {H : Hp} {Q : VK} (h : JE g Γ Wx (.isN x) σ H Q) : tIsN (JO g Γ Wx x) σ H Q := by
  obtain ⟨τ, ex, ow, p⟩ := h
  simp only [evalE] at p
  refine stepO ow p fun x τ1 v H1 ow1 p1 => ?_
  obtain ⟨s, hs, p1⟩ := post_lift p1
  obtain ⟨A, wa, al⟩ := ow1.rds (rds1 hs)
  obtain ⟨v', e, r1⟩ := al.one
  have e' : [v] = [v'] := e
  cases e'
  rw [rd_isN r1]
  exact res_bl wa fun u H' w => p1 u H' (.fin ow1.gd w)
theorem J_notN {σ : L2.St} {H : Hp} {Q : VK} (h : JE g Γ Wx (.notN x) σ H Q) : tNotN (JO g Γ Wx x) σ H Q := by
  obtain ⟨τ, ex, ow, p⟩ := h
  simp only [evalE] at p
  refine stepO ow p fun x τ1 v H1 ow1 p1 => ?_
  obtain ⟨s, hs, p1⟩ := post_lift p1
  obtain ⟨A, wa, al⟩ := ow1.rds (rds1 hs)
  obtain ⟨v', e, r1⟩ := al.one
  have e' : [v] = [v'] := e
  cases e'
  rw [rd_isN r1]
  exact res_bl wa fun u H' w => p1 u H' (.fin ow1.gd w)
variable {j : Nat} {pos' : Pos}
theorem JE_isN (ha : PE X a (JO g Γ Wx x)) : PE X (.Compare a [.Is] [.Constant .none j pos'] pos) (JE g Γ Wx (.isN x)) := (pe_cmp (pc_isN ha)).imp fun σ H Q h => J_isN h
theorem JE_notN (ha : PE X a (JO g Γ Wx x)) : PE X (.Compare a [.IsNot] [.Constant .none j pos'] pos) (JE g Γ Wx (.notN x)) := (pe_cmp (pc_notN ha)).imp fun σ H Q h => J_notN h
theorem blOut_isN : BlOut Γ (.isN x) := fun τ r τ' h => by
  simp only [evalE] at h
  obtain ⟨_, _, _, h⟩ := bind_ok h
  obtain ⟨_, _, h⟩ := lift_ok h
  exact ⟨_, (out_ok h).symm⟩
theorem blOut_notN : BlOut Γ (.notN x) := fun τ r τ' h => by
  simp only [evalE] at h
  obtain ⟨_, _, _, h⟩ := bind_ok h
  obtain ⟨_, _, h⟩ := lift_ok h
  exact ⟨_, (out_ok h).symm⟩
theorem JC_isN (ha : PE X a (JO g Γ Wx x)) : PT X (.Compare a [.Is] [.Constant .none j pos'] pos) (JC g Γ Wx (.tv (.isN x))) := (pt_cmp (pc_isN ha)).imp fun σ H Q h => J_isN (JC_bl blOut_isN h)
theorem JC_notN (ha : PE X a (JO g Γ Wx x)) : PT X (.Compare a [.IsNot] [.Constant .none j pos'] pos) (JC g Γ Wx (.tv (.notN x))) := (pt_cmp (pc_notN ha)).imp fun σ H Q h => J_notN (JC_bl blOut_notN h)
end
end Iv
/-! Iv10: more nodes: truth, displays, subscripts, built-in functions. -/
namespace Iv
open PySem L2 PySem.Spec PyProof.Rows
section
variable {g : Cfg} {Γ : Nat → List O → COut} {Wx : WX} {X : Cx} {a b c : Expr} {x y z : E} {pos : Pos}
/-! ### and, or, not as values -/
theorem rd_bl {A : Addr → Prop} {H : Hp} {i : Bool} {v : V} (h : RdR g A H (.bl i) v) : v = .bl i := h
theorem JE_and {rest : List Expr} (ha : PE X a (JO g Γ Wx x)) (hb : PE X (.BoolOp .And (b :: rest) pos) (JE g Γ Wx y)) : PE X (.BoolOp .And (a :: b :: rest) pos) (JE g Γ Wx (.and x y)) := (pe_and ha hb).imp fun σ H Q ⟨τ, ex, ow, p⟩ => by
  simp only [evalE] at p
  refine stepO ow p fun x τ1 v H1 ow1 p1 => ?_
  obtain ⟨s, hs, p1⟩ := post_lift p1
  obtain ⟨A, wa, al⟩ := ow1.rds (rds1 hs)
  obtain ⟨v', e, r1⟩ := al.one
  have e' : [v] = [v'] := e
  cases e'
  cases s with
  | bl k =>
    refine ⟨k, rd_bl r1, ?_⟩
    cases k with
    | true => exact ⟨τ1, ex, ow1.bare, p1⟩
    | false => exact res_bl wa fun u H' w => p1 u H' (.fin ow1.gd w)
  | _ => exact p1.elim
theorem JE_or {rest : List Expr} (ha : PE X a (JO g Γ Wx x)) (hb : PE X (.BoolOp .Or (b :: rest) pos) (JE g Γ Wx y)) : PE X (.BoolOp .Or (a :: b :: rest) pos) (JE g Γ Wx (.or x y)) := (pe_or ha hb).imp fun σ H Q ⟨τ, ex, ow, p⟩ => by
  simp only [evalE] at p
  refine stepO ow p fun x τ1 v H1 ow1 p1 => ?_
  obtain ⟨s, hs, p1⟩ := post_lift p1
  obtain ⟨A, wa, al⟩ := ow1.rds (rds1 hs)
  obtain ⟨v', e, r1⟩ := al.one
  have e' : [v] = [v'] := e
  cases e'
  cases s with
  | bl k =>
    refine ⟨k, rd_bl r1, ?_⟩
    cases k with
    | false => exact ⟨τ1, ex, ow1.bare, p1⟩
    | true => exact res_bl wa fun u H' w => p1 u H' (.fin ow1.gd w)
  | _ => exact p1.elim
theorem JE_not (ha : PE X a (JO g Γ Wx x)) : PE X (.UnaryOp .Not a pos) (JE g Γ Wx (.not x)) := (pe_not ha).imp fun σ H Q ⟨τ, ex, ow, p⟩ => by
  simp only [evalE] at p
  refine stepO ow p fun x τ1 v H1 ow1 p1 => ?_
  obtain ⟨s, hs, p1⟩ := post_lift p1
  obtain ⟨A, wa, al⟩ := ow1.rds (rds1 hs)
  obtain ⟨v', e, r1⟩ := al.one
  have e' : [v] = [v'] := e
  cases e'
  cases s with
  | bl k => exact ⟨k, rd_bl r1, res_bl wa fun u H' w => p1 u H' (.fin ow1.gd w)⟩
  | _ => exact p1.elim
/-! ### .. as tests -/
theorem stepC0 {a : E} {σ : L2.St} {H : Hp} {τ : St} {ex : List Cell} {β : Type} {f : Bool → St → Out β} {P : β → St → Prop} {R : Bool → Hp → Prop} (ow : OW g σ [] [] τ ex H) (p : post g Wx σ ex ((evalC Γ a τ).bind f) P)
    (k : ∀ x τ1 H1, OW g σ [] [] τ1 ex H1 → post g Wx σ ex (f x τ1) P → R x H1) : JC g Γ Wx a σ H R := ⟨τ, ex, ow, post_mono (post_bind p) fun x τ1 q H1 ow1 => k x τ1 H1 ow1 q⟩
theorem JC_and {rest : List Expr} (ha : PT X a (JC g Γ Wx x)) (hb : PW X (.BoolOp .And (b :: rest) pos) (JC g Γ Wx y)) : PW X (.BoolOp .And (a :: b :: rest) pos) (JC g Γ Wx (.and x y)) := (pw_and ha hb).imp fun σ H Q ⟨τ, ex, ow, p⟩ => by
  simp only [evalC] at p
  refine stepC0 ow p fun k τ1 H1 ow1 p1 => ?_
  cases k with
  | true => exact ⟨τ1, ex, ow1, p1⟩
  | false => exact p1 H1 ow1
theorem JC_or {rest : List Expr} (ha : PT X a (JC g Γ Wx x)) (hb : PW X (.BoolOp .Or (b :: rest) pos) (JC g Γ Wx y)) : PW X (.BoolOp .Or (a :: b :: rest) pos) (JC g Γ Wx (.or x y)) := (pw_or ha hb).imp fun σ H Q ⟨τ, ex, ow, p⟩ => by
  simp only [evalC] at p
  refine stepC0 ow p fun k τ1 H1 ow1 p1 => ?_
  cases k with
  | false => exact ⟨τ1, ex, ow1, p1⟩
  | true => exact p1 H1 ow1
theorem JC_not (ha : PT X a (JC g Γ Wx x)) : PT X (.UnaryOp .Not a pos) (JC g Γ Wx (.not x)) := (pt_not ha).imp fun σ H Q ⟨τ, ex, ow, p⟩ => by
  simp only [evalC] at p
  exact stepC0 ow p fun k τ1 H1 ow1 p1 => p1 H1 ow1
/-- truth by what is read -/
theorem rd_truth {A : Addr → Prop} {H : Hp} {t : T} {v : V} {k : Bool} (h : RdR g A H t v) (e : t.truth = some k) : TruV g.K v H k := by
  cases t with
  | non => have r : v = .non := h; subst r; exact (Option.some.inj e).symm
  | bl i => have r : v = .bl i := h; subst r; exact (Option.some.inj e).symm
  | int i => have r : v = .int i := h; subst r; exact (Option.some.inj e).symm
  | str s =>
    have r : v = .str ⟨s.toArray⟩ := h
    subst r
    obtain ⟨hl, e2⟩ := if_some (show (if s.length ≤ sizeT then some (!s.isEmpty) else none) = some k from e)
    refine ⟨by rw [str_len, ← size_eq]; exact hl, ?_⟩
    rw [← e2, str_len]
    cases s <;> rfl
  | tup ts =>
    obtain ⟨p, vs, rfl, _, hp, r⟩ := h
    refine .inr (.inl ⟨vs, SqT.of hp, ?_⟩)
    have e2 : (!ts.isEmpty) = k := Option.some.inj e
    rw [← e2]
    have l := r.length
    cases ts <;> cases vs <;> simp_all
  | lst ts =>
    obtain ⟨p, vs, rfl, hp, r⟩ := h
    refine .inl ⟨vs, SqL.of hp, ?_⟩
    have e2 : (!ts.isEmpty) = k := Option.some.inj e
    rw [← e2]
    have l := r.length
    cases ts <;> cases vs <;> simp_all
  | dct tk ts =>
    cases tk with
    | true => cases e
    | false =>
      obtain ⟨p, vs, rfl, ⟨ks, hp, al, lk⟩, r⟩ := h
      refine .inr (.inr ⟨_, hp, ?_⟩)
      have e2 : (!ts.isEmpty) = k := Option.some.inj e
      rw [← e2]
      have l := al.length
      rw [List.length_map] at l
      cases ts <;> cases ks <;> cases vs <;> simp_all
  | scr ns => cases e
theorem JC_v {i : Nat} (hK : X.K = g.K) (ha : PE X a (tVar i)) (he : ∀ whole, isTrue a X.env whole = (do let v ← whole; standAt a.pos; holding [v] (truthy v))) : PT X a (JC g Γ Wx (.v i)) := (pt_truth ha he).imp fun σ H Q ⟨τ, ex, ow, p⟩ => by
  simp only [evalC] at p
  obtain ⟨s, hs, p⟩ := post_lift p
  obtain ⟨k, hk, p⟩ := post_lift p
  have hs' : (slot τ i).bind O.toT1 = some s := hs
  cases h0 : slot τ i with
  | none => rw [h0] at hs'; cases hs'
  | some o =>
    obtain ⟨v, ev, _⟩ := slot_get ow.gd h0
    have ow1 : OW g σ [.ref i] [v] τ ex H := ⟨ow.gd, ⟨ev, trivial⟩, ow.w⟩
    obtain ⟨A, wa, al⟩ := ow1.rds (rds1 hs)
    obtain ⟨v', e, r1⟩ := al.one
    cases e
    exact ⟨v, ev, k, by rw [hK]; exact rd_truth r1 hk, p H ow⟩
theorem JC_tv (hK : X.K = g.K) (ha : PE X a (JE g Γ Wx x)) (he : ∀ whole, isTrue a X.env whole = (do let v ← whole; standAt a.pos; holding [v] (truthy v))) : PT X a (JC g Γ Wx (.tv x)) := (pt_truth ha he).imp fun σ H Q ⟨τ, ex, ow, p⟩ => by
  simp only [evalC] at p
  refine ⟨τ, ex, ow, post_mono (post_bind p) fun o τ1 q v H1 ow1 => ?_⟩
  obtain ⟨k, hk, q⟩ := post_lift q
  cases ht : o.toT1 with
  | none => rw [ht] at hk; cases hk
  | some t =>
    rw [ht] at hk
    obtain ⟨A, wa, al⟩ := ow1.rds (rds1 (show rd τ1 (.val o) = some t from ht))
    obtain ⟨v', e, r1⟩ := al.one
    cases e
    exact ⟨k, by rw [hK]; exact rd_truth r1 hk, q H1 ow1.bare⟩
theorem JE_ite (hc : PT X c (JC g Γ Wx x)) (ha : PE X a (JE g Γ Wx y)) (hb : PE X b (JE g Γ Wx z)) : PE X (.IfExp c a b pos) (JE g Γ Wx (.ite x y z)) := (pe_ifExp hc ha hb).imp fun σ H Q ⟨τ, ex, ow, p⟩ => by
  simp only [evalE] at p
  refine stepC0 ow p fun k τ1 H1 ow1 p1 => ?_
  cases k with
  | true => exact ⟨τ1, ex, ow1, p1⟩
  | false => exact ⟨τ1, ex, ow1, p1⟩

/-! ### displays -/
variable {es : List Expr} {m : E}
theorem JE_tup {x1 : Nat} (h : PA X es (JL g Γ Wx m)) : PE X (.Tuple es x1 pos) (JE g Γ Wx (.tup m)) := (pe_tup h).imp fun σ H Q ⟨τ, ex, ow, p⟩ => by
  simp only [evalE] at p
  refine stepL ow p fun ops τ1 vs H1 ow1 p1 => ?_
  obtain ⟨ts, τ2, ht, p1⟩ := post_lift2 p1
  obtain ⟨gd, l, w⟩ := takes_ok (ops := ops) (vs := vs) ow1 ht
  split at p1
  · rename_i hl
    exact ⟨by rw [l, ← size_eq]; exact hl, fun q hq => p1 _ _ (.fin gd (w.tup l hq))⟩
  · exact p1.elim
theorem JE_lst (h : PA X es (JL g Γ Wx m)) : PE X (.List es pos) (JE g Γ Wx (.lst m)) := (pe_lst h).imp fun σ H Q ⟨τ, ex, ow, p⟩ => by
  simp only [evalE] at p
  refine stepL ow p fun ops τ1 vs H1 ow1 p1 => ?_
  obtain ⟨ts, τ2, ht, p1⟩ := post_lift2 p1
  obtain ⟨gd, l, w⟩ := takes_ok (ops := ops) (vs := vs) ow1 ht
  split at p1
  · rename_i hl
    exact ⟨by rw [l, ← size_eq]; exact hl, fun q hq => p1 _ _ (.fin gd (W.list (os := ts.map .fz) (by rw [zipO_fz]; exact w) (by rw [List.length_map]; exact l) hq))⟩
  · exact p1.elim

/-! ### subscripts -/
def plainB : Expr → Bool
  | .Slice .. => false
  | _ => true
theorem plain_ix {b : Expr} (h : plainB b = true) : PlainIx b := fun o i => by
  cases b <;> first | rfl | cases h
theorem JE_ix (hK : X.K = g.K) (hu : X.A.units + 65 < cLine) (hp : plainB b = true) (ha : PE X a (JO g Γ Wx x)) (hb : PE X b (JO g Γ Wx y)) : PE X (.Subscript a b pos) (JE g Γ Wx (.ix x y)) :=
  (pe_ix (ix_all (by omega)) ha hb (plain_ix hp)).imp fun σ H Q ⟨τ, ex, ow, p⟩ => J_op2 (hK ▸ bin_ix) ow p
/-- a bound of a slice -/
def JP (g : Cfg) (Γ : Nat → List O → COut) (Wx : WX) (m : E) : TO := fun σ H Q => ∃ τ ex, OW g σ [] [] τ ex H ∧ post g Wx σ ex (opd m (evalE Γ m) τ) fun x τ' => ∀ v H', OW g σ [x] [v] τ' ex H' → ∃ s o, rd τ' x = some s ∧ partT s = some o ∧ Q o H'
theorem _root_.L2.PO.imp {X : Cx} {e : Option Expr} {t t' : TO} (h : PO X e t) (i : ∀ σ H Q, t' σ H Q → t σ H Q) : PO X e t' := ⟨fun pins s σ H Q I q => h.run pins s σ H Q I (i σ H Q q)⟩
theorem JP_none : PO X none (JP g Γ Wx (.c .non)) := po_none.imp fun σ H Q ⟨τ, ex, ow, p⟩ => by
  obtain ⟨s, o, e1, e2, q⟩ := p V.non H ⟨ow.gd, trivial, ow.slots.put fun A => (rfl : V.non = V.non)⟩
  have e3 : T.non = s := Option.some.inj e1
  subst e3
  have e4 : none = o := Option.some.inj e2
  subst e4
  exact q
theorem JP_some (h : PE X a (JO g Γ Wx x)) : PO X (some a) (JP g Γ Wx x) := by
  -- an int, or None
  have h2 : PO X (some a) (fun σ H Q => JO g Γ Wx x σ H fun v H1 => (v = .non ∧ Q none H1) ∨ ∃ i, v = .int i ∧ Q (some i) H1) := by
    refine ⟨fun pins s σ H Q I hq => ?_⟩
    unfold evalPart
    refine thn (h.run pins s σ H _ I hq) fun v s1 ⟨x, H1, I1, r1, q1⟩ => ?_
    rcases q1 with ⟨rfl, q1⟩ | ⟨i, rfl, q1⟩
    · cases r1
      exact ⟨none, H1, I1, .none, q1⟩
    · obtain ⟨t, rfl⟩ := r1
      exact ⟨some i, H1, I1, .int i t, q1⟩
  exact h2.imp fun σ H Q ⟨τ, ex, ow, p⟩ => ⟨τ, ex, ow, post_mono p fun o τ1 k v H1 ow1 => by
    obtain ⟨s, u, e1, e2, q⟩ := k v H1 ow1
    obtain ⟨A, wa, al⟩ := ow1.rds (rds1 e1)
    obtain ⟨v', e, r1⟩ := al.one
    cases e
    cases s with
    | non =>
      have e4 : none = u := Option.some.inj e2
      subst e4
      exact .inl ⟨r1, q⟩
    | int i =>
      have e4 : some i = u := Option.some.inj e2
      subst e4
      exact .inr ⟨i, r1, q⟩
    | _ => cases e2⟩
theorem JE_sl {lo hi : Option Expr} {p2 : Pos} (hK : X.K = g.K) (ha : PE X a (JO g Γ Wx x)) (hl : PO X lo (JP g Γ Wx y)) (hh : PO X hi (JP g Γ Wx z)) : PE X (.Subscript a (.Slice lo hi none p2) pos) (JE g Γ Wx (.sl x y z)) :=
  (pe_slice sl_all ha hl hh).imp fun σ H Q ⟨τ, ex, ow, p⟩ => by
  simp only [evalE] at p
  rw [hK]
  refine stepO ow p fun x τ1 v H1 ow1 p1 => ?_
  refine ⟨τ1, temps [x] [v] ++ ex, ow1.beside, post_mono (post_more (post_bind p1)) fun y τ2 p2 w H2 ow2 => ?_⟩
  obtain ⟨s1, e1, p2⟩ := post_lift p2
  obtain ⟨l, e2, p2⟩ := post_lift p2
  refine ⟨s1, l, e1, e2, ?_⟩
  have ow3 : OW g σ [x] [v] τ2 ex H2 := by
    have q := ow2.bare.app (o1 := [x]) (v1 := [v]) ow1.rf
    exact q
  refine ⟨τ2, temps [x] [v] ++ ex, ow3.beside, post_mono (post_more (post_bind p2)) fun z τ3 p3 w' H3 ow4 => ?_⟩
  obtain ⟨s2, e3, p3⟩ := post_lift p3
  obtain ⟨h, e4, p3⟩ := post_lift p3
  refine ⟨s2, h, e3, e4, ?_⟩
  have ow5 : OW g σ [x] [v] τ3 ex H3 := ow4.bare.app (o1 := [x]) (v1 := [v]) ow3.rf
  obtain ⟨s, e5, p3⟩ := post_lift p3
  obtain ⟨r, e6, p3⟩ := post_lift p3
  obtain ⟨A, wa, al⟩ := ow5.rds (rds1 e5)
  obtain ⟨v', e, r1⟩ := al.one
  cases e
  exact slT_ok s l h r v H3 A _ Q e6 r1 wa fun u H' w => p3 u H' (.fin ow5.gd w)
end
end Iv
/-! Iv11: built-in functions, isinstance, methods, calls of own defs. -/
namespace Iv
open PySem L2 PySem.Spec PyProof.Rows
def starB : Expr → Bool
  | .Starred .. => false
  | _ => true
theorem star1 {e : Expr} {es : List Expr} {env : Env} (h : starB e = true) : starEach (e :: es) env = (false, eval e env) :: starEach es env := by
  cases e <;> first | rfl | cases h
theorem stars {env : Env} {pos : Pos} : ∀ {es : List Expr}, es.all starB = true → (backTo pos (starEach es env)).any (·.1) = false
  | [], _ => rfl
  | e :: es, h => by
    rw [List.all_cons, Bool.and_eq_true] at h
    rw [star1 h.1]
    have ih := stars (env := env) (pos := pos) h.2
    unfold backTo at ih ⊢
    rw [List.map_cons, List.any_cons, ih]
    rfl
theorem starsN {env : Env} {pos : Pos} {es : List Expr} (h : es.all starB = true) : (backTo pos (starEach es env)).all (fun x => !x.1) = true := by
  have q := stars (env := env) (pos := pos) h
  rw [List.any_eq_false] at q
  rw [List.all_eq_true]
  intro x hx
  have := q x hx
  cases hz : x.1 with
  | true => exact absurd hz this
  | false => rfl
def Bi.nm : Bi → Str
  | .len => "len" | .abs => "abs" | .int => "int" | .str => "str" | .list => "list" | .tuple => "tuple" | .sum => "sum"
  | .min1 => "min" | .max1 => "max" | .min2 => "min" | .max2 => "max" | .any => "any" | .all => "all" | .sorted => "sorted" | .set => "set"
/-- the functions that are known here, by the number of operands -/
def biTab : List (Nat × Bi) := [(1, .len), (1, .abs), (1, .int), (1, .list), (1, .tuple), (1, .sum), (1, .min1), (1, .max1), (2, .min2), (2, .max2), (1, .any), (1, .all), (1, .sorted)]
def biOf (x : Str) (n : Nat) : Option Bi := (biTab.find? fun p => p.1 == n && p.2.nm == x).map (·.2)
theorem biOf_ok {x : Str} {n : Nat} {f : Bi} (h : biOf x n = some f) : f.nm = x ∧ (n, f) ∈ biTab := by
  unfold biOf at h
  cases hf : biTab.find? fun p => p.1 == n && p.2.nm == x with
  | none => rw [hf] at h; cases h
  | some p =>
    rw [hf] at h
    have e : p.2 = f := Option.some.inj h
    have q := List.find?_some hf
    rw [Bool.and_eq_true] at q
    have e1 : p.1 = n := by simpa using q.1
    have e2 : p.2.nm = x := by simpa using q.2
    rw [← e]
    exact ⟨e2, by rw [← e1]; exact List.mem_of_find?_eq_some hf⟩

/-! ### sorted ints -/
def insI (x : Int) : List Int → List Int
  | [] => [x]
  | y :: r => if x < y then x :: y :: r else y :: insI x r
def sortI : List Int → List Int
  | [] => []
  | x :: r => insI x (sortI r)
theorem ins_int (x : Int) : ∀ ns : List Int, ins (.int x) (ns.map .int) = (insI x ns).map .int
  | [] => rfl
  | y :: r => by
    show (if T.lt (.int x) (.int y) = true then T.int x :: T.int y :: r.map .int else T.int y :: ins (.int x) (r.map .int)) = _
    unfold insI
    rw [ins_int x r]
    by_cases c : x < y
    · rw [if_pos c, if_pos (show T.lt (.int x) (.int y) = true from decide_eq_true c)]; rfl
    · rw [if_neg c, if_neg (show ¬ T.lt (.int x) (.int y) = true from fun z => c (of_decide_eq_true (p := x < y) z))]; rfl
theorem sort_int : ∀ ns : List Int, sortT (ns.map .int) = (sortI ns).map .int
  | [] => rfl
  | x :: r => by
    show ins (.int x) (sortT (r.map .int)) = _
    rw [sort_int r, ins_int]; rfl
theorem insI_perm (x : Int) : ∀ ns : List Int, (insI x ns).Perm (x :: ns)
  | [] => .refl _
  | y :: r => by
    unfold insI
    split
    · exact .refl _
    · exact ((insI_perm x r).cons y).trans (.swap _ _ _)
theorem sortI_perm : ∀ ns : List Int, (sortI ns).Perm ns
  | [] => .refl _
  | x :: r => (insI_perm x _).trans ((sortI_perm r).cons x)
theorem insI_sorted (x : Int) : ∀ {ns : List Int}, ns.Pairwise (· ≤ ·) → (insI x ns).Pairwise (· ≤ ·)
  | [], _ => List.pairwise_singleton _ _
  | y :: r, h => by
    unfold insI
    have h' := List.pairwise_cons.mp h
    split
    · rename_i c
      refine List.pairwise_cons.mpr ⟨fun z hz => ?_, h⟩
      rcases List.mem_cons.mp hz with e | hz
      · rw [e]; omega
      · have := h'.1 z hz; omega
    · rename_i c
      refine List.pairwise_cons.mpr ⟨fun z hz => ?_, insI_sorted x h'.2⟩
      rcases List.mem_cons.mp ((insI_perm x r).mem_iff.mp hz) with e | hz
      · rw [e]; omega
      · exact h'.1 z hz
theorem sortI_sorted : ∀ ns : List Int, (sortI ns).Pairwise (· ≤ ·)
  | [] => .nil
  | x :: r => insI_sorted x (sortI_sorted r)
theorem sort_uniq {ns ns' : List Int} (p : ns'.Perm ns) (s : ns'.Pairwise (· ≤ ·)) : ns' = sortI ns :=
  List.Perm.eq_of_pairwise (le := (· ≤ ·)) (fun a b _ _ h1 h2 => Int.le_antisymm h1 h2) s (sortI_sorted ns) (p.trans (sortI_perm ns).symm)
theorem ints_of : ∀ {ys : List T}, ys.all T.isInt = true → ∃ ns, ys = ns.map .int ∧ T.ints ys = some ns
  | [], _ => ⟨[], rfl, rfl⟩
  | y :: ys, h => by
    rw [List.all_cons, Bool.and_eq_true] at h
    obtain ⟨ns, e1, e2⟩ := ints_of h.2
    cases y with
    | int i => exact ⟨i :: ns, by rw [e1]; rfl, by simp only [T.ints, e2]; rfl⟩
    | _ => exact absurd h.1 (by simp [T.isInt])
section
variable {g : Cfg}
theorem fn_sorted : Fn2 g (rSortedI g.K) (fn .sorted) := by
  intro ts q vs H A cs Q e al wa k
  match ts, e with
  | [.lst ys], e =>
    obtain ⟨hc, e2⟩ := if_some (show (if sortOk ys then some (fzs (sortT ys)) else none) = some q from e)
    subst e2
    obtain ⟨v, rfl, r⟩ := al.one
    obtain ⟨a, ws, rfl, hp, r⟩ := r
    obtain ⟨ns, rfl, hn⟩ := ints_of hc
    refine ⟨a, ns, rfl, SqL.of (by rw [← r.intsV hn]; exact hp), fun ns' p hperm hs hfree => ?_⟩
    rw [sort_uniq hperm hs]
    rw [sort_int] at k
    exact res_lst wa (reps_ints _) k p hfree
end
section
variable {g : Cfg} {Γ : Nat → List O → COut} {Wx : WX} {X : Cx} {e : Expr} {es : List Expr} {m : E} {p pos : Pos}
theorem J_fn {r : List V → Hp → VK → Prop} {f : Bi} (hr : Fn2 g r (fn f)) {σ : L2.St} {H : Hp} {Q : VK} (h : JE g Γ Wx (.fn f m) σ H Q) : tCB r (JL g Γ Wx m) σ H Q := by
  obtain ⟨τ, ex, ow, p⟩ := h
  simp only [evalE] at p
  refine stepL ow p fun ops τ1 vs H1 ow1 p1 => ?_
  obtain ⟨ts, ht, p1⟩ := post_lift p1
  obtain ⟨q, hq, p1⟩ := post_lift p1
  obtain ⟨A, wa, al⟩ := OW.rds (ops := ops) (vs := vs) ow1 ht
  exact hr ts q vs H1 A _ Q hq al wa fun u H' w => p1 u H' (.fin ow1.gd w)
theorem boot_abs' : bootBuiltins "abs" = some (.builtin "abs") := by decide +kernel
theorem boot_sum' : bootBuiltins "sum" = some (.builtin "sum") := by decide +kernel
theorem boot_min' : bootBuiltins "min" = some (.builtin "min") := by decide +kernel
theorem boot_max' : bootBuiltins "max" = some (.builtin "max") := by decide +kernel
theorem boot_any' : bootBuiltins "any" = some (.builtin "any") := by decide +kernel
theorem boot_all' : bootBuiltins "all" = some (.builtin "all") := by decide +kernel
theorem boot_sorted' : bootBuiltins "sorted" = some (.builtin "sorted") := by decide +kernel
theorem boot_isinstance' : bootBuiltins "isinstance" = some (.builtin "isinstance") := by decide +kernel
theorem JE_fn (hK : X.K = g.K) (hc : X.calm = true) {f : Bi} {n : Nat} (hf : (n, f) ∈ biTab) (hg : Gl X f.nm) (hm : X.mg f.nm = none) (ha : PA X (e :: es) (JL g Γ Wx m)) (hs : (e :: es).all starB = true) :
    PE X (.Call (.Name f.nm p) (e :: es) [] pos) (JE g Γ Wx (.fn f m)) := by
  rw [List.all_cons, Bool.and_eq_true] at hs
  have h1 := star1 (es := es) (env := X.env) hs.1
  have h2 := stars (env := X.env) (pos := pos) hs.2
  cases f with
  | len => exact (pe_callB call_len hg hm boot_len ha (by decide) (by decide) h1 h2).imp fun σ H Q h => J_fn (hK ▸ fn_len) h
  | abs => exact (pe_callB call_abs hg hm boot_abs' ha (by decide) (by decide) h1 h2).imp fun σ H Q h => J_fn fn_abs h
  | int => exact (pe_callTy call_int1 hg hm boot_int ha (by decide) (by decide) h1 h2).imp fun σ H Q h => J_fn fn_int h
  | list => exact (pe_callTy call_list_of hg hm boot_list ha (by decide) (by decide) h1 h2).imp fun σ H Q h => J_fn (hK ▸ fn_list) h
  | tuple => exact (pe_callTy call_tuple_of hg hm boot_tuple ha (by decide) (by decide) h1 h2).imp fun σ H Q h => J_fn (hK ▸ fn_tuple) h
  | sum => exact (pe_callB (cr_sum hc) hg hm boot_sum' ha (by decide) (by decide) h1 h2).imp fun σ H Q h => J_fn (hK ▸ fn_sum) h
  | min1 => exact (pe_callB (cr_min hc) hg hm boot_min' ha (by decide) (by decide) h1 h2).imp fun σ H Q h => J_fn (hK ▸ fn_min1) h
  | max1 => exact (pe_callB (cr_max hc) hg hm boot_max' ha (by decide) (by decide) h1 h2).imp fun σ H Q h => J_fn (hK ▸ fn_max1) h
  | min2 => exact (pe_callB (call_min2 hc) hg hm boot_min' ha (by decide) (by decide) h1 h2).imp fun σ H Q h => J_fn fn_min2 h
  | max2 => exact (pe_callB (call_max2 hc) hg hm boot_max' ha (by decide) (by decide) h1 h2).imp fun σ H Q h => J_fn fn_max2 h
  | any => exact (pe_callB (cr_any hc) hg hm boot_any' ha (by decide) (by decide) h1 h2).imp fun σ H Q h => J_fn (hK ▸ fn_any) h
  | all => exact (pe_callB (cr_all hc) hg hm boot_all' ha (by decide) (by decide) h1 h2).imp fun σ H Q h => J_fn (hK ▸ fn_all) h
  | sorted => exact (pe_callB cr_sortedI hg hm boot_sorted' ha (by decide) (by decide) h1 h2).imp fun σ H Q h => J_fn (hK ▸ fn_sorted) h
  | str => simp [biTab] at hf
  | set => simp [biTab] at hf
/-! ### isinstance -/
def tyOf (x : Str) : Option Ty := if x = "int" then some .int else if x = "bool" then some .bool else if x = "str" then some .str else if x = "tuple" then some .tuple else if x = "list" then some .list else none
theorem tyOf_ok {x : Str} {t : Ty} (h : tyOf x = some t) : bootBuiltins x = some (.type t.nm) ∧ x ≠ "__name__" ∧ (x == ("__debug__" : Str)) = false := by
  unfold tyOf at h
  split at h
  · rename_i e; subst e; cases h; exact ⟨boot_int, by decide, by decide⟩
  split at h
  · rename_i e; subst e; cases h; exact ⟨boot_bool, by decide, by decide⟩
  split at h
  · rename_i e; subst e; cases h; exact ⟨boot_str, by decide, by decide⟩
  split at h
  · rename_i e; subst e; cases h; exact ⟨boot_tuple, by decide, by decide⟩
  split at h
  · rename_i e; subst e; cases h; exact ⟨boot_list, by decide, by decide⟩
  · cases h
theorem JE_isi {x : Str} {p2 : Pos} {t : Ty} {a : E} (hK : X.K = g.K) (ht : tyOf x = some t) (hg : Gl X "isinstance") (hm : X.mg "isinstance" = none) (hg2 : Gl X x) (hm2 : X.mg x = none) (hs : starB e = true) (ha : PE X e (JO g Γ Wx a)) :
    PE X (.Call (.Name "isinstance" p) [e, .Name x p2] [] pos) (JE g Γ Wx (.isi a t)) := by
  obtain ⟨b1, b2, b3⟩ := tyOf_ok ht
  have hT : PE X (.Name x p2) (tC (.ty t.nm)) := pe_bltn hg2 hm2 b1 rfl b2 b3
  refine (pe_callB call_isi hg hm boot_isinstance' (pa_cons ha (pa_cons hT pa_nil) (star1 hs)) (by decide) (by decide) (star1 hs) (stars (es := [.Name x p2]) rfl)).imp fun σ H Q ⟨τ, ex, ow, p⟩ => ?_
  simp only [evalE] at p
  refine stepO ow p fun x τ1 v H1 ow1 p1 => ?_
  obtain ⟨s, hs, p1⟩ := post_lift p1
  obtain ⟨q, hq, p1⟩ := post_lift p1
  obtain ⟨b, rfl⟩ := map_fz hq
  have hb : isiT s t = some b := by
    cases hz : isiT s t with
    | none => rw [hz] at hq; cases hq
    | some c =>
      rw [hz] at hq
      cases hq; rfl
  obtain ⟨A, wa, al⟩ := ow1.rds (rds1 hs)
  obtain ⟨v', e, r1⟩ := al.one
  cases e
  refine ⟨v, .ty t.nm, .type s.ty, .type t.nm, b, rfl, .ty _, ?_, kit_ty (isi_kit s t b hb), res_bl wa fun u H' w => p1 u H' (.fin ow1.gd w)⟩
  rw [hK]
  exact isi_ty hb r1
end
end Iv
/-! Iv12: calls of own defs; methods. -/
namespace Iv
open PySem L2 PySem.Spec PyProof.Rows

/-- what a def promises: as G says -/
def spI (g : Cfg) (G : List O → COut) : Sp := fun vs H Q E => ∃ os ex, vs.length = os.length ∧ W g H (zipO vs os ++ ex) ∧ match G os with
  | .ok r as => ∀ u H', W g H' (.c u r :: (cellsOf (vs.map some) as ++ ex)) → Q u H'
  | .exc x as => ∀ H' cls d ws, ExAt g x cls d H' ws → W g H' (zipT ws x.fs ++ (cellsOf (vs.map some) as ++ ex)) → E cls d H'
  | .stuck => False

section
variable {g : Cfg} {σ : L2.St} {H : Hp}
theorem pswap {α : Type} (a b c : List α) : (a ++ (b ++ c)).Perm (b ++ (a ++ c)) := by
  rw [← List.append_assoc, ← List.append_assoc]
  exact List.perm_append_comm.append_right c
theorem zip_cons {v : V} {o : O} {vs : List V} {os : List O} : zipO (v :: vs) (o :: os) = .c v o :: zipO vs os := rfl
/-- the operands are moved -/
theorem moves_ok : ∀ {ops : List Opd} {vs : List V} {τ τ' : St} {ex : List Cell} {os : List O}, OW g σ ops vs τ ex H → moves τ ops = some (os, τ') → Good σ τ' ∧ vs.length = os.length ∧ W g H (zipO vs os ++ (cellsOf σ τ' ++ ex))
  | [], [], τ, τ', ex, ts, h, e => by
    have e2 := Option.some.inj e
    have e3 : [] = ts := congrArg Prod.fst e2
    have e4 : τ = τ' := congrArg Prod.snd e2
    subst e3 e4
    exact ⟨h.gd, rfl, h.w⟩
  | x :: r, v :: vs, τ, τ', ex, ts, h, e => by
    simp only [moves] at e
    cases h1 : move τ x with
    | none => rw [h1] at e; cases e
    | some p =>
      obtain ⟨t, τ1⟩ := p
      rw [h1] at e
      cases h2 : moves τ1 r with
      | none => simp only [Option.bind_eq_bind, Option.bind_some, h2] at e; cases e
      | some p2 =>
        obtain ⟨ts', τ2⟩ := p2
        simp only [Option.bind_eq_bind, Option.bind_some, h2] at e
        have e2 := Option.some.inj e
        have e3 : t :: ts' = ts := congrArg Prod.fst e2
        have e4 : τ2 = τ' := congrArg Prod.snd e2
        subst e3 e4
        have step : OW g σ r vs τ1 (.c v t :: ex) H := by
          cases x with
          | val o =>
            simp only [move] at h1
            have e5 := Option.some.inj h1
            have e6 : o = t := congrArg Prod.fst e5
            have e7 : τ = τ1 := congrArg Prod.snd e5
            subst e6 e7
            refine ⟨h.gd, h.rf, ?_⟩
            have w : W g H (.c v o :: (temps r vs ++ (cellsOf σ τ ++ ex))) := h.w
            refine w.perm ?_
            rw [← List.append_assoc, ← List.append_assoc]
            exact List.perm_middle.symm
          | ref i =>
            have w0 : W g H (temps r vs ++ (cellsOf σ τ ++ ex)) := h.w
            simp only [move] at h1
            cases hs : slot τ i with
            | none => rw [hs] at h1; cases h1
            | some o =>
              rw [hs] at h1
              obtain ⟨v', ev, p⟩ := slot_get h.gd hs
              have ev2 : v' = v := by
                have := h.rf.1
                rw [ev] at this
                exact Option.some.inj (Option.some.inj this)
              subst ev2
              have w1 : W g H (.c v' o :: (cellsOf σ (τ.set i none) ++ (temps r vs ++ ex))) := by
                refine w0.perm ?_
                rw [← List.append_assoc]
                refine ((List.perm_append_comm (l₁ := temps r vs)).append_right ex).trans ?_
                rw [List.append_assoc]
                exact p.append_right _
              -- frozen: it stays; one's own: it goes
              have fin : ∀ {τ1 : St}, Good σ τ1 → W g H (.c v' t :: (cellsOf σ τ1 ++ (temps r vs ++ ex))) → OW g σ r vs τ1 (.c v' t :: ex) H := fun {τ1} gd w => by
                refine ⟨gd, h.rf.2, w.perm ?_⟩
                refine List.Perm.trans (List.Perm.cons _ (pswap _ _ _)) ?_
                refine List.Perm.trans ?_ (List.Perm.append_left _ List.perm_middle.symm)
                exact List.perm_middle.symm
              by_cases hf : ∃ u, o = .fz u
              · obtain ⟨u, rfl⟩ := hf
                have e5 := Option.some.inj h1
                have e6 : O.fz u = t := congrArg Prod.fst e5
                have e7 : τ = τ1 := congrArg Prod.snd e5
                subst e6 e7
                refine fin h.gd ?_
                refine w1.dup.perm ?_
                exact List.Perm.cons _ (p.symm.append_right _)
              · have h1' : some (o, τ.set i none) = some (t, τ1) := by
                  cases o with
                  | fz u => exact absurd ⟨u, rfl⟩ hf
                  | lst _ => exact h1
                  | dct _ _ => exact h1
                  | obj _ _ => exact h1
                have e5 := Option.some.inj h1'
                have e6 : o = t := congrArg Prod.fst e5
                have e7 : τ.set i none = τ1 := congrArg Prod.snd e5
                subst e6 e7
                exact fin (h.gd.none i) w1
        obtain ⟨gd, l, w⟩ := moves_ok (ops := r) step h2
        refine ⟨gd, by rw [List.length_cons, List.length_cons, l], w.perm ?_⟩
        show (zipO vs ts' ++ (cellsOf σ τ2 ++ (Cell.c v t :: ex))).Perm (Cell.c v t :: (zipO vs ts' ++ (cellsOf σ τ2 ++ ex)))
        rw [← List.append_assoc, ← List.append_assoc]
        exact List.perm_middle
  | [], _ :: _, _, _, _, _, h, _ => h.rf.elim
  | .val _ :: _, [], _, _, _, _, h, _ => h.rf.elim
  | .ref _ :: _, [], _, _, _, _, h, _ => h.rf.elim
/-- .. and come back -/
theorem back_ok : ∀ {ops : List Opd} {os : List O} {as : St} {vs : List V} {τ : St} {ex : List Cell} {H : Hp}, Refs σ ops vs → Good σ τ → W g H (cellsOf (vs.map some) as ++ (cellsOf σ τ ++ ex)) → Good σ (back ops os as τ) ∧ W g H (cellsOf σ (back ops os as τ) ++ ex)
  | [], _, _, _, _, _, _, _, gd, w => by
    unfold back
    exact ⟨gd, w.dropL⟩
  | .ref i :: r, [], as, vs, τ, ex, H, rf, gd, w => by
    unfold back
    exact ⟨gd, w.dropL⟩
  | .val _ :: r, [], as, vs, τ, ex, H, rf, gd, w => by
    unfold back
    exact ⟨gd, w.dropL⟩
  | .ref i :: r, o :: os, [], vs, τ, ex, H, rf, gd, w => by
    unfold back
    exact ⟨gd, w.dropL⟩
  | .val _ :: r, o :: os, [], vs, τ, ex, H, rf, gd, w => by
    unfold back
    exact ⟨gd, w.dropL⟩
  | .val _ :: r, o :: os, a :: as, v :: vs, τ, ex, H, rf, gd, w => by
    unfold back
    refine back_ok (ops := r) (vs := vs) rf gd ?_
    cases a with
    | none => exact w
    | some _ => exact w.drop
  | .ref i :: r, o :: os, a :: as, v :: vs, τ, ex, H, rf, gd, w => by
    unfold back
    refine back_ok (ops := r) (vs := vs) rf.2 ?_ ?_
    · split
      · exact gd
      · cases a with
        | none => exact gd.none i
        | some o' => exact (slot_put o' gd rf.1).1
    · split
      · cases a with
        | none => exact w
        | some _ => exact w.drop
      · cases a with
        | none =>
          obtain ⟨cs, p⟩ := slot_drop i gd
          have w2 : W g H (cs ++ (cellsOf (vs.map some) as ++ (cellsOf σ (τ.set i none) ++ ex))) := by
            have w' : W g H (cellsOf (vs.map some) as ++ (cellsOf σ τ ++ ex)) := w
            refine w'.perm ?_
            refine (List.Perm.append_left _ (p.append_right ex)).trans ?_
            rw [List.append_assoc cs]
            exact pswap _ _ _
          exact w2.dropL
        | some o' =>
          obtain ⟨cs, p⟩ := slot_drop i gd
          obtain ⟨gd2, p2⟩ := slot_put o' gd rf.1
          have w' : W g H (.c v o' :: (cellsOf (vs.map some) as ++ (cellsOf σ τ ++ ex))) := w
          have w2 : W g H (cs ++ (.c v o' :: (cellsOf (vs.map some) as ++ (cellsOf σ (τ.set i none) ++ ex)))) := by
            refine w'.perm ?_
            refine (List.Perm.cons _ ?_).trans List.perm_middle.symm
            refine (List.Perm.append_left _ (p.append_right ex)).trans ?_
            rw [List.append_assoc cs]
            exact pswap _ _ _
          refine w2.dropL.perm ?_
          refine List.Perm.trans List.perm_middle.symm ?_
          exact List.Perm.append_left _ (p2.symm.append_right ex)
  | .ref i :: r, _ :: _, _ :: _, [], _, _, _, rf, _, _ => rf.elim
  | .val _ :: r, _ :: _, _ :: _, [], _, _, _, rf, _, _ => rf.elim
end
section
variable {g : Cfg} {Γ : Nat → List O → COut} {Wx : WX} {X : Cx} {e : Expr} {es : List Expr} {m : E} {p pos : Pos}
/-- a call of an own def -/
theorem J_call {f : Nat} {σ : L2.St} {H : Hp} {Q : VK} (h : JE g Γ Wx (.call f m) σ H Q) : tCallSD (spI g (Γ f)) [] (WE Wx) (JL g Γ Wx m) σ H Q := by
  obtain ⟨τ, ex, ow, p⟩ := h
  simp only [evalE] at p
  refine stepL ow p fun ops τ1 vs H1 ow1 p1 => ?_
  obtain ⟨os, τ2, hm, p1⟩ := post_lift2 p1
  obtain ⟨gd, l, w⟩ := moves_ok (ops := ops) (vs := vs) ow1 hm
  have rf : Refs σ ops vs := ow1.rf
  rw [List.append_nil]
  refine ⟨os, cellsOf σ τ2 ++ ex, l, w, ?_⟩
  cases hG : Γ f os with
  | stuck => rw [hG] at p1; exact p1
  | ok r as =>
    rw [hG] at p1
    intro u H' w'
    have wb := w'.drop
    have h2 := back_ok (os := os) rf gd wb
    -- with the result beside
    have h3 : Good σ (back ops os as τ2) ∧ W g H' (cellsOf σ (back ops os as τ2) ++ (.c u r :: ex)) := back_ok (os := os) rf gd (w'.perm (by
      rw [← List.append_assoc, ← List.append_assoc]
      exact List.perm_middle.symm))
    exact p1 u H' (.fin h3.1 (h3.2.perm List.perm_middle))
  | exc x as =>
    rw [hG] at p1
    intro H' cls d ws hx w'
    have h3 : Good σ (back ops os as τ2) ∧ W g H' (cellsOf σ (back ops os as τ2) ++ (zipT ws x.fs ++ ex)) := back_ok (os := os) rf gd (w'.perm (by
      rw [← List.append_assoc, ← List.append_assoc, ← List.append_assoc, ← List.append_assoc]
      refine List.Perm.append_right ex ?_
      rw [List.append_assoc (zipT ws x.fs)]
      exact List.perm_append_comm))
    refine p1 H' cls d ws hx h3.1 (h3.2.perm ?_)
    rw [← List.append_assoc, ← List.append_assoc]
    exact List.perm_append_comm.append_right ex
/-- what is known of an own def that may be called -/
structure DfOk (g : Cfg) (G : List O → COut) (X : Cx) (x : Str) : Prop where
  ex : ∃ (a : Addr) (k : Nat) (fd : FuncData) (ps : List Str), FnOk X.prog X.w X.K X.mg X.base (L2.CX X.prog X.w) k a fd ps (spI g G) ∧ Room k X.A ∧ X.mg x = some (.ref a) ∧ PySem.W.keepIn X.K (.ref a) = true ∧ Binds X.K fd ps []
theorem JE_call {x : Str} {f : Nat} (D : DfOk g (Γ f) X x) (tk : Takes X Wx) (hg : Gl X x) (hd : (x == ("__debug__" : Str)) = false) (ha : PA X (e :: es) (JL g Γ Wx m)) (hs : (e :: es).all starB = true) :
    PE X (.Call (.Name x p) (e :: es) [] pos) (JE g Γ Wx (.call f m)) := by
  rw [List.all_cons, Bool.and_eq_true] at hs
  obtain ⟨a, k, fd, ps, F, hr, hm, hk, hb⟩ := D.ex
  exact (pe_callSD F hr hg hm hk hb .nil (passAt tk) ha hd (star1 hs.1) (stars hs.2)).imp fun σ H Q h => J_call h
end
end Iv
/-! Iv13: methods; targets. -/
namespace Iv
open PySem L2 PySem.Spec PyProof.Rows
section
variable {g : Cfg} {Γ : Nat → List O → COut} {Wx : WX} {X : Cx} {o e : Expr} {es : List Expr} {m : E} {p pos apos cpos : Pos} {i : Nat}
/-! ### methods of one's own lists -/
/-- what a list method owes: written at p, the items' cells -/
def Mut2 (g : Cfg) (r : V → List V → Hp → VK → Prop) (m : Mt) : Prop :=
  ∀ (os : List O) (ts : List T) (q : O × O) (p : Addr) (vs ws : List V) (H : Hp) (cs : List Cell) (Q : VK), mthO m (.lst os) ts = some q → ws.length = ts.length → vs.length = os.length →
    W g H (.pt p (.lst vs) :: (zipO vs os ++ (zipT ws ts ++ cs))) → (∀ u H', W g H' (.c u q.2 :: .c (.ref p) q.1 :: cs) → Q u H') → r (.ref p) ws H Q
theorem isLst_ty {τ : St} {σ : L2.St} {ops : List Opd} {vs : List V} {ex : List Cell} {H : Hp} {v : V} {o : O} (ow : OW g σ ops vs τ ex H) (hi : σ[i]? = some (some v)) (hs : slot τ i = some o) (hl : o.isLst = true) : tyV g.K "list" v H := by
  obtain ⟨v', ev, p⟩ := slot_get ow.gd hs
  rw [ev] at hi
  cases hi
  have w := ow.slots.perm (p.append_right ex)
  cases o with
  | fz t =>
    cases t with
    | lst ts =>
      obtain ⟨q, ws, rfl, _, hq, _⟩ := w.openF
      exact .inl ⟨rfl, ws, SqL.of hq⟩
    | _ => cases hl
  | lst os =>
    obtain ⟨q, ws, rfl, _, w⟩ := w.openL
    exact .inl ⟨rfl, ws, SqL.of w.read⟩
  | _ => cases hl
theorem mthO_lst {m : Mt} {o : O} {ts : List T} {q : O × O} (h : mthO m o ts = some q) : ∃ os, o = .lst os := by
  cases o with
  | lst os => exact ⟨os, rfl⟩
  | _ => cases m <;> simp [mthO] at h
theorem J_mut {r : V → List V → Hp → VK → Prop} {m : Mt} {a : E} (hm : m.mutates = true) (hr : Mut2 g r m) {σ : L2.St} {H : Hp} {Q : VK} (h : JE g Γ Wx (.mth m (.v i) a) σ H Q) : tBM g.K "list" r (tVar i) (JL g Γ Wx a) σ H Q := by
  obtain ⟨τ, ex, ow, p⟩ := h
  simp only [evalE, hm, if_true, opd] at p
  cases h0 : slot τ i with
  | none => rw [h0] at p; exact p.elim
  | some o1 =>
    rw [h0] at p
    have p : post g Wx σ ex (lift (slot τ i) fun o1 => if o1.isLst then (evalL Γ a τ).bind fun ops τ2 => lift2 (takes τ2 ops) fun ts τ3 => lift (slot τ3 i) fun o => lift (mthO m o ts) fun q => .ok q.2 (τ3.set i (some q.1)) else .stuck) _ := p
    rw [h0] at p
    have p : post g Wx σ ex (if o1.isLst then (evalL Γ a τ).bind fun ops τ2 => lift2 (takes τ2 ops) fun ts τ3 => lift (slot τ3 i) fun o => lift (mthO m o ts) fun q => .ok q.2 (τ3.set i (some q.1)) else .stuck) _ := p
    obtain ⟨v, ev, _⟩ := slot_get ow.gd h0
    split at p
    · rename_i hl
      refine ⟨v, ev, isLst_ty ow ev h0 hl, ?_⟩
      refine stepL ow p fun ops τ2 ws H2 ow2 p2 => ?_
      obtain ⟨ts, τ3, ht, p2⟩ := post_lift2 p2
      obtain ⟨gd, l, w⟩ := takes_ok (ops := ops) (vs := ws) ow2 ht
      obtain ⟨o, ho, p3⟩ := post_lift p2
      obtain ⟨q, hq, p4⟩ := post_lift p3
      obtain ⟨os, rfl⟩ := mthO_lst hq
      obtain ⟨v', ev', pp⟩ := slot_get gd ho
      rw [ev] at ev'
      cases ev'
      have w1 : W g H2 (.c v (.lst os) :: (zipT ws ts ++ (cellsOf σ (τ3.set i none) ++ ex))) := by
        refine w.perm ?_
        refine (List.Perm.append_left _ (pp.append_right ex)).trans ?_
        exact List.perm_middle
      obtain ⟨q2, vs, rfl, lv, w2⟩ := w1.openL
      refine hr os ts q q2 vs ws H2 (cellsOf σ (τ3.set i none) ++ ex) Q hq l lv w2 fun u H' w3 => ?_
      obtain ⟨gd2, p5⟩ := slot_put q.1 gd ev
      refine p4 u H' (.fin gd2 (w3.perm (List.Perm.cons _ ?_)))
      exact (p5.symm.append_right ex)
    · exact p.elim
theorem zipO_app (vs ws : List V) (os ps : List O) (h : vs.length = os.length) : zipO (vs ++ ws) (os ++ ps) = zipO vs os ++ zipO ws ps := by
  unfold zipO
  exact List.zipWith_append h
theorem mut_append : Mut2 g rAppend .append := by
  intro os ts q p vs ws H cs Q e lw lv w k
  match ts, e with
  | [t], e =>
    obtain ⟨hc, e2⟩ := if_some (show (if os.length < sizeT then some (O.lst (os ++ [.fz t]), O.fz .non) else none) = some q from e)
    subst e2
    match ws, lw with
    | [y], _ =>
      refine ⟨p, vs, y, rfl, rfl, w.read, by rw [lv, ← size_eq]; exact hc, k _ _ ?_⟩
      refine W.put ?_ fun A => (rfl : V.non = V.non)
      refine W.closeL (vs := vs ++ [y]) ?_ (by rw [List.length_append, List.length_append, lv]; rfl)
      rw [zipO_app vs [y] os [.fz t] lv, List.append_assoc]
      exact w.write
theorem reps_zip {A : Addr → Prop} {H : Hp} {vs : List V} {ts : List T} {fp : List Addr} (l : vs.length = ts.length) (h : OwnC g A H (zipT vs ts) fp) : Reps g A H ts vs := (Reps.of_cells l h).1
theorem mut_extend : Mut2 g rExtend .extend := by
  intro os ts q p vs ws H cs Q e lw lv w k
  match ts, e with
  | [.lst us], e =>
    obtain ⟨hc, e2⟩ := if_some (show (if os.length + us.length ≤ sizeT then some (O.lst (os ++ us.map .fz), O.fz .non) else none) = some q from e)
    subst e2
    match ws, lw with
    | [y], _ =>
      have w1 : W g H (.c y (.fz (.lst us)) :: (.pt p (.lst vs) :: (zipO vs os ++ cs))) := by
        refine w.perm ?_
        refine (List.Perm.cons _ (pswap _ _ _)).trans ?_
        exact .swap _ _ _
      obtain ⟨b, zs, rfl, lz, hb, w2⟩ := w1.openF
      have w3 : W g H (.pt p (.lst vs) :: (zipT zs us ++ (zipO vs os ++ cs))) := by
        have w4 : W g H (.c (.ref b) (.fz (.lst us)) :: (zipT zs us ++ (.pt p (.lst vs) :: (zipO vs os ++ cs)))) := w2.perm List.perm_middle
        exact w4.drop.perm List.perm_middle
      refine ⟨p, b, vs, zs, rfl, rfl, w.read, hb, by rw [lv, lz, ← size_eq]; exact hc, k _ _ ?_⟩
      refine W.put ?_ fun A => (rfl : V.non = V.non)
      refine W.closeL (vs := vs ++ zs) ?_ (by rw [List.length_append, List.length_append, List.length_map, lv, lz])
      rw [zipO_app vs zs os _ lv, zipO_fz, List.append_assoc]
      exact (w3.write).perm (List.Perm.cons _ (pswap _ _ _))
theorem mut_pop0 : Mut2 g rPop .pop0 := by
  intro os ts q p vs ws H cs Q e lw lv w k
  match ts, e with
  | [], e =>
    have e : os.getLast?.map (fun o => (O.lst os.dropLast, o)) = some q := e
    cases hl : os.getLast? with
    | none => rw [hl] at e; cases e
    | some o =>
      rw [hl] at e
      have e2 : (O.lst os.dropLast, o) = q := Option.some.inj e
      subst e2
      match ws, lw with
      | [], _ =>
        have hne : os ≠ [] := fun z => by rw [z] at hl; cases hl
        have hv : vs ≠ [] := fun z => by
          rw [z] at lv
          exact hne (List.length_eq_zero_iff.mp lv.symm)
        have eo : os = os.dropLast ++ [o] := by
          rw [List.getLast?_eq_some_getLast hne] at hl
          rw [← Option.some.inj hl, List.dropLast_concat_getLast]
        have ev : vs = vs.dropLast ++ [vs.getLast hv] := (List.dropLast_concat_getLast hv).symm
        have ld : vs.dropLast.length = os.dropLast.length := by rw [List.length_dropLast, List.length_dropLast, lv]
        refine ⟨p, vs, vs.getLast hv, rfl, rfl, w.read, ?_, k _ _ ?_⟩
        · rw [← List.getLast?_eq_getElem?, List.getLast?_eq_some_getLast hv]
        · have w1 : W g (upd H p (.lst vs.dropLast)) (.pt p (.lst vs.dropLast) :: (zipO (vs.dropLast ++ [vs.getLast hv]) (os.dropLast ++ [o]) ++ cs)) := by
            rw [← ev, ← eo]
            exact w.write
          rw [zipO_app _ _ _ _ ld, List.append_assoc] at w1
          have w2 : W g (upd H p (.lst vs.dropLast)) (.pt p (.lst vs.dropLast) :: (zipO vs.dropLast os.dropLast ++ (.c (vs.getLast hv) o :: cs))) := w1
          exact (W.closeL w2 ld).perm (.swap _ _ _)
theorem zipO_get : ∀ {vs : List V} {os : List O} {j : Nat} {o : O}, vs.length = os.length → os[j]? = some o → ∃ v, vs[j]? = some v ∧ (zipO vs os).Perm (.c v o :: zipO (vs.eraseIdx j) (os.eraseIdx j))
  | [], [], _, _, _, h => by simp at h
  | v :: vs, o' :: os, 0, o, _, h => by
    have e : o' = o := by simpa using h
    subst e
    exact ⟨v, rfl, .refl _⟩
  | v :: vs, o' :: os, j + 1, o, l, h => by
    obtain ⟨u, e, p⟩ := zipO_get (vs := vs) (os := os) (j := j) (by simpa using l) (by simpa using h)
    exact ⟨u, by simpa using e, (List.Perm.cons _ p).trans (.swap _ _ _)⟩
  | [], _ :: _, _, _, l, _ => by simp at l
  | _ :: _, [], _, _, l, _ => by simp at l
theorem mut_pop1 : Mut2 g rPopAt .pop1 := by
  intro os ts q p vs ws H cs Q e lw lv w k
  match ts, e with
  | [.int i], e =>
    have e : (if decide (-(2 ^ 63) ≤ i) && decide (i < 2 ^ 63) then (place os.length i).bind (fun j => (os[j]?).map fun o => (O.lst (os.eraseIdx j), o)) else none) = some q := e
    obtain ⟨hc, e⟩ : (decide (-(2 ^ 63) ≤ i) && decide (i < 2 ^ 63)) = true ∧ (place os.length i).bind (fun j => (os[j]?).map fun o => (O.lst (os.eraseIdx j), o)) = some q := by
      split at e
      · rename_i h; exact ⟨h, e⟩
      · cases e
    cases hj : place os.length i with
    | none => rw [hj] at e; cases e
    | some j =>
      rw [hj] at e
      cases ho : os[j]? with
      | none => simp only [Option.bind_some, ho] at e; cases e
      | some o =>
        simp only [Option.bind_some, ho] at e
        have e2 : (O.lst (os.eraseIdx j), o) = q := Option.some.inj e
        subst e2
        match ws, lw with
        | [y], _ =>
          obtain ⟨v, hv, pp⟩ := zipO_get lv ho
          obtain ⟨A, ry⟩ := (w.perm (ds := .c y (.fz (.int i)) :: (.pt p (.lst vs) :: (zipO vs os ++ cs))) (by
            refine (List.Perm.cons _ (pswap _ _ _)).trans ?_
            exact .swap _ _ _)).rep
          have hj' : ixN vs.length i = some j := by rw [lv, ← place_eq]; exact hj
          obtain ⟨h1, h2, h3, h4⟩ := ixN_seq hj'
          have hi : -(2 ^ 63) ≤ i ∧ i < 2 ^ 63 := ⟨of_decide_eq_true (p := -(2 ^ 63) ≤ i) (and2 hc).1, of_decide_eq_true (p := i < 2 ^ 63) (and2 hc).2⟩
          refine ⟨p, vs, i, j, v, rfl, by rw [show y = V.int i from ry], w.read, hi.1, hi.2, h1, hv, k _ _ ?_⟩
          have w1 : W g H (.pt p (.lst vs) :: (zipO vs os ++ cs)) := by
            have w0 : W g H (.c y (.fz (.int i)) :: (.pt p (.lst vs) :: (zipO vs os ++ cs))) := w.perm (by
              refine (List.Perm.cons _ (pswap _ _ _)).trans ?_
              exact .swap _ _ _)
            exact w0.drop
          have w2 : W g (upd H p (.lst (vs.eraseIdx j))) (.pt p (.lst (vs.eraseIdx j)) :: (zipO (vs.eraseIdx j) (os.eraseIdx j) ++ (.c v o :: cs))) := by
            refine (w1.write (y := .lst (vs.eraseIdx j))).perm (List.Perm.cons _ ?_)
            exact (pp.append_right cs).trans List.perm_middle.symm
          exact (W.closeL w2 (by rw [List.length_eraseIdx, List.length_eraseIdx, lv])).perm (.swap _ _ _)
end
end Iv
/-! Iv14: method calls; targets. -/
namespace Iv
open PySem L2 PySem.Spec PyProof.Rows
/-- no call of super and the like -/
def plainO : Expr → Bool
  | .Call .. => false
  | _ => true
theorem plain_o {o : Expr} {a : Str} {env : Env} (h : plainO o = true) : attributeBase o a env (eval o env) = eval o env := by
  cases o <;> first | rfl | cases h
theorem few_ok {es : List Expr} {env : Env} {pos : Pos} (h : es.all starB = true) (hl : es.length < 30) : ((backTo pos (starEach es env)).all (fun x => !x.1) && (backToKw pos (keywordEach [] env)).all (fun x => x.1.isSome)
      && decide (es.length + ([] : List Keyword).length + (if ([] : List Keyword).isEmpty then 0 else 1) < 30)) = true := by
  rw [starsN h]
  show (true && true && decide (es.length + 0 + 0 < 30)) = true
  rw [decide_eq_true (by omega)]
  rfl
section
variable {g : Cfg} {Γ : Nat → List O → COut} {Wx : WX} {X : Cx} {o e f : Expr} {es : List Expr} {m x y z : E} {p pos apos cpos : Pos} {i : Nat}
def Mt.nm : Mt → Str
  | .append => "append" | .extend => "extend" | .pop0 => "pop" | .pop1 => "pop" | .count => "count" | .index => "index" | .join => "join" | .replace => "replace"
theorem JE_mut1 {mt : Mt} (hm : mt = .append ∨ mt = .extend ∨ mt = .pop1) (hK : X.K = g.K) (hline : (apos.endLine == cpos.line) = true) (ho : PE X o (tVar i)) (hp : plainO o = true) (ha : PA X (e :: es) (JL g Γ Wx m)) (hs : (e :: es).all starB = true) (hl : (e :: es).length < 30) :
    PE X (.Call (.Attribute o mt.nm apos) (e :: es) [] cpos) (JE g Γ Wx (.mth mt (.v i) m)) := by
  have hs' := hs
  rw [List.all_cons, Bool.and_eq_true] at hs'
  have h1 := star1 (es := es) (env := X.env) hs'.1
  have h2 := stars (env := X.env) (pos := cpos) hs'.2
  have few := few_ok (env := X.env) (pos := cpos) hs hl
  rcases hm with rfl | rfl | rfl
  · exact (pe_bm PySem.F.plainAttrs_list PySem.F.slot_list_append PySem.F.type_list_append mt_append ho ha (plain_o hp) few hline h1 h2).imp fun σ H Q h => by rw [hK]; exact J_mut rfl mut_append h
  · exact (pe_bm PySem.F.plainAttrs_list PySem.F.slot_list_extend PySem.F.type_list_extend mt_extend ho ha (plain_o hp) few hline h1 h2).imp fun σ H Q h => by rw [hK]; exact J_mut rfl mut_extend h
  · exact (pe_bm PySem.F.plainAttrs_list PySem.F.slot_list_pop PySem.F.type_list_pop mt_popAt ho ha (plain_o hp) few hline h1 h2).imp fun σ H Q h => by rw [hK]; exact J_mut rfl mut_pop1 h
theorem JE_mut0 (hK : X.K = g.K) (hline : (apos.endLine == cpos.line) = true) (ho : PE X o (tVar i)) (hp : plainO o = true) : PE X (.Call (.Attribute o Mt.pop0.nm apos) [] [] cpos) (JE g Γ Wx (.mth .pop0 (.v i) .nil)) :=
  (pe_bm0 PySem.F.plainAttrs_list PySem.F.slot_list_pop PySem.F.type_list_pop mt_pop ho (plain_o hp) hline).imp fun σ H Q h => by
  rw [hK]
  obtain ⟨v, ev, ty, h⟩ := J_mut (a := .nil) rfl mut_pop0 h
  obtain ⟨τ, ex, ow, p⟩ := h
  exact ⟨v, ev, ty, p [] H ow⟩
/-- d.get(k, x) -/
theorem JE_get (hu : X.A.units + 65 < cLine) (hline : (apos.endLine == cpos.line) = true) (ho : PE X o (JO g Γ Wx x)) (hp : plainO o = true) (he : PE X e (JO g Γ Wx y)) (hf : PE X f (JO g Γ Wx z)) (hs : [e, f].all starB = true) :
    PE X (.Call (.Attribute o "get" apos) [e, f] [] cpos) (JE g Γ Wx (.get x y z)) := by
  have hs' := hs
  rw [List.all_cons, Bool.and_eq_true, List.all_cons, Bool.and_eq_true] at hs'
  refine (pe_dget2 (by omega) ho he hf ⟨plain_o hp, few_ok hs (by simp), hline, ?_⟩).imp fun σ H Q ⟨τ, ex, ow, p⟩ => ?_
  · rw [star1 hs'.1, star1 hs'.2.1]; rfl
  simp only [evalE] at p
  refine stepO ow p fun x τ1 v H1 ow1 p1 => ?_
  obtain ⟨s0, h0, p1⟩ := post_lift p1
  cases s0 with
  | dct tk kvs =>
    have p1 : post g Wx σ ex ((opd y (evalE Γ y) τ1).bind fun y τ2 => (opd z (evalE Γ z) τ2).bind fun z τ3 =>
      lift (rd τ3 x) fun s => lift (rd τ3 y) fun t => lift2 (take τ3 z) fun u τ4 => lift (getT s t u) fun r => Out.ok (O.fz r) τ4) _ := p1
    obtain ⟨A, wa, al⟩ := ow1.rds (rds1 h0)
    obtain ⟨v', e, r1⟩ := al.one
    cases e
    obtain ⟨a, ws, rfl, hd, _⟩ := r1
    refine ⟨a, rfl, ?_, ?_⟩
    · cases tk with
      | false => obtain ⟨ks, hd, _⟩ := hd; exact .inl ⟨_, .inl hd⟩
      | true => obtain ⟨ks, hd, _⟩ := hd; exact .inr ⟨_, .inl hd⟩
    · refine stepO ow1 p1 fun yy τ2 w H2 ow2 p2 => ?_
      refine stepO ow2 p2 fun zz τ3 w' H3 ow3 p3 => ?_
      obtain ⟨s, hs, p3⟩ := post_lift p3
      obtain ⟨k, hk, p3⟩ := post_lift p3
      obtain ⟨u, τ4, hz, p3⟩ := post_lift2 p3
      obtain ⟨q, hq, p3⟩ := post_lift p3
      have ow3 : OW g σ [x, yy, zz] [.ref a, w, w'] τ3 ex H3 := ow3
      have hxy : OW g σ [x, yy] [.ref a, w] τ3 (temps [zz] [w'] ++ ex) H3 := by
        have rf := ow3.rf
        have w3 := ow3.w
        have e1 : temps [x, yy, zz] [.ref a, w, w'] = temps [x, yy] [.ref a, w] ++ temps [zz] [w'] := by
          cases x <;> cases yy <;> rfl
        rw [e1, List.append_assoc] at w3
        refine ⟨ow3.gd, ?_, w3.perm (List.Perm.append_left _ (pswap _ _ _))⟩
        cases x with
        | val _ => cases yy with
          | val _ => exact trivial
          | ref _ => exact ⟨rf.1, trivial⟩
        | ref _ => cases yy with
          | val _ => exact ⟨rf.1, trivial⟩
          | ref _ => exact ⟨rf.1, rf.2.1, trivial⟩
      have rz : Refs σ [zz] [w'] := by
        have rf := ow3.rf
        cases x with
        | val _ => cases yy with
          | val _ => exact rf
          | ref _ => exact rf.2
        | ref _ => cases yy with
          | val _ => exact rf.2
          | ref _ => exact rf.2.2
      obtain ⟨A3, wa3, al3⟩ := hxy.rds (rds2 hs hk)
      obtain ⟨k1, k2, e, r1, r2⟩ := al3.two
      cases e
      have ht : takes τ3 [zz] = some ([u], τ4) := by
        simp only [takes, hz]; rfl
      cases s with
      | dct tk' kvs' =>
        obtain ⟨hc, e2⟩ := if_some (show (if T.keyOf tk' k then some ((lookT kvs' k).getD u) else none) = some q from hq)
        subst e2
        obtain ⟨a', ea, hh⟩ := dget_of r1 r2 hc
        cases ea
        rcases hh with ⟨h5, h6⟩ | ⟨t, v', h5, h6, h7⟩
        · refine ⟨none, h6, ?_⟩
          rw [h5] at p3
          have owz : OW g σ [zz] [w'] τ3 ex H3 := ⟨ow3.gd, rz, wa3.w.perm (pswap _ _ _)⟩
          obtain ⟨gd, _, w4⟩ := takes_ok owz ht
          exact p3 w' H3 (.fin gd w4)
        · refine ⟨some v', h6, ?_⟩
          rw [h5] at p3
          have w5 := wa3.put h7
          have owz : OW g σ [zz] [w'] τ3 (.c v' (.fz t) :: ex) H3 := ⟨ow3.gd, rz, w5.perm (by
            refine (List.Perm.cons _ (pswap _ _ _)).trans ?_
            refine List.Perm.trans ?_ (List.Perm.append_left _ List.perm_middle.symm)
            exact List.perm_middle.symm)⟩
          obtain ⟨gd, _, w4⟩ := takes_ok owz ht
          have w6 : W g H3 (.c w' (.fz u) :: (cellsOf σ τ4 ++ (.c v' (.fz t) :: ex))) := w4
          exact p3 v' H3 (.fin gd (w6.drop.perm List.perm_middle))
      | _ => cases hq
  | _ => exact p1.elim
/-- xs.count(k), ints -/
theorem JE_count (hK : X.K = g.K) (hline : (apos.endLine == cpos.line) = true) (ho : PE X o (JO g Γ Wx x)) (hp : plainO o = true) (ha : PA X (e :: es) (JL g Γ Wx m)) (hs : (e :: es).all starB = true) (hl : (e :: es).length < 30) :
    PE X (.Call (.Attribute o Mt.count.nm apos) (e :: es) [] cpos) (JE g Γ Wx (.mth .count x m)) := by
  have hs' := hs
  rw [List.all_cons, Bool.and_eq_true] at hs'
  refine (pe_bm PySem.F.plainAttrs_list PySem.F.slot_list_count PySem.F.type_list_count mt_lcount ho ha (plain_o hp) (few_ok hs hl) hline (star1 hs'.1) (stars hs'.2)).imp fun σ H Q ⟨τ, ex, ow, p⟩ => ?_
  simp only [evalE] at p
  rw [hK]
  refine stepO ow p fun x τ1 v H1 ow1 p1 => ?_
  have p1 : post g Wx σ ex (lift (rd τ1 x) fun s0 => if Mt.count.okOf s0 then (evalL Γ m τ1).bind fun ops τ2 => lift (rd τ2 x) fun s => lift (rds τ2 ops) fun ts => lift (mthT .count s ts) fun r => .ok r τ2 else .stuck) _ := p1
  obtain ⟨s0, h0, p1⟩ := post_lift p1
  obtain ⟨A, wa, al⟩ := ow1.rds (rds1 h0)
  obtain ⟨v', e, r1⟩ := al.one
  cases e
  cases s0 with
  | lst ys =>
    have p1 : post g Wx σ ex ((evalL Γ m τ1).bind fun ops τ2 => lift (rd τ2 x) fun s => lift (rds τ2 ops) fun ts => lift (mthT .count s ts) fun r => .ok r τ2) _ := p1
    obtain ⟨a, ws, rfl, hd, _⟩ := r1
    refine ⟨.inl ⟨rfl, ws, SqL.of hd⟩, ?_⟩
    refine stepL ow1 p1 fun ops τ2 us H2 ow2 p2 => ?_
    obtain ⟨s, hs, p2⟩ := post_lift p2
    obtain ⟨ts, ht, p2⟩ := post_lift p2
    obtain ⟨q, hq, p2⟩ := post_lift p2
    have h3 : rds τ2 (x :: ops) = some (s :: ts) := by
      have e1 : rds τ2 (x :: ops) = (rd τ2 x).bind fun t => (rds τ2 ops).bind fun ts => some (t :: ts) := rfl
      rw [e1, hs, ht]; rfl
    obtain ⟨A3, wa3, al3⟩ := OW.rds (ops := x :: ops) (vs := .ref a :: us) ow2 h3
    cases al3 with
    | cons r1 al3 =>
      cases s with
      | lst zs =>
        match ts, al3, hq with
        | [.int k], al3, hq =>
          obtain ⟨w, rfl, r2⟩ := al3.one
          have hq : (T.ints zs).map (fun ns => O.fz (.int (ns.count k : Nat))) = some q := hq
          cases hi : T.ints zs with
          | none => rw [hi] at hq; cases hq
          | some ns =>
            rw [hi] at hq
            have e2 : O.fz (.int (ns.count k : Nat)) = q := Option.some.inj hq
            subst e2
            obtain ⟨a', ws', ea, hp', rr⟩ := r1
            cases ea
            exact ⟨a, ns, k, rfl, by rw [rd_int r2], SqL.of (by rw [← rr.intsV hi]; exact hp'), res_int wa3 fun u H' w => p2 u H' (.fin ow2.gd w)⟩
      | _ => simp [mthT] at hq
  | _ => exact p1.elim

/-! ### targets -/
/-- outside these slots nothing has changed -/
def Outs (is : List Nat) (σ σ' : L2.St) : Prop := σ'.length = σ.length ∧ ∀ i, i ∉ is → σ'[i]? = σ[i]?
theorem Outs.trans {is js : List Nat} {σ σ' σ2 : L2.St} (h : Outs is σ σ') (k : Outs js σ' σ2) : Outs (is ++ js) σ σ2 := ⟨k.1.trans h.1, fun i hi => by
  rw [List.mem_append, not_or] at hi
  rw [k.2 i hi.2, h.2 i hi.1]⟩
def JG (g : Cfg) (tg : Tg) : TG := fun v σ H Q => ∃ o τ ex τ', Good σ τ ∧ W g H (.c v o :: (cellsOf σ τ ++ ex)) ∧ setTg tg o τ = some τ' ∧ ∀ σ', Good σ' τ' → Outs tg.slots σ σ' → W g H (cellsOf σ' τ' ++ ex) → Q σ' H
theorem _root_.L2.PG.imp {X : Cx} {e : Expr} {t t' : TG} (h : PG X e t) (i : ∀ v σ H Q, t' v σ H Q → t v σ H Q) : PG X e t' := ⟨fun pins s σ H v u Q I r q => h.run pins s σ H v u Q I r (i v σ H Q q)⟩
theorem PG.or {t t' : TG} (h : PG X e t) (h' : PG X e t') : PG X e (fun v σ H Q => t v σ H Q ∨ t' v σ H Q) := ⟨fun pins s σ H v u Q I r q => q.elim (h.run pins s σ H v u Q I r) (h'.run pins s σ H v u Q I r)⟩
theorem Good.lt {σ : L2.St} {τ : St} (h : Good σ τ) {i : Nat} (hi : i < τ.length) : i < σ.length := by rw [h.len]; exact hi
theorem JG_nm {i : Nat} {x : Str} (hN : X.N.Nodup) (hi : X.N[i]? = some x) (hx : Loc X.env.scope x) (hf : X.fn x = true ∨ X.env.scope.names.lookup x = some .local) : PG X (.Name x pos) (JG g (.nm i)) := by
  have h := pg_name (pos := pos) hN hi hx hf
  refine ⟨fun pins s σ H v u Q I r ⟨o, τ, ex, τ', gd, w, e, k⟩ => h.run pins s σ H v u Q I r ?_⟩
  have hl : i < σ.length := by rw [I.len]; exact (List.getElem?_eq_some_iff.mp hi).1
  have e2 : τ.set i (some o) = τ' := Option.some.inj e
  subst e2
  obtain ⟨gd2, p2⟩ := slot_set v o gd hl
  refine k _ gd2 ⟨List.length_set, fun j hj => ?_⟩ ?_
  · rw [List.getElem?_set_ne (fun z => hj (by simp [Tg.slots, z]))]
  · obtain ⟨cs, p⟩ := slot_drop i gd
    have w2 : W g H (cs ++ (.c v o :: (cellsOf σ (τ.set i none) ++ ex))) := by
      refine w.perm ?_
      refine (List.Perm.cons _ (p.append_right ex)).trans ?_
      rw [List.append_assoc]
      exact List.perm_middle.symm
    exact w2.dropL.perm (p2.symm.append_right ex)
theorem assign1 {e : Expr} {es : List Expr} {env : Env} (h : starB e = true) : (assignEach (e :: es) env).map (·.2) = assign e env :: (assignEach es env).map (·.2) := by
  cases e <;> first | rfl | cases h
theorem assignsN {env : Env} : ∀ {es : List Expr}, es.all starB = true → (assignEach es env).length = es.length ∧ (assignEach es env).findIdx? (·.1) = none
  | [], _ => ⟨rfl, rfl⟩
  | e :: es, h => by
    rw [List.all_cons, Bool.and_eq_true] at h
    obtain ⟨h1, h2⟩ := assignsN (env := env) h.2
    have e1 : assignEach (e :: es) env = (false, assign e env) :: assignEach es env := by
      cases e <;> first | rfl | exact absurd h.1 (by simp [starB])
    rw [e1]
    refine ⟨by rw [List.length_cons, List.length_cons, h1], ?_⟩
    rw [List.findIdx?_cons, h2]; rfl
/-- what a pair (a triple) is unpacked from: its items' cells -/
theorem unpack {v : V} {o : O} {cs : List Cell} {H : Hp} (hK : X.K = g.K) {os : List O} (h : W g H (.c v o :: cs)) (e : (∃ ts, o = .fz (.tup ts) ∧ os = ts.map .fz) ∨ (∃ ts, o = .fz (.lst ts) ∧ os = ts.map .fz) ∨ o = .lst os) :
    ∃ a vs, v = .ref a ∧ vs.length = os.length ∧ (SqT X.K H a vs ∨ SqL X.K H a vs) ∧ W g H (zipO vs os ++ cs) := by
  rcases e with ⟨ts, rfl, rfl⟩ | ⟨ts, rfl, rfl⟩ | rfl
  · obtain ⟨a, vs, rfl, l, hp, w⟩ := h.openT
    refine ⟨a, vs, rfl, by rw [List.length_map]; exact l, .inl (SqT.of hp), ?_⟩
    rw [zipO_fz]
    exact (w.perm List.perm_middle).drop
  · obtain ⟨a, vs, rfl, l, hp, w⟩ := h.openF
    refine ⟨a, vs, rfl, by rw [List.length_map]; exact l, .inr (SqL.of hp), ?_⟩
    rw [zipO_fz]
    exact (w.perm List.perm_middle).drop
  · obtain ⟨a, vs, rfl, l, w⟩ := h.openL
    exact ⟨a, vs, rfl, l, .inr (SqL.of w.read), w.drop⟩
theorem setTg2 {a b : Tg} {o : O} {τ τ' : St} (h : setTg (.t2 a b) o τ = some τ') : ∃ o1 o2 τ1, ((∃ ts, o = .fz (.tup ts) ∧ [o1, o2] = ts.map .fz) ∨ (∃ ts, o = .fz (.lst ts) ∧ [o1, o2] = ts.map .fz) ∨ o = .lst [o1, o2]) ∧ setTg a o1 τ = some τ1 ∧ setTg b o2 τ1 = some τ' := by
  match o, h with
  | .fz (.tup [x, y]), h =>
    cases h1 : setTg a (.fz x) τ with
    | none => simp only [setTg, h1] at h; cases h
    | some τ1 => exact ⟨_, _, τ1, .inl ⟨_, rfl, rfl⟩, h1, by simpa only [setTg, h1, Option.bind_some] using h⟩
  | .fz (.lst [x, y]), h =>
    cases h1 : setTg a (.fz x) τ with
    | none => simp only [setTg, h1] at h; cases h
    | some τ1 => exact ⟨_, _, τ1, .inr (.inl ⟨_, rfl, rfl⟩), h1, by simpa only [setTg, h1, Option.bind_some] using h⟩
  | .lst [x, y], h =>
    cases h1 : setTg a x τ with
    | none => simp only [setTg, h1] at h; cases h
    | some τ1 => exact ⟨_, _, τ1, .inr (.inr rfl), h1, by simpa only [setTg, h1, Option.bind_some] using h⟩
theorem setTg3 {a b c : Tg} {o : O} {τ τ' : St} (h : setTg (.t3 a b c) o τ = some τ') : ∃ o1 o2 o3 τ1 τ2, ((∃ ts, o = .fz (.tup ts) ∧ [o1, o2, o3] = ts.map .fz) ∨ (∃ ts, o = .fz (.lst ts) ∧ [o1, o2, o3] = ts.map .fz) ∨ o = .lst [o1, o2, o3]) ∧ setTg a o1 τ = some τ1 ∧ setTg b o2 τ1 = some τ2 ∧ setTg c o3 τ2 = some τ' := by
  match o, h with
  | .fz (.tup [x, y, z]), h =>
    cases h1 : setTg a (.fz x) τ with
    | none => simp only [setTg, h1] at h; cases h
    | some τ1 =>
      simp only [setTg, h1, Option.bind_some] at h
      cases h2 : setTg b (.fz y) τ1 with
      | none => rw [h2] at h; cases h
      | some τ2 => exact ⟨_, _, _, τ1, τ2, .inl ⟨_, rfl, rfl⟩, h1, h2, by simpa only [h2, Option.bind_some] using h⟩
  | .lst [x, y, z], h =>
    cases h1 : setTg a x τ with
    | none => simp only [setTg, h1] at h; cases h
    | some τ1 =>
      simp only [setTg, h1, Option.bind_some] at h
      cases h2 : setTg b y τ1 with
      | none => rw [h2] at h; cases h
      | some τ2 => exact ⟨_, _, _, τ1, τ2, .inr (.inr rfl), h1, h2, by simpa only [h2, Option.bind_some] using h⟩
theorem JG_t2 {a b : Tg} {k : Nat} (hc : X.calm = true) (hK : X.K = g.K) (ha : PG X e (JG g a)) (hb : PG X f (JG g b)) (hs : [e, f].all starB = true) : PG X (.Tuple [e, f] k pos) (JG g (.t2 a b)) := by
  have hs' := hs
  rw [List.all_cons, Bool.and_eq_true, List.all_cons, Bool.and_eq_true] at hs'
  have hg : PGs X [e, f] (gCons (JG g a) (gCons (JG g b) gNil)) := pgs_cons ha (pgs_cons hb pgs_nil (assign1 hs'.2.1)) (assign1 hs'.1)
  obtain ⟨n1, n2⟩ := assignsN (env := X.env) hs
  refine (PG.or (pg_tup (n := 2) hc hg n1 n2) (pg_lst (n := 2) hc hg n1 n2)).imp fun v σ H Q ⟨o, τ, ex, τ', gd, w, e, kk⟩ => ?_
  obtain ⟨o1, o2, τ1, eo, e1, e2⟩ := setTg2 e
  obtain ⟨p, vs, rfl, l, sq, w1⟩ := unpack (X := X) hK w eo
  match vs, l with
  | [v1, v2], _ =>
    have body : gCons (JG g a) (gCons (JG g b) gNil) [v1, v2] σ H Q := by
      refine ⟨v1, [v2], rfl, o1, τ, .c v2 o2 :: ex, τ1, gd, ?_, e1, fun σ1 gd1 u1 w2 => ⟨v2, [], rfl, o2, τ1, ex, τ', gd1, w2.perm List.perm_middle, e2, fun σ2 gd2 u2 w3 => ⟨rfl, kk σ2 gd2 (u1.trans u2) w3⟩⟩⟩
      have w2 : W g H (.c v1 o1 :: .c v2 o2 :: (cellsOf σ τ ++ ex)) := w1
      exact w2.perm (List.Perm.cons _ List.perm_middle.symm)
    rcases sq with sq | sq
    · exact .inl ⟨p, _, rfl, sq, rfl, body⟩
    · exact .inr ⟨p, _, rfl, sq, rfl, body⟩
theorem JG_t3 {a b c : Tg} {h : Expr} {k : Nat} (hc : X.calm = true) (hK : X.K = g.K) (ha : PG X e (JG g a)) (hb : PG X f (JG g b)) (hh : PG X h (JG g c)) (hs : [e, f, h].all starB = true) : PG X (.Tuple [e, f, h] k pos) (JG g (.t3 a b c)) := by
  have hs' := hs
  rw [List.all_cons, Bool.and_eq_true, List.all_cons, Bool.and_eq_true, List.all_cons, Bool.and_eq_true] at hs'
  have hg : PGs X [e, f, h] (gCons (JG g a) (gCons (JG g b) (gCons (JG g c) gNil))) := pgs_cons ha (pgs_cons hb (pgs_cons hh pgs_nil (assign1 hs'.2.2.1)) (assign1 hs'.2.1)) (assign1 hs'.1)
  obtain ⟨n1, n2⟩ := assignsN (env := X.env) hs
  refine (PG.or (pg_tup (n := 3) hc hg n1 n2) (pg_lst (n := 3) hc hg n1 n2)).imp fun v σ H Q ⟨o, τ, ex, τ', gd, w, e, kk⟩ => ?_
  obtain ⟨o1, o2, o3, τ1, τ2, eo, e1, e2, e3⟩ := setTg3 e
  obtain ⟨p, vs, rfl, l, sq, w1⟩ := unpack (X := X) hK w eo
  match vs, l with
  | [v1, v2, v3], _ =>
    have body : gCons (JG g a) (gCons (JG g b) (gCons (JG g c) gNil)) [v1, v2, v3] σ H Q := by
      refine ⟨v1, [v2, v3], rfl, o1, τ, .c v2 o2 :: .c v3 o3 :: ex, τ1, gd, ?_, e1, fun σ1 gd1 u1 w2 => ⟨v2, [v3], rfl, o2, τ1, .c v3 o3 :: ex, τ2, gd1, w2.perm List.perm_middle, e2, fun σ2 gd2 u2 w3 => ⟨v3, [], rfl, o3, τ2, ex, τ', gd2, w3.perm List.perm_middle, e3, fun σ3 gd3 u3 w4 => ⟨rfl, kk σ3 gd3 ?_ w4⟩⟩⟩⟩
      · have w2 : W g H (.c v1 o1 :: .c v2 o2 :: .c v3 o3 :: (cellsOf σ τ ++ ex)) := w1
        refine w2.perm (List.Perm.cons _ ?_)
        refine (List.Perm.cons _ List.perm_middle.symm).trans List.perm_middle.symm
      · exact (u1.trans u2).trans u3
    rcases sq with sq | sq
    · exact .inl ⟨p, _, rfl, sq, rfl, body⟩
    · exact .inr ⟨p, _, rfl, sq, rfl, body⟩
end
end Iv
/-! Iv15: what loops walk. -/
namespace Iv
open PySem L2 PySem.Spec PyProof.Rows RT RZ
/-- an iterator yields these, while the cells stand -/
def ItR (g : Cfg) (J : It) (xs : List T) (cs : List Cell) : Prop := ∀ H rest i, W g H (cs ++ rest) →
  (∀ t, xs[i]? = some t → J.go i H ∧ ∀ x H', J.yld i H x H' → W g H' (.c x (.fz t) :: (cs ++ rest))) ∧ (xs.length ≤ i → J.stop i H)
def JI (g : Cfg) (Γ : Nat → List O → COut) (Wx : WX) (m : E) : TI := fun σ H R => ∃ τ ex, OW g σ [] [] τ ex H ∧ post g Wx σ ex (evalI Γ m τ) fun xs τ' => ∀ J cs H', ItR g J xs cs → OW g σ [] [] τ' (cs ++ ex) H' → R J H'
section
variable {g : Cfg}
theorem zipT_get {vs : List V} {ts : List T} {cs : List Cell} {H : Hp} {i : Nat} {t : T} (l : vs.length = ts.length) (w : W g H (zipT vs ts ++ cs)) (h : ts[i]? = some t) : ∃ v, vs[i]? = some v ∧ W g H (.c v (.fz t) :: cs) := by
  have l2 : vs.length = (ts.map O.fz).length := by rw [List.length_map]; exact l
  obtain ⟨v, e, p⟩ := zipO_get (o := .fz t) l2 (by rw [List.getElem?_map, h]; rfl)
  rw [zipO_fz] at p
  have w2 := w.perm (p.append_right cs)
  have w3 : W g H (zipO (vs.eraseIdx i) ((ts.map O.fz).eraseIdx i) ++ (.c v (.fz t) :: cs)) := w2.perm List.perm_middle.symm
  exact ⟨v, e, w3.dropL⟩
theorem get_none {α : Type} {xs : List α} {i : Nat} {t : α} (h : xs[i]? = some t) : i < xs.length := (List.getElem?_eq_some_iff.mp h).1
theorem itr_list {a : Addr} {ts : List T} : ItR g (Itl g.K a) ts [.c (.ref a) (.fz (.lst ts))] := by
  intro H rest i w
  obtain ⟨p, vs, e, l, hp, w2⟩ := W.openF w
  cases e
  refine ⟨fun t ht => ?_, fun h => ⟨vs, SqL.of hp, by rw [l]; exact h⟩⟩
  obtain ⟨v, hv, w3⟩ := zipT_get l w2 ht
  refine ⟨⟨vs, v, SqL.of hp, hv⟩, fun x H' y => ?_⟩
  obtain ⟨rfl, f⟩ := y
  have e := f vs (SqL.of hp)
  rw [hv] at e
  cases e
  exact w3
theorem itr_tup {a : Addr} {ts : List T} : ItR g (Itt g.K a) ts [.c (.ref a) (.fz (.tup ts))] := by
  intro H rest i w
  obtain ⟨p, vs, e, l, hp, w2⟩ := W.openT w
  cases e
  refine ⟨fun t ht => ?_, fun h => ⟨vs, SqT.of hp, by rw [l]; exact h⟩⟩
  obtain ⟨v, hv, w3⟩ := zipT_get l w2 ht
  refine ⟨⟨vs, v, SqT.of hp, hv⟩, fun x H' y => ?_⟩
  obtain ⟨rfl, f⟩ := y
  have e := f vs (SqT.of hp)
  rw [hv] at e
  cases e
  exact w3
theorem itr_scr {a : Addr} {ns : List Int} : ItR g (Itl g.K a) (ns.map .int) [.c (.ref a) (.fz (.scr ns))] := by
  intro H rest i w
  obtain ⟨p, e, hp⟩ := W.openS w
  cases e
  refine ⟨fun t ht => ?_, fun h => ⟨_, hp, by rw [List.length_map] at h ⊢; exact h⟩⟩
  rw [List.getElem?_map] at ht
  cases hn : ns[i]? with
  | none => rw [hn] at ht; cases ht
  | some n =>
    rw [hn] at ht
    cases ht
    have hv : (ns.map V.int)[i]? = some (.int n) := by rw [List.getElem?_map, hn]; rfl
    refine ⟨⟨_, _, hp, hv⟩, fun x H' y => ?_⟩
    obtain ⟨rfl, f⟩ := y
    have e := f _ hp
    rw [hv] at e
    cases e
    exact w.put fun A => (rfl : V.int n = V.int n)
theorem itr_str {s : List Nat} {cs : List Cell} : ItR g (Its ⟨s.toArray⟩) (s.map fun c => .str [c]) cs := by
  intro H rest i w
  have sz : (⟨s.toArray⟩ : Str).cps.size = s.length := by simp
  refine ⟨fun t ht => ?_, fun h => by show (⟨s.toArray⟩ : Str).cps.size ≤ i; rw [sz]; rw [List.length_map] at h; exact h⟩
  have hi := get_none ht
  rw [List.length_map] at hi
  refine ⟨by show i < (⟨s.toArray⟩ : Str).cps.size; rw [sz]; exact hi, fun x H' y => ?_⟩
  obtain ⟨rfl, c, hc, rfl⟩ := y
  rw [List.getElem?_map] at ht
  have hc' : s[i]? = some c := by simpa using hc
  rw [hc'] at ht
  cases ht
  exact w.put fun A => (rfl : V.str ⟨[c].toArray⟩ = V.str ⟨[c].toArray⟩)
theorem itr_rng {lo : Int} {n : Nat} {cs : List Cell} : ItR g (Itr lo n) (rangeN lo n) cs := by
  intro H rest i w
  have ln : (rangeN lo n).length = n := by unfold rangeN; rw [List.length_map, List.length_range]
  refine ⟨fun t ht => ?_, fun h => by rw [ln] at h; exact h⟩
  have hi := get_none ht
  rw [ln] at hi
  refine ⟨hi, fun x H' y => ?_⟩
  obtain ⟨rfl, rfl⟩ := y
  unfold rangeN at ht
  rw [List.getElem?_map, List.getElem?_range hi] at ht
  cases ht
  exact w.put fun A => rfl
theorem itr_rngC {lo c : Int} {n : Nat} {cs : List Cell} : ItR g (Itc lo c n) (rangeC lo c n) cs := by
  intro H rest i w
  have ln : (rangeC lo c n).length = n := by unfold rangeC; rw [List.length_map, List.length_range]
  refine ⟨fun t ht => ?_, fun h => by rw [ln] at h; exact h⟩
  have hi := get_none ht
  rw [ln] at hi
  refine ⟨hi, fun x H' y => ?_⟩
  obtain ⟨rfl, rfl⟩ := y
  unfold rangeC at ht
  rw [List.getElem?_map, List.getElem?_range hi] at ht
  cases ht
  exact w.put fun A => rfl
theorem rev_get {α : Type} {xs : List α} {i : Nat} {t : α} (h : xs.reverse[i]? = some t) : i < xs.length ∧ xs[xs.length - 1 - i]? = some t := by
  have hi := get_none h
  rw [List.length_reverse] at hi
  rw [List.getElem?_reverse hi] at h
  exact ⟨hi, h⟩
theorem itr_revL {a : Addr} {ts : List T} : ItR g (Itv g.K a ts.length) ts.reverse [.c (.ref a) (.fz (.lst ts))] := by
  intro H rest i w
  obtain ⟨p, vs, e, l, hp, w2⟩ := W.openF w
  cases e
  refine ⟨fun t ht => ?_, fun h => by rw [List.length_reverse] at h; exact h⟩
  obtain ⟨hi, ht⟩ := rev_get ht
  obtain ⟨v, hv, w3⟩ := zipT_get l w2 ht
  refine ⟨⟨hi, vs, v, SqL.of hp, hv⟩, fun x H' y => ?_⟩
  obtain ⟨rfl, f⟩ := y
  have e := f vs (SqL.of hp)
  rw [hv] at e
  cases e
  exact w3
theorem itr_revT {a : Addr} {ts : List T} : ItR g (ItvT g.K a ts.length) ts.reverse [.c (.ref a) (.fz (.tup ts))] := by
  intro H rest i w
  obtain ⟨p, vs, e, l, hp, w2⟩ := W.openT w
  cases e
  refine ⟨fun t ht => ?_, fun h => by rw [List.length_reverse] at h; exact h⟩
  obtain ⟨hi, ht⟩ := rev_get ht
  obtain ⟨v, hv, w3⟩ := zipT_get l w2 ht
  refine ⟨⟨hi, vs, v, SqT.of hp, hv⟩, fun x H' y => ?_⟩
  obtain ⟨rfl, f⟩ := y
  have e := f vs (SqT.of hp)
  rw [hv] at e
  cases e
  exact w3
theorem pair_lay {H : Hp} {q : Addr} {x y : V} {s t : T} {cs : List Cell} (w : W g H (.c x (.fz s) :: .c y (.fz t) :: cs)) (hq : H q = none) : W g (upd H q (.tup [x, y])) (.c (.ref q) (.fz (.tup [s, t])) :: cs) :=
  W.tup (vs := [x, y]) (ts := [s, t]) w rfl hq
theorem enum_get : ∀ {ts : List T} {j i : Nat} {t : T}, (enumP j ts)[i]? = some t → ∃ u, ts[i]? = some u ∧ t = .tup [.int (j + i : Nat), u]
  | [], _, _, _, h => by simp [enumP] at h
  | x :: xs, j, 0, t, h => by
    have e : T.tup [.int j, x] = t := by simpa [enumP] using h
    exact ⟨x, rfl, e.symm⟩
  | x :: xs, j, i + 1, t, h => by
    obtain ⟨u, e1, e2⟩ := enum_get (ts := xs) (j := j + 1) (i := i) (t := t) (by simpa [enumP] using h)
    refine ⟨u, by simpa using e1, ?_⟩
    rw [e2, show j + 1 + i = j + (i + 1) by omega]
theorem enum_len : ∀ (ts : List T) (j : Nat), (enumP j ts).length = ts.length
  | [], _ => rfl
  | x :: xs, j => by
    unfold enumP
    rw [List.length_cons, List.length_cons, enum_len xs]
theorem itr_enum {a : Addr} {ts : List T} : ItR g (Ite g.K a) (enumP 0 ts) [.c (.ref a) (.fz (.lst ts))] := by
  intro H rest i w
  obtain ⟨p, vs, e, l, hp, w2⟩ := W.openF w
  cases e
  refine ⟨fun t ht => ?_, fun h => ⟨vs, SqL.of hp, by rw [enum_len] at h; rw [l]; exact h⟩⟩
  obtain ⟨u, hu, rfl⟩ := enum_get ht
  obtain ⟨v, hv, w3⟩ := zipT_get l w2 hu
  refine ⟨⟨vs, v, SqL.of hp, hv⟩, fun x H' y => ?_⟩
  obtain ⟨q, x', rfl, hq, rfl, f⟩ := y
  have e := f vs (SqL.of hp)
  rw [hv] at e
  cases e
  refine pair_lay (w3.put fun A => ?_) hq
  show V.int (i : Nat) = V.int ((0 + i : Nat) : Int)
  rw [Nat.zero_add]
theorem zip_get : ∀ {xs ys : List T} {i : Nat} {t : T}, (zipP xs ys)[i]? = some t → ∃ x y, xs[i]? = some x ∧ ys[i]? = some y ∧ t = .tup [x, y]
  | x :: xs, y :: ys, 0, t, h => by
    have e : T.tup [x, y] = t := by simpa [zipP] using h
    exact ⟨x, y, rfl, rfl, e.symm⟩
  | x :: xs, y :: ys, i + 1, t, h => by
    obtain ⟨u, v, e1, e2, e3⟩ := zip_get (xs := xs) (ys := ys) (i := i) (t := t) (by simpa [zipP] using h)
    exact ⟨u, v, by simpa using e1, by simpa using e2, e3⟩
  | [], _, _, _, h => by simp [zipP] at h
  | _ :: _, [], _, _, h => by simp [zipP] at h
theorem zip_len : ∀ (xs ys : List T), (zipP xs ys).length = min xs.length ys.length
  | x :: xs, y :: ys => by
    unfold zipP
    rw [List.length_cons, List.length_cons, List.length_cons, zip_len xs ys]; omega
  | [], _ => by simp [zipP]
  | _ :: _, [] => by simp [zipP]
theorem itr_zipL {a b : Addr} {ts us : List T} : ItR g (Itz g.K a b) (zipP ts us) [.c (.ref a) (.fz (.lst ts)), .c (.ref b) (.fz (.lst us))] := by
  intro H rest i w
  obtain ⟨p, vs, e, l, hp, w2⟩ := W.openF w
  cases e
  have w0 : W g H (.c (.ref b) (.fz (.lst us)) :: .c (.ref a) (.fz (.lst ts)) :: rest) := w.perm (.swap _ _ _)
  obtain ⟨p', vs', e', l', hp', w2'⟩ := W.openF w0
  cases e'
  refine ⟨fun t ht => ?_, fun h => ⟨vs, vs', SqL.of hp, SqL.of hp', by rw [zip_len] at h; rw [l, l']; omega⟩⟩
  obtain ⟨x, y, hx, hy, rfl⟩ := zip_get ht
  obtain ⟨v', hv', w3'⟩ := zipT_get l' w2' hy
  have w4 : W g H (.c (.ref a) (.fz (.lst ts)) :: .c v' (.fz y) :: .c (.ref b) (.fz (.lst us)) :: rest) := w3'.perm (by
    refine (List.Perm.cons _ (.swap _ _ _)).trans (.swap _ _ _))
  obtain ⟨q2, vs2, e2, l2, hp2, w5⟩ := W.openF w4
  cases e2
  rw [hp] at hp2
  cases hp2
  obtain ⟨v, hv, w3⟩ := zipT_get l w5 hx
  refine ⟨⟨vs, vs', v, v', SqL.of hp, SqL.of hp', hv, hv'⟩, fun x H' y => ?_⟩
  obtain ⟨q, x', y', rfl, hq, rfl, f1, f2⟩ := y
  have e := f1 vs (SqL.of hp)
  rw [hv] at e
  cases e
  have e := f2 vs' (SqL.of hp')
  rw [hv'] at e
  cases e
  exact pair_lay (w3.perm (List.Perm.cons _ (.swap _ _ _))) hq
theorem itr_zipT {a b : Addr} {ts us : List T} : ItR g (ItzT g.K a b) (zipP ts us) [.c (.ref a) (.fz (.tup ts)), .c (.ref b) (.fz (.tup us))] := by
  intro H rest i w
  obtain ⟨p, vs, e, l, hp, w2⟩ := W.openT w
  cases e
  have w0 : W g H (.c (.ref b) (.fz (.tup us)) :: .c (.ref a) (.fz (.tup ts)) :: rest) := w.perm (.swap _ _ _)
  obtain ⟨p', vs', e', l', hp', w2'⟩ := W.openT w0
  cases e'
  refine ⟨fun t ht => ?_, fun h => ⟨vs, vs', SqT.of hp, SqT.of hp', by rw [zip_len] at h; rw [l, l']; omega⟩⟩
  obtain ⟨x, y, hx, hy, rfl⟩ := zip_get ht
  obtain ⟨v', hv', w3'⟩ := zipT_get l' w2' hy
  have w4 : W g H (.c (.ref a) (.fz (.tup ts)) :: .c v' (.fz y) :: .c (.ref b) (.fz (.tup us)) :: rest) := w3'.perm (by
    refine (List.Perm.cons _ (.swap _ _ _)).trans (.swap _ _ _))
  obtain ⟨q2, vs2, e2, l2, hp2, w5⟩ := W.openT w4
  cases e2
  rw [hp] at hp2
  cases hp2
  obtain ⟨v, hv, w3⟩ := zipT_get l w5 hx
  refine ⟨⟨vs, vs', v, v', SqT.of hp, SqT.of hp', hv, hv'⟩, fun x H' y => ?_⟩
  obtain ⟨q, x', y', rfl, hq, rfl, f1, f2⟩ := y
  have e := f1 vs (SqT.of hp)
  rw [hv] at e
  cases e
  have e := f2 vs' (SqT.of hp')
  rw [hv'] at e
  cases e
  exact pair_lay (w3.perm (List.Perm.cons _ (.swap _ _ _))) hq
end
/-! ### the sources -/
def iAny (K : PySem.W.Frag) (te : TE) : TI := fun σ H R => te σ H fun x H1 => (∃ a xs, x = .ref a ∧ SqL K H1 a xs ∧ R (Itl K a) H1) ∨ (∃ a xs, x = .ref a ∧ SqT K H1 a xs ∧ R (Itt K a) H1) ∨ ∃ s, x = .str s ∧ R (Its s) H1
section
variable {g : Cfg} {Γ : Nat → List O → COut} {Wx : WX} {X : Cx} {tg e f h : Expr} {m x y z : E} {p pos : Pos}
theorem pi_any {te : TE} (he : PE X e te) : PI X tg e (iAny X.K te) := by
  refine ⟨fun pins s σ H R I hw => ?_⟩
  refine thn (he.run pins s σ H _ I hw) fun v s1 ⟨x, H1, I1, r1, q1⟩ => ?_
  rcases q1 with ⟨a, xs, rfl, hq, q⟩ | ⟨a, xs, rfl, hq, q⟩ | ⟨w, rfl, q⟩
  · cases r1
    obtain ⟨its, rv, p, hz⟩ := I1.list hq
    exact wpAny_pyIter_list p.isList (pi_one (tk := s1.toks) I1 _ (turn_list a _) ⟨_, Heap.get?_push_size _ rfl, rfl, rfl⟩ q)
  · cases r1
    obtain ⟨its, rv, p, hz⟩ := I1.tuple hq
    exact wpAny_pyIter_tuple (show s1.heap.IsTuple a its.toArray from p) (pi_one (tk := s1.toks) I1 _ (turn_tuple a _) ⟨_, Heap.get?_push_size _ rfl, rfl, rfl⟩ q)
  · obtain ⟨t, rfl⟩ := r1
    cases ha : w.cps.all (· < 128)
    · exact wpAny_pyIter_wide ha (pi_one (tk := s1.toks) I1 _ (turn_str _ w t "str_iterator" (.inr rfl)) ⟨_, Heap.get?_push_size _ rfl, rfl, rfl⟩ q)
    · exact wpAny_pyIter_ascii ha (pi_one (tk := s1.toks) I1 _ (turn_str _ w t "str_ascii_iterator" (.inl rfl)) ⟨_, Heap.get?_push_size _ rfl, rfl, rfl⟩ q)
theorem takes1 {x : Opd} {τ τ' : St} {t : T} (h : take τ x = some (t, τ')) : takes τ [x] = some ([t], τ') := by
  simp only [takes, h]; rfl
theorem _root_.L2.PI.imp' {X : Cx} {tg e : Expr} {t t' : TI} (h : PI X tg e t) (i : ∀ σ H R, t' σ H R → t σ H R) : PI X tg e t' := h.imp i
theorem JI_iv (hK : X.K = g.K) (he : PE X e (JO g Γ Wx x)) : PI X tg e (JI g Γ Wx (.iv x)) := (pi_any he).imp fun σ H R ⟨τ, ex, ow, p⟩ => by
  simp only [evalI] at p
  rw [hK]
  refine stepO ow p fun x τ1 v H1 ow1 p1 => ?_
  obtain ⟨t, τ2, ht, p1⟩ := post_lift2 p1
  obtain ⟨xs, hx, p1⟩ := post_lift p1
  obtain ⟨gd, _, w⟩ := takes_ok (ops := [x]) (vs := [v]) ow1 (takes1 ht)
  have w : W g H1 (.c v (.fz t) :: (cellsOf σ τ2 ++ ex)) := w
  have fin : ∀ {cs}, W g H1 (cs ++ (cellsOf σ τ2 ++ ex)) → OW g σ [] [] τ2 (cs ++ ex) H1 := fun {cs} w => ⟨gd, trivial, w.perm (pswap _ _ _)⟩
  cases t with
  | tup ts =>
    cases hx
    obtain ⟨a, vs, rfl, l, hp, w2⟩ := w.openT
    exact .inr (.inl ⟨a, vs, rfl, SqT.of hp, p1 _ [_] H1 itr_tup (fin (cs := [_]) w)⟩)
  | lst ts =>
    cases hx
    obtain ⟨a, vs, rfl, l, hp, w2⟩ := w.openF
    exact .inl ⟨a, vs, rfl, SqL.of hp, p1 _ [_] H1 itr_list (fin (cs := [_]) w)⟩
  | scr ns =>
    cases hx
    obtain ⟨a, rfl, hp⟩ := w.openS
    exact .inl ⟨a, _, rfl, hp, p1 _ [_] H1 itr_scr (fin (cs := [_]) w)⟩
  | str s =>
    cases hx
    obtain ⟨A, r⟩ := w.rep
    exact .inr (.inr ⟨_, r, p1 _ [] H1 itr_str (fin (cs := []) w.drop)⟩)
  | _ => cases hx
theorem JI_rng1 (hg : Gl X "range") (hm : X.mg "range" = none) (ha : PE X e (JO g Γ Wx x)) (hs : starB e = true) : PI X tg (.Call (.Name "range" p) [e] [] pos) (JI g Γ Wx (.rng1 x)) :=
  (pi_range1 hg hm (pa_cons ha pa_nil (star1 hs)) (star1 hs)).imp fun σ H R ⟨τ, ex, ow, p⟩ => by
  simp only [evalI] at p
  refine stepO ow p fun x τ1 v H1 ow1 p1 => ?_
  obtain ⟨s, h0, p1⟩ := post_lift p1
  obtain ⟨A, wa, al⟩ := ow1.rds (rds1 h0)
  obtain ⟨v', e, r1⟩ := al.one
  cases e
  cases s with
  | int j =>
    have p1 : post g Wx σ ex (if rangeOk 0 j then .ok (rangeN 0 j.toNat) τ1 else .stuck) _ := p1
    split at p1
    · rename_i hr
      obtain ⟨h1, h2⟩ := and2 hr
      obtain ⟨h3, h4⟩ := and2 h1
      exact ⟨j, by rw [rd_int r1], of_decide_eq_true (p := -(2 ^ 62) ≤ j) h4, of_decide_eq_true (p := j < 2 ^ 62) h2, p1 _ [] H1 itr_rng ow1.bare⟩
    · exact p1.elim
  | _ => exact p1.elim
theorem JI_rng2 (hg : Gl X "range") (hm : X.mg "range" = none) (ha : PE X e (JO g Γ Wx x)) (hb : PE X f (JO g Γ Wx y)) (hs : [e, f].all starB = true) : PI X tg (.Call (.Name "range" p) [e, f] [] pos) (JI g Γ Wx (.rng2 x y)) := by
  have hs' := hs
  rw [List.all_cons, Bool.and_eq_true, List.all_cons, Bool.and_eq_true] at hs'
  refine (pi_range2 hg hm (pa_cons ha (pa_cons hb pa_nil (star1 hs'.2.1)) (star1 hs'.1)) (by rw [star1 hs'.1, star1 hs'.2.1]; rfl) (star1 hs'.2.1)).imp fun σ H R ⟨τ, ex, ow, p⟩ => ?_
  simp only [evalI] at p
  refine stepO ow p fun x τ1 v H1 ow1 p1 => stepO ow1 p1 fun y τ2 w H2 ow2 p2 => ?_
  obtain ⟨s, h0, p2⟩ := post_lift p2
  obtain ⟨t, h1, p2⟩ := post_lift p2
  obtain ⟨A, wa, al⟩ := ow2.rds (rds2 h0 h1)
  obtain ⟨v', w', e, r1, r2⟩ := al.two
  cases e
  cases s with
  | int i =>
    cases t with
    | int j =>
      have p2 : post g Wx σ ex (if rangeOk i j then .ok (rangeN i (j - i).toNat) τ2 else .stuck) _ := p2
      split at p2
      · rename_i hr
        obtain ⟨h1, h2⟩ := and2 hr
        obtain ⟨h3, h4⟩ := and2 h1
        obtain ⟨h5, h6⟩ := and2 h3
        exact ⟨i, j, by rw [rd_int r1, rd_int r2], ⟨of_decide_eq_true (p := -(2 ^ 62) ≤ i) h5, of_decide_eq_true (p := i < 2 ^ 62) h6, of_decide_eq_true (p := -(2 ^ 62) ≤ j) h4, of_decide_eq_true (p := j < 2 ^ 62) h2⟩, p2 _ [] H2 itr_rng ow2.bare⟩
      · exact p2.elim
    | _ => exact p2.elim
  | _ => exact p2.elim
theorem All2.three {α β : Type} {R : α → β → Prop} {a a' a2 : α} {bs : List β} (h : All2 R [a, a', a2] bs) : ∃ b b' b2, bs = [b, b', b2] ∧ R a b ∧ R a' b' ∧ R a2 b2 := by
  cases h with
  | cons h t =>
    obtain ⟨b, c, e, q⟩ := t.two
    exact ⟨_, b, c, by rw [e], h, q⟩
theorem rds3 {τ : St} {x y z : Opd} {s t u : T} (h : rd τ x = some s) (h2 : rd τ y = some t) (h3 : rd τ z = some u) : rds τ [x, y, z] = some [s, t, u] := by
  simp only [rds, h, h2, h3]; rfl
theorem JI_rng3 (hg : Gl X "range") (hm : X.mg "range" = none) (ha : PE X e (JO g Γ Wx x)) (hb : PE X f (JO g Γ Wx y)) (hc : PE X h (JO g Γ Wx z)) (hs : [e, f, h].all starB = true) : PI X tg (.Call (.Name "range" p) [e, f, h] [] pos) (JI g Γ Wx (.rng3 x y z)) := by
  have hs' := hs
  rw [List.all_cons, Bool.and_eq_true, List.all_cons, Bool.and_eq_true, List.all_cons, Bool.and_eq_true] at hs'
  refine (pi_range3 hg hm (pa_cons ha (pa_cons hb (pa_cons hc pa_nil (star1 hs'.2.2.1)) (star1 hs'.2.1)) (star1 hs'.1)) (star1 hs'.1) (stars (es := [f, h]) (by rw [List.all_cons, List.all_cons, hs'.2.1, hs'.2.2.1]; rfl))).imp fun σ H R ⟨τ, ex, ow, p⟩ => ?_
  simp only [evalI] at p
  refine stepO ow p fun x τ1 v H1 ow1 p1 => stepO ow1 p1 fun y τ2 w H2 ow2 p2 => stepO ow2 p2 fun z τ3 u H3 ow3 p3 => ?_
  obtain ⟨s, h0, p3⟩ := post_lift p3
  obtain ⟨t, h1, p3⟩ := post_lift p3
  obtain ⟨k, h2, p3⟩ := post_lift p3
  obtain ⟨A, wa, al⟩ := ow3.rds (rds3 h0 h1 h2)
  obtain ⟨v', w', u', e, r1, r2, r3⟩ := al.three
  cases e
  cases s with
  | int i =>
    cases t with
    | int j =>
      cases k with
      | int c =>
        have p3 : post g Wx σ ex (if rangeOkC i j c then .ok (rangeC i c (Builtin.Range.rangeSize i j c).toNat) τ3 else .stuck) _ := p3
        split at p3
        · rename_i hr
          obtain ⟨h1, h2⟩ := and2 hr
          obtain ⟨h3, h4⟩ := and2 h1
          obtain ⟨h5, h6⟩ := and2 h3
          have h7 : 0 ≤ Builtin.Range.rangeSize i j c := of_decide_eq_true h2
          exact ⟨i, j, c, (Builtin.Range.rangeSize i j c).toNat, by rw [rd_int r1, rd_int r2, rd_int r3], ⟨of_decide_eq_true (p := c ≠ 0) h5, of_decide_eq_true (p := c.natAbs < 1073741824) h6, h4, (Int.toNat_of_nonneg h7).symm⟩, p3 _ [] H3 itr_rngC ow3.bare⟩
        · exact p3.elim
      | _ => exact p3.elim
    | _ => exact p3.elim
  | _ => exact p3.elim
theorem JI_revd (hK : X.K = g.K) (hg : Gl X "reversed") (hm : X.mg "reversed" = none) (he : PE X e (JO g Γ Wx x)) (hs : starB e = true) : PI X tg (.Call (.Name "reversed" p) [e] [] pos) (JI g Γ Wx (.revd x)) :=
  (pi_revA hg hm he (star1 hs)).imp fun σ H R ⟨τ, ex, ow, p⟩ => by
  simp only [evalI] at p
  rw [hK]
  refine stepO ow p fun x τ1 v H1 ow1 p1 => ?_
  obtain ⟨t, τ2, ht, p1⟩ := post_lift2 p1
  obtain ⟨gd, _, w⟩ := takes_ok (ops := [x]) (vs := [v]) ow1 (takes1 ht)
  have w : W g H1 (.c v (.fz t) :: (cellsOf σ τ2 ++ ex)) := w
  have fin : ∀ {cs}, W g H1 (cs ++ (cellsOf σ τ2 ++ ex)) → OW g σ [] [] τ2 (cs ++ ex) H1 := fun {cs} w => ⟨gd, trivial, w.perm (pswap _ _ _)⟩
  cases t with
  | tup ts =>
    obtain ⟨a, vs, rfl, l, hp, w2⟩ := w.openT
    exact ⟨a, vs, rfl, .inr ⟨SqT.of hp, by rw [l]; exact p1 _ [_] H1 itr_revT (fin (cs := [_]) w)⟩⟩
  | lst ts =>
    obtain ⟨a, vs, rfl, l, hp, w2⟩ := w.openF
    exact ⟨a, vs, rfl, .inl ⟨SqL.of hp, by rw [l]; exact p1 _ [_] H1 itr_revL (fin (cs := [_]) w)⟩⟩
  | _ => exact p1.elim
theorem JI_enum {elts : List Expr} {kk : Nat} {tpos : Pos} (hK : X.K = g.K) (hg : Gl X "enumerate") (hm : X.mg "enumerate" = none) (he : PE X e (JO g Γ Wx x)) (hs : starB e = true) : PI X (.Tuple elts kk tpos) (.Call (.Name "enumerate" p) [e] [] pos) (JI g Γ Wx (.enum x)) :=
  (pi_enum hg hm (pa_cons he pa_nil (star1 hs)) (star1 hs)).imp fun σ H R ⟨τ, ex, ow, p⟩ => by
  simp only [evalI] at p
  rw [hK]
  refine stepO ow p fun x τ1 v H1 ow1 p1 => ?_
  obtain ⟨t, τ2, ht, p1⟩ := post_lift2 p1
  obtain ⟨gd, _, w⟩ := takes_ok (ops := [x]) (vs := [v]) ow1 (takes1 ht)
  have w : W g H1 (.c v (.fz t) :: (cellsOf σ τ2 ++ ex)) := w
  cases t with
  | lst ts =>
    obtain ⟨a, vs, rfl, l, hp, w2⟩ := w.openF
    exact ⟨a, vs, rfl, SqL.of hp, p1 _ [_] H1 itr_enum ⟨gd, trivial, w.perm (pswap [_] _ _)⟩⟩
  | _ => exact p1.elim
theorem JI_zip {elts : List Expr} {kk : Nat} {tpos : Pos} (hK : X.K = g.K) (hg : Gl X "zip") (hm : X.mg "zip" = none) (he : PE X e (JO g Γ Wx x)) (hf : PE X f (JO g Γ Wx y)) (hs : [e, f].all starB = true) : PI X (.Tuple elts kk tpos) (.Call (.Name "zip" p) [e, f] [] pos) (JI g Γ Wx (.zip x y)) := by
  have hs' := hs
  rw [List.all_cons, Bool.and_eq_true, List.all_cons, Bool.and_eq_true] at hs'
  refine (pi_zipA hg hm (pa_cons he (pa_cons hf pa_nil (star1 hs'.2.1)) (star1 hs'.1)) (star1 hs'.1) (stars (es := [f]) (by rw [List.all_cons, hs'.2.1]; rfl))).imp fun σ H R ⟨τ, ex, ow, p⟩ => ?_
  simp only [evalI] at p
  rw [hK]
  refine stepO ow p fun x τ1 v H1 ow1 p1 => stepO ow1 p1 fun y τ2 w H2 ow2 p2 => ?_
  obtain ⟨ts, τ3, ht, p2⟩ := post_lift2 p2
  obtain ⟨gd, _, w⟩ := takes_ok (ops := [x, y]) (vs := [v, w]) ow2 ht
  match ts, p2, w with
  | [.lst xs, .lst ys], p2, w =>
    have w : W g H2 (.c v (.fz (.lst xs)) :: .c _ (.fz (.lst ys)) :: (cellsOf σ τ3 ++ ex)) := w
    obtain ⟨a, vs, rfl, l, hp, w2⟩ := w.openF
    obtain ⟨b, vs', rfl, l', hp', w2'⟩ := (w.perm (.swap _ _ _)).openF
    exact ⟨a, b, vs, vs', rfl, .inl ⟨SqL.of hp, SqL.of hp', p2 _ [_, _] H2 itr_zipL ⟨gd, trivial, w.perm (pswap [_, _] _ _)⟩⟩⟩
  | [.tup xs, .tup ys], p2, w =>
    have w : W g H2 (.c v (.fz (.tup xs)) :: .c _ (.fz (.tup ys)) :: (cellsOf σ τ3 ++ ex)) := w
    obtain ⟨a, vs, rfl, l, hp, w2⟩ := w.openT
    obtain ⟨b, vs', rfl, l', hp', w2'⟩ := (w.perm (.swap _ _ _)).openT
    exact ⟨a, b, vs, vs', rfl, .inr ⟨SqT.of hp, SqT.of hp', p2 _ [_, _] H2 itr_zipT ⟨gd, trivial, w.perm (pswap [_, _] _ _)⟩⟩⟩
end
end Iv
/-! Iv16: list comprehensions. -/
namespace Iv
open PySem L2 PySem.Spec PyProof.Rows
/-! ### slots forgotten -/
theorem set_none1 : ∀ {σ : L2.St} {τ : St} (v : Nat), Good σ τ → Good (σ.set v none) (τ.set v none) ∧ cellsOf (σ.set v none) (τ.set v none) = cellsOf σ (τ.set v none)
  | [], [], _, h => ⟨trivial, rfl⟩
  | s :: σ, t :: τ, 0, h => ⟨⟨fun z => (by cases z), h.2⟩, rfl⟩
  | s :: σ, t :: τ, v + 1, h => by
    obtain ⟨h1, h2⟩ := set_none1 v h.2
    refine ⟨⟨h.1, h1⟩, ?_⟩
    cases t with
    | none => exact h2
    | some o => exact congrArg (Cell.c (s.getD .non) o :: ·) h2
  | [], _ :: _, _, h => h.elim
  | _ :: _, [], _, h => h.elim
theorem unset1 : ∀ {σ : L2.St} {τ : St} (v : Nat), Good (σ.set v none) τ → Good σ τ ∧ cellsOf σ τ = cellsOf (σ.set v none) τ
  | [], [], _, h => ⟨trivial, rfl⟩
  | s :: σ, t :: τ, 0, h => by
    cases t with
    | none => exact ⟨⟨fun z => (by cases z), h.2⟩, rfl⟩
    | some o => exact absurd (h.1 rfl) (by simp)
  | s :: σ, t :: τ, v + 1, h => by
    obtain ⟨h1, h2⟩ := unset1 (σ := σ) (τ := τ) v h.2
    refine ⟨⟨h.1, h1⟩, ?_⟩
    cases t with
    | none => exact h2
    | some o => exact congrArg (Cell.c (s.getD .non) o :: ·) h2
  | [], _ :: _, _, h => h.elim
  | _ :: _, [], 0, h => h.elim
  | _ :: _, [], _ + 1, h => h.elim
theorem wipe_good {σ : L2.St} {τ : St} : ∀ (vs : List Nat), Good σ τ → Good (wipe σ vs) (wipes vs τ) ∧ ∃ cs, (cellsOf σ τ).Perm (cs ++ cellsOf (wipe σ vs) (wipes vs τ))
  | [], h => ⟨h, [], .refl _⟩
  | v :: vs, h => by
    obtain ⟨h1, cs, p⟩ := wipe_good vs h
    obtain ⟨h2, h3⟩ := set_none1 v h1
    obtain ⟨ds, q⟩ := slot_drop v h1
    refine ⟨h2, cs ++ ds, ?_⟩
    show (cellsOf σ τ).Perm (cs ++ ds ++ cellsOf ((wipe σ vs).set v none) ((wipes vs τ).set v none))
    rw [h3, List.append_assoc]
    exact p.trans (List.Perm.append_left _ q)
theorem unwipe {σ : L2.St} {τ : St} : ∀ (vs : List Nat), Good (wipe σ vs) τ → Good σ τ ∧ cellsOf σ τ = cellsOf (wipe σ vs) τ
  | [], h => ⟨h, rfl⟩
  | v :: vs, h => by
    obtain ⟨h1, h2⟩ := unset1 v h
    obtain ⟨h3, h4⟩ := unwipe vs h1
    exact ⟨h3, h4.trans h2⟩
theorem wipe_get {σ : L2.St} {j : Nat} : ∀ (vs : List Nat), (wipe σ vs)[j]? = if j ∈ vs then (σ[j]?).map (fun _ => none) else σ[j]?
  | [] => by simp [wipe]
  | v :: vs => by
    show ((wipe σ vs).set v none)[j]? = _
    by_cases hj : v = j
    · subst hj
      rw [if_pos List.mem_cons_self]
      by_cases hl : v < σ.length
      · rw [List.getElem?_set_self (by rw [wipe_length]; exact hl), List.getElem?_eq_getElem hl]; rfl
      · rw [List.getElem?_eq_none (by rw [List.length_set, wipe_length]; omega), List.getElem?_eq_none (by omega)]; rfl
    · rw [List.getElem?_set_ne hj, wipe_get vs]
      by_cases hm : j ∈ vs
      · rw [if_pos hm, if_pos (List.mem_cons_of_mem _ hm)]
      · rw [if_neg hm, if_neg (by simp only [List.mem_cons, not_or]; exact ⟨fun e => hj e.symm, hm⟩)]
theorem wipe_outs {σ σ2 : L2.St} {is vs : List Nat} (h : Outs is (wipe σ vs) σ2) (hs : ∀ i ∈ is, i ∈ vs) : wipe σ2 vs = wipe σ vs := by
  apply List.ext_getElem?
  intro j
  rw [wipe_get vs]
  by_cases hm : j ∈ vs
  · rw [if_pos hm]
    have hl : σ2.length = σ.length := h.1.trans (wipe_length _ _)
    rw [wipe_get vs, if_pos hm]
    by_cases hj : j < σ.length
    · rw [List.getElem?_eq_getElem (by omega), List.getElem?_eq_getElem hj]; rfl
    · rw [List.getElem?_eq_none (by omega), List.getElem?_eq_none (by omega)]
  · rw [if_neg hm]
    exact h.2 j fun z => hm (hs j z)
theorem zipT_app (vs ws : List V) (ts us : List T) (h : vs.length = ts.length) : zipT (vs ++ ws) (ts ++ us) = zipT vs ts ++ zipT ws us := by
  unfold zipT
  exact List.zipWith_append h
theorem calm_ok {α : Type} {x : Out α} {a : α} {τ : St} (h : x.calm = .ok a τ) : x = .ok a τ := by
  cases x with
  | ok b τ' => exact h
  | exc _ _ => cases h
  | stuck => cases h
theorem calm_exc {α : Type} {x : Out α} {e : Ex} {τ : St} (h : x.calm = .exc e τ) : False := by
  cases x with
  | ok b τ' => cases h
  | exc _ _ => cases h
  | stuck => cases h
theorem turns_exc {tg : Tg} {own : List Nat} {G : St → Out (Option O)} (hG : ∀ τ e τ', G τ ≠ .exc e τ') : ∀ (xs : List T) (τ : St) (e : Ex) (τ' : St), turns tg own G xs τ ≠ .exc e τ'
  | [], τ, e, τ', h => by cases h
  | x :: r, τ, e, τ', h => by
    unfold turns at h
    cases h1 : setTg tg (.fz x) τ with
    | none => rw [h1] at h; cases h
    | some τ1 =>
      rw [h1] at h
      have h : (G τ1).bind (fun o τ2 => (turns tg own G r (wipes own τ2)).bind fun os τ3 => .ok (consO o os) τ3) = .exc e τ' := h
      cases h2 : G τ1 with
      | stuck => rw [h2] at h; cases h
      | exc x2 τ2 => exact hG _ _ _ h2
      | ok o τ2 =>
        rw [h2] at h
        have h : ((turns tg own G r (wipes own τ2)).bind fun os τ3 => .ok (consO o os) τ3) = .exc e τ' := h
        cases h3 : turns tg own G r (wipes own τ2) with
        | stuck => rw [h3] at h; cases h
        | exc x3 τ3 => exact turns_exc hG r _ _ _ h3
        | ok os τ3 =>
          rw [h3] at h
          cases o <;> cases h
/-- the wish of a block: nothing is let out -/
abbrev W0 : WX := fun _ _ _ _ => False
def LcG (Γ : Nat → List O → COut) (kp : Bool) (cond el : E) : St → Out (Option O) := fun τ => ((evalC Γ cond τ).bind fun k τ1 => if k then ((evalE Γ el τ1).fr kp).map some else .ok none τ1).calm
section
variable {g : Cfg} {Γ : Nat → List O → COut} {Wx : WX} {X : Cx}
theorem J_lc {kp : Bool} {src cond el : E} {tg : Tg} {vs : List Nat} (hsub : ∀ i ∈ tg.slots, i ∈ vs) {σ : L2.St} {H : Hp} {Q : VK} (h : JE g Γ Wx (.lc kp src tg vs cond el) σ H Q) :
    tLc (JI g Γ Wx src) (JG g tg) (JC g Γ W0 cond) (JE g Γ W0 el) vs σ H Q := by
  obtain ⟨τ, ex, ow, p⟩ := h
  simp only [evalE] at p
  refine ⟨τ, ex, ow, post_mono (post_bind p) fun xs τ1 q J cs H1 itr ow1 => ?_⟩
  have q : post g Wx σ ex ((turns tg vs (LcG Γ kp cond el) xs (wipes vs τ1)).bind fun ts τ2 => if ts.length ≤ sizeT then .ok (.lst ts) τ2 else .stuck) (fun o τ' => ∀ v H', OW g σ [.val o] [v] τ' ex H' → Q v H') := q
  intro D hD
  obtain ⟨gd1, ds, pm⟩ := wipe_good vs ow1.gd
  -- the turns still to come
  let Rst : List O → Out (List O) → Prop := fun at_ out => match out with
    | .ok ts τf => (at_ ++ ts).length ≤ sizeT ∧ ∀ v H', OW g σ [.val (.lst (at_ ++ ts))] [v] τf ex H' → Q v H'
    | _ => False
  let Nv : Nat → Hp → Prop := fun i H => ∃ (τi : St) (av : List V) (at_ : List O), Good (wipe σ vs) τi ∧ W g H (.pt D (.lst av) :: (zipO av at_ ++ (cs ++ (cellsOf (wipe σ vs) τi ++ ex)))) ∧ av.length = at_.length ∧ Rst at_ (turns tg vs (LcG Γ kp cond el) (xs.drop i) τi)
  have start : Nv 0 (upd H1 D (.lst [])) := by
    refine ⟨wipes vs τ1, [], [], gd1, ?_, rfl, ?_⟩
    · have w : W g H1 (cellsOf σ τ1 ++ (cs ++ ex)) := ow1.w
      have w2 : W g H1 (ds ++ (cellsOf (wipe σ vs) (wipes vs τ1) ++ (cs ++ ex))) := w.perm (by
        refine (pm.append_right _).trans ?_
        rw [List.append_assoc])
      exact (w2.dropL.perm (pswap _ _ _)).lay hD
    · rw [List.drop_zero]
      cases hT : turns tg vs (LcG Γ kp cond el) xs (wipes vs τ1) with
      | stuck => rw [hT] at q; exact q
      | exc e τ' => exact turns_exc (fun τ e τ' h => calm_exc h) _ _ _ _ hT
      | ok ts τf =>
        rw [hT] at q
        have q : post g Wx σ ex (if ts.length ≤ sizeT then .ok (.lst ts) τf else .stuck) (fun o τ' => ∀ v H', OW g σ [.val o] [v] τ' ex H' → Q v H') := q
        split at q
        · rename_i hl; exact ⟨hl, q⟩
        · exact q.elim
  refine ⟨fun i m H => i + m = xs.length ∧ Nv i H, ⟨xs.length, by omega, start⟩, fun i m H hW => ?_⟩
  obtain ⟨hm, τi, av, at_, gdi, w, la, hr⟩ := hW
  have wc : W g H (cs ++ (.pt D (.lst av) :: (zipO av at_ ++ (cellsOf (wipe σ vs) τi ++ ex)))) := w.perm (by
    refine (List.Perm.cons _ (pswap _ _ _)).trans ?_
    exact List.perm_middle.symm)
  obtain ⟨it1, it2⟩ := itr H _ i wc
  by_cases hi : i < xs.length
  · have ht : xs[i]? = some xs[i] := List.getElem?_eq_getElem hi
    obtain ⟨go, yl⟩ := it1 _ ht
    rw [List.drop_eq_getElem_cons hi] at hr
    unfold turns at hr
    cases hset : setTg tg (.fz xs[i]) τi with
    | none => rw [hset] at hr; exact hr.elim
    | some τ2 =>
      rw [hset] at hr
      have hr : Rst at_ ((LcG Γ kp cond el τ2).bind fun o τ3 => (turns tg vs (LcG Γ kp cond el) (xs.drop (i + 1)) (wipes vs τ3)).bind fun os τ4 => .ok (consO o os) τ4) := hr
      cases hG : LcG Γ kp cond el τ2 with
      | stuck => rw [hG] at hr; exact hr.elim
      | exc e τ' => exact (calm_exc hG).elim
      | ok o τ3 =>
        rw [hG] at hr
        have hr : Rst at_ ((turns tg vs (LcG Γ kp cond el) (xs.drop (i + 1)) (wipes vs τ3)).bind fun os τ4 => .ok (consO o os) τ4) := hr
        refine .inr ⟨go, Nv (i + 1), fun H' n => ⟨m - 1, by omega, by omega, n⟩, fun x H' y => ?_⟩
        have wy := yl x H' y
        refine ⟨.fz xs[i], τi, .pt D (.lst av) :: (zipO av at_ ++ (cs ++ ex)), τ2, gdi, wy.perm (List.Perm.cons _ ?_), hset, fun σ2 gd2 outs w2 => ⟨wipe_outs outs hsub, ?_⟩⟩
        · -- cs ++ (pt :: (z ++ (c ++ ex)))  ~  c ++ (pt :: (z ++ (cs ++ ex)))
          refine List.perm_middle.trans ?_
          refine List.Perm.trans ?_ List.perm_middle.symm
          refine List.Perm.cons _ ?_
          refine (List.Perm.append_left _ (pswap _ _ _)).trans ?_
          refine (pswap _ _ _).trans ?_
          exact List.Perm.append_left _ (pswap _ _ _)
        · -- the test
          have hG := calm_ok hG
          refine ⟨τ2, .pt D (.lst av) :: (zipO av at_ ++ (cs ++ ex)), ⟨gd2, trivial, w2⟩, ?_⟩
          cases hc : evalC Γ cond τ2 with
          | stuck => rw [hc] at hG; cases hG
          | exc e τ' => rw [hc] at hG; cases hG
          | ok k τc =>
            rw [hc] at hG
            have hG : (if k then ((evalE Γ el τc).fr kp).map some else .ok none τc) = .ok o τ3 := hG
            intro H3 ow3
            -- a turn's end
            have fin : ∀ {at2 : List O} {av2 : List V} {τe : St} {H4 : Hp}, Good σ2 τe → W g H4 (.pt D (.lst av2) :: (zipO av2 at2 ++ (cs ++ (cellsOf σ2 τe ++ ex)))) → av2.length = at2.length → Rst at2 (turns tg vs (LcG Γ kp cond el) (xs.drop (i + 1)) (wipes vs τe)) → Nv (i + 1) H4 := fun {at2 av2 τe H4} gde we le re => by
              obtain ⟨gdw, dw, pw⟩ := wipe_good vs gde
              rw [wipe_outs outs hsub] at gdw pw
              refine ⟨wipes vs τe, av2, at2, gdw, ?_, le, re⟩
              have we2 : W g H4 (dw ++ (.pt D (.lst av2) :: (zipO av2 at2 ++ (cs ++ (cellsOf (wipe σ vs) (wipes vs τe) ++ ex))))) := we.perm (by
                refine List.Perm.trans ?_ List.perm_middle.symm
                refine List.Perm.cons _ ?_
                refine List.Perm.trans ?_ (pswap _ _ _)
                refine List.Perm.append_left _ ?_
                refine List.Perm.trans ?_ (pswap _ _ _)
                refine List.Perm.append_left _ ?_
                refine (pw.append_right ex).trans ?_
                rw [List.append_assoc])
              exact we2.dropL
            cases k with
            | false =>
              cases hG
              have hr : Rst at_ ((turns tg vs (LcG Γ kp cond el) (xs.drop (i + 1)) (wipes vs τ3)).bind fun os τ4 => .ok os τ4) := hr
              refine fin (at2 := at_) (av2 := av) ow3.gd (ow3.w.perm ?_) la ?_
              · refine List.perm_middle.trans (List.Perm.cons _ ?_)
                refine (pswap _ _ _).trans (List.Perm.append_left _ ?_)
                exact pswap _ _ _
              · cases hT : turns tg vs (LcG Γ kp cond el) (xs.drop (i + 1)) (wipes vs τ3) with
                | stuck => rw [hT] at hr; exact hr.elim
                | exc e τ' => rw [hT] at hr; exact hr.elim
                | ok ts τf => rw [hT] at hr; exact hr
            | true =>
              have hG : ((evalE Γ el τc).fr kp).map some = .ok o τ3 := hG
              refine ⟨τc, .pt D (.lst av) :: (zipO av at_ ++ (cs ++ ex)), ow3, ?_⟩
              cases he : evalE Γ el τc with
              | stuck => rw [he] at hG; cases hG
              | exc e τ' => rw [he] at hG; cases hG
              | ok oo τe =>
                rw [he] at hG
                have hG : (if kp then .ok oo τe else lift oo.toT fun t => Out.ok (.fz t) τe).map some = .ok o τ3 := hG
                -- what is kept
                have hu : ∃ u, o = some u ∧ τe = τ3 ∧ (u = oo ∨ ∃ t, oo.toT = some t ∧ u = .fz t) := by
                  cases kp with
                  | true => cases hG; exact ⟨oo, rfl, rfl, .inl rfl⟩
                  | false =>
                    have hG : (lift oo.toT fun t => Out.ok (.fz t) τe).map some = .ok o τ3 := hG
                    cases hf : oo.toT with
                    | none => rw [hf] at hG; cases hG
                    | some t =>
                      rw [hf] at hG
                      cases hG
                      exact ⟨.fz t, rfl, rfl, .inr ⟨t, rfl, rfl⟩⟩
                obtain ⟨u, rfl, rfl, hu⟩ := hu
                · intro yv H4 ow4
                  have hr : Rst at_ ((turns tg vs (LcG Γ kp cond el) (xs.drop (i + 1)) (wipes vs τe)).bind fun os τ4 => .ok (u :: os) τ4) := hr
                  have w4 : W g H4 (.c yv oo :: (cellsOf σ2 τe ++ (.pt D (.lst av) :: (zipO av at_ ++ (cs ++ ex))))) := ow4.w
                  have w4' : W g H4 (.c yv u :: (cellsOf σ2 τe ++ (.pt D (.lst av) :: (zipO av at_ ++ (cs ++ ex))))) := by
                    rcases hu with rfl | ⟨t, hf, rfl⟩
                    · exact w4
                    · exact w4.freeze hf
                  have w5 : W g H4 (.pt D (.lst av) :: (zipO av at_ ++ (.c yv u :: (cs ++ (cellsOf σ2 τe ++ ex))))) := w4'.perm (by
                    refine (List.Perm.cons _ List.perm_middle).trans ?_
                    refine (List.Perm.swap _ _ _).trans (List.Perm.cons _ ?_)
                    refine List.Perm.trans ?_ List.perm_middle.symm
                    refine List.Perm.cons _ ?_
                    refine (pswap _ _ _).trans (List.Perm.append_left _ ?_)
                    exact pswap _ _ _)
                  cases hT : turns tg vs (LcG Γ kp cond el) (xs.drop (i + 1)) (wipes vs τe) with
                  | stuck => rw [hT] at hr; exact hr.elim
                  | exc e τ' => rw [hT] at hr; exact hr.elim
                  | ok ts τf =>
                    rw [hT] at hr
                    have hr : (at_ ++ u :: ts).length ≤ sizeT ∧ ∀ v H', OW g σ [.val (.lst (at_ ++ u :: ts))] [v] τf ex H' → Q v H' := hr
                    have hl : av.length < sizeLine := by
                      have := hr.1
                      rw [List.length_append, List.length_cons] at this
                      rw [← size_eq, la]; omega
                    refine ⟨av, w5.read, hl, fin (at2 := at_ ++ [u]) (av2 := av ++ [yv]) ow4.gd ?_ (by rw [List.length_append, List.length_append, la]; rfl) ?_⟩
                    · rw [zipO_app _ _ _ _ la, List.append_assoc]
                      exact w5.write
                    · rw [hT]
                      show (at_ ++ [u] ++ ts).length ≤ sizeT ∧ ∀ v H', OW g σ [.val (.lst (at_ ++ [u] ++ ts))] [v] τf ex H' → Q v H'
                      rw [List.append_assoc]
                      exact hr
  · have e0 : xs.drop i = [] := List.drop_eq_nil_of_le (by omega)
    rw [e0] at hr
    have hr : (at_ ++ []).length ≤ sizeT ∧ ∀ v H', OW g σ [.val (.lst (at_ ++ []))] [v] τi ex H' → Q v H' := hr
    rw [List.append_nil] at hr
    refine .inl ⟨it2 (by omega), hr.2 _ _ ?_⟩
    obtain ⟨gd, ec⟩ := unwipe vs gdi
    refine .fin gd ?_
    have w6 : W g H (.c (.ref D) (.lst at_) :: (cs ++ (cellsOf (wipe σ vs) τi ++ ex))) := W.closeL (os := at_) w la
    rw [ec]
    have w7 : W g H (cs ++ (.c (.ref D) (.lst at_) :: (cellsOf (wipe σ vs) τi ++ ex))) := w6.perm List.perm_middle.symm
    exact w7.dropL
end
end Iv
/-! Iv17: from the model's expressions to the interpreter's, and that this is sound. -/
namespace Iv
open PySem L2 PySem.Spec PyProof.Rows
/-- what a name at the top is: built in, an own def, a constant -/
inductive Gk where
  | bi | df (f : Nat) | con (t : T)
structure CT where
  N : List Str
  sc : Scope
  blk : Option Scope
  gl : List (Str × Gk)
  tks : List Pos
  owns : List Pos
  drops : List (Nat × List Nat)
def CT.fnB (ct : CT) (x : Str) : Bool := match ct.blk with
  | none => true
  | some sc => sc.names.lookup x == some .cell
def CT.sub (ct : CT) (sc : Scope) : CT := { ct with sc := relS sc ct.sc, blk := some sc }
def ixOf : List Str → Str → Option Nat
  | [], _ => none
  | y :: r, x => if y = x then some 0 else (ixOf r x).map (· + 1)
theorem ixOf_get : ∀ {N : List Str} {x : Str} {i : Nat}, ixOf N x = some i → N[i]? = some x
  | [], _, _, h => by cases h
  | y :: r, x, i, h => by
    unfold ixOf at h
    split at h
    · rename_i e
      cases h
      rw [e]; rfl
    · cases h1 : ixOf r x with
      | none => rw [h1] at h; cases h
      | some j =>
        rw [h1] at h
        cases h
        show r[j]? = some x
        exact ixOf_get h1
def okName (x : Str) : Bool := !(x == ("__debug__" : Str)) && !(x == ("__classdict__" : Str)) && !(decide (x = "__name__"))
def visB (sc : Scope) (x : Str) : Bool := decide (sc.names.lookup x = some .local) || decide (sc.names.lookup x = some .cell) || decide (sc.names.lookup x = some .free)
def locB (sc : Scope) (x : Str) : Bool := decide (sc.names.lookup x = some .local) || decide (sc.names.lookup x = some .cell)
def CT.glB (ct : CT) (x : Str) : Bool := decide (ct.sc.names.lookup x = some .globalImplicit) && okName x
def CT.biB (ct : CT) (x : Str) : Bool := ct.glB x && (match ct.gl.lookup x with | some .bi => true | _ => false)
theorem vis_of {sc : Scope} {x : Str} (h : visB sc x = true) : Vis sc x := by
  unfold visB at h
  simp only [Bool.or_eq_true, decide_eq_true_eq] at h
  rcases h with (h | h) | h
  · exact .inl h
  · exact .inr (.inl h)
  · exact .inr (.inr h)
theorem loc_of {sc : Scope} {x : Str} (h : locB sc x = true) : Loc sc x := by
  unfold locB at h
  simp only [Bool.or_eq_true, decide_eq_true_eq] at h
  exact h
theorem ok_of {x : Str} (h : okName x = true) : (x == ("__debug__" : Str)) = false ∧ (x == ("__classdict__" : Str)) = false ∧ x ≠ "__name__" := by
  unfold okName at h
  simp only [Bool.and_eq_true, Bool.not_eq_true', decide_eq_false_iff_not] at h
  exact ⟨h.1.1, h.1.2, h.2⟩

def GlOk (g : Cfg) (Γ : Nat → List O → COut) (X : Cx) (x : Str) : Gk → Prop
  | .bi => X.mg x = none
  | .df f => DfOk g (Γ f) X x
  | .con t => ∃ v u, X.mg x = some u ∧ RelV v u ∧ ∀ H A, Rep g A H t v
structure Ctx (g : Cfg) (Γ : Nat → List O → COut) (ct : CT) (X : Cx) : Prop where
  N : X.N = ct.N
  nd : X.N.Nodup
  sc : X.env.scope = ct.sc
  K : X.K = g.K
  hu : X.A.units + 65 < cLine
  calm : X.calm = true
  fn : ∀ x, ct.fnB x = true → X.fn x = true
  gl : ∀ x k, ct.gl.lookup x = some k → GlOk g Γ X x k
section
variable {g : Cfg} {Γ : Nat → List O → COut} {ct : CT} {X : Cx}
theorem Ctx.glo (c : Ctx g Γ ct X) {x : Str} (h : ct.glB x = true) : Gl X x ∧ (x == ("__debug__" : Str)) = false ∧ (x == ("__classdict__" : Str)) = false ∧ x ≠ "__name__" := by
  obtain ⟨h1, h2⟩ := and2 h
  refine ⟨?_, ok_of h2⟩
  show X.env.scope.names.lookup x = _
  rw [c.sc]
  exact of_decide_eq_true (p := ct.sc.names.lookup x = some .globalImplicit) h1
theorem Ctx.bi (c : Ctx g Γ ct X) {x : Str} (h : ct.biB x = true) : Gl X x ∧ X.mg x = none := by
  obtain ⟨h1, h2⟩ := and2 h
  refine ⟨(c.glo h1).1, ?_⟩
  cases hl : ct.gl.lookup x with
  | none => rw [hl] at h2; cases h2
  | some k =>
    rw [hl] at h2
    cases k with
    | bi => exact c.gl x _ hl
    | _ => cases h2
/-- the context of a comprehension's block -/
theorem Ctx.sub (c : Ctx g Γ ct X) (sc : Scope) (s : Shared) (H : Hp) (C : Addr) (cl : List (Str × Addr)) (fp : List Addr) : Ctx g Γ (ct.sub sc) (X.blk s H sc (compEnvC sc cl C X.env) fp) where
  N := c.N
  nd := c.nd
  sc := by
    show relS sc X.env.scope = relS sc ct.sc
    rw [c.sc]
  K := c.K
  hu := c.hu
  calm := c.calm
  fn := fun x h => h
  gl := fun x k h => by
    have q := c.gl x k h
    cases k with
    | bi => exact q
    | df f => exact ⟨q.ex⟩
    | con t => exact q
end

def cName (ct : CT) (x : Str) : Option E := if okName x then match ixOf ct.N x with
    | some i => if visB ct.sc x then some (.v i) else none
    | none => match ct.gl.lookup x with
      | some (.con t) => if ct.glB x then some (.c t) else none
      | _ => none
  else none
def cAll (rE : Expr → Option E) : List Expr → Option E
  | [] => some .nil
  | e :: es => if starB e then (rE e).bind fun x => (cAll rE es).map (.cons x) else none
def cCmp (rE : Expr → Option E) (a : Expr) (ops : List CmpOp) (bs : List Expr) : Option E := match ops, bs with
  | [.Is], [.Constant .none _ _] => (rE a).map .isN
  | [.IsNot], [.Constant .none _ _] => (rE a).map .notN
  | [op], [b] => (copOf op).bind fun o => if behindInMarks op b then none else (rE a).bind fun x => (rE b).map (.cmp o x)
  | [op, op'], [b, c] => (copOf op).bind fun o => (copOf op').bind fun o' => if lastMarks [op, op'] [b, c] then none else (rE a).bind fun x => (rE b).bind fun y => (rE c).map (.chain o o' x y)
  | _, _ => none
def bopE : BoolOp → E → E → E
  | .And, a, b => .and a b
  | .Or, a, b => .or a b
def cBool (rE : Expr → Option E) (op : BoolOp) : List Expr → Option E
  | [] => none
  | [a] => rE a
  | a :: b :: r => (rE a).bind fun x => (cBool rE op (b :: r)).map (bopE op x)
def cPart (rE : Expr → Option E) : Option Expr → Option E
  | none => some (.c .non)
  | some e => rE e
def cSub (rE : Expr → Option E) (a : Expr) (i : Expr) : Option E := match i with
  | .Slice lo hi none _ => (rE a).bind fun x => (cPart rE lo).bind fun y => (cPart rE hi).map (.sl x y)
  | .Slice _ _ (some _) _ => none
  | i => (rE a).bind fun x => (rE i).map (.ix x)
def isV : E → Option Nat
  | .v i => some i
  | _ => none
theorem isV_ok {m : E} {i : Nat} (h : isV m = some i) : m = .v i := by
  cases m <;> cases h; rfl
def mtOf (x : Str) (n : Nat) : Option Mt := if x = "append" && n == 1 then some .append else if x = "extend" && n == 1 then some .extend else if x = "pop" && n == 1 then some .pop1 else if x = "count" && n == 1 then some .count else none
def cCall (ct : CT) (rE : Expr → Option E) (f : Expr) (args : List Expr) (pos : Pos) : Option E := match f with
  | .Name x _ =>
    if x = "isinstance" then match args with
      | [e, .Name y _] => if ct.biB "isinstance" && ct.biB y && starB e then (tyOf y).bind fun t => (rE e).map (.isi · t) else none
      | _ => none
    else if args.isEmpty then none else if ct.biB x then (biOf x args.length).bind fun f => (cAll rE args).map (.fn f)
    else if ct.glB x then match ct.gl.lookup x with
      | some (.df f) => (cAll rE args).map (.call f)
      | _ => none
    else none
  | .Attribute o m ap => if plainO o && (ap.endLine == pos.line) then
      (if m = "get" then match args with
        | [a, b] => if starB a && starB b then (rE o).bind fun x => (rE a).bind fun y => (rE b).map (.get x y) else none
        | _ => none
      else if m = "pop" && args.isEmpty then (rE o).bind fun x => (isV x).map fun i => .mth .pop0 (.v i) .nil
      else (mtOf m args.length).bind fun mt => (rE o).bind fun x => (cAll rE args).bind fun es => match mt with
        | .count => some (.mth .count x es)
        | mt => (isV x).map fun i => .mth mt (.v i) es)
    else none
  | _ => none
def ownOf (ct : CT) (sc : Scope) : List (Str × Nat) := sc.names.filterMap fun y => match y.2 with
  | .local => (ixOf ct.N y.1).map fun i => (y.1, i)
  | .cell => (ixOf ct.N y.1).map fun i => (y.1, i)
  | _ => none
def notSet : Expr → Bool
  | .Set .. => false
  | _ => true
theorem fold_ok {e : Expr} {env : Env} (h : notSet e = true) (x : Value) : foldedSetIterable e env x = pure x := by
  cases e <;> first | rfl | cases h
def isTuple : Expr → Bool
  | .Tuple .. => true
  | _ => false
/-- targets -/
def cT (ct : CT) : Nat → Expr → Option Tg
  | 0, _ => none
  | n + 1, e => match e with
    | .Name x _ => (ixOf ct.N x).bind fun i => if locB ct.sc x && (ct.fnB x || decide (ct.sc.names.lookup x = some .local)) then some (.nm i) else none
    | .Tuple [a, b] _ _ => if starB a && starB b then (cT ct n a).bind fun x => (cT ct n b).map (.t2 x) else none
    | .Tuple [a, b, c] _ _ => if starB a && starB b && starB c then (cT ct n a).bind fun x => (cT ct n b).bind fun y => (cT ct n c).map (.t3 x y) else none
    | _ => none
def cIter (ct : CT) (rE : Expr → Option E) (tg : Expr) (e : Expr) : Option E := match e with
  | .Call (.Name x _) args [] _ =>
    if x = "range" && ct.biB x then match args with
      | [a] => if starB a then (rE a).map .rng1 else none
      | [a, b] => if starB a && starB b then (rE a).bind fun x => (rE b).map (.rng2 x) else none
      | [a, b, c] => if starB a && starB b && starB c then (rE a).bind fun x => (rE b).bind fun y => (rE c).map (.rng3 x y) else none
      | _ => none
    else if x = "reversed" && ct.biB x then match args with
      | [a] => if starB a then (rE a).map .revd else none
      | _ => none
    else if x = "enumerate" && ct.biB x && isTuple tg then match args with
      | [a] => if starB a then (rE a).map .enum else none
      | _ => none
    else if x = "zip" && ct.biB x && isTuple tg then match args with
      | [a, b] => if starB a && starB b then (rE a).bind fun x => (rE b).map (.zip x) else none
      | _ => none
    else (rE e).map .iv
  | e => (rE e).map .iv
def tvOf (m : E) : E := match m with
  | .v i => .v i
  | m => .tv m
mutual
def cE : Nat → CT → Expr → Option E
  | 0, _, _ => none
  | n + 1, ct, e => match e with
    | .Constant (.int i) _ _ => some (.c (.int i))
    | .Constant (.bool b) _ _ => some (.c (.bl b))
    | .Constant .none _ _ => some (.c .non)
    | .Constant (.str s) _ _ => some (.c (.str s.cps.toList))
    | .Name x _ => cName ct x
    | .BinOp a op b _ => (bopOf op).bind fun o => (cE n ct a).bind fun x => (cE n ct b).map (.bin o x)
    | .UnaryOp .USub a _ => (cE n ct a).map .neg
    | .UnaryOp .Not a _ => (cE n ct a).map .not
    | .Compare a ops bs _ => cCmp (cE n ct) a ops bs
    | .BoolOp op es _ => cBool (cE n ct) op es
    | .IfExp c a b _ => (cC n ct c).bind fun x => (cE n ct a).bind fun y => (cE n ct b).map (.ite x y)
    | .Tuple es _ _ => (cAll (cE n ct) es).map .tup
    | .List es _ => (cAll (cE n ct) es).map .lst
    | .Dict [] [] p => some (.dct (ct.tks.any fun q => decide (q = p)) .nil .nil)
    | .Subscript a i _ => cSub (cE n ct) a i
    | .Call f args [] pos => cCall ct (cE n ct) f args pos
    | .ListComp elt [⟨tg, iter, ifs, a⟩] sc pos => if a = 0 && blkC ct.N ct.sc sc (ownOf ct sc) && notSet iter then
        (cIter ct (cE n ct) tg iter).bind fun src => (cT (ct.sub sc) n tg).bind fun t => if t.slots.all (fun i => ((ownOf ct sc).map (·.2)).contains i) then
          Option.bind (match ifs with
            | [] => some (E.c (.bl true))
            | [c] => cC n (ct.sub sc) c
            | _ => none) fun cond => (cE n (ct.sub sc) elt).map (.lc (ct.owns.any fun q => decide (q = pos)) src t ((ownOf ct sc).map (·.2)) cond)
        else none
      else none
    | _ => none
def cC : Nat → CT → Expr → Option E
  | 0, _, _ => none
  | n + 1, ct, e => match e with
    | .BoolOp op es _ => cBool (cC n ct) op es
    | .UnaryOp .Not a _ => (cC n ct a).map .not
    | .Compare a ops bs _ => (cCmp (cE n ct) a ops bs).map .tv
    | .Name x _ => (cName ct x).map tvOf
    | .Call f args [] pos => (cCall ct (cE n ct) f args pos).map .tv
    | .Subscript a i _ => (cSub (cE n ct) a i).map .tv
    | _ => none
end
end Iv
/-! Iv18: the compiled expressions are what the model's expressions do. -/
namespace Iv
open PySem L2 PySem.Spec PyProof.Rows
theorem obind {α β : Type} {o : Option α} {f : α → Option β} {b : β} (h : o.bind f = some b) : ∃ a, o = some a ∧ f a = some b := Option.bind_eq_some_iff.mp h
theorem omap {α β : Type} {o : Option α} {f : α → β} {b : β} (h : o.map f = some b) : ∃ a, o = some a ∧ f a = b := Option.map_eq_some_iff.mp h
theorem oif {α : Type} {c : Bool} {o : Option α} {b : α} (h : (if c = true then o else none) = some b) : c = true ∧ o = some b := by
  split at h
  · rename_i hc; exact ⟨hc, h⟩
  · cases h
theorem onif {α : Type} {c : Bool} {o : Option α} {b : α} (h : (if c = true then none else o) = some b) : c = false ∧ o = some b := by
  cases c with
  | true => cases h
  | false => exact ⟨rfl, h⟩
theorem and4 {a b c d : Bool} (h : (a && b && c && d) = true) : a = true ∧ b = true ∧ c = true ∧ d = true := by
  obtain ⟨h1, h2⟩ := and2 h
  obtain ⟨h3, h4, h5⟩ := and3 h1
  exact ⟨h3, h4, h5, h2⟩
section
variable {g : Cfg} {Γ : Nat → List O → COut} {ct : CT} {X : Cx} {Wx : WX}
/-- what is owed for expressions: as operands, as values -/
def OkE (g : Cfg) (Γ : Nat → List O → COut) (X : Cx) (Wx : WX) (rE : Expr → Option E) : Prop := ∀ e m, rE e = some m → PE X e (JE g Γ Wx m) ∧ PE X e (JO g Γ Wx m)
def OkC (g : Cfg) (Γ : Nat → List O → COut) (X : Cx) (Wx : WX) (rC : Expr → Option E) : Prop := ∀ e m, rC e = some m → PT X e (JC g Γ Wx m)
theorem noV {e : Expr} {m : E} (hm : ∀ i, m ≠ .v i) (h : PE X e (JE g Γ Wx m)) : PE X e (JE g Γ Wx m) ∧ PE X e (JO g Γ Wx m) := ⟨h, JO_of_JE hm h⟩
theorem ok_name (c : Ctx g Γ ct X) {x : Str} {pos : Pos} {m : E} (h : cName ct x = some m) : PE X (.Name x pos) (JE g Γ Wx m) ∧ PE X (.Name x pos) (JO g Γ Wx m) ∧ (∀ i, m = .v i → PE X (.Name x pos) (tVar i)) := by
  unfold cName at h
  split at h
  · rename_i ho
    obtain ⟨o1, o2, o3⟩ := ok_of ho
    split at h
    · rename_i i hi
      obtain ⟨hv, e⟩ := if_some h
      subst e
      have hp : PE X (.Name x pos) (tVar i) := pe_var (by rw [c.N]; exact ixOf_get hi) (by rw [c.sc]; exact vis_of hv) o1 o2
      exact ⟨JE_v hp, JO_v hp, fun j e => by cases e; exact hp⟩
    · split at h
      · rename_i t hl
        obtain ⟨hg, e⟩ := if_some h
        subst e
        obtain ⟨v, u, h1, h2, h3⟩ := c.gl x _ hl
        have hp : PE X (.Name x pos) (JE g Γ Wx (.c t)) := JE_c (pe_glob (c.glo hg).1 h1 h2 o1) h3
        exact ⟨hp, JO_of_JE (fun i => by intro z; cases z) hp, fun j e => by cases e⟩
      · cases h
  · cases h
theorem ok_all {rE : Expr → Option E} (hE : OkE g Γ X Wx rE) : ∀ {es : List Expr} {m : E}, cAll rE es = some m → es.all starB = true ∧ PA X es (JL g Γ Wx m)
  | [], m, h => by
    cases h
    exact ⟨rfl, JL_nil⟩
  | e :: es, m, h => by
    unfold cAll at h
    obtain ⟨hs, h⟩ := oif h
    obtain ⟨x, hx, h⟩ := obind h
    obtain ⟨r, hr, rfl⟩ := omap h
    obtain ⟨h1, h2⟩ := ok_all hE hr
    exact ⟨by rw [List.all_cons, hs, h1]; rfl, JL_cons (hE e x hx).2 h2 (star1 hs)⟩
theorem ok_cmp (c : Ctx g Γ ct X) {rE : Expr → Option E} (hE : OkE g Γ X Wx rE) {a : Expr} {ops : List CmpOp} {bs : List Expr} {pos : Pos} {m : E} (h : cCmp rE a ops bs = some m) :
    (∀ i, m ≠ .v i) ∧ PE X (.Compare a ops bs pos) (JE g Γ Wx m) ∧ PT X (.Compare a ops bs pos) (JC g Γ Wx (.tv m)) := by
  unfold cCmp at h
  split at h
  · obtain ⟨x, hx, rfl⟩ := omap h
    exact ⟨fun i z => (by cases z), JE_isN (hE a x hx).2, JC_isN (hE a x hx).2⟩
  · obtain ⟨x, hx, rfl⟩ := omap h
    exact ⟨fun i z => (by cases z), JE_notN (hE a x hx).2, JC_notN (hE a x hx).2⟩
  · obtain ⟨o, ho, h⟩ := obind h
    obtain ⟨hb, h⟩ := onif h
    obtain ⟨x, hx, h⟩ := obind h
    obtain ⟨y, hy, rfl⟩ := omap h
    exact ⟨fun i z => (by cases z), JE_cmp c.K c.hu ho hb (hE _ x hx).2 (hE _ y hy).2, JC_cmp c.K c.hu ho hb (hE _ x hx).2 (hE _ y hy).2⟩
  · obtain ⟨o, ho, h⟩ := obind h
    obtain ⟨o', ho', h⟩ := obind h
    obtain ⟨hb, h⟩ := onif h
    obtain ⟨x, hx, h⟩ := obind h
    obtain ⟨y, hy, h⟩ := obind h
    obtain ⟨z, hz, rfl⟩ := omap h
    exact ⟨fun i z => (by cases z), JE_chain c.K c.hu ho ho' hb (hE _ x hx).2 (hE _ y hy).2 (hE _ z hz).2, JC_chain c.K c.hu ho ho' hb (hE _ x hx).2 (hE _ y hy).2 (hE _ z hz).2⟩
  · cases h
theorem ok_boolE {rE : Expr → Option E} (hE : OkE g Γ X Wx rE) {op : BoolOp} {pos : Pos} : ∀ {es : List Expr} {m : E}, cBool rE op es = some m → PE X (.BoolOp op es pos) (JE g Γ Wx m)
  | [], m, h => by cases h
  | [a], m, h => pe_one (hE a m h).1
  | a :: b :: r, m, h => by
    unfold cBool at h
    obtain ⟨x, hx, h⟩ := obind h
    obtain ⟨y, hy, rfl⟩ := omap h
    cases op with
    | And => exact JE_and (hE a x hx).2 (ok_boolE hE hy)
    | Or => exact JE_or (hE a x hx).2 (ok_boolE hE hy)
theorem ok_boolC {rC : Expr → Option E} (hC : OkC g Γ X Wx rC) {op : BoolOp} {pos : Pos} : ∀ {es : List Expr} {m : E}, cBool rC op es = some m → PW X (.BoolOp op es pos) (JC g Γ Wx m)
  | [], m, h => by cases h
  | [a], m, h => by
    cases op with
    | And => exact pw_and1 (hC a m h)
    | Or => exact pw_or1 (hC a m h)
  | a :: b :: r, m, h => by
    unfold cBool at h
    obtain ⟨x, hx, h⟩ := obind h
    obtain ⟨y, hy, rfl⟩ := omap h
    cases op with
    | And => exact JC_and (hC a x hx) (ok_boolC hC hy)
    | Or => exact JC_or (hC a x hx) (ok_boolC hC hy)
theorem ok_part {rE : Expr → Option E} (hE : OkE g Γ X Wx rE) {e : Option Expr} {m : E} (h : cPart rE e = some m) : PO X e (JP g Γ Wx m) := by
  cases e with
  | none => cases h; exact JP_none
  | some e => exact JP_some (hE e m h).2
theorem ok_sub (c : Ctx g Γ ct X) {rE : Expr → Option E} (hE : OkE g Γ X Wx rE) {a i : Expr} {pos : Pos} {m : E} (h : cSub rE a i = some m) : (∀ i, m ≠ .v i) ∧ PE X (.Subscript a i pos) (JE g Γ Wx m) := by
  unfold cSub at h
  split at h
  · obtain ⟨x, hx, h⟩ := obind h
    obtain ⟨y, hy, h⟩ := obind h
    obtain ⟨z, hz, rfl⟩ := omap h
    exact ⟨fun i z => (by cases z), JE_sl c.K (hE _ x hx).2 (ok_part hE hy) (ok_part hE hz)⟩
  · cases h
  · rename_i h1 h2
    obtain ⟨x, hx, h⟩ := obind h
    obtain ⟨y, hy, rfl⟩ := omap h
    refine ⟨fun i z => (by cases z), JE_ix c.K c.hu ?_ (hE _ x hx).2 (hE _ y hy).2⟩
    cases i with
    | Slice lo hi st p =>
      cases st with
      | none => exact (h1 lo hi p rfl).elim
      | some s => exact (h2 lo hi s p rfl).elim
    | _ => rfl
theorem bi_calls (c : Ctx g Γ ct X) {x : Str} {f : Bi} {n : Nat} {e : Expr} {es : List Expr} {m : E} {p pos : Pos} (hb : ct.biB x = true) (hf : biOf x n = some f) (ha : PA X (e :: es) (JL g Γ Wx m)) (hs : (e :: es).all starB = true) :
    PE X (.Call (.Name x p) (e :: es) [] pos) (JE g Γ Wx (.fn f m)) := by
  obtain ⟨e1, e2⟩ := biOf_ok hf
  obtain ⟨h1, h2⟩ := c.bi hb
  subst e1
  exact JE_fn c.K c.calm e2 h1 h2 ha hs
theorem mtOf_ok {x : Str} {n : Nat} {mt : Mt} (h : mtOf x n = some mt) : mt.nm = x ∧ n = 1 ∧ (mt = .append ∨ mt = .extend ∨ mt = .pop1 ∨ mt = .count) := by
  unfold mtOf at h
  repeat' split at h
  · rename_i hc; obtain ⟨h1, h2⟩ := and2 hc; cases h; exact ⟨(of_decide_eq_true (p := x = "append") h1).symm, by simpa using h2, .inl rfl⟩
  · rename_i hc; obtain ⟨h1, h2⟩ := and2 hc; cases h; exact ⟨(of_decide_eq_true (p := x = "extend") h1).symm, by simpa using h2, .inr (.inl rfl)⟩
  · rename_i hc; obtain ⟨h1, h2⟩ := and2 hc; cases h; exact ⟨(of_decide_eq_true (p := x = "pop") h1).symm, by simpa using h2, .inr (.inr (.inl rfl))⟩
  · rename_i hc; obtain ⟨h1, h2⟩ := and2 hc; cases h; exact ⟨(of_decide_eq_true (p := x = "count") h1).symm, by simpa using h2, .inr (.inr (.inr rfl))⟩
  · cases h
/-- names in the loop of operands: for methods -/
def OkV (X : Cx) (rE : Expr → Option E) : Prop := ∀ e i, rE e = some (.v i) → PE X e (tVar i)
theorem ok_call (c : Ctx g Γ ct X) (tk : Takes X Wx) {rE : Expr → Option E} (hE : OkE g Γ X Wx rE) (hV : OkV X rE) {f : Expr} {args : List Expr} {pos : Pos} {m : E} (h : cCall ct rE f args pos = some m) :
    (∀ i, m ≠ .v i) ∧ PE X (.Call f args [] pos) (JE g Γ Wx m) := by
  unfold cCall at h
  split at h
  · -- a name
    rename_i x p
    split at h
    · rename_i ex
      subst ex
      split at h
      · rename_i e y p2
        obtain ⟨hc, h⟩ := oif h
        obtain ⟨h1, h2, h3⟩ := and3 hc
        obtain ⟨t, ht, h⟩ := obind h
        obtain ⟨a, ha, rfl⟩ := omap h
        exact ⟨fun i z => (by cases z), JE_isi c.K ht (c.bi h1).1 (c.bi h1).2 (c.bi h2).1 (c.bi h2).2 h3 (hE _ a ha).2⟩
      · cases h
    · obtain ⟨hn, h⟩ := onif h
      cases args with
      | nil => cases hn
      | cons e es =>
        split at h
        · rename_i hb
          obtain ⟨f, hf, h⟩ := obind h
          obtain ⟨r, hr, rfl⟩ := omap h
          obtain ⟨h1, h2⟩ := ok_all hE hr
          exact ⟨fun i z => (by cases z), bi_calls c hb hf h2 h1⟩
        · obtain ⟨hg, h⟩ := oif h
          split at h
          · rename_i f hl
            obtain ⟨r, hr, rfl⟩ := omap h
            obtain ⟨h1, h2⟩ := ok_all hE hr
            exact ⟨fun i z => (by cases z), JE_call (c.gl x _ hl) tk (c.glo hg).1 (c.glo hg).2.1 h2 h1⟩
          · cases h
  · -- a method
    rename_i o mn ap
    obtain ⟨hc, h⟩ := oif h
    obtain ⟨hp, hl⟩ := and2 hc
    split at h
    · rename_i em
      rw [em]
      split at h
      · rename_i a b
        obtain ⟨hs, h⟩ := oif h
        obtain ⟨h1, h2⟩ := and2 hs
        obtain ⟨x, hx, h⟩ := obind h
        obtain ⟨y, hy, h⟩ := obind h
        obtain ⟨z, hz, rfl⟩ := omap h
        exact ⟨fun i z => (by cases z), JE_get c.hu hl (hE _ x hx).2 hp (hE _ y hy).2 (hE _ z hz).2 (by rw [List.all_cons, List.all_cons, h1, h2]; rfl)⟩
      · cases h
    · split at h
      · rename_i hq
        obtain ⟨q1, q2⟩ := and2 hq
        have em : mn = "pop" := of_decide_eq_true (p := mn = "pop") q1
        obtain ⟨x, hx, h⟩ := obind h
        obtain ⟨i, hi, rfl⟩ := omap h
        rw [isV_ok hi] at hx
        rw [em]
        cases args with
        | nil => exact ⟨fun i z => (by cases z), JE_mut0 c.K hl (hV _ _ hx) hp⟩
        | cons _ _ => cases q2
      · obtain ⟨mt, hm, h'⟩ := obind h
        obtain ⟨x, hx, h''⟩ := obind h'
        obtain ⟨es, hes, hh⟩ := obind h''
        obtain ⟨h1, h2⟩ := ok_all hE hes
        obtain ⟨m1, m2, m3⟩ := mtOf_ok hm
        rw [← m1]
        clear hm m1
        match args, m2, h1, h2 with
        | [e], _, h1, h2 =>
          rcases m3 with rfl | rfl | rfl | rfl
          · obtain ⟨i, hi, rfl⟩ := omap hh
            rw [isV_ok hi] at hx
            exact ⟨fun i z => (by cases z), JE_mut1 (.inl rfl) c.K hl (hV _ _ hx) hp h2 h1 (by simp)⟩
          · obtain ⟨i, hi, rfl⟩ := omap hh
            rw [isV_ok hi] at hx
            exact ⟨fun i z => (by cases z), JE_mut1 (.inr (.inl rfl)) c.K hl (hV _ _ hx) hp h2 h1 (by simp)⟩
          · obtain ⟨i, hi, rfl⟩ := omap hh
            rw [isV_ok hi] at hx
            exact ⟨fun i z => (by cases z), JE_mut1 (.inr (.inr rfl)) c.K hl (hV _ _ hx) hp h2 h1 (by simp)⟩
          · cases hh
            exact ⟨fun i z => (by cases z), JE_count c.K hl (hE _ x hx).2 hp h2 h1 (by simp)⟩
  · cases h
theorem ok_tg (c : Ctx g Γ ct X) : ∀ {n : Nat} {e : Expr} {t : Tg}, cT ct n e = some t → PG X e (JG g t)
  | 0, _, _, h => by cases h
  | n + 1, e, t, h => by
    unfold cT at h
    split at h
    · obtain ⟨i, hi, h⟩ := obind h
      obtain ⟨hc, e⟩ := if_some h
      subst e
      obtain ⟨h1, h2⟩ := and2 hc
      refine JG_nm c.nd (by rw [c.N]; exact ixOf_get hi) (by rw [c.sc]; exact loc_of h1) ?_
      rw [Bool.or_eq_true] at h2
      rcases h2 with h2 | h2
      · exact .inl (c.fn _ h2)
      · exact .inr (by rw [c.sc]; exact of_decide_eq_true h2)
    · obtain ⟨hs, h⟩ := oif h
      obtain ⟨h1, h2⟩ := and2 hs
      obtain ⟨x, hx, h⟩ := obind h
      obtain ⟨y, hy, rfl⟩ := omap h
      exact JG_t2 c.calm c.K (ok_tg c hx) (ok_tg c hy) (by rw [List.all_cons, List.all_cons, h1, h2]; rfl)
    · obtain ⟨hs, h⟩ := oif h
      obtain ⟨h1, h2, h3⟩ := and3 hs
      obtain ⟨x, hx, h⟩ := obind h
      obtain ⟨y, hy, h⟩ := obind h
      obtain ⟨z, hz, rfl⟩ := omap h
      exact JG_t3 c.calm c.K (ok_tg c hx) (ok_tg c hy) (ok_tg c hz) (by rw [List.all_cons, List.all_cons, List.all_cons, h1, h2, h3]; rfl)
    · cases h
theorem is_tuple {e : Expr} (h : isTuple e = true) : ∃ es k p, e = .Tuple es k p := by
  cases e <;> first | exact ⟨_, _, _, rfl⟩ | cases h
theorem ok_iter (c : Ctx g Γ ct X) {rE : Expr → Option E} (hE : OkE g Γ X Wx rE) {tg e : Expr} {m : E} (h : cIter ct rE tg e = some m) : PI X tg e (JI g Γ Wx m) := by
  unfold cIter at h
  split at h
  · rename_i x p args pos
    split at h
    · rename_i hq
      obtain ⟨q1, q2⟩ := and2 hq
      have ex : x = "range" := of_decide_eq_true (p := x = "range") q1
      subst ex
      obtain ⟨b1, b2⟩ := c.bi q2
      split at h
      · obtain ⟨hs, h⟩ := oif h
        obtain ⟨x, hx, rfl⟩ := omap h
        exact JI_rng1 b1 b2 (hE _ x hx).2 hs
      · obtain ⟨hs, h⟩ := oif h
        obtain ⟨h1, h2⟩ := and2 hs
        obtain ⟨x, hx, h⟩ := obind h
        obtain ⟨y, hy, rfl⟩ := omap h
        exact JI_rng2 b1 b2 (hE _ x hx).2 (hE _ y hy).2 (by rw [List.all_cons, List.all_cons, h1, h2]; rfl)
      · obtain ⟨hs, h⟩ := oif h
        obtain ⟨h1, h2, h3⟩ := and3 hs
        obtain ⟨x, hx, h⟩ := obind h
        obtain ⟨y, hy, h⟩ := obind h
        obtain ⟨z, hz, rfl⟩ := omap h
        exact JI_rng3 b1 b2 (hE _ x hx).2 (hE _ y hy).2 (hE _ z hz).2 (by rw [List.all_cons, List.all_cons, List.all_cons, h1, h2, h3]; rfl)
      · cases h
    · split at h
      · rename_i hq
        obtain ⟨q1, q2⟩ := and2 hq
        have ex : x = "reversed" := of_decide_eq_true (p := x = "reversed") q1
        subst ex
        obtain ⟨b1, b2⟩ := c.bi q2
        split at h
        · obtain ⟨hs, h⟩ := oif h
          obtain ⟨x, hx, rfl⟩ := omap h
          exact JI_revd c.K b1 b2 (hE _ x hx).2 hs
        · cases h
      · split at h
        · rename_i hq
          obtain ⟨q1, q2, q3⟩ := and3 hq
          have ex : x = "enumerate" := of_decide_eq_true (p := x = "enumerate") q1
          subst ex
          obtain ⟨b1, b2⟩ := c.bi q2
          obtain ⟨es, k, tp, rfl⟩ := is_tuple q3
          split at h
          · obtain ⟨hs, h⟩ := oif h
            obtain ⟨x, hx, rfl⟩ := omap h
            exact JI_enum c.K b1 b2 (hE _ x hx).2 hs
          · cases h
        · split at h
          · rename_i hq
            obtain ⟨q1, q2, q3⟩ := and3 hq
            have ex : x = "zip" := of_decide_eq_true (p := x = "zip") q1
            subst ex
            obtain ⟨b1, b2⟩ := c.bi q2
            obtain ⟨es, k, tp, rfl⟩ := is_tuple q3
            split at h
            · obtain ⟨hs, h⟩ := oif h
              obtain ⟨h1, h2⟩ := and2 hs
              obtain ⟨x, hx, h⟩ := obind h
              obtain ⟨y, hy, rfl⟩ := omap h
              exact JI_zip c.K b1 b2 (hE _ x hx).2 (hE _ y hy).2 (by rw [List.all_cons, List.all_cons, h1, h2]; rfl)
            · cases h
          · obtain ⟨x, hx, rfl⟩ := omap h
            exact JI_iv c.K (hE _ x hx).2
  · obtain ⟨x, hx, rfl⟩ := omap h
    exact JI_iv c.K (hE _ x hx).2
theorem JE_dct0 {tk : Bool} {pos : Pos} : PE X (.Dict [] [] pos) (JE g Γ Wx (.dct tk .nil .nil)) := by
  cases tk with
  | false =>
    refine pe_dnewK.imp fun σ H Q ⟨τ, ex, ow, p⟩ q hq => ?_
    have p : ∀ v H', OW g σ [.val (.dct false [])] [v] τ ex H' → Q v H' := p
    refine p _ _ (.fin ow.gd ?_)
    obtain ⟨fp, nd, f2, e, hr, h⟩ := ow.slots.lay (x := .dK []) hq
    subst e
    exact ⟨_, nd, [q], f2, rfl, ⟨q, [], [], rfl, rfl, ⟨[], hr, .nil, rfl⟩, rfl, rfl⟩, h⟩
  | true =>
    refine pe_dnewT.imp fun σ H Q ⟨τ, ex, ow, p⟩ q hq => ?_
    have p : ∀ v H', OW g σ [.val (.dct true [])] [v] τ ex H' → Q v H' := p
    refine p _ _ (.fin ow.gd ?_)
    obtain ⟨fp, nd, f2, e, hr, h⟩ := ow.slots.lay (x := .dT []) hq
    subst e
    exact ⟨_, nd, [q], f2, rfl, ⟨q, [], [], rfl, rfl, ⟨[], hr, .nil, rfl⟩, rfl, rfl⟩, h⟩
end
end Iv
/-! Iv19: .. all of them. -/
namespace Iv
open PySem L2 PySem.Spec PyProof.Rows
theorem _root_.L2.PTs.imp {X : Cx} {e : List Expr} {t t' : TT} (h : PTs X e t) (i : ∀ σ H Q, t' σ H Q → t σ H Q) : PTs X e t' := ⟨fun pins s σ H Q I q => h.run pins s σ H Q I (i σ H Q q)⟩
theorem takesF {X : Cx} : Takes X W0 := fun _ _ x => by
  obtain ⟨_, _, _, _, _, _, _, _, _, _, _, _, _, _, _, _, z⟩ := x
  exact z.elim
theorem sound (g : Cfg) (Γ : Nat → List O → COut) : ∀ (n : Nat) (ct : CT) (X : Cx) (Wx : WX), Ctx g Γ ct X → Takes X Wx → OkE g Γ X Wx (cE n ct) ∧ OkV X (cE n ct) ∧ OkC g Γ X Wx (cC n ct)
  | 0, ct, X, Wx, c, tk => by
    refine ⟨fun e m h => ?_, fun e i h => ?_, fun e m h => ?_⟩
    · unfold cE at h; cases h
    · unfold cE at h; cases h
    · unfold cC at h; cases h
  | n + 1, ct, X, Wx, c, tk => by
    obtain ⟨hE, hV, hC⟩ := sound g Γ n ct X Wx c tk
    refine ⟨fun e m h => ?_, fun e i h => ?_, fun e m h => ?_⟩
    · unfold cE at h
      split at h
      · cases h; exact noV (fun i z => by cases z) (JE_c pe_int fun H A => rfl)
      · cases h; exact noV (fun i z => by cases z) (JE_c pe_bl fun H A => rfl)
      · cases h; exact noV (fun i z => by cases z) (JE_c pe_non fun H A => rfl)
      · cases h; exact noV (fun i z => by cases z) (JE_c pe_str fun H A => rfl)
      · obtain ⟨h1, h2, _⟩ := ok_name c h
        exact ⟨h1, h2⟩
      · obtain ⟨o, ho, h⟩ := obind h
        obtain ⟨x, hx, h⟩ := obind h
        obtain ⟨y, hy, rfl⟩ := omap h
        exact noV (fun i z => by cases z) (JE_bin c.K ho (hE _ x hx).2 (hE _ y hy).2)
      · obtain ⟨x, hx, rfl⟩ := omap h
        exact noV (fun i z => by cases z) (JE_neg (hE _ x hx).2)
      · obtain ⟨x, hx, rfl⟩ := omap h
        exact noV (fun i z => by cases z) (JE_not (hE _ x hx).2)
      · obtain ⟨h1, h2, _⟩ := ok_cmp c hE h
        exact noV h1 h2
      · rename_i op es pos
        have h1 := ok_boolE (pos := pos) hE h
        refine ⟨h1, ?_⟩
        -- a name alone is no BoolOp of two; one of one is its own
        cases es with
        | nil => cases h
        | cons a r =>
          cases r with
          | nil => exact pe_one (hE a m h).2
          | cons b r =>
            refine JO_of_JE (fun i z => ?_) h1
            unfold cBool at h
            obtain ⟨x, hx, h⟩ := obind h
            obtain ⟨y, hy, h⟩ := omap h
            rw [z] at h
            cases op <;> cases h
      · obtain ⟨x, hx, h⟩ := obind h
        obtain ⟨y, hy, h⟩ := obind h
        obtain ⟨z, hz, rfl⟩ := omap h
        exact noV (fun i z => by cases z) (JE_ite (hC _ x hx) (hE _ y hy).1 (hE _ z hz).1)
      · obtain ⟨x, hx, rfl⟩ := omap h
        exact noV (fun i z => by cases z) (JE_tup (ok_all hE hx).2)
      · obtain ⟨x, hx, rfl⟩ := omap h
        exact noV (fun i z => by cases z) (JE_lst (ok_all hE hx).2)
      · cases h
        exact noV (fun i z => by cases z) JE_dct0
      · obtain ⟨h1, h2⟩ := ok_sub c hE h
        exact noV h1 h2
      · obtain ⟨h1, h2⟩ := ok_call c tk hE hV h
        exact noV h1 h2
      · -- a comprehension
        rename_i elt tg iter ifs a sc pos
        obtain ⟨hc, h⟩ := oif h
        obtain ⟨ha, hb, hns⟩ := and3 hc
        have ea : a = 0 := of_decide_eq_true ha
        rw [ea]
        obtain ⟨src, hsrc, h⟩ := obind h
        obtain ⟨t, ht, h⟩ := obind h
        obtain ⟨hsl, h⟩ := oif h
        obtain ⟨cond, hcond, h⟩ := obind h
        obtain ⟨el, hel, rfl⟩ := omap h
        have ok : BlkOk X.N X.env.scope sc (ownOf ct sc) := by
          rw [c.N, c.sc]; exact blkOk_by hb
        have hsub : ∀ i ∈ t.slots, i ∈ (ownOf ct sc).map (·.2) := fun i hi => by
          have := List.all_eq_true.mp hsl i hi
          exact List.contains_iff_mem.mp this
        refine noV (fun i z => by cases z) ?_
        refine (pe_lc (te := JE g Γ W0 el) (tt := JC g Γ W0 cond) (g := JG g t) c.calm c.nd (ok_iter c hE hsrc) ok (fun s H C cl fp => ok_tg (c.sub sc s H C cl fp) ht) (fun s H C cl fp => ?_) (fun s H C cl fp => ?_) (fold_ok hns)).imp fun σ H Q h => J_lc hsub h
        · have cb := c.sub sc s H C cl fp
          obtain ⟨_, _, hCb⟩ := sound g Γ n (ct.sub sc) _ W0 cb takesF
          cases ifs with
          | nil =>
            cases hcond
            exact pts_nil.imp fun σ H Q ⟨τ, ex, ow, p⟩ => p H ow
          | cons c1 r =>
            cases r with
            | nil => exact pts_one (hCb c1 cond hcond)
            | cons _ _ => cases hcond
        · have cb := c.sub sc s H C cl fp
          exact ((sound g Γ n (ct.sub sc) _ W0 cb takesF).1 elt el hel).1
      · cases h
    · -- names
      unfold cE at h
      split at h
      · cases h
      · cases h
      · cases h
      · cases h
      · exact (ok_name (g := g) (Γ := Γ) (Wx := Wx) c h).2.2 i rfl
      · obtain ⟨o, ho, h⟩ := obind h
        obtain ⟨x, hx, h⟩ := obind h
        obtain ⟨y, hy, h⟩ := omap h
        cases h
      · obtain ⟨x, hx, h⟩ := omap h
        cases h
      · obtain ⟨x, hx, h⟩ := omap h
        cases h
      · exact ((ok_cmp (pos := ⟨0, 0, 0, 0⟩) c hE h).1 i rfl).elim
      · rename_i op es pos
        cases es with
        | nil => cases h
        | cons a r =>
          cases r with
          | nil => exact pe_one (hV a i h)
          | cons b r =>
            unfold cBool at h
            obtain ⟨x, hx, h⟩ := obind h
            obtain ⟨y, hy, h⟩ := omap h
            cases op <;> cases h
      · obtain ⟨x, hx, h⟩ := obind h
        obtain ⟨y, hy, h⟩ := obind h
        obtain ⟨z, hz, h⟩ := omap h
        cases h
      · obtain ⟨x, hx, h⟩ := omap h
        cases h
      · obtain ⟨x, hx, h⟩ := omap h
        cases h
      · cases h
      · exact ((ok_sub (pos := ⟨0, 0, 0, 0⟩) c hE h).1 i rfl).elim
      · exact ((ok_call c tk hE hV h).1 i rfl).elim
      · obtain ⟨hc, h⟩ := oif h
        obtain ⟨src, hsrc, h⟩ := obind h
        obtain ⟨t, ht, h⟩ := obind h
        obtain ⟨hsl, h⟩ := oif h
        obtain ⟨cond, hcond, h⟩ := obind h
        obtain ⟨el, hel, h⟩ := omap h
        cases h
      · cases h
    · unfold cC at h
      split at h
      · exact (ok_boolC hC h).pt
      · obtain ⟨x, hx, rfl⟩ := omap h
        exact JC_not (hC _ x hx)
      · obtain ⟨x, hx, rfl⟩ := omap h
        exact (ok_cmp c hE hx).2.2
      · obtain ⟨x, hx, rfl⟩ := omap h
        obtain ⟨h1, h2, h3⟩ := ok_name (g := g) (Γ := Γ) (Wx := Wx) c hx
        cases x with
        | v i => exact JC_v c.K (h3 i rfl) fun _ => rfl
        | _ => exact JC_tv c.K h1 fun _ => rfl
      · obtain ⟨x, hx, rfl⟩ := omap h
        exact JC_tv c.K (ok_call c tk hE hV hx).2 fun _ => rfl
      · obtain ⟨x, hx, rfl⟩ := omap h
        exact JC_tv c.K (ok_sub c hE hx).2 fun _ => rfl
      · cases h
end Iv
/-! Iv20: statements, one by one. -/
namespace Iv
open PySem L2 PySem.Spec PyProof.Rows
/-- the slots P are as they were -/
def Keep (P : List Nat) (σ σ' : L2.St) : Prop := σ'.length = σ.length ∧ ∀ i ∈ P, σ'[i]? = σ[i]?
theorem Keep.refl {P : List Nat} {σ : L2.St} : Keep P σ σ := ⟨rfl, fun _ _ => rfl⟩
theorem Keep.trans {P : List Nat} {σ σ' σ2 : L2.St} (h : Keep P σ σ') (k : Keep P σ' σ2) : Keep P σ σ2 := ⟨k.1.trans h.1, fun i hi => (k.2 i hi).trans (h.2 i hi)⟩
theorem Keep.outs {P is : List Nat} {σ σ' : L2.St} (h : Outs is σ σ') (d : ∀ i ∈ is, i ∉ P) : Keep P σ σ' := ⟨h.1, fun i hi => h.2 i fun z => d i z hi⟩
section
variable (g : Cfg) (Γ : Nat → List O → COut) (wf : Nat) (Wx : WX) (P : List Nat)
def postS (σ : L2.St) (ex : List Cell) (r : SOut) (D : Ends) : Prop := match r with
  | .nx τ => ∀ σ' H', Keep P σ σ' → OW g σ' [] [] τ ex H' → D.nx σ' H'
  | .rt r τ => ∀ σ' v H', Keep P σ σ' → OW g σ' [.val r] [v] τ ex H' → D.rt v H'
  | .exc x τ => ∀ σ', Keep P σ σ' → ExW g Wx σ' ex x τ
  | .stuck => False
/-- a statement that does F to the slots -/
def HS (F : St → SOut) : TS := fun D σ H => ∃ τ ex, OW g σ [] [] τ ex H ∧ postS g Wx P σ ex (F τ) D
def JS (m : S) : TS := fun D σ H => ∃ τ ex, OW g σ [] [] τ ex H ∧ postS g Wx P σ ex (exec Γ wf m τ) D
end
section
variable {g : Cfg} {Γ : Nat → List O → COut} {wf : Nat} {Wx : WX} {P : List Nat} {X : Cx} {σ σ' : L2.St} {ex e2 : List Cell} {τ : St} {H : Hp} {D : Ends}
theorem postS_keep {r : SOut} (k : Keep P σ σ') (p : postS g Wx P σ ex r D) : postS g Wx P σ' ex r D := by
  cases r with
  | nx τ => exact fun σ2 H' h => p σ2 H' (k.trans h)
  | rt r τ => exact fun σ2 v H' h => p σ2 v H' (k.trans h)
  | exc x τ => exact fun σ2 h => p σ2 (k.trans h)
  | stuck => exact p
theorem postS_seq {r : SOut} {f : St → SOut} (p : postS g Wx P σ ex (r.seq f) D) : postS g Wx P σ ex r { D with nx := fun σ' H' => ∃ τ, OW g σ' [] [] τ ex H' ∧ postS g Wx P σ' ex (f τ) D } := by
  cases r with
  | nx τ => exact fun σ2 H' k ow => ⟨τ, ow, postS_keep k p⟩
  | rt r τ => exact p
  | exc x τ => exact p
  | stuck => exact p
theorem postS_more {r : SOut} (p : postS g Wx P σ ex r D) : postS g Wx P σ (e2 ++ ex) r D := by
  have dr : ∀ {ops : List Opd} {vs : List V} {τ : St} {σ : L2.St} {H : Hp}, OW g σ ops vs τ (e2 ++ ex) H → OW g σ ops vs τ ex H := fun {ops vs τ σ H} ow => ⟨ow.gd, ow.rf, by
    have w : W g H (e2 ++ (temps ops vs ++ (cellsOf σ τ ++ ex))) := ow.w.perm (by
      refine (List.Perm.append_left _ (pswap _ _ _)).trans ?_
      exact pswap _ _ _)
    exact w.dropL⟩
  cases r with
  | nx τ => exact fun σ2 H' k ow => p σ2 H' k (dr ow)
  | rt r τ => exact fun σ2 v H' k ow => p σ2 v H' k (dr ow)
  | exc x τ => exact fun σ2 k => ExW.more (p σ2 k)
  | stuck => exact p
/-- a value, then more -/
theorem post_s {α : Type} {r : Out α} {f : α → St → SOut} (p : postS g Wx P σ ex (r.s f) D) : post g Wx σ ex r fun a τ => postS g Wx P σ ex (f a τ) D := by
  cases r with
  | ok a τ => exact p
  | exc x τ => exact p σ .refl
  | stuck => exact p
theorem post_liftS {α : Type} {o : Option α} {f : α → SOut} (p : postS g Wx P σ ex (liftS o f) D) : ∃ a, o = some a ∧ postS g Wx P σ ex (f a) D := by
  cases o with
  | some a => exact ⟨a, rfl, p⟩
  | none => exact p.elim
/-! ### one after another -/
theorem JS_nil : PSs X [] (JS g Γ wf Wx P .nop) := pss_nil.imp fun D σ H ⟨τ, ex, ow, p⟩ => p σ H .refl ow
theorem JS_one {st : Stmt} {m : S} (h : PS X st (JS g Γ wf Wx P m)) : PSs X [st] (JS g Γ wf Wx P m) := pss_one h
theorem JS_cons {st : Stmt} {r : List Stmt} {a b : S} (h1 : PS X st (JS g Γ wf Wx P a)) (h2 : PSs X r (JS g Γ wf Wx P b)) : PSs X (st :: r) (JS g Γ wf Wx P (.seq a b)) := (pss_cons h1 h2).imp fun D σ H ⟨τ, ex, ow, p⟩ => by
  simp only [exec] at p
  refine ⟨τ, ex, ow, ?_⟩
  have q := postS_seq p
  cases hr : exec Γ wf a τ with
  | nx τ1 =>
    rw [hr] at q
    intro σ' H' k ow'
    obtain ⟨τ2, ow2, p2⟩ := q σ' H' k ow'
    exact ⟨τ2, ex, ow2, p2⟩
  | rt r τ1 => rw [hr] at q; exact q
  | exc x τ1 => rw [hr] at q; exact q
  | stuck => rw [hr] at q; exact q
theorem HS_cons {st : Stmt} {r : List Stmt} {a b : St → SOut} (h1 : PS X st (HS g Wx P a)) (h2 : PSs X r (HS g Wx P b)) : PSs X (st :: r) (HS g Wx P fun τ => (a τ).seq b) := (pss_cons h1 h2).imp fun D σ H ⟨τ, ex, ow, p⟩ => by
  refine ⟨τ, ex, ow, ?_⟩
  have q := postS_seq p
  cases hr : a τ with
  | nx τ1 =>
    rw [hr] at q
    intro σ' H' k ow'
    obtain ⟨τ2, ow2, p2⟩ := q σ' H' k ow'
    exact ⟨τ2, ex, ow2, p2⟩
  | rt r τ1 => rw [hr] at q; exact q
  | exc x τ1 => rw [hr] at q; exact q
  | stuck => rw [hr] at q; exact q
theorem HS_of {st : Stmt} {m : S} (h : PS X st (JS g Γ wf Wx P m)) : PS X st (HS g Wx P (exec Γ wf m)) := h
theorem HSs_of {st : List Stmt} {m : S} (h : PSs X st (JS g Γ wf Wx P m)) : PSs X st (HS g Wx P (exec Γ wf m)) := h
theorem JS_drop {sts : List Stmt} {m : S} {is : List Nat} (h : PSs X sts (JS g Γ wf Wx P m)) : PSs X sts (JS g Γ wf Wx P (.seq (.drop is) m)) := h.imp fun D σ H ⟨τ, ex, ow, p⟩ => by
  simp only [exec] at p
  have p : postS g Wx P σ ex (exec Γ wf m (wipes is τ)) D := p
  refine ⟨wipes is τ, ex, ?_, p⟩
  have gen : ∀ is : List Nat, Good σ (wipes is τ) ∧ ∃ cs, (cellsOf σ τ).Perm (cs ++ cellsOf σ (wipes is τ)) := fun is => by
    induction is with
    | nil => exact ⟨ow.gd, [], .refl _⟩
    | cons i is ih =>
      obtain ⟨h1, cs, p1⟩ := ih
      obtain ⟨ds, q⟩ := slot_drop i h1
      refine ⟨h1.none i, cs ++ ds, ?_⟩
      rw [List.append_assoc]
      exact p1.trans (List.Perm.append_left _ q)
  obtain ⟨gd, cs, pm⟩ := gen is
  refine ⟨gd, trivial, ?_⟩
  have w : W g H (cs ++ (cellsOf σ (wipes is τ) ++ ex)) := ow.slots.perm (by
    refine (pm.append_right ex).trans ?_
    rw [List.append_assoc])
  exact w.dropL
theorem JS_bad {st : Stmt} : PS X st (JS g Γ wf Wx P .bad) := ⟨fun pins s σ H D I ⟨τ, ex, ow, p⟩ => by
  simp only [exec] at p
  exact p.elim⟩
/-! ### simple statements -/
variable {e : Expr} {x y : E} {pos : Pos}
theorem JS_pass : PS X (.Pass pos) (JS g Γ wf Wx P .nop) := ps_pass.imp fun D σ H ⟨τ, ex, ow, p⟩ => p σ H .refl ow
theorem JS_doc {s : Str} {j : Nat} {p2 : Pos} : PS X (.Expr (.Constant (.str s) j p2) pos) (JS g Γ wf Wx P .nop) := (ps_expr pe_str).imp fun D σ H ⟨τ, ex, ow, p⟩ => p σ H .refl ow
def notComp : Expr → Bool
  | .ListComp .. => false
  | .SetComp .. => false
  | .DictComp .. => false
  | _ => true
theorem no_swap {e : Expr} {t : Option Expr} {l : Nat} {env : Env} (h : notComp e = true) : swapsWith e t l env = pure false := by
  cases e <;> first | rfl | cases h
theorem JS_ex (h : notComp e = true) (he : PE X e (JE g Γ Wx x)) : PS X (.Expr e pos) (JS g Γ wf Wx P (.ex x)) := (ps_expr he (no_swap h)).imp fun D σ H ⟨τ, ex, ow, p⟩ => by
  simp only [exec] at p
  exact ⟨τ, ex, ow, post_mono (post_s p) fun o τ1 q v H1 ow1 => q σ H1 .refl ow1.bare⟩
theorem JS_ret (he : PE X e (JE g Γ Wx x)) : PS X (.Return (some e) pos) (JS g Γ wf Wx P (.ret x)) := (ps_ret he).imp fun D σ H ⟨τ, ex, ow, p⟩ => by
  simp only [exec] at p
  exact ⟨τ, ex, ow, post_mono (post_s p) fun o τ1 q v H1 ow1 => q σ v H1 .refl ow1⟩
theorem JS_retN : PS X (.Return none pos) (JS g Γ wf Wx P .retN) := ps_retN.imp fun D σ H ⟨τ, ex, ow, p⟩ => by
  simp only [exec] at p
  exact p σ V.non H .refl (.fin ow.gd (ow.slots.put fun A => (rfl : V.non = V.non)))
theorem JS_retM {i : Nat} (he : PE X e (tVar i)) : PS X (.Return (some e) pos) (JS g Γ wf Wx P (.retM i)) := (ps_ret he).imp fun D σ H ⟨τ, ex, ow, p⟩ => by
  simp only [exec] at p
  obtain ⟨q, hq, p⟩ := post_liftS p
  obtain ⟨o, τ1⟩ := q
  cases h0 : slot τ i with
  | none => simp only [move, h0] at hq; cases hq
  | some o1 =>
    obtain ⟨v, ev, _⟩ := slot_get ow.gd h0
    have hm : moves τ [.ref i] = some ([o], τ1) := by simp only [moves, hq]; rfl
    have ow1 : OW g σ [.ref i] [v] τ ex H := ⟨ow.gd, ⟨ev, trivial⟩, ow.w⟩
    obtain ⟨gd, _, w⟩ := moves_ok ow1 hm
    exact ⟨v, ev, p σ v H .refl (.fin gd w)⟩
theorem JS_if {c : Expr} {sa sb : List Stmt} {a b : S} (hc : PT X c (JC g Γ Wx x)) (ha : PSs X sa (JS g Γ wf Wx P a)) (hb : PSs X sb (JS g Γ wf Wx P b)) : PS X (.If c sa sb pos) (JS g Γ wf Wx P (.ite x a b)) := (ps_if hc ha hb).imp fun D σ H ⟨τ, ex, ow, p⟩ => by
  simp only [exec] at p
  refine ⟨τ, ex, ow, post_mono (post_s p) fun k τ1 q H1 ow1 => ?_⟩
  cases k with
  | true => exact ⟨τ1, ex, ow1, q⟩
  | false => exact ⟨τ1, ex, ow1, q⟩
/-! ### assignments -/
theorem J_set {tg : Tg} {σ : L2.St} (hd : ∀ i ∈ tg.slots, i ∉ P) (h : JS g Γ wf Wx P (.set tg x) D σ H) : tAsg (JE g Γ Wx x) (JG g tg) D σ H := by
  obtain ⟨τ, ex, ow, p⟩ := h
  simp only [exec] at p
  refine ⟨τ, ex, ow, post_mono (post_s p) fun o τ1 q v H1 ow1 => ?_⟩
  obtain ⟨τ2, hs, q⟩ := post_liftS q
  exact ⟨o, τ1, ex, τ2, ow1.gd, ow1.w, hs, fun σ' gd' outs w' => q σ' H1 (.outs outs hd) ⟨gd', trivial, w'⟩⟩
/-- no pair on either side -/
def noPair : Expr → Expr → Bool
  | .Tuple .., .Tuple .. => false
  | .List .., .Tuple .. => false
  | _, _ => true
theorem no_stores {t e : Expr} {env : Env} (h : noPair t e = true) : swappedStores [t] e env = pure none := by
  cases t <;> first
    | rfl
    | (cases e <;> first | rfl | cases h)
theorem JS_set {t : Expr} {tg : Tg} (hd : ∀ i ∈ tg.slots, i ∉ P) (hn : notComp e = true) (hp : noPair t e = true) (hs : starB t = true) (he : PE X e (JE g Γ Wx x)) (hg : PG X t (JG g tg)) : PS X (.Assign [t] e pos) (JS g Γ wf Wx P (.set tg x)) :=
  (ps_asg he hg (no_swap hn) (no_stores hp) (assign1 hs)).imp fun D σ H h => J_set hd h
theorem J_gName {i : Nat} {v : V} {σ : L2.St} {Q : L2.St → Hp → Prop} (h : JG g (.nm i) v σ H Q) : gName i v σ H Q := by
  obtain ⟨o, τ, ex, τ', gd, w, e, k⟩ := h
  have e2 : τ.set i (some o) = τ' := Option.some.inj e
  subst e2
  by_cases hl : i < σ.length
  · obtain ⟨gd2, p2⟩ := slot_set v o gd hl
    refine k _ gd2 ⟨List.length_set, fun j hj => ?_⟩ ?_
    · rw [List.getElem?_set_ne (fun z => hj (by simp [Tg.slots, z]))]
    · obtain ⟨cs, p⟩ := slot_drop i gd
      have w2 : W g H (cs ++ (.c v o :: (cellsOf σ (τ.set i none) ++ ex))) := by
        refine w.perm ?_
        refine (List.Perm.cons _ (p.append_right ex)).trans ?_
        rw [List.append_assoc]
        exact List.perm_middle.symm
      exact w2.dropL.perm (p2.symm.append_right ex)
  · have l2 : ¬ i < τ.length := by rw [← gd.len]; exact hl
    have e1 : τ.set i (some o) = τ := List.set_eq_of_length_le (by omega)
    have e3 : σ.set i (some v) = σ := List.set_eq_of_length_le (by omega)
    rw [e1] at k
    show Q (σ.set i (some v)) H
    rw [e3]
    exact k σ gd ⟨rfl, fun _ _ => rfl⟩ w.drop
/-- name = [..]: on one line, or not -/
theorem JS_setLc {i : Nat} {yn : Str} {py spos : Pos} {elt tg iter : Expr} {ifs : List Expr} {scope : Scope} {own : List (Str × Nat)} {kp : Bool} {src cond el : E} {t : Tg}
    (hd : i ∉ P) (hc : X.calm = true) (hN : X.N.Nodup) (hy : X.N[i]? = some yn) (hyl : X.env.scope.names.lookup yn = some .local)
    (hsw : swapsWith (.ListComp elt [⟨tg, iter, ifs, 0⟩] scope pos) (some (.Name yn py)) spos.line X.env = pure true) (hi : PI X tg iter (JI g Γ Wx src)) (ok : BlkOk X.N X.env.scope scope own)
    (hg : ∀ (s : Shared) (H : Hp) (C : Addr) (cl : List (Str × Addr)) (fp : List Addr), PG (X.blk s H scope (compEnvC scope cl C X.env) fp) tg (JG g t)) (ht : ∀ (s : Shared) (H : Hp) (C : Addr) (cl : List (Str × Addr)) (fp : List Addr), PTs (X.blk s H scope (compEnvC scope cl C X.env) fp) ifs (JC g Γ W0 cond))
    (he : ∀ (s : Shared) (H : Hp) (C : Addr) (cl : List (Str × Addr)) (fp : List Addr), PE (X.blk s H scope (compEnvC scope cl C X.env) fp) elt (JE g Γ W0 el)) (hs : notSet iter = true) (hsub : ∀ i ∈ t.slots, i ∈ own.map (·.2)) :
    PS X (.Assign [.Name yn py] (.ListComp elt [⟨tg, iter, ifs, 0⟩] scope pos) spos) (JS g Γ wf Wx P (.set (.nm i) (.lc kp src t (own.map (·.2)) cond el))) :=
  (ps_setLc hc hN hy hyl hsw hi ok hg ht he (fold_ok hs)).imp fun D σ H h => by
    have q := J_set (tg := .nm i) (fun j hj => by
      have e : j = i := by simpa [Tg.slots] using hj
      rw [e]; exact hd) h
    have q2 : JE g Γ Wx (.lc kp src t (own.map (·.2)) cond el) σ H (fun v H1 => JG g (.nm i) v σ H1 D.nx) := q
    have q3 := J_lc hsub q2
    -- weaken the end
    obtain ⟨τ, ex, ow, p⟩ := q2
    refine J_lc hsub ⟨τ, ex, ow, post_mono p fun o τ1 k v H1 ow1 => J_gName (k v H1 ow1)⟩
/-! ### x[k] = e -/
theorem PSet.or {X : Cx} {t t' : TSet} (h : PSet X t) (h' : PSet X t') : PSet X (fun o i v H Q => t o i v H Q ∨ t' o i v H Q) := fun pins s σ H o i v ov iv u Q I ro ri rv q =>
  q.elim (h pins s σ H o i v ov iv u Q I ro ri rv) (h' pins s σ H o i v ov iv u Q I ro ri rv)
theorem put_any {κ : Type} [DecidableEq κ] {R : T → κ → Prop} (hR : ∀ {t u a b}, R t a → R u b → decide (a = b) = T.eqv t u) {k : κ} {x : T} (hk : R x k) :
    ∀ {kos : List (T × O)} {ks : List κ} {vs : List V}, All2 R (kos.map (·.1)) ks → ks.length = vs.length → ((ks.zip vs).any fun kv => decide (kv.1 = k)) = kos.any fun kv => T.eqv kv.1 x
  | [], [], [], .nil, _ => rfl
  | (t, u) :: kos, _ :: _, w :: vs, .cons h1 h2, l => by
    have q := hR h1 hk
    rw [List.zip_cons_cons, List.any_cons, List.any_cons, put_any hR hk h2 (by simpa using l), ← q]
  | _, [], _ :: _, _, l => by simp at l
  | _, _ :: _, [], _, l => by simp at l
theorem put_map {κ : Type} [DecidableEq κ] {R : T → κ → Prop} (hR : ∀ {t u a b}, R t a → R u b → decide (a = b) = T.eqv t u) {k : κ} {x : T} (hk : R x k) {v : V} {u : T} {H : Hp} :
    ∀ {kos : List (T × O)} {ks : List κ} {vs : List V} {cs : List Cell}, All2 R (kos.map (·.1)) ks → ks.length = vs.length →
      ∃ vs', (ks.zip vs).map (fun kv => if kv.1 = k then (kv.1, v) else kv) = ks.zip vs' ∧ ks.length = vs'.length ∧ (kos.map fun kv => if T.eqv kv.1 x then (kv.1, O.fz u) else kv).map (·.1) = kos.map (·.1) ∧
        (W g H (.c v (.fz u) :: (zipO vs (kos.map (·.2)) ++ cs)) → W g H (.c v (.fz u) :: (zipO vs' ((kos.map fun kv => if T.eqv kv.1 x then (kv.1, O.fz u) else kv).map (·.2)) ++ cs)))
  | [], [], [], cs, .nil, _ => ⟨[], rfl, rfl, rfl, fun w => w⟩
  | (t, o) :: kos, a :: ks, w :: vs, cs, .cons h1 h2, l => by
    have q := hR h1 hk
    by_cases c : a = k
    · obtain ⟨vs', e1, e2, e3, e4⟩ := put_map hR hk (v := v) (u := u) (H := H) (cs := .c v (.fz u) :: cs) h2 (by simpa using l)
      rw [decide_eq_true c] at q
      refine ⟨v :: vs', ?_, by rw [List.length_cons, List.length_cons, e2], ?_, fun ww => ?_⟩
      · rw [List.zip_cons_cons, List.map_cons, e1, if_pos c]; rfl
      · rw [List.map_cons, List.map_cons, List.map_cons, e3, if_pos q.symm]
      · have w1 : W g H (.c w o :: .c v (.fz u) :: (zipO vs (kos.map (·.2)) ++ cs)) := ww.perm (.swap _ _ _)
        have w2 := w1.drop.dup
        have w3 := e4 (w2.perm (List.Perm.cons _ List.perm_middle.symm))
        rw [List.map_cons, List.map_cons, if_pos q.symm]
        exact w3.perm (List.Perm.cons _ List.perm_middle)
    · obtain ⟨vs', e1, e2, e3, e4⟩ := put_map hR hk (v := v) (u := u) (H := H) (cs := .c w o :: cs) h2 (by simpa using l)
      rw [decide_eq_false c] at q
      have nq : ¬ T.eqv t x = true := by rw [← q]; exact Bool.false_ne_true
      refine ⟨w :: vs', ?_, by rw [List.length_cons, List.length_cons, e2], ?_, fun ww => ?_⟩
      · rw [List.zip_cons_cons, List.map_cons, e1, if_neg c]; rfl
      · rw [List.map_cons, List.map_cons, List.map_cons, e3, if_neg nq]
      · have w1 : W g H (.c v (.fz u) :: .c w o :: (zipO vs (kos.map (·.2)) ++ cs)) := ww
        have w3 := e4 (w1.perm (List.Perm.cons _ List.perm_middle.symm))
        rw [List.map_cons, List.map_cons, if_neg nq]
        exact w3.perm (List.Perm.cons _ List.perm_middle)
  | _, [], _ :: _, _, _, l => by simp at l
  | _, _ :: _, [], _, _, l => by simp at l
theorem All2.app {α β : Type} {R : α → β → Prop} {as as' : List α} {bs bs' : List β} (h : All2 R as bs) (h' : All2 R as' bs') : All2 R (as ++ as') (bs ++ bs') := by
  induction h with
  | nil => exact h'
  | cons r _ ih => exact .cons r ih
theorem put_all {κ : Type} [DecidableEq κ] {R : T → κ → Prop} (hR : ∀ {t u a b}, R t a → R u b → decide (a = b) = T.eqv t u) {k : κ} {x : T} (hk : R x k) {v : V} {u : T} {H : Hp} {kos : List (T × O)} {ks : List κ} {vs : List V} {cs : List Cell}
    (al : All2 R (kos.map (·.1)) ks) (l : ks.length = vs.length) (w : W g H (.c v (.fz u) :: (zipO vs (kos.map (·.2)) ++ cs))) :
    ∃ ks' vs', putK (ks.zip vs) k v = ks'.zip vs' ∧ ks'.length = vs'.length ∧ All2 R ((putD kos x (.fz u)).map (·.1)) ks' ∧ W g H (zipO vs' ((putD kos x (.fz u)).map (·.2)) ++ cs) := by
  have ha := put_any hR hk al l
  unfold putK putD
  rw [ha]
  split
  · obtain ⟨vs', e1, e2, e3, e4⟩ := put_map hR hk (v := v) (u := u) (H := H) (cs := cs) al l
    exact ⟨ks, vs', e1, e2, by rw [e3]; exact al, (e4 w).drop⟩
  · refine ⟨ks ++ [k], vs ++ [v], ?_, by rw [List.length_append, List.length_append, l]; rfl, ?_, ?_⟩
    · rw [List.zip_append l]; rfl
    · rw [List.map_append]
      exact al.app (.cons hk .nil)
    · have lv : vs.length = (kos.map (·.2)).length := by
        have := al.length
        rw [List.length_map] at this ⊢
        omega
      rw [List.map_append]
      show W g H (zipO (vs ++ [v]) (kos.map (·.2) ++ [O.fz u]) ++ cs)
      rw [zipO_app _ _ _ _ lv, List.append_assoc]
      exact w.perm List.perm_middle.symm
theorem ownd_zip {A : Addr → Prop} {H : Hp} : ∀ {kos : List (T × O)} {vs : List V} {fp : List Addr}, Ownd g A H kos vs fp ↔ Owns g A H (kos.map (·.2)) vs fp
  | [], _, _ => Iff.rfl
  | (k, o) :: kos, vs, fp => by
    constructor
    · rintro ⟨v, vs', f1, f2, e1, e2, h, r⟩
      exact ⟨v, vs', f1, f2, e1, e2, h, ownd_zip.mp r⟩
    · rintro ⟨v, vs', f1, f2, e1, e2, h, r⟩
      exact ⟨v, vs', f1, f2, e1, e2, h, ownd_zip.mpr r⟩
/-- what stands at a dict's address -/
def dctO (tk : Bool) (ts : List T) (vs : List V) (x : HO) : Prop := match tk with
  | false => ∃ ks : List Key, x = .dK (ks.zip vs) ∧ All2 KeyR ts ks ∧ ks.length = vs.length
  | true => ∃ ks : List (List Key), x = .dT (ks.zip vs) ∧ All2 KeyT ts ks ∧ ks.length = vs.length
theorem W.openD {v : V} {tk : Bool} {kos : List (T × O)} {cs : List Cell} {H : Hp} (h : W g H (.c v (.dct tk kos) :: cs)) : ∃ p vs x, v = .ref p ∧ vs.length = kos.length ∧ dctO tk (kos.map (·.1)) vs x ∧ W g H (.pt p x :: (zipO vs (kos.map (·.2)) ++ cs)) := by
  obtain ⟨fp, nd, f1, f2, e, ⟨a, vs, f3, e1, e2, h1, h2⟩, h3⟩ := h
  subst e2 e1 e
  have q := ownd_zip.mp h2
  have lq := q.length
  rw [List.length_map] at lq
  cases tk with
  | false =>
    obtain ⟨ks, hp, al, l⟩ := h1
    exact ⟨a, vs, _, rfl, lq, ⟨ks, rfl, al, l⟩, _, nd, f3 ++ f2, rfl, hp, OwnC.join _ _ _ _ q.cells h3⟩
  | true =>
    obtain ⟨ks, hp, al, l⟩ := h1
    exact ⟨a, vs, _, rfl, lq, ⟨ks, rfl, al, l⟩, _, nd, f3 ++ f2, rfl, hp, OwnC.join _ _ _ _ q.cells h3⟩
theorem W.closeD {p : Addr} {vs : List V} {x : HO} {tk : Bool} {kos : List (T × O)} {cs : List Cell} {H : Hp} (d : dctO tk (kos.map (·.1)) vs x) (h : W g H (.pt p x :: (zipO vs (kos.map (·.2)) ++ cs))) : W g H (.c (.ref p) (.dct tk kos) :: cs) := by
  obtain ⟨fp, nd, f2, e, hr, h⟩ := h
  subst e
  obtain ⟨f3, f4, e2, h1, h2⟩ := OwnC.app _ _ _ h
  subst e2
  have l : vs.length = (kos.map (·.2)).length := by
    rw [List.length_map]
    cases tk with
    | false => obtain ⟨ks, _, al, l⟩ := d; rw [← l, ← al.length, List.length_map]
    | true => obtain ⟨ks, _, al, l⟩ := d; rw [← l, ← al.length, List.length_map]
  refine ⟨_, nd, p :: f3, f4, rfl, ⟨p, vs, f3, rfl, rfl, ?_, ownd_zip.mpr (Owns.of_cells l h1)⟩, h2⟩
  cases tk with
  | false => obtain ⟨ks, rfl, al, l⟩ := d; exact ⟨ks, hr, al, l⟩
  | true => obtain ⟨ks, rfl, al, l⟩ := d; exact ⟨ks, hr, al, l⟩
theorem zipO_set : ∀ {vs : List V} {os : List O} {j : Nat} {v : V} {o : O}, vs.length = os.length → j < os.length → (zipO (vs.set j v) (os.set j o)).Perm (.c v o :: zipO (vs.eraseIdx j) (os.eraseIdx j))
  | [], [], _, _, _, _, h => by simp at h
  | _ :: vs, _ :: os, 0, v, o, _, h => .refl _
  | w :: vs, o' :: os, j + 1, v, o, l, h => (List.Perm.cons _ (zipO_set (by simpa using l) (by simpa using h))).trans (.swap _ _ _)
  | [], _ :: _, _, _, _, l, _ => by simp at l
  | _ :: _, [], _, _, _, l, _ => by simp at l
def rSetAll : TSet := fun o i v H Q => rSetL o i v H Q ∨ rSetD o i v H Q
/-- an item is put -/
theorem put_ok {d d' : O} {t u : T} {w kv v : V} {H : Hp} {cs : List Cell} {Q : Hp → Prop} {A : Addr → Prop} (e : putO d t (.fz u) = some d') (rk : RdR g A H t kv) (hw : W g H (.c v (.fz u) :: .c w d :: cs)) (k : ∀ H', W g H' (.c w d' :: cs) → Q H') : rSetAll w kv v H Q := by
  cases d with
  | lst os =>
    cases t with
    | int i =>
      have e : (place os.length i).map (fun j => O.lst (os.set j (.fz u))) = some d' := e
      obtain ⟨j, hj, rfl⟩ := omap e
      obtain ⟨p, vs, rfl, l, w2⟩ := (hw.perm (.swap _ _ _)).openL
      have hj' : ixN vs.length i = some j := by rw [l, ← place_eq]; exact hj
      obtain ⟨_, hlt, _, _⟩ := ixN_seq hj'
      refine .inl ⟨p, vs, i, j, rfl, rd_int rk, w2.read, hj', k _ ?_⟩
      obtain ⟨o0, ho⟩ : ∃ o0, os[j]? = some o0 := ⟨os[j]'(by omega), List.getElem?_eq_getElem (by omega)⟩
      obtain ⟨v0, hv0, pm⟩ := zipO_get l ho
      have w3 := w2.write (y := .lst (vs.set j v))
      have w4 : W g (upd H p (.lst (vs.set j v))) (.c v0 o0 :: (.pt p (.lst (vs.set j v)) :: (zipO (vs.eraseIdx j) (os.eraseIdx j) ++ (.c v (.fz u) :: cs)))) := w3.perm (by
        refine (List.Perm.cons _ (pm.append_right _)).trans ?_
        exact .swap _ _ _)
      refine W.closeL (vs := vs.set j v) (w4.drop.perm (List.Perm.cons _ ?_)) (by rw [List.length_set, List.length_set, l])
      refine List.Perm.trans ?_ ((zipO_set (v := v) (o := .fz u) l (by omega)).symm.append_right cs)
      exact List.perm_middle
    | _ => cases e
  | dct tk kos =>
    have e : (if T.keyOf tk t && decide (kos.length < sizeT) then some (O.dct tk (putD kos t (.fz u))) else none) = some d' := by
      cases t <;> exact e
    obtain ⟨hc, rfl⟩ := if_some e
    obtain ⟨hk, hl⟩ := and2 hc
    have hl : kos.length < sizeT := of_decide_eq_true hl
    obtain ⟨p, vs, x, rfl, lv, hd, w2⟩ := (hw.perm (.swap _ _ _)).openD
    cases tk with
    | false =>
      obtain ⟨ks, rfl, al, l⟩ := hd
      obtain ⟨kk, k1, rfl⟩ := key1_V rk hk
      have w3 : ∀ y, W g (upd H p y) (.c v (.fz u) :: (zipO vs (kos.map (·.2)) ++ (.pt p y :: cs))) := fun y => (w2.write (y := y)).perm (by
        refine (List.Perm.cons _ List.perm_middle).trans ?_
        refine (List.Perm.swap _ _ _).trans (List.Perm.cons _ ?_)
        exact List.perm_middle.symm)
      have lz : (ks.zip vs).length < sizeLine := by rw [List.length_zip, ← size_eq]; omega
      refine .inr ⟨p, _, rfl, DPut.k w2.read lz, k _ ?_⟩
      obtain ⟨ks', vs', e1, e2, e3, e4⟩ := put_all (R := KeyR) KeyR.eq k1 al l (w3 (.dK (putK (ks.zip vs) kk v)))
      rw [e1] at e4 ⊢
      exact W.closeD (vs := vs') ⟨ks', rfl, e3, e2⟩ (e4.perm List.perm_middle)
    | true =>
      obtain ⟨ks, rfl, al, l⟩ := hd
      obtain ⟨kk, b, k1, rfl, hb⟩ := key2_V rk hk
      have w3 : ∀ y, W g (upd H p y) (.c v (.fz u) :: (zipO vs (kos.map (·.2)) ++ (.pt p y :: cs))) := fun y => (w2.write (y := y)).perm (by
        refine (List.Perm.cons _ List.perm_middle).trans ?_
        refine (List.Perm.swap _ _ _).trans (List.Perm.cons _ ?_)
        exact List.perm_middle.symm)
      have lz : (ks.zip vs).length < sizeLine := by rw [List.length_zip, ← size_eq]; omega
      refine .inr ⟨p, _, rfl, DPut.t w2.read hb lz, k _ ?_⟩
      obtain ⟨ks', vs', e1, e2, e3, e4⟩ := put_all (R := KeyT) KeyT.eq k1 al l (w3 (.dT (putK (ks.zip vs) kk v)))
      rw [e1] at e4 ⊢
      exact W.closeD (vs := vs') ⟨ks', rfl, e3, e2⟩ (e4.perm List.perm_middle)
  | _ => cases t <;> cases e
theorem stepS {ops : List Opd} {vs : List V} {a : E} {f : Opd → St → SOut} {R : VK} (h : OW g σ ops vs τ ex H) (p : postS g Wx P σ ex ((opd a (evalE Γ a) τ).s f) D)
    (k : ∀ x τ1 v H1, OW g σ (ops ++ [x]) (vs ++ [v]) τ1 ex H1 → postS g Wx P σ ex (f x τ1) D → R v H1) : JO g Γ Wx a σ H R :=
  ⟨τ, temps ops vs ++ ex, h.beside, post_mono (post_more (post_s p)) fun x τ1 q v H1 ow => k x τ1 v H1 (ow.app h.rf) q⟩
theorem sub_assign {o kx : Expr} {p2 : Pos} {env : Env} (h : plainB kx = true) (v : Value) : assign (.Subscript o kx p2) env v = (do
      let ov ← holding [v] (eval o env)
      let iv ← holding [v, ov] (eval kx env)
      standAt p2
      holding [v, ov, iv] (setItem ov iv v)
      release [v, ov, iv] []) := by
  cases kx <;> first | rfl | cases h
theorem JS_setI {i : Nat} {o kx : Expr} {p2 : Pos} (hpl : plainB kx = true) (hu : X.A.units + 65 < cLine) (hn : notComp e = true) (ho : PE X o (tVar i)) (hk : PE X kx (JO g Γ Wx y)) (he : PE X e (JO g Γ Wx x)) : PS X (.Assign [.Subscript o kx p2] e pos) (JS g Γ wf Wx P (.setI i y x)) :=
  (ps_asg (pos := pos) he (pg_sub (pos := p2) ho hk (PSet.or set_list (set_dict (by omega))) (sub_assign hpl)) (show swapsWith e (some (.Subscript o kx p2)) pos.line X.env = pure false from no_swap hn) (by cases e <;> rfl) rfl).imp fun D σ H ⟨τ, ex, ow, p⟩ => by
    simp only [exec] at p
    refine stepS ow p fun xx τ1 v H1 ow1 p1 => ?_
    obtain ⟨d0, h0, p1⟩ := post_liftS p1
    obtain ⟨w, ew, _⟩ := slot_get ow1.gd h0
    refine ⟨w, ew, stepS ow1 p1 fun yy τ2 kv H2 ow2 p2 => ?_⟩
    obtain ⟨t, ht, p2⟩ := post_liftS p2
    obtain ⟨q, hq, p2⟩ := post_liftS p2
    obtain ⟨u, τ3⟩ := q
    obtain ⟨d, hd, p2⟩ := post_liftS p2
    obtain ⟨d', hd', p2⟩ := post_liftS p2
    have ow2 : OW g σ [xx, yy] [v, kv] τ2 ex H2 := ow2
    have oy : OW g σ [yy] [kv] τ2 ex H2 := by
      have rf := ow2.rf
      have w := ow2.w
      cases xx with
      | val _ => exact ⟨ow2.gd, rf, w.drop⟩
      | ref _ => exact ⟨ow2.gd, rf.2, w⟩
    have ox : OW g σ [xx] [v] τ2 ex H2 := by
      have rf := ow2.rf
      have w := ow2.w
      cases xx with
      | val _ => cases yy with
        | val _ => exact ⟨ow2.gd, trivial, (w.perm (.swap _ _ _)).drop⟩
        | ref _ => exact ⟨ow2.gd, trivial, w⟩
      | ref _ => cases yy with
        | val _ => exact ⟨ow2.gd, ⟨rf.1, trivial⟩, w.drop⟩
        | ref _ => exact ⟨ow2.gd, ⟨rf.1, trivial⟩, w⟩
    obtain ⟨A, wa, al⟩ := oy.rds (rds1 ht)
    obtain ⟨v', e, rk⟩ := al.one
    cases e
    obtain ⟨gd, _, wt⟩ := takes_ok ox (takes1 hq)
    have wt : W g H2 (.c v (.fz u) :: (cellsOf σ τ3 ++ ex)) := wt
    obtain ⟨w', ew', pm⟩ := slot_get gd hd
    rw [ew] at ew'
    cases ew'
    have wp : W g H2 (.c v (.fz u) :: .c w d :: (cellsOf σ (τ3.set i none) ++ ex)) := wt.perm (List.Perm.cons _ (pm.append_right ex))
    refine put_ok hd' rk wp fun H' w' => ?_
    obtain ⟨gd2, p5⟩ := slot_put d' gd ew
    exact p2 σ H' .refl ⟨gd2, trivial, w'.perm (p5.symm.append_right ex)⟩
/-! ### loops -/
theorem JS_for {tg it : Expr} {t : Tg} {src : E} {body : List Stmt} {b : S} (hp : PassesOwn (model X.prog X.w) X.A X.env X.xe) (hc : X.calm = true) (hd : ∀ i ∈ t.slots, i ∉ P) (hi : PI X tg it (JI g Γ Wx src)) (hg : PG X tg (JG g t)) (hb : PSs X body (JS g Γ wf Wx P b)) (hs : notSet it = true) :
    PS X (.For tg it body [] pos) (JS g Γ wf Wx P (.for_ t src b)) := (ps_for hp hc hi hg hb (fold_ok hs)).imp fun D σ H ⟨τ, ex, ow, p⟩ => by
  simp only [exec] at p
  refine ⟨τ, ex, ow, post_mono (post_s p) fun xs τ1 q J cs H1 itr ow1 => ?_⟩
  refine ⟨fun i m σ' H' => i + m = xs.length ∧ Keep P σ σ' ∧ ∃ τ', OW g σ' [] [] τ' (cs ++ ex) H' ∧ postS g Wx P σ' ex (forLoop t (exec Γ wf b) (xs.drop i) τ') D, ⟨xs.length, by omega, .refl, τ1, ow1, by rw [List.drop_zero]; exact q⟩, fun i m σ' H' hW => ?_⟩
  obtain ⟨hm, hk, τ', ow', hr⟩ := hW
  have wc : W g H' (cs ++ (cellsOf σ' τ' ++ ex)) := W.perm (show W g H' (cellsOf σ' τ' ++ (cs ++ ex)) from ow'.w) (pswap _ _ _)
  obtain ⟨it1, it2⟩ := itr H' _ i wc
  by_cases hlt : i < xs.length
  · obtain ⟨go, yl⟩ := it1 _ (List.getElem?_eq_getElem hlt)
    rw [List.drop_eq_getElem_cons hlt] at hr
    unfold forLoop at hr
    obtain ⟨τ2, hset, hr⟩ := post_liftS hr
    refine .inr ⟨go, fun σ2 H2 => Keep P σ σ2 ∧ ∃ τ', OW g σ2 [] [] τ' (cs ++ ex) H2 ∧ postS g Wx P σ2 ex (forLoop t (exec Γ wf b) (xs.drop (i + 1)) τ') D, fun σ2 H2 n => ⟨m - 1, by omega, by omega, n⟩, fun x H2 y => ?_⟩
    have wy := yl x H2 y
    refine ⟨.fz xs[i], τ', cs ++ ex, τ2, ow'.gd, wy.perm (List.Perm.cons _ (pswap _ _ _)), hset, fun σ2 gd2 outs w2 => ?_⟩
    have k2 : Keep P σ' σ2 := .outs outs hd
    refine ⟨τ2, cs ++ ex, ⟨gd2, trivial, w2⟩, ?_⟩
    have q2 := postS_seq (postS_keep k2 hr)
    cases hb2 : exec Γ wf b τ2 with
    | nx τ3 =>
      rw [hb2] at q2
      intro σ3 H3 k3 ow3
      refine ⟨(hk.trans k2).trans k3, τ3, ow3, ?_⟩
      have q3 := postS_keep k2 hr
      rw [hb2] at q3
      exact postS_keep k3 q3
    | rt r τ3 =>
      rw [hb2] at q2
      exact postS_more (Wx := Wx) (e2 := cs) (D := D) (r := .rt r τ3) q2
    | exc x τ3 =>
      rw [hb2] at q2
      exact postS_more (Wx := Wx) (e2 := cs) (D := D) (r := .exc x τ3) q2
    | stuck =>
      rw [hb2] at q2
      exact q2.elim
  · rw [List.drop_eq_nil_of_le (by omega)] at hr
    refine .inl ⟨it2 (by omega), hr σ' H' .refl ?_⟩
    have wd : W g H' (cellsOf σ' τ' ++ ex) := wc.dropL
    exact ⟨ow'.gd, trivial, wd⟩
theorem JS_while {c : Expr} {body : List Stmt} {b : S} (hp : PassesOwn (model X.prog X.w) X.A X.env X.xe) (hc : PT X c (JC g Γ Wx x)) (hb : PSs X body (JS g Γ wf Wx P b)) :
    PS X (.While c body [] pos) (JS g Γ wf Wx P (.while_ x b)) := (ps_while hp hc hb).imp fun D σ H ⟨τ, ex, ow, p⟩ => by
  simp only [exec] at p
  refine ⟨fun m σ' H' => Keep P σ σ' ∧ ∃ τ', OW g σ' [] [] τ' ex H' ∧ postS g Wx P σ' ex (whileLoop (evalC Γ x) (exec Γ wf b) m τ') D, ⟨wf, .refl, τ, ow, p⟩, fun m σ' H' hW => ?_⟩
  obtain ⟨hk, τ', ow', hr⟩ := hW
  cases m with
  | zero => exact hr.elim
  | succ m =>
    unfold whileLoop at hr
    refine ⟨τ', ex, ow', post_mono (post_s hr) fun k τ2 q H2 ow2 => ?_⟩
    cases k with
    | false => exact q σ' H2 .refl ow2
    | true =>
      refine ⟨fun σ2 H2 => Keep P σ σ2 ∧ ∃ τ', OW g σ2 [] [] τ' ex H2 ∧ postS g Wx P σ2 ex (whileLoop (evalC Γ x) (exec Γ wf b) m τ') D, fun σ2 H2 n => ⟨m, by omega, n⟩, ?_⟩
      have q : postS g Wx P σ' ex ((exec Γ wf b τ2).seq (whileLoop (evalC Γ x) (exec Γ wf b) m)) D := q
      refine ⟨τ2, ex, ow2, ?_⟩
      cases hb2 : exec Γ wf b τ2 with
      | nx τ3 =>
        rw [hb2] at q
        intro σ3 H3 k3 ow3
        exact ⟨hk.trans k3, τ3, ow3, postS_keep k3 q⟩
      | rt r τ3 => rw [hb2] at q; exact q
      | exc x τ3 => rw [hb2] at q; exact q
      | stuck => rw [hb2] at q; exact q.elim
end
end Iv
/-! Iv21: whole bodies; a def by its body. -/
namespace Iv
open PySem L2 PySem.Spec PyProof.Rows
def stLine : Stmt → Nat
  | .Expr _ p => p.line
  | .Assign _ _ p => p.line
  | .If _ _ _ p => p.line
  | .For _ _ _ _ p => p.line
  | .While _ _ _ p => p.line
  | _ => 0
def dropS (is : List Nat) (m : S) : S := match is with
  | [] => m
  | is => .seq (.drop is) m
def cSs (ct : CT) (rS : Stmt → S) : List Stmt → S
  | [] => .nop
  | [s] => rS s
  | s :: r => .seq (rS s) (dropS ((ct.drops.lookup (stLine s)).getD []) (cSs ct rS r))
def swB (sc : Scope) (y : Str) (py pos : Pos) (csc : Scope) : Bool := (sc.names.lookup y == some .local) && (py.line == pos.line) && !(csc.names.any fun (n, k) => n == y && (k == .local || k == .cell))
def isLc1 : Expr → Bool
  | .ListComp _ [_] _ _ => true
  | _ => false
/-- a plain value for any target, or a comprehension for a name -/
def cAsg (ct : CT) (P : List Nat) (t e : Expr) : S := match t with
  | .Subscript o k _ => if plainB k && notComp e then match cE 40 ct o, cE 40 ct k, cE 40 ct e with
      | some (.v i), some y, some x => .setI i y x
      | _, _, _ => .bad
    else .bad
  | t => match cT ct 40 t, cE 40 ct e with
    | some tg, some x => if tg.slots.all (fun i => !P.contains i) && starB t then
        (if notComp e && noPair t e then .set tg x else if isLc1 e && decide (ct.sc.kind = .function) then match t with
          | .Name _ _ => .set tg x
          | _ => .bad
        else .bad)
      else .bad
    | _, _ => .bad
def cS : Nat → CT → List Nat → Stmt → S
  | 0, _, _, _ => .bad
  | n + 1, ct, P, st => match st with
    | .Pass _ => .nop
    | .Expr (.Constant (.str _) _ _) _ => .nop
    | .Expr e _ => if notComp e then match cE 40 ct e with
        | some m => .ex m
        | none => .bad
      else .bad
    | .Return none _ => .retN
    | .Return (some e) _ => match cE 40 ct e with
        | some (.v i) => if P.contains i then .ret (.v i) else .retM i
        | some m => .ret m
        | none => .bad
    | .If c a b _ => match cC 40 ct c with
        | some x => .ite x (cSs ct (cS n ct P) a) (cSs ct (cS n ct P) b)
        | none => .bad
    | .Assign [t] e _ => cAsg ct P t e
    | .For t it body [] _ => match cIter ct (cE 40 ct) t it, cT ct 40 t with
        | some src, some tg => if notSet it && tg.slots.all (fun i => !P.contains i) then .for_ tg src (cSs ct (cS n ct P) body) else .bad
        | _, _ => .bad
    | .While c body [] _ => match cC 40 ct c with
        | some x => .while_ x (cSs ct (cS n ct P) body)
        | none => .bad
    | _ => .bad
section
variable {g : Cfg} {Γ : Nat → List O → COut} {wf : Nat} {Wx : WX} {P : List Nat} {ct : CT} {X : Cx}
theorem sw_eq {elt : Expr} {gs : List Comprehension} {scope sc : Scope} {pos py : Pos} {y : Str} {l : Nat} {env : Env} (he : env.scope = sc) (hk : sc.kind = .function) : swapsWith (.ListComp elt gs scope pos) (some (.Name y py)) l env = pure (swB sc y py pos scope) := by
  have hb : env.blockKind = .function := by unfold Env.blockKind; rw [he, hk]; rfl
  have ky : env.kindOf y = sc.names.lookup y := by unfold Env.kindOf; rw [he]
  unfold swapsWith swB
  simp only [hb, ky, Expr.pos]
  rfl
theorem cSs_ok {rS : Stmt → S} (h : ∀ st, PS X st (JS g Γ wf Wx P (rS st))) : ∀ sts : List Stmt, PSs X sts (JS g Γ wf Wx P (cSs ct rS sts))
  | [] => JS_nil
  | [s] => JS_one (h s)
  | s :: t :: r => by
    unfold cSs
    refine JS_cons (h s) ?_
    unfold dropS
    split
    · exact cSs_ok h (t :: r)
    · exact JS_drop (cSs_ok h (t :: r))
theorem all_not {is P : List Nat} (h : is.all (fun i => !P.contains i) = true) : ∀ i ∈ is, i ∉ P := fun i hi hp => by
  have := List.all_eq_true.mp h i hi
  rw [List.contains_iff_mem.mpr hp] at this
  cases this
/-- the parts of a comprehension -/
theorem lc_parts (c : Ctx g Γ ct X) (tk : Takes X Wx) {n : Nat} {elt tg iter : Expr} {ifs : List Expr} {a : Int} {sc : Scope} {pos : Pos} {m : E} (h : cE (n + 1) ct (.ListComp elt [⟨tg, iter, ifs, a⟩] sc pos) = some m) :
    ∃ kp src t cond el, a = 0 ∧ m = .lc kp src t ((ownOf ct sc).map (·.2)) cond el ∧ notSet iter = true ∧ (∀ i ∈ t.slots, i ∈ (ownOf ct sc).map (·.2)) ∧ PI X tg iter (JI g Γ Wx src) ∧ BlkOk X.N X.env.scope sc (ownOf ct sc) ∧
      (∀ (s : Shared) (H : Hp) (C : Addr) (cl : List (Str × Addr)) (fp : List Addr), PG (X.blk s H sc (compEnvC sc cl C X.env) fp) tg (JG g t)) ∧
      (∀ (s : Shared) (H : Hp) (C : Addr) (cl : List (Str × Addr)) (fp : List Addr), PTs (X.blk s H sc (compEnvC sc cl C X.env) fp) ifs (JC g Γ W0 cond)) ∧
      (∀ (s : Shared) (H : Hp) (C : Addr) (cl : List (Str × Addr)) (fp : List Addr), PE (X.blk s H sc (compEnvC sc cl C X.env) fp) elt (JE g Γ W0 el)) := by
  simp only [cE] at h
  obtain ⟨hc, h⟩ := oif h
  obtain ⟨ha, hb, hns⟩ := and3 hc
  have ea : a = 0 := of_decide_eq_true ha
  obtain ⟨src, hsrc, h⟩ := obind h
  obtain ⟨t, ht, h⟩ := obind h
  obtain ⟨hsl, h⟩ := oif h
  obtain ⟨cond, hcond, h⟩ := obind h
  obtain ⟨el, hel, rfl⟩ := omap h
  have ok : BlkOk X.N X.env.scope sc (ownOf ct sc) := by
    rw [c.N, c.sc]; exact blkOk_by hb
  refine ⟨_, src, t, cond, el, ea, rfl, hns, fun i hi => ?_, ok_iter c (sound g Γ n ct X Wx c tk).1 hsrc, ok, fun s H C cl fp => ok_tg (c.sub sc s H C cl fp) ht, fun s H C cl fp => ?_, fun s H C cl fp => ?_⟩
  · exact List.contains_iff_mem.mp (List.all_eq_true.mp hsl i hi)
  · have cb := c.sub sc s H C cl fp
    obtain ⟨_, _, hCb⟩ := sound g Γ n (ct.sub sc) _ W0 cb takesF
    cases ifs with
    | nil =>
      cases hcond
      exact pts_nil.imp fun σ H Q ⟨τ, ex, ow, p⟩ => p H ow
    | cons c1 r =>
      cases r with
      | nil => exact pts_one (hCb c1 cond hcond)
      | cons _ _ => cases hcond
  · have cb := c.sub sc s H C cl fp
    exact ((sound g Γ n (ct.sub sc) _ W0 cb takesF).1 elt el hel).1
theorem cT_name {n : Nat} {y : Str} {p : Pos} {t : Tg} (h : cT ct n (.Name y p) = some t) : ∃ i, t = .nm i ∧ ixOf ct.N y = some i := by
  cases n with
  | zero => cases h
  | succ n =>
    unfold cT at h
    obtain ⟨i, hi, h⟩ := obind h
    obtain ⟨_, e⟩ := if_some h
    exact ⟨i, e.symm, hi⟩
theorem ok_asg (c : Ctx g Γ ct X) (tk : Takes X Wx) {t e : Expr} {pos : Pos} : PS X (.Assign [t] e pos) (JS g Γ wf Wx P (cAsg ct P t e)) := by
  obtain ⟨hE, hV, hC⟩ := sound g Γ 40 ct X Wx c tk
  unfold cAsg
  split
  · split
    · rename_i o k p2 hq
      obtain ⟨h1, h2⟩ := and2 hq
      split
      · rename_i i y x e1 e2 e3
        exact JS_setI h1 c.hu h2 (hV _ _ e1) (hE _ _ e2).2 (hE _ _ e3).2
      · exact JS_bad
    · exact JS_bad
  · split
    · rename_i tg x e1 e2
      split
      · rename_i hq
        obtain ⟨h1, h2⟩ := and2 hq
        have hd := all_not h1
        split
        · rename_i hn
          obtain ⟨h3, h4⟩ := and2 hn
          exact JS_set hd h3 h4 h2 (hE _ _ e2).1 (ok_tg c e1)
        · split
          · rename_i hl
            obtain ⟨h3, h4⟩ := and2 hl
            have hk : ct.sc.kind = .function := of_decide_eq_true h4
            split
            · rename_i y py hxx hyy
              -- a comprehension
              cases e with
              | ListComp elt gs sc lpos =>
                match gs, h3 with
                | [⟨tg2, iter, ifs, a⟩], _ =>
                  obtain ⟨kp, src, t2, cond, el, rfl, rfl, hns, hsub, hi, ok, hg, ht, he⟩ := lc_parts c tk e2
                  obtain ⟨i, rfl, hix⟩ := cT_name e1
                  have hN : X.N[i]? = some y := by rw [c.N]; exact ixOf_get hix
                  have sw := sw_eq (elt := elt) (gs := [⟨tg2, iter, ifs, 0⟩]) (scope := sc) (pos := lpos) (py := py) (y := y) (l := pos.line) (env := X.env) c.sc hk
                  cases hb : swB ct.sc y py lpos sc with
                  | true =>
                    rw [hb] at sw
                    have hyl : X.env.scope.names.lookup y = some .local := by
                      rw [c.sc]
                      unfold swB at hb
                      have := (and2 (and2 hb).1).1
                      exact eq_of_beq this
                    exact JS_setLc (hd i (by simp [Tg.slots])) c.calm c.nd hN hyl sw hi ok hg ht he hns hsub
                  | false =>
                    rw [hb] at sw
                    exact (ps_asg (pos := pos) (hE _ _ e2).1 (ok_tg c e1) sw rfl rfl).imp fun D σ H h => J_set hd h
                | [], h => cases h
                | _ :: _ :: _, h => cases h
              | _ => cases h3
            · exact JS_bad
          · exact JS_bad
      · exact JS_bad
    · exact JS_bad
theorem ok_S (c : Ctx g Γ ct X) (tk : Takes X Wx) (hp : PassesOwn (model X.prog X.w) X.A X.env X.xe) : ∀ (n : Nat) (st : Stmt), PS X st (JS g Γ wf Wx P (cS n ct P st))
  | 0, st => JS_bad
  | n + 1, st => by
    obtain ⟨hE, hV, hC⟩ := sound g Γ 40 ct X Wx c tk
    have ih := ok_S c tk hp n
    unfold cS
    split
    · exact JS_pass
    · exact JS_doc
    · split
      · rename_i hn
        split
        · rename_i m e1
          exact JS_ex hn (hE _ _ e1).1
        · exact JS_bad
      · exact JS_bad
    · exact JS_retN
    · split
      · rename_i i e1
        split
        · exact JS_ret (hE _ _ e1).1
        · exact JS_retM (hV _ _ e1)
      · rename_i m _ e1
        exact JS_ret (hE _ _ e1).1
      · exact JS_bad
    · split
      · rename_i x e1
        exact JS_if (hC _ _ e1) (cSs_ok ih _) (cSs_ok ih _)
      · exact JS_bad
    · exact ok_asg c tk
    · split
      · rename_i src tg e1 e2
        split
        · rename_i hq
          obtain ⟨h1, h2⟩ := and2 hq
          exact JS_for hp c.calm (all_not h2) (ok_iter c hE e1) (ok_tg c e2) (cSs_ok ih _) h1
        · exact JS_bad
      · exact JS_bad
    · split
      · rename_i x e1
        exact JS_while hp (hC _ _ e1) (cSs_ok ih _)
      · exact JS_bad
    · exact JS_bad
end
end Iv
/-! Iv22: a def by its body; all defs, n calls deep. -/
namespace Iv
open PySem L2 PySem.Spec PyProof.Rows
theorem cells_agree : ∀ {σ1 σ2 : L2.St} {τ : St}, Good σ1 τ → σ2.length = σ1.length → (∀ (i : Nat) (o : O), τ[i]? = some (some o) → σ2[i]? = σ1[i]?) → cellsOf σ2 τ = cellsOf σ1 τ ∧ Good σ2 τ
  | [], [], [], _, _, _ => ⟨rfl, trivial⟩
  | s :: σ1, s2 :: σ2, t :: τ, h, l, e => by
    obtain ⟨h1, h2⟩ := cells_agree (σ1 := σ1) (σ2 := σ2) (τ := τ) h.2 (by simpa using l) (fun i o hi => by
      have := e (i + 1) o (by simpa using hi)
      simpa using this)
    cases t with
    | none => exact ⟨h1, fun z => (by cases z), h2⟩
    | some o =>
      have e0 : s2 = s := by
        have := e 0 o rfl
        simpa using this
      subst e0
      exact ⟨congrArg (Cell.c (s2.getD .non) o :: ·) h1, h.1, h2⟩
  | [], _ :: _, _, _, l, _ => by simp at l
  | _ :: _, [], _, _, l, _ => by simp at l
  | [], [], _ :: _, h, _, _ => h.elim
  | _ :: _, _ :: _, [], h, _, _ => h.elim
theorem cells_take : ∀ {σ : L2.St} {τ : St} (n : Nat), Good σ τ → ∃ cs, (cellsOf σ τ).Perm (cs ++ cellsOf (σ.take n) (τ.take n)) ∧ Good (σ.take n) (τ.take n)
  | σ, τ, 0, h => ⟨cellsOf σ τ, by rw [List.take_zero, List.take_zero]; exact .of_eq (List.append_nil _).symm, trivial⟩
  | [], [], n + 1, h => ⟨[], .refl _, trivial⟩
  | s :: σ, t :: τ, n + 1, h => by
    obtain ⟨cs, p, gd⟩ := cells_take n h.2
    cases t with
    | none => exact ⟨cs, p, fun z => (by cases z), gd⟩
    | some o => exact ⟨cs, (List.Perm.cons _ p).trans List.perm_middle.symm, h.1, gd⟩
  | [], _ :: _, _ + 1, h => h.elim
  | _ :: _, [], _ + 1, h => h.elim
theorem wipes_cells {σ : L2.St} {τ : St} (gd : Good σ τ) : ∀ is : List Nat, Good σ (wipes is τ) ∧ ∃ cs, (cellsOf σ τ).Perm (cs ++ cellsOf σ (wipes is τ))
  | [] => ⟨gd, [], .refl _⟩
  | i :: is => by
    obtain ⟨h1, cs, p1⟩ := wipes_cells gd is
    obtain ⟨ds, q⟩ := slot_drop i h1
    refine ⟨h1.none i, cs ++ ds, ?_⟩
    rw [List.append_assoc]
    exact p1.trans (List.Perm.append_left _ q)
theorem wipes_at {τ : St} {i : Nat} {o : O} : ∀ {is : List Nat}, (wipes is τ)[i]? = some (some o) → i ∉ is
  | [], h => by simp
  | v :: vs, h => by
    unfold wipes at h
    by_cases hv : v = i
    · subst hv
      by_cases hl : v < (wipes vs τ).length
      · rw [List.getElem?_set_self hl] at h; cases h
      · rw [List.getElem?_eq_none (by rw [List.length_set]; omega)] at h; cases h
    · rw [List.getElem?_set_ne hv] at h
      have := wipes_at h
      simp only [List.mem_cons, not_or]
      exact ⟨fun e => hv e.symm, this⟩
theorem entry_cells : ∀ (vs : List V) (os : List O) (n : Nat), vs.length = os.length → Good (vs.map some ++ List.replicate n none) (os.map some ++ List.replicate n none) ∧ cellsOf (vs.map some ++ List.replicate n none) (os.map some ++ List.replicate n none) = zipO vs os
  | [], [], 0, _ => ⟨trivial, rfl⟩
  | [], [], n + 1, _ => by
    obtain ⟨h1, h2⟩ := entry_cells [] [] n rfl
    exact ⟨⟨fun z => (by cases z), h1⟩, h2⟩
  | v :: vs, o :: os, n, l => by
    obtain ⟨h1, h2⟩ := entry_cells vs os n (by simpa using l)
    exact ⟨⟨fun _ => rfl, h1⟩, congrArg (Cell.c v o :: ·) h2⟩
  | [], _ :: _, _, l => by simp at l
  | _ :: _, [], _, l => by simp at l
/-- the parameters a def does not assign -/
def keptOf (d : Df) : List Nat := (List.range d.np).filter fun i => !d.asg.contains i
section
variable {g : Cfg} {P : Program} {w : World} {K : PySem.W.Frag} {mg : Str → Option Value} {base : Heap}
/-- what one needs of a def's row: names, parameters, those it assigns -/
structure Row where
  x : Str
  st : Stmt
  N : List Str
  ps : List Str
  asg : List Nat
  drops : List (Nat × List Nat)
def Row.ct (r : Row) (gl : List (Str × Gk)) (tks : List Pos) : CT := ⟨r.N, defScope r.st, none, gl, tks, [], r.drops⟩
def Row.df0 (r : Row) : Df := ⟨r.ps.length, r.N.length, r.asg, .nop⟩
def Row.df (r : Row) (gl : List (Str × Gk)) (tks : List Pos) : Df := { r.df0 with body := cSs (r.ct gl tks) (cS 40 (r.ct gl tks) (keptOf r.df0)) (defBody r.st) }
theorem entry_some {d : Df} {os : List O} {τ : St} (h : entry d os = some τ) : os.length = d.np ∧ τ = os.map some ++ List.replicate (d.nn - d.np) none := by
  unfold entry at h
  obtain ⟨hc, e⟩ := if_some h
  obtain ⟨h1, h2⟩ := and2 hc
  exact ⟨of_decide_eq_true h1, e.symm⟩
/-- a def that does B to its slots -/
def runF (B : St → SOut) (d : Df) (os : List O) : COut := match entry d os with
  | none => .stuck
  | some τ => .of d (B τ)
theorem df_okF {Γ : Nat → List O → COut} {B : St → SOut} {k : Nat} {r : Row} {qual : Str} {f : Addr} {fd : FuncData} {gl : List (Str × Gk)} {tks : List Pos} (F : Fun K r.x qual r.st f fd) (S : FnScope r.N r.ps (defScope r.st)) (hK : K = g.K)
    (hgl : ∀ (X : Cx), X.prog = P → X.w = w → X.K = K → X.mg = mg → X.base = base → Room k X.A → ∀ x kk, gl.lookup x = some kk → GlOk g Γ X x kk)
    (hB : ∀ (X : Cx) (Wx : WX), Ctx g Γ (r.ct gl tks) X → Takes X Wx → PassesOwn (model X.prog X.w) X.A X.env X.xe → Room k X.A → PSs X (defBody r.st) (HS g Wx (keptOf r.df0) B)) :
    FnOk P w K mg base (L2.CX P w) (k + 1) f fd r.ps (spI g (runF B (r.df gl tks))) := by
  have np : (r.df gl tks).np = r.ps.length := rfl
  have nn : (r.df gl tks).nn = r.N.length := rfl
  refine F.okX S (fun vs H Q E h => ?_) (fun cdv A outer s H vs Q E hr h => ?_)
  · obtain ⟨os, ex, l, _, q⟩ := h
    cases he : entry (r.df gl tks) os with
    | none =>
      have q' : (match runF B (r.df gl tks) os with
        | .ok r as => ∀ u H', W g H' (.c u r :: (cellsOf (vs.map some) as ++ ex)) → Q u H'
        | .exc x as => ∀ H' cls d ws, ExAt g x cls d H' ws → W g H' (zipT ws x.fs ++ (cellsOf (vs.map some) as ++ ex)) → E cls d H'
        | .stuck => False) := q
      unfold runF at q'
      rw [he] at q'
      exact q'.elim
    | some τ => rw [l, (entry_some he).1, np]
  · obtain ⟨os, ex, l, w0, q⟩ := h
    unfold runF at q
    cases he : entry (r.df gl tks) os with
    | none => rw [he] at q; exact q.elim
    | some τ0 =>
      rw [he] at q
      obtain ⟨hl, rfl⟩ := entry_some he
      -- the context
      have hu : (A.deeper (envOfC qual (defScope r.st) s.heap.objs.size f cdv)).units + 65 < cLine := by
        have := hr.un
        omega
      have C : Ctx g Γ (r.ct gl tks) (cxOf (L2.CX P w) P w K mg base r.N qual (defScope r.st) f cdv A outer s H E) :=
        ⟨rfl, S.nd, rfl, hK, hu, rfl, fun _ _ => rfl, hgl _ rfl rfl rfl rfl rfl hr⟩
      have tk : Takes (cxOf (L2.CX P w) P w K mg base r.N qual (defScope r.st) f cdv A outer s H E) (fun cls d _ H => E cls d H) := takes_of rfl rfl rfl rfl
      have hp : PassesOwn (model P w) (A.deeper (envOfC qual (defScope r.st) s.heap.objs.size f cdv)) (envOfC qual (defScope r.st) s.heap.objs.size f cdv) (cxOf (L2.CX P w) P w K mg base r.N qual (defScope r.st) f cdv A outer s H E).xe := passes_of (X := cxOf (L2.CX P w) P w K mg base r.N qual (defScope r.st) f cdv A outer s H E) rfl
      have hb := hB _ _ C tk hp hr
      refine ⟨_, hb, ?_⟩
      -- its reading
      obtain ⟨gd0, ec⟩ := entry_cells vs os (r.N.length - r.ps.length) l
      have est : L2.start r.N vs = vs.map some ++ List.replicate (r.N.length - r.ps.length) none := by
        unfold L2.start
        rw [show vs.length = r.ps.length by rw [l, hl]; rfl]
      refine ⟨os.map some ++ List.replicate (r.N.length - r.ps.length) none, ex, ⟨by rw [est]; exact gd0, trivial, ?_⟩, ?_⟩
      · show W g H (cellsOf (L2.start r.N vs) _ ++ ex)
        rw [est, ec]
        exact w0
      -- the end
      have fin : ∀ {σ' : L2.St} {τ' : St} {cs ds : List Cell} {H' : Hp}, Keep (keptOf r.df0) (L2.start r.N vs) σ' → Good σ' τ' → W g H' (ds ++ (cellsOf σ' τ' ++ cs)) → W g H' (ds ++ (cellsOf (vs.map some) (outs (r.df gl tks) τ') ++ cs)) := fun {σ' τ' cs ds H'} kp gd ww => by
        obtain ⟨gd1, c1, p1⟩ := wipes_cells gd r.asg
        obtain ⟨c2, p2, gd2⟩ := cells_take r.ps.length gd1
        have lv : vs.length = r.ps.length := by rw [l, hl]; rfl
        have lsig : σ'.length = r.ps.length + (r.N.length - r.ps.length) := by
          rw [kp.1, est, List.length_append, List.length_map, List.length_replicate, lv]
        have ag := cells_agree (σ2 := vs.map some) gd2 (by rw [List.length_map, List.length_take, lv, lsig]; omega) (fun i o hi => by
          rw [List.getElem?_take] at hi ⊢
          split at hi
          · rename_i hlt
            rw [if_pos hlt]
            have hn : i ∉ r.asg := wipes_at hi
            have hm : i ∈ keptOf r.df0 := by
              unfold keptOf
              rw [List.mem_filter]
              refine ⟨List.mem_range.mpr hlt, ?_⟩
              have hc : r.asg.contains i = false := by
                cases hz : r.asg.contains i with
                | false => rfl
                | true => exact absurd (List.contains_iff_mem.mp hz) hn
              show (!r.asg.contains i) = true
              rw [hc]; rfl
            rw [kp.2 i hm, est, List.getElem?_append_left (by rw [List.length_map, lv]; exact hlt)]
          · cases hi)
        have e3 : cellsOf (vs.map some) (outs (r.df gl tks) τ') = cellsOf (σ'.take r.ps.length) ((wipes r.asg τ').take r.ps.length) := ag.1
        rw [e3]
        have w2 : W g H' (c1 ++ (c2 ++ (ds ++ (cellsOf (σ'.take r.ps.length) ((wipes r.asg τ').take r.ps.length) ++ cs)))) := ww.perm (by
          refine (List.Perm.append_left _ (p1.append_right cs)).trans ?_
          rw [List.append_assoc]
          refine (pswap _ _ _).trans (List.Perm.append_left _ ?_)
          refine (List.Perm.append_left _ (p2.append_right cs)).trans ?_
          rw [List.append_assoc]
          exact pswap _ _ _)
        exact w2.dropL.dropL
      have q : (match COut.of (r.df gl tks) (B (os.map some ++ List.replicate (r.N.length - r.ps.length) none)) with
        | .ok r as => ∀ u H', W g H' (.c u r :: (cellsOf (vs.map some) as ++ ex)) → Q u H'
        | .exc x as => ∀ H' cls d ws, ExAt g x cls d H' ws → W g H' (zipT ws x.fs ++ (cellsOf (vs.map some) as ++ ex)) → E cls d H'
        | .stuck => False) := q
      show postS g _ _ _ _ (B (os.map some ++ List.replicate (r.N.length - r.ps.length) none)) _
      cases hx : B (os.map some ++ List.replicate (r.N.length - r.ps.length) none) with
      | stuck => rw [hx] at q; exact q
      | nx τ' =>
        rw [hx] at q
        intro σ' H' kp ow
        refine q V.non H' ?_
        have w1 := fin (ds := []) kp ow.gd ow.w
        exact W.put w1 fun A => (rfl : V.non = V.non)
      | rt rr τ' =>
        rw [hx] at q
        intro σ' v H' kp ow
        exact q v H' (fin (ds := [.c v rr]) kp ow.gd ow.w)
      | exc x τ' =>
        rw [hx] at q
        intro σ' kp H' cls d ws h1 gd h3
        exact q H' cls d ws h1 (fin (ds := zipT ws x.fs) kp gd h3)
theorem df_ok {Γ : Nat → List O → COut} {wf k : Nat} {r : Row} {qual : Str} {f : Addr} {fd : FuncData} {gl : List (Str × Gk)} {tks : List Pos} (F : Fun K r.x qual r.st f fd) (S : FnScope r.N r.ps (defScope r.st)) (hK : K = g.K)
    (hgl : ∀ (X : Cx), X.prog = P → X.w = w → X.K = K → X.mg = mg → X.base = base → Room k X.A → ∀ x kk, gl.lookup x = some kk → GlOk g Γ X x kk) :
    FnOk P w K mg base (L2.CX P w) (k + 1) f fd r.ps (spI g (runD Γ wf (r.df gl tks))) :=
  df_okF (B := exec Γ wf (r.df gl tks).body) F S hK hgl fun X Wx C tk hp hr => HSs_of (cSs_ok (g := g) (Γ := Γ) (wf := wf) (P := keptOf r.df0) (ct := r.ct gl tks) (fun st => ok_S C tk hp 40 st) (defBody r.st))
end
end Iv
/-! Iv23: a text of defs. -/
namespace Iv
open PySem L2 PySem.Spec PyProof.Rows
/-- a text: its defs, the built-in names it uses, its constants, the places of dicts with tuple keys -/
structure Txt where
  rows : List Row
  bis : List Str
  cons : List (Str × T)
  tks : List Pos
  wf : Nat
  /-- these defs are walked by hand -/
  byHand : List Nat
def glRows : Nat → List Row → List (Str × Gk) → List (Str × Gk)
  | _, [], r => r
  | i, x :: xs, r => (x.x, .df i) :: glRows (i + 1) xs r
def Txt.gl (t : Txt) : List (Str × Gk) := glRows 0 t.rows (t.bis.map (fun x => (x, Gk.bi)) ++ t.cons.map fun p => (p.1, .con p.2))
def Txt.D (t : Txt) (f : Nat) : Option Df := if t.byHand.contains f then none else (t.rows[f]?).map fun r => r.df t.gl t.tks
theorem glRows_look {x : Str} {k : Gk} : ∀ {rs : List Row} {i : Nat} {r : List (Str × Gk)}, (glRows i rs r).lookup x = some k → (∃ j q, rs[j]? = some q ∧ q.x = x ∧ k = .df (i + j)) ∨ r.lookup x = some k
  | [], _, _, h => .inr h
  | q :: rs, i, r, h => by
    unfold glRows at h
    rw [List.lookup_cons] at h
    split at h
    · rename_i he
      cases h
      exact .inl ⟨0, q, rfl, (by simpa using he : x = q.x).symm, rfl⟩
    · rcases glRows_look h with ⟨j, q', h1, h2, rfl⟩ | h
      · exact .inl ⟨j + 1, q', by simpa using h1, h2, by rw [show i + 1 + j = i + (j + 1) by omega]⟩
      · exact .inr h
theorem look_app {x : Str} {k : Gk} : ∀ {a b : List (Str × Gk)}, (a ++ b).lookup x = some k → a.lookup x = some k ∨ b.lookup x = some k
  | [], b, h => .inr h
  | (y, q) :: a, b, h => by
    rw [List.cons_append, List.lookup_cons] at h
    rw [List.lookup_cons]
    split at h
    · exact .inl h
    · exact look_app h
theorem look_bis {x : Str} {k : Gk} : ∀ {bs : List Str}, (bs.map (fun x => (x, Gk.bi))).lookup x = some k → x ∈ bs ∧ k = .bi
  | [], h => by cases h
  | b :: bs, h => by
    rw [List.map_cons, List.lookup_cons] at h
    split at h
    · rename_i he
      cases h
      exact ⟨by rw [show x = b by simpa using he]; exact List.mem_cons_self, rfl⟩
    · obtain ⟨h1, h2⟩ := look_bis h
      exact ⟨List.mem_cons_of_mem _ h1, h2⟩
theorem look_cons {x : Str} {k : Gk} : ∀ {cs : List (Str × T)}, (cs.map fun p => (p.1, Gk.con p.2)).lookup x = some k → ∃ t, (x, t) ∈ cs ∧ k = .con t
  | [], h => by cases h
  | (c, t) :: cs, h => by
    rw [List.map_cons, List.lookup_cons] at h
    split at h
    · rename_i he
      cases h
      exact ⟨t, by rw [show x = c by simpa using he]; exact List.mem_cons_self, rfl⟩
    · obtain ⟨t', h1, h2⟩ := look_cons h
      exact ⟨t', List.mem_cons_of_mem _ h1, h2⟩
/-- what the head says of the text -/
structure Top (t : Txt) (g : Cfg) (K : PySem.W.Frag) (mg : Str → Option Value) (fa : Nat → Addr) (fd : Nat → FuncData) : Prop where
  hK : K = g.K
  row : ∀ f r, t.rows[f]? = some r → Fun K r.x r.x r.st (fa f) (fd f) ∧ mg r.x = some (.ref (fa f)) ∧ L2.Binds K (fd f) r.ps [] ∧ FnScope r.N r.ps (defScope r.st)
  bi : ∀ x ∈ t.bis, mg x = none
  con : ∀ x u, (x, u) ∈ t.cons → ∃ v w, mg x = some w ∧ RelV v w ∧ ∀ H A, Rep g A H u v
section
variable {t : Txt} {g : Cfg} {P : Program} {w : World} {K : PySem.W.Frag} {mg : Str → Option Value} {base : Heap} {fa : Nat → Addr} {fd : Nat → FuncData} {prim : (Nat → List O → COut) → Nat → List O → COut}
abbrev FnN (t : Txt) (g : Cfg) (P : Program) (w : World) (K : PySem.W.Frag) (mg : Str → Option Value) (base : Heap) (fa : Nat → Addr) (fd : Nat → FuncData) (prim : (Nat → List O → COut) → Nat → List O → COut) (k0 n : Nat) : Prop :=
  ∀ f r, t.rows[f]? = some r → FnOk P w K mg base (L2.CX P w) (k0 + n) (fa f) (fd f) r.ps (spI g (callD t.wf t.D prim n f))
theorem gl_ok (h : Top t g K mg fa fd) {k0 n : Nat} (ih : FnN t g P w K mg base fa fd prim k0 n) (X : Cx) (e1 : X.prog = P) (e2 : X.w = w) (e3 : X.K = K) (e4 : X.mg = mg) (e5 : X.base = base) (hr : Room (k0 + n) X.A) (x : Str) (kk : Gk) (hl : t.gl.lookup x = some kk) :
    GlOk g (callD t.wf t.D prim n) X x kk := by
  unfold Txt.gl at hl
  rcases glRows_look hl with ⟨j, q, h1, h2, rfl⟩ | hl
  · rw [Nat.zero_add]
    obtain ⟨F, hm, hb, S⟩ := h.row j q h1
    refine ⟨fa j, k0 + n, fd j, q.ps, ?_, hr, by rw [e4, ← h2]; exact hm, by rw [e3]; exact F.kp, by rw [e3]; exact hb⟩
    rw [e1, e2, e3, e4, e5]
    exact ih j q h1
  · rcases look_app hl with hl | hl
    · obtain ⟨h1, rfl⟩ := look_bis hl
      show X.mg x = none
      rw [e4]
      exact h.bi x h1
    · obtain ⟨u, h1, rfl⟩ := look_cons hl
      obtain ⟨v, w', q1, q2, q3⟩ := h.con x u h1
      exact ⟨v, w', by rw [e4]; exact q1, q2, q3⟩
/-- all defs, n calls deep -/
theorem txt_ok (h : Top t g K mg fa fd) {k0 : Nat}
    (hand : ∀ n f r, t.rows[f]? = some r → t.byHand.contains f = true → FnN t g P w K mg base fa fd prim k0 n → FnOk P w K mg base (L2.CX P w) (k0 + n + 1) (fa f) (fd f) r.ps (spI g (prim (callD t.wf t.D prim n) f))) :
    ∀ n, FnN t g P w K mg base fa fd prim k0 n
  | 0 => fun f r hf => by
    have no : ∀ vs H Q E, ¬ spI g (callD t.wf t.D prim 0 f) vs H Q E := fun vs H Q E ⟨os, ex, _, _, q⟩ => q
    exact ⟨fun vs H Q E q => (no _ _ _ _ q).elim, fun A outer s H args us vs Q E _ _ _ _ q => (no _ _ _ _ q).elim⟩
  | n + 1 => fun f r hf => by
    have ih := txt_ok h hand n
    by_cases hh : t.byHand.contains f = true
    · have e : ∀ os, callD t.wf t.D prim (n + 1) f os = prim (callD t.wf t.D prim n) f os := fun os => by
        show (match t.D f with
          | none => prim (callD t.wf t.D prim n) f os
          | some d => runD (callD t.wf t.D prim n) t.wf d os) = _
        unfold Txt.D
        rw [if_pos hh]
      rw [show callD t.wf t.D prim (n + 1) f = prim (callD t.wf t.D prim n) f from funext e]
      exact hand n f r hf hh ih
    · have e : ∀ os, callD t.wf t.D prim (n + 1) f os = runD (callD t.wf t.D prim n) t.wf (r.df t.gl t.tks) os := fun os => by
        show (match t.D f with
          | none => prim (callD t.wf t.D prim n) f os
          | some d => runD (callD t.wf t.D prim n) t.wf d os) = _
        unfold Txt.D
        rw [if_neg hh, hf]; rfl
      rw [show callD t.wf t.D prim (n + 1) f = runD (callD t.wf t.D prim n) t.wf (r.df t.gl t.tks) from funext e]
      obtain ⟨F, hm, hb, S⟩ := h.row f r hf
      exact df_ok F S h.hK fun X e1 e2 e3 e4 e5 hr x kk hl => gl_ok h ih X e1 e2 e3 e4 e5 hr x kk hl
/-- the law's end: it returns True -/
theorem law_sp {G : List O → COut} {ns : List Int} {H : Hp} {a : Addr} (hS : SqL g.K H a (ns.map V.int)) (h : ∃ as, G [.fz (.scr ns)] = .ok (.fz (.bl true)) as) : spI g G [.ref a] H (fun v _ => v = .bl true) fun _ _ _ => False := by
  obtain ⟨as, h⟩ := h
  refine ⟨[.fz (.scr ns)], [], rfl, ⟨[], List.nodup_nil, [], [], rfl, ⟨rfl, a, rfl, ?_⟩, rfl⟩, ?_⟩
  · rcases hS with hS | hS
    · exact .inl ⟨by simp, hS⟩
    · exact .inr hS
  · rw [h]
    intro u H' w
    obtain ⟨A, r⟩ := w.rep
    exact rep_bl r
end
end Iv
/-! Iv24: words of the machine: a tuple's count; the items and the values of a dict with tuple keys. -/
namespace Iv
open PySem L2 PySem.Spec PyProof.Rows
section
variable {X : Cx}
/-- t.count(k), ints -/
def rCntT (K : PySem.W.Frag) : V → List V → Hp → VK → Prop := fun x xs H Q => ∃ (p : Addr) (ns : List Int) (k : Int), x = .ref p ∧ xs = [.int k] ∧ SqT K H p (ns.map V.int) ∧ Q (.int (ns.count k : Nat)) H
theorem mt_tcount : MtR X "tuple.count" (rCntT X.K) := by
  intro pins s σ H x xs v us Q I rx rxs h
  obtain ⟨p, ns, k, rfl, rfl, hs, q⟩ := h
  cases rx
  obtain ⟨u, rfl, ru⟩ := rxs.one
  obtain ⟨t, rfl⟩ := ru
  obtain ⟨its, rv, ⟨⟨cls, dd, data, sl⟩, ho, hc, n, hd⟩, hlen⟩ := I.tuple hs
  simp only at hc hd
  subst hc hd
  have hi := ints_of_vals rv
  refine call_meets PySem.F.slot_tuple_count ⟨_, ho, rfl⟩ PySem.F.entry_tuple_count (PySem.F.args_tuple_count_2 _ _)
    (SeqAt.tuple_countAt p its.toArray n dd sl (.int k t) (eqk k)) ⟨ho, fun y hy => (eqk_gives hi y (by simpa using hy)).at _ _, ?_⟩
  have ec : its.toArray.toList.countP (eqk k) = ns.count k := eqk_count hi
  refine ⟨.int (ns.count k : Nat), H, I.tok _, ⟨s.toks, ?_⟩, q⟩
  show Value.int ((its.toArray.toList.countP (eqk k) : Nat) : Int) s.toks = Value.int ((ns.count k : Nat) : Int) s.toks
  rw [ec]

/-! ### items of a locked dict with tuple keys -/
theorem Inv.frzT2 {pins : List (Addr × Obj)} {σ : L2.St} {H : Hp} {s : Shared} {d : Addr} {o : Obj} {kvs : List (List Key × V)} (I : Inv X pins σ H s) (h : H d = some (.frz o (.dT kvs))) :
    (d == sysModules) = false ∧ s.heap.get? d = some o ∧ o.ExactDict ∧ ∃ (es : Array DictEntry) (ep : Nat), o.data = .dict es ep ∧ es.size = kvs.length ∧
      ∀ (i : Nat) (k : List Key) (v : V), kvs[i]? = some (k, v) → ∃ (en : DictEntry) (q : Addr), es[i]? = some en ∧ en.key = .ref q ∧ H q = some (.tup (k.map kV)) ∧ RelV v en.val := by
  obtain ⟨hd, z, hs, xs, pr, o', es, ep, ho, hx, hdt, he, _⟩ := I.hok d _ h
  rw [hd] at ho
  cases ho
  refine ⟨hs, hd, hx, es, ep, hdt, ?_, fun i k v e => ?_⟩
  · have l1 : es.size = xs.length := size_of_entries he
    have l2 : kvs.length = xs.length := Paired.length pr
    omega
  · obtain ⟨b, hb, e1, e2, e3⟩ := paired_get pr e
    have q := entry_at he i
    rw [hb] at q
    exact ⟨_, b.2.1, q, rfl, e2, e3⟩
/-- the pairs, each a new tuple: the key's own tuple, the value -/
def ItiT (d : Addr) (o : Obj) (kvs : List (List Key × V)) : It :=
  ⟨fun i H => H d = some (.frz o (.dT kvs)) ∧ i < kvs.length, fun i H x H' => ∃ (T : Addr) (k : List Key) (v : V) (q : Addr), kvs[i]? = some (k, v) ∧ x = .ref T ∧ H q = some (.tup (k.map kV)) ∧ H T = none ∧ H' = upd H T (.tup [.ref q, v]),
    fun i H => H d = some (.frz o (.dT kvs)) ∧ kvs.length ≤ i⟩
theorem turn_itemsT {P : Program} {w : World} {K : PySem.W.Frag} {d : Addr} {o : Obj} {es : Array DictEntry} {ep : Nat} {kvs : List (List Key × V)} {elts : List Expr} {kk : Nat} {tpos : Pos} (it : Addr) (hod : o.data = .dict es ep) :
    Turn P w K (.Tuple elts kk tpos) (ItiT d o kvs) [it] it (fun i h => ∃ ok ov, IsItemIter h it d i es.size ep ok ov) where
  mem := by simp
  obj := fun i h st b hb => by
    have e : b = it := by simpa using hb
    subst e
    obtain ⟨ok, ov, e⟩ := st
    exact ⟨_, e, fun v z => nomatch z⟩
  keep := fun i h h' st k => let ⟨ok, ov, e⟩ := st; ⟨ok, ov, k it (by simp) _ e⟩
  item := by
    intro X hP hw hK hc i pins s σ H E I hf st hg
    subst hP hw hK
    obtain ⟨hd, hi⟩ := hg
    obtain ⟨hs, hgd, hx, es', ep', hdt, hsz, ent⟩ := Inv.frzT2 I hd
    obtain ⟨rfl, rfl⟩ := dict_ep hod hdt
    obtain ⟨⟨k, v⟩, hkv⟩ : ∃ p, kvs[i]? = some p := ⟨kvs[i], List.getElem?_eq_getElem hi⟩
    obtain ⟨en, q, hen, hkey, hq, ru⟩ := ent i k v hkv
    obtain ⟨ok, ov, he⟩ := st
    have hlt : it < s.heap.objs.size := Heap.lt_size he
    have hie : i < es'.size := by omega
    have e0 : es'[i] = en := by
      rw [Array.getElem?_eq_getElem hie] at hen
      exact Option.some.inj hen
    refine wpAny_pyNext_items_item_raw he ⟨o, hgd, hx, hdt⟩ hie fun h' ho hT hz hk => ?_
    rw [e0, hkey] at hT
    refine ⟨_, rfl, wpAny_letOwnedTupleGo_items (s := { s with heap := h' }) ho fun h'' he' sb => ?_⟩
    have hT2 : h''.get? s.heap.objs.size = some { cls := .type "tuple", data := .seq #[.ref q, en.val] } := (sb.2 _ (Nat.ne_of_gt hlt)).trans hT
    have new : ObjOk X.prog X.w (upd H s.heap.objs.size (.tup [.ref q, v])) h'' s.heap.objs.size (.tup [.ref q, v]) :=
      ⟨by show 2 ≤ sizeLine; decide, [.ref q, en.val], .cons rfl (.cons ru .nil), ⟨_, hT2, rfl, _, rfl⟩⟩
    have I1 : Inv X pins σ (upd H s.heap.objs.size (.tup [.ref q, v])) { s with heap := h'' } :=
      I.turnedNew (t' := s.toks) (ch := [it]) (fun b ob hb e => (sb.2 b (by simpa using hb)).trans (hk b ob (by simpa using hb) e)) hf (Nat.le_refl _) new
    refine ⟨.ref s.heap.objs.size, _, I1, rfl, ⟨_, k, v, q, hkv, rfl, hq, I.hok.fresh (Nat.le_refl _), rfl⟩, ⟨_, _, he'⟩, fun b hb => ?_⟩
    have e : b = it := by simpa using hb
    rw [e, upd_ne (Nat.ne_of_lt hlt)]
    exact (hf it (by simp)).1
  done := by
    intro X hP hw hK hc i pins s σ H E I hf st hg
    subst hP hw hK
    obtain ⟨hd, hi⟩ := hg
    obtain ⟨f0, f1, f2, f3, f4, f5⟩ := hf it (by simp)
    obtain ⟨hs, hgd, hx, es', ep', hdt, hsz, ent⟩ := Inv.frzT2 I hd
    obtain ⟨rfl, rfl⟩ := dict_ep hod hdt
    obtain ⟨ok, ov, he⟩ := st
    exact wpAny_pyNext_items_end_raw (I.ok.hd hc) he ⟨o, hgd, hx, hdt⟩ (by omega) fun h' eb => ⟨rfl, I.turned (t' := s.toks) (fun b ob hb e => eb b ob hb e) f0 f1 f3 f4 f5⟩
  self := fun A i s Q E st h => let ⟨_, _, e⟩ := st; PySem.W.kcp_self e h
def iItemsT (td : TE) : TI := fun σ H R => td σ H fun x H1 => ∃ d o kvs, x = .ref d ∧ H1 d = some (.frz o (.dT kvs)) ∧ R (ItiT d o kvs) H1
theorem pi_itemsT {e : Expr} {td : TE} {apos cpos : Pos} {elts : List Expr} {kk : Nat} {tpos : Pos} (he : PE X e td) (hbase : attributeBase e "items" X.env (eval e X.env) = eval e X.env := by rfl) (hline : (apos.endLine == cpos.line) = true := by rfl) :
    PI X (.Tuple elts kk tpos) (.Call (.Attribute e "items" apos) [] [] cpos) (iItemsT td) := by
  refine ⟨fun pins s σ H R I h => ?_⟩
  refine wpAny_Call_method (T := "dict") (id := "dict.items") hbase rfl hline PySem.F.plainAttrs_dict PySem.F.slot_dict_items PySem.F.type_dict_items (thn (he.run pins s σ H _ I h) fun u s1 ⟨x, H1, I1, rx, d, o, kvs, ex, hd, q⟩ => ?_)
  subst ex
  obtain rfl : u = Value.ref d := rx
  obtain ⟨hs, hgd, hx, es, ep, hdt, hsz, ent⟩ := Inv.frzT2 I1 hd
  have raw : s1.heap.DictRaw d es ep := ⟨o, hgd, hx, hdt⟩
  refine ⟨raw.typeIs, fun b e => by cases e; exact ⟨o, hgd, hx.2.1⟩, ?_⟩
  have I2 : Inv X pins σ H1 { s1 with heap := s1.heap.push { cls := .type "dict_items", data := .fields #[.ref d] } } := I1.kept (t' := s1.toks) fun b ob q => Heap.get?_push_of_some _ q
  have fin : wpAny (model X.prog X.w) X.A (pyIter (.ref s1.heap.objs.size)) (PIE X pins σ (.Tuple elts kk tpos) R) X.xe { s1 with heap := s1.heap.push { cls := .type "dict_items", data := .fields #[.ref d] } } := by
    refine wpAny_pyIter_items_raw (d := d) (es := es) (ep := ep) ⟨_, Heap.get?_push_size _ rfl, rfl, rfl⟩ (raw.at fun o e => Heap.get?_push_of_some _ e) (pi_one (tk := s1.toks) I2 _ (turn_itemsT (o := o) (es := es) (ep := ep) _ hdt) ⟨.none, .none, ?_⟩ q)
    exact Heap.get?_push_size _ rfl
  show wpAny _ _ (callWith cpos (.builtin "dict.items") [.ref d] [] []) _ X.xe s1
  exact method_meetsIn PySem.F.slot_dict_items PySem.F.entry_dict_items rfl (PySem.evalArgs_none ⟨rfl, raw.typeIs, PySem.F.args_dict_items_1 _, _, meets_dict_items_raw d hs, ⟨es, ep, raw⟩, fin⟩)

/-! ### sum(d.values()) -/
def valsO (p d : Addr) : HO := .ext fun h => h.IsValuesView p d
theorem valsO_ok {P : Program} {w : World} {H : Hp} {h : Heap} {p d : Addr} (e : h.get? p = some { cls := .type "dict_values", data := .fields #[.ref d] }) : ObjOk P w H h p (valsO p d) :=
  ⟨⟨_, e, rfl, rfl⟩, ⟨_, e⟩, fun h1 h2 x k => let ⟨o, ho, r⟩ := x; ⟨o, k o ho, r⟩⟩
def rValsT : V → List V → Hp → VK → Prop := fun x xs H Q => ∃ (a : Addr) (kvs : List (List Key × V)), x = .ref a ∧ xs = [] ∧ H a = some (.dT kvs) ∧ ∀ p, H p = none → Q (.ref p) (upd H p (valsO p a))
theorem dt_raw {P : Program} {w : World} {H : Hp} {h : Heap} {a : Addr} {kvs : List (List Key × V)} (ok : HOk P w H h) (e : H a = some (.dT kvs)) :
    (a == sysModules) = false ∧ ∃ es ep, h.DictRaw a es ep ∧ es.size = kvs.length ∧ ∀ (i : Nat) (k : List Key) (v : V), kvs[i]? = some (k, v) → ∃ en, es[i]? = some en ∧ RelV v en.val := by
  obtain ⟨z, hs, xs, pr, o, es, ep, ho, hx, hdt, he, _⟩ := (show ObjOk P w H h a (.dT kvs) from ok a _ e)
  refine ⟨hs, es, ep, ⟨o, ho, hx, hdt⟩, ?_, fun i k v e => ?_⟩
  · have l1 : es.size = xs.length := size_of_entries he
    have l2 : kvs.length = xs.length := Paired.length pr
    omega
  · obtain ⟨b, hb, e1, e2, e3⟩ := paired_get pr e
    have q := entry_at he i
    rw [hb] at q
    exact ⟨_, q, e3⟩
theorem mt_valuesT : MtR X "dict.values" rValsT := by
  intro pins s σ H x xs v us Q I rx rxs h
  obtain ⟨a, kvs, rfl, rfl, ha, q⟩ := h
  cases rx
  cases rxs
  obtain ⟨hd, es, ep, raw, _⟩ := dt_raw I.hok ha
  refine call_meetsIn PySem.F.slot_dict_values raw.typeIs PySem.F.entry_dict_values (PySem.F.args_dict_values_1 _) (meets_dict_values_raw a hd) ⟨⟨es, ep, raw⟩, ?_⟩
  have hf : H s.heap.objs.size = none := I.hok.fresh (Nat.le_refl _)
  exact ⟨.ref s.heap.objs.size, upd H s.heap.objs.size (valsO s.heap.objs.size a), I.laid (t' := s.toks) (fun b u e => Heap.get?_push_of_some _ e) (Nat.le_refl _) (valsO_ok (Heap.get?_push_size _ rfl)), rfl, q _ hf⟩
theorem preSum_ints (ns : List Int) : ∀ n, n ≤ ns.length → preSum (fun j => ns.getD j 0) n = (ns.take n).sum
  | 0, _ => rfl
  | n + 1, h => by
    have hx : ns[n]? = some ns[n] := List.getElem?_eq_getElem (by omega)
    show preSum (fun j => ns.getD j 0) n + ns.getD n 0 = _
    rw [preSum_ints ns n (by omega), List.take_add_one, hx, List.sum_append, List.getD_eq_getElem?_getD, hx]
    simp
def rSumVT : List V → Hp → VK → Prop := fun vs H Q => ∃ (p a : Addr) (kvs : List (List Key × V)) (ns : List Int), vs = [.ref p] ∧ H p = some (valsO p a) ∧ H a = some (.dT kvs) ∧ kvs.map (·.2) = ns.map V.int ∧ Q (.int ns.sum) H
theorem cr_sumVT (hc : X.calm = true) : CallR X (.builtin "sum") rSumVT := by
  intro pins s σ H vs us Q I r h
  obtain ⟨p, a, kvs, ns, rfl, hp, ha, hn, q⟩ := h
  rw [Vals.ref1 r]
  obtain ⟨hd, es, ep, raw, hsz, ent⟩ := dt_raw I.hok ha
  have hv : s.heap.IsValuesView p a := (show ObjOk X.prog X.w H s.heap p (valsO p a) from I.hok p _ hp).1
  have hl : kvs.length = ns.length := by
    have := congrArg List.length hn
    rw [List.length_map, List.length_map] at this
    exact this
  have hla : a < s.heap.objs.size := by obtain ⟨o, ho, _⟩ := raw; exact Heap.lt_size ho
  have hh : X.A.in1.handled = none := I.ok.hd hc
  refine call_sum_walkAnyS (wpAny_pyIter_values_raw hv raw ?_)
  refine ⟨_, _, _, _, _, _, _, fun j => ns.getD j 0, rfl, (Walks.rawValues hh s.heap.objs.size a (Nat.ne_of_lt hla) es ep).toS, ⟨⟨_, Heap.get?_push_size _ rfl, rfl, rfl⟩, raw.at fun o e => Heap.get?_push_of_some _ e⟩, fun b hb => ?_, fun i v hv => ?_, fun s' t' hm => ?_⟩
  · have hz : (s.heap.push { cls := .type "dict_valueiterator", data := .fields #[.ref a, .int 0 0, .int es.size 0, .int ep 0] }).objs.size = s.heap.objs.size + 1 := Heap.size_push ..
    show b < (s.heap.push { cls := .type "dict_valueiterator", data := .fields #[.ref a, .int 0 0, .int es.size 0, .int ep 0] }).objs.size
    rw [hz]
    rcases List.mem_cons.mp hb with rfl | hb
    · exact Nat.lt_succ_self _
    · rw [List.mem_singleton.mp hb]; exact Nat.lt_succ_of_lt hla
  · obtain ⟨hi, rfl⟩ := hv
    have hik : i < kvs.length := by omega
    obtain ⟨en, hen, re⟩ := ent i kvs[i].1 kvs[i].2 (by rw [List.getElem?_eq_getElem hik])
    rw [Array.getElem?_eq_getElem hi] at hen
    have e1 := Option.some.inj hen
    have e2 : kvs[i].2 = .int ns[i] := by
      have h1 : (kvs.map (·.2))[i]? = (ns.map V.int)[i]? := by rw [hn]
      rw [List.getElem?_map, List.getElem?_map, List.getElem?_eq_getElem hik, List.getElem?_eq_getElem (by omega)] at h1
      exact Option.some.inj h1
    rw [e2] at re
    obtain ⟨t, et⟩ := re
    refine ⟨t, ?_⟩
    rw [e1, et]
    show Value.int ns[i] t = Value.int (ns.getD i 0) t
    rw [List.getD_eq_getElem?_getD, List.getElem?_eq_getElem (by omega)]; rfl
  · have e3 : preSum (fun j => ns.getD j 0) es.size = ns.sum := by
      rw [preSum_ints ns es.size (by omega), List.take_of_length_le (by omega)]
    rw [e3]
    rw [Moved.eq_with hm]
    exact ⟨.int _, H, I.kept (t' := s'.toks) fun b o e => hm.heap b o (fun hmem => Nat.ne_of_lt (Heap.lt_size e) (List.mem_singleton.mp hmem)) (Heap.get?_push_of_some _ e), ⟨_, rfl⟩, q⟩
end
end Iv
/-! Iv25: rows of dicts, by cells; what count_only reckons. -/
namespace Iv
open PySem L2 PySem.Spec PyProof.Rows
/-! ### several objects of one's own -/
def ptX (ds : List Addr) (xs : List HO) : List Cell := List.zipWith .pt ds xs
theorem ptX_get : ∀ {ds : List Addr} {xs : List HO} {j : Nat} {d : Addr} {x : HO}, ds[j]? = some d → xs[j]? = some x → (ptX ds xs).Perm (.pt d x :: ptX (ds.eraseIdx j) (xs.eraseIdx j))
  | [], _, _, _, _, h, _ => by simp at h
  | _ :: _, [], _, _, _, _, h => by simp at h
  | d' :: ds, x' :: xs, 0, d, x, h, h' => by
    have e1 : d' = d := by simpa using h
    have e2 : x' = x := by simpa using h'
    subst e1 e2
    exact .refl _
  | d' :: ds, x' :: xs, j + 1, d, x, h, h' => (List.Perm.cons _ (ptX_get (ds := ds) (xs := xs) (j := j) (by simpa using h) (by simpa using h'))).trans (.swap _ _ _)
theorem eraseIdx_set {α : Type} : ∀ (xs : List α) (j : Nat) (y : α), (xs.set j y).eraseIdx j = xs.eraseIdx j
  | [], _, _ => rfl
  | _ :: _, 0, _ => rfl
  | x :: xs, j + 1, y => congrArg (x :: ·) (eraseIdx_set xs j y)
section
variable {g : Cfg} {H : Hp} {cs : List Cell} {ds : List Addr} {xs : List HO} {j : Nat} {d : Addr} {x y : HO}
theorem W.getX (w : W g H (ptX ds xs ++ cs)) (hd : ds[j]? = some d) (hx : xs[j]? = some x) : H d = some x :=
  (w.perm ((ptX_get hd hx).append_right cs)).read
theorem W.setX (w : W g H (ptX ds xs ++ cs)) (hd : ds[j]? = some d) (hx : xs[j]? = some x) : W g (upd H d y) (ptX ds (xs.set j y) ++ cs) := by
  have w1 : W g H (.pt d x :: (ptX (ds.eraseIdx j) (xs.eraseIdx j) ++ cs)) := w.perm ((ptX_get hd hx).append_right cs)
  have w2 := w1.write (y := y)
  have hx2 : (xs.set j y)[j]? = some y := by
    rw [List.getElem?_set_self (List.getElem?_eq_some_iff.mp hx).1]
  refine w2.perm ?_
  have p := (ptX_get hd hx2).symm.append_right cs
  rw [eraseIdx_set] at p
  exact p
/-- a row of new empty dicts is opened -/
theorem W.openDs : ∀ {n : Nat} {vs : List V} {cs : List Cell}, vs.length = n → W g H (zipO vs (List.replicate n (.dct true [])) ++ cs) → ∃ ds : List Addr, vs = ds.map .ref ∧ ds.length = n ∧ W g H (ptX ds (List.replicate n (.dT [])) ++ cs)
  | 0, [], cs, _, w => ⟨[], rfl, rfl, w⟩
  | n + 1, v :: vs, cs, l, w => by
    have w1 : W g H (.c v (.dct true []) :: (zipO vs (List.replicate n (.dct true [])) ++ cs)) := w
    obtain ⟨p, us, x, rfl, lu, hd, w2⟩ := w1.openD
    obtain ⟨ks, rfl, al, lk⟩ := hd
    cases al
    have w3 : W g H (zipO vs (List.replicate n (.dct true [])) ++ (.pt p (.dT []) :: cs)) := by
      have e : us = [] := List.length_eq_zero_iff.mp lu
      subst e
      have w2' : W g H (.pt p (.dT []) :: (zipO vs (List.replicate n (.dct true [])) ++ cs)) := w2
      exact w2'.perm List.perm_middle.symm
    obtain ⟨ds, rfl, ld, w4⟩ := W.openDs (by simpa using l) w3
    exact ⟨p :: ds, rfl, by rw [List.length_cons, ld], w4.perm List.perm_middle⟩
  | 0, _ :: _, _, l, _ => by simp at l
  | _ + 1, [], _, l, _ => by simp at l
end

/-! ### what is reckoned -/
abbrev Rw := List ((Int × Int) × Int)
def putA (r : Rw) (k : Int × Int) (m : Int) : Rw := if r.any fun e => decide (e.1 = k) then r.map fun e => if e.1 = k then (e.1, m) else e else r ++ [(k, m)]
def getA (r : Rw) (k : Int × Int) : Option Int := (r.find? fun e => decide (e.1 = k)).map (·.2)
def foldO {α β : Type} (f : β → α → Option β) : β → List α → Option β
  | b, [] => some b
  | b, a :: r => (f b a).bind fun b' => foldO f b' r
theorem foldO_step {α β : Type} {f : β → α → Option β} {b : β} {xs : List α} {i : Nat} {x : α} (hx : xs[i]? = some x) : foldO f b (xs.drop i) = (f b x).bind fun b' => foldO f b' (xs.drop (i + 1)) := by
  obtain ⟨h, e⟩ := List.getElem?_eq_some_iff.mp hx
  rw [List.drop_eq_getElem_cons h, e]; rfl
/-- one later: the rows behind it -/
def coL (primes : List Int) (size : Nat) (last : Int × Int) (many : Int) (rows : List Rw) (later : Nat) : Option (List Rw) :=
  (primes[later]?).bind fun p =>
    let ways := p - ([last.1, last.2].count (later : Int) : Nat)
    if 0 < ways then (rows[size + later]?).bind fun row =>
      if mulOk many ways && decide (row.length < sizeT) then some (rows.set (size + later) (putA row (last.2, later) ((getA row (last.2, later)).getD 0 + many * ways))) else none
    else some rows
def coI (primes : List Int) (s size : Nat) (rows : List Rw) (e : (Int × Int) × Int) : Option (List Rw) := foldO (coL primes size e.1 e.2) rows ((List.range (s - size)).map (· + 1))
def coS (primes : List Int) (s : Nat) (rows : List Rw) (size : Nat) : Option (List Rw) := (rows[size]?).bind fun row => foldO (coI primes s size) rows row
def countRows (primes : List Int) (s : Nat) : Option Int :=
  (foldO (coS primes s) ((List.replicate (s + 1) ([] : Rw)).set 0 [((0, 0), 1)]) (List.range s)).bind fun rows => (rows[s]?).map fun row => (row.map (·.2)).sum
/-! ### .. and as the dicts hold it -/
def kP (k : Int × Int) : List Key := [.inl k.1, .inl k.2]
def rK (r : Rw) : List (List Key × V) := r.map fun e => (kP e.1, .int e.2)
theorem kP_inj {a b : Int × Int} : kP a = kP b ↔ a = b := by
  unfold kP
  constructor
  · intro h
    injection h with h1 h2
    injection h2 with h3 _
    injection h1 with h1
    injection h3 with h3
    exact Prod.ext h1 h3
  · intro h; rw [h]
theorem rK_any (k : Int × Int) : ∀ r : Rw, ((rK r).any fun kv => decide (kv.1 = kP k)) = r.any fun e => decide (e.1 = k)
  | [] => rfl
  | e :: r => by
    show (decide (kP e.1 = kP k) || (rK r).any _) = _
    rw [rK_any k r, List.any_cons]
    congr 1
    exact decide_eq_decide.mpr kP_inj
theorem rK_put (r : Rw) (k : Int × Int) (m : Int) : putK (rK r) (kP k) (.int m) = rK (putA r k m) := by
  unfold putK putA
  rw [rK_any]
  split
  · unfold rK
    rw [List.map_map, List.map_map]
    refine List.map_congr_left fun e _ => ?_
    show (if kP e.1 = kP k then (kP e.1, V.int m) else (kP e.1, V.int e.2)) = _
    show _ = (kP (if e.1 = k then (e.1, m) else e).1, V.int (if e.1 = k then (e.1, m) else e).2)
    by_cases h : e.1 = k
    · rw [if_pos (kP_inj.mpr h), if_pos h]
    · rw [if_neg (fun z => h (kP_inj.mp z)), if_neg h]
  · unfold rK
    rw [List.map_append]; rfl
theorem rK_get (k : Int × Int) : ∀ r : Rw, valV (rK r) (kP k) = (getA r k).map V.int
  | [] => rfl
  | e :: r => by
    by_cases h : e.1 = k
    · rw [show rK (e :: r) = (kP e.1, V.int e.2) :: rK r from rfl, valV_pos (show (kP e.1, V.int e.2).1 = kP k from kP_inj.mpr h)]
      unfold getA
      rw [List.find?_cons, decide_eq_true h]; rfl
    · rw [show rK (e :: r) = (kP e.1, V.int e.2) :: rK r from rfl, valV_neg (show ¬ (kP e.1, V.int e.2).1 = kP k from fun z => h (kP_inj.mp z)), rK_get k r]
      unfold getA
      rw [List.find?_cons, decide_eq_false h]
theorem rK_len (r : Rw) : (rK r).length = r.length := by unfold rK; rw [List.length_map]
theorem kP_V (k : Int × Int) : (kP k).map kV = [.int k.1, .int k.2] := rfl
end Iv
/-! Iv26: dicts whose keys are tuples of any depth. -/
namespace Iv
open PySem L2 PySem.Spec PyProof.Rows
mutual
/-- the value is such a key, by the tracked heap -/
def NKv (H : Hp) : NestedKey → V → Prop
  | .none, v => v = .non
  | .num i, v => v = .int i ∨ ∃ b, v = .bl b ∧ i = if b = true then 1 else 0
  | .text x, v => v = .str x
  | .tup ks, v => ∃ q vs, v = .ref q ∧ Rd H q (.tup vs) ∧ NKs H ks vs
def NKs (H : Hp) : List NestedKey → List V → Prop
  | [], vs => vs = []
  | k :: ks, vs => ∃ v r, vs = v :: r ∧ NKv H k v ∧ NKs H ks r
end
mutual
theorem NKv.is {P : Program} {w : World} {H : Hp} {h : Heap} (ok : HOk P w H h) : ∀ (k : NestedKey) (v : V) (u : Value), NKv H k v → RelV v u → NestedIs h k u
  | .none, _, u, e, r => by
    have e' : _ = V.non := e
    rw [e'] at r
    have e2 : u = Value.none := r
    rw [e2]
    exact .none
  | .num i, v, u, e, r => by
    rcases (show v = .int i ∨ ∃ b, v = .bl b ∧ i = if b = true then 1 else 0 from e) with e | ⟨b, e, hb⟩
    · rw [e] at r
      obtain ⟨t, rfl⟩ := r
      exact .int i t
    · rw [e] at r
      have e2 : u = Value.bool b := r
      rw [e2]
      exact .bool hb
  | .text x, v, u, e, r => by
    have e' : v = V.str x := e
    rw [e'] at r
    obtain ⟨t, rfl⟩ := r
    exact .text x t
  | .tup ks, v, u, ⟨q, vs, e, hq, hk⟩, r => by
    rw [e] at r
    have e2 : u = Value.ref q := r
    rw [e2]
    obtain ⟨_, its, rv, o, h1, h2, n, h3⟩ := (show ObjOk P w H h q (.tup vs) from rd_of ok hq)
    exact .tup h1 h2 h3 (by simpa using NKs.is ok ks vs its hk rv)
theorem NKs.is {P : Program} {w : World} {H : Hp} {h : Heap} (ok : HOk P w H h) : ∀ (ks : List NestedKey) (vs : List V) (us : List Value), NKs H ks vs → Vals vs us → NestedAll h ks us
  | [], _, us, e, r => by
    have e' : _ = [] := e
    rw [e'] at r
    cases r
    exact .nil
  | k :: ks, _, us, ⟨v, rest, e, h1, h2⟩, r => by
    rw [e] at r
    cases r with
    | cons ra rb => exact .cons (NKv.is ok k v _ h1 ra) (NKs.is ok ks rest _ h2 rb)
end
abbrev NKV := NestedKey × Addr × V
abbrev KN : List NKV → List (NestedKey × Addr × Value) → Prop := Paired fun p q => p.1 = q.1 ∧ p.2.1 = q.2.1 ∧ RelV p.2.2 q.2.2
def dN (P : Program) (w : World) (a : Addr) (kvs : List NKV) : HO := .ext fun h => kvs.length ≤ sizeLine ∧ (a == sysModules) = false ∧ ∃ xs, KN kvs xs ∧
  ∃ o es ep, h.get? a = some o ∧ o.ExactDict ∧ o.data = .dict es ep ∧ es.toList = xs.map (entryOfKey (nestedKind P w)) ∧ (xs.map (·.1)).Nodup
def valN (kvs : List NKV) (k : NestedKey) : Option V := (kvs.find? fun x => decide (x.1 = k)).map (·.2.2)
def putN (kvs : List NKV) (k : NestedKey) (q : Addr) (v : V) : List NKV := if (kvs.any fun x => decide (x.1 = k)) = true then kvs.map fun x => if x.1 = k then (x.1, x.2.1, v) else x else kvs ++ [(k, q, v)]
/-- its keys stand -/
def NKeys (H : Hp) (kvs : List NKV) : Prop := ∀ e ∈ kvs, NKv H e.1 (.ref e.2.1) ∧ e.1.depth ≤ 8
theorem putN_len (kvs : List NKV) (k : NestedKey) (q : Addr) (v : V) : (putN kvs k q v).length ≤ kvs.length + 1 := by
  unfold putN
  split
  · rw [List.length_map]; omega
  · rw [List.length_append]; simp
theorem KN.at {kvs : List NKV} {xs : List (NestedKey × Addr × Value)} (r : KN kvs xs) (k : NestedKey) : RelO (valN kvs k) ((atKey xs k).map (·.2)) := by
  induction r with
  | nil => trivial
  | @cons p q ps qs h t ih =>
    obtain ⟨h1, h2, h3⟩ := h
    by_cases e : p.1 = k
    · have e' : q.1 = k := h1.symm.trans e
      have a : valN (p :: ps) k = some p.2.2 := by simp [valN, List.find?_cons, e]
      have b : atKey (q :: qs) k = some q.2 := by simp [atKey, List.find?_cons, e']
      rw [a, b]; exact h3
    · have e' : ¬ q.1 = k := fun z => e (h1.trans z)
      have a : valN (p :: ps) k = valN ps k := by simp [valN, List.find?_cons, e]
      have b : atKey (q :: qs) k = atKey qs k := by simp [atKey, List.find?_cons, e']
      rw [a, b]; exact ih
theorem valN_any (k : NestedKey) : ∀ kvs : List NKV, (kvs.any fun x => decide (x.1 = k)) = (valN kvs k).isSome
  | [] => rfl
  | p :: kvs => by
    rw [List.any_cons, valN_any k kvs]
    unfold valN
    rw [List.find?_cons]
    by_cases e : p.1 = k
    · rw [decide_eq_true e]; rfl
    · rw [decide_eq_false e]; rfl
theorem KN.put {kvs : List NKV} {xs : List (NestedKey × Addr × Value)} (r : KN kvs xs) (k : NestedKey) {q : Addr} {v : V} {u : Value} (rv : RelV v u) : KN (putN kvs k q v) (storedH xs k q u) := by
  have e : (kvs.any fun x => decide (x.1 = k)) = (atKey xs k).isSome := by
    rw [valN_any, (r.at k).isSome_eq, Option.isSome_map]
  unfold putN storedH
  rw [e]
  by_cases z : (atKey xs k).isSome = true
  · rw [if_pos z, if_pos z]
    clear e z
    induction r with
    | nil => exact .nil
    | @cons p s ps ss h t ih =>
      rw [List.map_cons, List.map_cons]
      refine .cons ?_ ih
      obtain ⟨h1, h2, h3⟩ := h
      unfold putAt
      by_cases e : p.1 = k
      · rw [if_pos e, if_pos (h1.symm.trans e)]; exact ⟨h1, h2, rv⟩
      · rw [if_neg e, if_neg (fun z => e (h1.trans z))]; exact ⟨h1, h2, h3⟩
  · rw [if_neg z, if_neg z]
    exact Paired.snoc r ⟨rfl, rfl, rv⟩
section
variable {P : Program} {w : World} {H : Hp} {h : Heap} {a : Addr} {kvs : List NKV}
theorem NKeys.all (ok : HOk P w H h) {xs : List (NestedKey × Addr × Value)} (r : KN kvs xs) (hk : NKeys H kvs) : ∀ x ∈ xs, (nestedKind P w).is h x.1 x.2.1 := by
  induction r with
  | nil => intro x hx; exact nomatch hx
  | @cons p q ps qs hq t ih =>
    intro x hx
    rcases List.mem_cons.mp hx with e | hx
    · subst e
      obtain ⟨h1, h2, _⟩ := hq
      obtain ⟨k1, k2⟩ := hk p List.mem_cons_self
      rw [← h1, ← h2]
      exact ⟨k1.is ok _ _ _ rfl, k2⟩
    · exact ih (fun e he => hk e (List.mem_cons_of_mem _ he)) x hx
theorem dn_rd (ok : HOk P w H h) (e : Rd H a (dN P w a kvs)) (hk : NKeys H kvs) : kvs.length ≤ sizeLine ∧ (a == sysModules) = false ∧ ∃ xs, KN kvs xs ∧ h.DictOfH (nestedKind P w) a xs := by
  obtain ⟨⟨z, y, xs, r, o, es, ep, h1, h2, h3, h4, h5⟩, _⟩ := (show ObjOk P w H h a (dN P w a kvs) from rd_of ok e)
  exact ⟨z, y, xs, r, o, es, ep, h1, h2, h3, h4, hk.all ok r, h5⟩
theorem dn_ok {xs : List (NestedKey × Addr × Value)} {o : Obj} {es : Array DictEntry} {ep : Nat} (z : kvs.length ≤ sizeLine) (y : (a == sysModules) = false) (r : KN kvs xs) (h1 : h.get? a = some o) (h2 : o.ExactDict) (h3 : o.data = .dict es ep)
    (h4 : es.toList = xs.map (entryOfKey (nestedKind P w))) (h5 : (xs.map (·.1)).Nodup) : ObjOk P w H h a (dN P w a kvs) :=
  ⟨⟨z, y, xs, r, o, es, ep, h1, h2, h3, h4, h5⟩, ⟨o, h1⟩, fun g1 g2 ⟨z, y, xs, r, o, es, ep, q1, q⟩ k => ⟨z, y, xs, r, o, es, ep, k o q1, q⟩⟩
end
def NGet (P : Program) (w : World) (H : Hp) (a : Addr) (y : V) (r : Option V) : Prop := ∃ kvs k q, Rd H a (dN P w a kvs) ∧ NKeys H kvs ∧ y = .ref q ∧ NKv H k (.ref q) ∧ k.depth ≤ 8 ∧ r = valN kvs k
def NPut (P : Program) (w : World) (H : Hp) (a : Addr) (y v : V) (H' : Hp) : Prop := ∃ kvs k q, H a = some (dN P w a kvs) ∧ NKeys H kvs ∧ y = .ref q ∧ NKv H k (.ref q) ∧ k.depth ≤ 8 ∧ kvs.length < sizeLine ∧ H' = upd H a (dN P w a (putN kvs k q v))
section
variable {X : Cx} {pins : List (Addr × Obj)} {σ : L2.St} {H : Hp} {s : Shared} {a : Addr} {y v d : V} {u r : Value} {o : Option V} {A : Around} {E : Value → Shared → Prop} {pos : Pos}
theorem pe_dnewN : PE X (.Dict [] [] pos) (fun σ H Q => ∀ p, H p = none → Q (.ref p) (upd H p (dN X.prog X.w p []))) := ⟨fun pins s σ H Q I h =>
  wpAny_Dict_empty ⟨.ref s.heap.objs.size, _, I.laid (a := s.heap.objs.size) (o := dN X.prog X.w s.heap.objs.size []) (t' := s.toks) (fun _ _ q => Heap.get?_push_of_some _ q) (Nat.le_refl _)
    (dn_ok (xs := []) (Nat.zero_le _) (beq_eq_false_iff_ne.mpr (Ne.symm (Nat.ne_of_lt I.big))) .nil (Heap.get?_push_size _ rfl) ⟨rfl, rfl, rfl⟩ rfl rfl List.nodup_nil), rfl, h _ (I.hok.fresh (Nat.le_refl _))⟩⟩
theorem n_get2 {Q : Value → Shared → Prop} (hu : A.units + 20 < cLine) (I : Inv X pins σ H s) (g : NGet X.prog X.w H a y o) (ry : RelV y u) (rd : RelV d r) (h : ∀ w' s', Inv X pins σ H s' → RelV (o.getD d) w' → Q w' s') :
    wpAny (model X.prog X.w) A (call (.builtin "dict.get") [.ref a, u, r]) Q E s := by
  obtain ⟨kvs, k, q, e, hk, rfl, kq, kd, l⟩ := g
  cases (show u = Value.ref q from ry)
  obtain ⟨z, hd, xs, rel, dd⟩ := dn_rd I.hok e hk
  refine call_meetsIn PySem.F.slot_dict_get dd.typeIs PySem.F.entry_dict_get (PySem.F.args_dict_get_3 _ _ _) (meetsH_dict_get_default (nestedKind X.prog X.w) a q hd r) ⟨?_, k, xs, ⟨kq.is I.hok _ _ _ rfl, kd⟩, dd, h _ _ (I.tok _) ?_⟩
  · show A.in1.units + 8 < cLine
    show A.units + 1 + 8 < cLine
    omega
  · rw [l]
    exact (rel.at k).getD rd
theorem n_setItem {H' : Hp} {Q : Unit → Shared → Prop} (hu : A.units + 20 < cLine) (I : Inv X pins σ H s) (g : NPut X.prog X.w H a y v H') (ry : RelV y u) (rv : RelV v r) (h : ∀ s', Inv X pins σ H' s' → Q () s') :
    wpAny (model X.prog X.w) A (setItem (.ref a) u r) Q E s := by
  obtain ⟨kvs, k, q, e, hk, rfl, kq, kd, l, rfl⟩ := g
  cases (show u = Value.ref q from ry)
  obtain ⟨z, hd, xs, rel, dd⟩ := dn_rd I.hok (.inl e) hk
  have hz : xs.length ≤ sizeLine := by rw [← Paired.length rel]; exact z
  have hl : (putN kvs k q v).length ≤ sizeLine := by have := putN_len kvs k q v; omega
  refine wpAny_setItem_heap (hsz := hz) (knd := nestedKind X.prog X.w) ?_ ⟨kq.is I.hok _ _ _ rfl, kd⟩ dd fun h' dd' hs => h _ ?_
  · show A.units + 1 + 8 < cLine
    omega
  obtain ⟨ob, es, ep, hq, h2, h3, h4, _, h5⟩ := dd'
  exact d_write I (by rw [e]; exact True.intro) hs ⟨ob, hq⟩ (dn_ok hl hd (rel.put k rv) hq h2 h3 h4 h5)
end
end Iv
/-! Iv27: .. their expressions and statements; a tuple whose object is known. -/
namespace Iv
open PySem L2 PySem.Spec PyProof.Rows
def IsN (P : Program) (w : World) (H : Hp) (a : Addr) : Prop := ∃ kvs, Rd H a (dN P w a kvs)
theorem isN_at {X : Cx} {pins : List (Addr × Obj)} {σ : L2.St} {H : Hp} {s : Shared} {a : Addr} (I : Inv X pins σ H s) (d : IsN X.prog X.w H a) :
    s.TypeIs (.ref a) "dict" ∧ (∀ b, Value.ref a = .ref b → ∃ ob, s.heap.get? b = some ob ∧ ob.dict = none) := by
  obtain ⟨kvs, e⟩ := d
  obtain ⟨⟨z, y, xs, r, o, es, ep, h1, h2, h3, h4, h5⟩, _⟩ := (show ObjOk X.prog X.w H s.heap a (dN X.prog X.w a kvs) from rd_of I.hok e)
  exact ⟨⟨o, h1, h2.1⟩, fun b q => by cases q; exact ⟨o, h1, h2.2.1⟩⟩
def tNGet2 (P : Program) (w : World) (td ty tx : TE) : TE := fun σ H Q => td σ H fun x H1 => ∃ a, x = .ref a ∧ IsN P w H1 a ∧ ty σ H1 fun y H2 => tx σ H2 fun z H3 => ∃ o, NGet P w H3 a y o ∧ Q (o.getD z) H3
def sNPut (P : Program) (w : World) (td ty tv : TE) : TS := fun D σ H => tv σ H fun v H1 => td σ H1 fun x H2 => ty σ H2 fun y H3 => ∃ a H4, x = .ref a ∧ NPut P w H3 a y v H4 ∧ D.nx σ H4
section
variable {X : Cx} {o e f i value : Expr} {es : List Expr} {apos cpos pos pos' : Pos} {td ty tx tv : TE} {t : TA}
theorem pe_nget2 (hu : X.A.units + 40 < cLine) (ho : PE X o td) (he : PE X e ty) (hf : PE X f tx) (m : M2 X o "get" apos e f cpos) : PE X (.Call (.Attribute o "get" apos) [e, f] [] cpos) (tNGet2 X.prog X.w td ty tx) := by
  refine ⟨fun pins s σ H Q I h => ?_⟩
  refine wpAny_Call_method m.base m.few m.line PySem.F.plainAttrs_dict PySem.F.slot_dict_get PySem.F.type_dict_get (thn (ho.run pins s σ H _ I h) fun u s1 ⟨x, H1, I1, rx, a, ex, d, q1⟩ => ?_)
  subst ex
  obtain rfl : u = Value.ref a := rx
  obtain ⟨t1, t2⟩ := isN_at I1 d
  refine ⟨t1, t2, ?_⟩
  rw [m.trees]
  refine Calls.callWith_builtin rfl (Calls.evalArgs_plain (Calls.spliced_cons (thn (he.run pins s1 σ H1 _ I1 q1) fun iv s2 ⟨y, H2, I2, ry, q2⟩ =>
    Calls.spliced_cons (thn (hf.run pins s2 σ H2 _ I2 q2) fun fv s3 ⟨z, H3, I3, rz, ov, g, q3⟩ => Calls.spliced_nil ?_))))
  exact n_get2 (by omega) I3 g ry rz fun w' s4 I4 rw' => ⟨_, H3, I4, rw', q3⟩
theorem ps_nput (hu : X.A.units + 40 < cLine) (ho : PE X o td) (hi : PE X i ty) (hv : PE X value tv) (hs : swapsWith value (some (.Subscript o i pos')) pos.line X.env = pure false) :
    PS X (.Assign [.Subscript o i pos'] value pos) (sNPut X.prog X.w td ty tv) := by
  refine ⟨fun pins s σ H D I h => ?_⟩
  refine wpAny_Assign_Subscript (thn (hv.run pins s σ H _ I h) fun r s1 ⟨v, H1, I1, rv, q1⟩ => thn (ho.run pins s1 σ H1 _ I1 q1) fun u s2 ⟨x, H2, I2, rx, q2⟩ => thn (hi.run pins s2 σ H2 _ I2 q2) fun iv s3 ⟨y, H3, I3, ry, a, H4, ex, g, q3⟩ => ?_) hs
  subst ex
  obtain rfl : u = Value.ref a := rx
  exact n_setItem (by omega) I3 g ry rv fun s4 I4 => ⟨σ, H4, I4, q3⟩
/-! ### a tuple whose object is known -/
def TupF (H : Hp) (q : Addr) (vs : List V) : Prop := ∃ ob : Obj, ob.dict = none ∧ H q = some (.frz ob (.tup vs))
theorem TupF.rd {H : Hp} {q : Addr} {vs : List V} (h : TupF H q vs) : Rd H q (.tup vs) := let ⟨ob, _, e⟩ := h; .inr ⟨ob, e⟩
def tTupF (t : TA) : TE := fun σ H Q => t σ H fun xs H1 => xs.length ≤ sizeLine ∧ ∀ p ob, H1 p = none → ob.dict = none → Q (.ref p) (upd H1 p (.frz ob (.tup xs)))
theorem pe_tupF {x1 : Nat} (h : PA X es t) : PE X (.Tuple es x1 pos) (tTupF t) := by
  refine ⟨fun pins s σ H Q I hq => ?_⟩
  refine wpAny_Tuple_spliced (thn (h.run pos pins s σ H _ I hq) fun us s1 ⟨xs, H1, I1, r, z, q⟩ => ⟨by rw [← r.length]; exact z, ?_⟩)
  have hf : H1 s1.heap.objs.size = none := I1.hok.fresh (Nat.le_refl _)
  refine ⟨.ref s1.heap.objs.size, upd H1 s1.heap.objs.size (.frz { cls := .type "tuple", data := .seq us.toArray } (.tup xs)), I1.laid (t' := s1.toks) (fun b u e => Heap.get?_push_of_some _ e) (Nat.le_refl _) ?_, rfl, q _ _ hf rfl⟩
  exact ⟨Heap.get?_push_size _ rfl, z, us, r, ⟨_, Heap.get?_push_size _ rfl, rfl, _, rfl⟩⟩
def tTupM (r : V → List V → Hp → VK → Prop) (to : TE) (t : TA) : TE := fun σ H Q => to σ H fun x H1 => (∃ q vs, x = .ref q ∧ TupF H1 q vs) ∧ t σ H1 fun xs H2 => r x xs H2 Q
theorem pe_tupM {name : Str} {id : String} {r : V → List V → Hp → VK → Prop} {to : TE} (slot : Slot "tuple" name id) (hty : typeOf (.builtin id) = pure (.type "method_descriptor")) (hm : MtR X id r) (ho : PE X o to) (ha : PA X (e :: es) t)
    (hbase : attributeBase o name X.env (eval o X.env) = eval o X.env := by rfl)
    (hfew : ((backTo cpos (starEach (e :: es) X.env)).all (fun x => !x.1) && (backToKw cpos (keywordEach [] X.env)).all (fun x => x.1.isSome)
      && decide ((e :: es).length + ([] : List Keyword).length + (if ([] : List Keyword).isEmpty then 0 else 1) < 30)) = true := by rfl)
    (hline : (apos.endLine == cpos.line) = true := by rfl) (hs : starEach (e :: es) X.env = (false, eval e X.env) :: starEach es X.env := by rfl) (hplain : (backTo cpos (starEach es X.env)).any (·.1) = false := by rfl) :
    PE X (.Call (.Attribute o name apos) (e :: es) [] cpos) (tTupM r to t) := by
  refine ⟨fun pins s σ H Q I h => ?_⟩
  refine wpAny_Call_method_late hbase hfew hline rfl (thn (ho.run pins s σ H _ I h) fun v s1 ⟨x, H1, I1, r1, ⟨q, vs, ex, ob, hdn, hq⟩, q1⟩ => ?_)
  subst ex
  obtain rfl : v = Value.ref q := r1
  obtain ⟨hg, _, its, rv, o2, h1, h2, n, h3⟩ := (show ObjOk X.prog X.w H1 s1.heap q (.frz ob (.tup vs)) from I1.hok q _ hq)
  rw [hg] at h1
  cases h1
  refine ⟨"tuple", id, PySem.F.plainAttrs_tuple, slot, hty, ⟨ob, hg, h2⟩, fun b eb => by cases eb; exact ⟨ob, hg, hdn⟩, ?_⟩
  have hA := ha.run cpos pins s1 σ H1 _ I1 q1
  rw [hs] at hA ⊢
  refine Calls.callWith_builtin (by show (false || (backTo cpos (starEach es X.env)).any (·.1)) = false; rw [hplain] <;> rfl) (Calls.evalArgs_plain ?_)
  exact thn hA fun us s2 ⟨ws, H2, I2, r2, q2⟩ => hm pins s2 σ H2 (.ref q) ws (.ref q) us Q I2 rfl r2 q2
/-! ### items of a locked dict -/
theorem Inv.frzN {pins : List (Addr × Obj)} {σ : L2.St} {H : Hp} {s : Shared} {d : Addr} {o : Obj} {kvs : List NKV} (I : Inv X pins σ H s) (h : H d = some (.frz o (dN X.prog X.w d kvs))) :
    (d == sysModules) = false ∧ s.heap.get? d = some o ∧ o.ExactDict ∧ ∃ (es : Array DictEntry) (ep : Nat), o.data = .dict es ep ∧ es.size = kvs.length ∧
      ∀ (i : Nat) (x : NKV), kvs[i]? = some x → ∃ (en : DictEntry), es[i]? = some en ∧ en.key = .ref x.2.1 ∧ RelV x.2.2 en.val := by
  obtain ⟨hd, ⟨z, hs, xs, pr, o', es, ep, ho, hx, hdt, he, _⟩, _⟩ := (show ObjOk X.prog X.w H s.heap d (.frz o (dN X.prog X.w d kvs)) from I.hok d _ h)
  rw [hd] at ho
  cases ho
  refine ⟨hs, hd, hx, es, ep, hdt, ?_, fun i x e => ?_⟩
  · have l1 : es.size = xs.length := size_of_entries he
    have l2 : kvs.length = xs.length := Paired.length pr
    omega
  · obtain ⟨b, hb, e1, e2, e3⟩ := paired_get pr e
    have q := entry_at he i
    rw [hb] at q
    exact ⟨_, q, by rw [e2]; rfl, e3⟩
/-- the pairs, each a new tuple: the key's own tuple, the value -/
def ItiN (P : Program) (w : World) (d : Addr) (o : Obj) (kvs : List NKV) : It :=
  ⟨fun i H => H d = some (.frz o (dN P w d kvs)) ∧ i < kvs.length, fun i H x H' => ∃ (T : Addr) (y : NKV), kvs[i]? = some y ∧ x = .ref T ∧ H T = none ∧ H' = upd H T (.tup [.ref y.2.1, y.2.2]),
    fun i H => H d = some (.frz o (dN P w d kvs)) ∧ kvs.length ≤ i⟩
theorem turn_itemsN {P : Program} {w : World} {K : PySem.W.Frag} {d : Addr} {o : Obj} {es : Array DictEntry} {ep : Nat} {kvs : List NKV} {elts : List Expr} {kk : Nat} {tpos : Pos} (it : Addr) (hod : o.data = .dict es ep) :
    Turn P w K (.Tuple elts kk tpos) (ItiN P w d o kvs) [it] it (fun i h => ∃ ok ov, IsItemIter h it d i es.size ep ok ov) where
  mem := by simp
  obj := fun i h st b hb => by
    have e : b = it := by simpa using hb
    subst e
    obtain ⟨ok, ov, e⟩ := st
    exact ⟨_, e, fun v z => nomatch z⟩
  keep := fun i h h' st k => let ⟨ok, ov, e⟩ := st; ⟨ok, ov, k it (by simp) _ e⟩
  item := by
    intro X hP hw hK hc i pins s σ H E I hf st hg
    subst hP hw hK
    obtain ⟨hd, hi⟩ := hg
    obtain ⟨hs, hgd, hx, es', ep', hdt, hsz, ent⟩ := Inv.frzN I hd
    obtain ⟨rfl, rfl⟩ := dict_ep hod hdt
    obtain ⟨y, hy⟩ : ∃ p, kvs[i]? = some p := ⟨kvs[i], List.getElem?_eq_getElem hi⟩
    obtain ⟨en, hen, hkey, ru⟩ := ent i y hy
    obtain ⟨ok, ov, he⟩ := st
    have hlt : it < s.heap.objs.size := Heap.lt_size he
    have hie : i < es'.size := by omega
    have e0 : es'[i] = en := by
      rw [Array.getElem?_eq_getElem hie] at hen
      exact Option.some.inj hen
    refine wpAny_pyNext_items_item_raw he ⟨o, hgd, hx, hdt⟩ hie fun h' ho hT hz hk => ?_
    rw [e0, hkey] at hT
    refine ⟨_, rfl, wpAny_letOwnedTupleGo_items (s := { s with heap := h' }) ho fun h'' he' sb => ?_⟩
    have hT2 : h''.get? s.heap.objs.size = some { cls := .type "tuple", data := .seq #[.ref y.2.1, en.val] } := (sb.2 _ (Nat.ne_of_gt hlt)).trans hT
    have new : ObjOk X.prog X.w (upd H s.heap.objs.size (.tup [.ref y.2.1, y.2.2])) h'' s.heap.objs.size (.tup [.ref y.2.1, y.2.2]) :=
      ⟨by show 2 ≤ sizeLine; decide, [.ref y.2.1, en.val], .cons rfl (.cons ru .nil), ⟨_, hT2, rfl, _, rfl⟩⟩
    have I1 : Inv X pins σ (upd H s.heap.objs.size (.tup [.ref y.2.1, y.2.2])) { s with heap := h'' } :=
      I.turnedNew (t' := s.toks) (ch := [it]) (fun b ob hb e => (sb.2 b (by simpa using hb)).trans (hk b ob (by simpa using hb) e)) hf (Nat.le_refl _) new
    refine ⟨.ref s.heap.objs.size, _, I1, rfl, ⟨_, y, hy, rfl, I.hok.fresh (Nat.le_refl _), rfl⟩, ⟨_, _, he'⟩, fun b hb => ?_⟩
    have e : b = it := by simpa using hb
    rw [e, upd_ne (Nat.ne_of_lt hlt)]
    exact (hf it (by simp)).1
  done := by
    intro X hP hw hK hc i pins s σ H E I hf st hg
    subst hP hw hK
    obtain ⟨hd, hi⟩ := hg
    obtain ⟨f0, f1, f2, f3, f4, f5⟩ := hf it (by simp)
    obtain ⟨hs, hgd, hx, es', ep', hdt, hsz, ent⟩ := Inv.frzN I hd
    obtain ⟨rfl, rfl⟩ := dict_ep hod hdt
    obtain ⟨ok, ov, he⟩ := st
    exact wpAny_pyNext_items_end_raw (I.ok.hd hc) he ⟨o, hgd, hx, hdt⟩ (by omega) fun h' eb => ⟨rfl, I.turned (t' := s.toks) (fun b ob hb e => eb b ob hb e) f0 f1 f3 f4 f5⟩
  self := fun A i s Q E st h => let ⟨_, _, e⟩ := st; PySem.W.kcp_self e h
def iItemsN (P : Program) (w : World) (td : TE) : TI := fun σ H R => td σ H fun x H1 => ∃ d o kvs, x = .ref d ∧ H1 d = some (.frz o (dN P w d kvs)) ∧ R (ItiN P w d o kvs) H1
theorem pi_itemsN {elts : List Expr} {kk : Nat} {tpos : Pos} (he : PE X e td) (hbase : attributeBase e "items" X.env (eval e X.env) = eval e X.env := by rfl) (hline : (apos.endLine == cpos.line) = true := by rfl) :
    PI X (.Tuple elts kk tpos) (.Call (.Attribute e "items" apos) [] [] cpos) (iItemsN X.prog X.w td) := by
  refine ⟨fun pins s σ H R I h => ?_⟩
  refine wpAny_Call_method (T := "dict") (id := "dict.items") hbase rfl hline PySem.F.plainAttrs_dict PySem.F.slot_dict_items PySem.F.type_dict_items (thn (he.run pins s σ H _ I h) fun u s1 ⟨x, H1, I1, rx, d, o, kvs, ex, hd, q⟩ => ?_)
  subst ex
  obtain rfl : u = Value.ref d := rx
  obtain ⟨hs, hgd, hx, es, ep, hdt, hsz, ent⟩ := Inv.frzN I1 hd
  have raw : s1.heap.DictRaw d es ep := ⟨o, hgd, hx, hdt⟩
  refine ⟨raw.typeIs, fun b e => by cases e; exact ⟨o, hgd, hx.2.1⟩, ?_⟩
  have I2 : Inv X pins σ H1 { s1 with heap := s1.heap.push { cls := .type "dict_items", data := .fields #[.ref d] } } := I1.kept (t' := s1.toks) fun b ob q => Heap.get?_push_of_some _ q
  have fin : wpAny (model X.prog X.w) X.A (pyIter (.ref s1.heap.objs.size)) (PIE X pins σ (.Tuple elts kk tpos) R) X.xe { s1 with heap := s1.heap.push { cls := .type "dict_items", data := .fields #[.ref d] } } := by
    refine wpAny_pyIter_items_raw (d := d) (es := es) (ep := ep) ⟨_, Heap.get?_push_size _ rfl, rfl, rfl⟩ (raw.at fun o e => Heap.get?_push_of_some _ e) (pi_one (tk := s1.toks) I2 _ (turn_itemsN (o := o) (es := es) (ep := ep) _ hdt) ⟨.none, .none, ?_⟩ q)
    exact Heap.get?_push_size _ rfl
  show wpAny _ _ (callWith cpos (.builtin "dict.items") [.ref d] [] []) _ X.xe s1
  exact method_meetsIn PySem.F.slot_dict_items PySem.F.entry_dict_items rfl (PySem.evalArgs_none ⟨rfl, raw.typeIs, PySem.F.args_dict_items_1 _, _, meets_dict_items_raw d hs, ⟨es, ep, raw⟩, fin⟩)
/-! ### sum(d.values()) -/
theorem dn_raw {P : Program} {w : World} {H : Hp} {h : Heap} {a : Addr} {kvs : List NKV} (ok : HOk P w H h) (e : H a = some (dN P w a kvs)) :
    (a == sysModules) = false ∧ ∃ es ep, h.DictRaw a es ep ∧ es.size = kvs.length ∧ ∀ (i : Nat) (x : NKV), kvs[i]? = some x → ∃ en, es[i]? = some en ∧ RelV x.2.2 en.val := by
  obtain ⟨⟨z, hs, xs, pr, o, es, ep, ho, hx, hdt, he, _⟩, _⟩ := (show ObjOk P w H h a (dN P w a kvs) from ok a _ e)
  refine ⟨hs, es, ep, ⟨o, ho, hx, hdt⟩, ?_, fun i k e => ?_⟩
  · have l1 : es.size = xs.length := size_of_entries he
    have l2 : kvs.length = xs.length := Paired.length pr
    omega
  · obtain ⟨b, hb, e1, e2, e3⟩ := paired_get pr e
    have q := entry_at he i
    rw [hb] at q
    exact ⟨_, q, e3⟩
def tValsN (P : Program) (w : World) (to : TE) : TE := fun σ H Q => to σ H fun x H1 => ∃ a kvs, x = .ref a ∧ H1 a = some (dN P w a kvs) ∧ ∀ p, H1 p = none → Q (.ref p) (upd H1 p (valsO p a))
theorem pe_valsN {to : TE} (ho : PE X o to) (hbase : attributeBase o "values" X.env (eval o X.env) = eval o X.env := by rfl) (hline : (apos.endLine == cpos.line) = true := by rfl) : PE X (.Call (.Attribute o "values" apos) [] [] cpos) (tValsN X.prog X.w to) := by
  refine ⟨fun pins s σ H Q I h => ?_⟩
  refine wpAny_Call_method (T := "dict") (id := "dict.values") hbase rfl hline PySem.F.plainAttrs_dict PySem.F.slot_dict_values PySem.F.type_dict_values (thn (ho.run pins s σ H _ I h) fun u s1 ⟨x, H1, I1, rx, a, kvs, ex, ha, q⟩ => ?_)
  subst ex
  obtain rfl : u = Value.ref a := rx
  obtain ⟨t1, t2⟩ := isN_at I1 ⟨kvs, .inl ha⟩
  obtain ⟨hd, es, ep, raw, _⟩ := dn_raw I1.hok ha
  refine ⟨t1, t2, ?_⟩
  have hf : H1 s1.heap.objs.size = none := I1.hok.fresh (Nat.le_refl _)
  show wpAny _ _ (callWith cpos (.builtin "dict.values") [.ref a] [] []) _ X.xe s1
  exact method_meetsIn PySem.F.slot_dict_values PySem.F.entry_dict_values rfl (PySem.evalArgs_none ⟨rfl, raw.typeIs, PySem.F.args_dict_values_1 _, _, meets_dict_values_raw a hd, ⟨es, ep, raw⟩,
    ⟨.ref s1.heap.objs.size, upd H1 s1.heap.objs.size (valsO s1.heap.objs.size a), I1.laid (t' := s1.toks) (fun b u e => Heap.get?_push_of_some _ e) (Nat.le_refl _) (valsO_ok (Heap.get?_push_size _ rfl)), rfl, q _ hf⟩⟩)
def rSumVN (P : Program) (w : World) : List V → Hp → VK → Prop := fun vs H Q => ∃ (p a : Addr) (kvs : List NKV) (ns : List Int), vs = [.ref p] ∧ H p = some (valsO p a) ∧ H a = some (dN P w a kvs) ∧ kvs.map (·.2.2) = ns.map V.int ∧ Q (.int ns.sum) H
theorem cr_sumVN (hc : X.calm = true) : CallR X (.builtin "sum") (rSumVN X.prog X.w) := by
  intro pins s σ H vs us Q I r h
  obtain ⟨p, a, kvs, ns, rfl, hp, ha, hn, q⟩ := h
  rw [Vals.ref1 r]
  obtain ⟨hd, es, ep, raw, hsz, ent⟩ := dn_raw I.hok ha
  have hv : s.heap.IsValuesView p a := (show ObjOk X.prog X.w H s.heap p (valsO p a) from I.hok p _ hp).1
  have hl : kvs.length = ns.length := by
    have := congrArg List.length hn
    rw [List.length_map, List.length_map] at this
    exact this
  have hla : a < s.heap.objs.size := by obtain ⟨o, ho, _⟩ := raw; exact Heap.lt_size ho
  have hh : X.A.in1.handled = none := I.ok.hd hc
  refine call_sum_walkAnyS (wpAny_pyIter_values_raw hv raw ?_)
  refine ⟨_, _, _, _, _, _, _, fun j => ns.getD j 0, rfl, (Walks.rawValues hh s.heap.objs.size a (Nat.ne_of_lt hla) es ep).toS, ⟨⟨_, Heap.get?_push_size _ rfl, rfl, rfl⟩, raw.at fun o e => Heap.get?_push_of_some _ e⟩, fun b hb => ?_, fun i v hv => ?_, fun s' t' hm => ?_⟩
  · have hz : (s.heap.push { cls := .type "dict_valueiterator", data := .fields #[.ref a, .int 0 0, .int es.size 0, .int ep 0] }).objs.size = s.heap.objs.size + 1 := Heap.size_push ..
    show b < (s.heap.push { cls := .type "dict_valueiterator", data := .fields #[.ref a, .int 0 0, .int es.size 0, .int ep 0] }).objs.size
    rw [hz]
    rcases List.mem_cons.mp hb with rfl | hb
    · exact Nat.lt_succ_self _
    · rw [List.mem_singleton.mp hb]; exact Nat.lt_succ_of_lt hla
  · obtain ⟨hi, rfl⟩ := hv
    have hik : i < kvs.length := by omega
    obtain ⟨en, hen, re⟩ := ent i kvs[i] (by rw [List.getElem?_eq_getElem hik])
    rw [Array.getElem?_eq_getElem hi] at hen
    have e1 := Option.some.inj hen
    have e2 : kvs[i].2.2 = .int ns[i] := by
      have h1 : (kvs.map (·.2.2))[i]? = (ns.map V.int)[i]? := by rw [hn]
      rw [List.getElem?_map, List.getElem?_map, List.getElem?_eq_getElem hik, List.getElem?_eq_getElem (by omega)] at h1
      exact Option.some.inj h1
    rw [e2] at re
    obtain ⟨t, et⟩ := re
    refine ⟨t, ?_⟩
    rw [e1, et]
    show Value.int ns[i] t = Value.int (ns.getD i 0) t
    rw [List.getD_eq_getElem?_getD, List.getElem?_eq_getElem (by omega)]; rfl
  · have e3 : preSum (fun j => ns.getD j 0) es.size = ns.sum := by
      rw [preSum_ints ns es.size (by omega), List.take_of_length_le (by omega)]
    rw [e3]
    rw [Moved.eq_with hm]
    exact ⟨.int _, H, I.kept (t' := s'.toks) fun b o e => hm.heap b o (fun hmem => Nat.ne_of_lt (Heap.lt_size e) (List.mem_singleton.mp hmem)) (Heap.get?_push_of_some _ e), ⟨_, rfl⟩, q⟩
end
end Iv
/-! Iv28: rows of dicts with pairs of ints for keys, over Iv26; reading a cell's list of ints. -/
namespace Iv
open PySem L2 PySem.Spec PyProof.Rows
abbrev RwA := List ((Int × Int) × Addr × Int)
def nkP (k : Int × Int) : NestedKey := .tup [.num k.1, .num k.2]
def rN (r : RwA) : List NKV := r.map fun e => (nkP e.1, e.2.1, .int e.2.2)
def stripA (r : RwA) : Rw := r.map fun e => (e.1, e.2.2)
def putAA (r : RwA) (k : Int × Int) (q : Addr) (m : Int) : RwA := if r.any fun e => decide (e.1 = k) then r.map fun e => if e.1 = k then (e.1, e.2.1, m) else e else r ++ [(k, q, m)]
theorem nkP_inj {a b : Int × Int} : nkP a = nkP b ↔ a = b := by
  unfold nkP
  constructor
  · intro h
    injection h with h
    injection h with h1 h2
    injection h1 with h1
    injection h2 with h3 _
    injection h3 with h3
    exact Prod.ext h1 h3
  · intro h; rw [h]
theorem nkP_depth (k : Int × Int) : (nkP k).depth ≤ 8 := by
  simp [nkP, NestedKey.depth, NestedKey.depthAll]
theorem rN_any (k : Int × Int) : ∀ r : RwA, ((rN r).any fun x => decide (x.1 = nkP k)) = r.any fun e => decide (e.1 = k)
  | [] => rfl
  | e :: r => by
    show (decide (nkP e.1 = nkP k) || (rN r).any _) = _
    rw [rN_any k r, List.any_cons]
    congr 1
    exact decide_eq_decide.mpr nkP_inj
theorem strip_any (k : Int × Int) : ∀ r : RwA, ((stripA r).any fun e => decide (e.1 = k)) = r.any fun e => decide (e.1 = k)
  | [] => rfl
  | e :: r => by
    show (decide (e.1 = k) || (stripA r).any _) = _
    rw [strip_any k r, List.any_cons]
theorem rN_put (r : RwA) (k : Int × Int) (q : Addr) (m : Int) : putN (rN r) (nkP k) q (.int m) = rN (putAA r k q m) := by
  unfold putN putAA
  rw [rN_any]
  split
  · unfold rN
    rw [List.map_map, List.map_map]
    refine List.map_congr_left fun e _ => ?_
    show (if nkP e.1 = nkP k then (nkP e.1, e.2.1, V.int m) else (nkP e.1, e.2.1, V.int e.2.2)) = _
    show _ = (nkP (if e.1 = k then (e.1, e.2.1, m) else e).1, (if e.1 = k then (e.1, e.2.1, m) else e).2.1, V.int (if e.1 = k then (e.1, e.2.1, m) else e).2.2)
    by_cases h : e.1 = k
    · rw [if_pos (nkP_inj.mpr h), if_pos h]
    · rw [if_neg (fun z => h (nkP_inj.mp z)), if_neg h]
  · unfold rN
    rw [List.map_append]; rfl
theorem strip_put (r : RwA) (k : Int × Int) (q : Addr) (m : Int) : stripA (putAA r k q m) = putA (stripA r) k m := by
  unfold putA putAA
  rw [strip_any]
  split
  · unfold stripA
    rw [List.map_map, List.map_map]
    refine List.map_congr_left fun e _ => ?_
    show ((if e.1 = k then (e.1, e.2.1, m) else e).1, (if e.1 = k then (e.1, e.2.1, m) else e).2.2) = (if e.1 = k then (e.1, m) else (e.1, e.2.2))
    by_cases h : e.1 = k
    · rw [if_pos h, if_pos h]
    · rw [if_neg h, if_neg h]
  · unfold stripA
    rw [List.map_append]; rfl
theorem rN_get (k : Int × Int) : ∀ r : RwA, valN (rN r) (nkP k) = (getA (stripA r) k).map V.int
  | [] => rfl
  | e :: r => by
    show ((((nkP e.1, e.2.1, V.int e.2.2) :: rN r).find? fun x => decide (x.1 = nkP k)).map (·.2.2)) = ((((e.1, e.2.2) :: stripA r).find? fun x => decide (x.1 = k)).map (·.2)).map V.int
    rw [List.find?_cons, List.find?_cons]
    by_cases h : e.1 = k
    · rw [decide_eq_true (nkP_inj.mpr h), decide_eq_true h]; rfl
    · rw [decide_eq_false (fun z => h (nkP_inj.mp z)), decide_eq_false h]
      exact rN_get k r
theorem strip_len (r : RwA) : (stripA r).length = r.length := by unfold stripA; rw [List.length_map]
theorem rN_len (r : RwA) : (rN r).length = r.length := by unfold rN; rw [List.length_map]
/-- the keys' tuples stand, as they were laid -/
def KeysF (H : Hp) (r : RwA) : Prop := ∀ e ∈ r, TupF H e.2.1 [.int e.1.1, .int e.1.2]
theorem pairK {H : Hp} {q : Addr} {k : Int × Int} (h : TupF H q [.int k.1, .int k.2]) : NKv H (nkP k) (.ref q) := ⟨q, _, rfl, h.rd, _, _, rfl, .inl rfl, _, _, rfl, .inl rfl, rfl⟩
theorem KeysF.n {H : Hp} {r : RwA} (h : KeysF H r) : NKeys H (rN r) := fun e he => by
  obtain ⟨x, hx, rfl⟩ := List.mem_map.mp he
  exact ⟨pairK (h x hx), nkP_depth _⟩
theorem TupF.fresh {H : Hp} {q p : Addr} {vs : List V} {x : HO} (h : TupF H q vs) (hp : H p = none) : TupF (upd H p x) q vs := let ⟨ob, hd, e⟩ := h; ⟨ob, hd, by rw [upd_ne (ne_of_none e hp)]; exact e⟩
theorem TupF.other {H : Hp} {q p : Addr} {vs : List V} {x y : HO} (h : TupF H q vs) (hp : H p = some y) (hy : ∀ ob us, y ≠ .frz ob (.tup us)) : TupF (upd H p x) q vs := let ⟨ob, hd, e⟩ := h; ⟨ob, hd, by
  rw [upd_ne (fun z => hy ob vs (by rw [z, hp] at e; exact Option.some.inj e))]; exact e⟩
theorem KeysF.fresh {H : Hp} {r : RwA} {p : Addr} {x : HO} (h : KeysF H r) (hp : H p = none) : KeysF (upd H p x) r := fun e he => (h e he).fresh hp
theorem KeysF.other {H : Hp} {r : RwA} {p : Addr} {x y : HO} (h : KeysF H r) (hp : H p = some y) (hy : ∀ ob us, y ≠ .frz ob (.tup us)) : KeysF (upd H p x) r := fun e he => (h e he).other hp hy
theorem KeysF.put {H : Hp} {r : RwA} {k : Int × Int} {q : Addr} {m : Int} (h : KeysF H r) (hq : TupF H q [.int k.1, .int k.2]) : KeysF H (putAA r k q m) := fun e he => by
  unfold putAA at he
  split at he
  · obtain ⟨x, hx, rfl⟩ := List.mem_map.mp he
    have := h x hx
    split
    · exact this
    · exact this
  · rcases List.mem_append.mp he with he | he
    · exact h e he
    · rw [List.mem_singleton.mp he]; exact hq
section
variable {g : Cfg} {H : Hp} {cs : List Cell}
/-- a list of ints is read -/
theorem W.ints {v : V} {o : O} {ts : List T} {ns : List Int} (w : W g H (.c v o :: cs)) (e : o.toT1 = some (.lst ts)) (hn : T.ints ts = some ns) : ∃ a, v = .ref a ∧ H a = some (.lst (ns.map V.int)) := by
  obtain ⟨fp, nd, f1, f2, ee, h1, h2⟩ := w
  have r := h1.rd e
  obtain ⟨a, vs, rfl, hp, rr⟩ := r
  exact ⟨a, rfl, by rw [← rr.intsV hn]; exact hp⟩
/-- dicts of rows at their addresses -/
def xsN (P : Program) (w : World) (ds : List Addr) (rs : List RwA) : List HO := List.zipWith (fun d r => dN P w d (rN r)) ds rs
theorem xsN_get {P : Program} {w : World} : ∀ {ds : List Addr} {rs : List RwA} {j : Nat} {d : Addr} {r : RwA}, ds[j]? = some d → rs[j]? = some r → (xsN P w ds rs)[j]? = some (dN P w d (rN r))
  | [], _, _, _, _, h, _ => by simp at h
  | _ :: _, [], _, _, _, _, h => by simp at h
  | _ :: _, _ :: _, 0, _, _, h, h' => by
    have e1 := Option.some.inj h
    have e2 := Option.some.inj h'
    subst e1 e2; rfl
  | d' :: ds, r' :: rs, j + 1, d, r, h, h' => by
    show (xsN P w ds rs)[j]? = _
    exact xsN_get (by simpa using h) (by simpa using h')
theorem xsN_set {P : Program} {w : World} : ∀ {ds : List Addr} {rs : List RwA} {j : Nat} {d : Addr} {r : RwA}, ds[j]? = some d → j < rs.length → (xsN P w ds rs).set j (dN P w d (rN r)) = xsN P w ds (rs.set j r)
  | [], _, _, _, _, h, _ => by simp at h
  | _ :: _, [], _, _, _, _, h => by simp at h
  | _ :: _, _ :: _, 0, _, _, h, _ => by
    have e1 := Option.some.inj h
    subst e1; rfl
  | d' :: ds, r' :: rs, j + 1, d, r, h, h' => congrArg (dN P w d' (rN r') :: ·) (xsN_set (by simpa using h) (by simpa using h'))
end
end Iv
/-! Iv29: what the walk of count_only needs: its state, its steps at the heap. -/
namespace Iv
open PySem L2 PySem.Spec PyProof.Rows
def O.isNewD : O → Bool
  | .dct true [] => true
  | _ => false
theorem newDs : ∀ {os : List O}, os.all O.isNewD = true → os = List.replicate os.length (.dct true [])
  | [], _ => rfl
  | o :: os, h => by
    rw [List.all_cons, Bool.and_eq_true] at h
    have ih := newDs h.2
    have e : o = .dct true [] := by
      cases o with
      | dct tk kvs =>
        cases tk with
        | true => cases kvs with
          | nil => rfl
          | cons _ _ => exact absurd h.1 (by simp [O.isNewD])
        | false => exact absurd h.1 (by simp [O.isNewD])
      | _ => exact absurd h.1 (by simp [O.isNewD])
    rw [List.length_cons, List.replicate_succ, ← ih, e]
/-- the tail of count_only: from the primes and the empty rows to the sum -/
def coTail (τ : St) : SOut := match slot τ 1, slot τ 2, slot τ 3 with
  | some (.fz (.int s)), some p, some (.lst os) => match p.toT1 with
    | some (.lst ts) => match T.ints ts with
      | some ns => if decide (0 ≤ s) && decide (s < 1000) && os.all O.isNewD && (decide (os.length = s.toNat + 1) && decide (11 ≤ τ.length)) then match countRows ns s.toNat with
          | some total => .rt (.fz (.int total)) (τ.take 2 ++ List.replicate (τ.length - 2) none)
          | none => .stuck
        else .stuck
      | none => .stuck
    | _ => .stuck
  | _, _, _ => .stuck
section
variable {X : Cx} {g : Cfg} {H : Hp} {cs : List Cell} {ds : List Addr} {xs : List HO}
theorem W.fresh {p : Addr} {x : HO} (w : W g H cs) (hp : H p = none) : W g (upd H p x) cs := (w.lay hp).drop
theorem W.rd {R : Addr} {x : HO} {cs' : List Cell} (w : W g H (cs ++ .pt R x :: cs')) : H R = some x := (w.dropL).read
theorem retrack {pins : List (Addr × Obj)} {σ : L2.St} {s : Shared} {a : Addr} (I : Inv X pins σ H s) (h : H a = some (.dT [])) : Inv X pins σ (upd H a (dN X.prog X.w a [])) s := by
  obtain ⟨z, hs, xs, pr, o, es, ep, ho, hx, hdt, he, nd⟩ := (show ObjOk X.prog X.w H s.heap a (.dT []) from I.hok a _ h)
  cases pr
  exact I.write (x := a) (e := a) (t' := s.toks) (h' := s.heap) (by rw [h]; exact trivial) (.inl rfl) (fun b u _ q => q) ⟨o, ho⟩ (dn_ok (xs := []) (Nat.zero_le _) hs .nil ho hx hdt he List.nodup_nil)
/-- new dicts are told anew -/
theorem retracks {pins : List (Addr × Obj)} {σ : L2.St} {s : Shared} : ∀ {ds : List Addr} {H : Hp} {cs : List Cell}, Inv X pins σ H s → W g H (ptX ds (List.replicate ds.length (.dT [])) ++ cs) → ∃ H', Inv X pins σ H' s ∧ W g H' (ptX ds (xsN X.prog X.w ds (List.replicate ds.length [])) ++ cs)
  | [], H, cs, I, w => ⟨H, I, w⟩
  | d :: ds, H, cs, I, w => by
    have w1 : W g H (.pt d (.dT []) :: (ptX ds (List.replicate ds.length (.dT [])) ++ cs)) := w
    have I1 := retrack I w1.read
    have w2 := w1.write (y := dN X.prog X.w d [])
    obtain ⟨H', I', w3⟩ := retracks (cs := .pt d (dN X.prog X.w d []) :: cs) I1 (w2.perm List.perm_middle.symm)
    exact ⟨H', I', w3.perm List.perm_middle⟩
theorem pss_re {sts : List Stmt} {t : TS} (h : PSs X sts t) : PSs X sts (fun D σ H => ∃ (g : Cfg) (ds : List Addr) (cs : List Cell), W g H (ptX ds (List.replicate ds.length (.dT [])) ++ cs) ∧ ∀ H', W g H' (ptX ds (xsN X.prog X.w ds (List.replicate ds.length [])) ++ cs) → t D σ H') := ⟨fun pins s σ H D I ⟨g, ds, cs, w, k⟩ => by
  obtain ⟨H', I', w'⟩ := retracks I w
  exact h.run pins s σ H' D I' (k H' w')⟩
end
/-- the slots that stay: the two parameters, the primes, the rows -/
structure Sl (σ0 : L2.St) (s : Int) (vp : V) (R : Addr) (σ : L2.St) : Prop where
  l : σ.length = σ0.length
  s0 : σ[0]? = σ0[0]?
  s1 : σ[1]? = some (some (.int s))
  s2 : σ[2]? = some (some vp)
  s3 : σ[3]? = some (some (.ref R))
theorem Sl.set {σ0 : L2.St} {s : Int} {vp : V} {R : Addr} {σ : L2.St} (h : Sl σ0 s vp R σ) {i : Nat} (hi : 4 ≤ i) (x : Option V) : Sl σ0 s vp R (σ.set i x) :=
  ⟨by rw [List.length_set]; exact h.l, by rw [List.getElem?_set_ne (by omega)]; exact h.s0, by rw [List.getElem?_set_ne (by omega)]; exact h.s1, by rw [List.getElem?_set_ne (by omega)]; exact h.s2, by rw [List.getElem?_set_ne (by omega)]; exact h.s3⟩
theorem set_get {α : Type} {xs : List α} {i : Nat} {x : α} (h : i < xs.length) : (xs.set i x)[i]? = some x := List.getElem?_set_self h
end Iv
/-! Iv30: count_only, its tail's reading. -/
namespace Iv
open PySem L2 PySem.Spec PyProof.Rows
def coLater (X : Cx) : TS :=
  tSeq (tAsg (tOp (rI0 fun i j => .int (i - j)) (tOp (rIxL X.K) (tVar 2) (tVar 7)) (tTupM (rCntT X.K) (tVar 5) (tCons (tVar 7) tNil))) (gName 8))
            (tIfS (tTest (tOp (rI0 fun i j => .bl (decide (j < i))) (tVar 8) (tC (.int 0))))
              (tSeq (tAsg (tTupF (tCons (tOp (rIxT X.K) (tVar 5) (tC (.int 1))) (tCons (tVar 7) tNil))) (gName 9))
                (tSeq (tAsg (tOp (rIxL X.K) (tVar 3) (tOp (rI0 fun i j => .int (i + j)) (tVar 4) (tVar 7))) (gName 10))
                  (sNPut X.prog X.w (tVar 10) (tVar 9) (tOp (rI0 fun i j => .int (i + j)) (tNGet2 X.prog X.w (tVar 10) (tVar 9) (tC (.int 0))) (tOp (rI CMulW fun i j => .int (i * j)) (tVar 6) (tVar 8))))))
              tNext)
def coRead (X : Cx) : TS :=
  fun D σ H => ∃ (g : Cfg) (ds : List Addr) (cs : List Cell), W g H (ptX ds (List.replicate ds.length (.dT [])) ++ cs) ∧ ∀ H', W g H' (ptX ds (xsN X.prog X.w ds (List.replicate ds.length [])) ++ cs) →
  tSeq (sNPut X.prog X.w (tOp (rIxL X.K) (tVar 3) (tC (.int 0))) (tTupF (tCons (tC (.int 0)) (tCons (tC (.int 0)) tNil))) (tC (.int 1)))
   (tSeq (tFor (iRng1 (tCons (tVar 1) tNil)) (gName 4)
      (tLock (tFor (iItemsN X.prog X.w (tOp (rIxL X.K) (tVar 3) (tVar 4))) (gTup X.K 2 (gCons (gName 5) (gCons (gName 6) gNil)))
        (tFor (iRng2 (tCons (tC (.int 1)) (tCons (tOp (rI0 fun i j => .int (i + j)) (tOp (rI0 fun i j => .int (i - j)) (tVar 1) (tVar 4)) (tC (.int 1))) tNil))) (gName 7)
          (tSeq (tAsg (tOp (rI0 fun i j => .int (i - j)) (tOp (rIxL X.K) (tVar 2) (tVar 7)) (tTupM (rCntT X.K) (tVar 5) (tCons (tVar 7) tNil))) (gName 8))
            (tIfS (tTest (tOp (rI0 fun i j => .bl (decide (j < i))) (tVar 8) (tC (.int 0))))
              (tSeq (tAsg (tTupF (tCons (tOp (rIxT X.K) (tVar 5) (tC (.int 1))) (tCons (tVar 7) tNil))) (gName 9))
                (tSeq (tAsg (tOp (rIxL X.K) (tVar 3) (tOp (rI0 fun i j => .int (i + j)) (tVar 4) (tVar 7))) (gName 10))
                  (sNPut X.prog X.w (tVar 10) (tVar 9) (tOp (rI0 fun i j => .int (i + j)) (tNGet2 X.prog X.w (tVar 10) (tVar 9) (tC (.int 0))) (tOp (rI CMulW fun i j => .int (i * j)) (tVar 6) (tVar 8))))))
              tNext))))))
    (tRet (tCB (rSumVN X.prog X.w) (tCons (tValsN X.prog X.w (tOp (rIxL X.K) (tVar 3) (tVar 1))) tNil)))) D σ H'

/-! ### the state -/
section
variable {X : Cx} {g : Cfg} {H : Hp} {cs : List Cell} {ds : List Addr} {rs : List RwA}
def xsL (X : Cx) (ds : List Addr) (rs : List RwA) : Option (Nat × HO) → List HO
  | none => xsN X.prog X.w ds rs
  | some (z, x) => (xsN X.prog X.w ds rs).set z x
theorem xsN_len : ∀ {ds : List Addr} {rs : List RwA}, ds.length = rs.length → (xsN X.prog X.w ds rs).length = rs.length
  | [], [], _ => rfl
  | _ :: ds, _ :: rs, l => by
    show (xsN X.prog X.w ds rs).length + 1 = _
    rw [xsN_len (by simpa using l)]; rfl
  | [], _ :: _, l => by simp at l
  | _ :: _, [], l => by simp at l
theorem xsL_get {lk : Option (Nat × HO)} {j : Nat} {d : Addr} {r : RwA} (hj : ∀ z x, lk = some (z, x) → j ≠ z) (hd : ds[j]? = some d) (hr : rs[j]? = some r) : (xsL X ds rs lk)[j]? = some (dN X.prog X.w d (rN r)) := by
  cases lk with
  | none => exact xsN_get hd hr
  | some p =>
    obtain ⟨z, x⟩ := p
    show ((xsN X.prog X.w ds rs).set z x)[j]? = _
    rw [List.getElem?_set_ne (fun e => hj z x rfl e.symm)]
    exact xsN_get hd hr
theorem xsL_set {lk : Option (Nat × HO)} {j : Nat} {d : Addr} {r : RwA} (hj : ∀ z x, lk = some (z, x) → j ≠ z) (hd : ds[j]? = some d) (hr : j < rs.length) : (xsL X ds rs lk).set j (dN X.prog X.w d (rN r)) = xsL X ds (rs.set j r) lk := by
  cases lk with
  | none => exact xsN_set hd hr
  | some p =>
    obtain ⟨z, x⟩ := p
    show ((xsN X.prog X.w ds rs).set z x).set j _ = (xsN X.prog X.w ds (rs.set j r)).set z x
    rw [← xsN_set hd hr, List.set_comm _ _ (fun e => hj z x rfl e.symm)]
structure RS (X : Cx) (g : Cfg) (ds : List Addr) (cs : List Cell) (lk : Option (Nat × HO)) (rs : List RwA) (H : Hp) : Prop where
  l : ds.length = rs.length
  w : W g H (ptX ds (xsL X ds rs lk) ++ cs)
  k : ∀ r ∈ rs, KeysF H r
theorem RS.fresh {lk : Option (Nat × HO)} {p : Addr} {x : HO} (h : RS X g ds cs lk rs H) (hp : H p = none) : RS X g ds cs lk rs (upd H p x) := ⟨h.l, h.w.fresh hp, fun r hr => (h.k r hr).fresh hp⟩
theorem dN_ne {P : Program} {w : World} {a : Addr} {kvs : List NKV} (ob : Obj) (us : List V) : dN P w a kvs ≠ .frz ob (.tup us) := by
  unfold dN
  intro h
  cases h
theorem RS.dict {lk : Option (Nat × HO)} {j : Nat} {d : Addr} {r : RwA} (h : RS X g ds cs lk rs H) (hj : ∀ z x, lk = some (z, x) → j ≠ z) (hd : ds[j]? = some d) (hr : rs[j]? = some r) : H d = some (dN X.prog X.w d (rN r)) :=
  h.w.getX hd (xsL_get hj hd hr)
theorem RS.put {lk : Option (Nat × HO)} {j : Nat} {d q : Addr} {r : RwA} {k : Int × Int} {m : Int} (h : RS X g ds cs lk rs H) (hj : ∀ z x, lk = some (z, x) → j ≠ z) (hd : ds[j]? = some d) (hr : rs[j]? = some r) (hq : TupF H q [.int k.1, .int k.2]) (hl : r.length < sizeLine) :
    NPut X.prog X.w H d (.ref q) (.int m) (upd H d (dN X.prog X.w d (rN (putAA r k q m)))) ∧ RS X g ds cs lk (rs.set j (putAA r k q m)) (upd H d (dN X.prog X.w d (rN (putAA r k q m)))) := by
  have hD := h.dict hj hd hr
  have hlt : j < rs.length := (List.getElem?_eq_some_iff.mp hr).1
  refine ⟨⟨rN r, nkP k, q, hD, (h.k r (List.mem_of_getElem? hr)).n, rfl, pairK hq, nkP_depth _, by rw [rN_len]; exact hl, by rw [rN_put]⟩, ?_, ?_, fun r' hr' => ?_⟩
  · rw [List.length_set]; exact h.l
  · have w2 := h.w.setX (y := dN X.prog X.w d (rN (putAA r k q m))) hd (xsL_get hj hd hr)
    rw [xsL_set hj hd hlt] at w2
    exact w2
  · rcases List.mem_or_eq_of_mem_set hr' with e | e
    · exact (h.k r' e).other hD dN_ne
    · rw [e]
      exact ((h.k r (List.mem_of_getElem? hr)).put hq).other hD dN_ne
theorem atI_at {xs : List V} {j : Nat} {v : V} (h : xs[j]? = some v) : atI xs (j : Int) = some v := atI_nat h
theorem ref_at {j : Nat} {d : Addr} (h : ds[j]? = some d) : (ds.map V.ref)[j]? = some (.ref d) := by rw [List.getElem?_map, h]; rfl
/-- what cs tells -/
structure CsOk (g : Cfg) (ds : List Addr) (cs : List Cell) (R pa : Addr) (ns : List Int) : Prop where
  row : ∀ H xs, W g H (ptX ds xs ++ cs) → H R = some (.lst (ds.map .ref))
  pri : ∀ H xs, W g H (ptX ds xs ++ cs) → H pa = some (.lst (ns.map V.int))
end
end Iv
/-! Iv31: count_only: one turn of the innermost loop. -/
namespace Iv
open PySem L2 PySem.Spec PyProof.Rows
section
variable {X : Cx} {g : Cfg} {ds : List Addr} {cs : List Cell} {R pa q : Addr} {ns : List Int} {x0 : HO} {i : Nat}
theorem map_set {α β : Type} (f : α → β) : ∀ (xs : List α) (j : Nat) (x : α), (xs.set j x).map f = (xs.map f).set j (f x)
  | [], _, _ => rfl
  | _ :: _, 0, _ => rfl
  | y :: xs, j + 1, x => congrArg (f y :: ·) (map_set f xs j x)
theorem ite_t {A B : Prop} (h : A) : if true = true then A else B := by rw [if_pos rfl]; exact h
theorem ite_f {A B : Prop} (h : B) : if false = true then A else B := by rw [if_neg Bool.false_ne_true]; exact h
/-- the slots below n as they were -/
def Upto (n : Nat) (σ σ' : L2.St) : Prop := σ'.length = σ.length ∧ ∀ j, j < n → σ'[j]? = σ[j]?
theorem Upto.refl {n : Nat} {σ : L2.St} : Upto n σ σ := ⟨rfl, fun _ _ => rfl⟩
theorem Upto.set {n i : Nat} {σ σ' : L2.St} (h : Upto n σ σ') (hi : n ≤ i) (x : Option V) : Upto n σ (σ'.set i x) := ⟨by rw [List.length_set]; exact h.1, fun j hj => by rw [List.getElem?_set_ne (by omega)]; exact h.2 j hj⟩
theorem Upto.mono {n m : Nat} {σ σ' : L2.St} (h : Upto n σ σ') (hm : m ≤ n) : Upto m σ σ' := ⟨h.1, fun j hj => h.2 j (by omega)⟩
theorem Upto.trans {n : Nat} {σ σ' σ2 : L2.St} (h : Upto n σ σ') (k : Upto n σ' σ2) : Upto n σ σ2 := ⟨k.1.trans h.1, fun j hj => (k.2 j hj).trans (h.2 j hj)⟩
theorem later_ok (hC : CsOk g ds cs R pa ns) {rs : List RwA} {H : Hp} {σ : L2.St} {D : Ends} {a b m : Int} {later : Nat} {rows' : List Rw}
    (hR : RS X g ds cs (some (i, x0)) rs H) (hl : 11 ≤ σ.length) (h2 : σ[2]? = some (some (.ref pa))) (h3 : σ[3]? = some (some (.ref R))) (h4 : σ[4]? = some (some (.int i))) (h5 : σ[5]? = some (some (.ref q))) (h6 : σ[6]? = some (some (.int m))) (h7 : σ[7]? = some (some (.int later)))
    (h1 : 1 ≤ later) (hq : TupF H q [.int a, .int b]) (hs : coL ns i (a, b) m (rs.map stripA) later = some rows')
    (N : ∀ σ' rs' H', Upto 8 σ σ' → RS X g ds cs (some (i, x0)) rs' H' → rs'.map stripA = rows' → rs'[i]? = rs[i]? → TupF H' q [.int a, .int b] → D.nx σ' H') : coLater X D σ H := by
  have hz : ∀ z x, some (i, x0) = some (z, x) → i + later ≠ z := fun z x e => by cases e; omega
  unfold coL at hs
  obtain ⟨pr, hpr, hs⟩ := obind hs
  have hPr := hC.pri H _ hR.w
  have hRow := hC.row H _ hR.w
  have apr : (ns.map V.int)[later]? = some (.int pr) := by rw [List.getElem?_map, hpr]; rfl
  -- ways
  refine ⟨.ref pa, h2, .int later, h7, pa, _, later, .int pr, rfl, rfl, .inl (.inl hPr), atI_at apr, ?_⟩
  refine ⟨.ref q, h5, ⟨q, _, rfl, hq⟩, .int later, h7, q, [a, b], later, rfl, rfl, .inl hq.rd, ?_⟩
  refine ⟨pr, ([a, b].count (later : Int) : Nat), rfl, rfl, ?_⟩
  show gName 8 (V.int (pr - (([a, b].count (later : Int) : Nat) : Int))) σ H _
  have hs : (if 0 < pr - (([a, b].count (later : Int) : Nat) : Int) then ((rs.map stripA)[i + later]?).bind fun row =>
      if mulOk m (pr - (([a, b].count (later : Int) : Nat) : Int)) && decide (row.length < sizeT) then some ((rs.map stripA).set (i + later) (putA row (b, later) ((getA row (b, later)).getD 0 + m * (pr - (([a, b].count (later : Int) : Nat) : Int))))) else none
    else some (rs.map stripA)) = some rows' := hs
  generalize pr - (([a, b].count (later : Int) : Nat) : Int) = W8 at hs ⊢
  -- the test
  have g8 : (σ.set 8 (some (.int W8)))[8]? = some (some (.int W8)) := List.getElem?_set_self (by omega)
  refine ⟨_, g8, _, 0, rfl, rfl, _, rfl, ?_⟩
  have u8 : Upto 8 σ (σ.set 8 (some (.int W8))) := Upto.refl.set (Nat.le_refl _) _
  by_cases hw : 0 < W8
  · rw [if_pos hw] at hs
    rw [decide_eq_true hw]
    refine ite_t ?_
    obtain ⟨row, hrow, hs⟩ := obind hs
    obtain ⟨hc, hs⟩ := if_some hs
    obtain ⟨hm, hlen⟩ := and2 hc
    have hlen : row.length < sizeT := of_decide_eq_true hlen
    rw [List.getElem?_map] at hrow
    obtain ⟨r, hr, rfl⟩ := omap hrow
    -- key
    have v5 : (σ.set 8 (some (.int W8)))[5]? = some (some (.ref q)) := (u8.2 5 (by omega)).trans h5
    have v7 : (σ.set 8 (some (.int W8)))[7]? = some (some (.int later)) := (u8.2 7 (by omega)).trans h7
    refine ⟨.ref q, v5, q, _, 1, .int b, rfl, rfl, .inl hq.rd, rfl, .int later, v7, by show 2 ≤ sizeLine; decide, fun kq ob nk hob => ?_⟩
    have hkq : TupF (upd H kq (.frz ob (.tup [.int b, .int later]))) kq [.int b, .int later] := ⟨ob, hob, upd_same⟩
    have R1 := hR.fresh (x := .frz ob (.tup [.int b, .int later])) nk
    have q1 := hq.fresh (x := .frz ob (.tup [.int b, .int later])) nk
    generalize hH1 : upd H kq (.frz ob (.tup [.int b, .int later])) = H1 at hkq R1 q1 ⊢
    -- row
    have u9 : Upto 8 σ ((σ.set 8 (some (.int W8))).set 9 (some (.ref kq))) := u8.set (by omega) _
    generalize hσ9 : (σ.set 8 (some (.int W8))).set 9 (some (.ref kq)) = σ9 at u9
    have l9 : 11 ≤ σ9.length := by rw [u9.1]; exact hl
    have g9 : σ9[9]? = some (some (.ref kq)) := by rw [← hσ9]; exact List.getElem?_set_self (by rw [List.length_set]; omega)
    have g98 : σ9[8]? = some (some (.int W8)) := by rw [← hσ9, List.getElem?_set_ne (by omega)]; exact g8
    show tAsg (tOp (rIxL X.K) (tVar 3) (tOp (rI0 fun i j => .int (i + j)) (tVar 4) (tVar 7))) (gName 10) _ ((σ.set 8 (some (.int W8))).set 9 (some (.ref kq))) H1
    rw [hσ9]
    have hd2 : i + later < ds.length := by rw [R1.l]; exact (List.getElem?_eq_some_iff.mp hr).1
    have hd : ds[i + later]? = some ds[i + later] := List.getElem?_eq_getElem hd2
    refine ⟨.ref R, (u9.2 3 (by omega)).trans h3, .int i, (u9.2 4 (by omega)).trans h4, .int later, (u9.2 7 (by omega)).trans h7, i, later, rfl, rfl, R, _, ((i + later : Nat) : Int), .ref ds[i + later], rfl, ?_, .inl (.inl (hC.row H1 _ R1.w)), atI_at (ref_at hd), ?_⟩
    · show V.int ((i : Int) + (later : Int)) = V.int ((i + later : Nat) : Int)
      rw [Int.natCast_add]
    generalize hd0 : ds[i + later] = d2 at hd
    have u10 : Upto 8 σ (σ9.set 10 (some (.ref d2))) := u9.set (by omega) _
    generalize hσ10 : σ9.set 10 (some (.ref d2)) = σ10 at u10
    have g10 : σ10[10]? = some (some (.ref d2)) := by rw [← hσ10]; exact List.getElem?_set_self (by omega)
    have g109 : σ10[9]? = some (some (.ref kq)) := by rw [← hσ10, List.getElem?_set_ne (by omega)]; exact g9
    have g108 : σ10[8]? = some (some (.int W8)) := by rw [← hσ10, List.getElem?_set_ne (by omega)]; exact g98
    show sNPut X.prog X.w (tVar 10) (tVar 9) (tOp (rI0 fun i j => .int (i + j)) (tNGet2 X.prog X.w (tVar 10) (tVar 9) (tC (.int 0))) (tOp (rI CMulW fun i j => .int (i * j)) (tVar 6) (tVar 8))) _ (σ9.set 10 (some (.ref d2))) H1
    rw [hσ10]
    have hD := R1.dict hz hd hr
    -- row.get(key, 0) + many * ways
    refine ⟨.ref d2, g10, d2, rfl, ⟨_, .inl hD⟩, .ref kq, g109, _, ⟨rN r, nkP (b, (later : Int)), kq, .inl hD, (R1.k r (List.mem_of_getElem? hr)).n, rfl, pairK hkq, nkP_depth _, rfl⟩, ?_⟩
    rw [rN_get]
    refine ⟨.int m, (u10.2 6 (by omega)).trans h6, .int W8, g108, m, W8, rfl, rfl, mulOk_w hm, (getA (stripA r) (b, (later : Int))).getD 0, m * W8, ?_, rfl, ?_⟩
    · cases getA (stripA r) (b, (later : Int)) <;> rfl
    -- the store
    have hl2 : r.length < sizeLine := by rw [← size_eq, ← strip_len]; exact hlen
    obtain ⟨np, R2⟩ := R1.put (k := (b, (later : Int))) (q := kq) (m := (getA (stripA r) (b, (later : Int))).getD 0 + m * W8) hz hd hr hkq hl2
    refine ⟨.ref d2, g10, .ref kq, g109, d2, _, rfl, np, N _ _ _ u10 R2 ?_ ?_ (q1.other hD dN_ne)⟩
    · rw [map_set, strip_put]
      have hs : (rs.map stripA).set (i + later) (putA (stripA r) (b, (later : Int)) ((getA (stripA r) (b, (later : Int))).getD 0 + m * W8)) = rows' := hs
      exact hs
    · rw [List.getElem?_set_ne (by omega)]
  · rw [if_neg hw] at hs
    rw [decide_eq_false hw]
    refine ite_f ?_
    have hs : rs.map stripA = rows' := Option.some.inj hs
    exact N _ rs H u8 hR hs rfl hq
end
end Iv
/-! Iv32: count_only: its loops. -/
namespace Iv
open PySem L2 PySem.Spec PyProof.Rows
section
variable {X : Cx} {g : Cfg} {ds : List Addr} {cs : List Cell} {R pa q : Addr} {ns : List Int} {x0 : HO} {i : Nat}
theorem laters_ok (hC : CsOk g ds cs R pa ns) {rs : List RwA} {H : Hp} {σ : L2.St} {D : Ends} {a b m : Int} {S : Nat} {rowsF : List Rw}
    (hR : RS X g ds cs (some (i, x0)) rs H) (hl : 11 ≤ σ.length) (hS : S < 1000) (hi : i < S) (h1 : σ[1]? = some (some (.int (S : Int)))) (h2 : σ[2]? = some (some (.ref pa))) (h3 : σ[3]? = some (some (.ref R))) (h4 : σ[4]? = some (some (.int i))) (h5 : σ[5]? = some (some (.ref q))) (h6 : σ[6]? = some (some (.int m)))
    (hq : TupF H q [.int a, .int b]) (hs : foldO (coL ns i (a, b) m) (rs.map stripA) ((List.range (S - i)).map (· + 1)) = some rowsF)
    (N : ∀ σ' rs' H', Upto 7 σ σ' → RS X g ds cs (some (i, x0)) rs' H' → rs'.map stripA = rowsF → rs'[i]? = rs[i]? → D.nx σ' H') :
    tFor (iRng2 (tCons (tC (.int 1)) (tCons (tOp (rI0 fun i j => .int (i + j)) (tOp (rI0 fun i j => .int (i - j)) (tVar 1) (tVar 4)) (tC (.int 1))) tNil))) (gName 7) (coLater X) D σ H := by
  refine ⟨.int S, h1, .int i, h4, S, i, rfl, rfl, (S : Int) - i, 1, rfl, rfl, ?_⟩
  refine ⟨1, (S : Int) - i + 1, rfl, ⟨by omega, by omega, by omega, by omega⟩, ?_⟩
  have hn : ((S : Int) - i + 1 - 1).toNat = S - i := by omega
  show ∃ W : Nat → Nat → L2.St → Hp → Prop, _
  rw [hn]
  refine ⟨fun j m' σ' H' => j + m' = S - i ∧ Upto 7 σ σ' ∧ ∃ rs', RS X g ds cs (some (i, x0)) rs' H' ∧ rs'[i]? = rs[i]? ∧ TupF H' q [.int a, .int b] ∧ foldO (coL ns i (a, b) m) (rs'.map stripA) (((List.range (S - i)).map (· + 1)).drop j) = some rowsF,
    ⟨S - i, by omega, .refl, rs, hR, rfl, hq, by rw [List.drop_zero]; exact hs⟩, fun j m' σ' H' hW => ?_⟩
  obtain ⟨hm, hu, rs', R', e', q', hf⟩ := hW
  by_cases hj : j < S - i
  · have hx : ((List.range (S - i)).map (· + 1))[j]? = some (j + 1) := by rw [List.getElem?_map, List.getElem?_range hj]; rfl
    rw [foldO_step hx] at hf
    obtain ⟨rows1, hs1, hf⟩ := obind hf
    refine .inr ⟨hj, fun σ2 H2 => Upto 7 σ σ2 ∧ ∃ rs2, RS X g ds cs (some (i, x0)) rs2 H2 ∧ rs2[i]? = rs[i]? ∧ TupF H2 q [.int a, .int b] ∧ foldO (coL ns i (a, b) m) (rs2.map stripA) (((List.range (S - i)).map (· + 1)).drop (j + 1)) = some rowsF, fun σ2 H2 n => ⟨m' - 1, by omega, by omega, n⟩, fun x H2 y => ?_⟩
    obtain ⟨rfl, rfl⟩ := y
    have hl' : 11 ≤ σ'.length := by rw [hu.1]; exact hl
    have u7 : Upto 7 σ (σ'.set 7 (some (.int ((j + 1 : Nat) : Int)))) := hu.set (Nat.le_refl _) _
    have ex : (1 : Int) + (j : Int) = ((j + 1 : Nat) : Int) := by omega
    show coLater X _ (σ'.set 7 (some (.int (1 + (j : Int))))) H2
    rw [ex]
    refine later_ok hC R' (by rw [List.length_set]; exact hl') ((u7.2 2 (by omega)).trans h2) ((u7.2 3 (by omega)).trans h3) ((u7.2 4 (by omega)).trans h4) ((u7.2 5 (by omega)).trans h5) ((u7.2 6 (by omega)).trans h6) (List.getElem?_set_self (by omega)) (by omega) q' hs1 fun σ3 rs3 H3 u3 R3 e3 k3 q3 => ?_
    exact ⟨u7.trans (u3.mono (by omega)), rs3, R3, k3.trans e', q3, by rw [e3]; exact hf⟩
  · rw [List.drop_eq_nil_of_le (by rw [List.length_map, List.length_range]; omega)] at hf
    have hf : rs'.map stripA = rowsF := Option.some.inj hf
    exact .inl ⟨show S - i ≤ j by omega, N σ' rs' H' hu R' hf e'⟩
/-- the loop over a row's items; the row is locked -/
theorem items_ok (hC : CsOk g ds cs R pa ns) {rs : List RwA} {H : Hp} {σ : L2.St} {D : Ends} {S : Nat} {d : Addr} {r : RwA} {ob : Obj} {rowsF : List Rw}
    (hx0 : x0 = .frz ob (dN X.prog X.w d (rN r))) (hR : RS X g ds cs (some (i, x0)) rs H) (hd : ds[i]? = some d) (hr : rs[i]? = some r) (hl : 11 ≤ σ.length) (hS : S < 1000) (hi : i < S) (h1 : σ[1]? = some (some (.int (S : Int)))) (h2 : σ[2]? = some (some (.ref pa))) (h3 : σ[3]? = some (some (.ref R))) (h4 : σ[4]? = some (some (.int i)))
    (hs : foldO (coI ns S i) (rs.map stripA) (stripA r) = some rowsF)
    (N : ∀ σ' rs' H', Upto 5 σ σ' → RS X g ds cs (some (i, x0)) rs' H' → rs'.map stripA = rowsF → rs'[i]? = some r → D.nx σ' H') :
    tFor (iItemsN X.prog X.w (tOp (rIxL X.K) (tVar 3) (tVar 4))) (gTup X.K 2 (gCons (gName 5) (gCons (gName 6) gNil)))
        (tFor (iRng2 (tCons (tC (.int 1)) (tCons (tOp (rI0 fun i j => .int (i + j)) (tOp (rI0 fun i j => .int (i - j)) (tVar 1) (tVar 4)) (tC (.int 1))) tNil))) (gName 7) (coLater X)) D σ H := by
  have frzAt : ∀ {rs' H'}, RS X g ds cs (some (i, x0)) rs' H' → H' d = some (.frz ob (dN X.prog X.w d (rN r))) := fun {rs' H'} R' => by
    have hlt : i < (xsN X.prog X.w ds rs').length := by
      rw [xsN_len R'.l, ← R'.l]; exact (List.getElem?_eq_some_iff.mp hd).1
    have := R'.w.getX hd (x := x0) (List.getElem?_set_self hlt)
    rw [this, hx0]
  refine ⟨.ref R, h3, .int i, h4, R, _, (i : Int), .ref d, rfl, rfl, .inl (.inl (hC.row H _ hR.w)), atI_at (ref_at hd), d, ob, rN r, rfl, frzAt hR, ?_⟩
  refine ⟨fun j m' σ' H' => j + m' = r.length ∧ Upto 5 σ σ' ∧ ∃ rs', RS X g ds cs (some (i, x0)) rs' H' ∧ rs'[i]? = some r ∧ foldO (coI ns S i) (rs'.map stripA) ((stripA r).drop j) = some rowsF,
    ⟨r.length, by omega, .refl, rs, hR, hr, by rw [List.drop_zero]; exact hs⟩, fun j m' σ' H' hW => ?_⟩
  obtain ⟨hm, hu, rs', R', e', hf⟩ := hW
  by_cases hj : j < r.length
  · have hrj : r[j]? = some r[j] := List.getElem?_eq_getElem hj
    generalize r[j] = e at hrj
    obtain ⟨⟨a, b⟩, kq, mv⟩ := e
    have hx : (stripA r)[j]? = some ((a, b), mv) := by unfold stripA; rw [List.getElem?_map, hrj]; rfl
    rw [foldO_step hx] at hf
    obtain ⟨rows1, hs1, hf⟩ := obind hf
    have hk : TupF H' kq [.int a, .int b] := R'.k r (List.mem_of_getElem? e') _ (List.mem_of_getElem? hrj)
    refine .inr ⟨⟨frzAt R', by rw [rN_len]; exact hj⟩, fun σ2 H2 => Upto 5 σ σ2 ∧ ∃ rs2, RS X g ds cs (some (i, x0)) rs2 H2 ∧ rs2[i]? = some r ∧ foldO (coI ns S i) (rs2.map stripA) ((stripA r).drop (j + 1)) = some rowsF, fun σ2 H2 n => ⟨m' - 1, by omega, by omega, n⟩, fun x H2 y => ?_⟩
    obtain ⟨T, y, hy, rfl, nT, rfl⟩ := y
    have ey : y = (nkP (a, b), kq, .int mv) := by
      unfold rN at hy
      rw [List.getElem?_map, hrj] at hy
      exact (Option.some.inj hy).symm
    subst ey
    have R1 := R'.fresh (x := .tup [.ref kq, .int mv]) nT
    have k1 := hk.fresh (x := .tup [.ref kq, .int mv]) nT
    refine ⟨T, [.ref kq, .int mv], rfl, .inl (.inl upd_same), rfl, .ref kq, [.int mv], rfl, .int mv, [], rfl, rfl, ?_⟩
    have hl' : 11 ≤ σ'.length := by rw [hu.1]; exact hl
    have u6 : Upto 5 σ ((σ'.set 5 (some (.ref kq))).set 6 (some (.int mv))) := (hu.set (Nat.le_refl _) _).set (by omega) _
    refine laters_ok hC R1 (by rw [List.length_set, List.length_set]; exact hl') hS hi ((u6.2 1 (by omega)).trans h1) ((u6.2 2 (by omega)).trans h2) ((u6.2 3 (by omega)).trans h3) ((u6.2 4 (by omega)).trans h4) ?_ (List.getElem?_set_self (by rw [List.length_set]; omega)) k1 hs1 fun σ3 rs3 H3 u3 R3 e3 k3 => ?_
    · rw [List.getElem?_set_ne (by omega)]
      exact List.getElem?_set_self (by omega)
    · exact ⟨u6.trans (u3.mono (by omega)), rs3, R3, k3.trans e', by rw [e3]; exact hf⟩
  · rw [List.drop_eq_nil_of_le (by rw [strip_len]; omega)] at hf
    have hf : rs'.map stripA = rowsF := Option.some.inj hf
    exact .inl ⟨⟨frzAt R', by rw [rN_len]; omega⟩, N σ' rs' H' hu R' hf e'⟩
end
end Iv
/-! Iv33: count_only: its tail, whole. -/
namespace Iv
open PySem L2 PySem.Spec PyProof.Rows
theorem no_of : ∀ (n : Nat) (σ : L2.St), σ.length = n → cellsOf σ (List.replicate n none) = [] ∧ Good σ (List.replicate n none) := by
  intro n
  induction n with
  | zero => intro σ h; rw [List.length_eq_zero_iff.mp h]; exact ⟨rfl, trivial⟩
  | succ n ih =>
    intro σ h
    cases σ with
    | nil => simp at h
    | cons x σ =>
      obtain ⟨i1, i2⟩ := ih σ (by simpa using h)
      exact ⟨i1, fun z => (by cases z), i2⟩

theorem ag_of {σ σ' : L2.St} {τ : St} (hlen : σ'.length = σ.length) (lt : τ.length = σ.length) (hl : 11 ≤ σ.length) (h0 : σ'[0]? = σ[0]?) (h1 : σ'[1]? = σ[1]?)
    (gd : Good (σ.take 2) (τ.take 2)) : cellsOf σ' (τ.take 2 ++ List.replicate (τ.length - 2) none) = cellsOf (σ.take 2) (τ.take 2) ∧ Good σ' (τ.take 2 ++ List.replicate (τ.length - 2) none) := by
  obtain ⟨c, d, σ, rfl⟩ : ∃ c d σ0, σ = c :: d :: σ0 := by
    match σ, hl with
    | c :: d :: σ, _ => exact ⟨c, d, σ, rfl⟩
  obtain ⟨a', b', σ', rfl⟩ : ∃ c d σ0, σ' = c :: d :: σ0 := by
    match σ', hlen with
    | c :: d :: σ, _ => exact ⟨c, d, σ, rfl⟩
  obtain ⟨a, b, τ, rfl⟩ : ∃ c d σ0, τ = c :: d :: σ0 := by
    match τ, lt with
    | c :: d :: σ, _ => exact ⟨c, d, σ, rfl⟩
  have ea : a' = c := by simpa using h0
  have eb : b' = d := by simpa using h1
  subst ea eb
  have ln : (a :: b :: τ).length - 2 = τ.length := by simp
  have lq : σ'.length = τ.length := by
    simp only [List.length_cons] at hlen lt
    omega
  rw [ln]
  obtain ⟨n1, n2⟩ := no_of τ.length σ' lq
  have g2 : (a.isSome = true → a'.isSome = true) ∧ (b.isSome = true → b'.isSome = true) ∧ True := gd
  refine ⟨?_, g2.1, g2.2.1, n2⟩
  show cellsOf (a' :: b' :: σ') (a :: b :: List.replicate τ.length none) = cellsOf (a' :: b' :: []) (a :: b :: [])
  cases a with
  | none => cases b with
    | none => exact n1
    | some o => exact congrArg (Cell.c (b'.getD .non) o :: ·) n1
  | some o2 => cases b with
    | none => exact congrArg (Cell.c (a'.getD .non) o2 :: ·) n1
    | some o => exact congrArg (fun z => Cell.c (a'.getD .non) o2 :: Cell.c (b'.getD .non) o :: z) n1
section
variable {X : Cx} {g : Cfg} {ds : List Addr} {cs : List Cell} {R pa : Addr} {ns : List Int}
theorem mut_dN {P : Program} {w : World} {a : Addr} {kvs : List NKV} : Mut (some (dN P w a kvs)) := trivial
theorem sizes_ok (hC : CsOk g ds cs R pa ns) {rs : List RwA} {H : Hp} {σ : L2.St} {D : Ends} {S : Nat} {rowsF : List Rw}
    (hR : RS X g ds cs none rs H) (hlr : rs.length = S + 1) (hl : 11 ≤ σ.length) (hS : S < 1000) (h1 : σ[1]? = some (some (.int (S : Int)))) (h2 : σ[2]? = some (some (.ref pa))) (h3 : σ[3]? = some (some (.ref R)))
    (hs : foldO (coS ns S) (rs.map stripA) (List.range S) = some rowsF)
    (N : ∀ σ' rs' H', Upto 4 σ σ' → RS X g ds cs none rs' H' → rs'.map stripA = rowsF → rs'.length = rs.length → D.nx σ' H') :
    tFor (iRng1 (tCons (tVar 1) tNil)) (gName 4)
      (tLock (tFor (iItemsN X.prog X.w (tOp (rIxL X.K) (tVar 3) (tVar 4))) (gTup X.K 2 (gCons (gName 5) (gCons (gName 6) gNil)))
        (tFor (iRng2 (tCons (tC (.int 1)) (tCons (tOp (rI0 fun i j => .int (i + j)) (tOp (rI0 fun i j => .int (i - j)) (tVar 1) (tVar 4)) (tC (.int 1))) tNil))) (gName 7) (coLater X)))) D σ H := by
  refine ⟨.int S, h1, S, rfl, by omega, by omega, ?_⟩
  show ∃ W : Nat → Nat → L2.St → Hp → Prop, _
  rw [Int.toNat_natCast]
  refine ⟨fun j m' σ' H' => j + m' = S ∧ Upto 4 σ σ' ∧ ∃ rs', RS X g ds cs none rs' H' ∧ rs'.length = rs.length ∧ foldO (coS ns S) (rs'.map stripA) ((List.range S).drop j) = some rowsF,
    ⟨S, by omega, .refl, rs, hR, rfl, by rw [List.drop_zero]; exact hs⟩, fun j m' σ' H' hW => ?_⟩
  obtain ⟨hm, hu, rs', R', e', hf⟩ := hW
  by_cases hj : j < S
  · rw [foldO_step (List.getElem?_range hj)] at hf
    obtain ⟨rows1, hs1, hf⟩ := obind hf
    unfold coS at hs1
    obtain ⟨row, hrow, hs1⟩ := obind hs1
    rw [List.getElem?_map] at hrow
    obtain ⟨r, hr, rfl⟩ := omap hrow
    refine .inr ⟨hj, fun σ2 H2 => Upto 4 σ σ2 ∧ ∃ rs2, RS X g ds cs none rs2 H2 ∧ rs2.length = rs.length ∧ foldO (coS ns S) (rs2.map stripA) ((List.range S).drop (j + 1)) = some rowsF, fun σ2 H2 n => ⟨m' - 1, by omega, by omega, n⟩, fun x H2 y => ?_⟩
    obtain ⟨rfl, rfl⟩ := y
    have hjd : j < ds.length := by rw [R'.l, e', hlr]; omega
    have hd : ds[j]? = some ds[j] := List.getElem?_eq_getElem hjd
    generalize ds[j] = d at hd
    have hD := R'.dict (fun z x e => by cases e) hd hr
    refine ⟨d, dN X.prog X.w d (rN r), hD, mut_dN, fun od => ?_⟩
    have hjx : j < (xsN X.prog X.w ds rs').length := by rw [xsN_len R'.l, ← R'.l]; exact hjd
    have R1 : RS X g ds cs (some (j, .frz od (dN X.prog X.w d (rN r)))) rs' (upd H2 d (.frz od (dN X.prog X.w d (rN r)))) :=
      ⟨R'.l, R'.w.setX hd (xsN_get hd hr), fun r' hr' => (R'.k r' hr').other hD dN_ne⟩
    have hl' : 11 ≤ σ'.length := by rw [hu.1]; exact hl
    have u4 : Upto 4 σ (σ'.set 4 (some (.int (0 + (j : Int))))) := hu.set (Nat.le_refl _) _
    refine items_ok hC rfl R1 hd hr (by rw [List.length_set]; exact hl') hS hj ((u4.2 1 (by omega)).trans h1) ((u4.2 2 (by omega)).trans h2) ((u4.2 3 (by omega)).trans h3) ?_ hs1 fun σ3 rs3 H3 u3 R3 e3 k3 => ?_
    · rw [List.getElem?_set_self (by omega), Int.zero_add]
    · have hjx3 : j < (xsN X.prog X.w ds rs3).length := by rw [xsN_len R3.l, ← R3.l]; exact hjd
      have hfr : (xsL X ds rs3 (some (j, .frz od (dN X.prog X.w d (rN r)))))[j]? = some (.frz od (dN X.prog X.w d (rN r))) := List.getElem?_set_self hjx3
      have hfd := R3.w.getX hd hfr
      refine ⟨hfd, u4.trans (u3.mono (by omega)), rs3, ⟨R3.l, ?_, fun r' hr' => ?_⟩, ?_, by rw [e3]; exact hf⟩
      · have w4 := R3.w.setX (y := dN X.prog X.w d (rN r)) hd hfr
        have ex : (xsL X ds rs3 (some (j, .frz od (dN X.prog X.w d (rN r))))).set j (dN X.prog X.w d (rN r)) = xsN X.prog X.w ds rs3 := by
          show ((xsN X.prog X.w ds rs3).set j _).set j _ = _
          rw [List.set_set]
          have := xsN_get (P := X.prog) (w := X.w) hd k3
          apply List.ext_getElem?
          intro z
          by_cases hz : j = z
          · subst hz
            rw [List.getElem?_set_self hjx3, this]
          · rw [List.getElem?_set_ne hz]
        rw [ex] at w4
        exact w4
      · refine (R3.k r' hr').other hfd fun ob us h => ?_
        injection h with _ h2
        unfold dN at h2
        cases h2
      · have := R3.l
        have := R'.l
        omega
  · rw [List.drop_eq_nil_of_le (by rw [List.length_range]; omega)] at hf
    have hf : rs'.map stripA = rowsF := Option.some.inj hf
    exact .inl ⟨show S ≤ j by omega, N σ' rs' H' hu R' hf e'⟩
end
theorem coRead_eq (X : Cx) : coRead X = coRead X := rfl
section
variable {X : Cx} {g : Cfg} {Wx : WX} {P : List Nat}
theorem co_read (hP : ∀ i ∈ P, i < 2) {D : Ends} {σ : L2.St} {H : Hp} (h : HS g Wx P coTail D σ H) : coRead X D σ H := by
  obtain ⟨τ, ex, ow, p⟩ := h
  unfold coTail at p
  split at p
  · rename_i s op os h1 h2 h3
    split at p
    · rename_i ts ht
      split at p
      · rename_i ns hn
        split at p
        · rename_i hc
          split at p
          · rename_i total hT
            obtain ⟨c1, c2, c3, c4⟩ := and4 hc
            obtain ⟨c4, c5⟩ := and2 c4
            have c1 : 0 ≤ s := of_decide_eq_true c1
            have c2 : s < 1000 := of_decide_eq_true c2
            have c4 : os.length = s.toNat + 1 := of_decide_eq_true c4
            have c5 : 11 ≤ τ.length := of_decide_eq_true c5
            obtain ⟨S, rfl⟩ : ∃ S : Nat, s = S := ⟨s.toNat, by omega⟩
            rw [Int.toNat_natCast] at c4 hT
            have hl : 11 ≤ σ.length := by rw [ow.gd.len]; exact c5
            -- the slots
            obtain ⟨v1, e1, p1⟩ := slot_get ow.gd h1
            have ev1 : v1 = .int S := by
              have w := ow.slots.perm (p1.append_right ex)
              obtain ⟨A, r⟩ := W.rep w
              exact r
            subst ev1
            obtain ⟨v3, e3, p3⟩ := slot_get ow.gd h3
            have h2' : slot (τ.set 3 none) 2 = some op := by
              unfold slot
              rw [List.getElem?_set_ne (by omega)]
              exact h2
            obtain ⟨v2, e2, p2⟩ := slot_get (ow.gd.none 3) h2'
            obtain ⟨c0, pc, gdB⟩ := cells_take 2 ((ow.gd.none 3).none 2)
            have et : ((τ.set 3 none).set 2 none).take 2 = τ.take 2 := by
              apply List.ext_getElem?
              intro z
              rw [List.getElem?_take, List.getElem?_take]
              split
              · rw [List.getElem?_set_ne (by omega), List.getElem?_set_ne (by omega)]
              · rfl
            rw [et] at pc gdB
            have w0 : W g H (c0 ++ (.c v3 (.lst os) :: .c v2 op :: (cellsOf (σ.take 2) (τ.take 2) ++ ex))) := ow.slots.perm (by
              refine (p3.append_right ex).trans ?_
              refine (List.Perm.cons _ (p2.append_right ex)).trans ?_
              refine (List.Perm.cons _ (List.Perm.cons _ (pc.append_right ex))).trans ?_
              rw [List.append_assoc]
              refine List.Perm.trans ?_ List.perm_middle.symm
              refine List.Perm.cons _ ?_
              exact List.perm_middle.symm)
            obtain ⟨R, vs, rfl, lv, w1⟩ := w0.dropL.openL
            have eos := newDs c3
            have w2 : W g H (zipO vs (List.replicate os.length (.dct true [])) ++ (.pt R (.lst vs) :: .c v2 op :: (cellsOf (σ.take 2) (τ.take 2) ++ ex))) := by
              rw [← eos]
              exact w1.perm List.perm_middle.symm
            obtain ⟨ds, rfl, ld, w3⟩ := W.openDs lv w2
            obtain ⟨pa, rfl, _⟩ := W.ints (w3.dropL.drop) ht hn
            have hC : CsOk g ds (.pt R (.lst (ds.map .ref)) :: .c (.ref pa) op :: (cellsOf (σ.take 2) (τ.take 2) ++ ex)) R pa ns := ⟨fun H xs w => w.dropL.read, fun H xs w => by
              obtain ⟨a, ea, ha⟩ := W.ints (w.dropL.drop) ht hn
              cases ea
              exact ha⟩
            refine ⟨g, ds, _, by rw [ld]; exact w3, fun H0 w => ?_⟩
            have R0 : RS X g ds (.pt R (.lst (ds.map .ref)) :: .c (.ref pa) op :: (cellsOf (σ.take 2) (τ.take 2) ++ ex)) none (List.replicate ds.length []) H0 :=
              ⟨(List.length_replicate ..).symm, w, fun r hr => by rw [(List.mem_replicate.mp hr).2]; exact fun e he => nomatch he⟩
            -- rows[0][0, 0] = 1
            have hd0 : ds[0]? = some ds[0] := List.getElem?_eq_getElem (by omega)
            generalize ds[0] = d0 at hd0
            refine ⟨.ref R, e3, R, _, ((0 : Nat) : Int), .ref d0, rfl, rfl, .inl (.inl (hC.row H0 _ R0.w)), atI_at (ref_at hd0), by show 2 ≤ sizeLine; decide, fun q ob nq hob => ?_⟩
            have hq : TupF (upd H0 q (.frz ob (.tup [.int 0, .int 0]))) q [.int 0, .int 0] := ⟨ob, hob, upd_same⟩
            have R1 := R0.fresh (x := .frz ob (.tup [.int 0, .int 0])) nq
            have hr0 : (List.replicate ds.length ([] : RwA))[0]? = some [] := by
              rw [List.getElem?_replicate, if_pos (by omega)]
            obtain ⟨np, R2⟩ := R1.put (k := (0, 0)) (m := 1) (fun z x e => by cases e) hd0 hr0 hq (by show 0 < sizeLine; rw [sizeLine_eq]; omega)
            refine ⟨d0, _, rfl, np, ?_⟩
            -- the loops
            have est : ((List.replicate ds.length ([] : RwA)).set 0 (putAA [] (0, 0) q 1)).map stripA = (List.replicate (S + 1) ([] : Rw)).set 0 [((0, 0), 1)] := by
              rw [map_set, strip_put, List.map_replicate, ld, c4]; rfl
            unfold countRows at hT
            obtain ⟨rowsF, hF, hT⟩ := obind hT
            obtain ⟨rowS, hrowS, hT⟩ := omap hT
            refine sizes_ok hC R2 (by rw [List.length_set, List.length_replicate, ld, c4]) hl (by omega) e1 e2 e3 (by rw [est]; exact hF) fun σ' rs' H' hu R' e' elen => ?_
            -- the sum
            have lrs : rs'.length = S + 1 := by rw [elen, List.length_set, List.length_replicate, ld, c4]
            have hrS : rs'[S]? = some rs'[S] := List.getElem?_eq_getElem (by omega)
            generalize rs'[S] = rS at hrS
            have erow : stripA rS = rowS := by
              rw [← e', List.getElem?_map, hrS] at hrowS
              exact Option.some.inj hrowS
            have hdS : ds[S]? = some ds[S] := List.getElem?_eq_getElem (by omega)
            generalize ds[S] = dS at hdS
            have hDS := R'.dict (fun z x e => by cases e) hdS hrS
            refine ⟨.ref R, (hu.2 3 (by omega)).trans e3, .int S, (hu.2 1 (by omega)).trans e1, R, _, (S : Int), .ref dS, rfl, rfl, .inl (.inl (hC.row H' _ R'.w)), atI_at (ref_at hdS), dS, rN rS, rfl, hDS, fun pv npv => ?_⟩
            refine ⟨pv, dS, rN rS, rS.map (·.2.2), rfl, upd_same, by rw [upd_ne (ne_of_none hDS npv)]; exact hDS, by unfold rN; rw [List.map_map, List.map_map]; rfl, ?_⟩
            have esum : (rS.map (·.2.2)).sum = total := by
              rw [← hT, ← erow]
              unfold stripA
              rw [List.map_map]; rfl
            rw [esum]
            -- back
            have wB : W g (upd H' pv (valsO pv dS)) (cellsOf (σ.take 2) (τ.take 2) ++ ex) := (R'.w.fresh npv).dropL.drop.drop
            have hlen : σ'.length = σ.length := hu.1
            have ag : cellsOf σ' (τ.take 2 ++ List.replicate (τ.length - 2) none) = cellsOf (σ.take 2) (τ.take 2) ∧ Good σ' (τ.take 2 ++ List.replicate (τ.length - 2) none) := by
              have lt2 : τ.length = σ.length := ow.gd.len.symm
              exact ag_of hlen lt2 hl (hu.2 0 (by omega)) (hu.2 1 (by omega)) gdB
            refine p σ' (.int total) _ ⟨hlen, fun i hi => hu.2 i (by have := hP i hi; omega)⟩ (.fin ag.2 ?_)
            rw [ag.1]
            exact wB.put fun A => (rfl : V.int total = V.int total)
          · exact p.elim
        · exact p.elim
      · exact p.elim
    · exact p.elim
  · exact p.elim
end
end Iv
namespace Iv
open PySem L2 PySem.Spec PyProof.Rows
namespace Law
def top (i : Nat) : PySem.Stmt := PySem.Challenge.pw_quiremarks_k61_sequences_with_one_collat.main.body.getD i (.Pass ⟨0, 0, 0, 0⟩)
-- 0 is_whole
-- 1 check_marks
-- 2 check_sheets
-- 3 powers_to
-- 4 primes_to
-- 5 count_primes
-- 6 count_only
-- 7 _law_stream
-- 8 _law_next
-- 9 _law_is_integer
-- 10 _law_equal
-- 11 _law_parts
-- 12 law
def rows : List Row := [
  ⟨"is_whole", top 4, ["value", "low", "high"], ["value", "low", "high"], [], []⟩,
  ⟨"check_marks", top 8, ["marks"], ["marks"], [], []⟩,
  ⟨"check_sheets", top 9, ["marks", "sheets", "least"], ["marks", "sheets", "least"], [], []⟩,
  ⟨"powers_to", top 10, ["marks", "sheets", "found", "sheet"], ["marks", "sheets"], [], []⟩,
  ⟨"primes_to", top 11, ["marks", "sheets", "powers", "found", "size", "less", "inner"], ["marks", "sheets"], [], []⟩,
  ⟨"count_primes", top 12, ["marks", "sheets"], ["marks", "sheets"], [], []⟩,
  ⟨"count_only", top 13, ["marks", "sheets", "primes", "rows", "size", "last", "many", "later", "ways", "key", "row"], ["marks", "sheets"], [], []⟩,
  ⟨"_law_stream", top 15, ["_law_script"], ["_law_script"], [], []⟩,
  ⟨"_law_next", top 16, ["_law_stream_here", "_law_many", "_law_k", "_law_cell", "_law_digit"], ["_law_stream_here", "_law_many"], [], []⟩,
  ⟨"_law_is_integer", top 17, ["_law_actual"], ["_law_actual"], [], []⟩,
  ⟨"_law_equal", top 18, ["_law_actual", "_law_due", "_law_at"], ["_law_actual", "_law_due"], [], []⟩,
  ⟨"_law_parts", top 19, ["_law_sheets", "_law_rows", "_law_found", "_law_turn", "_law_longer", "_law_row", "_law_size"], ["_law_sheets"], [], []⟩,
  ⟨"law", top 20, ["_law_script", "_law_stream_here", "_law_many", "_law_sheets", "_law_primes", "_law_size", "_law_total", "_law_row", "_law_ways", "_law_at"], ["_law_script"], [], [(101, [0, 1])]⟩]
def txt : Txt := ⟨rows, ["isinstance", "int", "bool", "range", "sum", "list", "len", "abs", "str", "all", "tuple", "max"], [("MOST_MARKS", .int 26), ("MOST_SHEETS", .int 30)], [], 1000, [6]⟩
/-! ### count_only, by hand: 6 its row -/
section
variable {g : Cfg} {Γ : Nat → List O → COut} {Wx : WX} {X : Cx} {P : List Nat}
def coRow : Row := rows.getD 6 ⟨"", .Pass ⟨0, 0, 0, 0⟩, [], [], [], []⟩
def coCt : CT := coRow.ct txt.gl txt.tks
abbrev coSt (i : Nat) : Stmt := (defBody coRow.st).getD i (.Pass ⟨0, 0, 0, 0⟩)
def coPos : List Pos × List Pos := match coSt 2 with
  | .Assign _ (.ListComp (.Dict _ _ p1) _ _ p2) _ => ([p1], [p2])
  | _ => ([], [])
def coCt2 : CT := { coCt with tks := coPos.1, owns := coPos.2 }
theorem co_v (c : Ctx g Γ coCt X) {x : Str} {i : Nat} {pos : Pos} (h : cName coCt x = some (.v i)) : PE X (.Name x pos) (tVar i) := (ok_name (g := g) (Γ := Γ) (Wx := W0) c h).2.2 i rfl
theorem co_n (c : Ctx g Γ coCt X) {x : Str} {i : Nat} {pos : Pos} (h1 : ixOf coCt.N x = some i) (h2 : locB coCt.sc x = true) : PG X (.Name x pos) (gName i) :=
  pg_name c.nd (by rw [c.N]; exact ixOf_get h1) (by rw [c.sc]; exact loc_of h2) (.inl (c.fn _ rfl))
theorem co_s (c : Ctx g Γ coCt X) {x : Str} {i : Nat} {e : Expr} {te : TE} {p p2 : Pos} (h1 : ixOf coCt.N x = some i) (h2 : locB coCt.sc x = true) (hn : notComp e = true) (he : PE X e te) : PS X (.Assign [.Name x p2] e p) (tAsg te (gName i)) :=
  ps_set c.nd (by rw [c.N]; exact ixOf_get h1) (by rw [c.sc]; exact loc_of h2) he (no_swap hn) (.inl (c.fn _ rfl))
theorem co_walk (c : Ctx g Γ coCt X) (hu : X.A.units + 100 < cLine) (hp : PassesOwn (model X.prog X.w) X.A X.env X.xe) : PSs X [coSt 3, coSt 4, coSt 5] (coRead X) := by
  have v1 : ∀ {pos : Pos}, PE X (.Name "sheets" pos) (tVar 1) := co_v c (by rfl)
  have v2 : ∀ {pos : Pos}, PE X (.Name "primes" pos) (tVar 2) := co_v c (by rfl)
  have v3 : ∀ {pos : Pos}, PE X (.Name "rows" pos) (tVar 3) := co_v c (by rfl)
  have v4 : ∀ {pos : Pos}, PE X (.Name "size" pos) (tVar 4) := co_v c (by rfl)
  have v5 : ∀ {pos : Pos}, PE X (.Name "last" pos) (tVar 5) := co_v c (by rfl)
  have v6 : ∀ {pos : Pos}, PE X (.Name "many" pos) (tVar 6) := co_v c (by rfl)
  have v7 : ∀ {pos : Pos}, PE X (.Name "later" pos) (tVar 7) := co_v c (by rfl)
  have v8 : ∀ {pos : Pos}, PE X (.Name "ways" pos) (tVar 8) := co_v c (by rfl)
  have v9 : ∀ {pos : Pos}, PE X (.Name "key" pos) (tVar 9) := co_v c (by rfl)
  have v10 : ∀ {pos : Pos}, PE X (.Name "row" pos) (tVar 10) := co_v c (by rfl)
  obtain ⟨gR, mR⟩ := c.bi (x := "range") (by rfl)
  obtain ⟨gS, mS⟩ := c.bi (x := "sum") (by rfl)
  refine pss_re (pss_cons (ps_nput (by omega) (pe_ix ix_list v3 pe_int (fun _ _ => rfl)) (pe_tupF (pa_cons pe_int (pa_cons pe_int pa_nil))) pe_int rfl)
    (pss_cons (ps_for hp c.calm (pi_range1 gR mR (pa_cons v1 pa_nil)) (co_n c (by rfl) (by rfl))
      (pss_one (ps_lock (ps_for hp c.calm (pi_itemsN (pe_ix ix_list v3 v4 (fun _ _ => rfl))) (pg_tup c.calm (pgs_cons (co_n c (by rfl) (by rfl)) (pgs_cons (co_n c (by rfl) (by rfl)) pgs_nil)))
        (pss_one (ps_for hp c.calm (pi_range2 gR mR (pa_cons pe_int (pa_cons (pe_op op_add (pe_op op_sub v1 v4) pe_int) pa_nil))) (co_n c (by rfl) (by rfl))
          (pss_cons (co_s c (by rfl) (by rfl) rfl (pe_op op_sub (pe_ix ix_list v2 v7 (fun _ _ => rfl)) (pe_tupM PySem.F.slot_tuple_count PySem.F.type_tuple_count mt_tcount v5 (pa_cons v7 pa_nil))))
            (pss_one (ps_if (pt_cmpR op_gt v8 pe_int (nomark _))
              (pss_cons (co_s c (by rfl) (by rfl) rfl (pe_tupF (pa_cons (pe_ix ix_tup v5 pe_int (fun _ _ => rfl)) (pa_cons v7 pa_nil))))
                (pss_cons (co_s c (by rfl) (by rfl) rfl (pe_ix ix_list v3 (pe_op op_add v4 v7) (fun _ _ => rfl)))
                  (pss_one (ps_nput (by omega) v10 v9 (pe_op op_add (pe_nget2 (by omega) v10 v9 pe_int ⟨rfl, rfl, rfl, rfl⟩) (pe_op op_mulW v6 v8)) rfl))))
              pss_nil)))))))))
    (pss_one (ps_ret (pe_callB (cr_sumVN c.calm) gS mS boot_sum' (pa_cons (pe_valsN (pe_ix ix_list v3 v1 (fun _ _ => rfl))) pa_nil))))))
end
/-! ### count_only, by hand: whole -/
section
variable {g : Cfg} {P : Program} {w : World} {K : PySem.W.Frag} {mg : Str → Option Value} {base : Heap} {fa : Nat → Addr} {fd : Nat → FuncData}
def coA (i : Nat) : S := cS 40 (if i = 2 then coCt2 else coCt) (keptOf coRow.df0) (coSt i)
def coB (Γ : Nat → List O → COut) (τ : St) : SOut := (exec Γ 1000 (coA 0) τ).seq fun τ => (exec Γ 1000 (coA 1) τ).seq fun τ => (exec Γ 1000 (coA 2) τ).seq coTail
def prim (Γ : Nat → List O → COut) (f : Nat) (os : List O) : COut := if f == 6 then runF (coB Γ) (coRow.df txt.gl txt.tks) os else .stuck
theorem ctx2 {Γ : Nat → List O → COut} {X : Cx} (c : Ctx g Γ coCt X) : Ctx g Γ coCt2 X := ⟨c.N, c.nd, c.sc, c.K, c.hu, c.calm, fun x h => c.fn x h, c.gl⟩
theorem hand (h : Top txt g K mg fa fd) {k0 : Nat} : ∀ n f r, txt.rows[f]? = some r → txt.byHand.contains f = true → FnN txt g P w K mg base fa fd prim k0 n → FnOk P w K mg base (L2.CX P w) (k0 + n + 1) (fa f) (fd f) r.ps (spI g (prim (callD txt.wf txt.D prim n) f)) := by
  intro n f r hf hh ih
  have ef : f = 6 := by simpa [txt] using hh
  subst ef
  have er : r = coRow := by
    have e1 : txt.rows[6]? = some coRow := rfl
    rw [e1] at hf; exact (Option.some.inj hf).symm
  subst er
  obtain ⟨F, hm, hb, S⟩ := h.row 6 coRow hf
  have e : prim (callD txt.wf txt.D prim n) 6 = runF (coB (callD txt.wf txt.D prim n)) (coRow.df txt.gl txt.tks) := rfl
  rw [e]
  refine df_okF F S h.hK (fun X e1 e2 e3 e4 e5 hr x kk hl => gl_ok h ih X e1 e2 e3 e4 e5 hr x kk hl) fun X Wx c tk hp hr => ?_
  have c : Ctx g (callD txt.wf txt.D prim n) coCt X := c
  have hu : X.A.units + 100 < cLine := by
    have := hr.un
    omega
  have eb : defBody coRow.st = [coSt 0, coSt 1, coSt 2, coSt 3, coSt 4, coSt 5] := by rfl
  rw [eb]
  exact HS_cons (HS_of (ok_S c tk hp 40 (coSt 0))) (HS_cons (HS_of (ok_S c tk hp 40 (coSt 1))) (HS_cons (HS_of (ok_S (ctx2 c) tk hp 40 (coSt 2))) ((co_walk c hu hp).imp fun D σ H q => co_read (P := keptOf coRow.df0) (by decide) q)))
end
end Law
end Iv
namespace Iv
namespace Law
open PySem L2 PySem.Spec PyProof.Rows
def d0 : Df := { np := 3, nn := 3, asg := [], body := .ret (.and (.isi (.v 0) (.int)) (.and (.not (.isi (.v 0) (.bool))) (.chain (.le) (.le) (.v 1) (.v 0) (.v 2)))) } 
def d1 : Df := { np := 1, nn := 1, asg := [], body := .ite (.not (.tv (.call 0 (.cons (.v 0) (.cons (.c (.int 1)) (.cons (.c (.int 26)) .nil)))))) .bad .nop } 
def d2 : Df := { np := 3, nn := 3, asg := [], body := .seq (.ex (.call 1 (.cons (.v 0) .nil))) (.ite (.not (.tv (.call 0 (.cons (.v 1) (.cons (.v 2) (.cons (.c (.int 30)) .nil)))))) .bad .nop) } 
def d3 : Df := { np := 2, nn := 4, asg := [], body := .seq (.set (.nm 2) (.lst (.cons (.c (.int 1)) .nil))) (.seq (.for_ (.nm 3) (.rng1 (.v 1)) (.ex (.mth (.append) (.v 2) (.cons (.bin (.mul) (.ix (.v 2) (.neg (.c (.int 1)))) (.v 0)) .nil)))) (.retM 2)) } 
def d4 : Df := { np := 2, nn := 7, asg := [], body := .seq (.set (.nm 2) (.call 3 (.cons (.v 0) (.cons (.v 1) .nil)))) (.seq (.set (.nm 3) (.lst (.cons (.c (.int 0)) .nil))) (.seq (.for_ (.nm 4) (.rng2 (.c (.int 1)) (.bin (.add) (.v 1) (.c (.int 1)))) (.seq (.set (.nm 5) (.lc false (.rng2 (.c (.int 1)) (.bin (.add) (.bin (.fdiv) (.v 4) (.c (.int 2))) (.c (.int 1)))) (.nm 6) [6] (.c (.bl true)) (.bin (.mul) (.ix (.v 3) (.v 6)) (.ix (.v 2) (.bin (.sub) (.v 4) (.bin (.mul) (.c (.int 2)) (.v 6))))))) (.ex (.mth (.append) (.v 3) (.cons (.bin (.sub) (.ix (.v 2) (.v 4)) (.fn (.sum) (.cons (.v 5) .nil))) .nil))))) (.retM 3))) } 
def d5 : Df := { np := 2, nn := 2, asg := [], body := .seq (.ex (.call 2 (.cons (.v 0) (.cons (.v 1) (.cons (.c (.int 1)) .nil))))) (.ret (.ix (.call 4 (.cons (.v 0) (.cons (.v 1) .nil))) (.v 1))) } 
def d6 : Df := { np := 2, nn := 11, asg := [], body := .seq (.ex (.call 2 (.cons (.v 0) (.cons (.v 1) (.cons (.c (.int 0)) .nil))))) (.seq (.set (.nm 2) (.call 4 (.cons (.v 0) (.cons (.v 1) .nil)))) (.seq (.set (.nm 3) (.lc false (.rng1 (.bin (.add) (.v 1) (.c (.int 1)))) (.nm 4) [4] (.c (.bl true)) (.dct false .nil .nil))) (.seq .bad (.seq (.for_ (.nm 4) (.rng1 (.v 1)) .bad) .bad)))) } 
def d7 : Df := { np := 1, nn := 1, asg := [], body := .ret (.lst (.cons (.fn (.list) (.cons (.v 0) .nil)) (.cons (.c (.int 0)) (.cons (.c (.int 0)) .nil)))) } 
def d8 : Df := { np := 2, nn := 5, asg := [], body := .seq (.ite (.tv (.cmp (.eq) (.ix (.v 0) (.c (.int 1))) (.c (.int 0)))) (.seq (.set (.nm 2) (.ix (.v 0) (.c (.int 2)))) (.seq (.set (.nm 3) (.bin (.add) (.c (.int 7)) (.v 2))) (.seq (.ite (.tv (.cmp (.lt) (.v 2) (.fn (.len) (.cons (.ix (.v 0) (.c (.int 0))) .nil)))) (.set (.nm 3) (.fn (.abs) (.cons (.ix (.ix (.v 0) (.c (.int 0))) (.v 2)) .nil))) .nop) (.seq (.ite (.tv (.cmp (.lt) (.v 3) (.bin (.pow) (.c (.int 10)) (.c (.int 18))))) (.seq (.set (.nm 3) (.bin (.mod) (.fn (.int) (.cons (.bin (.add) (.bin (.add) (.bin (.mul) (.v 3) (.c (.int 48271))) (.bin (.mul) (.v 2) (.c (.int 69621)))) (.c (.int 11))) .nil)) (.c (.int 2147483647)))) (.set (.nm 3) (.bin (.add) (.bin (.mul) (.bin (.mod) (.fn (.int) (.cons (.bin (.add) (.bin (.mul) (.v 3) (.c (.int 16807))) (.c (.int 13))) .nil)) (.c (.int 2147483647))) (.c (.int 65537))) (.v 3)))) .nop) (.seq (.setI 0 (.c (.int 1)) (.v 3)) (.setI 0 (.c (.int 2)) (.bin (.add) (.v 2) (.c (.int 1))))))))) .nop) (.seq (.set (.nm 4) (.bin (.mod) (.fn (.int) (.cons (.ix (.v 0) (.c (.int 1))) .nil)) (.v 1))) (.seq (.setI 0 (.c (.int 1)) (.bin (.fdiv) (.ix (.v 0) (.c (.int 1))) (.v 1))) (.retM 4))) } 
def d9 : Df := { np := 1, nn := 1, asg := [], body := .ret (.and (.isi (.v 0) (.int)) (.not (.isi (.v 0) (.bool)))) } 
def d10 : Df := { np := 2, nn := 3, asg := [], body := .seq (.ite (.tv (.isN (.v 1))) (.ret (.isN (.v 0))) .nop) (.seq (.ite (.tv (.isi (.v 1) (.bool))) (.ret (.and (.isi (.v 0) (.bool)) (.cmp (.eq) (.v 0) (.v 1)))) .nop) (.seq (.ite (.tv (.isi (.v 1) (.int))) (.ret (.and (.call 9 (.cons (.v 0) .nil)) (.cmp (.eq) (.v 0) (.v 1)))) .nop) (.seq (.ite (.tv (.isi (.v 1) (.str))) (.ret (.and (.isi (.v 0) (.str)) (.cmp (.eq) (.v 0) (.v 1)))) .nop) (.seq (.ite (.and (.tv (.isi (.v 1) (.tuple))) (.not (.tv (.isi (.v 0) (.tuple))))) (.ret (.c (.bl false))) .nop) (.seq (.ite (.and (.tv (.isi (.v 1) (.list))) (.not (.tv (.isi (.v 0) (.list))))) (.ret (.c (.bl false))) .nop) (.seq (.ite (.tv (.cmp (.ne) (.fn (.len) (.cons (.v 0) .nil)) (.fn (.len) (.cons (.v 1) .nil)))) (.ret (.c (.bl false))) .nop) (.ret (.fn (.all) (.cons (.lc false (.rng1 (.fn (.len) (.cons (.v 1) .nil))) (.nm 2) [2] (.c (.bl true)) (.call 10 (.cons (.ix (.v 0) (.v 2)) (.cons (.ix (.v 1) (.v 2)) .nil)))) .nil))))))))) } 
def d11 : Df := { np := 1, nn := 7, asg := [], body := .seq (.set (.nm 1) (.lst (.cons (.lst .nil) .nil))) (.seq (.set (.nm 2) (.lst .nil)) (.seq (.for_ (.nm 3) (.rng1 (.v 0)) (.seq (.set (.nm 4) (.lst .nil)) (.seq (.for_ (.nm 5) (.iv (.v 1)) (.for_ (.nm 6) (.rng2 (.c (.int 1)) (.bin (.add) (.bin (.sub) (.v 0) (.fn (.sum) (.cons (.v 5) .nil))) (.c (.int 1)))) (.ite (.tv (.cmp (.eq) (.bin (.add) (.fn (.sum) (.cons (.v 5) .nil)) (.v 6)) (.v 0))) (.ex (.mth (.append) (.v 2) (.cons (.bin (.add) (.v 5) (.lst (.cons (.v 6) .nil))) .nil))) (.ex (.mth (.append) (.v 4) (.cons (.bin (.add) (.v 5) (.lst (.cons (.v 6) .nil))) .nil)))))) (.set (.nm 1) (.v 4))))) (.retM 2))) } 
def l0 : S := .set (.nm 1) (.call 7 (.cons (.v 0) .nil)) 
def l1 : S := .set (.nm 2) (.bin (.add) (.c (.int 1)) (.call 8 (.cons (.v 1) (.cons (.c (.int 5)) .nil)))) 
def l2 : S := .set (.nm 3) (.bin (.add) (.c (.int 2)) (.call 8 (.cons (.v 1) (.cons (.c (.int 6)) .nil)))) 
def l3 : S := .seq (.drop [0, 1]) (.seq (.set (.nm 4) (.bin (.add) (.lst (.cons (.c (.int 0)) .nil)) (.lc false (.rng2 (.c (.int 1)) (.bin (.add) (.v 3) (.c (.int 1)))) (.nm 5) [5] (.c (.bl true)) (.call 5 (.cons (.v 2) (.cons (.v 5) .nil)))))) (.seq (.set (.nm 6) (.c (.int 0))) (.seq (.for_ (.nm 7) (.iv (.call 11 (.cons (.v 3) .nil))) (.seq (.set (.nm 8) (.c (.int 1))) (.seq (.for_ (.nm 9) (.rng1 (.fn (.len) (.cons (.v 7) .nil))) (.set (.nm 8) (.bin (.mul) (.v 8) (.fn (.max2) (.cons (.c (.int 0)) (.cons (.bin (.sub) (.ix (.v 4) (.ix (.v 7) (.v 9))) (.mth (.count) (.sl (.v 7) (.fn (.max2) (.cons (.c (.int 0)) (.cons (.bin (.sub) (.v 9) (.c (.int 2))) .nil))) (.v 9)) (.cons (.ix (.v 7) (.v 9)) .nil))) .nil)))))) (.set (.nm 6) (.bin (.add) (.v 6) (.v 8)))))) (.ret (.call 10 (.cons (.call 6 (.cons (.v 2) (.cons (.v 3) .nil))) (.cons (.v 6) .nil))))))) 
def d12 : Df := ⟨1, 10, [], .seq l0 <| .seq l1 <| .seq l2 <| l3⟩ 
def c0 : S := .ex (.call 2 (.cons (.v 0) (.cons (.v 1) (.cons (.c (.int 0)) .nil)))) 
def c1 : S := .set (.nm 2) (.call 4 (.cons (.v 0) (.cons (.v 1) .nil))) 
def c2 : S := .set (.nm 3) (.lc true (.rng1 (.bin (.add) (.v 1) (.c (.int 1)))) (.nm 4) [4] (.c (.bl true)) (.dct true .nil .nil))
def dfs : List (Option Df) := [some d0, some d1, some d2, some d3, some d4, some d5, none, some d7, some d8, some d9, some d10, some d11, some d12]
theorem dfs_eq : ∀ f, txt.D f = (dfs[f]?).join
  | 0 => by kernel_rfl
  | 1 => by kernel_rfl
  | 2 => by kernel_rfl
  | 3 => by kernel_rfl
  | 4 => by kernel_rfl
  | 5 => by kernel_rfl
  | 6 => by kernel_rfl
  | 7 => by kernel_rfl
  | 8 => by kernel_rfl
  | 9 => by kernel_rfl
  | 10 => by kernel_rfl
  | 11 => by kernel_rfl
  | 12 => by kernel_rfl
  | n + 13 => by rfl
theorem coA0 : coA 0 = c0 := by kernel_rfl
theorem coA1 : coA 1 = c1 := by kernel_rfl
theorem coA2 : coA 2 = c2 := by kernel_rfl
def coB2 (Γ : Nat → List O → COut) (τ : St) : SOut := (exec Γ 1000 c0 τ).seq fun τ => (exec Γ 1000 c1 τ).seq fun τ => (exec Γ 1000 c2 τ).seq coTail
def prim2 (Γ : Nat → List O → COut) (f : Nat) (os : List O) : COut := if f == 6 then runF (coB2 Γ) ⟨2, 11, [], .nop⟩ os else .stuck
def CD (n f : Nat) (os : List O) : COut := callD 1000 (fun f => (dfs[f]?).join) prim2 n f os
theorem runF_eq {B : St → SOut} {d d' : Df} (h1 : d.np = d'.np) (h2 : d.nn = d'.nn) (h3 : d.asg = d'.asg) (os : List O) : runF B d os = runF B d' os := by
  have e : entry d os = entry d' os := by unfold entry; rw [h1, h2, h3]
  unfold runF
  rw [e]
  cases entry d' os with
  | none => rfl
  | some τ =>
    show COut.of d (B τ) = COut.of d' (B τ)
    cases B τ <;> simp [COut.of, outs, h1, h3]
theorem prim_eq : prim = prim2 := by
  funext Γ f os
  unfold prim prim2
  have e : coB Γ = coB2 Γ := by
    funext τ
    unfold coB coB2
    rw [coA0, coA1, coA2]
  rw [e, runF_eq (d := coRow.df txt.gl txt.tks) (d' := ⟨2, 11, [], .nop⟩) rfl rfl rfl]
theorem cd_eq (n f : Nat) (os : List O) : callD txt.wf txt.D prim n f os = CD n f os := by
  unfold CD
  rw [prim_eq, show txt.D = fun f => (dfs[f]?).join from funext dfs_eq]
  rfl
end Law
end Iv
namespace Iv
namespace Law
open PySem L2 PySem.Spec PyProof.Rows
/-! ### the stream -/
section
variable (Γ : Nat → List O → COut) (ns : List Int) (c : Int) (k : Nat) (m : Int)
def nA2 : S := .ite (.tv (.cmp .lt (.v 2) (.fn .len (.cons (.ix (.v 0) (.c (.int 0))) .nil)))) (.set (.nm 3) (.fn .abs (.cons (.ix (.ix (.v 0) (.c (.int 0))) (.v 2)) .nil))) .nop
def nA3 : S := .ite (.tv (.cmp .lt (.v 3) (.bin .pow (.c (.int 10)) (.c (.int 18))))) (.seq (.set (.nm 3) (.bin .mod (.fn .int (.cons (.bin .add (.bin .add (.bin .mul (.v 3) (.c (.int 48271))) (.bin .mul (.v 2) (.c (.int 69621)))) (.c (.int 11))) .nil)) (.c (.int 2147483647)))) (.set (.nm 3) (.bin .add (.bin .mul (.bin .mod (.fn .int (.cons (.bin .add (.bin .mul (.v 3) (.c (.int 16807))) (.c (.int 13))) .nil)) (.c (.int 2147483647))) (.c (.int 65537))) (.v 3)))) .nop
def nA0 : S := .ite (.tv (.cmp .eq (.ix (.v 0) (.c (.int 1))) (.c (.int 0)))) (.seq (.set (.nm 2) (.ix (.v 0) (.c (.int 2)))) (.seq (.set (.nm 3) (.bin .add (.c (.int 7)) (.v 2))) (.seq nA2 (.seq nA3 (.seq (.setI 0 (.c (.int 1)) (.v 3)) (.setI 0 (.c (.int 2)) (.bin .add (.v 2) (.c (.int 1))))))))) .nop
def nB : S := .seq (.set (.nm 4) (.bin .mod (.fn .int (.cons (.ix (.v 0) (.c (.int 1))) .nil)) (.v 1))) (.seq (.setI 0 (.c (.int 1)) (.bin .fdiv (.ix (.v 0) (.c (.int 1))) (.v 1))) (.retM 4))
theorem d8_eq : d8 = ⟨2, 5, [], .seq nA0 nB⟩ := rfl
abbrev strm (ns : List Int) (c : Int) (k : Nat) : O := .lst [.fz (.lst (ns.map .int)), .fz (.int c), .fz (.int (k : Int))]
theorem nB_ok (x y z : Option O) (hm : 0 < m) (h2 : m < 1073741824) : exec Γ 1000 nB [some (strm ns c k), some (.fz (.int m)), x, y, z] = .rt (.fz (.int (c % m))) [some (strm ns (c / m) k), some (.fz (.int m)), x, y, some (.fz (.int (c % m)))] := by
  simp [nB, exec, evalE, evalL, opd, slot, rd, rds, lift, lift2, liftS, Out.bind, Out.map, Out.s, SOut.seq, strm, O.toT1, O.isFz, O.toT, O.toTs, ixT, atT, place, fn, bin, hm, h2, setTg, take, takes, putO, move]
theorem nA2_ok (y z : Option O) (v : Int) : ∃ v', exec Γ 1000 nA2 [some (strm ns c k), some (.fz (.int m)), some (.fz (.int (k : Int))), some (.fz (.int (7 + (k : Int)))), z] = .nx [some (strm ns c k), some (.fz (.int m)), some (.fz (.int (k : Int))), some (.fz (.int v')), z] ∧ 0 ≤ v' := by
  by_cases h : k < ns.length
  · refine ⟨if ns[k] < 0 then -ns[k] else ns[k], ?_, by split <;> omega⟩
    simp [nA2, exec, evalE, evalC, evalL, opd, slot, rd, rds, lift, lift2, liftS, Out.bind, Out.map, Out.s, SOut.seq, strm, O.toT1, O.isFz, O.toT, O.toTs, ixT, atT, place, fn, bin, setTg, take, takes, putO, move, cmpT, T.truth, h]
  · refine ⟨7 + k, ?_, by omega⟩
    simp [nA2, exec, evalE, evalC, evalL, opd, slot, rd, rds, lift, lift2, liftS, Out.bind, Out.map, Out.s, SOut.seq, strm, O.toT1, O.isFz, O.toT, O.toTs, ixT, atT, place, fn, bin, setTg, take, takes, putO, move, cmpT, T.truth, h]
theorem log_lt {n : Nat} (h : n < 2 ^ 64) : n.log2 < 64 := by
  by_cases hz : n = 0
  · subst hz; decide
  · exact (Nat.log2_lt hz).mpr h
theorem mulOk_of {i j : Int} (hi : i.natAbs < 2 ^ 64) (hj : j.natAbs < 2 ^ 64) : mulOk i j = true := by
  have := log_lt hi
  have := log_lt hj
  exact decide_eq_true (by omega)
theorem nA3_ok (z : Option O) (v : Int) (hv : 0 ≤ v) (hk : k < 1000000) : ∃ v', exec Γ 1000 nA3 [some (strm ns c k), some (.fz (.int m)), some (.fz (.int (k : Int))), some (.fz (.int v)), z] = .nx [some (strm ns c k), some (.fz (.int m)), some (.fz (.int (k : Int))), some (.fz (.int v')), z] := by
  by_cases h : v < 1000000000000000000
  · have m1 : mulOk v 48271 = true := mulOk_of (by omega) (by decide)
    have m2 : mulOk (k : Int) 69621 = true := mulOk_of (by omega) (by decide)
    have h0 := Int.emod_nonneg (v * 48271 + (k : Int) * 69621 + 11) (b := 2147483647) (by decide)
    have h1 := Int.emod_lt_of_pos (v * 48271 + (k : Int) * 69621 + 11) (b := 2147483647) (by decide)
    generalize e1 : (v * 48271 + (k : Int) * 69621 + 11) % 2147483647 = v1 at h0 h1
    have m3 : mulOk v1 16807 = true := mulOk_of (by omega) (by decide)
    have h2 := Int.emod_nonneg (v1 * 16807 + 13) (b := 2147483647) (by decide)
    have h3 := Int.emod_lt_of_pos (v1 * 16807 + 13) (b := 2147483647) (by decide)
    generalize e2 : (v1 * 16807 + 13) % 2147483647 = v2 at h2 h3
    have m4 : mulOk v2 65537 = true := mulOk_of (by omega) (by decide)
    refine ⟨v2 * 65537 + v1, ?_⟩
    simp [nA3, exec, evalE, evalC, evalL, opd, slot, rd, rds, lift, lift2, liftS, Out.bind, Out.map, Out.s, SOut.seq, strm, O.toT1, O.isFz, O.toT, O.toTs, ixT, atT, place, fn, bin, setTg, take, takes, putO, move, cmpT, T.truth, h, m1, m2, m3, m4, e1, e2]
  · refine ⟨v, ?_⟩
    simp [nA3, exec, evalE, evalC, evalL, opd, slot, rd, rds, lift, lift2, liftS, Out.bind, Out.map, Out.s, SOut.seq, strm, O.toT1, O.isFz, O.toT, O.toTs, ixT, atT, place, fn, bin, setTg, take, takes, putO, move, cmpT, T.truth, h]
theorem nA0_ok (hk : k < 1000000) : ∃ c' k' x y, exec Γ 1000 nA0 [some (strm ns c k), some (.fz (.int m)), none, none, none] = .nx [some (strm ns c' k'), some (.fz (.int m)), x, y, none] ∧ k' ≤ k + 1 := by
  by_cases h : c = 0
  · subst h
    obtain ⟨v1, e1, h1⟩ := nA2_ok Γ ns 0 k m none none 0
    obtain ⟨v2, e2⟩ := nA3_ok Γ ns 0 k m none v1 h1 hk
    refine ⟨v2, k + 1, some (.fz (.int k)), some (.fz (.int v2)), ?_, Nat.le_refl _⟩
    unfold strm at e1 e2
    simp [nA0, exec, evalE, evalC, evalL, opd, slot, rd, rds, lift, lift2, liftS, Out.bind, Out.map, Out.s, SOut.seq, strm, O.toT1, O.isFz, O.toT, O.toTs, ixT, atT, place, fn, bin, setTg, take, takes, putO, move, cmpT, T.truth, T.simple, T.eqv, e1, e2]
  · refine ⟨c, k, none, none, ?_, by omega⟩
    simp [nA0, exec, evalE, evalC, evalL, opd, slot, rd, rds, lift, lift2, liftS, Out.bind, Out.map, Out.s, SOut.seq, strm, O.toT1, O.isFz, O.toT, O.toTs, ixT, atT, place, fn, bin, setTg, take, takes, putO, move, cmpT, T.truth, T.simple, T.eqv, h]
theorem next_ok (hk : k < 1000000) (hm : 0 < m) (h2 : m < 1073741824) : ∃ d c' k', runD Γ 1000 d8 [strm ns c k, .fz (.int m)] = .ok (.fz (.int d)) [some (strm ns c' k'), some (.fz (.int m))] ∧ 0 ≤ d ∧ d < m ∧ k' ≤ k + 1 := by
  obtain ⟨c1, k1, x, y, e, hk1⟩ := nA0_ok Γ ns c k m hk
  refine ⟨c1 % m, c1 / m, k1, ?_, Int.emod_nonneg _ (by omega), Int.emod_lt_of_pos _ hm, hk1⟩
  have e2 := nB_ok Γ ns c1 k1 m x y none hm h2
  rw [d8_eq]
  have en : entry ⟨2, 5, [], .seq nA0 nB⟩ [strm ns c k, .fz (.int m)] = some [some (strm ns c k), some (.fz (.int m)), none, none, none] := rfl
  unfold runD
  rw [en]
  have es : exec Γ 1000 (.seq nA0 nB) [some (strm ns c k), some (.fz (.int m)), none, none, none] = .rt (.fz (.int (c1 % m))) [some (strm ns (c1 / m) k1), some (.fz (.int m)), x, y, some (.fz (.int (c1 % m)))] := by
    show (exec Γ 1000 nA0 _).seq (exec Γ 1000 nB) = _
    rw [e]
    exact e2
  show COut.of _ (exec Γ 1000 (.seq nA0 nB) _) = _
  rw [es]
  rfl
end
/-! ### the law itself -/
theorem toTs_fz : ∀ ts : List T, O.toTs (ts.map .fz) = some ts
  | [] => rfl
  | t :: ts => by
    show (do let t ← O.toT (.fz t); let ts ← O.toTs (ts.map .fz); some (t :: ts)) = _
    rw [toTs_fz ts]; rfl
theorem toT_fzs (ts : List T) : O.toT (fzs ts) = some (.lst ts) := by
  show (O.toTs (ts.map O.fz)).map T.lst = _
  rw [toTs_fz]; rfl
def chk (s : SOut) : Bool := match s with
  | .rt (.fz (.bl true)) _ => true
  | _ => false
def tau (m s : Int) : Iv.St := [none, none, some (.fz (.int m)), some (.fz (.int s)), none, none, none, none, none, none]
theorem big : ((List.range 5).all fun d => (List.range 6).all fun e => chk (exec (CD 5) 1000 l3 (tau (1 + (d : Nat)) (2 + (e : Nat))))) = true := by decide +kernel
theorem drop_eq (Γ : Nat → List O → COut) (a b c d : Option O) : exec Γ 1000 l3 [a, b, c, d, none, none, none, none, none, none] = exec Γ 1000 l3 [none, none, c, d, none, none, none, none, none, none] := rfl
theorem law_end (a b : Option O) (d e : Int) (h1 : 0 ≤ d) (h2 : d < 5) (h3 : 0 ≤ e) (h4 : e < 6) : ∃ τ, exec (CD 5) 1000 l3 [a, b, some (.fz (.int (1 + d))), some (.fz (.int (2 + e))), none, none, none, none, none, none] = .rt (.fz (.bl true)) τ := by
  rw [drop_eq]
  have hb := List.all_eq_true.mp big d.toNat (List.mem_range.mpr (by omega))
  have hc := List.all_eq_true.mp hb e.toNat (List.mem_range.mpr (by omega))
  rw [show ((d.toNat : Nat) : Int) = d by omega, show ((e.toNat : Nat) : Int) = e by omega] at hc
  show ∃ τ, exec (CD 5) 1000 l3 (tau (1 + d) (2 + e)) = .rt (.fz (.bl true)) τ
  generalize exec (CD 5) 1000 l3 (tau (1 + d) (2 + e)) = r at hc
  match r, hc with
  | .rt (.fz (.bl true)) τ, _ => exact ⟨τ, rfl⟩
theorem law_ok (ns : List Int) : ∃ as, CD 6 12 [.fz (.scr ns)] = .ok (.fz (.bl true)) as := by
  obtain ⟨d, c1, k1, e1, h1, h2, hk1⟩ := next_ok (CD 4) ns 0 0 5 (by decide) (by decide) (by decide)
  obtain ⟨e, c2, k2, e2, h3, h4, hk2⟩ := next_ok (CD 4) ns c1 k1 6 (by omega) (by decide) (by decide)
  have g1 : CD 5 8 [strm ns 0 0, .fz (.int 5)] = _ := e1
  have g2 : CD 5 8 [strm ns c1 k1, .fz (.int 6)] = _ := e2
  have g0 : CD 5 7 [.fz (.scr ns)] = .ok (strm ns 0 0) [some (.fz (.scr ns))] := by
    show runD (CD 4) 1000 d7 [.fz (.scr ns)] = _
    have h3 : 3 ≤ sizeT := by decide
    simp [d7, runD, entry, outs, wipes, COut.of, exec, evalE, evalL, opd, slot, rd, rds, lift, lift2, liftS, Out.bind, Out.map, Out.s, SOut.seq, strm, O.toT1, O.isFz, O.toT, O.toTs, fn, take, takes, toT_fzs, h3]
    simp [fzs]
  obtain ⟨τ, e3⟩ := law_end (some (.fz (.scr ns))) (some (strm ns c2 k2)) d e h1 h2 h3 h4
  have s0 : exec (CD 5) 1000 l0 [some (.fz (.scr ns)), none, none, none, none, none, none, none, none, none] = .nx [some (.fz (.scr ns)), some (strm ns 0 0), none, none, none, none, none, none, none, none] := by
    simp [l0, exec, evalE, evalL, opd, slot, lift, lift2, liftS, Out.bind, Out.map, Out.s, runCall, moves, move, g0, back, setTg, O.isFz]
  have s1 : exec (CD 5) 1000 l1 [some (.fz (.scr ns)), some (strm ns 0 0), none, none, none, none, none, none, none, none] = .nx [some (.fz (.scr ns)), some (strm ns c1 k1), some (.fz (.int (1 + d))), none, none, none, none, none, none, none] := by
    have g1 : CD 5 8 [.lst [.fz (.lst (ns.map .int)), .fz (.int 0), .fz (.int 0)], .fz (.int 5)] = .ok (.fz (.int d)) [some (strm ns c1 k1), some (.fz (.int 5))] := g1
    unfold strm at g1
    simp [l1, exec, evalE, evalL, opd, slot, lift, lift2, liftS, Out.bind, Out.map, Out.s, runCall, moves, move, g1, back, setTg, O.isFz, strm, rd, O.toT1, bin]
  have s2 : exec (CD 5) 1000 l2 [some (.fz (.scr ns)), some (strm ns c1 k1), some (.fz (.int (1 + d))), none, none, none, none, none, none, none] = .nx [some (.fz (.scr ns)), some (strm ns c2 k2), some (.fz (.int (1 + d))), some (.fz (.int (2 + e))), none, none, none, none, none, none] := by
    unfold strm at g2
    simp [l2, exec, evalE, evalL, opd, slot, lift, lift2, liftS, Out.bind, Out.map, Out.s, runCall, moves, move, g2, back, setTg, O.isFz, strm, rd, O.toT1, bin]
  refine ⟨outs d12 τ, ?_⟩
  show COut.of d12 ((exec (CD 5) 1000 l0 [some (.fz (.scr ns)), none, none, none, none, none, none, none, none, none]).seq fun τ => (exec (CD 5) 1000 l1 τ).seq fun τ => (exec (CD 5) 1000 l2 τ).seq fun τ => exec (CD 5) 1000 l3 τ) = _
  rw [s0]
  show COut.of d12 ((exec (CD 5) 1000 l1 _).seq fun τ => (exec (CD 5) 1000 l2 τ).seq fun τ => exec (CD 5) 1000 l3 τ) = _
  rw [s1]
  show COut.of d12 ((exec (CD 5) 1000 l2 _).seq fun τ => exec (CD 5) 1000 l3 τ) = _
  rw [s2]
  show COut.of d12 (exec (CD 5) 1000 l3 _) = _
  rw [e3]
  rfl
end Law
end Iv
namespace Iv
namespace Law
open PySem L2 PySem.Spec PyProof.Rows
abbrev g0 (K : PySem.W.Frag) : Cfg := ⟨K, fun _ => 0, fun _ => "", fun _ => []⟩
def RP (K : PySem.W.Frag) (mg : Str → Option Value) (r : Row) (a : Addr) (d : FuncData) : Prop := Fun K r.x r.x r.st a d ∧ mg r.x = some (.ref a) ∧ L2.Binds K d r.ps [] ∧ FnScope r.N r.ps (defScope r.st)
theorem rows_pick {K : PySem.W.Frag} {mg : Str → Option Value} {r0 : Row} {rs : List Row} (h : ∀ r ∈ r0 :: rs, ∃ a d, RP K mg r a d) : ∃ (fa : Nat → Addr) (fd : Nat → FuncData), ∀ f r, (r0 :: rs)[f]? = some r → RP K mg r (fa f) (fd f) := by
  have q : ∀ f : Nat, ∃ p : Addr × FuncData, ∀ r, (r0 :: rs)[f]? = some r → RP K mg r p.1 p.2 := fun f => by
    cases e : (r0 :: rs)[f]? with
    | none =>
      obtain ⟨a, d, _⟩ := h r0 List.mem_cons_self
      exact ⟨(a, d), fun r z => by cases z⟩
    | some r =>
      obtain ⟨a, d, p⟩ := h r (List.mem_of_getElem? e)
      exact ⟨(a, d), fun r' z => by cases z; exact p⟩
  exact ⟨fun f => (Classical.choose (q f)).1, fun f => (Classical.choose (q f)).2, fun f r z => Classical.choose_spec (q f) r z⟩
theorem rp_mk {K : PySem.W.Frag} {h : Heap} {mg : Str → Option Value} (X : K.In h) (G : h.Ns mainGlobals mg) {r : Row} {f : Addr} {oc : Value} {od an : Option Addr} {osl : Array (Option Value)} {kV doc pm cdv ct : Value}
    (a : PySem.W.nsIn K mainGlobals r.x = some (some (.ref f))) (l : K.lookup f = some ⟨oc, od, .func (PySem.W.fnOf r.x r.x (defArgs r.st) (defBody r.st) (defScope r.st) .none kV doc pm an cdv ct), osl⟩) (c : PySem.W.codeIn K cdv r.x = true) (k : PySem.W.keepIn K (.ref f) = true)
    (b : ∀ (kV doc pm : Value) (an : Option Addr) (cdv ct : Value) (us : List Value), us.length = r.ps.length → bindArgs (PySem.W.fnOf r.x r.x (defArgs r.st) (defBody r.st) (defScope r.st) .none kV doc pm an cdv ct) ⟨us, []⟩ = pure (r.ps.zip us)) (s : FnScope r.N r.ps (defScope r.st)) : ∃ a d, RP K mg r a d :=
  ⟨f, _, fun_mk l c k, PySem.W.mg_of X G a, (fun_mk l c k).binds b, s⟩
theorem sc0 : FnScope ["value", "low", "high"] ["value", "low", "high"] (defScope (top 4)) := ⟨rfl, rfl, rfl, by decide +kernel, rfl, by decide +kernel, by decide +kernel⟩
theorem sc1 : FnScope ["marks"] ["marks"] (defScope (top 8)) := ⟨rfl, rfl, rfl, by decide +kernel, rfl, by decide +kernel, by decide +kernel⟩
theorem sc2 : FnScope ["marks", "sheets", "least"] ["marks", "sheets", "least"] (defScope (top 9)) := ⟨rfl, rfl, rfl, by decide +kernel, rfl, by decide +kernel, by decide +kernel⟩
theorem sc3 : FnScope ["marks", "sheets", "found", "sheet"] ["marks", "sheets"] (defScope (top 10)) := ⟨rfl, rfl, rfl, by decide +kernel, rfl, by decide +kernel, by decide +kernel⟩
theorem sc4 : FnScope ["marks", "sheets", "powers", "found", "size", "less", "inner"] ["marks", "sheets"] (defScope (top 11)) := ⟨rfl, rfl, rfl, by decide +kernel, rfl, by decide +kernel, by decide +kernel⟩
theorem sc5 : FnScope ["marks", "sheets"] ["marks", "sheets"] (defScope (top 12)) := ⟨rfl, rfl, rfl, by decide +kernel, rfl, by decide +kernel, by decide +kernel⟩
theorem sc6 : FnScope ["marks", "sheets", "primes", "rows", "size", "last", "many", "later", "ways", "key", "row"] ["marks", "sheets"] (defScope (top 13)) := ⟨rfl, rfl, rfl, by decide +kernel, rfl, by decide +kernel, by decide +kernel⟩
theorem sc7 : FnScope ["_law_script"] ["_law_script"] (defScope (top 15)) := ⟨rfl, rfl, rfl, by decide +kernel, rfl, by decide +kernel, by decide +kernel⟩
theorem sc8 : FnScope ["_law_stream_here", "_law_many", "_law_k", "_law_cell", "_law_digit"] ["_law_stream_here", "_law_many"] (defScope (top 16)) := ⟨rfl, rfl, rfl, by decide +kernel, rfl, by decide +kernel, by decide +kernel⟩
theorem sc9 : FnScope ["_law_actual"] ["_law_actual"] (defScope (top 17)) := ⟨rfl, rfl, rfl, by decide +kernel, rfl, by decide +kernel, by decide +kernel⟩
theorem sc10 : FnScope ["_law_actual", "_law_due", "_law_at"] ["_law_actual", "_law_due"] (defScope (top 18)) := ⟨rfl, rfl, rfl, by decide +kernel, rfl, by decide +kernel, by decide +kernel⟩
theorem sc11 : FnScope ["_law_sheets", "_law_rows", "_law_found", "_law_turn", "_law_longer", "_law_row", "_law_size"] ["_law_sheets"] (defScope (top 19)) := ⟨rfl, rfl, rfl, by decide +kernel, rfl, by decide +kernel, by decide +kernel⟩
theorem sc12 : FnScope ["_law_script", "_law_stream_here", "_law_many", "_law_sheets", "_law_primes", "_law_size", "_law_total", "_law_row", "_law_ways", "_law_at"] ["_law_script"] (defScope (top 20)) := ⟨rfl, rfl, rfl, by decide +kernel, rfl, by decide +kernel, by decide +kernel⟩
set_option maxHeartbeats 0 in
theorem all_rows {K : PySem.W.Frag} {h : Heap} {mg : Str → Option Value} (X : K.In h) (G : h.Ns mainGlobals mg)
    {f0 : Addr} {oc0 kV0 dc0 pm0 cd0 ct0 : Value} {od0 an0 : Option Addr} {sl0 : Array (Option Value)}
    (a0 : PySem.W.nsIn K mainGlobals "is_whole" = some (some (.ref f0))) (l0 : K.lookup f0 = some ⟨oc0, od0, .func (PySem.W.fnOf "is_whole" "is_whole" (defArgs (top 4)) (defBody (top 4)) (defScope (top 4)) .none kV0 dc0 pm0 an0 cd0 ct0), sl0⟩) (c0 : PySem.W.codeIn K cd0 "is_whole" = true) (k0 : PySem.W.keepIn K (.ref f0) = true)
    {f1 : Addr} {oc1 kV1 dc1 pm1 cd1 ct1 : Value} {od1 an1 : Option Addr} {sl1 : Array (Option Value)}
    (a1 : PySem.W.nsIn K mainGlobals "check_marks" = some (some (.ref f1))) (l1 : K.lookup f1 = some ⟨oc1, od1, .func (PySem.W.fnOf "check_marks" "check_marks" (defArgs (top 8)) (defBody (top 8)) (defScope (top 8)) .none kV1 dc1 pm1 an1 cd1 ct1), sl1⟩) (c1 : PySem.W.codeIn K cd1 "check_marks" = true) (k1 : PySem.W.keepIn K (.ref f1) = true)
    {f2 : Addr} {oc2 kV2 dc2 pm2 cd2 ct2 : Value} {od2 an2 : Option Addr} {sl2 : Array (Option Value)}
    (a2 : PySem.W.nsIn K mainGlobals "check_sheets" = some (some (.ref f2))) (l2 : K.lookup f2 = some ⟨oc2, od2, .func (PySem.W.fnOf "check_sheets" "check_sheets" (defArgs (top 9)) (defBody (top 9)) (defScope (top 9)) .none kV2 dc2 pm2 an2 cd2 ct2), sl2⟩) (c2 : PySem.W.codeIn K cd2 "check_sheets" = true) (k2 : PySem.W.keepIn K (.ref f2) = true)
    {f3 : Addr} {oc3 kV3 dc3 pm3 cd3 ct3 : Value} {od3 an3 : Option Addr} {sl3 : Array (Option Value)}
    (a3 : PySem.W.nsIn K mainGlobals "powers_to" = some (some (.ref f3))) (l3 : K.lookup f3 = some ⟨oc3, od3, .func (PySem.W.fnOf "powers_to" "powers_to" (defArgs (top 10)) (defBody (top 10)) (defScope (top 10)) .none kV3 dc3 pm3 an3 cd3 ct3), sl3⟩) (c3 : PySem.W.codeIn K cd3 "powers_to" = true) (k3 : PySem.W.keepIn K (.ref f3) = true)
    {f4 : Addr} {oc4 kV4 dc4 pm4 cd4 ct4 : Value} {od4 an4 : Option Addr} {sl4 : Array (Option Value)}
    (a4 : PySem.W.nsIn K mainGlobals "primes_to" = some (some (.ref f4))) (l4 : K.lookup f4 = some ⟨oc4, od4, .func (PySem.W.fnOf "primes_to" "primes_to" (defArgs (top 11)) (defBody (top 11)) (defScope (top 11)) .none kV4 dc4 pm4 an4 cd4 ct4), sl4⟩) (c4 : PySem.W.codeIn K cd4 "primes_to" = true) (k4 : PySem.W.keepIn K (.ref f4) = true)
    {f5 : Addr} {oc5 kV5 dc5 pm5 cd5 ct5 : Value} {od5 an5 : Option Addr} {sl5 : Array (Option Value)}
    (a5 : PySem.W.nsIn K mainGlobals "count_primes" = some (some (.ref f5))) (l5 : K.lookup f5 = some ⟨oc5, od5, .func (PySem.W.fnOf "count_primes" "count_primes" (defArgs (top 12)) (defBody (top 12)) (defScope (top 12)) .none kV5 dc5 pm5 an5 cd5 ct5), sl5⟩) (c5 : PySem.W.codeIn K cd5 "count_primes" = true) (k5 : PySem.W.keepIn K (.ref f5) = true)
    {f6 : Addr} {oc6 kV6 dc6 pm6 cd6 ct6 : Value} {od6 an6 : Option Addr} {sl6 : Array (Option Value)}
    (a6 : PySem.W.nsIn K mainGlobals "count_only" = some (some (.ref f6))) (l6 : K.lookup f6 = some ⟨oc6, od6, .func (PySem.W.fnOf "count_only" "count_only" (defArgs (top 13)) (defBody (top 13)) (defScope (top 13)) .none kV6 dc6 pm6 an6 cd6 ct6), sl6⟩) (c6 : PySem.W.codeIn K cd6 "count_only" = true) (k6 : PySem.W.keepIn K (.ref f6) = true)
    {f7 : Addr} {oc7 kV7 dc7 pm7 cd7 ct7 : Value} {od7 an7 : Option Addr} {sl7 : Array (Option Value)}
    (a7 : PySem.W.nsIn K mainGlobals "_law_stream" = some (some (.ref f7))) (l7 : K.lookup f7 = some ⟨oc7, od7, .func (PySem.W.fnOf "_law_stream" "_law_stream" (defArgs (top 15)) (defBody (top 15)) (defScope (top 15)) .none kV7 dc7 pm7 an7 cd7 ct7), sl7⟩) (c7 : PySem.W.codeIn K cd7 "_law_stream" = true) (k7 : PySem.W.keepIn K (.ref f7) = true)
    {f8 : Addr} {oc8 kV8 dc8 pm8 cd8 ct8 : Value} {od8 an8 : Option Addr} {sl8 : Array (Option Value)}
    (a8 : PySem.W.nsIn K mainGlobals "_law_next" = some (some (.ref f8))) (l8 : K.lookup f8 = some ⟨oc8, od8, .func (PySem.W.fnOf "_law_next" "_law_next" (defArgs (top 16)) (defBody (top 16)) (defScope (top 16)) .none kV8 dc8 pm8 an8 cd8 ct8), sl8⟩) (c8 : PySem.W.codeIn K cd8 "_law_next" = true) (k8 : PySem.W.keepIn K (.ref f8) = true)
    {f9 : Addr} {oc9 kV9 dc9 pm9 cd9 ct9 : Value} {od9 an9 : Option Addr} {sl9 : Array (Option Value)}
    (a9 : PySem.W.nsIn K mainGlobals "_law_is_integer" = some (some (.ref f9))) (l9 : K.lookup f9 = some ⟨oc9, od9, .func (PySem.W.fnOf "_law_is_integer" "_law_is_integer" (defArgs (top 17)) (defBody (top 17)) (defScope (top 17)) .none kV9 dc9 pm9 an9 cd9 ct9), sl9⟩) (c9 : PySem.W.codeIn K cd9 "_law_is_integer" = true) (k9 : PySem.W.keepIn K (.ref f9) = true)
    {f10 : Addr} {oc10 kV10 dc10 pm10 cd10 ct10 : Value} {od10 an10 : Option Addr} {sl10 : Array (Option Value)}
    (a10 : PySem.W.nsIn K mainGlobals "_law_equal" = some (some (.ref f10))) (l10 : K.lookup f10 = some ⟨oc10, od10, .func (PySem.W.fnOf "_law_equal" "_law_equal" (defArgs (top 18)) (defBody (top 18)) (defScope (top 18)) .none kV10 dc10 pm10 an10 cd10 ct10), sl10⟩) (c10 : PySem.W.codeIn K cd10 "_law_equal" = true) (k10 : PySem.W.keepIn K (.ref f10) = true)
    {f11 : Addr} {oc11 kV11 dc11 pm11 cd11 ct11 : Value} {od11 an11 : Option Addr} {sl11 : Array (Option Value)}
    (a11 : PySem.W.nsIn K mainGlobals "_law_parts" = some (some (.ref f11))) (l11 : K.lookup f11 = some ⟨oc11, od11, .func (PySem.W.fnOf "_law_parts" "_law_parts" (defArgs (top 19)) (defBody (top 19)) (defScope (top 19)) .none kV11 dc11 pm11 an11 cd11 ct11), sl11⟩) (c11 : PySem.W.codeIn K cd11 "_law_parts" = true) (k11 : PySem.W.keepIn K (.ref f11) = true)
    {f12 : Addr} {oc12 kV12 dc12 pm12 cd12 ct12 : Value} {od12 an12 : Option Addr} {sl12 : Array (Option Value)}
    (a12 : PySem.W.nsIn K mainGlobals "law" = some (some (.ref f12))) (l12 : K.lookup f12 = some ⟨oc12, od12, .func (PySem.W.fnOf "law" "law" (defArgs (top 20)) (defBody (top 20)) (defScope (top 20)) .none kV12 dc12 pm12 an12 cd12 ct12), sl12⟩) (c12 : PySem.W.codeIn K cd12 "law" = true) (k12 : PySem.W.keepIn K (.ref f12) = true) :
    ∀ r ∈ rows, ∃ a d, RP K mg r a d := by
  unfold rows
  refine List.forall_mem_cons.mpr ⟨rp_mk X G a0 l0 c0 k0 (fun _ _ _ _ _ _ us hl => match us, hl with | [_, _, _], _ => rfl) sc0, ?_⟩
  refine List.forall_mem_cons.mpr ⟨rp_mk X G a1 l1 c1 k1 (fun _ _ _ _ _ _ us hl => match us, hl with | [_], _ => rfl) sc1, ?_⟩
  refine List.forall_mem_cons.mpr ⟨rp_mk X G a2 l2 c2 k2 (fun _ _ _ _ _ _ us hl => match us, hl with | [_, _, _], _ => rfl) sc2, ?_⟩
  refine List.forall_mem_cons.mpr ⟨rp_mk X G a3 l3 c3 k3 (fun _ _ _ _ _ _ us hl => match us, hl with | [_, _], _ => rfl) sc3, ?_⟩
  refine List.forall_mem_cons.mpr ⟨rp_mk X G a4 l4 c4 k4 (fun _ _ _ _ _ _ us hl => match us, hl with | [_, _], _ => rfl) sc4, ?_⟩
  refine List.forall_mem_cons.mpr ⟨rp_mk X G a5 l5 c5 k5 (fun _ _ _ _ _ _ us hl => match us, hl with | [_, _], _ => rfl) sc5, ?_⟩
  refine List.forall_mem_cons.mpr ⟨rp_mk X G a6 l6 c6 k6 (fun _ _ _ _ _ _ us hl => match us, hl with | [_, _], _ => rfl) sc6, ?_⟩
  refine List.forall_mem_cons.mpr ⟨rp_mk X G a7 l7 c7 k7 (fun _ _ _ _ _ _ us hl => match us, hl with | [_], _ => rfl) sc7, ?_⟩
  refine List.forall_mem_cons.mpr ⟨rp_mk X G a8 l8 c8 k8 (fun _ _ _ _ _ _ us hl => match us, hl with | [_, _], _ => rfl) sc8, ?_⟩
  refine List.forall_mem_cons.mpr ⟨rp_mk X G a9 l9 c9 k9 (fun _ _ _ _ _ _ us hl => match us, hl with | [_], _ => rfl) sc9, ?_⟩
  refine List.forall_mem_cons.mpr ⟨rp_mk X G a10 l10 c10 k10 (fun _ _ _ _ _ _ us hl => match us, hl with | [_, _], _ => rfl) sc10, ?_⟩
  refine List.forall_mem_cons.mpr ⟨rp_mk X G a11 l11 c11 k11 (fun _ _ _ _ _ _ us hl => match us, hl with | [_], _ => rfl) sc11, ?_⟩
  refine List.forall_mem_cons.mpr ⟨rp_mk X G a12 l12 c12 k12 (fun _ _ _ _ _ _ us hl => match us, hl with | [_], _ => rfl) sc12, ?_⟩
  exact fun r z => by cases z
theorem all_mk {l : PySem.W.OpenLaw} {w : World} {K : PySem.W.Frag} {h : Heap} {mg : Str → Option Value} {fa : Addr} (X : K.In h) (G : h.Ns mainGlobals mg) (hfa : mg "law" = some (.ref fa)) (hr : ∀ r ∈ rows, ∃ a d, RP K mg r a d) {t0 t1 : Tok}
    (m0 : PySem.W.nsIn K mainGlobals "MOST_MARKS" = some (some (.int 26 t0))) (m1 : PySem.W.nsIn K mainGlobals "MOST_SHEETS" = some (some (.int 30 t1)))
    (z0 : PySem.W.nsIn K mainGlobals "isinstance" = some none) (z1 : PySem.W.nsIn K mainGlobals "int" = some none) (z2 : PySem.W.nsIn K mainGlobals "bool" = some none) (z3 : PySem.W.nsIn K mainGlobals "range" = some none) (z4 : PySem.W.nsIn K mainGlobals "sum" = some none) (z5 : PySem.W.nsIn K mainGlobals "list" = some none) (z6 : PySem.W.nsIn K mainGlobals "len" = some none) (z7 : PySem.W.nsIn K mainGlobals "abs" = some none) (z8 : PySem.W.nsIn K mainGlobals "str" = some none) (z9 : PySem.W.nsIn K mainGlobals "all" = some none) (z10 : PySem.W.nsIn K mainGlobals "tuple" = some none) (z11 : PySem.W.nsIn K mainGlobals "max" = some none) :
    ∃ fd : FuncData, (∀ (s : Shared) (v : Value), BindsTo s fd ⟨[v], []⟩ [("_law_script", v)]) ∧ ∀ base : Heap, K.In base → base.Ns mainGlobals mg → FnOk l.prog w K mg base (L2.CX l.prog w) 6 fa fd ["_law_script"] (spI (g0 K) (CD 6 12)) := by
  obtain ⟨fas, fds, hp⟩ := rows_pick hr
  have T : Top txt (g0 K) K mg fas fds := ⟨rfl, fun f r e => hp f r e, ?_, ?_⟩
  · have e0 : txt.rows[12]? = some (rows.getD 12 ⟨"", .Pass ⟨0, 0, 0, 0⟩, [], [], [], []⟩) := rfl
    obtain ⟨F, hm, hb, S⟩ := hp 12 _ e0
    have ef : fas 12 = fa := by
      have := hm.symm.trans hfa
      cases this; rfl
    refine ⟨fds 12, fun s v => ?_, fun base _ _ => ?_⟩
    · obtain ⟨oc, od, kV, doc, pm, an, cdv, ct, osl, e, lk, hcd⟩ := F.ex
      rw [e]
      exact .of_eq rfl
    · have q := txt_ok (P := l.prog) (w := w) (base := base) (prim := prim) (k0 := 0) T (hand T) 6 12 _ e0
      rw [ef, show callD txt.wf txt.D prim 6 12 = CD 6 12 from funext (cd_eq 6 12)] at q
      exact q
  · intro x hx
    simp only [txt, List.mem_cons, List.not_mem_nil, or_false] at hx
    rcases hx with rfl | rfl | rfl | rfl | rfl | rfl | rfl | rfl | rfl | rfl | rfl | rfl
    · exact PySem.W.mg_none_of X G z0
    · exact PySem.W.mg_none_of X G z1
    · exact PySem.W.mg_none_of X G z2
    · exact PySem.W.mg_none_of X G z3
    · exact PySem.W.mg_none_of X G z4
    · exact PySem.W.mg_none_of X G z5
    · exact PySem.W.mg_none_of X G z6
    · exact PySem.W.mg_none_of X G z7
    · exact PySem.W.mg_none_of X G z8
    · exact PySem.W.mg_none_of X G z9
    · exact PySem.W.mg_none_of X G z10
    · exact PySem.W.mg_none_of X G z11
  · intro x u hx
    simp only [txt, List.mem_cons, List.not_mem_nil, or_false, Prod.mk.injEq] at hx
    rcases hx with ⟨rfl, rfl⟩ | ⟨rfl, rfl⟩
    · exact ⟨.int 26, _, PySem.W.mg_of X G m0, ⟨_, rfl⟩, fun H A => rfl⟩
    · exact ⟨.int 30, _, PySem.W.mg_of X G m1, ⟨_, rfl⟩, fun H A => rfl⟩
end Law
end Iv
open PySem PySem.W PyProof.Rows
set_option maxHeartbeats 0 in
theorem PySem.Challenge.cw_quiremarks_k61_sequences_with_one_collat_holds : PySem.Challenge.rw_quiremarks_k61_sequences_with_one_collat.Holds := by
  w_on; o_law; k_head; (case hw => w_witness2)
  k_fill
  refine L2.walk_of (l := PySem.Challenge.rw_quiremarks_k61_sequences_with_one_collat) (n := 63) (k := 6) (x := "_law_script") (CX := fun w => L2.CX (PySem.Challenge.rw_quiremarks_k61_sequences_with_one_collat).prog w) (sp := fun w => Iv.spI (Iv.Law.g0 _) (Iv.Law.CD 6 12)) rfl (by decide) rfl ⟨rfl, by decide, by decide⟩ (fun w h Y => PySem.W.kIn_of Y) ?F (fun _ _ a ns hl _ hS => Iv.law_sp hS (Iv.Law.law_ok ns)) ?C
  case C => exact fun w H s e s' h => by obtain ⟨_, _, _, _, _, _, _, _, _, _, _, _, e⟩ := h; exact e
  case F =>
    intro w mg fa h KX G hmg
    refine' Iv.Law.all_mk KX G hmg (Iv.Law.all_rows KX G ?a0 ?l0 ?c0 ?k0 ?a1 ?l1 ?c1 ?k1 ?a2 ?l2 ?c2 ?k2 ?a3 ?l3 ?c3 ?k3 ?a4 ?l4 ?c4 ?k4 ?a5 ?l5 ?c5 ?k5 ?a6 ?l6 ?c6 ?k6 ?a7 ?l7 ?c7 ?k7 ?a8 ?l8 ?c8 ?k8 ?a9 ?l9 ?c9 ?k9 ?a10 ?l10 ?c10 ?k10 ?a11 ?l11 ?c11 ?k11 ?a12 ?l12 ?c12 ?k12) ?m0 ?m1 ?z0 ?z1 ?z2 ?z3 ?z4 ?z5 ?z6 ?z7 ?z8 ?z9 ?z10 ?z11
    (case a0 => k_is); (case l0 => k_is); (case c0 => k_is); (case k0 => k_is); (case a1 => k_is); (case l1 => k_is); (case c1 => k_is); (case k1 => k_is); (case a2 => k_is); (case l2 => k_is); (case c2 => k_is); (case k2 => k_is); (case a3 => k_is); (case l3 => k_is); (case c3 => k_is); (case k3 => k_is); (case a4 => k_is); (case l4 => k_is); (case c4 => k_is); (case k4 => k_is); (case a5 => k_is); (case l5 => k_is); (case c5 => k_is); (case k5 => k_is); (case a6 => k_is); (case l6 => k_is); (case c6 => k_is); (case k6 => k_is); (case a7 => k_is); (case l7 => k_is); (case c7 => k_is); (case k7 => k_is); (case a8 => k_is); (case l8 => k_is); (case c8 => k_is); (case k8 => k_is); (case a9 => k_is); (case l9 => k_is); (case c9 => k_is); (case k9 => k_is); (case a10 => k_is); (case l10 => k_is); (case c10 => k_is); (case k10 => k_is); (case a11 => k_is); (case l11 => k_is); (case c11 => k_is); (case k11 => k_is); (case a12 => k_is); (case l12 => k_is); (case c12 => k_is); (case k12 => k_is); (case m0 => k_is); (case m1 => k_is); (case z0 => k_is); (case z1 => k_is); (case z2 => k_is); (case z3 => k_is); (case z4 => k_is); (case z5 => k_is); (case z6 => k_is); (case z7 => k_is); (case z8 => k_is); (case z9 => k_is); (case z10 => k_is); (case z11 => k_is)
